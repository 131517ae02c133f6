/- Functions of the program by their own lists and numbers. No condition beyond those in each statement. -/
import Derived.Test.YthadcmcdbcfjaaaGreatDoorPvLbC
import Derived.Test.YthadcmcdbcfjaaaGreatDoorProg
import Derived.KernelRfl
set_option linter.unusedVariables false
set_option linter.unusedSimpArgs false
set_option maxRecDepth 100000
set_option linter.unusedVariables false
namespace Go.PV.T
open Go.Proofs
noncomputable section
open IntKind (wrap i64)
open Int (toNat)
open List (getD)
abbrev K0 : SS := .one (.str)
abbrev K1 : SS := .cons (.str) (.cons (.int .i64) (.one (.bool)))
abbrev K2 : SS := .cons (.int .i64) (.one (.bool))
abbrev K3 : SS := .cons (.str) (.cons (.bool) (.one (.row K2)))
abbrev K4 : SS := .cons (.str) (.cons (.row K1) (.cons (.row K2) (.one (.row K3))))
abbrev K5 : SS := .cons (.int .i64) (.cons (.int .i64) (.cons (.bool) (.one (.bool))))
abbrev K6 : SS := .cons (.int .i64) (.cons (.int .i64) (.one (.str)))
abbrev K7 : SS := .one (.int .u8)
abbrev Y0 := ByteArray × Bool × (List (Int × Bool))
abbrev Y1 := ByteArray × (List (ByteArray × Int × Bool)) × (List (Int × Bool)) × (List (ByteArray × Bool × (List (Int × Bool))))
abbrev Y2 := ByteArray × Int × Int × (List ByteArray)
abbrev Y3 := (List (ByteArray × Bool × (List (Int × Bool)))) × Int × Int × ByteArray × (List (ByteArray × Int × Bool)) × (List (Int × Bool)) × (List (ByteArray × Bool × (List (Int × Bool))))
abbrev Y4 := (List (ByteArray × Int × Bool)) × Int × Int × ByteArray × (List (ByteArray × Int × Bool)) × (List (Int × Bool)) × (List (ByteArray × Bool × (List (Int × Bool))))
abbrev Y5 := (List (ByteArray × Int × Bool)) × Int × Int × (List (ByteArray × Int × Bool)) × Int × Int × ByteArray × (List (ByteArray × Int × Bool)) × (List (Int × Bool)) × (List (ByteArray × Bool × (List (Int × Bool)))) × ByteArray × Int × Bool
abbrev Y6 := (List (ByteArray × Bool × (List (Int × Bool)))) × Int × Int × (List (ByteArray × Bool × (List (Int × Bool)))) × Int × Int × ByteArray × (List (ByteArray × Int × Bool)) × (List (Int × Bool)) × (List (ByteArray × Bool × (List (Int × Bool)))) × ByteArray × Bool × (List (Int × Bool))
abbrev Y7 := ByteArray × (List (ByteArray × Int × Bool)) × (List (Int × Bool)) × (List (ByteArray × Bool × (List (Int × Bool)))) × (List (Int × Bool))
abbrev Y8 := (List (Int × Bool)) × (List (Int × Bool)) × Int × Int × (List (Int × Bool)) × Int × Int × ByteArray × (List (ByteArray × Int × Bool)) × (List (Int × Bool)) × (List (ByteArray × Bool × (List (Int × Bool)))) × Int × Bool
abbrev Y9 := (List (Int × Bool)) × (List (Int × Bool)) × Int × Int × ByteArray × (List (ByteArray × Int × Bool)) × (List (Int × Bool)) × (List (ByteArray × Bool × (List (Int × Bool))))
abbrev Y10 := (List (Int × Bool)) × Int × Int × ByteArray × (List (ByteArray × Int × Bool)) × (List (Int × Bool)) × (List (ByteArray × Bool × (List (Int × Bool))))
abbrev Y11 := (List (ByteArray × (List (ByteArray × Int × Bool)) × (List (Int × Bool)) × (List (ByteArray × Bool × (List (Int × Bool))))))
abbrev Y12 := (List (ByteArray × (List (ByteArray × Int × Bool)) × (List (Int × Bool)) × (List (ByteArray × Bool × (List (Int × Bool)))))) × Int × (List (ByteArray × (List (ByteArray × Int × Bool)) × (List (Int × Bool)) × (List (ByteArray × Bool × (List (Int × Bool)))))) × Int × Int × ByteArray × (List (ByteArray × Int × Bool)) × (List (Int × Bool)) × (List (ByteArray × Bool × (List (Int × Bool)))) × Int × Bool × (List (ByteArray × (List (ByteArray × Int × Bool)) × (List (Int × Bool)) × (List (ByteArray × Bool × (List (Int × Bool)))))) × Int × Int × ByteArray × (List (ByteArray × Int × Bool)) × (List (Int × Bool)) × (List (ByteArray × Bool × (List (Int × Bool))))
abbrev Y13 := (List (ByteArray × (List (ByteArray × Int × Bool)) × (List (Int × Bool)) × (List (ByteArray × Bool × (List (Int × Bool)))))) × (List (ByteArray × (List (ByteArray × Int × Bool)) × (List (Int × Bool)) × (List (ByteArray × Bool × (List (Int × Bool)))))) × Int × Int
abbrev Y14 := (List (ByteArray × (List (ByteArray × Int × Bool)) × (List (Int × Bool)) × (List (ByteArray × Bool × (List (Int × Bool)))))) × Int × Int
abbrev Y15 := (List (Int × Int × Bool × Bool))
abbrev Y16 := (List (Int × Int × Bool × Bool)) × Int × Int
abbrev Y17 := Int × Int × Bool × Bool × Int × Int × ByteArray
abbrev Y18 := (List (Int × Int × Bool × Bool)) × (List (Int × Int × ByteArray))
abbrev Y19 := (List (Int × Int × Bool × Bool)) × (List (Int × Int × ByteArray)) × Int × Int
abbrev Y20 := (List (ByteArray × Int × Bool)) × Int × Int × (List (Int × Int × Bool × Bool))
abbrev Y21 := (List (Int × Int × ByteArray))
abbrev Y22 := (List (Int × Int × ByteArray)) × (List (Int × Int × Bool × Bool)) × Int × Int × (List (Int × Int × ByteArray))
abbrev Y23 := (List (Int × Bool)) × Int × Int × ByteArray × (List (ByteArray × Int × Bool)) × (List (Int × Bool)) × (List (ByteArray × Bool × (List (Int × Bool)))) × (List (Int × Int × Bool × Bool))
abbrev Y24 := ByteArray × (List (ByteArray × Int × Bool)) × (List (Int × Bool)) × (List (ByteArray × Bool × (List (Int × Bool)))) × Int
abbrev Y25 := (List Int) × Int × Int × Int
abbrev Y26 := Int × Int × Int × (List Int)
abbrev Y27 := ByteArray × Int × (List Int)
abbrev Y28 := (List Int) × Int × Int × Bool × Bool × Int × Int × ByteArray
abbrev Y29 := (List (Int × Int × Bool × Bool)) × (List (Int × Int × ByteArray)) × Int × Int × (List Int)
abbrev Y30 := (List (ByteArray × (List (ByteArray × Int × Bool)) × (List (Int × Bool)) × (List (ByteArray × Bool × (List (Int × Bool)))))) × Int × Int × (List (Int × Int × ByteArray))
abbrev Y31 := (List ByteArray) × ByteArray
abbrev Y32 := (List ByteArray) × ByteArray × Int
abbrev Y33 := Int × ByteArray × (List (ByteArray × Int × Bool)) × (List (Int × Bool)) × (List (ByteArray × Bool × (List (Int × Bool))))
abbrev Y34 := ByteArray × (List (ByteArray × Int × Bool)) × (List (Int × Bool)) × (List (ByteArray × Bool × (List (Int × Bool)))) × ByteArray
abbrev Y35 := ByteArray × Int × ByteArray × (List (ByteArray × Int × Bool)) × (List (Int × Bool)) × (List (ByteArray × Bool × (List (Int × Bool))))
abbrev Y36 := Int × Int × ByteArray × (List (ByteArray × Int × Bool)) × (List (Int × Bool)) × (List (ByteArray × Bool × (List (Int × Bool))))
abbrev Y37 := (List (Int × Bool)) × Int × ByteArray × (List (ByteArray × Int × Bool)) × (List (Int × Bool)) × (List (ByteArray × Bool × (List (Int × Bool))))
abbrev Y38 := (List (ByteArray × (List (ByteArray × Int × Bool)) × (List (Int × Bool)) × (List (ByteArray × Bool × (List (Int × Bool)))))) × Int × Int × Int × Bool
abbrev Y39 := (List (ByteArray × (List (ByteArray × Int × Bool)) × (List (Int × Bool)) × (List (ByteArray × Bool × (List (Int × Bool)))))) × Int
abbrev Y40 := (List (Int × Int × Bool × Bool)) × Int
abbrev Y41 := (List (Int × Int × Bool × Bool)) × (List (Int × Int × ByteArray)) × Int
abbrev Y42 := ByteArray × (List (ByteArray × Int × Bool)) × (List (Int × Bool)) × (List (ByteArray × Bool × (List (Int × Bool)))) × Int × Bool
abbrev Y43 := Int × ByteArray × (List (ByteArray × Int × Bool)) × (List (Int × Bool)) × (List (ByteArray × Bool × (List (Int × Bool)))) × (List (Int × Int × Bool × Bool))
abbrev Y44 := (List (Int × Bool)) × Int × ByteArray × (List (ByteArray × Int × Bool)) × (List (Int × Bool)) × (List (ByteArray × Bool × (List (Int × Bool)))) × (List (Int × Int × Bool × Bool))
abbrev Y45 := (List Int) × Int × Int × ByteArray
abbrev Y46 := (List (Int × Int × Bool × Bool)) × (List (Int × Int × ByteArray)) × Int × (List Int)
abbrev Y47 := (List (Int × Int × Bool × Bool)) × (List (Int × Int × ByteArray)) × Int × (List (Int × Int × ByteArray))
abbrev Y48 := Int × (List Int) × Int × Int × Int
abbrev Y49 := Int × (List Int) × Int × Int
abbrev Y50 := (List (Int × Int × ByteArray)) × Int × Int × (List Int)
abbrev Y51 := (List (ByteArray × (List (ByteArray × Int × Bool)) × (List (Int × Bool)) × (List (ByteArray × Bool × (List (Int × Bool)))))) × Int × (List (Int × Int × ByteArray))
abbrev Y52 := (List (ByteArray × (List (ByteArray × Int × Bool)) × (List (Int × Bool)) × (List (ByteArray × Bool × (List (Int × Bool)))))) × Int × (List (Int × Int × ByteArray)) × Int
abbrev Y53 := (List (Int × Int × ByteArray)) × Int × (List Int)
abbrev Y54 := ByteArray × Int × Bool × Int
abbrev Y55 := (List (ByteArray × Int × Bool)) × Int
abbrev Y56 := (List (ByteArray × Int × Bool)) × Int × Int
abbrev Y57 := ByteArray × Bool × (List (Int × Bool)) × Int
abbrev Y58 := (List (ByteArray × Bool × (List (Int × Bool)))) × Int
abbrev Y59 := (List (ByteArray × Bool × (List (Int × Bool)))) × Int × Int
abbrev Y60 := Int × Int × ByteArray × Int
abbrev Y61 := (List (Int × Int × ByteArray)) × Int
abbrev Y62 := (List (Int × Int × ByteArray)) × Int × Int
abbrev Y63 := (List (ByteArray × Int × Bool))
abbrev Y64 := (List (ByteArray × Int × Bool)) × Int × (List (ByteArray × Int × Bool))
abbrev Y65 := (List (Int × Bool)) × Int × (List (Int × Bool))
abbrev Y66 := (List (ByteArray × Bool × (List (Int × Bool))))
abbrev Y67 := (List (ByteArray × Bool × (List (Int × Bool)))) × Int × (List (ByteArray × Bool × (List (Int × Bool))))
abbrev Y68 := (List (ByteArray × (List (ByteArray × Int × Bool)) × (List (Int × Bool)) × (List (ByteArray × Bool × (List (Int × Bool)))))) × Int × (List (ByteArray × (List (ByteArray × Int × Bool)) × (List (Int × Bool)) × (List (ByteArray × Bool × (List (Int × Bool))))))
abbrev Y69 := (List (Int × Int × ByteArray)) × Int × (List (Int × Int × ByteArray))
abbrev Y70 := ByteArray × Int × Bool × ByteArray × Int × Bool
abbrev Y71 := (List (ByteArray × Int × Bool)) × (List (ByteArray × Int × Bool))
abbrev Y72 := (List (ByteArray × Int × Bool)) × (List (ByteArray × Int × Bool)) × Int
abbrev Y73 := (List (Int × Bool)) × (List (Int × Bool))
abbrev Y74 := (List (Int × Bool)) × (List (Int × Bool)) × Int
abbrev Y75 := ByteArray × Bool × (List (Int × Bool)) × ByteArray × Bool × (List (Int × Bool))
abbrev Y76 := (List (ByteArray × Bool × (List (Int × Bool)))) × (List (ByteArray × Bool × (List (Int × Bool))))
abbrev Y77 := (List (ByteArray × Bool × (List (Int × Bool)))) × (List (ByteArray × Bool × (List (Int × Bool)))) × Int
abbrev Y78 := ByteArray × (List (ByteArray × Int × Bool)) × (List (Int × Bool)) × (List (ByteArray × Bool × (List (Int × Bool)))) × ByteArray × (List (ByteArray × Int × Bool)) × (List (Int × Bool)) × (List (ByteArray × Bool × (List (Int × Bool))))
abbrev Y79 := (List (ByteArray × (List (ByteArray × Int × Bool)) × (List (Int × Bool)) × (List (ByteArray × Bool × (List (Int × Bool)))))) × (List (ByteArray × (List (ByteArray × Int × Bool)) × (List (Int × Bool)) × (List (ByteArray × Bool × (List (Int × Bool))))))
abbrev Y80 := (List (ByteArray × (List (ByteArray × Int × Bool)) × (List (Int × Bool)) × (List (ByteArray × Bool × (List (Int × Bool)))))) × (List (ByteArray × (List (ByteArray × Int × Bool)) × (List (Int × Bool)) × (List (ByteArray × Bool × (List (Int × Bool)))))) × Int
abbrev Y81 := Int × Int × ByteArray × Int × Int × ByteArray
abbrev Y82 := (List (Int × Int × ByteArray)) × (List (Int × Int × ByteArray))
abbrev Y83 := (List (Int × Int × ByteArray)) × (List (Int × Int × ByteArray)) × Int
abbrev Z5 : Int × Bool := ((0 : Int), false)
abbrev Z4 : ByteArray × Int × Bool := (ByteArray.empty, (0 : Int), false)
abbrev Z3 : Int × Int × Bool × Bool := ((0 : Int), (0 : Int), false, false)
abbrev Z2 : Int × Int × ByteArray := ((0 : Int), (0 : Int), ByteArray.empty)
abbrev Z1 : Y0 := (ByteArray.empty, false, ([] : List (Int × Bool)))
abbrev Z0 : Y1 := (ByteArray.empty, ([] : List (ByteArray × Int × Bool)), ([] : List (Int × Bool)), ([] : List (ByteArray × Bool × (List (Int × Bool)))))
noncomputable def eqts (t : Nat) : Bool := memN t []
noncomputable def tys : Nat → TyI
 | 3 => .cell (.int .i64) 0
 | 4 => .cell (.bool) 0
 | 5 => .cell (.int .u8) 0
 | 9 => .cell (.str) 0
 | 22 => .cell (.row K7) 1
 | 24 => .cell (.row K4) 88
 | 25 => .cell (.row K6) 32
 | 36 => .cell (.row K4) 88
 | 37 => .cell (.row K6) 32
 | 52 => .cell (.row K5) 24
 | 54 => .cell (.row K1) 32
 | 55 => .cell (.row K2) 16
 | 56 => .cell (.row K3) 48
 | 58 => .strct [0, 1, 2, 3] [.str, .row K1, .row K2, .row K3]
 | 71 => .cell (.row K1) 32
 | 72 => .cell (.row K2) 16
 | 73 => .cell (.row K3) 48
 | 75 => .strct [0, 1, 2, 3] [.str, .row K1, .row K2, .row K3]
 | 78 => .strct [0, 1, 2] [.int .i64, .int .i64, .str]
 | 80 => .strct [0, 1, 2] [.int .i64, .int .i64, .str]
 | 91 => .strct [0, 1, 2, 3] [.int .i64, .int .i64, .bool, .bool]
 | 96 => .strct [0, 1, 2] [.str, .bool, .row K2]
 | 104 => .strct [0, 1, 2] [.str, .int .i64, .bool]
 | 121 => .strct [0, 1] [.int .i64, .bool]
 | 128 => .cell (.row K0) 16
 | 141 => .strct [0, 1, 2] [.str, .int .i64, .bool]
 | 144 => .strct [0, 1, 2] [.str, .bool, .row K2]
 | 147 => .strct [0, 1] [.int .i64, .bool]
 | 157 => .cell (.int .u32) 0
 | _ => .no
noncomputable def strings_Split.sig : Sig := ⟨[.val false [⟨.str, 0, 0, false⟩], .val false [⟨.str, 0, 0, false⟩]], [(.one, [(.row K0, 1)])]⟩
namespace impl_in
noncomputable def m  : (Int × Int × Int) → Option Bool
 | (a0_0, a1_0, a2_0) => bif decide (a0_0 ≥ a1_0) then some (decide (a0_0 ≤ a2_0)) else some false
noncomputable def sig : Sig := ⟨[.val false [⟨.int .i64, 0, 0, false⟩], .val false [⟨.int .i64, 0, 0, false⟩], .val false [⟨.int .i64, 0, 0, false⟩]], [(.one, [(.bool, 0)])]⟩
noncomputable def hint (_ : Nat) : Hint := ⟨[], []⟩
noncomputable def join (_ : Nat) : Option Hint := none
noncomputable def body : Code := (Tryz.f64).body.getD .skip
noncomputable def rv : List ResultVar := (Tryz.f64).results.toList
noncomputable def fn : Fn := ⟨15, sig, rv, body, hint, join⟩
end impl_in
namespace impl_isLetter
noncomputable def m  : Int → Option Bool
 | a0_0 => bif decide (a0_0 ≥ 97) then some (decide (a0_0 ≤ 122)) else some false
noncomputable def sig : Sig := ⟨[.val false [⟨.int .u8, 0, 0, false⟩]], [(.one, [(.bool, 0)])]⟩
noncomputable def hint (_ : Nat) : Hint := ⟨[], []⟩
noncomputable def join (_ : Nat) : Option Hint := none
noncomputable def body : Code := (Tryz.f162).body.getD .skip
noncomputable def rv : List ResultVar := (Tryz.f162).results.toList
noncomputable def fn : Fn := ⟨9, sig, rv, body, hint, join⟩
end impl_isLetter
namespace impl_isDigit
noncomputable def m  : Int → Option Bool
 | a0_0 => bif decide (a0_0 ≥ 48) then some (decide (a0_0 ≤ 57)) else some false
noncomputable def sig : Sig := ⟨[.val false [⟨.int .u8, 0, 0, false⟩]], [(.one, [(.bool, 0)])]⟩
noncomputable def hint (_ : Nat) : Hint := ⟨[], []⟩
noncomputable def join (_ : Nat) : Option Hint := none
noncomputable def body : Code := (Tryz.f163).body.getD .skip
noncomputable def rv : List ResultVar := (Tryz.f163).results.toList
noncomputable def fn : Fn := ⟨9, sig, rv, body, hint, join⟩
end impl_isDigit
namespace impl_nameOk
noncomputable def s0 (c64 : (Int × Int × Int) → Option Bool) (c162 c163 : Int → Option Bool) (L0 : (ByteArray × Int) → Option Bool) : (ByteArray × Int) → Option Bool
 | (x0, x1) => bif decide (x1 < (ByteArray.size x0 : Int)) then bif decide (0 ≤ x1) && decide (x1 < (ByteArray.size x0 : Int)) then Option.bind (c162 ((ByteArray.get! x0 (toNat x1)).toNat : Int)) fun r1 => bif !(r1) then bif x1 == 0 then some false else bif decide (0 ≤ x1) && decide (x1 < (ByteArray.size x0 : Int)) then Option.bind (c163 ((ByteArray.get! x0 (toNat x1)).toNat : Int)) fun r2 => bif !(r2) then some false else L0 (x0, wrap i64 (x1 + 1)) else none else L0 (x0, wrap i64 (x1 + 1)) else none else Option.bind (c64 ((ByteArray.size x0 : Int), (1 : Int), (8 : Int))) fun r3 => some r3
noncomputable def ll0 : (ByteArray × Int) → LS
 | (x0, x1) => ⟨[.cv ⟨.str, x0⟩, .cv ⟨.int .i64, x1⟩], []⟩
noncomputable def m (B0 : (ByteArray × Int) → Option Bool) : ByteArray → Option Bool
 | a0_0 => B0 (a0_0, (0 : Int))
noncomputable def sig : Sig := ⟨[.val false [⟨.str, 0, 0, false⟩]], [(.one, [(.bool, 0)])]⟩
noncomputable def hint : Nat → Hint
 | 0 => ⟨[(0, .keep), (3, .keep)], []⟩
 | _ => ⟨[], []⟩
noncomputable def join (_ : Nat) : Option Hint := none
noncomputable def body : Code := (Tryz.f155).body.getD .skip
noncomputable def rv : List ResultVar := (Tryz.f155).results.toList
noncomputable def fn : Fn := ⟨29, sig, rv, body, hint, join⟩
end impl_nameOk
namespace impl_isFree
noncomputable def s0 (c155 : ByteArray → Option Bool) (L0 : Y2 → Option Bool) : Y2 → Option Bool
 | (x0, x1, x2, x3) => bif decide (x2 < x1) then bif decide (0 ≤ x2) && decide (x2 < (List.length x3 : Int)) then bif ByteArray.toList (getD x3 (toNat x2) ByteArray.empty) == ByteArray.toList x0 then some false else L0 (x0, x1, wrap i64 (x2 + 1), x3) else none else Option.bind (c155 x0) fun r2 => some r2
noncomputable def ll0 : Y2 → LS
 | (x0, x1, x2, x3) => ⟨[.cv ⟨.str, x0⟩, .ref 20 0 [] none 0, .cv ⟨.int .i64, x1⟩, .cv ⟨.int .i64, x2⟩], [⟨true, [⟨0, 0, .mk 1 ⟨.row K0, x3⟩⟩]⟩]⟩
noncomputable def m (c154 : (ByteArray × ByteArray) → Option ((List ByteArray))) (B0 : Y2 → Option Bool) : ByteArray → Option Bool
 | a0_0 => Option.bind (c154 (({ data := #[116, 97, 98, 108, 101, 32, 112, 114, 105, 109, 97, 114, 121, 32, 117, 110, 105, 113, 117, 101, 32, 105, 110, 100, 101, 120, 32, 110, 117, 108, 108, 32, 100, 101, 115, 99, 32, 105, 110, 116, 32, 110, 117, 109, 32, 116, 101, 120, 116, 32, 98, 111, 111, 108] } : ByteArray), ({ data := #[32] } : ByteArray))) fun r1 => B0 (a0_0, (List.length r1 : Int), (0 : Int), r1)
noncomputable def sig : Sig := ⟨[.val false [⟨.str, 0, 0, false⟩]], [(.one, [(.bool, 0)])]⟩
noncomputable def hint : Nat → Hint
 | 0 => ⟨[(0, .keep), (5, .own 1 K0), (6, .keep), (7, .keep)], []⟩
 | _ => ⟨[], []⟩
noncomputable def join (_ : Nat) : Option Hint := none
noncomputable def body : Code := (Tryz.f142).body.getD .skip
noncomputable def rv : List ResultVar := (Tryz.f142).results.toList
noncomputable def fn : Fn := ⟨17, sig, rv, body, hint, join⟩
end impl_isFree
namespace impl_namesOk
noncomputable def s0 (c142 : ByteArray → Option Bool) (B2 : Y3 → Option Bool) (L0 : Y4 → Option Bool) : Y4 → Option Bool
 | (x0, x1, x2, x3, x4, x5, x6) => bif decide (x2 < x1) then bif decide (0 ≤ x2) && decide (x2 < (List.length x0 : Int)) then Option.bind (c142 ((getD x0 (toNat x2) Z4).1)) fun r1 => bif !(r1) then some false else L0 (x0, x1, wrap i64 (x2 + 1), x3, x4, x5, x6) else none else B2 (x6, (List.length x6 : Int), (0 : Int), x3, x4, x5, x6)
noncomputable def ll0 : Y4 → LS
 | (x0, x1, x2, x3, x4, x5, x6) => ⟨[.addr 65 0 [] 0, .cv ⟨.row K1, x0⟩, .cv ⟨.int .i64, x1⟩, .cv ⟨.int .i64, x2⟩], [⟨false, [⟨0, 0, .mk 0 ⟨.str, x3⟩⟩, ⟨0, 0, .mk 0 ⟨.row K1, x4⟩⟩, ⟨0, 0, .mk 0 ⟨.row K2, x5⟩⟩, ⟨0, 0, .mk 0 ⟨.row K3, x6⟩⟩]⟩]⟩
noncomputable def s2 (c142 : ByteArray → Option Bool) (L2 : Y3 → Option Bool) : Y3 → Option Bool
 | (x0, x1, x2, x3, x4, x5, x6) => bif decide (x2 < x1) then bif decide (0 ≤ x2) && decide (x2 < (List.length x0 : Int)) then Option.bind (c142 ((getD x0 (toNat x2) Z1).1)) fun r2 => bif !(r2) then some false else L2 (x0, x1, wrap i64 (x2 + 1), x3, x4, x5, x6) else none else Option.bind (c142 x3) fun r3 => some r3
noncomputable def ll2 : Y3 → LS
 | (x0, x1, x2, x3, x4, x5, x6) => ⟨[.addr 65 0 [] 0, .cv ⟨.row K3, x0⟩, .cv ⟨.int .i64, x1⟩, .cv ⟨.int .i64, x2⟩], [⟨false, [⟨0, 0, .mk 0 ⟨.str, x3⟩⟩, ⟨0, 0, .mk 0 ⟨.row K1, x4⟩⟩, ⟨0, 0, .mk 0 ⟨.row K2, x5⟩⟩, ⟨0, 0, .mk 0 ⟨.row K3, x6⟩⟩]⟩]⟩
noncomputable def m (B0 : Y4 → Option Bool) : Y1 → Option Bool
 | (a0_0, a0_1, a0_2, a0_3) => B0 (a0_1, (List.length a0_1 : Int), (0 : Int), a0_0, a0_1, a0_2, a0_3)
noncomputable def sig : Sig := ⟨[.val true [⟨.str, 0, 0, false⟩, ⟨.row K1, 0, 0, false⟩, ⟨.row K2, 0, 0, false⟩, ⟨.row K3, 0, 0, false⟩]], [(.one, [(.bool, 0)])]⟩
noncomputable def hint : Nat → Hint
 | 0 => ⟨[(1, .keep), (8, .keep), (9, .keep), (10, .keep)], [(65, [0, 0, 0, 0])]⟩
 | 2 => ⟨[(1, .keep), (20, .keep), (21, .keep), (22, .keep)], [(65, [0, 0, 0, 0])]⟩
 | _ => ⟨[], []⟩
noncomputable def join (_ : Nat) : Option Hint := none
noncomputable def body : Code := (Tryz.f106).body.getD .skip
noncomputable def rv : List ResultVar := (Tryz.f106).results.toList
noncomputable def fn : Fn := ⟨34, sig, rv, body, hint, join⟩
end impl_namesOk
namespace impl_twice
noncomputable def s0 (B2 : Y5 → Option Bool) (B4 : Y3 → Option Bool) (L0 : Y4 → Option Bool) : Y4 → Option Bool
 | (x0, x1, x2, x3, x4, x5, x6) => bif decide (x2 < x1) then bif decide (0 ≤ x2) && decide (x2 < (List.length x0 : Int)) then bif decide (0 ≤ 0) && decide ((0 : Int) ≤ x2) && decide (x2 ≤ (List.length x4 : Int)) then B2 (x0, x1, x2, List.drop (toNat (0 : Int)) (List.take (toNat x2) x4), (List.length (List.drop (toNat (0 : Int)) (List.take (toNat x2) x4)) : Int), (0 : Int), x3, x4, x5, x6, (getD x0 (toNat x2) Z4).1, (getD x0 (toNat x2) Z4).2.1, (getD x0 (toNat x2) Z4).2.2) else none else none else B4 (x6, (List.length x6 : Int), (0 : Int), x3, x4, x5, x6)
noncomputable def ll0 : Y4 → LS
 | (x0, x1, x2, x3, x4, x5, x6) => ⟨[.addr 65 0 [] 0, .cv ⟨.row K1, x0⟩, .cv ⟨.int .i64, x1⟩, .cv ⟨.int .i64, x2⟩], [⟨false, [⟨0, 0, .mk 0 ⟨.str, x3⟩⟩, ⟨0, 0, .mk 0 ⟨.row K1, x4⟩⟩, ⟨0, 0, .mk 0 ⟨.row K2, x5⟩⟩, ⟨0, 0, .mk 0 ⟨.row K3, x6⟩⟩]⟩]⟩
noncomputable def s2 (L0 : Y4 → Option Bool) (L2 : Y5 → Option Bool) : Y5 → Option Bool
 | (x0, x1, x2, x3, x4, x5, x6, x7, x8, x9, x10, x11, x12) => bif decide (x5 < x4) then bif decide (0 ≤ x5) && decide (x5 < (List.length x3 : Int)) then bif ByteArray.toList ((getD x3 (toNat x5) Z4).1) == ByteArray.toList x10 then some true else L2 (x0, x1, x2, x3, x4, wrap i64 (x5 + 1), x6, x7, x8, x9, x10, x11, x12) else none else L0 (x0, x1, wrap i64 (x2 + 1), x6, x7, x8, x9)
noncomputable def ll2 : Y5 → LS
 | (x0, x1, x2, x3, x4, x5, x6, x7, x8, x9, x10, x11, x12) => ⟨[.addr 65 0 [] 0, .addr 257 0 [] 0, .cv ⟨.row K1, x0⟩, .cv ⟨.int .i64, x1⟩, .cv ⟨.int .i64, x2⟩, .cv ⟨.row K1, x3⟩, .cv ⟨.int .i64, x4⟩, .cv ⟨.int .i64, x5⟩], [⟨false, [⟨0, 0, .mk 0 ⟨.str, x6⟩⟩, ⟨0, 0, .mk 0 ⟨.row K1, x7⟩⟩, ⟨0, 0, .mk 0 ⟨.row K2, x8⟩⟩, ⟨0, 0, .mk 0 ⟨.row K3, x9⟩⟩]⟩, ⟨false, [⟨0, 0, .mk 0 ⟨.str, x10⟩⟩, ⟨0, 0, .mk 0 ⟨.int .i64, x11⟩⟩, ⟨0, 0, .mk 0 ⟨.bool, x12⟩⟩]⟩]⟩
noncomputable def s4 (B6 : Y6 → Option Bool) (L4 : Y3 → Option Bool) : Y3 → Option Bool
 | (x0, x1, x2, x3, x4, x5, x6) => bif decide (x2 < x1) then bif decide (0 ≤ x2) && decide (x2 < (List.length x0 : Int)) then bif decide (0 ≤ 0) && decide ((0 : Int) ≤ x2) && decide (x2 ≤ (List.length x6 : Int)) then B6 (x0, x1, x2, List.drop (toNat (0 : Int)) (List.take (toNat x2) x6), (List.length (List.drop (toNat (0 : Int)) (List.take (toNat x2) x6)) : Int), (0 : Int), x3, x4, x5, x6, (getD x0 (toNat x2) Z1).1, (getD x0 (toNat x2) Z1).2.1, (getD x0 (toNat x2) Z1).2.2) else none else none else some false
noncomputable def ll4 : Y3 → LS
 | (x0, x1, x2, x3, x4, x5, x6) => ⟨[.addr 65 0 [] 0, .cv ⟨.row K3, x0⟩, .cv ⟨.int .i64, x1⟩, .cv ⟨.int .i64, x2⟩], [⟨false, [⟨0, 0, .mk 0 ⟨.str, x3⟩⟩, ⟨0, 0, .mk 0 ⟨.row K1, x4⟩⟩, ⟨0, 0, .mk 0 ⟨.row K2, x5⟩⟩, ⟨0, 0, .mk 0 ⟨.row K3, x6⟩⟩]⟩]⟩
noncomputable def s6 (L4 : Y3 → Option Bool) (L6 : Y6 → Option Bool) : Y6 → Option Bool
 | (x0, x1, x2, x3, x4, x5, x6, x7, x8, x9, x10, x11, x12) => bif decide (x5 < x4) then bif decide (0 ≤ x5) && decide (x5 < (List.length x3 : Int)) then bif ByteArray.toList ((getD x3 (toNat x5) Z1).1) == ByteArray.toList x10 then some true else L6 (x0, x1, x2, x3, x4, wrap i64 (x5 + 1), x6, x7, x8, x9, x10, x11, x12) else none else L4 (x0, x1, wrap i64 (x2 + 1), x6, x7, x8, x9)
noncomputable def ll6 : Y6 → LS
 | (x0, x1, x2, x3, x4, x5, x6, x7, x8, x9, x10, x11, x12) => ⟨[.addr 65 0 [] 0, .addr 513 0 [] 0, .cv ⟨.row K3, x0⟩, .cv ⟨.int .i64, x1⟩, .cv ⟨.int .i64, x2⟩, .cv ⟨.row K3, x3⟩, .cv ⟨.int .i64, x4⟩, .cv ⟨.int .i64, x5⟩], [⟨false, [⟨0, 0, .mk 0 ⟨.str, x6⟩⟩, ⟨0, 0, .mk 0 ⟨.row K1, x7⟩⟩, ⟨0, 0, .mk 0 ⟨.row K2, x8⟩⟩, ⟨0, 0, .mk 0 ⟨.row K3, x9⟩⟩]⟩, ⟨false, [⟨0, 0, .mk 0 ⟨.str, x10⟩⟩, ⟨0, 0, .mk 0 ⟨.bool, x11⟩⟩, ⟨0, 0, .mk 0 ⟨.row K2, x12⟩⟩]⟩]⟩
noncomputable def m (B0 : Y4 → Option Bool) : Y1 → Option Bool
 | (a0_0, a0_1, a0_2, a0_3) => B0 (a0_1, (List.length a0_1 : Int), (0 : Int), a0_0, a0_1, a0_2, a0_3)
noncomputable def sig : Sig := ⟨[.val true [⟨.str, 0, 0, false⟩, ⟨.row K1, 0, 0, false⟩, ⟨.row K2, 0, 0, false⟩, ⟨.row K3, 0, 0, false⟩]], [(.one, [(.bool, 0)])]⟩
noncomputable def hint : Nat → Hint
 | 0 => ⟨[(1, .keep), (12, .keep), (13, .keep), (14, .keep)], [(65, [0, 0, 0, 0])]⟩
 | 2 => ⟨[(1, .keep), (4, .keep), (12, .keep), (13, .keep), (14, .keep), (22, .keep), (23, .keep), (24, .keep)], [(65, [0, 0, 0, 0]), (257, [0, 0, 0])]⟩
 | 4 => ⟨[(1, .keep), (36, .keep), (37, .keep), (38, .keep)], [(65, [0, 0, 0, 0])]⟩
 | 6 => ⟨[(1, .keep), (8, .keep), (36, .keep), (37, .keep), (38, .keep), (46, .keep), (47, .keep), (48, .keep)], [(65, [0, 0, 0, 0]), (513, [0, 0, 0])]⟩
 | _ => ⟨[], []⟩
noncomputable def join (_ : Nat) : Option Hint := none
noncomputable def body : Code := (Tryz.f107).body.getD .skip
noncomputable def rv : List ResultVar := (Tryz.f107).results.toList
noncomputable def fn : Fn := ⟨59, sig, rv, body, hint, join⟩
end impl_twice
namespace impl_partsOk
noncomputable def s0 (c64 : (Int × Int × Int) → Option Bool) (B2 : Y8 → Option Bool) (L0 : Y9 → Option Bool) : Y9 → Option Bool
 | (x0, x1, x2, x3, x4, x5, x6, x7) => bif decide (x3 < x2) then bif decide (0 ≤ x3) && decide (x3 < (List.length x1 : Int)) then Option.bind (c64 ((getD x1 (toNat x3) Z5).1, (0 : Int), wrap i64 ((List.length x5 : Int) - 1))) fun r1 => bif !(r1) then some false else bif decide (0 ≤ 0) && decide ((0 : Int) ≤ x3) && decide (x3 ≤ (List.length x0 : Int)) then B2 (x0, x1, x2, x3, List.drop (toNat (0 : Int)) (List.take (toNat x3) x0), (List.length (List.drop (toNat (0 : Int)) (List.take (toNat x3) x0)) : Int), (0 : Int), x4, x5, x6, x7, (getD x1 (toNat x3) Z5).1, (getD x1 (toNat x3) Z5).2) else none else none else Option.bind (c64 ((List.length x0 : Int), (1 : Int), (2 : Int))) fun r2 => some r2
noncomputable def ll0 : Y9 → LS
 | (x0, x1, x2, x3, x4, x5, x6, x7) => ⟨[.cv ⟨.row K2, x0⟩, .addr 129 0 [] 0, .cv ⟨.row K2, x1⟩, .cv ⟨.int .i64, x2⟩, .cv ⟨.int .i64, x3⟩], [⟨false, [⟨0, 0, .mk 0 ⟨.str, x4⟩⟩, ⟨0, 0, .mk 0 ⟨.row K1, x5⟩⟩, ⟨0, 0, .mk 0 ⟨.row K2, x6⟩⟩, ⟨0, 0, .mk 0 ⟨.row K3, x7⟩⟩]⟩]⟩
noncomputable def s2 (L0 : Y9 → Option Bool) (L2 : Y8 → Option Bool) : Y8 → Option Bool
 | (x0, x1, x2, x3, x4, x5, x6, x7, x8, x9, x10, x11, x12) => bif decide (x6 < x5) then bif decide (0 ≤ x6) && decide (x6 < (List.length x4 : Int)) then bif ((getD x4 (toNat x6) Z5).1) == x11 then some false else L2 (x0, x1, x2, x3, x4, x5, wrap i64 (x6 + 1), x7, x8, x9, x10, x11, x12) else none else L0 (x0, x1, x2, wrap i64 (x3 + 1), x7, x8, x9, x10)
noncomputable def ll2 : Y8 → LS
 | (x0, x1, x2, x3, x4, x5, x6, x7, x8, x9, x10, x11, x12) => ⟨[.cv ⟨.row K2, x0⟩, .addr 129 0 [] 0, .addr 385 0 [] 0, .cv ⟨.row K2, x1⟩, .cv ⟨.int .i64, x2⟩, .cv ⟨.int .i64, x3⟩, .cv ⟨.row K2, x4⟩, .cv ⟨.int .i64, x5⟩, .cv ⟨.int .i64, x6⟩], [⟨false, [⟨0, 0, .mk 0 ⟨.str, x7⟩⟩, ⟨0, 0, .mk 0 ⟨.row K1, x8⟩⟩, ⟨0, 0, .mk 0 ⟨.row K2, x9⟩⟩, ⟨0, 0, .mk 0 ⟨.row K3, x10⟩⟩]⟩, ⟨false, [⟨0, 0, .mk 0 ⟨.int .i64, x11⟩⟩, ⟨0, 0, .mk 0 ⟨.bool, x12⟩⟩]⟩]⟩
noncomputable def m (B0 : Y9 → Option Bool) : Y7 → Option Bool
 | (a0_0, a0_1, a0_2, a0_3, a1_0) => B0 (a1_0, a1_0, (List.length a1_0 : Int), (0 : Int), a0_0, a0_1, a0_2, a0_3)
noncomputable def sig : Sig := ⟨[.val true [⟨.str, 0, 0, false⟩, ⟨.row K1, 0, 0, false⟩, ⟨.row K2, 0, 0, false⟩, ⟨.row K3, 0, 0, false⟩], .val false [⟨.row K2, 0, 0, false⟩]], [(.one, [(.bool, 0)])]⟩
noncomputable def hint : Nat → Hint
 | 0 => ⟨[(1, .keep), (2, .keep), (9, .keep), (10, .keep), (11, .keep)], [(129, [0, 0, 0, 0])]⟩
 | 2 => ⟨[(1, .keep), (2, .keep), (6, .keep), (9, .keep), (10, .keep), (11, .keep), (26, .keep), (27, .keep), (28, .keep)], [(129, [0, 0, 0, 0]), (385, [0, 0])]⟩
 | _ => ⟨[], []⟩
noncomputable def join (_ : Nat) : Option Hint := none
noncomputable def body : Code := (Tryz.f108).body.getD .skip
noncomputable def rv : List ResultVar := (Tryz.f108).results.toList
noncomputable def fn : Fn := ⟨42, sig, rv, body, hint, join⟩
end impl_partsOk
namespace impl_CheckDef
noncomputable def s0 (c64 : (Int × Int × Int) → Option Bool) (c107 : Y1 → Option Bool) (B2 : Y3 → Option Int) (L0 : Y4 → Option Int) : Y4 → Option Int
 | (x0, x1, x2, x3, x4, x5, x6) => bif decide (x2 < x1) then bif decide (0 ≤ x2) && decide (x2 < (List.length x0 : Int)) then Option.bind (c64 ((getD x0 (toNat x2) Z4).2.1, (1 : Int), (4 : Int))) fun r3 => bif !(r3) then some (2 : Int) else L0 (x0, x1, wrap i64 (x2 + 1), x3, x4, x5, x6) else none else Option.bind (c107 (x3, x4, x5, x6)) fun r4 => bif r4 then some (3 : Int) else bif decide ((List.length x6 : Int) > 2) then some (6 : Int) else B2 (x6, (List.length x6 : Int), (0 : Int), x3, x4, x5, x6)
noncomputable def ll0 : Y4 → LS
 | (x0, x1, x2, x3, x4, x5, x6) => ⟨[.addr 65 0 [] 0, .cv ⟨.row K1, x0⟩, .cv ⟨.int .i64, x1⟩, .cv ⟨.int .i64, x2⟩], [⟨false, [⟨0, 0, .mk 0 ⟨.str, x3⟩⟩, ⟨0, 0, .mk 0 ⟨.row K1, x4⟩⟩, ⟨0, 0, .mk 0 ⟨.row K2, x5⟩⟩, ⟨0, 0, .mk 0 ⟨.row K3, x6⟩⟩]⟩]⟩
noncomputable def s2 (c108 : Y7 → Option Bool) (B4 : Y10 → Option Int) (L2 : Y3 → Option Int) : Y3 → Option Int
 | (x0, x1, x2, x3, x4, x5, x6) => bif decide (x2 < x1) then bif decide (0 ≤ x2) && decide (x2 < (List.length x0 : Int)) then Option.bind (c108 (x3, x4, x5, x6, (getD x0 (toNat x2) Z1).2.2)) fun r5 => bif !(r5) then some (5 : Int) else L2 (x0, x1, wrap i64 (x2 + 1), x3, x4, x5, x6) else none else Option.bind (c108 (x3, x4, x5, x6, x5)) fun r6 => bif !(r6) then some (5 : Int) else B4 (x5, (List.length x5 : Int), (0 : Int), x3, x4, x5, x6)
noncomputable def ll2 : Y3 → LS
 | (x0, x1, x2, x3, x4, x5, x6) => ⟨[.addr 65 0 [] 0, .cv ⟨.row K3, x0⟩, .cv ⟨.int .i64, x1⟩, .cv ⟨.int .i64, x2⟩], [⟨false, [⟨0, 0, .mk 0 ⟨.str, x3⟩⟩, ⟨0, 0, .mk 0 ⟨.row K1, x4⟩⟩, ⟨0, 0, .mk 0 ⟨.row K2, x5⟩⟩, ⟨0, 0, .mk 0 ⟨.row K3, x6⟩⟩]⟩]⟩
noncomputable def s4 (L4 : Y10 → Option Int) : Y10 → Option Int
 | (x0, x1, x2, x3, x4, x5, x6) => bif decide (x2 < x1) then bif decide (0 ≤ x2) && decide (x2 < (List.length x0 : Int)) then bif decide (0 ≤ ((getD x0 (toNat x2) Z5).1)) && decide (((getD x0 (toNat x2) Z5).1) < (List.length x4 : Int)) then bif (getD x4 (toNat ((getD x0 (toNat x2) Z5).1)) Z4).2.2 then some (4 : Int) else L4 (x0, x1, wrap i64 (x2 + 1), x3, x4, x5, x6) else none else none else some (0 : Int)
noncomputable def ll4 : Y10 → LS
 | (x0, x1, x2, x3, x4, x5, x6) => ⟨[.addr 65 0 [] 0, .cv ⟨.row K2, x0⟩, .cv ⟨.int .i64, x1⟩, .cv ⟨.int .i64, x2⟩], [⟨false, [⟨0, 0, .mk 0 ⟨.str, x3⟩⟩, ⟨0, 0, .mk 0 ⟨.row K1, x4⟩⟩, ⟨0, 0, .mk 0 ⟨.row K2, x5⟩⟩, ⟨0, 0, .mk 0 ⟨.row K3, x6⟩⟩]⟩]⟩
noncomputable def m (c64 : (Int × Int × Int) → Option Bool) (c106 : Y1 → Option Bool) (B0 : Y4 → Option Int) : Y1 → Option Int
 | (a0_0, a0_1, a0_2, a0_3) => Option.bind (c106 (a0_0, a0_1, a0_2, a0_3)) fun r1 => bif !(r1) then some (1 : Int) else Option.bind (c64 ((List.length a0_1 : Int), (1 : Int), (6 : Int))) fun r2 => bif !(r2) then some (2 : Int) else B0 (a0_1, (List.length a0_1 : Int), (0 : Int), a0_0, a0_1, a0_2, a0_3)
noncomputable def sig : Sig := ⟨[.val true [⟨.str, 0, 0, false⟩, ⟨.row K1, 0, 0, false⟩, ⟨.row K2, 0, 0, false⟩, ⟨.row K3, 0, 0, false⟩]], [(.one, [(.int .i64, 0)])]⟩
noncomputable def hint : Nat → Hint
 | 0 => ⟨[(1, .keep), (18, .keep), (19, .keep), (20, .keep)], [(65, [0, 0, 0, 0])]⟩
 | 2 => ⟨[(1, .keep), (36, .keep), (37, .keep), (38, .keep)], [(65, [0, 0, 0, 0])]⟩
 | 4 => ⟨[(1, .keep), (54, .keep), (55, .keep), (56, .keep)], [(65, [0, 0, 0, 0])]⟩
 | _ => ⟨[], []⟩
noncomputable def join (_ : Nat) : Option Hint := none
noncomputable def body : Code := (Tryz.f65).body.getD .skip
noncomputable def rv : List ResultVar := (Tryz.f65).results.toList
noncomputable def fn : Fn := ⟨68, sig, rv, body, hint, join⟩
end impl_CheckDef
namespace impl_FirstBad
noncomputable def s0 (c65 : Y1 → Option Int) (B2 : Y12 → Option Int) (L0 : Y13 → Option Int) : Y13 → Option Int
 | (x0, x1, x2, x3) => bif decide (x3 < x2) then bif decide (0 ≤ x3) && decide (x3 < (List.length x1 : Int)) then bif decide (x3 ≥ 3) then some x3 else Option.bind (c65 ((getD x1 (toNat x3) Z0).1, (getD x1 (toNat x3) Z0).2.1, (getD x1 (toNat x3) Z0).2.2.1, (getD x1 (toNat x3) Z0).2.2.2)) fun r1 => bif r1 != 0 then some x3 else bif decide (0 ≤ 0) && decide ((0 : Int) ≤ x3) && decide (x3 ≤ (List.length x0 : Int)) then B2 (x0, x3, x1, x2, x3, (getD x1 (toNat x3) Z0).1, (getD x1 (toNat x3) Z0).2.1, (getD x1 (toNat x3) Z0).2.2.1, (getD x1 (toNat x3) Z0).2.2.2, r1, r1 != 0, List.drop (toNat (0 : Int)) (List.take (toNat x3) x0), (List.length (List.drop (toNat (0 : Int)) (List.take (toNat x3) x0)) : Int), (0 : Int), (getD x1 (toNat x3) Z0).1, (getD x1 (toNat x3) Z0).2.1, (getD x1 (toNat x3) Z0).2.2.1, (getD x1 (toNat x3) Z0).2.2.2) else none else none else some (-1 : Int)
noncomputable def ll0 : Y13 → LS
 | (x0, x1, x2, x3) => ⟨[.cv ⟨.row K4, x0⟩, .cv ⟨.row K4, x1⟩, .cv ⟨.int .i64, x2⟩, .cv ⟨.int .i64, x3⟩], []⟩
noncomputable def s2 (L0 : Y13 → Option Int) (L2 : Y12 → Option Int) : Y12 → Option Int
 | (x0, x1, x2, x3, x4, x5, x6, x7, x8, x9, x10, x11, x12, x13, x14, x15, x16, x17) => bif decide (x13 < x12) then bif decide (0 ≤ x13) && decide (x13 < (List.length x11 : Int)) then bif ByteArray.toList ((getD x11 (toNat x13) Z0).1) == ByteArray.toList x14 then some x1 else L2 (x0, x1, x2, x3, x4, x5, x6, x7, x8, x9, x10, x11, x12, wrap i64 (x13 + 1), x14, x15, x16, x17) else none else L0 (x0, x2, x3, wrap i64 (x4 + 1))
noncomputable def ll2 : Y12 → LS
 | (x0, x1, x2, x3, x4, x5, x6, x7, x8, x9, x10, x11, x12, x13, x14, x15, x16, x17) => ⟨[.cv ⟨.row K4, x0⟩, .cv ⟨.int .i64, x1⟩, .addr 257 0 [] 0, .cv ⟨.row K4, x2⟩, .cv ⟨.int .i64, x3⟩, .cv ⟨.int .i64, x4⟩, .agg [.cv ⟨.str, x5⟩, .cv ⟨.row K1, x6⟩, .cv ⟨.row K2, x7⟩, .cv ⟨.row K3, x8⟩], .cv ⟨.int .i64, x9⟩, .cv ⟨.bool, x10⟩, .cv ⟨.row K4, x11⟩, .cv ⟨.int .i64, x12⟩, .cv ⟨.int .i64, x13⟩], [⟨false, [⟨0, 0, .mk 0 ⟨.str, x14⟩⟩, ⟨0, 0, .mk 0 ⟨.row K1, x15⟩⟩, ⟨0, 0, .mk 0 ⟨.row K2, x16⟩⟩, ⟨0, 0, .mk 0 ⟨.row K3, x17⟩⟩]⟩]⟩
noncomputable def m (B0 : Y13 → Option Int) : Y11 → Option Int
 | a0_0 => B0 (a0_0, a0_0, (List.length a0_0 : Int), (0 : Int))
noncomputable def sig : Sig := ⟨[.val false [⟨.row K4, 0, 0, false⟩]], [(.one, [(.int .i64, 0)])]⟩
noncomputable def hint : Nat → Hint
 | 0 => ⟨[(0, .keep), (7, .keep), (8, .keep), (9, .keep)], []⟩
 | 2 => ⟨[(0, .keep), (3, .keep), (4, .keep), (7, .keep), (8, .keep), (9, .keep), (17, .keep), (18, .keep), (19, .keep), (24, .keep), (25, .keep), (26, .keep)], [(257, [0, 0, 0, 0])]⟩
 | _ => ⟨[], []⟩
noncomputable def join (_ : Nat) : Option Hint := none
noncomputable def body : Code := (Tryz.f72).body.getD .skip
noncomputable def rv : List ResultVar := (Tryz.f72).results.toList
noncomputable def fn : Fn := ⟨38, sig, rv, body, hint, join⟩
end impl_FirstBad
namespace impl_hasIndex
noncomputable def m (c64 : (Int × Int × Int) → Option Bool) (c72 : Y11 → Option Int) : Y14 → Option Bool
 | (a0_0, a1_0, a2_0) => Option.bind (c72 a0_0) fun r1 => bif r1 == (-1) then Option.bind (c64 (a1_0, (0 : Int), wrap i64 ((List.length a0_0 : Int) - 1))) fun r2 => bif r2 then bif decide (0 ≤ a1_0) && decide (a1_0 < (List.length a0_0 : Int)) then Option.bind (c64 (a2_0, (-1 : Int), wrap i64 ((List.length ((getD a0_0 (toNat a1_0) Z0).2.2.2) : Int) - 1))) fun r3 => some r3 else none else some false else some false
noncomputable def sig : Sig := ⟨[.val false [⟨.row K4, 0, 0, false⟩], .val false [⟨.int .i64, 0, 0, false⟩], .val false [⟨.int .i64, 0, 0, false⟩]], [(.one, [(.bool, 0)])]⟩
noncomputable def hint (_ : Nat) : Hint := ⟨[], []⟩
noncomputable def join (_ : Nat) : Option Hint := none
noncomputable def body : Code := (Tryz.f41).body.getD .skip
noncomputable def rv : List ResultVar := (Tryz.f41).results.toList
noncomputable def fn : Fn := ⟨28, sig, rv, body, hint, join⟩
end impl_hasIndex
namespace impl_PartOk
noncomputable def m (c64 : (Int × Int × Int) → Option Bool) : (Int × Int × Bool × Bool) → Option Bool
 | (a0_0, a0_1, a0_2, a0_3) => Option.bind (c64 (a0_0, (0 : Int), (9 : Int))) fun r1 => bif r1 then Option.bind (c64 (a0_1, (1 : Int), (4 : Int))) fun r2 => some r2 else some false
noncomputable def sig : Sig := ⟨[.val true [⟨.int .i64, 0, 0, false⟩, ⟨.int .i64, 0, 0, false⟩, ⟨.bool, 0, 0, false⟩, ⟨.bool, 0, 0, false⟩]], [(.one, [(.bool, 0)])]⟩
noncomputable def hint (_ : Nat) : Hint := ⟨[], []⟩
noncomputable def join (_ : Nat) : Option Hint := none
noncomputable def body : Code := (Tryz.f115).body.getD .skip
noncomputable def rv : List ResultVar := (Tryz.f115).results.toList
noncomputable def fn : Fn := ⟨11, sig, rv, body, hint, join⟩
end impl_PartOk
namespace impl_PlanOk
noncomputable def s0 (c115 : (Int × Int × Bool × Bool) → Option Bool) (L0 : Y16 → Option Bool) : Y16 → Option Bool
 | (x0, x1, x2) => bif decide (x2 < x1) then bif decide (0 ≤ x2) && decide (x2 < (List.length x0 : Int)) then bif decide (x2 ≥ 6) then some false else Option.bind (c115 ((getD x0 (toNat x2) Z3).1, (getD x0 (toNat x2) Z3).2.1, (getD x0 (toNat x2) Z3).2.2.1, (getD x0 (toNat x2) Z3).2.2.2)) fun r1 => bif !(r1) then some false else L0 (x0, x1, wrap i64 (x2 + 1)) else none else some true
noncomputable def ll0 : Y16 → LS
 | (x0, x1, x2) => ⟨[.cv ⟨.row K5, x0⟩, .cv ⟨.int .i64, x1⟩, .cv ⟨.int .i64, x2⟩], []⟩
noncomputable def m (B0 : Y16 → Option Bool) : Y15 → Option Bool
 | a0_0 => B0 (a0_0, (List.length a0_0 : Int), (0 : Int))
noncomputable def sig : Sig := ⟨[.val false [⟨.row K5, 0, 0, false⟩]], [(.one, [(.bool, 0)])]⟩
noncomputable def hint : Nat → Hint
 | 0 => ⟨[(5, .keep), (6, .keep), (7, .keep)], []⟩
 | _ => ⟨[], []⟩
noncomputable def join (_ : Nat) : Option Hint := none
noncomputable def body : Code := (Tryz.f73).body.getD .skip
noncomputable def rv : List ResultVar := (Tryz.f73).results.toList
noncomputable def fn : Fn := ⟨20, sig, rv, body, hint, join⟩
end impl_PlanOk
namespace impl_ValOk
noncomputable def m (c64 : (Int × Int × Int) → Option Bool) : (Int × Int × ByteArray) → Option Bool
 | (a0_0, a0_1, a0_2) => bif a0_0 == 0 then bif a0_1 == 0 then some (ByteArray.toList a0_2 == ByteArray.toList ({ data := #[] } : ByteArray)) else some false else bif a0_0 == 1 then Option.bind (c64 (a0_1, (-2147483648 : Int), (2147483647 : Int))) fun r1 => bif r1 then some (ByteArray.toList a0_2 == ByteArray.toList ({ data := #[] } : ByteArray)) else some false else bif a0_0 == 2 then Option.bind (c64 (a0_1, (-1000000000000000 : Int), (1000000000000000 : Int))) fun r2 => bif r2 then some (ByteArray.toList a0_2 == ByteArray.toList ({ data := #[] } : ByteArray)) else some false else bif a0_0 == 3 then bif a0_1 == 0 then some (decide ((ByteArray.size a0_2 : Int) ≤ 30)) else some false else bif a0_0 == 4 then Option.bind (c64 (a0_1, (0 : Int), (1 : Int))) fun r3 => bif r3 then some (ByteArray.toList a0_2 == ByteArray.toList ({ data := #[] } : ByteArray)) else some false else some false
noncomputable def sig : Sig := ⟨[.val true [⟨.int .i64, 0, 0, false⟩, ⟨.int .i64, 0, 0, false⟩, ⟨.str, 0, 0, false⟩]], [(.one, [(.bool, 0)])]⟩
noncomputable def hint (_ : Nat) : Hint := ⟨[], []⟩
noncomputable def join (_ : Nat) : Option Hint := none
noncomputable def body : Code := (Tryz.f144).body.getD .skip
noncomputable def rv : List ResultVar := (Tryz.f144).results.toList
noncomputable def fn : Fn := ⟨56, sig, rv, body, hint, join⟩
end impl_ValOk
namespace impl_Fits
noncomputable def m (c144 : (Int × Int × ByteArray) → Option Bool) : Y17 → Option Bool
 | (a0_0, a0_1, a0_2, a0_3, a1_0, a1_1, a1_2) => Option.bind (c144 (a1_0, a1_1, a1_2)) fun r1 => bif r1 then bif a1_0 == a0_1 then bif a1_0 != 0 then some true else bif a1_0 == 0 then some a0_2 else some false else bif a1_0 == 0 then some a0_2 else some false else some false
noncomputable def sig : Sig := ⟨[.val true [⟨.int .i64, 0, 0, false⟩, ⟨.int .i64, 0, 0, false⟩, ⟨.bool, 0, 0, false⟩, ⟨.bool, 0, 0, false⟩], .val true [⟨.int .i64, 0, 0, false⟩, ⟨.int .i64, 0, 0, false⟩, ⟨.str, 0, 0, false⟩]], [(.one, [(.bool, 0)])]⟩
noncomputable def hint (_ : Nat) : Hint := ⟨[], []⟩
noncomputable def join (_ : Nat) : Option Hint := none
noncomputable def body : Code := (Tryz.f116).body.getD .skip
noncomputable def rv : List ResultVar := (Tryz.f116).results.toList
noncomputable def fn : Fn := ⟨28, sig, rv, body, hint, join⟩
end impl_Fits
namespace impl_FitsAll
noncomputable def s0 (c116 : Y17 → Option Bool) (L0 : Y19 → Option Bool) : Y19 → Option Bool
 | (x0, x1, x2, x3) => bif decide (x3 < x2) then bif decide (0 ≤ x3) && decide (x3 < (List.length x1 : Int)) then bif decide (0 ≤ x3) && decide (x3 < (List.length x0 : Int)) then Option.bind (c116 ((getD x0 (toNat x3) Z3).1, (getD x0 (toNat x3) Z3).2.1, (getD x0 (toNat x3) Z3).2.2.1, (getD x0 (toNat x3) Z3).2.2.2, (getD x1 (toNat x3) Z2).1, (getD x1 (toNat x3) Z2).2.1, (getD x1 (toNat x3) Z2).2.2)) fun r1 => bif !(r1) then some false else L0 (x0, x1, x2, wrap i64 (x3 + 1)) else none else none else some true
noncomputable def ll0 : Y19 → LS
 | (x0, x1, x2, x3) => ⟨[.cv ⟨.row K5, x0⟩, .cv ⟨.row K6, x1⟩, .cv ⟨.int .i64, x2⟩, .cv ⟨.int .i64, x3⟩], []⟩
noncomputable def m (B0 : Y19 → Option Bool) : Y18 → Option Bool
 | (a0_0, a1_0) => bif decide ((List.length a1_0 : Int) > (List.length a0_0 : Int)) then some false else B0 (a0_0, a1_0, (List.length a1_0 : Int), (0 : Int))
noncomputable def sig : Sig := ⟨[.val false [⟨.row K5, 0, 0, false⟩], .val false [⟨.row K6, 0, 0, false⟩]], [(.one, [(.bool, 0)])]⟩
noncomputable def hint : Nat → Hint
 | 0 => ⟨[(0, .keep), (12, .keep), (13, .keep), (14, .keep)], []⟩
 | _ => ⟨[], []⟩
noncomputable def join (_ : Nat) : Option Hint := none
noncomputable def body : Code := (Tryz.f74).body.getD .skip
noncomputable def rv : List ResultVar := (Tryz.f74).results.toList
noncomputable def fn : Fn := ⟨27, sig, rv, body, hint, join⟩
end impl_FitsAll
namespace impl_RowOk
noncomputable def m (c73 : Y15 → Option Bool) (c74 : Y18 → Option Bool) : Y18 → Option Bool
 | (a0_0, a1_0) => Option.bind (c73 a0_0) fun r1 => bif r1 then bif (List.length a1_0 : Int) == (List.length a0_0 : Int) then Option.bind (c74 (a0_0, a1_0)) fun r2 => some r2 else some false else some false
noncomputable def sig : Sig := ⟨[.val false [⟨.row K5, 0, 0, false⟩], .val false [⟨.row K6, 0, 0, false⟩]], [(.one, [(.bool, 0)])]⟩
noncomputable def hint (_ : Nat) : Hint := ⟨[], []⟩
noncomputable def join (_ : Nat) : Option Hint := none
noncomputable def body : Code := (Tryz.f42).body.getD .skip
noncomputable def rv : List ResultVar := (Tryz.f42).results.toList
noncomputable def fn : Fn := ⟨19, sig, rv, body, hint, join⟩
end impl_RowOk
namespace impl_RowPlan
noncomputable def s0 (L0 : Y20 → Option Y15) : Y20 → Option Y15
 | (x0, x1, x2, x3) => bif decide (x2 < x1) then bif decide (0 ≤ x2) && decide (x2 < (List.length x0 : Int)) then bif decide ((List.length x3 + List.length ([(x2, (getD x0 (toNat x2) Z4).2.1, (getD x0 (toNat x2) Z4).2.2, false)] : List (Int × Int × Bool × Bool))) * 24 ≤ 140737488355328) then L0 (x0, x1, wrap i64 (x2 + 1), x3 ++ ([(x2, (getD x0 (toNat x2) Z4).2.1, (getD x0 (toNat x2) Z4).2.2, false)] : List (Int × Int × Bool × Bool))) else none else none else some x3
noncomputable def ll0 : Y20 → LS
 | (x0, x1, x2, x3) => ⟨[.ref 12 0 [] none 0, .cv ⟨.row K1, x0⟩, .cv ⟨.int .i64, x1⟩, .cv ⟨.int .i64, x2⟩], [⟨true, [⟨0, 0, .mk 9 ⟨.row K5, x3⟩⟩]⟩]⟩
noncomputable def m (c65 : Y1 → Option Int) (B0 : Y20 → Option Y15) : Y1 → Option Y15
 | (a0_0, a0_1, a0_2, a0_3) => Option.bind (c65 (a0_0, a0_1, a0_2, a0_3)) fun r1 => bif r1 != 0 then some ([] : List (Int × Int × Bool × Bool)) else B0 (a0_1, (List.length a0_1 : Int), (0 : Int), ([] : List (Int × Int × Bool × Bool)))
noncomputable def sig : Sig := ⟨[.val true [⟨.str, 0, 0, false⟩, ⟨.row K1, 0, 0, false⟩, ⟨.row K2, 0, 0, false⟩, ⟨.row K3, 0, 0, false⟩]], [(.one, [(.row K5, 1)])]⟩
noncomputable def hint : Nat → Hint
 | 0 => ⟨[(3, .own 9 K5), (10, .keep), (11, .keep), (12, .keep)], []⟩
 | _ => ⟨[], []⟩
noncomputable def join (_ : Nat) : Option Hint := none
noncomputable def body : Code := (Tryz.f43).body.getD .skip
noncomputable def rv : List ResultVar := (Tryz.f43).results.toList
noncomputable def fn : Fn := ⟨28, sig, rv, body, hint, join⟩
end impl_RowPlan
namespace impl_HeadOf
noncomputable def m (c41 : Y14 → Option Bool) : Y14 → Option ((List Int))
 | (a0_0, a1_0, a2_0) => Option.bind (c41 (a0_0, a1_0, a2_0)) fun r1 => bif !(r1) then some ([] : List Int) else some ([wrap .u8 (wrap i64 (a1_0 + 1)), wrap .u8 (wrap i64 (a2_0 + 1))] : List Int)
noncomputable def sig : Sig := ⟨[.val false [⟨.row K4, 0, 0, false⟩], .val false [⟨.int .i64, 0, 0, false⟩], .val false [⟨.int .i64, 0, 0, false⟩]], [(.one, [(.row K7, 1)])]⟩
noncomputable def hint (_ : Nat) : Hint := ⟨[], []⟩
noncomputable def join (_ : Nat) : Option Hint := none
noncomputable def body : Code := (Tryz.f14).body.getD .skip
noncomputable def rv : List ResultVar := (Tryz.f14).results.toList
noncomputable def fn : Fn := ⟨19, sig, rv, body, hint, join⟩
end impl_HeadOf
namespace impl_Pick
noncomputable def s0 (c64 : (Int × Int × Int) → Option Bool) (L0 : Y22 → Option Y21) : Y22 → Option Y21
 | (x0, x1, x2, x3, x4) => bif decide (x3 < x2) then bif decide (0 ≤ x3) && decide (x3 < (List.length x1 : Int)) then Option.bind (c64 ((getD x1 (toNat x3) Z3).1, (0 : Int), wrap i64 ((List.length x0 : Int) - 1))) fun r1 => bif r1 then bif decide (0 ≤ ((getD x1 (toNat x3) Z3).1)) && decide (((getD x1 (toNat x3) Z3).1) < (List.length x0 : Int)) then bif decide ((List.length x4 + List.length ([((getD x0 (toNat ((getD x1 (toNat x3) Z3).1)) Z2).1, (getD x0 (toNat ((getD x1 (toNat x3) Z3).1)) Z2).2.1, (getD x0 (toNat ((getD x1 (toNat x3) Z3).1)) Z2).2.2)] : List (Int × Int × ByteArray))) * 32 ≤ 140737488355328) then L0 (x0, x1, x2, wrap i64 (x3 + 1), x4 ++ ([((getD x0 (toNat ((getD x1 (toNat x3) Z3).1)) Z2).1, (getD x0 (toNat ((getD x1 (toNat x3) Z3).1)) Z2).2.1, (getD x0 (toNat ((getD x1 (toNat x3) Z3).1)) Z2).2.2)] : List (Int × Int × ByteArray))) else none else none else bif decide ((List.length x4 + List.length ([Z2] : List (Int × Int × ByteArray))) * 32 ≤ 140737488355328) then L0 (x0, x1, x2, wrap i64 (x3 + 1), x4 ++ ([Z2] : List (Int × Int × ByteArray))) else none else none else some x4
noncomputable def ll0 : Y22 → LS
 | (x0, x1, x2, x3, x4) => ⟨[.cv ⟨.row K6, x0⟩, .ref 20 0 [] none 0, .cv ⟨.row K5, x1⟩, .cv ⟨.int .i64, x2⟩, .cv ⟨.int .i64, x3⟩], [⟨true, [⟨0, 0, .mk 9 ⟨.row K6, x4⟩⟩]⟩]⟩
noncomputable def m (B0 : Y22 → Option Y21) : Y18 → Option Y21
 | (a0_0, a1_0) => B0 (a1_0, a0_0, (List.length a0_0 : Int), (0 : Int), ([] : List (Int × Int × ByteArray)))
noncomputable def sig : Sig := ⟨[.val false [⟨.row K5, 0, 0, false⟩], .val false [⟨.row K6, 0, 0, false⟩]], [(.one, [(.row K6, 1)])]⟩
noncomputable def hint : Nat → Hint
 | 0 => ⟨[(1, .keep), (5, .own 9 K6), (9, .keep), (10, .keep), (11, .keep)], []⟩
 | _ => ⟨[], []⟩
noncomputable def join (_ : Nat) : Option Hint := none
noncomputable def body : Code := (Tryz.f31).body.getD .skip
noncomputable def rv : List ResultVar := (Tryz.f31).results.toList
noncomputable def fn : Fn := ⟨32, sig, rv, body, hint, join⟩
end impl_Pick
namespace impl_partsOf
noncomputable def s0 (L0 : Y23 → Option Y15) : Y23 → Option Y15
 | (x0, x1, x2, x3, x4, x5, x6, x7) => bif decide (x2 < x1) then bif decide (0 ≤ x2) && decide (x2 < (List.length x0 : Int)) then bif decide (0 ≤ ((getD x0 (toNat x2) Z5).1)) && decide (((getD x0 (toNat x2) Z5).1) < (List.length x4 : Int)) then bif decide ((List.length x7 + List.length ([((getD x0 (toNat x2) Z5).1, (getD x4 (toNat ((getD x0 (toNat x2) Z5).1)) Z4).2.1, (getD x4 (toNat ((getD x0 (toNat x2) Z5).1)) Z4).2.2, (getD x0 (toNat x2) Z5).2)] : List (Int × Int × Bool × Bool))) * 24 ≤ 140737488355328) then L0 (x0, x1, wrap i64 (x2 + 1), x3, x4, x5, x6, x7 ++ ([((getD x0 (toNat x2) Z5).1, (getD x4 (toNat ((getD x0 (toNat x2) Z5).1)) Z4).2.1, (getD x4 (toNat ((getD x0 (toNat x2) Z5).1)) Z4).2.2, (getD x0 (toNat x2) Z5).2)] : List (Int × Int × Bool × Bool))) else none else none else none else some x7
noncomputable def ll0 : Y23 → LS
 | (x0, x1, x2, x3, x4, x5, x6, x7) => ⟨[.addr 129 0 [] 0, .ref 20 0 [] none 0, .cv ⟨.row K2, x0⟩, .cv ⟨.int .i64, x1⟩, .cv ⟨.int .i64, x2⟩], [⟨false, [⟨0, 0, .mk 0 ⟨.str, x3⟩⟩, ⟨0, 0, .mk 0 ⟨.row K1, x4⟩⟩, ⟨0, 0, .mk 0 ⟨.row K2, x5⟩⟩, ⟨0, 0, .mk 0 ⟨.row K3, x6⟩⟩]⟩, ⟨true, [⟨0, 0, .mk 9 ⟨.row K5, x7⟩⟩]⟩]⟩
noncomputable def m (B0 : Y23 → Option Y15) : Y7 → Option Y15
 | (a0_0, a0_1, a0_2, a0_3, a1_0) => B0 (a1_0, (List.length a1_0 : Int), (0 : Int), a0_0, a0_1, a0_2, a0_3, ([] : List (Int × Int × Bool × Bool)))
noncomputable def sig : Sig := ⟨[.val true [⟨.str, 0, 0, false⟩, ⟨.row K1, 0, 0, false⟩, ⟨.row K2, 0, 0, false⟩, ⟨.row K3, 0, 0, false⟩], .val false [⟨.row K2, 0, 0, false⟩]], [(.one, [(.row K5, 1)])]⟩
noncomputable def hint : Nat → Hint
 | 0 => ⟨[(2, .keep), (5, .own 9 K5), (9, .keep), (10, .keep), (11, .keep)], [(129, [0, 0, 0, 0])]⟩
 | _ => ⟨[], []⟩
noncomputable def join (_ : Nat) : Option Hint := none
noncomputable def body : Code := (Tryz.f66).body.getD .skip
noncomputable def rv : List ResultVar := (Tryz.f66).results.toList
noncomputable def fn : Fn := ⟨35, sig, rv, body, hint, join⟩
end impl_partsOf
namespace impl_PrimaryPlan
noncomputable def m (c65 : Y1 → Option Int) (c66 : Y7 → Option Y15) : Y1 → Option Y15
 | (a0_0, a0_1, a0_2, a0_3) => Option.bind (c65 (a0_0, a0_1, a0_2, a0_3)) fun r1 => bif r1 != 0 then some ([] : List (Int × Int × Bool × Bool)) else Option.bind (c66 (a0_0, a0_1, a0_2, a0_3, a0_2)) fun r2 => some r2
noncomputable def sig : Sig := ⟨[.val true [⟨.str, 0, 0, false⟩, ⟨.row K1, 0, 0, false⟩, ⟨.row K2, 0, 0, false⟩, ⟨.row K3, 0, 0, false⟩]], [(.one, [(.row K5, 1)])]⟩
noncomputable def hint (_ : Nat) : Hint := ⟨[], []⟩
noncomputable def join (_ : Nat) : Option Hint := none
noncomputable def body : Code := (Tryz.f32).body.getD .skip
noncomputable def rv : List ResultVar := (Tryz.f32).results.toList
noncomputable def fn : Fn := ⟨10, sig, rv, body, hint, join⟩
end impl_PrimaryPlan
namespace impl_IndexPlan
noncomputable def m (c64 : (Int × Int × Int) → Option Bool) (c65 : Y1 → Option Int) (c66 : Y7 → Option Y15) : Y24 → Option Y15
 | (a0_0, a0_1, a0_2, a0_3, a1_0) => Option.bind (c65 (a0_0, a0_1, a0_2, a0_3)) fun r1 => bif r1 != 0 then some ([] : List (Int × Int × Bool × Bool)) else Option.bind (c64 (a1_0, (0 : Int), wrap i64 ((List.length a0_3 : Int) - 1))) fun r2 => bif !(r2) then some ([] : List (Int × Int × Bool × Bool)) else bif decide (0 ≤ a1_0) && decide (a1_0 < (List.length a0_3 : Int)) then Option.bind (c66 (a0_0, a0_1, a0_2, a0_3, (getD a0_3 (toNat a1_0) Z1).2.2)) fun r3 => Option.bind (c66 (a0_0, a0_1, a0_2, a0_3, a0_2)) fun r4 => bif decide ((List.length r3 + List.length r4) * 24 ≤ 140737488355328) then some (r3 ++ r4) else none else none
noncomputable def sig : Sig := ⟨[.val true [⟨.str, 0, 0, false⟩, ⟨.row K1, 0, 0, false⟩, ⟨.row K2, 0, 0, false⟩, ⟨.row K3, 0, 0, false⟩], .val false [⟨.int .i64, 0, 0, false⟩]], [(.one, [(.row K5, 1)])]⟩
noncomputable def hint (_ : Nat) : Hint := ⟨[], []⟩
noncomputable def join (_ : Nat) : Option Hint := none
noncomputable def body : Code := (Tryz.f33).body.getD .skip
noncomputable def rv : List ResultVar := (Tryz.f33).results.toList
noncomputable def fn : Fn := ⟨30, sig, rv, body, hint, join⟩
end impl_IndexPlan
namespace impl_planOf
noncomputable def m (c32 : Y1 → Option Y15) (c33 : Y24 → Option Y15) : Y24 → Option Y15
 | (a0_0, a0_1, a0_2, a0_3, a1_0) => bif decide (a1_0 < 0) then Option.bind (c32 (a0_0, a0_1, a0_2, a0_3)) fun r1 => some r1 else Option.bind (c33 (a0_0, a0_1, a0_2, a0_3, a1_0)) fun r2 => some r2
noncomputable def sig : Sig := ⟨[.val true [⟨.str, 0, 0, false⟩, ⟨.row K1, 0, 0, false⟩, ⟨.row K2, 0, 0, false⟩, ⟨.row K3, 0, 0, false⟩], .val false [⟨.int .i64, 0, 0, false⟩]], [(.one, [(.row K5, 1)])]⟩
noncomputable def hint (_ : Nat) : Hint := ⟨[], []⟩
noncomputable def join (_ : Nat) : Option Hint := none
noncomputable def body : Code := (Tryz.f75).body.getD .skip
noncomputable def rv : List ResultVar := (Tryz.f75).results.toList
noncomputable def fn : Fn := ⟨12, sig, rv, body, hint, join⟩
end impl_planOf
namespace impl_clamp
noncomputable def m  : (Int × Int × Int) → Option Int
 | (a0_0, a1_0, a2_0) => some (bif decide ((bif decide (a2_0 < a0_0) then a2_0 else a0_0) > a1_0) then (bif decide (a2_0 < a0_0) then a2_0 else a0_0) else a1_0)
noncomputable def sig : Sig := ⟨[.val false [⟨.int .i64, 0, 0, false⟩], .val false [⟨.int .i64, 0, 0, false⟩], .val false [⟨.int .i64, 0, 0, false⟩]], [(.one, [(.int .i64, 0)])]⟩
noncomputable def hint (_ : Nat) : Hint := ⟨[], []⟩
noncomputable def join (_ : Nat) : Option Hint := none
noncomputable def body : Code := (Tryz.f127).body.getD .skip
noncomputable def rv : List ResultVar := (Tryz.f127).results.toList
noncomputable def fn : Fn := ⟨12, sig, rv, body, hint, join⟩
end impl_clamp
namespace impl_bytesOf
noncomputable def s0 (L0 : (Int × Int) → Option Int) : (Int × Int) → Option Int
 | (x0, x1) => bif decide (x0 > 0) then bif decide (¬ (8 : Int) < 0) then L0 (Int.fdiv x0 (2 ^ (min (toNat (8 : Int)) (IntKind.bits IntKind.i64))), wrap i64 (x1 + 1)) else none else some x1
noncomputable def ll0 : (Int × Int) → LS
 | (x0, x1) => ⟨[.cv ⟨.int .i64, x0⟩, .cv ⟨.int .i64, x1⟩], []⟩
noncomputable def m (B0 : (Int × Int) → Option Int) : Int → Option Int
 | a0_0 => B0 (a0_0, (0 : Int))
noncomputable def sig : Sig := ⟨[.val false [⟨.int .i64, 0, 0, false⟩]], [(.one, [(.int .i64, 0)])]⟩
noncomputable def hint : Nat → Hint
 | 0 => ⟨[(0, .keep), (3, .keep)], []⟩
 | _ => ⟨[], []⟩
noncomputable def join (_ : Nat) : Option Hint := none
noncomputable def body : Code := (Tryz.f128).body.getD .skip
noncomputable def rv : List ResultVar := (Tryz.f128).results.toList
noncomputable def fn : Fn := ⟨11, sig, rv, body, hint, join⟩
end impl_bytesOf
namespace impl_addBytes
noncomputable def s0 (L0 : Y26 → Option ((List Int))) : Y26 → Option ((List Int))
 | (x0, x1, x2, x3) => bif decide (x2 ≥ 0) then bif decide (¬ (wrap i64 ((8 : Int) * x2)) < 0) then bif decide ((List.length x3 + List.length ([wrap .u8 ((BitVec.ofInt (IntKind.bits IntKind.u8) (wrap .u8 (Int.fdiv x0 (2 ^ (min (toNat (wrap i64 ((8 : Int) * x2))) (IntKind.bits IntKind.i64))))) ^^^ BitVec.ofInt (IntKind.bits IntKind.u8) x1).toNat : Int)] : List Int)) * 1 ≤ 140737488355328) then L0 (x0, x1, wrap i64 (x2 - 1), x3 ++ ([wrap .u8 ((BitVec.ofInt (IntKind.bits IntKind.u8) (wrap .u8 (Int.fdiv x0 (2 ^ (min (toNat (wrap i64 ((8 : Int) * x2))) (IntKind.bits IntKind.i64))))) ^^^ BitVec.ofInt (IntKind.bits IntKind.u8) x1).toNat : Int)] : List Int)) else none else none else some x3
noncomputable def ll0 : Y26 → LS
 | (x0, x1, x2, x3) => ⟨[.ref 0 0 [] none 0, .cv ⟨.int .i64, x0⟩, .cv ⟨.int .u8, x1⟩, .cv ⟨.int .i64, x2⟩], [⟨true, [⟨0, 0, .mk 1 ⟨.row K7, x3⟩⟩]⟩]⟩
noncomputable def m (B0 : Y26 → Option ((List Int))) : Y25 → Option ((List Int))
 | (a0_0, a1_0, a2_0, a3_0) => B0 (a1_0, a3_0, wrap i64 (a2_0 - 1), a0_0)
noncomputable def sig : Sig := ⟨[.val false [⟨.row K7, 1, 1, false⟩], .val false [⟨.int .i64, 0, 0, false⟩], .val false [⟨.int .i64, 0, 0, false⟩], .val false [⟨.int .u8, 0, 0, false⟩]], [(.one, [(.row K7, 1)])]⟩
noncomputable def hint : Nat → Hint
 | 0 => ⟨[(0, .own 1 K7), (1, .keep), (3, .keep), (9, .keep)], []⟩
 | _ => ⟨[], []⟩
noncomputable def join (_ : Nat) : Option Hint := none
noncomputable def body : Code := (Tryz.f129).body.getD .skip
noncomputable def rv : List ResultVar := (Tryz.f129).results.toList
noncomputable def fn : Fn := ⟨27, sig, rv, body, hint, join⟩
end impl_addBytes
namespace impl_addVar
noncomputable def m (c127 : (Int × Int × Int) → Option Int) (c128 : Int → Option Int) (c129 : Y25 → Option ((List Int))) : ((List Int) × Int) → Option ((List Int))
 | (a0_0, a1_0) => Option.bind (c127 (a1_0, (-1000000000000000 : Int), (1000000000000000 : Int))) fun r1 => bif decide (r1 ≥ 0) then Option.bind (c128 r1) fun r2 => bif decide ((List.length a0_0 + List.length ([wrap .u8 (wrap i64 ((128 : Int) + r2))] : List Int)) * 1 ≤ 140737488355328) then Option.bind (c129 (a0_0 ++ ([wrap .u8 (wrap i64 ((128 : Int) + r2))] : List Int), r1, r2, (0 : Int))) fun r3 => some r3 else none else Option.bind (c128 (wrap i64 ((-1 : Int) - r1))) fun r4 => bif decide ((List.length a0_0 + List.length ([wrap .u8 (wrap i64 ((127 : Int) - r4))] : List Int)) * 1 ≤ 140737488355328) then Option.bind (c129 (a0_0 ++ ([wrap .u8 (wrap i64 ((127 : Int) - r4))] : List Int), wrap i64 ((-1 : Int) - r1), r4, (255 : Int))) fun r5 => some r5 else none
noncomputable def sig : Sig := ⟨[.val false [⟨.row K7, 1, 1, false⟩], .val false [⟨.int .i64, 0, 0, false⟩]], [(.one, [(.row K7, 1)])]⟩
noncomputable def hint (_ : Nat) : Hint := ⟨[], []⟩
noncomputable def join (_ : Nat) : Option Hint := none
noncomputable def body : Code := (Tryz.f87).body.getD .skip
noncomputable def rv : List ResultVar := (Tryz.f87).results.toList
noncomputable def fn : Fn := ⟨35, sig, rv, body, hint, join⟩
end impl_addVar
namespace impl_addFix
noncomputable def m (c127 : (Int × Int × Int) → Option Int) (c129 : Y25 → Option ((List Int))) : ((List Int) × Int) → Option ((List Int))
 | (a0_0, a1_0) => Option.bind (c127 (a1_0, (-2147483648 : Int), (2147483647 : Int))) fun r1 => Option.bind (c129 (a0_0, wrap i64 (r1 + 2147483648), (4 : Int), (0 : Int))) fun r2 => some r2
noncomputable def sig : Sig := ⟨[.val false [⟨.row K7, 1, 1, false⟩], .val false [⟨.int .i64, 0, 0, false⟩]], [(.one, [(.row K7, 1)])]⟩
noncomputable def hint (_ : Nat) : Hint := ⟨[], []⟩
noncomputable def join (_ : Nat) : Option Hint := none
noncomputable def body : Code := (Tryz.f145).body.getD .skip
noncomputable def rv : List ResultVar := (Tryz.f145).results.toList
noncomputable def fn : Fn := ⟨10, sig, rv, body, hint, join⟩
end impl_addFix
namespace impl_addEsc
noncomputable def s0 (L0 : Y27 → Option ((List Int))) : Y27 → Option ((List Int))
 | (x0, x1, x2) => bif decide (x1 < (ByteArray.size x0 : Int)) then bif decide (0 ≤ x1) && decide (x1 < (ByteArray.size x0 : Int)) then bif decide ((List.length x2 + List.length ([((ByteArray.get! x0 (toNat x1)).toNat : Int)] : List Int)) * 1 ≤ 140737488355328) then bif decide (0 ≤ x1) && decide (x1 < (ByteArray.size x0 : Int)) then bif ((ByteArray.get! x0 (toNat x1)).toNat : Int) == 0 then bif decide ((List.length (x2 ++ ([((ByteArray.get! x0 (toNat x1)).toNat : Int)] : List Int)) + List.length ([(255 : Int)] : List Int)) * 1 ≤ 140737488355328) then L0 (x0, wrap i64 (x1 + 1), (x2 ++ ([((ByteArray.get! x0 (toNat x1)).toNat : Int)] : List Int)) ++ ([(255 : Int)] : List Int)) else none else L0 (x0, wrap i64 (x1 + 1), x2 ++ ([((ByteArray.get! x0 (toNat x1)).toNat : Int)] : List Int)) else none else none else none else bif decide ((List.length x2 + List.length ([(0 : Int), (1 : Int)] : List Int)) * 1 ≤ 140737488355328) then some (x2 ++ ([(0 : Int), (1 : Int)] : List Int)) else none
noncomputable def ll0 : Y27 → LS
 | (x0, x1, x2) => ⟨[.ref 0 0 [] none 0, .cv ⟨.str, x0⟩, .cv ⟨.int .i64, x1⟩], [⟨true, [⟨0, 0, .mk 1 ⟨.row K7, x2⟩⟩]⟩]⟩
noncomputable def m (B0 : Y27 → Option ((List Int))) : ((List Int) × ByteArray) → Option ((List Int))
 | (a0_0, a1_0) => B0 (a1_0, (0 : Int), a0_0)
noncomputable def sig : Sig := ⟨[.val false [⟨.row K7, 1, 1, false⟩], .val false [⟨.str, 0, 0, false⟩]], [(.one, [(.row K7, 1)])]⟩
noncomputable def hint : Nat → Hint
 | 0 => ⟨[(0, .own 1 K7), (1, .keep), (5, .keep)], []⟩
 | _ => ⟨[], []⟩
noncomputable def join (_ : Nat) : Option Hint := none
noncomputable def body : Code := (Tryz.f146).body.getD .skip
noncomputable def rv : List ResultVar := (Tryz.f146).results.toList
noncomputable def fn : Fn := ⟨28, sig, rv, body, hint, join⟩
end impl_addEsc
namespace impl_copyBytes
noncomputable def m  : ((List Int)) → Option ((List Int))
 | a0_0 => bif decide ((List.length ([] : List Int) + List.length a0_0) * 1 ≤ 140737488355328) then some (([] : List Int) ++ a0_0) else none
noncomputable def sig : Sig := ⟨[.val false [⟨.row K7, 0, 0, false⟩]], [(.one, [(.row K7, 1)])]⟩
noncomputable def hint (_ : Nat) : Hint := ⟨[], []⟩
noncomputable def join (_ : Nat) : Option Hint := none
noncomputable def body : Code := (Tryz.f156).body.getD .skip
noncomputable def rv : List ResultVar := (Tryz.f156).results.toList
noncomputable def fn : Fn := ⟨5, sig, rv, body, hint, join⟩
end impl_copyBytes
namespace impl_Flip
noncomputable def s0 (L0 : (Int × (List Int)) → Option ((List Int))) : (Int × (List Int)) → Option ((List Int))
 | (x0, x1) => bif decide (x0 < (List.length x1 : Int)) then bif decide (0 ≤ x0) && decide (x0 < (List.length x1 : Int)) then bif decide (0 ≤ x0) && decide (x0 < (List.length x1 : Int)) then L0 (wrap i64 (x0 + 1), List.set x1 (toNat x0) (wrap .u8 ((BitVec.ofInt (IntKind.bits IntKind.u8) (if IntKind.signed IntKind.u8 then -1 else IntKind.max IntKind.u8) ^^^ BitVec.ofInt (IntKind.bits IntKind.u8) (getD x1 (toNat x0) (0 : Int))).toNat : Int))) else none else none else some x1
noncomputable def ll0 : (Int × (List Int)) → LS
 | (x0, x1) => ⟨[.ref 20 0 [] none 0, .cv ⟨.int .i64, x0⟩], [⟨true, [⟨0, 0, .mk 1 ⟨.row K7, x1⟩⟩]⟩]⟩
noncomputable def m (c156 : ((List Int)) → Option ((List Int))) (B0 : (Int × (List Int)) → Option ((List Int))) : ((List Int) × Int) → Option ((List Int))
 | (a0_0, a1_0) => Option.bind (c156 a0_0) fun r1 => B0 (bif decide ((0 : Int) > a1_0) then (0 : Int) else a1_0, r1)
noncomputable def sig : Sig := ⟨[.val false [⟨.row K7, 0, 0, false⟩], .val false [⟨.int .i64, 0, 0, false⟩]], [(.one, [(.row K7, 1)])]⟩
noncomputable def hint : Nat → Hint
 | 0 => ⟨[(5, .own 1 K7), (6, .keep)], []⟩
 | _ => ⟨[], []⟩
noncomputable def join (_ : Nat) : Option Hint := none
noncomputable def body : Code := (Tryz.f147).body.getD .skip
noncomputable def rv : List ResultVar := (Tryz.f147).results.toList
noncomputable def fn : Fn := ⟨26, sig, rv, body, hint, join⟩
end impl_Flip
namespace impl_addPart
noncomputable def m (c87 : ((List Int) × Int) → Option ((List Int))) (c115 : (Int × Int × Bool × Bool) → Option Bool) (c116 : Y17 → Option Bool) (c145 : ((List Int) × Int) → Option ((List Int))) (c146 : ((List Int) × ByteArray) → Option ((List Int))) (c147 : ((List Int) × Int) → Option ((List Int))) : Y28 → Option ((List Int))
 | (a0_0, a1_0, a1_1, a1_2, a1_3, a2_0, a2_1, a2_2) => Option.bind (c115 (a1_0, a1_1, a1_2, a1_3)) fun r1 => bif !(r1) then some a0_0 else Option.bind (c116 (a1_0, a1_1, a1_2, a1_3, a2_0, a2_1, a2_2)) fun r2 => bif !(r2) then some a0_0 else bif a1_2 then bif a2_0 == 0 then bif decide ((List.length a0_0 + List.length ([(0 : Int)] : List Int)) * 1 ≤ 140737488355328) then bif a2_0 == 1 then Option.bind (c145 (a0_0 ++ ([(0 : Int)] : List Int), a2_1)) fun r3 => bif a1_3 then Option.bind (c147 (r3, (List.length a0_0 : Int))) fun r4 => some r4 else some r3 else bif a2_0 == 2 then Option.bind (c87 (a0_0 ++ ([(0 : Int)] : List Int), a2_1)) fun r5 => bif a1_3 then Option.bind (c147 (r5, (List.length a0_0 : Int))) fun r6 => some r6 else some r5 else bif a2_0 == 3 then Option.bind (c146 (a0_0 ++ ([(0 : Int)] : List Int), a2_2)) fun r7 => bif a1_3 then Option.bind (c147 (r7, (List.length a0_0 : Int))) fun r8 => some r8 else some r7 else bif a2_0 == 4 then bif decide ((List.length (a0_0 ++ ([(0 : Int)] : List Int)) + List.length ([wrap .u8 a2_1] : List Int)) * 1 ≤ 140737488355328) then bif a1_3 then Option.bind (c147 ((a0_0 ++ ([(0 : Int)] : List Int)) ++ ([wrap .u8 a2_1] : List Int), (List.length a0_0 : Int))) fun r9 => some r9 else some ((a0_0 ++ ([(0 : Int)] : List Int)) ++ ([wrap .u8 a2_1] : List Int)) else none else bif a1_3 then Option.bind (c147 (a0_0 ++ ([(0 : Int)] : List Int), (List.length a0_0 : Int))) fun r10 => some r10 else some (a0_0 ++ ([(0 : Int)] : List Int)) else none else bif a1_2 then bif decide ((List.length a0_0 + List.length ([(1 : Int)] : List Int)) * 1 ≤ 140737488355328) then bif a2_0 == 1 then Option.bind (c145 (a0_0 ++ ([(1 : Int)] : List Int), a2_1)) fun r11 => bif a1_3 then Option.bind (c147 (r11, (List.length a0_0 : Int))) fun r12 => some r12 else some r11 else bif a2_0 == 2 then Option.bind (c87 (a0_0 ++ ([(1 : Int)] : List Int), a2_1)) fun r13 => bif a1_3 then Option.bind (c147 (r13, (List.length a0_0 : Int))) fun r14 => some r14 else some r13 else bif a2_0 == 3 then Option.bind (c146 (a0_0 ++ ([(1 : Int)] : List Int), a2_2)) fun r15 => bif a1_3 then Option.bind (c147 (r15, (List.length a0_0 : Int))) fun r16 => some r16 else some r15 else bif a2_0 == 4 then bif decide ((List.length (a0_0 ++ ([(1 : Int)] : List Int)) + List.length ([wrap .u8 a2_1] : List Int)) * 1 ≤ 140737488355328) then bif a1_3 then Option.bind (c147 ((a0_0 ++ ([(1 : Int)] : List Int)) ++ ([wrap .u8 a2_1] : List Int), (List.length a0_0 : Int))) fun r17 => some r17 else some ((a0_0 ++ ([(1 : Int)] : List Int)) ++ ([wrap .u8 a2_1] : List Int)) else none else bif a1_3 then Option.bind (c147 (a0_0 ++ ([(1 : Int)] : List Int), (List.length a0_0 : Int))) fun r18 => some r18 else some (a0_0 ++ ([(1 : Int)] : List Int)) else none else bif a2_0 == 1 then Option.bind (c145 (a0_0, a2_1)) fun r19 => bif a1_3 then Option.bind (c147 (r19, (List.length a0_0 : Int))) fun r20 => some r20 else some r19 else bif a2_0 == 2 then Option.bind (c87 (a0_0, a2_1)) fun r21 => bif a1_3 then Option.bind (c147 (r21, (List.length a0_0 : Int))) fun r22 => some r22 else some r21 else bif a2_0 == 3 then Option.bind (c146 (a0_0, a2_2)) fun r23 => bif a1_3 then Option.bind (c147 (r23, (List.length a0_0 : Int))) fun r24 => some r24 else some r23 else bif a2_0 == 4 then bif decide ((List.length a0_0 + List.length ([wrap .u8 a2_1] : List Int)) * 1 ≤ 140737488355328) then bif a1_3 then Option.bind (c147 (a0_0 ++ ([wrap .u8 a2_1] : List Int), (List.length a0_0 : Int))) fun r25 => some r25 else some (a0_0 ++ ([wrap .u8 a2_1] : List Int)) else none else bif a1_3 then Option.bind (c147 (a0_0, (List.length a0_0 : Int))) fun r26 => some r26 else some a0_0 else bif a1_2 then bif decide ((List.length a0_0 + List.length ([(1 : Int)] : List Int)) * 1 ≤ 140737488355328) then bif a2_0 == 1 then Option.bind (c145 (a0_0 ++ ([(1 : Int)] : List Int), a2_1)) fun r27 => bif a1_3 then Option.bind (c147 (r27, (List.length a0_0 : Int))) fun r28 => some r28 else some r27 else bif a2_0 == 2 then Option.bind (c87 (a0_0 ++ ([(1 : Int)] : List Int), a2_1)) fun r29 => bif a1_3 then Option.bind (c147 (r29, (List.length a0_0 : Int))) fun r30 => some r30 else some r29 else bif a2_0 == 3 then Option.bind (c146 (a0_0 ++ ([(1 : Int)] : List Int), a2_2)) fun r31 => bif a1_3 then Option.bind (c147 (r31, (List.length a0_0 : Int))) fun r32 => some r32 else some r31 else bif a2_0 == 4 then bif decide ((List.length (a0_0 ++ ([(1 : Int)] : List Int)) + List.length ([wrap .u8 a2_1] : List Int)) * 1 ≤ 140737488355328) then bif a1_3 then Option.bind (c147 ((a0_0 ++ ([(1 : Int)] : List Int)) ++ ([wrap .u8 a2_1] : List Int), (List.length a0_0 : Int))) fun r33 => some r33 else some ((a0_0 ++ ([(1 : Int)] : List Int)) ++ ([wrap .u8 a2_1] : List Int)) else none else bif a1_3 then Option.bind (c147 (a0_0 ++ ([(1 : Int)] : List Int), (List.length a0_0 : Int))) fun r34 => some r34 else some (a0_0 ++ ([(1 : Int)] : List Int)) else none else bif a2_0 == 1 then Option.bind (c145 (a0_0, a2_1)) fun r35 => bif a1_3 then Option.bind (c147 (r35, (List.length a0_0 : Int))) fun r36 => some r36 else some r35 else bif a2_0 == 2 then Option.bind (c87 (a0_0, a2_1)) fun r37 => bif a1_3 then Option.bind (c147 (r37, (List.length a0_0 : Int))) fun r38 => some r38 else some r37 else bif a2_0 == 3 then Option.bind (c146 (a0_0, a2_2)) fun r39 => bif a1_3 then Option.bind (c147 (r39, (List.length a0_0 : Int))) fun r40 => some r40 else some r39 else bif a2_0 == 4 then bif decide ((List.length a0_0 + List.length ([wrap .u8 a2_1] : List Int)) * 1 ≤ 140737488355328) then bif a1_3 then Option.bind (c147 (a0_0 ++ ([wrap .u8 a2_1] : List Int), (List.length a0_0 : Int))) fun r41 => some r41 else some (a0_0 ++ ([wrap .u8 a2_1] : List Int)) else none else bif a1_3 then Option.bind (c147 (a0_0, (List.length a0_0 : Int))) fun r42 => some r42 else some a0_0
noncomputable def sig : Sig := ⟨[.val false [⟨.row K7, 1, 1, false⟩], .val true [⟨.int .i64, 0, 0, false⟩, ⟨.int .i64, 0, 0, false⟩, ⟨.bool, 0, 0, false⟩, ⟨.bool, 0, 0, false⟩], .val true [⟨.int .i64, 0, 0, false⟩, ⟨.int .i64, 0, 0, false⟩, ⟨.str, 0, 0, false⟩]], [(.one, [(.row K7, 1)])]⟩
noncomputable def hint (_ : Nat) : Hint := ⟨[], []⟩
noncomputable def join (_ : Nat) : Option Hint := none
noncomputable def body : Code := (Tryz.f117).body.getD .skip
noncomputable def rv : List ResultVar := (Tryz.f117).results.toList
noncomputable def fn : Fn := ⟨69, sig, rv, body, hint, join⟩
end impl_addPart
namespace impl_EncodeKey
noncomputable def s0 (c117 : Y28 → Option ((List Int))) (L0 : Y29 → Option ((List Int))) : Y29 → Option ((List Int))
 | (x0, x1, x2, x3, x4) => bif decide (x3 < x2) then bif decide (0 ≤ x3) && decide (x3 < (List.length x1 : Int)) then bif decide (0 ≤ x3) && decide (x3 < (List.length x0 : Int)) then Option.bind (c117 (x4, (getD x0 (toNat x3) Z3).1, (getD x0 (toNat x3) Z3).2.1, (getD x0 (toNat x3) Z3).2.2.1, (getD x0 (toNat x3) Z3).2.2.2, (getD x1 (toNat x3) Z2).1, (getD x1 (toNat x3) Z2).2.1, (getD x1 (toNat x3) Z2).2.2)) fun r3 => L0 (x0, x1, x2, wrap i64 (x3 + 1), r3) else none else none else some x4
noncomputable def ll0 : Y29 → LS
 | (x0, x1, x2, x3, x4) => ⟨[.cv ⟨.row K5, x0⟩, .ref 20 0 [] none 0, .cv ⟨.row K6, x1⟩, .cv ⟨.int .i64, x2⟩, .cv ⟨.int .i64, x3⟩], [⟨true, [⟨0, 0, .mk 1 ⟨.row K7, x4⟩⟩]⟩]⟩
noncomputable def m (c73 : Y15 → Option Bool) (c74 : Y18 → Option Bool) (B0 : Y29 → Option ((List Int))) : Y18 → Option ((List Int))
 | (a0_0, a1_0) => Option.bind (c73 a0_0) fun r1 => bif !(r1) then some ([] : List Int) else Option.bind (c74 (a0_0, a1_0)) fun r2 => bif !(r2) then some ([] : List Int) else B0 (a0_0, a1_0, (List.length a1_0 : Int), (0 : Int), ([] : List Int))
noncomputable def sig : Sig := ⟨[.val false [⟨.row K5, 0, 0, false⟩], .val false [⟨.row K6, 0, 0, false⟩]], [(.one, [(.row K7, 1)])]⟩
noncomputable def hint : Nat → Hint
 | 0 => ⟨[(0, .keep), (5, .own 1 K7), (17, .keep), (18, .keep), (19, .keep)], []⟩
 | _ => ⟨[], []⟩
noncomputable def join (_ : Nat) : Option Hint := none
noncomputable def body : Code := (Tryz.f76).body.getD .skip
noncomputable def rv : List ResultVar := (Tryz.f76).results.toList
noncomputable def fn : Fn := ⟨33, sig, rv, body, hint, join⟩
end impl_EncodeKey
namespace impl_keyOf
noncomputable def m (c14 : Y14 → Option ((List Int))) (c31 : Y18 → Option Y21) (c75 : Y24 → Option Y15) (c76 : Y18 → Option ((List Int))) : Y30 → Option ((List Int))
 | (a0_0, a1_0, a2_0, a3_0) => bif decide (0 ≤ a1_0) && decide (a1_0 < (List.length a0_0 : Int)) then Option.bind (c75 ((getD a0_0 (toNat a1_0) Z0).1, (getD a0_0 (toNat a1_0) Z0).2.1, (getD a0_0 (toNat a1_0) Z0).2.2.1, (getD a0_0 (toNat a1_0) Z0).2.2.2, a2_0)) fun r1 => Option.bind (c14 (a0_0, a1_0, a2_0)) fun r2 => Option.bind (c31 (r1, a3_0)) fun r3 => Option.bind (c76 (r1, r3)) fun r4 => bif decide ((List.length r2 + List.length r4) * 1 ≤ 140737488355328) then some (r2 ++ r4) else none else none
noncomputable def sig : Sig := ⟨[.val false [⟨.row K4, 0, 0, false⟩], .val false [⟨.int .i64, 0, 0, false⟩], .val false [⟨.int .i64, 0, 0, false⟩], .val false [⟨.row K6, 0, 0, false⟩]], [(.one, [(.row K7, 1)])]⟩
noncomputable def hint (_ : Nat) : Hint := ⟨[], []⟩
noncomputable def join (_ : Nat) : Option Hint := none
noncomputable def body : Code := (Tryz.f44).body.getD .skip
noncomputable def rv : List ResultVar := (Tryz.f44).results.toList
noncomputable def fn : Fn := ⟨26, sig, rv, body, hint, join⟩
end impl_keyOf
namespace impl_KeyOf
noncomputable def m (c41 : Y14 → Option Bool) (c42 : Y18 → Option Bool) (c43 : Y1 → Option Y15) (c44 : Y30 → Option ((List Int))) : Y30 → Option ((List Int))
 | (a0_0, a1_0, a2_0, a3_0) => Option.bind (c41 (a0_0, a1_0, a2_0)) fun r1 => bif !(r1) then some ([] : List Int) else bif decide (0 ≤ a1_0) && decide (a1_0 < (List.length a0_0 : Int)) then Option.bind (c43 ((getD a0_0 (toNat a1_0) Z0).1, (getD a0_0 (toNat a1_0) Z0).2.1, (getD a0_0 (toNat a1_0) Z0).2.2.1, (getD a0_0 (toNat a1_0) Z0).2.2.2)) fun r2 => Option.bind (c42 (r2, a3_0)) fun r3 => bif !(r3) then some ([] : List Int) else Option.bind (c44 (a0_0, a1_0, a2_0, a3_0)) fun r4 => some r4 else none
noncomputable def sig : Sig := ⟨[.val false [⟨.row K4, 0, 0, false⟩], .val false [⟨.int .i64, 0, 0, false⟩], .val false [⟨.int .i64, 0, 0, false⟩], .val false [⟨.row K6, 0, 0, false⟩]], [(.one, [(.row K7, 1)])]⟩
noncomputable def hint (_ : Nat) : Hint := ⟨[], []⟩
noncomputable def join (_ : Nat) : Option Hint := none
noncomputable def body : Code := (Tryz.f12).body.getD .skip
noncomputable def rv : List ResultVar := (Tryz.f12).results.toList
noncomputable def fn : Fn := ⟨29, sig, rv, body, hint, join⟩
end impl_KeyOf
namespace spec_l1In
noncomputable def m  : (Int × Int × Int) → Option Bool
 | (a0_0, a1_0, a2_0) => bif decide (a0_0 ≥ a1_0) then some (decide (a0_0 ≤ a2_0)) else some false
noncomputable def sig : Sig := ⟨[.val false [⟨.int .i64, 0, 0, false⟩], .val false [⟨.int .i64, 0, 0, false⟩], .val false [⟨.int .i64, 0, 0, false⟩]], [(.one, [(.bool, 0)])]⟩
noncomputable def hint (_ : Nat) : Hint := ⟨[], []⟩
noncomputable def join (_ : Nat) : Option Hint := none
noncomputable def body : Code := (Tryz.f78).body.getD .skip
noncomputable def rv : List ResultVar := (Tryz.f78).results.toList
noncomputable def fn : Fn := ⟨15, sig, rv, body, hint, join⟩
end spec_l1In
namespace spec_l8Small
noncomputable def m (c78 : (Int × Int × Int) → Option Bool) : Int → Option Bool
 | a0_0 => Option.bind (c78 (wrap i64 a0_0, (97 : Int), (122 : Int))) fun r1 => some r1
noncomputable def sig : Sig := ⟨[.val false [⟨.int .u8, 0, 0, false⟩]], [(.one, [(.bool, 0)])]⟩
noncomputable def hint (_ : Nat) : Hint := ⟨[], []⟩
noncomputable def join (_ : Nat) : Option Hint := none
noncomputable def body : Code := (Tryz.f164).body.getD .skip
noncomputable def rv : List ResultVar := (Tryz.f164).results.toList
noncomputable def fn : Fn := ⟨6, sig, rv, body, hint, join⟩
end spec_l8Small
namespace spec_l2Digit
noncomputable def m (c78 : (Int × Int × Int) → Option Bool) : Int → Option Bool
 | a0_0 => Option.bind (c78 (wrap i64 a0_0, (48 : Int), (57 : Int))) fun r1 => some r1
noncomputable def sig : Sig := ⟨[.val false [⟨.int .u8, 0, 0, false⟩]], [(.one, [(.bool, 0)])]⟩
noncomputable def hint (_ : Nat) : Hint := ⟨[], []⟩
noncomputable def join (_ : Nat) : Option Hint := none
noncomputable def body : Code := (Tryz.f165).body.getD .skip
noncomputable def rv : List ResultVar := (Tryz.f165).results.toList
noncomputable def fn : Fn := ⟨6, sig, rv, body, hint, join⟩
end spec_l2Digit
namespace spec_l8Name
noncomputable def s0 (c78 : (Int × Int × Int) → Option Bool) (c164 c165 : Int → Option Bool) (L0 : (ByteArray × Int) → Option Bool) : (ByteArray × Int) → Option Bool
 | (x0, x1) => bif decide (x1 < (ByteArray.size x0 : Int)) then bif decide (0 ≤ x1) && decide (x1 < (ByteArray.size x0 : Int)) then Option.bind (c164 ((ByteArray.get! x0 (toNat x1)).toNat : Int)) fun r1 => bif !(r1) then bif x1 == 0 then some false else bif decide (0 ≤ x1) && decide (x1 < (ByteArray.size x0 : Int)) then Option.bind (c165 ((ByteArray.get! x0 (toNat x1)).toNat : Int)) fun r2 => bif !(r2) then some false else L0 (x0, wrap i64 (x1 + 1)) else none else L0 (x0, wrap i64 (x1 + 1)) else none else Option.bind (c78 ((ByteArray.size x0 : Int), (1 : Int), (8 : Int))) fun r3 => some r3
noncomputable def ll0 : (ByteArray × Int) → LS
 | (x0, x1) => ⟨[.cv ⟨.str, x0⟩, .cv ⟨.int .i64, x1⟩], []⟩
noncomputable def m (B0 : (ByteArray × Int) → Option Bool) : ByteArray → Option Bool
 | a0_0 => B0 (a0_0, (0 : Int))
noncomputable def sig : Sig := ⟨[.val false [⟨.str, 0, 0, false⟩]], [(.one, [(.bool, 0)])]⟩
noncomputable def hint : Nat → Hint
 | 0 => ⟨[(0, .keep), (3, .keep)], []⟩
 | _ => ⟨[], []⟩
noncomputable def join (_ : Nat) : Option Hint := none
noncomputable def body : Code := (Tryz.f157).body.getD .skip
noncomputable def rv : List ResultVar := (Tryz.f157).results.toList
noncomputable def fn : Fn := ⟨29, sig, rv, body, hint, join⟩
end spec_l8Name
namespace spec_l9Has
noncomputable def s0 (L0 : Y32 → Option Bool) : Y32 → Option Bool
 | (x0, x1, x2) => bif decide (x2 < (List.length x0 : Int)) then bif decide (0 ≤ x2) && decide (x2 < (List.length x0 : Int)) then bif ByteArray.toList (getD x0 (toNat x2) ByteArray.empty) == ByteArray.toList x1 then some true else L0 (x0, x1, wrap i64 (x2 + 1)) else none else some false
noncomputable def ll0 : Y32 → LS
 | (x0, x1, x2) => ⟨[.cv ⟨.row K0, x0⟩, .cv ⟨.str, x1⟩, .cv ⟨.int .i64, x2⟩], []⟩
noncomputable def m (B0 : Y32 → Option Bool) : Y31 → Option Bool
 | (a0_0, a1_0) => B0 (a0_0, a1_0, (0 : Int))
noncomputable def sig : Sig := ⟨[.val false [⟨.row K0, 0, 0, false⟩], .val false [⟨.str, 0, 0, false⟩]], [(.one, [(.bool, 0)])]⟩
noncomputable def hint : Nat → Hint
 | 0 => ⟨[(0, .keep), (1, .keep), (5, .keep)], []⟩
 | _ => ⟨[], []⟩
noncomputable def join (_ : Nat) : Option Hint := none
noncomputable def body : Code := (Tryz.f158).body.getD .skip
noncomputable def rv : List ResultVar := (Tryz.f158).results.toList
noncomputable def fn : Fn := ⟨18, sig, rv, body, hint, join⟩
end spec_l9Has
namespace spec_l9Word
noncomputable def m (c157 : ByteArray → Option Bool) (c158 : Y31 → Option Bool) : ByteArray → Option Bool
 | a0_0 => Option.bind (c157 a0_0) fun r1 => bif r1 then Option.bind (c158 (([({ data := #[116, 97, 98, 108, 101] } : ByteArray), ({ data := #[112, 114, 105, 109, 97, 114, 121] } : ByteArray), ({ data := #[117, 110, 105, 113, 117, 101] } : ByteArray), ({ data := #[105, 110, 100, 101, 120] } : ByteArray), ({ data := #[110, 117, 108, 108] } : ByteArray), ({ data := #[100, 101, 115, 99] } : ByteArray), ({ data := #[105, 110, 116] } : ByteArray), ({ data := #[110, 117, 109] } : ByteArray), ({ data := #[116, 101, 120, 116] } : ByteArray), ({ data := #[98, 111, 111, 108] } : ByteArray)] : List ByteArray), a0_0)) fun r2 => some (!(r2)) else some false
noncomputable def sig : Sig := ⟨[.val false [⟨.str, 0, 0, false⟩]], [(.one, [(.bool, 0)])]⟩
noncomputable def hint (_ : Nat) : Hint := ⟨[], []⟩
noncomputable def join (_ : Nat) : Option Hint := none
noncomputable def body : Code := (Tryz.f149).body.getD .skip
noncomputable def rv : List ResultVar := (Tryz.f149).results.toList
noncomputable def fn : Fn := ⟨11, sig, rv, body, hint, join⟩
end spec_l9Word
namespace spec_l9Names
noncomputable def s0 (c149 : ByteArray → Option Bool) (B2 L0 : Y33 → Option Bool) : Y33 → Option Bool
 | (x0, x1, x2, x3, x4) => bif decide (x0 < (List.length x2 : Int)) then bif decide (0 ≤ x0) && decide (x0 < (List.length x2 : Int)) then Option.bind (c149 ((getD x2 (toNat x0) Z4).1)) fun r1 => bif !(r1) then some false else L0 (wrap i64 (x0 + 1), x1, x2, x3, x4) else none else B2 ((0 : Int), x1, x2, x3, x4)
noncomputable def ll0 : Y33 → LS
 | (x0, x1, x2, x3, x4) => ⟨[.addr 65 0 [] 0, .cv ⟨.int .i64, x0⟩], [⟨false, [⟨0, 0, .mk 0 ⟨.str, x1⟩⟩, ⟨0, 0, .mk 0 ⟨.row K1, x2⟩⟩, ⟨0, 0, .mk 0 ⟨.row K2, x3⟩⟩, ⟨0, 0, .mk 0 ⟨.row K3, x4⟩⟩]⟩]⟩
noncomputable def s2 (c149 : ByteArray → Option Bool) (L2 : Y33 → Option Bool) : Y33 → Option Bool
 | (x0, x1, x2, x3, x4) => bif decide (x0 < (List.length x4 : Int)) then bif decide (0 ≤ x0) && decide (x0 < (List.length x4 : Int)) then Option.bind (c149 ((getD x4 (toNat x0) Z1).1)) fun r2 => bif !(r2) then some false else L2 (wrap i64 (x0 + 1), x1, x2, x3, x4) else none else Option.bind (c149 x1) fun r3 => some r3
noncomputable def ll2 : Y33 → LS
 | (x0, x1, x2, x3, x4) => ⟨[.addr 65 0 [] 0, .cv ⟨.int .i64, x0⟩], [⟨false, [⟨0, 0, .mk 0 ⟨.str, x1⟩⟩, ⟨0, 0, .mk 0 ⟨.row K1, x2⟩⟩, ⟨0, 0, .mk 0 ⟨.row K2, x3⟩⟩, ⟨0, 0, .mk 0 ⟨.row K3, x4⟩⟩]⟩]⟩
noncomputable def m (B0 : Y33 → Option Bool) : Y1 → Option Bool
 | (a0_0, a0_1, a0_2, a0_3) => B0 ((0 : Int), a0_0, a0_1, a0_2, a0_3)
noncomputable def sig : Sig := ⟨[.val true [⟨.str, 0, 0, false⟩, ⟨.row K1, 0, 0, false⟩, ⟨.row K2, 0, 0, false⟩, ⟨.row K3, 0, 0, false⟩]], [(.one, [(.bool, 0)])]⟩
noncomputable def hint : Nat → Hint
 | 0 => ⟨[(1, .keep), (3, .keep)], [(65, [0, 0, 0, 0])]⟩
 | 2 => ⟨[(1, .keep), (4, .keep)], [(65, [0, 0, 0, 0])]⟩
 | _ => ⟨[], []⟩
noncomputable def join (_ : Nat) : Option Hint := none
noncomputable def body : Code := (Tryz.f120).body.getD .skip
noncomputable def rv : List ResultVar := (Tryz.f120).results.toList
noncomputable def fn : Fn := ⟨38, sig, rv, body, hint, join⟩
end spec_l9Names
namespace spec_l9Types
noncomputable def s0 (c78 : (Int × Int × Int) → Option Bool) (L0 : Y33 → Option Bool) : Y33 → Option Bool
 | (x0, x1, x2, x3, x4) => bif decide (x0 < (List.length x2 : Int)) then bif decide (0 ≤ x0) && decide (x0 < (List.length x2 : Int)) then Option.bind (c78 ((getD x2 (toNat x0) Z4).2.1, (1 : Int), (4 : Int))) fun r1 => bif !(r1) then some false else L0 (wrap i64 (x0 + 1), x1, x2, x3, x4) else none else Option.bind (c78 ((List.length x2 : Int), (1 : Int), (6 : Int))) fun r2 => some r2
noncomputable def ll0 : Y33 → LS
 | (x0, x1, x2, x3, x4) => ⟨[.addr 65 0 [] 0, .cv ⟨.int .i64, x0⟩], [⟨false, [⟨0, 0, .mk 0 ⟨.str, x1⟩⟩, ⟨0, 0, .mk 0 ⟨.row K1, x2⟩⟩, ⟨0, 0, .mk 0 ⟨.row K2, x3⟩⟩, ⟨0, 0, .mk 0 ⟨.row K3, x4⟩⟩]⟩]⟩
noncomputable def m (B0 : Y33 → Option Bool) : Y1 → Option Bool
 | (a0_0, a0_1, a0_2, a0_3) => B0 ((0 : Int), a0_0, a0_1, a0_2, a0_3)
noncomputable def sig : Sig := ⟨[.val true [⟨.str, 0, 0, false⟩, ⟨.row K1, 0, 0, false⟩, ⟨.row K2, 0, 0, false⟩, ⟨.row K3, 0, 0, false⟩]], [(.one, [(.bool, 0)])]⟩
noncomputable def hint : Nat → Hint
 | 0 => ⟨[(1, .keep), (3, .keep)], [(65, [0, 0, 0, 0])]⟩
 | _ => ⟨[], []⟩
noncomputable def join (_ : Nat) : Option Hint := none
noncomputable def body : Code := (Tryz.f121).body.getD .skip
noncomputable def rv : List ResultVar := (Tryz.f121).results.toList
noncomputable def fn : Fn := ⟨23, sig, rv, body, hint, join⟩
end spec_l9Types
namespace spec_l9Col
noncomputable def s0 (L0 : Y35 → Option Int) : Y35 → Option Int
 | (x0, x1, x2, x3, x4, x5) => bif decide (x1 < (List.length x3 : Int)) then bif decide (0 ≤ x1) && decide (x1 < (List.length x3 : Int)) then bif ByteArray.toList ((getD x3 (toNat x1) Z4).1) == ByteArray.toList x0 then some x1 else L0 (x0, wrap i64 (x1 + 1), x2, x3, x4, x5) else none else some (-1 : Int)
noncomputable def ll0 : Y35 → LS
 | (x0, x1, x2, x3, x4, x5) => ⟨[.cv ⟨.str, x0⟩, .addr 129 0 [] 0, .cv ⟨.int .i64, x1⟩], [⟨false, [⟨0, 0, .mk 0 ⟨.str, x2⟩⟩, ⟨0, 0, .mk 0 ⟨.row K1, x3⟩⟩, ⟨0, 0, .mk 0 ⟨.row K2, x4⟩⟩, ⟨0, 0, .mk 0 ⟨.row K3, x5⟩⟩]⟩]⟩
noncomputable def m (B0 : Y35 → Option Int) : Y34 → Option Int
 | (a0_0, a0_1, a0_2, a0_3, a1_0) => B0 (a1_0, (0 : Int), a0_0, a0_1, a0_2, a0_3)
noncomputable def sig : Sig := ⟨[.val true [⟨.str, 0, 0, false⟩, ⟨.row K1, 0, 0, false⟩, ⟨.row K2, 0, 0, false⟩, ⟨.row K3, 0, 0, false⟩], .val false [⟨.str, 0, 0, false⟩]], [(.one, [(.int .i64, 0)])]⟩
noncomputable def hint : Nat → Hint
 | 0 => ⟨[(1, .keep), (2, .keep), (5, .keep)], [(129, [0, 0, 0, 0])]⟩
 | _ => ⟨[], []⟩
noncomputable def join (_ : Nat) : Option Hint := none
noncomputable def body : Code := (Tryz.f150).body.getD .skip
noncomputable def rv : List ResultVar := (Tryz.f150).results.toList
noncomputable def fn : Fn := ⟨22, sig, rv, body, hint, join⟩
end spec_l9Col
namespace spec_l9Once
noncomputable def s0 (c150 : Y34 → Option Int) (B2 L0 : Y33 → Option Bool) : Y33 → Option Bool
 | (x0, x1, x2, x3, x4) => bif decide (x0 < (List.length x2 : Int)) then bif decide (0 ≤ x0) && decide (x0 < (List.length x2 : Int)) then Option.bind (c150 (x1, x2, x3, x4, (getD x2 (toNat x0) Z4).1)) fun r1 => bif r1 != x0 then some false else L0 (wrap i64 (x0 + 1), x1, x2, x3, x4) else none else B2 ((0 : Int), x1, x2, x3, x4)
noncomputable def ll0 : Y33 → LS
 | (x0, x1, x2, x3, x4) => ⟨[.addr 65 0 [] 0, .cv ⟨.int .i64, x0⟩], [⟨false, [⟨0, 0, .mk 0 ⟨.str, x1⟩⟩, ⟨0, 0, .mk 0 ⟨.row K1, x2⟩⟩, ⟨0, 0, .mk 0 ⟨.row K2, x3⟩⟩, ⟨0, 0, .mk 0 ⟨.row K3, x4⟩⟩]⟩]⟩
noncomputable def s2 (B4 : Y36 → Option Bool) (L2 : Y33 → Option Bool) : Y33 → Option Bool
 | (x0, x1, x2, x3, x4) => bif decide (x0 < (List.length x4 : Int)) then B4 (x0, (0 : Int), x1, x2, x3, x4) else some true
noncomputable def ll2 : Y33 → LS
 | (x0, x1, x2, x3, x4) => ⟨[.addr 65 0 [] 0, .cv ⟨.int .i64, x0⟩], [⟨false, [⟨0, 0, .mk 0 ⟨.str, x1⟩⟩, ⟨0, 0, .mk 0 ⟨.row K1, x2⟩⟩, ⟨0, 0, .mk 0 ⟨.row K2, x3⟩⟩, ⟨0, 0, .mk 0 ⟨.row K3, x4⟩⟩]⟩]⟩
noncomputable def s4 (L2 : Y33 → Option Bool) (L4 : Y36 → Option Bool) : Y36 → Option Bool
 | (x0, x1, x2, x3, x4, x5) => bif decide (x1 < x0) then bif decide (0 ≤ x1) && decide (x1 < (List.length x5 : Int)) then bif decide (0 ≤ x0) && decide (x0 < (List.length x5 : Int)) then bif ByteArray.toList ((getD x5 (toNat x1) Z1).1) == ByteArray.toList ((getD x5 (toNat x0) Z1).1) then some false else L4 (x0, wrap i64 (x1 + 1), x2, x3, x4, x5) else none else none else L2 (wrap i64 (x0 + 1), x2, x3, x4, x5)
noncomputable def ll4 : Y36 → LS
 | (x0, x1, x2, x3, x4, x5) => ⟨[.addr 65 0 [] 0, .cv ⟨.int .i64, x0⟩, .cv ⟨.int .i64, x1⟩], [⟨false, [⟨0, 0, .mk 0 ⟨.str, x2⟩⟩, ⟨0, 0, .mk 0 ⟨.row K1, x3⟩⟩, ⟨0, 0, .mk 0 ⟨.row K2, x4⟩⟩, ⟨0, 0, .mk 0 ⟨.row K3, x5⟩⟩]⟩]⟩
noncomputable def m (B0 : Y33 → Option Bool) : Y1 → Option Bool
 | (a0_0, a0_1, a0_2, a0_3) => B0 ((0 : Int), a0_0, a0_1, a0_2, a0_3)
noncomputable def sig : Sig := ⟨[.val true [⟨.str, 0, 0, false⟩, ⟨.row K1, 0, 0, false⟩, ⟨.row K2, 0, 0, false⟩, ⟨.row K3, 0, 0, false⟩]], [(.one, [(.bool, 0)])]⟩
noncomputable def hint : Nat → Hint
 | 0 => ⟨[(1, .keep), (3, .keep)], [(65, [0, 0, 0, 0])]⟩
 | 2 => ⟨[(1, .keep), (4, .keep)], [(65, [0, 0, 0, 0])]⟩
 | 4 => ⟨[(1, .keep), (4, .keep), (5, .keep)], [(65, [0, 0, 0, 0])]⟩
 | _ => ⟨[], []⟩
noncomputable def join (_ : Nat) : Option Hint := none
noncomputable def body : Code := (Tryz.f122).body.getD .skip
noncomputable def rv : List ResultVar := (Tryz.f122).results.toList
noncomputable def fn : Fn := ⟨48, sig, rv, body, hint, join⟩
end spec_l9Once
namespace spec_l9Parts
noncomputable def s0 (c78 : (Int × Int × Int) → Option Bool) (L0 : Y37 → Option Bool) : Y37 → Option Bool
 | (x0, x1, x2, x3, x4, x5) => bif decide (x1 < (List.length x0 : Int)) then bif decide (0 ≤ x1) && decide (x1 < (List.length x0 : Int)) then Option.bind (c78 ((getD x0 (toNat x1) Z5).1, (0 : Int), wrap i64 ((List.length x3 : Int) - 1))) fun r1 => bif !(r1) then some false else bif decide (x1 > 0) then bif decide (0 ≤ 0) && decide ((0 : Int) < (List.length x0 : Int)) then bif decide (0 ≤ x1) && decide (x1 < (List.length x0 : Int)) then bif ((getD x0 (toNat (0 : Int)) Z5).1) == ((getD x0 (toNat x1) Z5).1) then some false else L0 (x0, wrap i64 (x1 + 1), x2, x3, x4, x5) else none else none else L0 (x0, wrap i64 (x1 + 1), x2, x3, x4, x5) else none else Option.bind (c78 ((List.length x0 : Int), (1 : Int), (2 : Int))) fun r2 => some r2
noncomputable def ll0 : Y37 → LS
 | (x0, x1, x2, x3, x4, x5) => ⟨[.cv ⟨.row K2, x0⟩, .addr 129 0 [] 0, .cv ⟨.int .i64, x1⟩], [⟨false, [⟨0, 0, .mk 0 ⟨.str, x2⟩⟩, ⟨0, 0, .mk 0 ⟨.row K1, x3⟩⟩, ⟨0, 0, .mk 0 ⟨.row K2, x4⟩⟩, ⟨0, 0, .mk 0 ⟨.row K3, x5⟩⟩]⟩]⟩
noncomputable def m (B0 : Y37 → Option Bool) : Y7 → Option Bool
 | (a0_0, a0_1, a0_2, a0_3, a1_0) => B0 (a1_0, (0 : Int), a0_0, a0_1, a0_2, a0_3)
noncomputable def sig : Sig := ⟨[.val true [⟨.str, 0, 0, false⟩, ⟨.row K1, 0, 0, false⟩, ⟨.row K2, 0, 0, false⟩, ⟨.row K3, 0, 0, false⟩], .val false [⟨.row K2, 0, 0, false⟩]], [(.one, [(.bool, 0)])]⟩
noncomputable def hint : Nat → Hint
 | 0 => ⟨[(1, .keep), (2, .keep), (5, .keep)], [(129, [0, 0, 0, 0])]⟩
 | _ => ⟨[], []⟩
noncomputable def join (_ : Nat) : Option Hint := none
noncomputable def body : Code := (Tryz.f151).body.getD .skip
noncomputable def rv : List ResultVar := (Tryz.f151).results.toList
noncomputable def fn : Fn := ⟨42, sig, rv, body, hint, join⟩
end spec_l9Parts
namespace spec_l9AllParts
noncomputable def s0 (c151 : Y7 → Option Bool) (L0 : Y33 → Option Bool) : Y33 → Option Bool
 | (x0, x1, x2, x3, x4) => bif decide (x0 < (List.length x4 : Int)) then bif decide (0 ≤ x0) && decide (x0 < (List.length x4 : Int)) then Option.bind (c151 (x1, x2, x3, x4, (getD x4 (toNat x0) Z1).2.2)) fun r1 => bif !(r1) then some false else L0 (wrap i64 (x0 + 1), x1, x2, x3, x4) else none else Option.bind (c151 (x1, x2, x3, x4, x3)) fun r2 => some r2
noncomputable def ll0 : Y33 → LS
 | (x0, x1, x2, x3, x4) => ⟨[.addr 65 0 [] 0, .cv ⟨.int .i64, x0⟩], [⟨false, [⟨0, 0, .mk 0 ⟨.str, x1⟩⟩, ⟨0, 0, .mk 0 ⟨.row K1, x2⟩⟩, ⟨0, 0, .mk 0 ⟨.row K2, x3⟩⟩, ⟨0, 0, .mk 0 ⟨.row K3, x4⟩⟩]⟩]⟩
noncomputable def m (B0 : Y33 → Option Bool) : Y1 → Option Bool
 | (a0_0, a0_1, a0_2, a0_3) => B0 ((0 : Int), a0_0, a0_1, a0_2, a0_3)
noncomputable def sig : Sig := ⟨[.val true [⟨.str, 0, 0, false⟩, ⟨.row K1, 0, 0, false⟩, ⟨.row K2, 0, 0, false⟩, ⟨.row K3, 0, 0, false⟩]], [(.one, [(.bool, 0)])]⟩
noncomputable def hint : Nat → Hint
 | 0 => ⟨[(1, .keep), (3, .keep)], [(65, [0, 0, 0, 0])]⟩
 | _ => ⟨[], []⟩
noncomputable def join (_ : Nat) : Option Hint := none
noncomputable def body : Code := (Tryz.f123).body.getD .skip
noncomputable def rv : List ResultVar := (Tryz.f123).results.toList
noncomputable def fn : Fn := ⟨24, sig, rv, body, hint, join⟩
end spec_l9AllParts
namespace spec_CheckDef
noncomputable def s1 (L1 : Y33 → Option Int) : Y33 → Option Int
 | (x0, x1, x2, x3, x4) => bif decide (x0 < (List.length x3 : Int)) then bif decide (0 ≤ x0) && decide (x0 < (List.length x3 : Int)) then bif decide (0 ≤ ((getD x3 (toNat x0) Z5).1)) && decide (((getD x3 (toNat x0) Z5).1) < (List.length x2 : Int)) then bif (getD x2 (toNat ((getD x3 (toNat x0) Z5).1)) Z4).2.2 then some (4 : Int) else L1 (wrap i64 (x0 + 1), x1, x2, x3, x4) else none else none else some (0 : Int)
noncomputable def ll1 : Y33 → LS
 | (x0, x1, x2, x3, x4) => ⟨[.addr 65 0 [] 0, .cv ⟨.int .i64, x0⟩], [⟨false, [⟨0, 0, .mk 0 ⟨.str, x1⟩⟩, ⟨0, 0, .mk 0 ⟨.row K1, x2⟩⟩, ⟨0, 0, .mk 0 ⟨.row K2, x3⟩⟩, ⟨0, 0, .mk 0 ⟨.row K3, x4⟩⟩]⟩]⟩
noncomputable def m (c120 c121 c122 c123 : Y1 → Option Bool) (B1 : Y33 → Option Int) : Y1 → Option Int
 | (a0_0, a0_1, a0_2, a0_3) => Option.bind (c120 (a0_0, a0_1, a0_2, a0_3)) fun r1 => bif !(r1) then some (1 : Int) else Option.bind (c121 (a0_0, a0_1, a0_2, a0_3)) fun r2 => bif !(r2) then some (2 : Int) else Option.bind (c122 (a0_0, a0_1, a0_2, a0_3)) fun r3 => bif !(r3) then some (3 : Int) else bif decide ((List.length a0_3 : Int) > 2) then some (6 : Int) else Option.bind (c123 (a0_0, a0_1, a0_2, a0_3)) fun r4 => bif !(r4) then some (5 : Int) else B1 ((0 : Int), a0_0, a0_1, a0_2, a0_3)
noncomputable def sig : Sig := ⟨[.val true [⟨.str, 0, 0, false⟩, ⟨.row K1, 0, 0, false⟩, ⟨.row K2, 0, 0, false⟩, ⟨.row K3, 0, 0, false⟩]], [(.one, [(.int .i64, 0)])]⟩
noncomputable def hint : Nat → Hint
 | 1 => ⟨[(1, .keep), (3, .keep)], [(65, [0, 0, 0, 0])]⟩
 | _ => ⟨[], []⟩
noncomputable def join (_ : Nat) : Option Hint := none
noncomputable def body : Code := (Tryz.f81).body.getD .skip
noncomputable def rv : List ResultVar := (Tryz.f81).results.toList
noncomputable def fn : Fn := ⟨43, sig, rv, body, hint, join⟩
end spec_CheckDef
namespace spec_FirstBad
noncomputable def s0 (c81 : Y1 → Option Int) (B2 : Y38 → Option Int) (L0 : Y39 → Option Int) : Y39 → Option Int
 | (x0, x1) => bif decide (x1 < (List.length x0 : Int)) then bif decide (0 ≤ x1) && decide (x1 < (List.length x0 : Int)) then Option.bind (c81 ((getD x0 (toNat x1) Z0).1, (getD x0 (toNat x1) Z0).2.1, (getD x0 (toNat x1) Z0).2.2.1, (getD x0 (toNat x1) Z0).2.2.2)) fun r1 => bif r1 != 0 then some x1 else bif decide (x1 > 2) then some x1 else B2 (x0, x1, (0 : Int), x1, decide (x1 > 2)) else none else some (-1 : Int)
noncomputable def ll0 : Y39 → LS
 | (x0, x1) => ⟨[.cv ⟨.row K4, x0⟩, .cv ⟨.int .i64, x1⟩], []⟩
noncomputable def s2 (L0 : Y39 → Option Int) (L2 : Y38 → Option Int) : Y38 → Option Int
 | (x0, x1, x2, x3, x4) => bif decide (x2 < x1) then bif decide (0 ≤ x2) && decide (x2 < (List.length x0 : Int)) then bif decide (0 ≤ x1) && decide (x1 < (List.length x0 : Int)) then bif ByteArray.toList ((getD x0 (toNat x2) Z0).1) == ByteArray.toList ((getD x0 (toNat x1) Z0).1) then some x1 else L2 (x0, x1, wrap i64 (x2 + 1), x3, x4) else none else none else L0 (x0, wrap i64 (x1 + 1))
noncomputable def ll2 : Y38 → LS
 | (x0, x1, x2, x3, x4) => ⟨[.cv ⟨.row K4, x0⟩, .cv ⟨.int .i64, x1⟩, .cv ⟨.int .i64, x2⟩, .cv ⟨.int .i64, x3⟩, .cv ⟨.bool, x4⟩], []⟩
noncomputable def m (B0 : Y39 → Option Int) : Y11 → Option Int
 | a0_0 => B0 (a0_0, (0 : Int))
noncomputable def sig : Sig := ⟨[.val false [⟨.row K4, 0, 0, false⟩]], [(.one, [(.int .i64, 0)])]⟩
noncomputable def hint : Nat → Hint
 | 0 => ⟨[(0, .keep), (3, .keep)], []⟩
 | 2 => ⟨[(0, .keep), (3, .keep), (4, .keep), (18, .keep), (19, .keep)], []⟩
 | _ => ⟨[], []⟩
noncomputable def join (_ : Nat) : Option Hint := none
noncomputable def body : Code := (Tryz.f77).body.getD .skip
noncomputable def rv : List ResultVar := (Tryz.f77).results.toList
noncomputable def fn : Fn := ⟨39, sig, rv, body, hint, join⟩
end spec_FirstBad
namespace spec_l11There
noncomputable def m (c77 : Y11 → Option Int) (c78 : (Int × Int × Int) → Option Bool) : Y14 → Option Bool
 | (a0_0, a1_0, a2_0) => Option.bind (c77 a0_0) fun r1 => bif r1 == (-1) then Option.bind (c78 (a1_0, (0 : Int), wrap i64 ((List.length a0_0 : Int) - 1))) fun r2 => bif r2 then bif decide (0 ≤ a1_0) && decide (a1_0 < (List.length a0_0 : Int)) then Option.bind (c78 (a2_0, (-1 : Int), wrap i64 ((List.length ((getD a0_0 (toNat a1_0) Z0).2.2.2) : Int) - 1))) fun r3 => some r3 else none else some false else some false
noncomputable def sig : Sig := ⟨[.val false [⟨.row K4, 0, 0, false⟩], .val false [⟨.int .i64, 0, 0, false⟩], .val false [⟨.int .i64, 0, 0, false⟩]], [(.one, [(.bool, 0)])]⟩
noncomputable def hint (_ : Nat) : Hint := ⟨[], []⟩
noncomputable def join (_ : Nat) : Option Hint := none
noncomputable def body : Code := (Tryz.f45).body.getD .skip
noncomputable def rv : List ResultVar := (Tryz.f45).results.toList
noncomputable def fn : Fn := ⟨28, sig, rv, body, hint, join⟩
end spec_l11There
namespace spec_PartOk
noncomputable def m (c78 : (Int × Int × Int) → Option Bool) : (Int × Int × Bool × Bool) → Option Bool
 | (a0_0, a0_1, a0_2, a0_3) => Option.bind (c78 (a0_0, (0 : Int), (9 : Int))) fun r1 => bif r1 then Option.bind (c78 (a0_1, (1 : Int), (4 : Int))) fun r2 => some r2 else some false
noncomputable def sig : Sig := ⟨[.val true [⟨.int .i64, 0, 0, false⟩, ⟨.int .i64, 0, 0, false⟩, ⟨.bool, 0, 0, false⟩, ⟨.bool, 0, 0, false⟩]], [(.one, [(.bool, 0)])]⟩
noncomputable def hint (_ : Nat) : Hint := ⟨[], []⟩
noncomputable def join (_ : Nat) : Option Hint := none
noncomputable def body : Code := (Tryz.f118).body.getD .skip
noncomputable def rv : List ResultVar := (Tryz.f118).results.toList
noncomputable def fn : Fn := ⟨11, sig, rv, body, hint, join⟩
end spec_PartOk
namespace spec_PlanOk
noncomputable def s0 (c118 : (Int × Int × Bool × Bool) → Option Bool) (L0 : Y40 → Option Bool) : Y40 → Option Bool
 | (x0, x1) => bif decide (x1 < (List.length x0 : Int)) then bif decide (0 ≤ x1) && decide (x1 < (List.length x0 : Int)) then Option.bind (c118 ((getD x0 (toNat x1) Z3).1, (getD x0 (toNat x1) Z3).2.1, (getD x0 (toNat x1) Z3).2.2.1, (getD x0 (toNat x1) Z3).2.2.2)) fun r1 => bif !(r1) then some false else L0 (x0, wrap i64 (x1 + 1)) else none else some (decide ((List.length x0 : Int) ≤ 6))
noncomputable def ll0 : Y40 → LS
 | (x0, x1) => ⟨[.cv ⟨.row K5, x0⟩, .cv ⟨.int .i64, x1⟩], []⟩
noncomputable def m (B0 : Y40 → Option Bool) : Y15 → Option Bool
 | a0_0 => B0 (a0_0, (0 : Int))
noncomputable def sig : Sig := ⟨[.val false [⟨.row K5, 0, 0, false⟩]], [(.one, [(.bool, 0)])]⟩
noncomputable def hint : Nat → Hint
 | 0 => ⟨[(0, .keep), (3, .keep)], []⟩
 | _ => ⟨[], []⟩
noncomputable def join (_ : Nat) : Option Hint := none
noncomputable def body : Code := (Tryz.f79).body.getD .skip
noncomputable def rv : List ResultVar := (Tryz.f79).results.toList
noncomputable def fn : Fn := ⟨19, sig, rv, body, hint, join⟩
end spec_PlanOk
namespace spec_ValOk
noncomputable def m (c78 : (Int × Int × Int) → Option Bool) : (Int × Int × ByteArray) → Option Bool
 | (a0_0, a0_1, a0_2) => bif a0_0 == 0 then bif a0_1 == 0 then some (ByteArray.toList a0_2 == ByteArray.toList ({ data := #[] } : ByteArray)) else some false else bif a0_0 == 1 then Option.bind (c78 (a0_1, (-2147483648 : Int), (2147483647 : Int))) fun r1 => bif r1 then some (ByteArray.toList a0_2 == ByteArray.toList ({ data := #[] } : ByteArray)) else some false else bif a0_0 == 2 then Option.bind (c78 (a0_1, (-1000000000000000 : Int), (1000000000000000 : Int))) fun r2 => bif r2 then some (ByteArray.toList a0_2 == ByteArray.toList ({ data := #[] } : ByteArray)) else some false else bif a0_0 == 3 then bif decide ((ByteArray.size a0_2 : Int) ≤ 30) then some (a0_1 == 0) else some false else bif a0_0 == 4 then Option.bind (c78 (a0_1, (0 : Int), (1 : Int))) fun r3 => bif r3 then some (ByteArray.toList a0_2 == ByteArray.toList ({ data := #[] } : ByteArray)) else some false else some false
noncomputable def sig : Sig := ⟨[.val true [⟨.int .i64, 0, 0, false⟩, ⟨.int .i64, 0, 0, false⟩, ⟨.str, 0, 0, false⟩]], [(.one, [(.bool, 0)])]⟩
noncomputable def hint (_ : Nat) : Hint := ⟨[], []⟩
noncomputable def join (_ : Nat) : Option Hint := none
noncomputable def body : Code := (Tryz.f148).body.getD .skip
noncomputable def rv : List ResultVar := (Tryz.f148).results.toList
noncomputable def fn : Fn := ⟨56, sig, rv, body, hint, join⟩
end spec_ValOk
namespace spec_Fits
noncomputable def m (c148 : (Int × Int × ByteArray) → Option Bool) : Y17 → Option Bool
 | (a0_0, a0_1, a0_2, a0_3, a1_0, a1_1, a1_2) => Option.bind (c148 (a1_0, a1_1, a1_2)) fun r1 => bif r1 then bif a1_0 == a0_1 then bif a1_0 != 0 then some true else bif a1_0 == 0 then some a0_2 else some false else bif a1_0 == 0 then some a0_2 else some false else some false
noncomputable def sig : Sig := ⟨[.val true [⟨.int .i64, 0, 0, false⟩, ⟨.int .i64, 0, 0, false⟩, ⟨.bool, 0, 0, false⟩, ⟨.bool, 0, 0, false⟩], .val true [⟨.int .i64, 0, 0, false⟩, ⟨.int .i64, 0, 0, false⟩, ⟨.str, 0, 0, false⟩]], [(.one, [(.bool, 0)])]⟩
noncomputable def hint (_ : Nat) : Hint := ⟨[], []⟩
noncomputable def join (_ : Nat) : Option Hint := none
noncomputable def body : Code := (Tryz.f119).body.getD .skip
noncomputable def rv : List ResultVar := (Tryz.f119).results.toList
noncomputable def fn : Fn := ⟨28, sig, rv, body, hint, join⟩
end spec_Fits
namespace spec_FitsAll
noncomputable def s0 (c119 : Y17 → Option Bool) (L0 : Y41 → Option Bool) : Y41 → Option Bool
 | (x0, x1, x2) => bif decide (x2 < (List.length x1 : Int)) then bif decide (0 ≤ x2) && decide (x2 < (List.length x0 : Int)) then bif decide (0 ≤ x2) && decide (x2 < (List.length x1 : Int)) then Option.bind (c119 ((getD x0 (toNat x2) Z3).1, (getD x0 (toNat x2) Z3).2.1, (getD x0 (toNat x2) Z3).2.2.1, (getD x0 (toNat x2) Z3).2.2.2, (getD x1 (toNat x2) Z2).1, (getD x1 (toNat x2) Z2).2.1, (getD x1 (toNat x2) Z2).2.2)) fun r1 => bif !(r1) then some false else L0 (x0, x1, wrap i64 (x2 + 1)) else none else none else some true
noncomputable def ll0 : Y41 → LS
 | (x0, x1, x2) => ⟨[.cv ⟨.row K5, x0⟩, .cv ⟨.row K6, x1⟩, .cv ⟨.int .i64, x2⟩], []⟩
noncomputable def m (B0 : Y41 → Option Bool) : Y18 → Option Bool
 | (a0_0, a1_0) => bif decide ((List.length a1_0 : Int) > (List.length a0_0 : Int)) then some false else B0 (a0_0, a1_0, (0 : Int))
noncomputable def sig : Sig := ⟨[.val false [⟨.row K5, 0, 0, false⟩], .val false [⟨.row K6, 0, 0, false⟩]], [(.one, [(.bool, 0)])]⟩
noncomputable def hint : Nat → Hint
 | 0 => ⟨[(0, .keep), (1, .keep), (5, .keep)], []⟩
 | _ => ⟨[], []⟩
noncomputable def join (_ : Nat) : Option Hint := none
noncomputable def body : Code := (Tryz.f80).body.getD .skip
noncomputable def rv : List ResultVar := (Tryz.f80).results.toList
noncomputable def fn : Fn := ⟨27, sig, rv, body, hint, join⟩
end spec_FitsAll
namespace spec_RowOk
noncomputable def m (c79 : Y15 → Option Bool) (c80 : Y18 → Option Bool) : Y18 → Option Bool
 | (a0_0, a1_0) => Option.bind (c79 a0_0) fun r1 => bif r1 then bif (List.length a1_0 : Int) == (List.length a0_0 : Int) then Option.bind (c80 (a0_0, a1_0)) fun r2 => some r2 else some false else some false
noncomputable def sig : Sig := ⟨[.val false [⟨.row K5, 0, 0, false⟩], .val false [⟨.row K6, 0, 0, false⟩]], [(.one, [(.bool, 0)])]⟩
noncomputable def hint (_ : Nat) : Hint := ⟨[], []⟩
noncomputable def join (_ : Nat) : Option Hint := none
noncomputable def body : Code := (Tryz.f46).body.getD .skip
noncomputable def rv : List ResultVar := (Tryz.f46).results.toList
noncomputable def fn : Fn := ⟨19, sig, rv, body, hint, join⟩
end spec_RowOk
namespace spec_l11Part
noncomputable def m  : Y42 → Option (Int × Int × Bool × Bool)
 | (a0_0, a0_1, a0_2, a0_3, a1_0, a2_0) => bif decide (0 ≤ a1_0) && decide (a1_0 < (List.length a0_1 : Int)) then bif decide (0 ≤ a1_0) && decide (a1_0 < (List.length a0_1 : Int)) then some (a1_0, (getD a0_1 (toNat a1_0) Z4).2.1, (getD a0_1 (toNat a1_0) Z4).2.2, a2_0) else none else none
noncomputable def sig : Sig := ⟨[.val true [⟨.str, 0, 0, false⟩, ⟨.row K1, 0, 0, false⟩, ⟨.row K2, 0, 0, false⟩, ⟨.row K3, 0, 0, false⟩], .val false [⟨.int .i64, 0, 0, false⟩], .val false [⟨.bool, 0, 0, false⟩]], [(.agg, [(.int .i64, 0), (.int .i64, 0), (.bool, 0), (.bool, 0)])]⟩
noncomputable def hint (_ : Nat) : Hint := ⟨[], []⟩
noncomputable def join (_ : Nat) : Option Hint := none
noncomputable def body : Code := (Tryz.f82).body.getD .skip
noncomputable def rv : List ResultVar := (Tryz.f82).results.toList
noncomputable def fn : Fn := ⟨22, sig, rv, body, hint, join⟩
end spec_l11Part
namespace spec_RowPlan
noncomputable def s0 (c81 : Y1 → Option Int) (c82 : Y42 → Option (Int × Int × Bool × Bool)) (L0 : Y43 → Option Y15) : Y43 → Option Y15
 | (x0, x1, x2, x3, x4, x5) => bif decide (x0 < (List.length x2 : Int)) then Option.bind (c81 (x1, x2, x3, x4)) fun r1 => bif r1 == 0 then Option.bind (c82 (x1, x2, x3, x4, x0, false)) fun r2 => bif decide ((List.length x5 + List.length ([(r2.1, r2.2.1, r2.2.2.1, r2.2.2.2)] : List (Int × Int × Bool × Bool))) * 24 ≤ 140737488355328) then L0 (wrap i64 (x0 + 1), x1, x2, x3, x4, x5 ++ ([(r2.1, r2.2.1, r2.2.2.1, r2.2.2.2)] : List (Int × Int × Bool × Bool))) else none else some x5 else some x5
noncomputable def ll0 : Y43 → LS
 | (x0, x1, x2, x3, x4, x5) => ⟨[.addr 65 0 [] 0, .ref 12 0 [] none 0, .cv ⟨.int .i64, x0⟩], [⟨false, [⟨0, 0, .mk 0 ⟨.str, x1⟩⟩, ⟨0, 0, .mk 0 ⟨.row K1, x2⟩⟩, ⟨0, 0, .mk 0 ⟨.row K2, x3⟩⟩, ⟨0, 0, .mk 0 ⟨.row K3, x4⟩⟩]⟩, ⟨true, [⟨0, 0, .mk 9 ⟨.row K5, x5⟩⟩]⟩]⟩
noncomputable def m (B0 : Y43 → Option Y15) : Y1 → Option Y15
 | (a0_0, a0_1, a0_2, a0_3) => B0 ((0 : Int), a0_0, a0_1, a0_2, a0_3, ([] : List (Int × Int × Bool × Bool)))
noncomputable def sig : Sig := ⟨[.val true [⟨.str, 0, 0, false⟩, ⟨.row K1, 0, 0, false⟩, ⟨.row K2, 0, 0, false⟩, ⟨.row K3, 0, 0, false⟩]], [(.one, [(.row K5, 1)])]⟩
noncomputable def hint : Nat → Hint
 | 0 => ⟨[(1, .keep), (3, .own 9 K5), (4, .keep)], [(65, [0, 0, 0, 0])]⟩
 | _ => ⟨[], []⟩
noncomputable def join (_ : Nat) : Option Hint := none
noncomputable def body : Code := (Tryz.f47).body.getD .skip
noncomputable def rv : List ResultVar := (Tryz.f47).results.toList
noncomputable def fn : Fn := ⟨25, sig, rv, body, hint, join⟩
end spec_RowPlan
namespace spec_HeadOf
noncomputable def m (c45 : Y14 → Option Bool) : Y14 → Option ((List Int))
 | (a0_0, a1_0, a2_0) => Option.bind (c45 (a0_0, a1_0, a2_0)) fun r1 => bif !(r1) then some ([] : List Int) else some ([wrap .u8 (wrap i64 (a1_0 + 1)), wrap .u8 (wrap i64 (a2_0 + 1))] : List Int)
noncomputable def sig : Sig := ⟨[.val false [⟨.row K4, 0, 0, false⟩], .val false [⟨.int .i64, 0, 0, false⟩], .val false [⟨.int .i64, 0, 0, false⟩]], [(.one, [(.row K7, 1)])]⟩
noncomputable def hint (_ : Nat) : Hint := ⟨[], []⟩
noncomputable def join (_ : Nat) : Option Hint := none
noncomputable def body : Code := (Tryz.f15).body.getD .skip
noncomputable def rv : List ResultVar := (Tryz.f15).results.toList
noncomputable def fn : Fn := ⟨20, sig, rv, body, hint, join⟩
end spec_HeadOf
namespace spec_l11Parts
noncomputable def s0 (c82 : Y42 → Option (Int × Int × Bool × Bool)) (L0 : Y44 → Option Y15) : Y44 → Option Y15
 | (x0, x1, x2, x3, x4, x5, x6) => bif decide (x1 < (List.length x0 : Int)) then bif decide (0 ≤ x1) && decide (x1 < (List.length x0 : Int)) then bif decide (0 ≤ x1) && decide (x1 < (List.length x0 : Int)) then Option.bind (c82 (x2, x3, x4, x5, (getD x0 (toNat x1) Z5).1, (getD x0 (toNat x1) Z5).2)) fun r1 => bif decide ((List.length x6 + List.length ([(r1.1, r1.2.1, r1.2.2.1, r1.2.2.2)] : List (Int × Int × Bool × Bool))) * 24 ≤ 140737488355328) then L0 (x0, wrap i64 (x1 + 1), x2, x3, x4, x5, x6 ++ ([(r1.1, r1.2.1, r1.2.2.1, r1.2.2.2)] : List (Int × Int × Bool × Bool))) else none else none else none else some x6
noncomputable def ll0 : Y44 → LS
 | (x0, x1, x2, x3, x4, x5, x6) => ⟨[.cv ⟨.row K2, x0⟩, .addr 129 0 [] 0, .ref 20 0 [] none 0, .cv ⟨.int .i64, x1⟩], [⟨false, [⟨0, 0, .mk 0 ⟨.str, x2⟩⟩, ⟨0, 0, .mk 0 ⟨.row K1, x3⟩⟩, ⟨0, 0, .mk 0 ⟨.row K2, x4⟩⟩, ⟨0, 0, .mk 0 ⟨.row K3, x5⟩⟩]⟩, ⟨true, [⟨0, 0, .mk 9 ⟨.row K5, x6⟩⟩]⟩]⟩
noncomputable def m (B0 : Y44 → Option Y15) : Y7 → Option Y15
 | (a0_0, a0_1, a0_2, a0_3, a1_0) => B0 (a1_0, (0 : Int), a0_0, a0_1, a0_2, a0_3, ([] : List (Int × Int × Bool × Bool)))
noncomputable def sig : Sig := ⟨[.val true [⟨.str, 0, 0, false⟩, ⟨.row K1, 0, 0, false⟩, ⟨.row K2, 0, 0, false⟩, ⟨.row K3, 0, 0, false⟩], .val false [⟨.row K2, 0, 0, false⟩]], [(.one, [(.row K5, 1)])]⟩
noncomputable def hint : Nat → Hint
 | 0 => ⟨[(1, .keep), (2, .keep), (5, .own 9 K5), (6, .keep)], [(129, [0, 0, 0, 0])]⟩
 | _ => ⟨[], []⟩
noncomputable def join (_ : Nat) : Option Hint := none
noncomputable def body : Code := (Tryz.f152).body.getD .skip
noncomputable def rv : List ResultVar := (Tryz.f152).results.toList
noncomputable def fn : Fn := ⟨30, sig, rv, body, hint, join⟩
end spec_l11Parts
namespace spec_PrimaryPlan
noncomputable def m (c81 : Y1 → Option Int) (c152 : Y7 → Option Y15) : Y1 → Option Y15
 | (a0_0, a0_1, a0_2, a0_3) => Option.bind (c81 (a0_0, a0_1, a0_2, a0_3)) fun r1 => bif r1 != 0 then some ([] : List (Int × Int × Bool × Bool)) else Option.bind (c152 (a0_0, a0_1, a0_2, a0_3, a0_2)) fun r2 => some r2
noncomputable def sig : Sig := ⟨[.val true [⟨.str, 0, 0, false⟩, ⟨.row K1, 0, 0, false⟩, ⟨.row K2, 0, 0, false⟩, ⟨.row K3, 0, 0, false⟩]], [(.one, [(.row K5, 1)])]⟩
noncomputable def hint (_ : Nat) : Hint := ⟨[], []⟩
noncomputable def join (_ : Nat) : Option Hint := none
noncomputable def body : Code := (Tryz.f124).body.getD .skip
noncomputable def rv : List ResultVar := (Tryz.f124).results.toList
noncomputable def fn : Fn := ⟨11, sig, rv, body, hint, join⟩
end spec_PrimaryPlan
namespace spec_IndexPlan
noncomputable def m (c78 : (Int × Int × Int) → Option Bool) (c81 : Y1 → Option Int) (c152 : Y7 → Option Y15) : Y24 → Option Y15
 | (a0_0, a0_1, a0_2, a0_3, a1_0) => Option.bind (c81 (a0_0, a0_1, a0_2, a0_3)) fun r1 => bif r1 != 0 then some ([] : List (Int × Int × Bool × Bool)) else Option.bind (c78 (a1_0, (0 : Int), wrap i64 ((List.length a0_3 : Int) - 1))) fun r2 => bif !(r2) then some ([] : List (Int × Int × Bool × Bool)) else bif decide (0 ≤ a1_0) && decide (a1_0 < (List.length a0_3 : Int)) then Option.bind (c152 (a0_0, a0_1, a0_2, a0_3, (getD a0_3 (toNat a1_0) Z1).2.2)) fun r3 => Option.bind (c152 (a0_0, a0_1, a0_2, a0_3, a0_2)) fun r4 => bif decide ((List.length r3 + List.length r4) * 24 ≤ 140737488355328) then some (r3 ++ r4) else none else none
noncomputable def sig : Sig := ⟨[.val true [⟨.str, 0, 0, false⟩, ⟨.row K1, 0, 0, false⟩, ⟨.row K2, 0, 0, false⟩, ⟨.row K3, 0, 0, false⟩], .val false [⟨.int .i64, 0, 0, false⟩]], [(.one, [(.row K5, 1)])]⟩
noncomputable def hint (_ : Nat) : Hint := ⟨[], []⟩
noncomputable def join (_ : Nat) : Option Hint := none
noncomputable def body : Code := (Tryz.f125).body.getD .skip
noncomputable def rv : List ResultVar := (Tryz.f125).results.toList
noncomputable def fn : Fn := ⟨31, sig, rv, body, hint, join⟩
end spec_IndexPlan
namespace spec_l11Plan
noncomputable def m (c124 : Y1 → Option Y15) (c125 : Y24 → Option Y15) : Y24 → Option Y15
 | (a0_0, a0_1, a0_2, a0_3, a1_0) => bif a1_0 == (-1) then Option.bind (c124 (a0_0, a0_1, a0_2, a0_3)) fun r1 => some r1 else Option.bind (c125 (a0_0, a0_1, a0_2, a0_3, a1_0)) fun r2 => some r2
noncomputable def sig : Sig := ⟨[.val true [⟨.str, 0, 0, false⟩, ⟨.row K1, 0, 0, false⟩, ⟨.row K2, 0, 0, false⟩, ⟨.row K3, 0, 0, false⟩], .val false [⟨.int .i64, 0, 0, false⟩]], [(.one, [(.row K5, 1)])]⟩
noncomputable def hint (_ : Nat) : Hint := ⟨[], []⟩
noncomputable def join (_ : Nat) : Option Hint := none
noncomputable def body : Code := (Tryz.f83).body.getD .skip
noncomputable def rv : List ResultVar := (Tryz.f83).results.toList
noncomputable def fn : Fn := ⟨12, sig, rv, body, hint, join⟩
end spec_l11Plan
namespace spec_Flip
noncomputable def s0 (L0 : (Int × Int × (List Int)) → Option ((List Int))) : (Int × Int × (List Int)) → Option ((List Int))
 | (x0, x1, x2) => bif decide (x1 < (List.length x2 : Int)) then bif decide (x1 ≥ x0) then bif decide (0 ≤ x1) && decide (x1 < (List.length x2 : Int)) then bif decide (0 ≤ x1) && decide (x1 < (List.length x2 : Int)) then L0 (x0, wrap i64 (x1 + 1), List.set x2 (toNat x1) (wrap .u8 ((BitVec.ofInt (IntKind.bits IntKind.u8) (if IntKind.signed IntKind.u8 then -1 else IntKind.max IntKind.u8) ^^^ BitVec.ofInt (IntKind.bits IntKind.u8) (getD x2 (toNat x1) (0 : Int))).toNat : Int))) else none else none else L0 (x0, wrap i64 (x1 + 1), x2) else some x2
noncomputable def ll0 : (Int × Int × (List Int)) → LS
 | (x0, x1, x2) => ⟨[.cv ⟨.int .i64, x0⟩, .ref 20 0 [] none 0, .cv ⟨.int .i64, x1⟩], [⟨true, [⟨0, 0, .mk 9 ⟨.row K7, x2⟩⟩]⟩]⟩
noncomputable def m (B0 : (Int × Int × (List Int)) → Option ((List Int))) : ((List Int) × Int) → Option ((List Int))
 | (a0_0, a1_0) => bif decide ((List.length ([] : List Int) + List.length a0_0) * 1 ≤ 140737488355328) then B0 (a1_0, (0 : Int), ([] : List Int) ++ a0_0) else none
noncomputable def sig : Sig := ⟨[.val false [⟨.row K7, 0, 0, false⟩], .val false [⟨.int .i64, 0, 0, false⟩]], [(.one, [(.row K7, 1)])]⟩
noncomputable def hint : Nat → Hint
 | 0 => ⟨[(1, .keep), (5, .own 9 K7), (6, .keep)], []⟩
 | _ => ⟨[], []⟩
noncomputable def join (_ : Nat) : Option Hint := none
noncomputable def body : Code := (Tryz.f132).body.getD .skip
noncomputable def rv : List ResultVar := (Tryz.f132).results.toList
noncomputable def fn : Fn := ⟨28, sig, rv, body, hint, join⟩
end spec_Flip
namespace spec_l4Bytes
noncomputable def s0 (L0 : (Int × (List Int)) → Option ((List Int))) : (Int × (List Int)) → Option ((List Int))
 | (x0, x1) => bif decide (x0 > 0) then bif decide ((List.length ([wrap .u8 x0] : List Int) + List.length x1) * 1 ≤ 140737488355328) then bif decide (¬ (8 : Int) < 0) then L0 (Int.fdiv x0 (2 ^ (min (toNat (8 : Int)) (IntKind.bits IntKind.i64))), ([wrap .u8 x0] : List Int) ++ x1) else none else none else some x1
noncomputable def ll0 : (Int × (List Int)) → LS
 | (x0, x1) => ⟨[.cv ⟨.int .i64, x0⟩, .ref 12 0 [] none 0], [⟨true, [⟨0, 0, .mk 9 ⟨.row K7, x1⟩⟩]⟩]⟩
noncomputable def m (B0 : (Int × (List Int)) → Option ((List Int))) : Int → Option ((List Int))
 | a0_0 => B0 (a0_0, ([] : List Int))
noncomputable def sig : Sig := ⟨[.val false [⟨.int .i64, 0, 0, false⟩]], [(.one, [(.row K7, 1)])]⟩
noncomputable def hint : Nat → Hint
 | 0 => ⟨[(0, .keep), (3, .own 9 K7)], []⟩
 | _ => ⟨[], []⟩
noncomputable def join (_ : Nat) : Option Hint := none
noncomputable def body : Code := (Tryz.f131).body.getD .skip
noncomputable def rv : List ResultVar := (Tryz.f131).results.toList
noncomputable def fn : Fn := ⟨15, sig, rv, body, hint, join⟩
end spec_l4Bytes
namespace spec_PutVar
noncomputable def m (c131 : Int → Option ((List Int))) (c132 : ((List Int) × Int) → Option ((List Int))) : ((List Int) × Int) → Option ((List Int))
 | (a0_0, a1_0) => bif decide (a1_0 > 1000000000000000) then bif decide ((1000000000000000 : Int) < (-1000000000000000)) then bif decide ((-1000000000000000 : Int) ≥ 0) then Option.bind (c131 (-1000000000000000 : Int)) fun r1 => bif decide ((List.length ([] : List Int) + List.length a0_0) * 1 ≤ 140737488355328) then bif decide ((List.length (([] : List Int) ++ a0_0) + List.length ([wrap .u8 (wrap i64 ((128 : Int) + (List.length r1 : Int)))] : List Int)) * 1 ≤ 140737488355328) then bif decide ((List.length ((([] : List Int) ++ a0_0) ++ ([wrap .u8 (wrap i64 ((128 : Int) + (List.length r1 : Int)))] : List Int)) + List.length r1) * 1 ≤ 140737488355328) then some (((([] : List Int) ++ a0_0) ++ ([wrap .u8 (wrap i64 ((128 : Int) + (List.length r1 : Int)))] : List Int)) ++ r1) else none else none else none else Option.bind (c131 (wrap i64 ((-1 : Int) - (-1000000000000000)))) fun r2 => bif decide ((List.length ([] : List Int) + List.length a0_0) * 1 ≤ 140737488355328) then bif decide ((List.length (([] : List Int) ++ a0_0) + List.length ([wrap .u8 (wrap i64 ((127 : Int) - (List.length r2 : Int)))] : List Int)) * 1 ≤ 140737488355328) then Option.bind (c132 (r2, (0 : Int))) fun r3 => bif decide ((List.length ((([] : List Int) ++ a0_0) ++ ([wrap .u8 (wrap i64 ((127 : Int) - (List.length r2 : Int)))] : List Int)) + List.length r3) * 1 ≤ 140737488355328) then some (((([] : List Int) ++ a0_0) ++ ([wrap .u8 (wrap i64 ((127 : Int) - (List.length r2 : Int)))] : List Int)) ++ r3) else none else none else none else bif decide ((1000000000000000 : Int) ≥ 0) then Option.bind (c131 (1000000000000000 : Int)) fun r4 => bif decide ((List.length ([] : List Int) + List.length a0_0) * 1 ≤ 140737488355328) then bif decide ((List.length (([] : List Int) ++ a0_0) + List.length ([wrap .u8 (wrap i64 ((128 : Int) + (List.length r4 : Int)))] : List Int)) * 1 ≤ 140737488355328) then bif decide ((List.length ((([] : List Int) ++ a0_0) ++ ([wrap .u8 (wrap i64 ((128 : Int) + (List.length r4 : Int)))] : List Int)) + List.length r4) * 1 ≤ 140737488355328) then some (((([] : List Int) ++ a0_0) ++ ([wrap .u8 (wrap i64 ((128 : Int) + (List.length r4 : Int)))] : List Int)) ++ r4) else none else none else none else Option.bind (c131 (wrap i64 ((-1 : Int) - 1000000000000000))) fun r5 => bif decide ((List.length ([] : List Int) + List.length a0_0) * 1 ≤ 140737488355328) then bif decide ((List.length (([] : List Int) ++ a0_0) + List.length ([wrap .u8 (wrap i64 ((127 : Int) - (List.length r5 : Int)))] : List Int)) * 1 ≤ 140737488355328) then Option.bind (c132 (r5, (0 : Int))) fun r6 => bif decide ((List.length ((([] : List Int) ++ a0_0) ++ ([wrap .u8 (wrap i64 ((127 : Int) - (List.length r5 : Int)))] : List Int)) + List.length r6) * 1 ≤ 140737488355328) then some (((([] : List Int) ++ a0_0) ++ ([wrap .u8 (wrap i64 ((127 : Int) - (List.length r5 : Int)))] : List Int)) ++ r6) else none else none else none else bif decide (a1_0 < (-1000000000000000)) then bif decide ((-1000000000000000 : Int) ≥ 0) then Option.bind (c131 (-1000000000000000 : Int)) fun r7 => bif decide ((List.length ([] : List Int) + List.length a0_0) * 1 ≤ 140737488355328) then bif decide ((List.length (([] : List Int) ++ a0_0) + List.length ([wrap .u8 (wrap i64 ((128 : Int) + (List.length r7 : Int)))] : List Int)) * 1 ≤ 140737488355328) then bif decide ((List.length ((([] : List Int) ++ a0_0) ++ ([wrap .u8 (wrap i64 ((128 : Int) + (List.length r7 : Int)))] : List Int)) + List.length r7) * 1 ≤ 140737488355328) then some (((([] : List Int) ++ a0_0) ++ ([wrap .u8 (wrap i64 ((128 : Int) + (List.length r7 : Int)))] : List Int)) ++ r7) else none else none else none else Option.bind (c131 (wrap i64 ((-1 : Int) - (-1000000000000000)))) fun r8 => bif decide ((List.length ([] : List Int) + List.length a0_0) * 1 ≤ 140737488355328) then bif decide ((List.length (([] : List Int) ++ a0_0) + List.length ([wrap .u8 (wrap i64 ((127 : Int) - (List.length r8 : Int)))] : List Int)) * 1 ≤ 140737488355328) then Option.bind (c132 (r8, (0 : Int))) fun r9 => bif decide ((List.length ((([] : List Int) ++ a0_0) ++ ([wrap .u8 (wrap i64 ((127 : Int) - (List.length r8 : Int)))] : List Int)) + List.length r9) * 1 ≤ 140737488355328) then some (((([] : List Int) ++ a0_0) ++ ([wrap .u8 (wrap i64 ((127 : Int) - (List.length r8 : Int)))] : List Int)) ++ r9) else none else none else none else bif decide (a1_0 ≥ 0) then Option.bind (c131 a1_0) fun r10 => bif decide ((List.length ([] : List Int) + List.length a0_0) * 1 ≤ 140737488355328) then bif decide ((List.length (([] : List Int) ++ a0_0) + List.length ([wrap .u8 (wrap i64 ((128 : Int) + (List.length r10 : Int)))] : List Int)) * 1 ≤ 140737488355328) then bif decide ((List.length ((([] : List Int) ++ a0_0) ++ ([wrap .u8 (wrap i64 ((128 : Int) + (List.length r10 : Int)))] : List Int)) + List.length r10) * 1 ≤ 140737488355328) then some (((([] : List Int) ++ a0_0) ++ ([wrap .u8 (wrap i64 ((128 : Int) + (List.length r10 : Int)))] : List Int)) ++ r10) else none else none else none else Option.bind (c131 (wrap i64 ((-1 : Int) - a1_0))) fun r11 => bif decide ((List.length ([] : List Int) + List.length a0_0) * 1 ≤ 140737488355328) then bif decide ((List.length (([] : List Int) ++ a0_0) + List.length ([wrap .u8 (wrap i64 ((127 : Int) - (List.length r11 : Int)))] : List Int)) * 1 ≤ 140737488355328) then Option.bind (c132 (r11, (0 : Int))) fun r12 => bif decide ((List.length ((([] : List Int) ++ a0_0) ++ ([wrap .u8 (wrap i64 ((127 : Int) - (List.length r11 : Int)))] : List Int)) + List.length r12) * 1 ≤ 140737488355328) then some (((([] : List Int) ++ a0_0) ++ ([wrap .u8 (wrap i64 ((127 : Int) - (List.length r11 : Int)))] : List Int)) ++ r12) else none else none else none
noncomputable def sig : Sig := ⟨[.val false [⟨.row K7, 0, 0, false⟩], .val false [⟨.int .i64, 0, 0, false⟩]], [(.one, [(.row K7, 1)])]⟩
noncomputable def hint (_ : Nat) : Hint := ⟨[], []⟩
noncomputable def join (_ : Nat) : Option Hint := none
noncomputable def body : Code := (Tryz.f91).body.getD .skip
noncomputable def rv : List ResultVar := (Tryz.f91).results.toList
noncomputable def fn : Fn := ⟨41, sig, rv, body, hint, join⟩
end spec_PutVar
namespace spec_PutFix
noncomputable def m  : ((List Int) × Int) → Option ((List Int))
 | (a0_0, a1_0) => bif decide (a1_0 > 2147483647) then bif decide ((2147483647 : Int) < (-2147483648)) then bif decide ((List.length ([] : List Int) + List.length a0_0) * 1 ≤ 140737488355328) then bif decide (¬ (24 : Int) < 0) then bif decide (¬ (16 : Int) < 0) then bif decide (¬ (8 : Int) < 0) then bif decide ((List.length (([] : List Int) ++ a0_0) + List.length ([wrap .u8 (Int.fdiv (wrap i64 ((-2147483648 : Int) + 2147483648)) (2 ^ (min (toNat (24 : Int)) (IntKind.bits IntKind.i64)))), wrap .u8 (Int.fdiv (wrap i64 ((-2147483648 : Int) + 2147483648)) (2 ^ (min (toNat (16 : Int)) (IntKind.bits IntKind.i64)))), wrap .u8 (Int.fdiv (wrap i64 ((-2147483648 : Int) + 2147483648)) (2 ^ (min (toNat (8 : Int)) (IntKind.bits IntKind.i64)))), wrap .u8 (wrap i64 ((-2147483648 : Int) + 2147483648))] : List Int)) * 1 ≤ 140737488355328) then some ((([] : List Int) ++ a0_0) ++ ([wrap .u8 (Int.fdiv (wrap i64 ((-2147483648 : Int) + 2147483648)) (2 ^ (min (toNat (24 : Int)) (IntKind.bits IntKind.i64)))), wrap .u8 (Int.fdiv (wrap i64 ((-2147483648 : Int) + 2147483648)) (2 ^ (min (toNat (16 : Int)) (IntKind.bits IntKind.i64)))), wrap .u8 (Int.fdiv (wrap i64 ((-2147483648 : Int) + 2147483648)) (2 ^ (min (toNat (8 : Int)) (IntKind.bits IntKind.i64)))), wrap .u8 (wrap i64 ((-2147483648 : Int) + 2147483648))] : List Int)) else none else none else none else none else none else bif decide ((List.length ([] : List Int) + List.length a0_0) * 1 ≤ 140737488355328) then bif decide (¬ (24 : Int) < 0) then bif decide (¬ (16 : Int) < 0) then bif decide (¬ (8 : Int) < 0) then bif decide ((List.length (([] : List Int) ++ a0_0) + List.length ([wrap .u8 (Int.fdiv (wrap i64 ((2147483647 : Int) + 2147483648)) (2 ^ (min (toNat (24 : Int)) (IntKind.bits IntKind.i64)))), wrap .u8 (Int.fdiv (wrap i64 ((2147483647 : Int) + 2147483648)) (2 ^ (min (toNat (16 : Int)) (IntKind.bits IntKind.i64)))), wrap .u8 (Int.fdiv (wrap i64 ((2147483647 : Int) + 2147483648)) (2 ^ (min (toNat (8 : Int)) (IntKind.bits IntKind.i64)))), wrap .u8 (wrap i64 ((2147483647 : Int) + 2147483648))] : List Int)) * 1 ≤ 140737488355328) then some ((([] : List Int) ++ a0_0) ++ ([wrap .u8 (Int.fdiv (wrap i64 ((2147483647 : Int) + 2147483648)) (2 ^ (min (toNat (24 : Int)) (IntKind.bits IntKind.i64)))), wrap .u8 (Int.fdiv (wrap i64 ((2147483647 : Int) + 2147483648)) (2 ^ (min (toNat (16 : Int)) (IntKind.bits IntKind.i64)))), wrap .u8 (Int.fdiv (wrap i64 ((2147483647 : Int) + 2147483648)) (2 ^ (min (toNat (8 : Int)) (IntKind.bits IntKind.i64)))), wrap .u8 (wrap i64 ((2147483647 : Int) + 2147483648))] : List Int)) else none else none else none else none else none else bif decide (a1_0 < (-2147483648)) then bif decide ((List.length ([] : List Int) + List.length a0_0) * 1 ≤ 140737488355328) then bif decide (¬ (24 : Int) < 0) then bif decide (¬ (16 : Int) < 0) then bif decide (¬ (8 : Int) < 0) then bif decide ((List.length (([] : List Int) ++ a0_0) + List.length ([wrap .u8 (Int.fdiv (wrap i64 ((-2147483648 : Int) + 2147483648)) (2 ^ (min (toNat (24 : Int)) (IntKind.bits IntKind.i64)))), wrap .u8 (Int.fdiv (wrap i64 ((-2147483648 : Int) + 2147483648)) (2 ^ (min (toNat (16 : Int)) (IntKind.bits IntKind.i64)))), wrap .u8 (Int.fdiv (wrap i64 ((-2147483648 : Int) + 2147483648)) (2 ^ (min (toNat (8 : Int)) (IntKind.bits IntKind.i64)))), wrap .u8 (wrap i64 ((-2147483648 : Int) + 2147483648))] : List Int)) * 1 ≤ 140737488355328) then some ((([] : List Int) ++ a0_0) ++ ([wrap .u8 (Int.fdiv (wrap i64 ((-2147483648 : Int) + 2147483648)) (2 ^ (min (toNat (24 : Int)) (IntKind.bits IntKind.i64)))), wrap .u8 (Int.fdiv (wrap i64 ((-2147483648 : Int) + 2147483648)) (2 ^ (min (toNat (16 : Int)) (IntKind.bits IntKind.i64)))), wrap .u8 (Int.fdiv (wrap i64 ((-2147483648 : Int) + 2147483648)) (2 ^ (min (toNat (8 : Int)) (IntKind.bits IntKind.i64)))), wrap .u8 (wrap i64 ((-2147483648 : Int) + 2147483648))] : List Int)) else none else none else none else none else none else bif decide ((List.length ([] : List Int) + List.length a0_0) * 1 ≤ 140737488355328) then bif decide (¬ (24 : Int) < 0) then bif decide (¬ (16 : Int) < 0) then bif decide (¬ (8 : Int) < 0) then bif decide ((List.length (([] : List Int) ++ a0_0) + List.length ([wrap .u8 (Int.fdiv (wrap i64 (a1_0 + 2147483648)) (2 ^ (min (toNat (24 : Int)) (IntKind.bits IntKind.i64)))), wrap .u8 (Int.fdiv (wrap i64 (a1_0 + 2147483648)) (2 ^ (min (toNat (16 : Int)) (IntKind.bits IntKind.i64)))), wrap .u8 (Int.fdiv (wrap i64 (a1_0 + 2147483648)) (2 ^ (min (toNat (8 : Int)) (IntKind.bits IntKind.i64)))), wrap .u8 (wrap i64 (a1_0 + 2147483648))] : List Int)) * 1 ≤ 140737488355328) then some ((([] : List Int) ++ a0_0) ++ ([wrap .u8 (Int.fdiv (wrap i64 (a1_0 + 2147483648)) (2 ^ (min (toNat (24 : Int)) (IntKind.bits IntKind.i64)))), wrap .u8 (Int.fdiv (wrap i64 (a1_0 + 2147483648)) (2 ^ (min (toNat (16 : Int)) (IntKind.bits IntKind.i64)))), wrap .u8 (Int.fdiv (wrap i64 (a1_0 + 2147483648)) (2 ^ (min (toNat (8 : Int)) (IntKind.bits IntKind.i64)))), wrap .u8 (wrap i64 (a1_0 + 2147483648))] : List Int)) else none else none else none else none else none
noncomputable def sig : Sig := ⟨[.val false [⟨.row K7, 0, 0, false⟩], .val false [⟨.int .i64, 0, 0, false⟩]], [(.one, [(.row K7, 1)])]⟩
noncomputable def hint (_ : Nat) : Hint := ⟨[], []⟩
noncomputable def join (_ : Nat) : Option Hint := none
noncomputable def body : Code := (Tryz.f159).body.getD .skip
noncomputable def rv : List ResultVar := (Tryz.f159).results.toList
noncomputable def fn : Fn := ⟨27, sig, rv, body, hint, join⟩
end spec_PutFix
namespace spec_PutEsc
noncomputable def s0 (L0 : Y27 → Option ((List Int))) : Y27 → Option ((List Int))
 | (x0, x1, x2) => bif decide (x1 < (ByteArray.size x0 : Int)) then bif decide (0 ≤ x1) && decide (x1 < (ByteArray.size x0 : Int)) then bif decide ((List.length x2 + List.length ([((ByteArray.get! x0 (toNat x1)).toNat : Int)] : List Int)) * 1 ≤ 140737488355328) then bif decide (0 ≤ x1) && decide (x1 < (ByteArray.size x0 : Int)) then bif ((ByteArray.get! x0 (toNat x1)).toNat : Int) == 0 then bif decide ((List.length (x2 ++ ([((ByteArray.get! x0 (toNat x1)).toNat : Int)] : List Int)) + List.length ([(255 : Int)] : List Int)) * 1 ≤ 140737488355328) then L0 (x0, wrap i64 (x1 + 1), (x2 ++ ([((ByteArray.get! x0 (toNat x1)).toNat : Int)] : List Int)) ++ ([(255 : Int)] : List Int)) else none else L0 (x0, wrap i64 (x1 + 1), x2 ++ ([((ByteArray.get! x0 (toNat x1)).toNat : Int)] : List Int)) else none else none else none else bif decide ((List.length x2 + List.length ([(0 : Int), (1 : Int)] : List Int)) * 1 ≤ 140737488355328) then some (x2 ++ ([(0 : Int), (1 : Int)] : List Int)) else none
noncomputable def ll0 : Y27 → LS
 | (x0, x1, x2) => ⟨[.cv ⟨.str, x0⟩, .ref 20 0 [] none 0, .cv ⟨.int .i64, x1⟩], [⟨true, [⟨0, 0, .mk 9 ⟨.row K7, x2⟩⟩]⟩]⟩
noncomputable def m (B0 : Y27 → Option ((List Int))) : ((List Int) × ByteArray) → Option ((List Int))
 | (a0_0, a1_0) => bif decide ((List.length ([] : List Int) + List.length a0_0) * 1 ≤ 140737488355328) then B0 (a1_0, (0 : Int), ([] : List Int) ++ a0_0) else none
noncomputable def sig : Sig := ⟨[.val false [⟨.row K7, 0, 0, false⟩], .val false [⟨.str, 0, 0, false⟩]], [(.one, [(.row K7, 1)])]⟩
noncomputable def hint : Nat → Hint
 | 0 => ⟨[(1, .keep), (5, .own 9 K7), (6, .keep)], []⟩
 | _ => ⟨[], []⟩
noncomputable def join (_ : Nat) : Option Hint := none
noncomputable def body : Code := (Tryz.f160).body.getD .skip
noncomputable def rv : List ResultVar := (Tryz.f160).results.toList
noncomputable def fn : Fn := ⟨32, sig, rv, body, hint, join⟩
end spec_PutEsc
namespace spec_l5Value
noncomputable def m (c91 c159 : ((List Int) × Int) → Option ((List Int))) (c160 : ((List Int) × ByteArray) → Option ((List Int))) : Y45 → Option ((List Int))
 | (a0_0, a1_0, a1_1, a1_2) => bif a1_0 == 1 then Option.bind (c159 (a0_0, a1_1)) fun r1 => some r1 else bif a1_0 == 2 then Option.bind (c91 (a0_0, a1_1)) fun r2 => some r2 else bif a1_0 == 3 then Option.bind (c160 (a0_0, a1_2)) fun r3 => some r3 else bif decide ((List.length ([] : List Int) + List.length a0_0) * 1 ≤ 140737488355328) then bif decide ((List.length (([] : List Int) ++ a0_0) + List.length ([wrap .u8 a1_1] : List Int)) * 1 ≤ 140737488355328) then some ((([] : List Int) ++ a0_0) ++ ([wrap .u8 a1_1] : List Int)) else none else none
noncomputable def sig : Sig := ⟨[.val false [⟨.row K7, 0, 0, false⟩], .val true [⟨.int .i64, 0, 0, false⟩, ⟨.int .i64, 0, 0, false⟩, ⟨.str, 0, 0, false⟩]], [(.one, [(.row K7, 1)])]⟩
noncomputable def hint (_ : Nat) : Hint := ⟨[], []⟩
noncomputable def join (_ : Nat) : Option Hint := none
noncomputable def body : Code := (Tryz.f153).body.getD .skip
noncomputable def rv : List ResultVar := (Tryz.f153).results.toList
noncomputable def fn : Fn := ⟨33, sig, rv, body, hint, join⟩
end spec_l5Value
namespace spec_PutPart
noncomputable def m (c118 : (Int × Int × Bool × Bool) → Option Bool) (c119 : Y17 → Option Bool) (c132 : ((List Int) × Int) → Option ((List Int))) (c153 : Y45 → Option ((List Int))) : Y28 → Option ((List Int))
 | (a0_0, a1_0, a1_1, a1_2, a1_3, a2_0, a2_1, a2_2) => bif decide ((List.length ([] : List Int) + List.length a0_0) * 1 ≤ 140737488355328) then Option.bind (c118 (a1_0, a1_1, a1_2, a1_3)) fun r1 => bif !(r1) then some (([] : List Int) ++ a0_0) else Option.bind (c119 (a1_0, a1_1, a1_2, a1_3, a2_0, a2_1, a2_2)) fun r2 => bif !(r2) then some (([] : List Int) ++ a0_0) else bif a2_0 == 0 then bif decide ((List.length (([] : List Int) ++ a0_0) + List.length ([(0 : Int)] : List Int)) * 1 ≤ 140737488355328) then bif a1_3 then Option.bind (c132 ((([] : List Int) ++ a0_0) ++ ([(0 : Int)] : List Int), (List.length a0_0 : Int))) fun r3 => some r3 else some ((([] : List Int) ++ a0_0) ++ ([(0 : Int)] : List Int)) else none else bif a1_2 then bif decide ((List.length (([] : List Int) ++ a0_0) + List.length ([(1 : Int)] : List Int)) * 1 ≤ 140737488355328) then Option.bind (c153 ((([] : List Int) ++ a0_0) ++ ([(1 : Int)] : List Int), a2_0, a2_1, a2_2)) fun r4 => bif a1_3 then Option.bind (c132 (r4, (List.length a0_0 : Int))) fun r5 => some r5 else some r4 else none else Option.bind (c153 (([] : List Int) ++ a0_0, a2_0, a2_1, a2_2)) fun r6 => bif a1_3 then Option.bind (c132 (r6, (List.length a0_0 : Int))) fun r7 => some r7 else some r6 else none
noncomputable def sig : Sig := ⟨[.val false [⟨.row K7, 0, 0, false⟩], .val true [⟨.int .i64, 0, 0, false⟩, ⟨.int .i64, 0, 0, false⟩, ⟨.bool, 0, 0, false⟩, ⟨.bool, 0, 0, false⟩], .val true [⟨.int .i64, 0, 0, false⟩, ⟨.int .i64, 0, 0, false⟩, ⟨.str, 0, 0, false⟩]], [(.one, [(.row K7, 1)])]⟩
noncomputable def hint (_ : Nat) : Hint := ⟨[], []⟩
noncomputable def join (_ : Nat) : Option Hint := none
noncomputable def body : Code := (Tryz.f126).body.getD .skip
noncomputable def rv : List ResultVar := (Tryz.f126).results.toList
noncomputable def fn : Fn := ⟨42, sig, rv, body, hint, join⟩
end spec_PutPart
namespace spec_EncodeKey
noncomputable def s0 (c126 : Y28 → Option ((List Int))) (L0 : Y46 → Option ((List Int))) : Y46 → Option ((List Int))
 | (x0, x1, x2, x3) => bif decide (x2 < (List.length x1 : Int)) then bif decide (0 ≤ x2) && decide (x2 < (List.length x0 : Int)) then bif decide (0 ≤ x2) && decide (x2 < (List.length x1 : Int)) then Option.bind (c126 (x3, (getD x0 (toNat x2) Z3).1, (getD x0 (toNat x2) Z3).2.1, (getD x0 (toNat x2) Z3).2.2.1, (getD x0 (toNat x2) Z3).2.2.2, (getD x1 (toNat x2) Z2).1, (getD x1 (toNat x2) Z2).2.1, (getD x1 (toNat x2) Z2).2.2)) fun r3 => L0 (x0, x1, wrap i64 (x2 + 1), r3) else none else none else some x3
noncomputable def ll0 : Y46 → LS
 | (x0, x1, x2, x3) => ⟨[.cv ⟨.row K5, x0⟩, .cv ⟨.row K6, x1⟩, .ref 20 0 [] none 0, .cv ⟨.int .i64, x2⟩], [⟨true, [⟨0, 0, .mk 1 ⟨.row K7, x3⟩⟩]⟩]⟩
noncomputable def m (c79 : Y15 → Option Bool) (c80 : Y18 → Option Bool) (B0 : Y46 → Option ((List Int))) : Y18 → Option ((List Int))
 | (a0_0, a1_0) => Option.bind (c79 a0_0) fun r1 => bif !(r1) then some ([] : List Int) else Option.bind (c80 (a0_0, a1_0)) fun r2 => bif !(r2) then some ([] : List Int) else B0 (a0_0, a1_0, (0 : Int), ([] : List Int))
noncomputable def sig : Sig := ⟨[.val false [⟨.row K5, 0, 0, false⟩], .val false [⟨.row K6, 0, 0, false⟩]], [(.one, [(.row K7, 1)])]⟩
noncomputable def hint : Nat → Hint
 | 0 => ⟨[(0, .keep), (1, .keep), (5, .own 1 K7), (6, .keep)], []⟩
 | _ => ⟨[], []⟩
noncomputable def join (_ : Nat) : Option Hint := none
noncomputable def body : Code := (Tryz.f84).body.getD .skip
noncomputable def rv : List ResultVar := (Tryz.f84).results.toList
noncomputable def fn : Fn := ⟨35, sig, rv, body, hint, join⟩
end spec_EncodeKey
namespace spec_Pick
noncomputable def s0 (c78 : (Int × Int × Int) → Option Bool) (L0 : Y47 → Option Y21) : Y47 → Option Y21
 | (x0, x1, x2, x3) => bif decide (x2 < (List.length x0 : Int)) then bif decide (0 ≤ x2) && decide (x2 < (List.length x0 : Int)) then Option.bind (c78 ((getD x0 (toNat x2) Z3).1, (0 : Int), wrap i64 ((List.length x1 : Int) - 1))) fun r1 => bif r1 then bif decide (0 ≤ x2) && decide (x2 < (List.length x0 : Int)) then bif decide (0 ≤ ((getD x0 (toNat x2) Z3).1)) && decide (((getD x0 (toNat x2) Z3).1) < (List.length x1 : Int)) then bif decide ((List.length x3 + List.length ([((getD x1 (toNat ((getD x0 (toNat x2) Z3).1)) Z2).1, (getD x1 (toNat ((getD x0 (toNat x2) Z3).1)) Z2).2.1, (getD x1 (toNat ((getD x0 (toNat x2) Z3).1)) Z2).2.2)] : List (Int × Int × ByteArray))) * 32 ≤ 140737488355328) then L0 (x0, x1, wrap i64 (x2 + 1), x3 ++ ([((getD x1 (toNat ((getD x0 (toNat x2) Z3).1)) Z2).1, (getD x1 (toNat ((getD x0 (toNat x2) Z3).1)) Z2).2.1, (getD x1 (toNat ((getD x0 (toNat x2) Z3).1)) Z2).2.2)] : List (Int × Int × ByteArray))) else none else none else none else bif decide ((List.length x3 + List.length ([Z2] : List (Int × Int × ByteArray))) * 32 ≤ 140737488355328) then L0 (x0, x1, wrap i64 (x2 + 1), x3 ++ ([Z2] : List (Int × Int × ByteArray))) else none else none else some x3
noncomputable def ll0 : Y47 → LS
 | (x0, x1, x2, x3) => ⟨[.cv ⟨.row K5, x0⟩, .cv ⟨.row K6, x1⟩, .ref 20 0 [] none 0, .cv ⟨.int .i64, x2⟩], [⟨true, [⟨0, 0, .mk 9 ⟨.row K6, x3⟩⟩]⟩]⟩
noncomputable def m (B0 : Y47 → Option Y21) : Y18 → Option Y21
 | (a0_0, a1_0) => B0 (a0_0, a1_0, (0 : Int), ([] : List (Int × Int × ByteArray)))
noncomputable def sig : Sig := ⟨[.val false [⟨.row K5, 0, 0, false⟩], .val false [⟨.row K6, 0, 0, false⟩]], [(.one, [(.row K6, 1)])]⟩
noncomputable def hint : Nat → Hint
 | 0 => ⟨[(0, .keep), (1, .keep), (5, .own 9 K6), (6, .keep)], []⟩
 | _ => ⟨[], []⟩
noncomputable def join (_ : Nat) : Option Hint := none
noncomputable def body : Code := (Tryz.f85).body.getD .skip
noncomputable def rv : List ResultVar := (Tryz.f85).results.toList
noncomputable def fn : Fn := ⟨38, sig, rv, body, hint, join⟩
end spec_Pick
namespace spec_l11Key
noncomputable def m (c15 : Y14 → Option ((List Int))) (c83 : Y24 → Option Y15) (c84 : Y18 → Option ((List Int))) (c85 : Y18 → Option Y21) : Y30 → Option ((List Int))
 | (a0_0, a1_0, a2_0, a3_0) => bif decide (0 ≤ a1_0) && decide (a1_0 < (List.length a0_0 : Int)) then Option.bind (c83 ((getD a0_0 (toNat a1_0) Z0).1, (getD a0_0 (toNat a1_0) Z0).2.1, (getD a0_0 (toNat a1_0) Z0).2.2.1, (getD a0_0 (toNat a1_0) Z0).2.2.2, a2_0)) fun r1 => Option.bind (c15 (a0_0, a1_0, a2_0)) fun r2 => Option.bind (c85 (r1, a3_0)) fun r3 => Option.bind (c84 (r1, r3)) fun r4 => bif decide ((List.length r2 + List.length r4) * 1 ≤ 140737488355328) then some (r2 ++ r4) else none else none
noncomputable def sig : Sig := ⟨[.val false [⟨.row K4, 0, 0, false⟩], .val false [⟨.int .i64, 0, 0, false⟩], .val false [⟨.int .i64, 0, 0, false⟩], .val false [⟨.row K6, 0, 0, false⟩]], [(.one, [(.row K7, 1)])]⟩
noncomputable def hint (_ : Nat) : Hint := ⟨[], []⟩
noncomputable def join (_ : Nat) : Option Hint := none
noncomputable def body : Code := (Tryz.f48).body.getD .skip
noncomputable def rv : List ResultVar := (Tryz.f48).results.toList
noncomputable def fn : Fn := ⟨26, sig, rv, body, hint, join⟩
end spec_l11Key
namespace impl_addU
noncomputable def s0 (L0 : (Int × (List Int)) → Option ((List Int))) : (Int × (List Int)) → Option ((List Int))
 | (x0, x1) => bif decide (x0 > 127) then bif decide (¬ (128 : Int) = 0) then bif decide ((List.length x1 + List.length ([wrap .u8 (wrap i64 ((Int.tmod x0 (128 : Int)) + 128))] : List Int)) * 1 ≤ 140737488355328) then bif decide (¬ (128 : Int) = 0) then L0 (wrap i64 (Int.tdiv x0 (128 : Int)), x1 ++ ([wrap .u8 (wrap i64 ((Int.tmod x0 (128 : Int)) + 128))] : List Int)) else none else none else none else bif decide ((List.length x1 + List.length ([wrap .u8 x0] : List Int)) * 1 ≤ 140737488355328) then some (x1 ++ ([wrap .u8 x0] : List Int)) else none
noncomputable def ll0 : (Int × (List Int)) → LS
 | (x0, x1) => ⟨[.ref 0 0 [] none 0, .cv ⟨.int .i64, x0⟩], [⟨true, [⟨0, 0, .mk 1 ⟨.row K7, x1⟩⟩]⟩]⟩
noncomputable def m (c127 : (Int × Int × Int) → Option Int) (B0 : (Int × (List Int)) → Option ((List Int))) : ((List Int) × Int) → Option ((List Int))
 | (a0_0, a1_0) => Option.bind (c127 (a1_0, (0 : Int), (1000000 : Int))) fun r1 => B0 (r1, a0_0)
noncomputable def sig : Sig := ⟨[.val false [⟨.row K7, 1, 1, false⟩], .val false [⟨.int .i64, 0, 0, false⟩]], [(.one, [(.row K7, 1)])]⟩
noncomputable def hint : Nat → Hint
 | 0 => ⟨[(0, .own 1 K7), (1, .keep)], []⟩
 | _ => ⟨[], []⟩
noncomputable def join (_ : Nat) : Option Hint := none
noncomputable def body : Code := (Tryz.f86).body.getD .skip
noncomputable def rv : List ResultVar := (Tryz.f86).results.toList
noncomputable def fn : Fn := ⟨23, sig, rv, body, hint, join⟩
end impl_addU
namespace impl_addText
noncomputable def m (c86 : ((List Int) × Int) → Option ((List Int))) : ((List Int) × ByteArray) → Option ((List Int))
 | (a0_0, a1_0) => Option.bind (c86 (a0_0, (ByteArray.size a1_0 : Int))) fun r1 => bif decide ((List.length r1 + List.length (strNums a1_0)) * 1 ≤ 140737488355328) then some (r1 ++ (strNums a1_0)) else none
noncomputable def sig : Sig := ⟨[.val false [⟨.row K7, 1, 1, false⟩], .val false [⟨.str, 0, 0, false⟩]], [(.one, [(.row K7, 1)])]⟩
noncomputable def hint (_ : Nat) : Hint := ⟨[], []⟩
noncomputable def join (_ : Nat) : Option Hint := none
noncomputable def body : Code := (Tryz.f88).body.getD .skip
noncomputable def rv : List ResultVar := (Tryz.f88).results.toList
noncomputable def fn : Fn := ⟨11, sig, rv, body, hint, join⟩
end impl_addText
namespace impl_Crc
noncomputable def s0 (B2 : Y48 → Option Int) (L0 : Y49 → Option Int) : Y49 → Option Int
 | (x0, x1, x2, x3) => bif decide (x3 < x2) then bif decide (0 ≤ x3) && decide (x3 < (List.length x1 : Int)) then B2 (wrap .u32 ((BitVec.ofInt (IntKind.bits IntKind.u32) x0 ^^^ BitVec.ofInt (IntKind.bits IntKind.u32) (wrap .u32 (getD x1 (toNat x3) (0 : Int)))).toNat : Int), x1, x2, x3, (0 : Int)) else none else some (wrap i64 (wrap .u32 ((BitVec.ofInt (IntKind.bits IntKind.u32) (if IntKind.signed IntKind.u32 then -1 else IntKind.max IntKind.u32) ^^^ BitVec.ofInt (IntKind.bits IntKind.u32) x0).toNat : Int)))
noncomputable def ll0 : Y49 → LS
 | (x0, x1, x2, x3) => ⟨[.cv ⟨.int .u32, x0⟩, .cv ⟨.row K7, x1⟩, .cv ⟨.int .i64, x2⟩, .cv ⟨.int .i64, x3⟩], []⟩
noncomputable def s2 (L0 : Y49 → Option Int) (L2 : Y48 → Option Int) : Y48 → Option Int
 | (x0, x1, x2, x3, x4) => bif decide (x4 < 8) then bif decide (¬ (1 : Int) < 0) then bif (wrap .u32 ((BitVec.ofInt (IntKind.bits IntKind.u32) x0 &&& BitVec.ofInt (IntKind.bits IntKind.u32) (1 : Int)).toNat : Int)) == 1 then L2 (wrap .u32 ((BitVec.ofInt (IntKind.bits IntKind.u32) (Int.fdiv x0 (2 ^ (min (toNat (1 : Int)) (IntKind.bits IntKind.u32)))) ^^^ BitVec.ofInt (IntKind.bits IntKind.u32) (2197175160 : Int)).toNat : Int), x1, x2, x3, wrap i64 (x4 + 1)) else L2 (Int.fdiv x0 (2 ^ (min (toNat (1 : Int)) (IntKind.bits IntKind.u32))), x1, x2, x3, wrap i64 (x4 + 1)) else none else L0 (x0, x1, x2, wrap i64 (x3 + 1))
noncomputable def ll2 : Y48 → LS
 | (x0, x1, x2, x3, x4) => ⟨[.cv ⟨.int .u32, x0⟩, .cv ⟨.row K7, x1⟩, .cv ⟨.int .i64, x2⟩, .cv ⟨.int .i64, x3⟩, .cv ⟨.int .i64, x4⟩], []⟩
noncomputable def m (B0 : Y49 → Option Int) : ((List Int)) → Option Int
 | a0_0 => B0 ((4294967295 : Int), a0_0, (List.length a0_0 : Int), (0 : Int))
noncomputable def sig : Sig := ⟨[.val false [⟨.row K7, 0, 0, false⟩]], [(.one, [(.int .i64, 0)])]⟩
noncomputable def hint : Nat → Hint
 | 0 => ⟨[(3, .keep), (7, .keep), (8, .keep), (9, .keep)], []⟩
 | 2 => ⟨[(3, .keep), (7, .keep), (8, .keep), (9, .keep), (17, .keep)], []⟩
 | _ => ⟨[], []⟩
noncomputable def join (_ : Nat) : Option Hint := none
noncomputable def body : Code := (Tryz.f130).body.getD .skip
noncomputable def rv : List ResultVar := (Tryz.f130).results.toList
noncomputable def fn : Fn := ⟨32, sig, rv, body, hint, join⟩
end impl_Crc
namespace impl_addSum
noncomputable def m (c130 : ((List Int)) → Option Int) : ((List Int)) → Option ((List Int))
 | a0_0 => Option.bind (c130 a0_0) fun r1 => bif decide (¬ (24 : Int) < 0) then bif decide (¬ (16 : Int) < 0) then bif decide (¬ (8 : Int) < 0) then bif decide ((List.length a0_0 + List.length ([wrap .u8 (Int.fdiv r1 (2 ^ (min (toNat (24 : Int)) (IntKind.bits IntKind.i64)))), wrap .u8 (Int.fdiv r1 (2 ^ (min (toNat (16 : Int)) (IntKind.bits IntKind.i64)))), wrap .u8 (Int.fdiv r1 (2 ^ (min (toNat (8 : Int)) (IntKind.bits IntKind.i64)))), wrap .u8 r1] : List Int)) * 1 ≤ 140737488355328) then some (a0_0 ++ ([wrap .u8 (Int.fdiv r1 (2 ^ (min (toNat (24 : Int)) (IntKind.bits IntKind.i64)))), wrap .u8 (Int.fdiv r1 (2 ^ (min (toNat (16 : Int)) (IntKind.bits IntKind.i64)))), wrap .u8 (Int.fdiv r1 (2 ^ (min (toNat (8 : Int)) (IntKind.bits IntKind.i64)))), wrap .u8 r1] : List Int)) else none else none else none else none
noncomputable def sig : Sig := ⟨[.val false [⟨.row K7, 1, 1, false⟩]], [(.one, [(.row K7, 1)])]⟩
noncomputable def hint (_ : Nat) : Hint := ⟨[], []⟩
noncomputable def join (_ : Nat) : Option Hint := none
noncomputable def body : Code := (Tryz.f89).body.getD .skip
noncomputable def rv : List ResultVar := (Tryz.f89).results.toList
noncomputable def fn : Fn := ⟨20, sig, rv, body, hint, join⟩
end impl_addSum
namespace impl_EncodeRow
noncomputable def s0 (c86 c87 : ((List Int) × Int) → Option ((List Int))) (c88 : ((List Int) × ByteArray) → Option ((List Int))) (c89 : ((List Int)) → Option ((List Int))) (L0 : Y50 → Option ((List Int))) : Y50 → Option ((List Int))
 | (x0, x1, x2, x3) => bif decide (x2 < x1) then bif decide (0 ≤ x2) && decide (x2 < (List.length x0 : Int)) then Option.bind (c86 (x3, (getD x0 (toNat x2) Z2).1)) fun r3 => bif ((getD x0 (toNat x2) Z2).1) == 1 then bif ((getD x0 (toNat x2) Z2).1) == 1 then Option.bind (c87 (r3, (getD x0 (toNat x2) Z2).2.1)) fun r4 => L0 (x0, x1, wrap i64 (x2 + 1), r4) else bif ((getD x0 (toNat x2) Z2).1) == 3 then Option.bind (c88 (r3, (getD x0 (toNat x2) Z2).2.2)) fun r5 => L0 (x0, x1, wrap i64 (x2 + 1), r5) else bif ((getD x0 (toNat x2) Z2).1) == 4 then bif decide ((List.length r3 + List.length ([wrap .u8 ((getD x0 (toNat x2) Z2).2.1)] : List Int)) * 1 ≤ 140737488355328) then L0 (x0, x1, wrap i64 (x2 + 1), r3 ++ ([wrap .u8 ((getD x0 (toNat x2) Z2).2.1)] : List Int)) else none else L0 (x0, x1, wrap i64 (x2 + 1), r3) else bif ((getD x0 (toNat x2) Z2).1) == 2 then Option.bind (c87 (r3, (getD x0 (toNat x2) Z2).2.1)) fun r6 => L0 (x0, x1, wrap i64 (x2 + 1), r6) else bif ((getD x0 (toNat x2) Z2).1) == 3 then Option.bind (c88 (r3, (getD x0 (toNat x2) Z2).2.2)) fun r7 => L0 (x0, x1, wrap i64 (x2 + 1), r7) else bif ((getD x0 (toNat x2) Z2).1) == 4 then bif decide ((List.length r3 + List.length ([wrap .u8 ((getD x0 (toNat x2) Z2).2.1)] : List Int)) * 1 ≤ 140737488355328) then L0 (x0, x1, wrap i64 (x2 + 1), r3 ++ ([wrap .u8 ((getD x0 (toNat x2) Z2).2.1)] : List Int)) else none else L0 (x0, x1, wrap i64 (x2 + 1), r3) else none else Option.bind (c89 x3) fun r8 => some r8
noncomputable def ll0 : Y50 → LS
 | (x0, x1, x2, x3) => ⟨[.ref 20 0 [] none 0, .cv ⟨.row K6, x0⟩, .cv ⟨.int .i64, x1⟩, .cv ⟨.int .i64, x2⟩], [⟨true, [⟨0, 0, .mk 1 ⟨.row K7, x3⟩⟩]⟩]⟩
noncomputable def m (c42 : Y18 → Option Bool) (c86 : ((List Int) × Int) → Option ((List Int))) (B0 : Y50 → Option ((List Int))) : Y18 → Option ((List Int))
 | (a0_0, a1_0) => Option.bind (c42 (a0_0, a1_0)) fun r1 => bif !(r1) then some ([] : List Int) else Option.bind (c86 (([] : List Int), (List.length a1_0 : Int))) fun r2 => B0 (a1_0, (List.length a1_0 : Int), (0 : Int), r2)
noncomputable def sig : Sig := ⟨[.val false [⟨.row K5, 0, 0, false⟩], .val false [⟨.row K6, 0, 0, false⟩]], [(.one, [(.row K7, 1)])]⟩
noncomputable def hint : Nat → Hint
 | 0 => ⟨[(5, .own 1 K7), (15, .keep), (16, .keep), (17, .keep)], []⟩
 | _ => ⟨[], []⟩
noncomputable def join (_ : Nat) : Option Hint := none
noncomputable def body : Code := (Tryz.f49).body.getD .skip
noncomputable def rv : List ResultVar := (Tryz.f49).results.toList
noncomputable def fn : Fn := ⟨51, sig, rv, body, hint, join⟩
end impl_EncodeRow
namespace impl_LongKey
noncomputable def s0 (c12 : Y30 → Option ((List Int))) (c43 : Y1 → Option Y15) (c49 : Y18 → Option ((List Int))) (L0 : Y52 → Option Bool) : Y52 → Option Bool
 | (x0, x1, x2, x3) => bif decide (0 ≤ x1) && decide (x1 < (List.length x0 : Int)) then bif decide (x3 < (List.length ((getD x0 (toNat x1) Z0).2.2.2) : Int)) then Option.bind (c12 (x0, x1, x3, x2)) fun r2 => bif decide ((List.length r2 : Int) > 48) then some true else L0 (x0, x1, x2, wrap i64 (x3 + 1)) else bif decide (0 ≤ x1) && decide (x1 < (List.length x0 : Int)) then Option.bind (c43 ((getD x0 (toNat x1) Z0).1, (getD x0 (toNat x1) Z0).2.1, (getD x0 (toNat x1) Z0).2.2.1, (getD x0 (toNat x1) Z0).2.2.2)) fun r3 => Option.bind (c49 (r3, x2)) fun r4 => some (decide ((List.length r4 : Int) > 60)) else none else none
noncomputable def ll0 : Y52 → LS
 | (x0, x1, x2, x3) => ⟨[.cv ⟨.row K4, x0⟩, .cv ⟨.int .i64, x1⟩, .cv ⟨.row K6, x2⟩, .cv ⟨.int .i64, x3⟩], []⟩
noncomputable def m (c41 : Y14 → Option Bool) (B0 : Y52 → Option Bool) : Y51 → Option Bool
 | (a0_0, a1_0, a2_0) => Option.bind (c41 (a0_0, a1_0, (-1 : Int))) fun r1 => bif !(r1) then some false else B0 (a0_0, a1_0, a2_0, (-1 : Int))
noncomputable def sig : Sig := ⟨[.val false [⟨.row K4, 0, 0, false⟩], .val false [⟨.int .i64, 0, 0, false⟩], .val false [⟨.row K6, 0, 0, false⟩]], [(.one, [(.bool, 0)])]⟩
noncomputable def hint : Nat → Hint
 | 0 => ⟨[(0, .keep), (1, .keep), (2, .keep), (7, .keep)], []⟩
 | _ => ⟨[], []⟩
noncomputable def join (_ : Nat) : Option Hint := none
noncomputable def body : Code := (Tryz.f16).body.getD .skip
noncomputable def rv : List ResultVar := (Tryz.f16).results.toList
noncomputable def fn : Fn := ⟨38, sig, rv, body, hint, join⟩
end impl_LongKey
namespace spec_PutU
noncomputable def s0 (L0 : (Int × (List Int)) → Option ((List Int))) : (Int × (List Int)) → Option ((List Int))
 | (x0, x1) => bif decide (x0 > 127) then bif decide ((List.length x1 + List.length ([wrap .u8 (wrap i64 ((BitVec.ofInt (IntKind.bits IntKind.i64) (wrap i64 ((BitVec.ofInt (IntKind.bits IntKind.i64) x0 &&& BitVec.ofInt (IntKind.bits IntKind.i64) (127 : Int)).toNat : Int)) ||| BitVec.ofInt (IntKind.bits IntKind.i64) (128 : Int)).toNat : Int))] : List Int)) * 1 ≤ 140737488355328) then bif decide (¬ (7 : Int) < 0) then L0 (Int.fdiv x0 (2 ^ (min (toNat (7 : Int)) (IntKind.bits IntKind.i64))), x1 ++ ([wrap .u8 (wrap i64 ((BitVec.ofInt (IntKind.bits IntKind.i64) (wrap i64 ((BitVec.ofInt (IntKind.bits IntKind.i64) x0 &&& BitVec.ofInt (IntKind.bits IntKind.i64) (127 : Int)).toNat : Int)) ||| BitVec.ofInt (IntKind.bits IntKind.i64) (128 : Int)).toNat : Int))] : List Int)) else none else none else bif decide ((List.length x1 + List.length ([wrap .u8 x0] : List Int)) * 1 ≤ 140737488355328) then some (x1 ++ ([wrap .u8 x0] : List Int)) else none
noncomputable def ll0 : (Int × (List Int)) → LS
 | (x0, x1) => ⟨[.cv ⟨.int .i64, x0⟩, .ref 20 0 [] none 0], [⟨true, [⟨0, 0, .mk 9 ⟨.row K7, x1⟩⟩]⟩]⟩
noncomputable def m (B0 : (Int × (List Int)) → Option ((List Int))) : ((List Int) × Int) → Option ((List Int))
 | (a0_0, a1_0) => bif decide ((List.length ([] : List Int) + List.length a0_0) * 1 ≤ 140737488355328) then bif decide (a1_0 > 1000000) then bif decide ((1000000 : Int) < 0) then B0 ((0 : Int), ([] : List Int) ++ a0_0) else B0 ((1000000 : Int), ([] : List Int) ++ a0_0) else bif decide (a1_0 < 0) then B0 ((0 : Int), ([] : List Int) ++ a0_0) else B0 (a1_0, ([] : List Int) ++ a0_0) else none
noncomputable def sig : Sig := ⟨[.val false [⟨.row K7, 0, 0, false⟩], .val false [⟨.int .i64, 0, 0, false⟩]], [(.one, [(.row K7, 1)])]⟩
noncomputable def hint : Nat → Hint
 | 0 => ⟨[(1, .keep), (5, .own 9 K7)], []⟩
 | _ => ⟨[], []⟩
noncomputable def join (_ : Nat) : Option Hint := none
noncomputable def body : Code := (Tryz.f90).body.getD .skip
noncomputable def rv : List ResultVar := (Tryz.f90).results.toList
noncomputable def fn : Fn := ⟨29, sig, rv, body, hint, join⟩
end spec_PutU
namespace spec_PutText
noncomputable def m (c90 : ((List Int) × Int) → Option ((List Int))) : ((List Int) × ByteArray) → Option ((List Int))
 | (a0_0, a1_0) => Option.bind (c90 (a0_0, (ByteArray.size a1_0 : Int))) fun r1 => bif decide ((List.length r1 + List.length (strNums a1_0)) * 1 ≤ 140737488355328) then some (r1 ++ (strNums a1_0)) else none
noncomputable def sig : Sig := ⟨[.val false [⟨.row K7, 0, 0, false⟩], .val false [⟨.str, 0, 0, false⟩]], [(.one, [(.row K7, 1)])]⟩
noncomputable def hint (_ : Nat) : Hint := ⟨[], []⟩
noncomputable def join (_ : Nat) : Option Hint := none
noncomputable def body : Code := (Tryz.f92).body.getD .skip
noncomputable def rv : List ResultVar := (Tryz.f92).results.toList
noncomputable def fn : Fn := ⟨11, sig, rv, body, hint, join⟩
end spec_PutText
namespace spec_Crc
noncomputable def s0 (B2 : Y25 → Option Int) (L0 : ((List Int) × Int × Int) → Option Int) : ((List Int) × Int × Int) → Option Int
 | (x0, x1, x2) => bif decide (x2 < (List.length x0 : Int)) then bif decide (0 ≤ x2) && decide (x2 < (List.length x0 : Int)) then B2 (x0, wrap i64 ((BitVec.ofInt (IntKind.bits IntKind.i64) x1 ^^^ BitVec.ofInt (IntKind.bits IntKind.i64) (wrap i64 (getD x0 (toNat x2) (0 : Int)))).toNat : Int), x2, (0 : Int)) else none else some (wrap i64 ((BitVec.ofInt (IntKind.bits IntKind.i64) x1 ^^^ BitVec.ofInt (IntKind.bits IntKind.i64) (4294967295 : Int)).toNat : Int))
noncomputable def ll0 : ((List Int) × Int × Int) → LS
 | (x0, x1, x2) => ⟨[.cv ⟨.row K7, x0⟩, .cv ⟨.int .i64, x1⟩, .cv ⟨.int .i64, x2⟩], []⟩
noncomputable def s2 (L0 : ((List Int) × Int × Int) → Option Int) (L2 : Y25 → Option Int) : Y25 → Option Int
 | (x0, x1, x2, x3) => bif decide (x3 < 8) then bif decide (¬ (1 : Int) < 0) then bif (wrap i64 ((BitVec.ofInt (IntKind.bits IntKind.i64) x1 &&& BitVec.ofInt (IntKind.bits IntKind.i64) (1 : Int)).toNat : Int)) == 1 then L2 (x0, wrap i64 ((BitVec.ofInt (IntKind.bits IntKind.i64) (Int.fdiv x1 (2 ^ (min (toNat (1 : Int)) (IntKind.bits IntKind.i64)))) ^^^ BitVec.ofInt (IntKind.bits IntKind.i64) (2197175160 : Int)).toNat : Int), x2, wrap i64 (x3 + 1)) else L2 (x0, Int.fdiv x1 (2 ^ (min (toNat (1 : Int)) (IntKind.bits IntKind.i64))), x2, wrap i64 (x3 + 1)) else none else L0 (x0, x1, wrap i64 (x2 + 1))
noncomputable def ll2 : Y25 → LS
 | (x0, x1, x2, x3) => ⟨[.cv ⟨.row K7, x0⟩, .cv ⟨.int .i64, x1⟩, .cv ⟨.int .i64, x2⟩, .cv ⟨.int .i64, x3⟩], []⟩
noncomputable def m (B0 : ((List Int) × Int × Int) → Option Int) : ((List Int)) → Option Int
 | a0_0 => B0 (a0_0, (4294967295 : Int), (0 : Int))
noncomputable def sig : Sig := ⟨[.val false [⟨.row K7, 0, 0, false⟩]], [(.one, [(.int .i64, 0)])]⟩
noncomputable def hint : Nat → Hint
 | 0 => ⟨[(0, .keep), (3, .keep), (4, .keep)], []⟩
 | 2 => ⟨[(0, .keep), (3, .keep), (4, .keep), (5, .keep)], []⟩
 | _ => ⟨[], []⟩
noncomputable def join (_ : Nat) : Option Hint := none
noncomputable def body : Code := (Tryz.f133).body.getD .skip
noncomputable def rv : List ResultVar := (Tryz.f133).results.toList
noncomputable def fn : Fn := ⟨34, sig, rv, body, hint, join⟩
end spec_Crc
namespace spec_PutSum
noncomputable def m (c133 : ((List Int)) → Option Int) : ((List Int)) → Option ((List Int))
 | a0_0 => Option.bind (c133 a0_0) fun r1 => bif decide ((List.length ([] : List Int) + List.length a0_0) * 1 ≤ 140737488355328) then bif decide (¬ (24 : Int) < 0) then bif decide (¬ (16 : Int) < 0) then bif decide (¬ (8 : Int) < 0) then bif decide ((List.length (([] : List Int) ++ a0_0) + List.length ([wrap .u8 (Int.fdiv r1 (2 ^ (min (toNat (24 : Int)) (IntKind.bits IntKind.i64)))), wrap .u8 (Int.fdiv r1 (2 ^ (min (toNat (16 : Int)) (IntKind.bits IntKind.i64)))), wrap .u8 (Int.fdiv r1 (2 ^ (min (toNat (8 : Int)) (IntKind.bits IntKind.i64)))), wrap .u8 r1] : List Int)) * 1 ≤ 140737488355328) then some ((([] : List Int) ++ a0_0) ++ ([wrap .u8 (Int.fdiv r1 (2 ^ (min (toNat (24 : Int)) (IntKind.bits IntKind.i64)))), wrap .u8 (Int.fdiv r1 (2 ^ (min (toNat (16 : Int)) (IntKind.bits IntKind.i64)))), wrap .u8 (Int.fdiv r1 (2 ^ (min (toNat (8 : Int)) (IntKind.bits IntKind.i64)))), wrap .u8 r1] : List Int)) else none else none else none else none else none
noncomputable def sig : Sig := ⟨[.val false [⟨.row K7, 0, 0, false⟩]], [(.one, [(.row K7, 1)])]⟩
noncomputable def hint (_ : Nat) : Hint := ⟨[], []⟩
noncomputable def join (_ : Nat) : Option Hint := none
noncomputable def body : Code := (Tryz.f93).body.getD .skip
noncomputable def rv : List ResultVar := (Tryz.f93).results.toList
noncomputable def fn : Fn := ⟨22, sig, rv, body, hint, join⟩
end spec_PutSum
namespace spec_EncodeRow
noncomputable def s0 (c90 c91 : ((List Int) × Int) → Option ((List Int))) (c92 : ((List Int) × ByteArray) → Option ((List Int))) (c93 : ((List Int)) → Option ((List Int))) (L0 : Y53 → Option ((List Int))) : Y53 → Option ((List Int))
 | (x0, x1, x2) => bif decide (x1 < (List.length x0 : Int)) then bif decide (0 ≤ x1) && decide (x1 < (List.length x0 : Int)) then Option.bind (c90 (x2, (getD x0 (toNat x1) Z2).1)) fun r3 => bif ((getD x0 (toNat x1) Z2).1) == 1 then bif ((getD x0 (toNat x1) Z2).1) == 1 then Option.bind (c91 (r3, (getD x0 (toNat x1) Z2).2.1)) fun r4 => L0 (x0, wrap i64 (x1 + 1), r4) else bif ((getD x0 (toNat x1) Z2).1) == 3 then Option.bind (c92 (r3, (getD x0 (toNat x1) Z2).2.2)) fun r5 => L0 (x0, wrap i64 (x1 + 1), r5) else bif ((getD x0 (toNat x1) Z2).1) == 4 then bif decide ((List.length r3 + List.length ([wrap .u8 ((getD x0 (toNat x1) Z2).2.1)] : List Int)) * 1 ≤ 140737488355328) then L0 (x0, wrap i64 (x1 + 1), r3 ++ ([wrap .u8 ((getD x0 (toNat x1) Z2).2.1)] : List Int)) else none else L0 (x0, wrap i64 (x1 + 1), r3) else bif ((getD x0 (toNat x1) Z2).1) == 2 then Option.bind (c91 (r3, (getD x0 (toNat x1) Z2).2.1)) fun r6 => L0 (x0, wrap i64 (x1 + 1), r6) else bif ((getD x0 (toNat x1) Z2).1) == 3 then Option.bind (c92 (r3, (getD x0 (toNat x1) Z2).2.2)) fun r7 => L0 (x0, wrap i64 (x1 + 1), r7) else bif ((getD x0 (toNat x1) Z2).1) == 4 then bif decide ((List.length r3 + List.length ([wrap .u8 ((getD x0 (toNat x1) Z2).2.1)] : List Int)) * 1 ≤ 140737488355328) then L0 (x0, wrap i64 (x1 + 1), r3 ++ ([wrap .u8 ((getD x0 (toNat x1) Z2).2.1)] : List Int)) else none else L0 (x0, wrap i64 (x1 + 1), r3) else none else Option.bind (c93 x2) fun r8 => some r8
noncomputable def ll0 : Y53 → LS
 | (x0, x1, x2) => ⟨[.cv ⟨.row K6, x0⟩, .ref 20 0 [] none 0, .cv ⟨.int .i64, x1⟩], [⟨true, [⟨0, 0, .mk 1 ⟨.row K7, x2⟩⟩]⟩]⟩
noncomputable def m (c46 : Y18 → Option Bool) (c90 : ((List Int) × Int) → Option ((List Int))) (B0 : Y53 → Option ((List Int))) : Y18 → Option ((List Int))
 | (a0_0, a1_0) => Option.bind (c46 (a0_0, a1_0)) fun r1 => bif !(r1) then some ([] : List Int) else Option.bind (c90 (([] : List Int), (List.length a1_0 : Int))) fun r2 => B0 (a1_0, (0 : Int), r2)
noncomputable def sig : Sig := ⟨[.val false [⟨.row K5, 0, 0, false⟩], .val false [⟨.row K6, 0, 0, false⟩]], [(.one, [(.row K7, 1)])]⟩
noncomputable def hint : Nat → Hint
 | 0 => ⟨[(1, .keep), (5, .own 1 K7), (6, .keep)], []⟩
 | _ => ⟨[], []⟩
noncomputable def join (_ : Nat) : Option Hint := none
noncomputable def body : Code := (Tryz.f50).body.getD .skip
noncomputable def rv : List ResultVar := (Tryz.f50).results.toList
noncomputable def fn : Fn := ⟨56, sig, rv, body, hint, join⟩
end spec_EncodeRow
namespace spec_LongKey
noncomputable def s0 (c47 : Y1 → Option Y15) (c48 : Y30 → Option ((List Int))) (c50 : Y18 → Option ((List Int))) (L0 : Y52 → Option Bool) : Y52 → Option Bool
 | (x0, x1, x2, x3) => bif decide (0 ≤ x1) && decide (x1 < (List.length x0 : Int)) then bif decide (x3 < (List.length ((getD x0 (toNat x1) Z0).2.2.2) : Int)) then Option.bind (c48 (x0, x1, x3, x2)) fun r4 => bif decide ((List.length r4 : Int) > 48) then some true else L0 (x0, x1, x2, wrap i64 (x3 + 1)) else bif decide (0 ≤ x1) && decide (x1 < (List.length x0 : Int)) then Option.bind (c47 ((getD x0 (toNat x1) Z0).1, (getD x0 (toNat x1) Z0).2.1, (getD x0 (toNat x1) Z0).2.2.1, (getD x0 (toNat x1) Z0).2.2.2)) fun r5 => Option.bind (c50 (r5, x2)) fun r6 => some (decide ((List.length r6 : Int) > 60)) else none else none
noncomputable def ll0 : Y52 → LS
 | (x0, x1, x2, x3) => ⟨[.cv ⟨.row K4, x0⟩, .cv ⟨.int .i64, x1⟩, .cv ⟨.row K6, x2⟩, .cv ⟨.int .i64, x3⟩], []⟩
noncomputable def m (c45 : Y14 → Option Bool) (c46 : Y18 → Option Bool) (c47 : Y1 → Option Y15) (B0 : Y52 → Option Bool) : Y51 → Option Bool
 | (a0_0, a1_0, a2_0) => Option.bind (c45 (a0_0, a1_0, (-1 : Int))) fun r1 => bif !(r1) then some false else bif decide (0 ≤ a1_0) && decide (a1_0 < (List.length a0_0 : Int)) then Option.bind (c47 ((getD a0_0 (toNat a1_0) Z0).1, (getD a0_0 (toNat a1_0) Z0).2.1, (getD a0_0 (toNat a1_0) Z0).2.2.1, (getD a0_0 (toNat a1_0) Z0).2.2.2)) fun r2 => Option.bind (c46 (r2, a2_0)) fun r3 => bif !(r3) then some false else B0 (a0_0, a1_0, a2_0, (-1 : Int)) else none
noncomputable def sig : Sig := ⟨[.val false [⟨.row K4, 0, 0, false⟩], .val false [⟨.int .i64, 0, 0, false⟩], .val false [⟨.row K6, 0, 0, false⟩]], [(.one, [(.bool, 0)])]⟩
noncomputable def hint : Nat → Hint
 | 0 => ⟨[(0, .keep), (1, .keep), (2, .keep), (7, .keep)], []⟩
 | _ => ⟨[], []⟩
noncomputable def join (_ : Nat) : Option Hint := none
noncomputable def body : Code := (Tryz.f17).body.getD .skip
noncomputable def rv : List ResultVar := (Tryz.f17).results.toList
noncomputable def fn : Fn := ⟨48, sig, rv, body, hint, join⟩
end spec_LongKey
namespace laws_szCol
noncomputable def m  : Y54 → Option Int
 | (a0_0, a0_1, a0_2, a1_0) => bif decide ((wrap i64 (a1_0 - (ByteArray.size a0_0 : Int))) < 0) then some (-1 : Int) else some (wrap i64 (a1_0 - (ByteArray.size a0_0 : Int)))
noncomputable def sig : Sig := ⟨[.val true [⟨.str, 0, 0, false⟩, ⟨.int .i64, 0, 0, false⟩, ⟨.bool, 0, 0, false⟩], .val false [⟨.int .i64, 0, 0, false⟩]], [(.one, [(.int .i64, 0)])]⟩
noncomputable def hint (_ : Nat) : Hint := ⟨[], []⟩
noncomputable def join (_ : Nat) : Option Hint := none
noncomputable def body : Code := (Tryz.f134).body.getD .skip
noncomputable def rv : List ResultVar := (Tryz.f134).results.toList
noncomputable def fn : Fn := ⟨13, sig, rv, body, hint, join⟩
end laws_szCol
namespace laws_szColS
noncomputable def s0 (c134 : Y54 → Option Int) (L0 : Y56 → Option Int) : Y56 → Option Int
 | (x0, x1, x2) => bif decide (x2 < (List.length x0 : Int)) then bif decide (0 ≤ x2) && decide (x2 < (List.length x0 : Int)) then Option.bind (c134 ((getD x0 (toNat x2) Z4).1, (getD x0 (toNat x2) Z4).2.1, (getD x0 (toNat x2) Z4).2.2, x1)) fun r1 => bif decide (r1 < 0) then some (-1 : Int) else L0 (x0, r1, wrap i64 (x2 + 1)) else none else some x1
noncomputable def ll0 : Y56 → LS
 | (x0, x1, x2) => ⟨[.cv ⟨.row K1, x0⟩, .cv ⟨.int .i64, x1⟩, .cv ⟨.int .i64, x2⟩], []⟩
noncomputable def m (B0 : Y56 → Option Int) : Y55 → Option Int
 | (a0_0, a1_0) => bif decide ((wrap i64 (a1_0 - (List.length a0_0 : Int))) < 0) then some (-1 : Int) else B0 (a0_0, wrap i64 (a1_0 - (List.length a0_0 : Int)), (0 : Int))
noncomputable def sig : Sig := ⟨[.val false [⟨.row K1, 0, 0, false⟩], .val false [⟨.int .i64, 0, 0, false⟩]], [(.one, [(.int .i64, 0)])]⟩
noncomputable def hint : Nat → Hint
 | 0 => ⟨[(0, .keep), (1, .keep), (5, .keep)], []⟩
 | _ => ⟨[], []⟩
noncomputable def join (_ : Nat) : Option Hint := none
noncomputable def body : Code := (Tryz.f94).body.getD .skip
noncomputable def rv : List ResultVar := (Tryz.f94).results.toList
noncomputable def fn : Fn := ⟨27, sig, rv, body, hint, join⟩
end laws_szColS
namespace laws_szByS
noncomputable def m  : ((List (Int × Bool)) × Int) → Option Int
 | (a0_0, a1_0) => bif decide ((wrap i64 (a1_0 - (List.length a0_0 : Int))) < 0) then some (-1 : Int) else some (wrap i64 (a1_0 - (List.length a0_0 : Int)))
noncomputable def sig : Sig := ⟨[.val false [⟨.row K2, 0, 0, false⟩], .val false [⟨.int .i64, 0, 0, false⟩]], [(.one, [(.int .i64, 0)])]⟩
noncomputable def hint (_ : Nat) : Hint := ⟨[], []⟩
noncomputable def join (_ : Nat) : Option Hint := none
noncomputable def body : Code := (Tryz.f95).body.getD .skip
noncomputable def rv : List ResultVar := (Tryz.f95).results.toList
noncomputable def fn : Fn := ⟨12, sig, rv, body, hint, join⟩
end laws_szByS
namespace laws_szIndex
noncomputable def m (c95 : ((List (Int × Bool)) × Int) → Option Int) : Y57 → Option Int
 | (a0_0, a0_1, a0_2, a1_0) => bif decide ((wrap i64 (a1_0 - (ByteArray.size a0_0 : Int))) < 0) then some (-1 : Int) else Option.bind (c95 (a0_2, wrap i64 (a1_0 - (ByteArray.size a0_0 : Int)))) fun r1 => bif decide (r1 < 0) then some (-1 : Int) else some r1
noncomputable def sig : Sig := ⟨[.val true [⟨.str, 0, 0, false⟩, ⟨.bool, 0, 0, false⟩, ⟨.row K2, 0, 0, false⟩], .val false [⟨.int .i64, 0, 0, false⟩]], [(.one, [(.int .i64, 0)])]⟩
noncomputable def hint (_ : Nat) : Hint := ⟨[], []⟩
noncomputable def join (_ : Nat) : Option Hint := none
noncomputable def body : Code := (Tryz.f135).body.getD .skip
noncomputable def rv : List ResultVar := (Tryz.f135).results.toList
noncomputable def fn : Fn := ⟨19, sig, rv, body, hint, join⟩
end laws_szIndex
namespace laws_szIndexS
noncomputable def s0 (c135 : Y57 → Option Int) (L0 : Y59 → Option Int) : Y59 → Option Int
 | (x0, x1, x2) => bif decide (x2 < (List.length x0 : Int)) then bif decide (0 ≤ x2) && decide (x2 < (List.length x0 : Int)) then Option.bind (c135 ((getD x0 (toNat x2) Z1).1, (getD x0 (toNat x2) Z1).2.1, (getD x0 (toNat x2) Z1).2.2, x1)) fun r1 => bif decide (r1 < 0) then some (-1 : Int) else L0 (x0, r1, wrap i64 (x2 + 1)) else none else some x1
noncomputable def ll0 : Y59 → LS
 | (x0, x1, x2) => ⟨[.cv ⟨.row K3, x0⟩, .cv ⟨.int .i64, x1⟩, .cv ⟨.int .i64, x2⟩], []⟩
noncomputable def m (B0 : Y59 → Option Int) : Y58 → Option Int
 | (a0_0, a1_0) => bif decide ((wrap i64 (a1_0 - (List.length a0_0 : Int))) < 0) then some (-1 : Int) else B0 (a0_0, wrap i64 (a1_0 - (List.length a0_0 : Int)), (0 : Int))
noncomputable def sig : Sig := ⟨[.val false [⟨.row K3, 0, 0, false⟩], .val false [⟨.int .i64, 0, 0, false⟩]], [(.one, [(.int .i64, 0)])]⟩
noncomputable def hint : Nat → Hint
 | 0 => ⟨[(0, .keep), (1, .keep), (5, .keep)], []⟩
 | _ => ⟨[], []⟩
noncomputable def join (_ : Nat) : Option Hint := none
noncomputable def body : Code := (Tryz.f96).body.getD .skip
noncomputable def rv : List ResultVar := (Tryz.f96).results.toList
noncomputable def fn : Fn := ⟨27, sig, rv, body, hint, join⟩
end laws_szIndexS
namespace laws_szDef
noncomputable def m (c94 : Y55 → Option Int) (c95 : ((List (Int × Bool)) × Int) → Option Int) (c96 : Y58 → Option Int) : Y24 → Option Int
 | (a0_0, a0_1, a0_2, a0_3, a1_0) => bif decide ((wrap i64 (a1_0 - (ByteArray.size a0_0 : Int))) < 0) then some (-1 : Int) else Option.bind (c94 (a0_1, wrap i64 (a1_0 - (ByteArray.size a0_0 : Int)))) fun r1 => bif decide (r1 < 0) then some (-1 : Int) else Option.bind (c95 (a0_2, r1)) fun r2 => bif decide (r2 < 0) then some (-1 : Int) else Option.bind (c96 (a0_3, r2)) fun r3 => bif decide (r3 < 0) then some (-1 : Int) else some r3
noncomputable def sig : Sig := ⟨[.val true [⟨.str, 0, 0, false⟩, ⟨.row K1, 0, 0, false⟩, ⟨.row K2, 0, 0, false⟩, ⟨.row K3, 0, 0, false⟩], .val false [⟨.int .i64, 0, 0, false⟩]], [(.one, [(.int .i64, 0)])]⟩
noncomputable def hint (_ : Nat) : Hint := ⟨[], []⟩
noncomputable def join (_ : Nat) : Option Hint := none
noncomputable def body : Code := (Tryz.f51).body.getD .skip
noncomputable def rv : List ResultVar := (Tryz.f51).results.toList
noncomputable def fn : Fn := ⟨31, sig, rv, body, hint, join⟩
end laws_szDef
namespace laws_szDefS
noncomputable def s0 (c51 : Y24 → Option Int) (L0 : Y14 → Option Int) : Y14 → Option Int
 | (x0, x1, x2) => bif decide (x2 < (List.length x0 : Int)) then bif decide (0 ≤ x2) && decide (x2 < (List.length x0 : Int)) then Option.bind (c51 ((getD x0 (toNat x2) Z0).1, (getD x0 (toNat x2) Z0).2.1, (getD x0 (toNat x2) Z0).2.2.1, (getD x0 (toNat x2) Z0).2.2.2, x1)) fun r1 => bif decide (r1 < 0) then some (-1 : Int) else L0 (x0, r1, wrap i64 (x2 + 1)) else none else some x1
noncomputable def ll0 : Y14 → LS
 | (x0, x1, x2) => ⟨[.cv ⟨.row K4, x0⟩, .cv ⟨.int .i64, x1⟩, .cv ⟨.int .i64, x2⟩], []⟩
noncomputable def m (B0 : Y14 → Option Int) : Y39 → Option Int
 | (a0_0, a1_0) => bif decide ((wrap i64 (a1_0 - (List.length a0_0 : Int))) < 0) then some (-1 : Int) else B0 (a0_0, wrap i64 (a1_0 - (List.length a0_0 : Int)), (0 : Int))
noncomputable def sig : Sig := ⟨[.val false [⟨.row K4, 0, 0, false⟩], .val false [⟨.int .i64, 0, 0, false⟩]], [(.one, [(.int .i64, 0)])]⟩
noncomputable def hint : Nat → Hint
 | 0 => ⟨[(0, .keep), (1, .keep), (5, .keep)], []⟩
 | _ => ⟨[], []⟩
noncomputable def join (_ : Nat) : Option Hint := none
noncomputable def body : Code := (Tryz.f18).body.getD .skip
noncomputable def rv : List ResultVar := (Tryz.f18).results.toList
noncomputable def fn : Fn := ⟨27, sig, rv, body, hint, join⟩
end laws_szDefS
namespace laws_szVal
noncomputable def m  : Y60 → Option Int
 | (a0_0, a0_1, a0_2, a1_0) => bif decide ((wrap i64 (a1_0 - (ByteArray.size a0_2 : Int))) < 0) then some (-1 : Int) else some (wrap i64 (a1_0 - (ByteArray.size a0_2 : Int)))
noncomputable def sig : Sig := ⟨[.val true [⟨.int .i64, 0, 0, false⟩, ⟨.int .i64, 0, 0, false⟩, ⟨.str, 0, 0, false⟩], .val false [⟨.int .i64, 0, 0, false⟩]], [(.one, [(.int .i64, 0)])]⟩
noncomputable def hint (_ : Nat) : Hint := ⟨[], []⟩
noncomputable def join (_ : Nat) : Option Hint := none
noncomputable def body : Code := (Tryz.f52).body.getD .skip
noncomputable def rv : List ResultVar := (Tryz.f52).results.toList
noncomputable def fn : Fn := ⟨13, sig, rv, body, hint, join⟩
end laws_szVal
namespace laws_szValS
noncomputable def s0 (c52 : Y60 → Option Int) (L0 : Y62 → Option Int) : Y62 → Option Int
 | (x0, x1, x2) => bif decide (x2 < (List.length x0 : Int)) then bif decide (0 ≤ x2) && decide (x2 < (List.length x0 : Int)) then Option.bind (c52 ((getD x0 (toNat x2) Z2).1, (getD x0 (toNat x2) Z2).2.1, (getD x0 (toNat x2) Z2).2.2, x1)) fun r1 => bif decide (r1 < 0) then some (-1 : Int) else L0 (x0, r1, wrap i64 (x2 + 1)) else none else some x1
noncomputable def ll0 : Y62 → LS
 | (x0, x1, x2) => ⟨[.cv ⟨.row K6, x0⟩, .cv ⟨.int .i64, x1⟩, .cv ⟨.int .i64, x2⟩], []⟩
noncomputable def m (B0 : Y62 → Option Int) : Y61 → Option Int
 | (a0_0, a1_0) => bif decide ((wrap i64 (a1_0 - (List.length a0_0 : Int))) < 0) then some (-1 : Int) else B0 (a0_0, wrap i64 (a1_0 - (List.length a0_0 : Int)), (0 : Int))
noncomputable def sig : Sig := ⟨[.val false [⟨.row K6, 0, 0, false⟩], .val false [⟨.int .i64, 0, 0, false⟩]], [(.one, [(.int .i64, 0)])]⟩
noncomputable def hint : Nat → Hint
 | 0 => ⟨[(0, .keep), (1, .keep), (5, .keep)], []⟩
 | _ => ⟨[], []⟩
noncomputable def join (_ : Nat) : Option Hint := none
noncomputable def body : Code := (Tryz.f19).body.getD .skip
noncomputable def rv : List ResultVar := (Tryz.f19).results.toList
noncomputable def fn : Fn := ⟨27, sig, rv, body, hint, join⟩
end laws_szValS
namespace laws_toCol
noncomputable def m  : (ByteArray × Int × Bool) → Option (ByteArray × Int × Bool)
 | (a0_0, a0_1, a0_2) => some (a0_0, a0_1, a0_2)
noncomputable def sig : Sig := ⟨[.val true [⟨.str, 0, 0, false⟩, ⟨.int .i64, 0, 0, false⟩, ⟨.bool, 0, 0, false⟩]], [(.agg, [(.str, 0), (.int .i64, 0), (.bool, 0)])]⟩
noncomputable def hint (_ : Nat) : Hint := ⟨[], []⟩
noncomputable def join (_ : Nat) : Option Hint := none
noncomputable def body : Code := (Tryz.f136).body.getD .skip
noncomputable def rv : List ResultVar := (Tryz.f136).results.toList
noncomputable def fn : Fn := ⟨14, sig, rv, body, hint, join⟩
end laws_toCol
namespace laws_toColS
noncomputable def s0 (c136 : (ByteArray × Int × Bool) → Option (ByteArray × Int × Bool)) (L0 : Y64 → Option Y63) : Y64 → Option Y63
 | (x0, x1, x2) => bif decide (x1 < (List.length x0 : Int)) then bif decide (0 ≤ x1) && decide (x1 < (List.length x0 : Int)) then Option.bind (c136 ((getD x0 (toNat x1) Z4).1, (getD x0 (toNat x1) Z4).2.1, (getD x0 (toNat x1) Z4).2.2)) fun r1 => bif decide (0 ≤ x1) && decide (x1 < (List.length x2 : Int)) then L0 (x0, wrap i64 (x1 + 1), List.set (List.set (List.set x2 (toNat x1) (r1.1, (getD x2 (toNat x1) Z4).2.1, (getD x2 (toNat x1) Z4).2.2)) (toNat x1) ((getD (List.set x2 (toNat x1) (r1.1, (getD x2 (toNat x1) Z4).2.1, (getD x2 (toNat x1) Z4).2.2)) (toNat x1) Z4).1, r1.2.1, (getD (List.set x2 (toNat x1) (r1.1, (getD x2 (toNat x1) Z4).2.1, (getD x2 (toNat x1) Z4).2.2)) (toNat x1) Z4).2.2)) (toNat x1) ((getD (List.set (List.set x2 (toNat x1) (r1.1, (getD x2 (toNat x1) Z4).2.1, (getD x2 (toNat x1) Z4).2.2)) (toNat x1) ((getD (List.set x2 (toNat x1) (r1.1, (getD x2 (toNat x1) Z4).2.1, (getD x2 (toNat x1) Z4).2.2)) (toNat x1) Z4).1, r1.2.1, (getD (List.set x2 (toNat x1) (r1.1, (getD x2 (toNat x1) Z4).2.1, (getD x2 (toNat x1) Z4).2.2)) (toNat x1) Z4).2.2)) (toNat x1) Z4).1, (getD (List.set (List.set x2 (toNat x1) (r1.1, (getD x2 (toNat x1) Z4).2.1, (getD x2 (toNat x1) Z4).2.2)) (toNat x1) ((getD (List.set x2 (toNat x1) (r1.1, (getD x2 (toNat x1) Z4).2.1, (getD x2 (toNat x1) Z4).2.2)) (toNat x1) Z4).1, r1.2.1, (getD (List.set x2 (toNat x1) (r1.1, (getD x2 (toNat x1) Z4).2.1, (getD x2 (toNat x1) Z4).2.2)) (toNat x1) Z4).2.2)) (toNat x1) Z4).2.1, r1.2.2)) else none else none else some x2
noncomputable def ll0 : Y64 → LS
 | (x0, x1, x2) => ⟨[.cv ⟨.row K1, x0⟩, .ref 12 0 [] none 0, .cv ⟨.int .i64, x1⟩], [⟨true, [⟨0, 0, .mk 9 ⟨.row K1, x2⟩⟩]⟩]⟩
noncomputable def m (B0 : Y64 → Option Y63) : Y63 → Option Y63
 | a0_0 => bif decide (0 ≤ (List.length a0_0 : Int)) && decide ((List.length a0_0 : Int) ≤ (List.length a0_0 : Int)) && decide ((List.length a0_0 : Int) * 32 ≤ 140737488355328) then B0 (a0_0, (0 : Int), List.replicate (toNat (List.length a0_0 : Int)) Z4) else none
noncomputable def sig : Sig := ⟨[.val false [⟨.row K1, 0, 0, false⟩]], [(.one, [(.row K1, 1)])]⟩
noncomputable def hint : Nat → Hint
 | 0 => ⟨[(0, .keep), (3, .own 9 K1), (4, .keep)], []⟩
 | _ => ⟨[], []⟩
noncomputable def join (_ : Nat) : Option Hint := none
noncomputable def body : Code := (Tryz.f97).body.getD .skip
noncomputable def rv : List ResultVar := (Tryz.f97).results.toList
noncomputable def fn : Fn := ⟨23, sig, rv, body, hint, join⟩
end laws_toColS
namespace laws_toBy
noncomputable def m  : (Int × Bool) → Option (Int × Bool)
 | (a0_0, a0_1) => some (a0_0, a0_1)
noncomputable def sig : Sig := ⟨[.val true [⟨.int .i64, 0, 0, false⟩, ⟨.bool, 0, 0, false⟩]], [(.agg, [(.int .i64, 0), (.bool, 0)])]⟩
noncomputable def hint (_ : Nat) : Hint := ⟨[], []⟩
noncomputable def join (_ : Nat) : Option Hint := none
noncomputable def body : Code := (Tryz.f137).body.getD .skip
noncomputable def rv : List ResultVar := (Tryz.f137).results.toList
noncomputable def fn : Fn := ⟨11, sig, rv, body, hint, join⟩
end laws_toBy
namespace laws_toByS
noncomputable def s0 (c137 : (Int × Bool) → Option (Int × Bool)) (L0 : Y65 → Option ((List (Int × Bool)))) : Y65 → Option ((List (Int × Bool)))
 | (x0, x1, x2) => bif decide (x1 < (List.length x0 : Int)) then bif decide (0 ≤ x1) && decide (x1 < (List.length x0 : Int)) then Option.bind (c137 ((getD x0 (toNat x1) Z5).1, (getD x0 (toNat x1) Z5).2)) fun r1 => bif decide (0 ≤ x1) && decide (x1 < (List.length x2 : Int)) then L0 (x0, wrap i64 (x1 + 1), List.set (List.set x2 (toNat x1) (r1.1, (getD x2 (toNat x1) Z5).2)) (toNat x1) ((getD (List.set x2 (toNat x1) (r1.1, (getD x2 (toNat x1) Z5).2)) (toNat x1) Z5).1, r1.2)) else none else none else some x2
noncomputable def ll0 : Y65 → LS
 | (x0, x1, x2) => ⟨[.cv ⟨.row K2, x0⟩, .ref 12 0 [] none 0, .cv ⟨.int .i64, x1⟩], [⟨true, [⟨0, 0, .mk 9 ⟨.row K2, x2⟩⟩]⟩]⟩
noncomputable def m (B0 : Y65 → Option ((List (Int × Bool)))) : ((List (Int × Bool))) → Option ((List (Int × Bool)))
 | a0_0 => bif decide (0 ≤ (List.length a0_0 : Int)) && decide ((List.length a0_0 : Int) ≤ (List.length a0_0 : Int)) && decide ((List.length a0_0 : Int) * 16 ≤ 140737488355328) then B0 (a0_0, (0 : Int), List.replicate (toNat (List.length a0_0 : Int)) Z5) else none
noncomputable def sig : Sig := ⟨[.val false [⟨.row K2, 0, 0, false⟩]], [(.one, [(.row K2, 1)])]⟩
noncomputable def hint : Nat → Hint
 | 0 => ⟨[(0, .keep), (3, .own 9 K2), (4, .keep)], []⟩
 | _ => ⟨[], []⟩
noncomputable def join (_ : Nat) : Option Hint := none
noncomputable def body : Code := (Tryz.f98).body.getD .skip
noncomputable def rv : List ResultVar := (Tryz.f98).results.toList
noncomputable def fn : Fn := ⟨23, sig, rv, body, hint, join⟩
end laws_toByS
namespace laws_toIndex
noncomputable def m (c98 : ((List (Int × Bool))) → Option ((List (Int × Bool)))) : Y0 → Option Y0
 | (a0_0, a0_1, a0_2) => Option.bind (c98 a0_2) fun r1 => some (a0_0, a0_1, r1)
noncomputable def sig : Sig := ⟨[.val true [⟨.str, 0, 0, false⟩, ⟨.bool, 0, 0, false⟩, ⟨.row K2, 0, 0, false⟩]], [(.agg, [(.str, 0), (.bool, 0), (.row K2, 1)])]⟩
noncomputable def hint (_ : Nat) : Hint := ⟨[], []⟩
noncomputable def join (_ : Nat) : Option Hint := none
noncomputable def body : Code := (Tryz.f138).body.getD .skip
noncomputable def rv : List ResultVar := (Tryz.f138).results.toList
noncomputable def fn : Fn := ⟨15, sig, rv, body, hint, join⟩
end laws_toIndex
namespace laws_toIndexS
noncomputable def s0 (c138 : Y0 → Option Y0) (L0 : Y67 → Option Y66) : Y67 → Option Y66
 | (x0, x1, x2) => bif decide (x1 < (List.length x0 : Int)) then bif decide (0 ≤ x1) && decide (x1 < (List.length x0 : Int)) then Option.bind (c138 ((getD x0 (toNat x1) Z1).1, (getD x0 (toNat x1) Z1).2.1, (getD x0 (toNat x1) Z1).2.2)) fun r1 => bif decide (0 ≤ x1) && decide (x1 < (List.length x2 : Int)) then L0 (x0, wrap i64 (x1 + 1), List.set (List.set (List.set x2 (toNat x1) (r1.1, (getD x2 (toNat x1) Z1).2.1, (getD x2 (toNat x1) Z1).2.2)) (toNat x1) ((getD (List.set x2 (toNat x1) (r1.1, (getD x2 (toNat x1) Z1).2.1, (getD x2 (toNat x1) Z1).2.2)) (toNat x1) Z1).1, r1.2.1, (getD (List.set x2 (toNat x1) (r1.1, (getD x2 (toNat x1) Z1).2.1, (getD x2 (toNat x1) Z1).2.2)) (toNat x1) Z1).2.2)) (toNat x1) ((getD (List.set (List.set x2 (toNat x1) (r1.1, (getD x2 (toNat x1) Z1).2.1, (getD x2 (toNat x1) Z1).2.2)) (toNat x1) ((getD (List.set x2 (toNat x1) (r1.1, (getD x2 (toNat x1) Z1).2.1, (getD x2 (toNat x1) Z1).2.2)) (toNat x1) Z1).1, r1.2.1, (getD (List.set x2 (toNat x1) (r1.1, (getD x2 (toNat x1) Z1).2.1, (getD x2 (toNat x1) Z1).2.2)) (toNat x1) Z1).2.2)) (toNat x1) Z1).1, (getD (List.set (List.set x2 (toNat x1) (r1.1, (getD x2 (toNat x1) Z1).2.1, (getD x2 (toNat x1) Z1).2.2)) (toNat x1) ((getD (List.set x2 (toNat x1) (r1.1, (getD x2 (toNat x1) Z1).2.1, (getD x2 (toNat x1) Z1).2.2)) (toNat x1) Z1).1, r1.2.1, (getD (List.set x2 (toNat x1) (r1.1, (getD x2 (toNat x1) Z1).2.1, (getD x2 (toNat x1) Z1).2.2)) (toNat x1) Z1).2.2)) (toNat x1) Z1).2.1, r1.2.2)) else none else none else some x2
noncomputable def ll0 : Y67 → LS
 | (x0, x1, x2) => ⟨[.cv ⟨.row K3, x0⟩, .ref 12 0 [] none 0, .cv ⟨.int .i64, x1⟩], [⟨true, [⟨0, 0, .mk 9 ⟨.row K3, x2⟩⟩]⟩]⟩
noncomputable def m (B0 : Y67 → Option Y66) : Y66 → Option Y66
 | a0_0 => bif decide (0 ≤ (List.length a0_0 : Int)) && decide ((List.length a0_0 : Int) ≤ (List.length a0_0 : Int)) && decide ((List.length a0_0 : Int) * 48 ≤ 140737488355328) then B0 (a0_0, (0 : Int), List.replicate (toNat (List.length a0_0 : Int)) Z1) else none
noncomputable def sig : Sig := ⟨[.val false [⟨.row K3, 0, 0, false⟩]], [(.one, [(.row K3, 2)])]⟩
noncomputable def hint : Nat → Hint
 | 0 => ⟨[(0, .keep), (3, .own 9 K3), (4, .keep)], []⟩
 | _ => ⟨[], []⟩
noncomputable def join (_ : Nat) : Option Hint := none
noncomputable def body : Code := (Tryz.f99).body.getD .skip
noncomputable def rv : List ResultVar := (Tryz.f99).results.toList
noncomputable def fn : Fn := ⟨23, sig, rv, body, hint, join⟩
end laws_toIndexS
namespace laws_toDef
noncomputable def m (c97 : Y63 → Option Y63) (c98 : ((List (Int × Bool))) → Option ((List (Int × Bool)))) (c99 : Y66 → Option Y66) : Y1 → Option Y1
 | (a0_0, a0_1, a0_2, a0_3) => Option.bind (c97 a0_1) fun r1 => Option.bind (c98 a0_2) fun r2 => Option.bind (c99 a0_3) fun r3 => some (a0_0, r1, r2, r3)
noncomputable def sig : Sig := ⟨[.val true [⟨.str, 0, 0, false⟩, ⟨.row K1, 0, 0, false⟩, ⟨.row K2, 0, 0, false⟩, ⟨.row K3, 0, 0, false⟩]], [(.agg, [(.str, 0), (.row K1, 1), (.row K2, 1), (.row K3, 2)])]⟩
noncomputable def hint (_ : Nat) : Hint := ⟨[], []⟩
noncomputable def join (_ : Nat) : Option Hint := none
noncomputable def body : Code := (Tryz.f53).body.getD .skip
noncomputable def rv : List ResultVar := (Tryz.f53).results.toList
noncomputable def fn : Fn := ⟨20, sig, rv, body, hint, join⟩
end laws_toDef
namespace laws_toDefS
noncomputable def s0 (c53 : Y1 → Option Y1) (L0 : Y68 → Option Y11) : Y68 → Option Y11
 | (x0, x1, x2) => bif decide (x1 < (List.length x0 : Int)) then bif decide (0 ≤ x1) && decide (x1 < (List.length x0 : Int)) then Option.bind (c53 ((getD x0 (toNat x1) Z0).1, (getD x0 (toNat x1) Z0).2.1, (getD x0 (toNat x1) Z0).2.2.1, (getD x0 (toNat x1) Z0).2.2.2)) fun r1 => bif decide (0 ≤ x1) && decide (x1 < (List.length x2 : Int)) then L0 (x0, wrap i64 (x1 + 1), List.set (List.set (List.set (List.set x2 (toNat x1) (r1.1, (getD x2 (toNat x1) Z0).2.1, (getD x2 (toNat x1) Z0).2.2.1, (getD x2 (toNat x1) Z0).2.2.2)) (toNat x1) ((getD (List.set x2 (toNat x1) (r1.1, (getD x2 (toNat x1) Z0).2.1, (getD x2 (toNat x1) Z0).2.2.1, (getD x2 (toNat x1) Z0).2.2.2)) (toNat x1) Z0).1, r1.2.1, (getD (List.set x2 (toNat x1) (r1.1, (getD x2 (toNat x1) Z0).2.1, (getD x2 (toNat x1) Z0).2.2.1, (getD x2 (toNat x1) Z0).2.2.2)) (toNat x1) Z0).2.2.1, (getD (List.set x2 (toNat x1) (r1.1, (getD x2 (toNat x1) Z0).2.1, (getD x2 (toNat x1) Z0).2.2.1, (getD x2 (toNat x1) Z0).2.2.2)) (toNat x1) Z0).2.2.2)) (toNat x1) ((getD (List.set (List.set x2 (toNat x1) (r1.1, (getD x2 (toNat x1) Z0).2.1, (getD x2 (toNat x1) Z0).2.2.1, (getD x2 (toNat x1) Z0).2.2.2)) (toNat x1) ((getD (List.set x2 (toNat x1) (r1.1, (getD x2 (toNat x1) Z0).2.1, (getD x2 (toNat x1) Z0).2.2.1, (getD x2 (toNat x1) Z0).2.2.2)) (toNat x1) Z0).1, r1.2.1, (getD (List.set x2 (toNat x1) (r1.1, (getD x2 (toNat x1) Z0).2.1, (getD x2 (toNat x1) Z0).2.2.1, (getD x2 (toNat x1) Z0).2.2.2)) (toNat x1) Z0).2.2.1, (getD (List.set x2 (toNat x1) (r1.1, (getD x2 (toNat x1) Z0).2.1, (getD x2 (toNat x1) Z0).2.2.1, (getD x2 (toNat x1) Z0).2.2.2)) (toNat x1) Z0).2.2.2)) (toNat x1) Z0).1, (getD (List.set (List.set x2 (toNat x1) (r1.1, (getD x2 (toNat x1) Z0).2.1, (getD x2 (toNat x1) Z0).2.2.1, (getD x2 (toNat x1) Z0).2.2.2)) (toNat x1) ((getD (List.set x2 (toNat x1) (r1.1, (getD x2 (toNat x1) Z0).2.1, (getD x2 (toNat x1) Z0).2.2.1, (getD x2 (toNat x1) Z0).2.2.2)) (toNat x1) Z0).1, r1.2.1, (getD (List.set x2 (toNat x1) (r1.1, (getD x2 (toNat x1) Z0).2.1, (getD x2 (toNat x1) Z0).2.2.1, (getD x2 (toNat x1) Z0).2.2.2)) (toNat x1) Z0).2.2.1, (getD (List.set x2 (toNat x1) (r1.1, (getD x2 (toNat x1) Z0).2.1, (getD x2 (toNat x1) Z0).2.2.1, (getD x2 (toNat x1) Z0).2.2.2)) (toNat x1) Z0).2.2.2)) (toNat x1) Z0).2.1, r1.2.2.1, (getD (List.set (List.set x2 (toNat x1) (r1.1, (getD x2 (toNat x1) Z0).2.1, (getD x2 (toNat x1) Z0).2.2.1, (getD x2 (toNat x1) Z0).2.2.2)) (toNat x1) ((getD (List.set x2 (toNat x1) (r1.1, (getD x2 (toNat x1) Z0).2.1, (getD x2 (toNat x1) Z0).2.2.1, (getD x2 (toNat x1) Z0).2.2.2)) (toNat x1) Z0).1, r1.2.1, (getD (List.set x2 (toNat x1) (r1.1, (getD x2 (toNat x1) Z0).2.1, (getD x2 (toNat x1) Z0).2.2.1, (getD x2 (toNat x1) Z0).2.2.2)) (toNat x1) Z0).2.2.1, (getD (List.set x2 (toNat x1) (r1.1, (getD x2 (toNat x1) Z0).2.1, (getD x2 (toNat x1) Z0).2.2.1, (getD x2 (toNat x1) Z0).2.2.2)) (toNat x1) Z0).2.2.2)) (toNat x1) Z0).2.2.2)) (toNat x1) ((getD (List.set (List.set (List.set x2 (toNat x1) (r1.1, (getD x2 (toNat x1) Z0).2.1, (getD x2 (toNat x1) Z0).2.2.1, (getD x2 (toNat x1) Z0).2.2.2)) (toNat x1) ((getD (List.set x2 (toNat x1) (r1.1, (getD x2 (toNat x1) Z0).2.1, (getD x2 (toNat x1) Z0).2.2.1, (getD x2 (toNat x1) Z0).2.2.2)) (toNat x1) Z0).1, r1.2.1, (getD (List.set x2 (toNat x1) (r1.1, (getD x2 (toNat x1) Z0).2.1, (getD x2 (toNat x1) Z0).2.2.1, (getD x2 (toNat x1) Z0).2.2.2)) (toNat x1) Z0).2.2.1, (getD (List.set x2 (toNat x1) (r1.1, (getD x2 (toNat x1) Z0).2.1, (getD x2 (toNat x1) Z0).2.2.1, (getD x2 (toNat x1) Z0).2.2.2)) (toNat x1) Z0).2.2.2)) (toNat x1) ((getD (List.set (List.set x2 (toNat x1) (r1.1, (getD x2 (toNat x1) Z0).2.1, (getD x2 (toNat x1) Z0).2.2.1, (getD x2 (toNat x1) Z0).2.2.2)) (toNat x1) ((getD (List.set x2 (toNat x1) (r1.1, (getD x2 (toNat x1) Z0).2.1, (getD x2 (toNat x1) Z0).2.2.1, (getD x2 (toNat x1) Z0).2.2.2)) (toNat x1) Z0).1, r1.2.1, (getD (List.set x2 (toNat x1) (r1.1, (getD x2 (toNat x1) Z0).2.1, (getD x2 (toNat x1) Z0).2.2.1, (getD x2 (toNat x1) Z0).2.2.2)) (toNat x1) Z0).2.2.1, (getD (List.set x2 (toNat x1) (r1.1, (getD x2 (toNat x1) Z0).2.1, (getD x2 (toNat x1) Z0).2.2.1, (getD x2 (toNat x1) Z0).2.2.2)) (toNat x1) Z0).2.2.2)) (toNat x1) Z0).1, (getD (List.set (List.set x2 (toNat x1) (r1.1, (getD x2 (toNat x1) Z0).2.1, (getD x2 (toNat x1) Z0).2.2.1, (getD x2 (toNat x1) Z0).2.2.2)) (toNat x1) ((getD (List.set x2 (toNat x1) (r1.1, (getD x2 (toNat x1) Z0).2.1, (getD x2 (toNat x1) Z0).2.2.1, (getD x2 (toNat x1) Z0).2.2.2)) (toNat x1) Z0).1, r1.2.1, (getD (List.set x2 (toNat x1) (r1.1, (getD x2 (toNat x1) Z0).2.1, (getD x2 (toNat x1) Z0).2.2.1, (getD x2 (toNat x1) Z0).2.2.2)) (toNat x1) Z0).2.2.1, (getD (List.set x2 (toNat x1) (r1.1, (getD x2 (toNat x1) Z0).2.1, (getD x2 (toNat x1) Z0).2.2.1, (getD x2 (toNat x1) Z0).2.2.2)) (toNat x1) Z0).2.2.2)) (toNat x1) Z0).2.1, r1.2.2.1, (getD (List.set (List.set x2 (toNat x1) (r1.1, (getD x2 (toNat x1) Z0).2.1, (getD x2 (toNat x1) Z0).2.2.1, (getD x2 (toNat x1) Z0).2.2.2)) (toNat x1) ((getD (List.set x2 (toNat x1) (r1.1, (getD x2 (toNat x1) Z0).2.1, (getD x2 (toNat x1) Z0).2.2.1, (getD x2 (toNat x1) Z0).2.2.2)) (toNat x1) Z0).1, r1.2.1, (getD (List.set x2 (toNat x1) (r1.1, (getD x2 (toNat x1) Z0).2.1, (getD x2 (toNat x1) Z0).2.2.1, (getD x2 (toNat x1) Z0).2.2.2)) (toNat x1) Z0).2.2.1, (getD (List.set x2 (toNat x1) (r1.1, (getD x2 (toNat x1) Z0).2.1, (getD x2 (toNat x1) Z0).2.2.1, (getD x2 (toNat x1) Z0).2.2.2)) (toNat x1) Z0).2.2.2)) (toNat x1) Z0).2.2.2)) (toNat x1) Z0).1, (getD (List.set (List.set (List.set x2 (toNat x1) (r1.1, (getD x2 (toNat x1) Z0).2.1, (getD x2 (toNat x1) Z0).2.2.1, (getD x2 (toNat x1) Z0).2.2.2)) (toNat x1) ((getD (List.set x2 (toNat x1) (r1.1, (getD x2 (toNat x1) Z0).2.1, (getD x2 (toNat x1) Z0).2.2.1, (getD x2 (toNat x1) Z0).2.2.2)) (toNat x1) Z0).1, r1.2.1, (getD (List.set x2 (toNat x1) (r1.1, (getD x2 (toNat x1) Z0).2.1, (getD x2 (toNat x1) Z0).2.2.1, (getD x2 (toNat x1) Z0).2.2.2)) (toNat x1) Z0).2.2.1, (getD (List.set x2 (toNat x1) (r1.1, (getD x2 (toNat x1) Z0).2.1, (getD x2 (toNat x1) Z0).2.2.1, (getD x2 (toNat x1) Z0).2.2.2)) (toNat x1) Z0).2.2.2)) (toNat x1) ((getD (List.set (List.set x2 (toNat x1) (r1.1, (getD x2 (toNat x1) Z0).2.1, (getD x2 (toNat x1) Z0).2.2.1, (getD x2 (toNat x1) Z0).2.2.2)) (toNat x1) ((getD (List.set x2 (toNat x1) (r1.1, (getD x2 (toNat x1) Z0).2.1, (getD x2 (toNat x1) Z0).2.2.1, (getD x2 (toNat x1) Z0).2.2.2)) (toNat x1) Z0).1, r1.2.1, (getD (List.set x2 (toNat x1) (r1.1, (getD x2 (toNat x1) Z0).2.1, (getD x2 (toNat x1) Z0).2.2.1, (getD x2 (toNat x1) Z0).2.2.2)) (toNat x1) Z0).2.2.1, (getD (List.set x2 (toNat x1) (r1.1, (getD x2 (toNat x1) Z0).2.1, (getD x2 (toNat x1) Z0).2.2.1, (getD x2 (toNat x1) Z0).2.2.2)) (toNat x1) Z0).2.2.2)) (toNat x1) Z0).1, (getD (List.set (List.set x2 (toNat x1) (r1.1, (getD x2 (toNat x1) Z0).2.1, (getD x2 (toNat x1) Z0).2.2.1, (getD x2 (toNat x1) Z0).2.2.2)) (toNat x1) ((getD (List.set x2 (toNat x1) (r1.1, (getD x2 (toNat x1) Z0).2.1, (getD x2 (toNat x1) Z0).2.2.1, (getD x2 (toNat x1) Z0).2.2.2)) (toNat x1) Z0).1, r1.2.1, (getD (List.set x2 (toNat x1) (r1.1, (getD x2 (toNat x1) Z0).2.1, (getD x2 (toNat x1) Z0).2.2.1, (getD x2 (toNat x1) Z0).2.2.2)) (toNat x1) Z0).2.2.1, (getD (List.set x2 (toNat x1) (r1.1, (getD x2 (toNat x1) Z0).2.1, (getD x2 (toNat x1) Z0).2.2.1, (getD x2 (toNat x1) Z0).2.2.2)) (toNat x1) Z0).2.2.2)) (toNat x1) Z0).2.1, r1.2.2.1, (getD (List.set (List.set x2 (toNat x1) (r1.1, (getD x2 (toNat x1) Z0).2.1, (getD x2 (toNat x1) Z0).2.2.1, (getD x2 (toNat x1) Z0).2.2.2)) (toNat x1) ((getD (List.set x2 (toNat x1) (r1.1, (getD x2 (toNat x1) Z0).2.1, (getD x2 (toNat x1) Z0).2.2.1, (getD x2 (toNat x1) Z0).2.2.2)) (toNat x1) Z0).1, r1.2.1, (getD (List.set x2 (toNat x1) (r1.1, (getD x2 (toNat x1) Z0).2.1, (getD x2 (toNat x1) Z0).2.2.1, (getD x2 (toNat x1) Z0).2.2.2)) (toNat x1) Z0).2.2.1, (getD (List.set x2 (toNat x1) (r1.1, (getD x2 (toNat x1) Z0).2.1, (getD x2 (toNat x1) Z0).2.2.1, (getD x2 (toNat x1) Z0).2.2.2)) (toNat x1) Z0).2.2.2)) (toNat x1) Z0).2.2.2)) (toNat x1) Z0).2.1, (getD (List.set (List.set (List.set x2 (toNat x1) (r1.1, (getD x2 (toNat x1) Z0).2.1, (getD x2 (toNat x1) Z0).2.2.1, (getD x2 (toNat x1) Z0).2.2.2)) (toNat x1) ((getD (List.set x2 (toNat x1) (r1.1, (getD x2 (toNat x1) Z0).2.1, (getD x2 (toNat x1) Z0).2.2.1, (getD x2 (toNat x1) Z0).2.2.2)) (toNat x1) Z0).1, r1.2.1, (getD (List.set x2 (toNat x1) (r1.1, (getD x2 (toNat x1) Z0).2.1, (getD x2 (toNat x1) Z0).2.2.1, (getD x2 (toNat x1) Z0).2.2.2)) (toNat x1) Z0).2.2.1, (getD (List.set x2 (toNat x1) (r1.1, (getD x2 (toNat x1) Z0).2.1, (getD x2 (toNat x1) Z0).2.2.1, (getD x2 (toNat x1) Z0).2.2.2)) (toNat x1) Z0).2.2.2)) (toNat x1) ((getD (List.set (List.set x2 (toNat x1) (r1.1, (getD x2 (toNat x1) Z0).2.1, (getD x2 (toNat x1) Z0).2.2.1, (getD x2 (toNat x1) Z0).2.2.2)) (toNat x1) ((getD (List.set x2 (toNat x1) (r1.1, (getD x2 (toNat x1) Z0).2.1, (getD x2 (toNat x1) Z0).2.2.1, (getD x2 (toNat x1) Z0).2.2.2)) (toNat x1) Z0).1, r1.2.1, (getD (List.set x2 (toNat x1) (r1.1, (getD x2 (toNat x1) Z0).2.1, (getD x2 (toNat x1) Z0).2.2.1, (getD x2 (toNat x1) Z0).2.2.2)) (toNat x1) Z0).2.2.1, (getD (List.set x2 (toNat x1) (r1.1, (getD x2 (toNat x1) Z0).2.1, (getD x2 (toNat x1) Z0).2.2.1, (getD x2 (toNat x1) Z0).2.2.2)) (toNat x1) Z0).2.2.2)) (toNat x1) Z0).1, (getD (List.set (List.set x2 (toNat x1) (r1.1, (getD x2 (toNat x1) Z0).2.1, (getD x2 (toNat x1) Z0).2.2.1, (getD x2 (toNat x1) Z0).2.2.2)) (toNat x1) ((getD (List.set x2 (toNat x1) (r1.1, (getD x2 (toNat x1) Z0).2.1, (getD x2 (toNat x1) Z0).2.2.1, (getD x2 (toNat x1) Z0).2.2.2)) (toNat x1) Z0).1, r1.2.1, (getD (List.set x2 (toNat x1) (r1.1, (getD x2 (toNat x1) Z0).2.1, (getD x2 (toNat x1) Z0).2.2.1, (getD x2 (toNat x1) Z0).2.2.2)) (toNat x1) Z0).2.2.1, (getD (List.set x2 (toNat x1) (r1.1, (getD x2 (toNat x1) Z0).2.1, (getD x2 (toNat x1) Z0).2.2.1, (getD x2 (toNat x1) Z0).2.2.2)) (toNat x1) Z0).2.2.2)) (toNat x1) Z0).2.1, r1.2.2.1, (getD (List.set (List.set x2 (toNat x1) (r1.1, (getD x2 (toNat x1) Z0).2.1, (getD x2 (toNat x1) Z0).2.2.1, (getD x2 (toNat x1) Z0).2.2.2)) (toNat x1) ((getD (List.set x2 (toNat x1) (r1.1, (getD x2 (toNat x1) Z0).2.1, (getD x2 (toNat x1) Z0).2.2.1, (getD x2 (toNat x1) Z0).2.2.2)) (toNat x1) Z0).1, r1.2.1, (getD (List.set x2 (toNat x1) (r1.1, (getD x2 (toNat x1) Z0).2.1, (getD x2 (toNat x1) Z0).2.2.1, (getD x2 (toNat x1) Z0).2.2.2)) (toNat x1) Z0).2.2.1, (getD (List.set x2 (toNat x1) (r1.1, (getD x2 (toNat x1) Z0).2.1, (getD x2 (toNat x1) Z0).2.2.1, (getD x2 (toNat x1) Z0).2.2.2)) (toNat x1) Z0).2.2.2)) (toNat x1) Z0).2.2.2)) (toNat x1) Z0).2.2.1, r1.2.2.2)) else none else none else some x2
noncomputable def ll0 : Y68 → LS
 | (x0, x1, x2) => ⟨[.cv ⟨.row K4, x0⟩, .ref 12 0 [] none 0, .cv ⟨.int .i64, x1⟩], [⟨true, [⟨0, 0, .mk 9 ⟨.row K4, x2⟩⟩]⟩]⟩
noncomputable def m (B0 : Y68 → Option Y11) : Y11 → Option Y11
 | a0_0 => bif decide (0 ≤ (List.length a0_0 : Int)) && decide ((List.length a0_0 : Int) ≤ (List.length a0_0 : Int)) && decide ((List.length a0_0 : Int) * 88 ≤ 140737488355328) then B0 (a0_0, (0 : Int), List.replicate (toNat (List.length a0_0 : Int)) Z0) else none
noncomputable def sig : Sig := ⟨[.val false [⟨.row K4, 0, 0, false⟩]], [(.one, [(.row K4, 3)])]⟩
noncomputable def hint : Nat → Hint
 | 0 => ⟨[(0, .keep), (3, .own 9 K4), (4, .keep)], []⟩
 | _ => ⟨[], []⟩
noncomputable def join (_ : Nat) : Option Hint := none
noncomputable def body : Code := (Tryz.f20).body.getD .skip
noncomputable def rv : List ResultVar := (Tryz.f20).results.toList
noncomputable def fn : Fn := ⟨23, sig, rv, body, hint, join⟩
end laws_toDefS
namespace laws_toVal
noncomputable def m  : (Int × Int × ByteArray) → Option (Int × Int × ByteArray)
 | (a0_0, a0_1, a0_2) => some (a0_0, a0_1, a0_2)
noncomputable def sig : Sig := ⟨[.val true [⟨.int .i64, 0, 0, false⟩, ⟨.int .i64, 0, 0, false⟩, ⟨.str, 0, 0, false⟩]], [(.agg, [(.int .i64, 0), (.int .i64, 0), (.str, 0)])]⟩
noncomputable def hint (_ : Nat) : Hint := ⟨[], []⟩
noncomputable def join (_ : Nat) : Option Hint := none
noncomputable def body : Code := (Tryz.f54).body.getD .skip
noncomputable def rv : List ResultVar := (Tryz.f54).results.toList
noncomputable def fn : Fn := ⟨14, sig, rv, body, hint, join⟩
end laws_toVal
namespace laws_toValS
noncomputable def s0 (c54 : (Int × Int × ByteArray) → Option (Int × Int × ByteArray)) (L0 : Y69 → Option Y21) : Y69 → Option Y21
 | (x0, x1, x2) => bif decide (x1 < (List.length x0 : Int)) then bif decide (0 ≤ x1) && decide (x1 < (List.length x0 : Int)) then Option.bind (c54 ((getD x0 (toNat x1) Z2).1, (getD x0 (toNat x1) Z2).2.1, (getD x0 (toNat x1) Z2).2.2)) fun r1 => bif decide (0 ≤ x1) && decide (x1 < (List.length x2 : Int)) then L0 (x0, wrap i64 (x1 + 1), List.set (List.set (List.set x2 (toNat x1) (r1.1, (getD x2 (toNat x1) Z2).2.1, (getD x2 (toNat x1) Z2).2.2)) (toNat x1) ((getD (List.set x2 (toNat x1) (r1.1, (getD x2 (toNat x1) Z2).2.1, (getD x2 (toNat x1) Z2).2.2)) (toNat x1) Z2).1, r1.2.1, (getD (List.set x2 (toNat x1) (r1.1, (getD x2 (toNat x1) Z2).2.1, (getD x2 (toNat x1) Z2).2.2)) (toNat x1) Z2).2.2)) (toNat x1) ((getD (List.set (List.set x2 (toNat x1) (r1.1, (getD x2 (toNat x1) Z2).2.1, (getD x2 (toNat x1) Z2).2.2)) (toNat x1) ((getD (List.set x2 (toNat x1) (r1.1, (getD x2 (toNat x1) Z2).2.1, (getD x2 (toNat x1) Z2).2.2)) (toNat x1) Z2).1, r1.2.1, (getD (List.set x2 (toNat x1) (r1.1, (getD x2 (toNat x1) Z2).2.1, (getD x2 (toNat x1) Z2).2.2)) (toNat x1) Z2).2.2)) (toNat x1) Z2).1, (getD (List.set (List.set x2 (toNat x1) (r1.1, (getD x2 (toNat x1) Z2).2.1, (getD x2 (toNat x1) Z2).2.2)) (toNat x1) ((getD (List.set x2 (toNat x1) (r1.1, (getD x2 (toNat x1) Z2).2.1, (getD x2 (toNat x1) Z2).2.2)) (toNat x1) Z2).1, r1.2.1, (getD (List.set x2 (toNat x1) (r1.1, (getD x2 (toNat x1) Z2).2.1, (getD x2 (toNat x1) Z2).2.2)) (toNat x1) Z2).2.2)) (toNat x1) Z2).2.1, r1.2.2)) else none else none else some x2
noncomputable def ll0 : Y69 → LS
 | (x0, x1, x2) => ⟨[.cv ⟨.row K6, x0⟩, .ref 12 0 [] none 0, .cv ⟨.int .i64, x1⟩], [⟨true, [⟨0, 0, .mk 9 ⟨.row K6, x2⟩⟩]⟩]⟩
noncomputable def m (B0 : Y69 → Option Y21) : Y21 → Option Y21
 | a0_0 => bif decide (0 ≤ (List.length a0_0 : Int)) && decide ((List.length a0_0 : Int) ≤ (List.length a0_0 : Int)) && decide ((List.length a0_0 : Int) * 32 ≤ 140737488355328) then B0 (a0_0, (0 : Int), List.replicate (toNat (List.length a0_0 : Int)) Z2) else none
noncomputable def sig : Sig := ⟨[.val false [⟨.row K6, 0, 0, false⟩]], [(.one, [(.row K6, 1)])]⟩
noncomputable def hint : Nat → Hint
 | 0 => ⟨[(0, .keep), (3, .own 9 K6), (4, .keep)], []⟩
 | _ => ⟨[], []⟩
noncomputable def join (_ : Nat) : Option Hint := none
noncomputable def body : Code := (Tryz.f21).body.getD .skip
noncomputable def rv : List ResultVar := (Tryz.f21).results.toList
noncomputable def fn : Fn := ⟨23, sig, rv, body, hint, join⟩
end laws_toValS
namespace laws_eqCol
noncomputable def m  : Y70 → Option Bool
 | (a0_0, a0_1, a0_2, a1_0, a1_1, a1_2) => bif !(ByteArray.toList a0_0 == ByteArray.toList a1_0) then some false else bif a0_1 != a1_1 then some false else bif !(a0_2 == a1_2) then some false else some true
noncomputable def sig : Sig := ⟨[.val true [⟨.str, 0, 0, false⟩, ⟨.int .i64, 0, 0, false⟩, ⟨.bool, 0, 0, false⟩], .val true [⟨.str, 0, 0, false⟩, ⟨.int .i64, 0, 0, false⟩, ⟨.bool, 0, 0, false⟩]], [(.one, [(.bool, 0)])]⟩
noncomputable def hint (_ : Nat) : Hint := ⟨[], []⟩
noncomputable def join (_ : Nat) : Option Hint := none
noncomputable def body : Code := (Tryz.f139).body.getD .skip
noncomputable def rv : List ResultVar := (Tryz.f139).results.toList
noncomputable def fn : Fn := ⟨20, sig, rv, body, hint, join⟩
end laws_eqCol
namespace laws_eqColS
noncomputable def s0 (c139 : Y70 → Option Bool) (L0 : Y72 → Option Bool) : Y72 → Option Bool
 | (x0, x1, x2) => bif decide (x2 < (List.length x0 : Int)) then bif decide (0 ≤ x2) && decide (x2 < (List.length x0 : Int)) then bif decide (0 ≤ x2) && decide (x2 < (List.length x1 : Int)) then Option.bind (c139 ((getD x0 (toNat x2) Z4).1, (getD x0 (toNat x2) Z4).2.1, (getD x0 (toNat x2) Z4).2.2, (getD x1 (toNat x2) Z4).1, (getD x1 (toNat x2) Z4).2.1, (getD x1 (toNat x2) Z4).2.2)) fun r1 => bif !(r1) then some false else L0 (x0, x1, wrap i64 (x2 + 1)) else none else none else some true
noncomputable def ll0 : Y72 → LS
 | (x0, x1, x2) => ⟨[.cv ⟨.row K1, x0⟩, .cv ⟨.row K1, x1⟩, .cv ⟨.int .i64, x2⟩], []⟩
noncomputable def m (B0 : Y72 → Option Bool) : Y71 → Option Bool
 | (a0_0, a1_0) => bif (List.length a0_0 : Int) != (List.length a1_0 : Int) then some false else B0 (a0_0, a1_0, (0 : Int))
noncomputable def sig : Sig := ⟨[.val false [⟨.row K1, 0, 0, false⟩], .val false [⟨.row K1, 0, 0, false⟩]], [(.one, [(.bool, 0)])]⟩
noncomputable def hint : Nat → Hint
 | 0 => ⟨[(0, .keep), (1, .keep), (5, .keep)], []⟩
 | _ => ⟨[], []⟩
noncomputable def join (_ : Nat) : Option Hint := none
noncomputable def body : Code := (Tryz.f100).body.getD .skip
noncomputable def rv : List ResultVar := (Tryz.f100).results.toList
noncomputable def fn : Fn := ⟨27, sig, rv, body, hint, join⟩
end laws_eqColS
namespace laws_eqBy
noncomputable def m  : (Int × Bool × Int × Bool) → Option Bool
 | (a0_0, a0_1, a1_0, a1_1) => bif a0_0 != a1_0 then some false else bif !(a0_1 == a1_1) then some false else some true
noncomputable def sig : Sig := ⟨[.val true [⟨.int .i64, 0, 0, false⟩, ⟨.bool, 0, 0, false⟩], .val true [⟨.int .i64, 0, 0, false⟩, ⟨.bool, 0, 0, false⟩]], [(.one, [(.bool, 0)])]⟩
noncomputable def hint (_ : Nat) : Hint := ⟨[], []⟩
noncomputable def join (_ : Nat) : Option Hint := none
noncomputable def body : Code := (Tryz.f140).body.getD .skip
noncomputable def rv : List ResultVar := (Tryz.f140).results.toList
noncomputable def fn : Fn := ⟨15, sig, rv, body, hint, join⟩
end laws_eqBy
namespace laws_eqByS
noncomputable def s0 (c140 : (Int × Bool × Int × Bool) → Option Bool) (L0 : Y74 → Option Bool) : Y74 → Option Bool
 | (x0, x1, x2) => bif decide (x2 < (List.length x0 : Int)) then bif decide (0 ≤ x2) && decide (x2 < (List.length x0 : Int)) then bif decide (0 ≤ x2) && decide (x2 < (List.length x1 : Int)) then Option.bind (c140 ((getD x0 (toNat x2) Z5).1, (getD x0 (toNat x2) Z5).2, (getD x1 (toNat x2) Z5).1, (getD x1 (toNat x2) Z5).2)) fun r1 => bif !(r1) then some false else L0 (x0, x1, wrap i64 (x2 + 1)) else none else none else some true
noncomputable def ll0 : Y74 → LS
 | (x0, x1, x2) => ⟨[.cv ⟨.row K2, x0⟩, .cv ⟨.row K2, x1⟩, .cv ⟨.int .i64, x2⟩], []⟩
noncomputable def m (B0 : Y74 → Option Bool) : Y73 → Option Bool
 | (a0_0, a1_0) => bif (List.length a0_0 : Int) != (List.length a1_0 : Int) then some false else B0 (a0_0, a1_0, (0 : Int))
noncomputable def sig : Sig := ⟨[.val false [⟨.row K2, 0, 0, false⟩], .val false [⟨.row K2, 0, 0, false⟩]], [(.one, [(.bool, 0)])]⟩
noncomputable def hint : Nat → Hint
 | 0 => ⟨[(0, .keep), (1, .keep), (5, .keep)], []⟩
 | _ => ⟨[], []⟩
noncomputable def join (_ : Nat) : Option Hint := none
noncomputable def body : Code := (Tryz.f101).body.getD .skip
noncomputable def rv : List ResultVar := (Tryz.f101).results.toList
noncomputable def fn : Fn := ⟨27, sig, rv, body, hint, join⟩
end laws_eqByS
namespace laws_eqIndex
noncomputable def m (c101 : Y73 → Option Bool) : Y75 → Option Bool
 | (a0_0, a0_1, a0_2, a1_0, a1_1, a1_2) => bif !(ByteArray.toList a0_0 == ByteArray.toList a1_0) then some false else bif !(a0_1 == a1_1) then some false else Option.bind (c101 (a0_2, a1_2)) fun r1 => bif !(r1) then some false else some true
noncomputable def sig : Sig := ⟨[.val true [⟨.str, 0, 0, false⟩, ⟨.bool, 0, 0, false⟩, ⟨.row K2, 0, 0, false⟩], .val true [⟨.str, 0, 0, false⟩, ⟨.bool, 0, 0, false⟩, ⟨.row K2, 0, 0, false⟩]], [(.one, [(.bool, 0)])]⟩
noncomputable def hint (_ : Nat) : Hint := ⟨[], []⟩
noncomputable def join (_ : Nat) : Option Hint := none
noncomputable def body : Code := (Tryz.f141).body.getD .skip
noncomputable def rv : List ResultVar := (Tryz.f141).results.toList
noncomputable def fn : Fn := ⟨21, sig, rv, body, hint, join⟩
end laws_eqIndex
namespace laws_eqIndexS
noncomputable def s0 (c141 : Y75 → Option Bool) (L0 : Y77 → Option Bool) : Y77 → Option Bool
 | (x0, x1, x2) => bif decide (x2 < (List.length x0 : Int)) then bif decide (0 ≤ x2) && decide (x2 < (List.length x0 : Int)) then bif decide (0 ≤ x2) && decide (x2 < (List.length x1 : Int)) then Option.bind (c141 ((getD x0 (toNat x2) Z1).1, (getD x0 (toNat x2) Z1).2.1, (getD x0 (toNat x2) Z1).2.2, (getD x1 (toNat x2) Z1).1, (getD x1 (toNat x2) Z1).2.1, (getD x1 (toNat x2) Z1).2.2)) fun r1 => bif !(r1) then some false else L0 (x0, x1, wrap i64 (x2 + 1)) else none else none else some true
noncomputable def ll0 : Y77 → LS
 | (x0, x1, x2) => ⟨[.cv ⟨.row K3, x0⟩, .cv ⟨.row K3, x1⟩, .cv ⟨.int .i64, x2⟩], []⟩
noncomputable def m (B0 : Y77 → Option Bool) : Y76 → Option Bool
 | (a0_0, a1_0) => bif (List.length a0_0 : Int) != (List.length a1_0 : Int) then some false else B0 (a0_0, a1_0, (0 : Int))
noncomputable def sig : Sig := ⟨[.val false [⟨.row K3, 0, 0, false⟩], .val false [⟨.row K3, 0, 0, false⟩]], [(.one, [(.bool, 0)])]⟩
noncomputable def hint : Nat → Hint
 | 0 => ⟨[(0, .keep), (1, .keep), (5, .keep)], []⟩
 | _ => ⟨[], []⟩
noncomputable def join (_ : Nat) : Option Hint := none
noncomputable def body : Code := (Tryz.f102).body.getD .skip
noncomputable def rv : List ResultVar := (Tryz.f102).results.toList
noncomputable def fn : Fn := ⟨27, sig, rv, body, hint, join⟩
end laws_eqIndexS
namespace laws_eqDef
noncomputable def m (c100 : Y71 → Option Bool) (c101 : Y73 → Option Bool) (c102 : Y76 → Option Bool) : Y78 → Option Bool
 | (a0_0, a0_1, a0_2, a0_3, a1_0, a1_1, a1_2, a1_3) => bif !(ByteArray.toList a0_0 == ByteArray.toList a1_0) then some false else Option.bind (c100 (a0_1, a1_1)) fun r1 => bif !(r1) then some false else Option.bind (c101 (a0_2, a1_2)) fun r2 => bif !(r2) then some false else Option.bind (c102 (a0_3, a1_3)) fun r3 => bif !(r3) then some false else some true
noncomputable def sig : Sig := ⟨[.val true [⟨.str, 0, 0, false⟩, ⟨.row K1, 0, 0, false⟩, ⟨.row K2, 0, 0, false⟩, ⟨.row K3, 0, 0, false⟩], .val true [⟨.str, 0, 0, false⟩, ⟨.row K1, 0, 0, false⟩, ⟨.row K2, 0, 0, false⟩, ⟨.row K3, 0, 0, false⟩]], [(.one, [(.bool, 0)])]⟩
noncomputable def hint (_ : Nat) : Hint := ⟨[], []⟩
noncomputable def join (_ : Nat) : Option Hint := none
noncomputable def body : Code := (Tryz.f55).body.getD .skip
noncomputable def rv : List ResultVar := (Tryz.f55).results.toList
noncomputable def fn : Fn := ⟨28, sig, rv, body, hint, join⟩
end laws_eqDef
namespace laws_eqDefS
noncomputable def s0 (c55 : Y78 → Option Bool) (L0 : Y80 → Option Bool) : Y80 → Option Bool
 | (x0, x1, x2) => bif decide (x2 < (List.length x0 : Int)) then bif decide (0 ≤ x2) && decide (x2 < (List.length x0 : Int)) then bif decide (0 ≤ x2) && decide (x2 < (List.length x1 : Int)) then Option.bind (c55 ((getD x0 (toNat x2) Z0).1, (getD x0 (toNat x2) Z0).2.1, (getD x0 (toNat x2) Z0).2.2.1, (getD x0 (toNat x2) Z0).2.2.2, (getD x1 (toNat x2) Z0).1, (getD x1 (toNat x2) Z0).2.1, (getD x1 (toNat x2) Z0).2.2.1, (getD x1 (toNat x2) Z0).2.2.2)) fun r1 => bif !(r1) then some false else L0 (x0, x1, wrap i64 (x2 + 1)) else none else none else some true
noncomputable def ll0 : Y80 → LS
 | (x0, x1, x2) => ⟨[.cv ⟨.row K4, x0⟩, .cv ⟨.row K4, x1⟩, .cv ⟨.int .i64, x2⟩], []⟩
noncomputable def m (B0 : Y80 → Option Bool) : Y79 → Option Bool
 | (a0_0, a1_0) => bif (List.length a0_0 : Int) != (List.length a1_0 : Int) then some false else B0 (a0_0, a1_0, (0 : Int))
noncomputable def sig : Sig := ⟨[.val false [⟨.row K4, 0, 0, false⟩], .val false [⟨.row K4, 0, 0, false⟩]], [(.one, [(.bool, 0)])]⟩
noncomputable def hint : Nat → Hint
 | 0 => ⟨[(0, .keep), (1, .keep), (5, .keep)], []⟩
 | _ => ⟨[], []⟩
noncomputable def join (_ : Nat) : Option Hint := none
noncomputable def body : Code := (Tryz.f23).body.getD .skip
noncomputable def rv : List ResultVar := (Tryz.f23).results.toList
noncomputable def fn : Fn := ⟨27, sig, rv, body, hint, join⟩
end laws_eqDefS
namespace laws_eqVal
noncomputable def m  : Y81 → Option Bool
 | (a0_0, a0_1, a0_2, a1_0, a1_1, a1_2) => bif a0_0 != a1_0 then some false else bif a0_1 != a1_1 then some false else bif !(ByteArray.toList a0_2 == ByteArray.toList a1_2) then some false else some true
noncomputable def sig : Sig := ⟨[.val true [⟨.int .i64, 0, 0, false⟩, ⟨.int .i64, 0, 0, false⟩, ⟨.str, 0, 0, false⟩], .val true [⟨.int .i64, 0, 0, false⟩, ⟨.int .i64, 0, 0, false⟩, ⟨.str, 0, 0, false⟩]], [(.one, [(.bool, 0)])]⟩
noncomputable def hint (_ : Nat) : Hint := ⟨[], []⟩
noncomputable def join (_ : Nat) : Option Hint := none
noncomputable def body : Code := (Tryz.f56).body.getD .skip
noncomputable def rv : List ResultVar := (Tryz.f56).results.toList
noncomputable def fn : Fn := ⟨20, sig, rv, body, hint, join⟩
end laws_eqVal
namespace laws_eqValS
noncomputable def s0 (c56 : Y81 → Option Bool) (L0 : Y83 → Option Bool) : Y83 → Option Bool
 | (x0, x1, x2) => bif decide (x2 < (List.length x0 : Int)) then bif decide (0 ≤ x2) && decide (x2 < (List.length x0 : Int)) then bif decide (0 ≤ x2) && decide (x2 < (List.length x1 : Int)) then Option.bind (c56 ((getD x0 (toNat x2) Z2).1, (getD x0 (toNat x2) Z2).2.1, (getD x0 (toNat x2) Z2).2.2, (getD x1 (toNat x2) Z2).1, (getD x1 (toNat x2) Z2).2.1, (getD x1 (toNat x2) Z2).2.2)) fun r1 => bif !(r1) then some false else L0 (x0, x1, wrap i64 (x2 + 1)) else none else none else some true
noncomputable def ll0 : Y83 → LS
 | (x0, x1, x2) => ⟨[.cv ⟨.row K6, x0⟩, .cv ⟨.row K6, x1⟩, .cv ⟨.int .i64, x2⟩], []⟩
noncomputable def m (B0 : Y83 → Option Bool) : Y82 → Option Bool
 | (a0_0, a1_0) => bif (List.length a0_0 : Int) != (List.length a1_0 : Int) then some false else B0 (a0_0, a1_0, (0 : Int))
noncomputable def sig : Sig := ⟨[.val false [⟨.row K6, 0, 0, false⟩], .val false [⟨.row K6, 0, 0, false⟩]], [(.one, [(.bool, 0)])]⟩
noncomputable def hint : Nat → Hint
 | 0 => ⟨[(0, .keep), (1, .keep), (5, .keep)], []⟩
 | _ => ⟨[], []⟩
noncomputable def join (_ : Nat) : Option Hint := none
noncomputable def body : Code := (Tryz.f24).body.getD .skip
noncomputable def rv : List ResultVar := (Tryz.f24).results.toList
noncomputable def fn : Fn := ⟨27, sig, rv, body, hint, join⟩
end laws_eqValS
namespace laws_FnExactLongKey
noncomputable def m (c16 c17 : Y51 → Option Bool) (c18 : Y39 → Option Int) (c19 : Y61 → Option Int) (c20 : Y11 → Option Y11) (c21 : Y21 → Option Y21) (c23 : Y79 → Option Bool) (c24 : Y82 → Option Bool) : Y51 → Option Bool
 | (a0_0, a1_0, a2_0) => Option.bind (c18 (a0_0, (1048576 : Int))) fun r1 => bif decide (r1 < 0) then some true else Option.bind (c19 (a2_0, r1)) fun r2 => bif decide (r2 < 0) then some true else Option.bind (c20 a0_0) fun r3 => Option.bind (c21 a2_0) fun r4 => Option.bind (c17 (r3, a1_0, r4)) fun r5 => Option.bind (c20 a0_0) fun r6 => Option.bind (c21 a2_0) fun r7 => Option.bind (c16 (r6, a1_0, r7)) fun r8 => bif !(r8 == r5) then some false else Option.bind (c20 a0_0) fun r9 => Option.bind (c23 (r6, r9)) fun r10 => bif !(r10) then some false else Option.bind (c21 a2_0) fun r11 => Option.bind (c24 (r7, r11)) fun r12 => bif !(r12) then some false else some true
noncomputable def sig : Sig := ⟨[.val false [⟨.row K4, 0, 0, false⟩], .val false [⟨.int .i64, 0, 0, false⟩], .val false [⟨.row K6, 0, 0, false⟩]], [(.one, [(.bool, 0)])]⟩
noncomputable def hint (_ : Nat) : Hint := ⟨[], []⟩
noncomputable def join (_ : Nat) : Option Hint := none
noncomputable def body : Code := (Tryz.f5).body.getD .skip
noncomputable def rv : List ResultVar := (Tryz.f5).results.toList
noncomputable def fn : Fn := ⟨49, sig, rv, body, hint, join⟩
end laws_FnExactLongKey
noncomputable def fns : Nat → Fn
 | 64 => impl_in.fn
 | 162 => impl_isLetter.fn
 | 163 => impl_isDigit.fn
 | 155 => impl_nameOk.fn
 | 142 => impl_isFree.fn
 | 106 => impl_namesOk.fn
 | 107 => impl_twice.fn
 | 108 => impl_partsOk.fn
 | 65 => impl_CheckDef.fn
 | 72 => impl_FirstBad.fn
 | 41 => impl_hasIndex.fn
 | 115 => impl_PartOk.fn
 | 73 => impl_PlanOk.fn
 | 144 => impl_ValOk.fn
 | 116 => impl_Fits.fn
 | 74 => impl_FitsAll.fn
 | 42 => impl_RowOk.fn
 | 43 => impl_RowPlan.fn
 | 14 => impl_HeadOf.fn
 | 31 => impl_Pick.fn
 | 66 => impl_partsOf.fn
 | 32 => impl_PrimaryPlan.fn
 | 33 => impl_IndexPlan.fn
 | 75 => impl_planOf.fn
 | 127 => impl_clamp.fn
 | 128 => impl_bytesOf.fn
 | 129 => impl_addBytes.fn
 | 87 => impl_addVar.fn
 | 145 => impl_addFix.fn
 | 146 => impl_addEsc.fn
 | 156 => impl_copyBytes.fn
 | 147 => impl_Flip.fn
 | 117 => impl_addPart.fn
 | 76 => impl_EncodeKey.fn
 | 44 => impl_keyOf.fn
 | 12 => impl_KeyOf.fn
 | 78 => spec_l1In.fn
 | 164 => spec_l8Small.fn
 | 165 => spec_l2Digit.fn
 | 157 => spec_l8Name.fn
 | 158 => spec_l9Has.fn
 | 149 => spec_l9Word.fn
 | 120 => spec_l9Names.fn
 | 121 => spec_l9Types.fn
 | 150 => spec_l9Col.fn
 | 122 => spec_l9Once.fn
 | 151 => spec_l9Parts.fn
 | 123 => spec_l9AllParts.fn
 | 81 => spec_CheckDef.fn
 | 77 => spec_FirstBad.fn
 | 45 => spec_l11There.fn
 | 118 => spec_PartOk.fn
 | 79 => spec_PlanOk.fn
 | 148 => spec_ValOk.fn
 | 119 => spec_Fits.fn
 | 80 => spec_FitsAll.fn
 | 46 => spec_RowOk.fn
 | 82 => spec_l11Part.fn
 | 47 => spec_RowPlan.fn
 | 15 => spec_HeadOf.fn
 | 152 => spec_l11Parts.fn
 | 124 => spec_PrimaryPlan.fn
 | 125 => spec_IndexPlan.fn
 | 83 => spec_l11Plan.fn
 | 132 => spec_Flip.fn
 | 131 => spec_l4Bytes.fn
 | 91 => spec_PutVar.fn
 | 159 => spec_PutFix.fn
 | 160 => spec_PutEsc.fn
 | 153 => spec_l5Value.fn
 | 126 => spec_PutPart.fn
 | 84 => spec_EncodeKey.fn
 | 85 => spec_Pick.fn
 | 48 => spec_l11Key.fn
 | 86 => impl_addU.fn
 | 88 => impl_addText.fn
 | 130 => impl_Crc.fn
 | 89 => impl_addSum.fn
 | 49 => impl_EncodeRow.fn
 | 16 => impl_LongKey.fn
 | 90 => spec_PutU.fn
 | 92 => spec_PutText.fn
 | 133 => spec_Crc.fn
 | 93 => spec_PutSum.fn
 | 50 => spec_EncodeRow.fn
 | 17 => spec_LongKey.fn
 | 134 => laws_szCol.fn
 | 94 => laws_szColS.fn
 | 95 => laws_szByS.fn
 | 135 => laws_szIndex.fn
 | 96 => laws_szIndexS.fn
 | 51 => laws_szDef.fn
 | 18 => laws_szDefS.fn
 | 52 => laws_szVal.fn
 | 19 => laws_szValS.fn
 | 136 => laws_toCol.fn
 | 97 => laws_toColS.fn
 | 137 => laws_toBy.fn
 | 98 => laws_toByS.fn
 | 138 => laws_toIndex.fn
 | 99 => laws_toIndexS.fn
 | 53 => laws_toDef.fn
 | 20 => laws_toDefS.fn
 | 54 => laws_toVal.fn
 | 21 => laws_toValS.fn
 | 139 => laws_eqCol.fn
 | 100 => laws_eqColS.fn
 | 140 => laws_eqBy.fn
 | 101 => laws_eqByS.fn
 | 141 => laws_eqIndex.fn
 | 102 => laws_eqIndexS.fn
 | 55 => laws_eqDef.fn
 | 23 => laws_eqDefS.fn
 | 56 => laws_eqVal.fn
 | 24 => laws_eqValS.fn
 | 5 => laws_FnExactLongKey.fn
 | 154 => ⟨0, strings_Split.sig, [], .refuse "", fun _ => ⟨[], []⟩, fun _ => none⟩
 | _ => ⟨0, ⟨[], []⟩, [], .refuse "", fun _ => ⟨[], []⟩, fun _ => none⟩
noncomputable def sigs (f : Nat) : Sig := (fns f).sig
end
end Go.PV.T
