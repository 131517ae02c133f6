/- Functions of the program by their own lists and numbers. No condition beyond those in each statement. -/
import Derived.Test.YtipehkeabnfngaaDoorPvLbC
import Derived.Test.YtipehkeabnfngaaDoorProg
import Derived.KernelRfl
set_option linter.unusedVariables false
set_option linter.unusedSimpArgs false
set_option maxRecDepth 100000
set_option linter.unusedVariables false
namespace Go.PV.T
open Go.Proofs
noncomputable section
open IntKind (wrap i64)
open Int (toNat)
open List (getD)
abbrev K0 : SS := .one (.str)
abbrev K1 : SS := .cons (.str) (.cons (.int .i64) (.one (.bool)))
abbrev K2 : SS := .cons (.int .i64) (.one (.bool))
abbrev K3 : SS := .cons (.str) (.cons (.bool) (.one (.row K2)))
abbrev K4 : SS := .cons (.str) (.cons (.row K1) (.cons (.row K2) (.one (.row K3))))
abbrev K5 : SS := .one (.int .u8)
abbrev K6 : SS := .one (.int .i64)
abbrev K7 : SS := .cons (.int .i64) (.one (.str))
abbrev Y0 := ByteArray × Bool × (List (Int × Bool))
abbrev Y1 := ByteArray × (List (ByteArray × Int × Bool)) × (List (Int × Bool)) × (List (ByteArray × Bool × (List (Int × Bool))))
abbrev Y2 := (List ByteArray) × ByteArray
abbrev Y3 := (List ByteArray) × ByteArray × Int
abbrev Y4 := Int × ByteArray × (List (ByteArray × Int × Bool)) × (List (Int × Bool)) × (List (ByteArray × Bool × (List (Int × Bool))))
abbrev Y5 := ByteArray × (List (ByteArray × Int × Bool)) × (List (Int × Bool)) × (List (ByteArray × Bool × (List (Int × Bool)))) × ByteArray
abbrev Y6 := ByteArray × Int × ByteArray × (List (ByteArray × Int × Bool)) × (List (Int × Bool)) × (List (ByteArray × Bool × (List (Int × Bool))))
abbrev Y7 := Int × Int × ByteArray × (List (ByteArray × Int × Bool)) × (List (Int × Bool)) × (List (ByteArray × Bool × (List (Int × Bool))))
abbrev Y8 := ByteArray × (List (ByteArray × Int × Bool)) × (List (Int × Bool)) × (List (ByteArray × Bool × (List (Int × Bool)))) × (List (Int × Bool))
abbrev Y9 := (List (Int × Bool)) × Int × ByteArray × (List (ByteArray × Int × Bool)) × (List (Int × Bool)) × (List (ByteArray × Bool × (List (Int × Bool))))
abbrev Y10 := (List (ByteArray × (List (ByteArray × Int × Bool)) × (List (Int × Bool)) × (List (ByteArray × Bool × (List (Int × Bool))))))
abbrev Y11 := (List (ByteArray × (List (ByteArray × Int × Bool)) × (List (Int × Bool)) × (List (ByteArray × Bool × (List (Int × Bool)))))) × Int × Int × Int × Bool
abbrev Y12 := (List (ByteArray × (List (ByteArray × Int × Bool)) × (List (Int × Bool)) × (List (ByteArray × Bool × (List (Int × Bool)))))) × Int
abbrev Y13 := ByteArray × Int × Int × (List ByteArray)
abbrev Y14 := (List (ByteArray × Bool × (List (Int × Bool)))) × Int × Int × ByteArray × (List (ByteArray × Int × Bool)) × (List (Int × Bool)) × (List (ByteArray × Bool × (List (Int × Bool))))
abbrev Y15 := (List (ByteArray × Int × Bool)) × Int × Int × ByteArray × (List (ByteArray × Int × Bool)) × (List (Int × Bool)) × (List (ByteArray × Bool × (List (Int × Bool))))
abbrev Y16 := (List (ByteArray × Int × Bool)) × Int × Int × (List (ByteArray × Int × Bool)) × Int × Int × ByteArray × (List (ByteArray × Int × Bool)) × (List (Int × Bool)) × (List (ByteArray × Bool × (List (Int × Bool)))) × ByteArray × Int × Bool
abbrev Y17 := (List (ByteArray × Bool × (List (Int × Bool)))) × Int × Int × (List (ByteArray × Bool × (List (Int × Bool)))) × Int × Int × ByteArray × (List (ByteArray × Int × Bool)) × (List (Int × Bool)) × (List (ByteArray × Bool × (List (Int × Bool)))) × ByteArray × Bool × (List (Int × Bool))
abbrev Y18 := (List (Int × Bool)) × (List (Int × Bool)) × Int × Int × (List (Int × Bool)) × Int × Int × ByteArray × (List (ByteArray × Int × Bool)) × (List (Int × Bool)) × (List (ByteArray × Bool × (List (Int × Bool)))) × Int × Bool
abbrev Y19 := (List (Int × Bool)) × (List (Int × Bool)) × Int × Int × ByteArray × (List (ByteArray × Int × Bool)) × (List (Int × Bool)) × (List (ByteArray × Bool × (List (Int × Bool))))
abbrev Y20 := (List (Int × Bool)) × Int × Int × ByteArray × (List (ByteArray × Int × Bool)) × (List (Int × Bool)) × (List (ByteArray × Bool × (List (Int × Bool))))
abbrev Y21 := (List (ByteArray × (List (ByteArray × Int × Bool)) × (List (Int × Bool)) × (List (ByteArray × Bool × (List (Int × Bool)))))) × Int × (List (ByteArray × (List (ByteArray × Int × Bool)) × (List (Int × Bool)) × (List (ByteArray × Bool × (List (Int × Bool)))))) × Int × Int × ByteArray × (List (ByteArray × Int × Bool)) × (List (Int × Bool)) × (List (ByteArray × Bool × (List (Int × Bool)))) × Int × Bool × (List (ByteArray × (List (ByteArray × Int × Bool)) × (List (Int × Bool)) × (List (ByteArray × Bool × (List (Int × Bool)))))) × Int × Int × ByteArray × (List (ByteArray × Int × Bool)) × (List (Int × Bool)) × (List (ByteArray × Bool × (List (Int × Bool))))
abbrev Y22 := (List (ByteArray × (List (ByteArray × Int × Bool)) × (List (Int × Bool)) × (List (ByteArray × Bool × (List (Int × Bool)))))) × (List (ByteArray × (List (ByteArray × Int × Bool)) × (List (Int × Bool)) × (List (ByteArray × Bool × (List (Int × Bool)))))) × Int × Int
abbrev Y23 := (List Int) × Int × Int × Int
abbrev Y24 := (List Int) × Int × Int × (List ByteArray)
abbrev Y25 := (List Int) × Int × Int × (List Int)
abbrev Y26 := (List (Int × Bool)) × Int × Int
abbrev Y27 := (List Int) × Int × Int × ByteArray
abbrev Y28 := ByteArray × (List (ByteArray × Int × Bool)) × (List (Int × Bool)) × (List (ByteArray × Bool × (List (Int × Bool)))) × Int × Int
abbrev Y29 := Int × (List Int) × Int × Int × ByteArray × (List (ByteArray × Int × Bool)) × (List (Int × Bool)) × (List (ByteArray × Bool × (List (Int × Bool)))) × ByteArray × (List (ByteArray × Int × Bool)) × (List (Int × Bool)) × (List (ByteArray × Bool × (List (Int × Bool)))) × (List ByteArray)
abbrev Y30 := (List (Int × Bool)) × Int × Int × ByteArray × (List (ByteArray × Int × Bool)) × (List (Int × Bool)) × (List (ByteArray × Bool × (List (Int × Bool)))) × (List ByteArray)
abbrev Y31 := ByteArray × (List (ByteArray × Bool × (List (Int × Bool)))) × Int × Int × ByteArray × (List (ByteArray × Int × Bool)) × (List (Int × Bool)) × (List (ByteArray × Bool × (List (Int × Bool))))
abbrev Y32 := ByteArray × (List (ByteArray × Int × Bool)) × Int × Int × ByteArray × (List (ByteArray × Int × Bool)) × (List (Int × Bool)) × (List (ByteArray × Bool × (List (Int × Bool))))
abbrev Y33 := (List (Int × Bool)) × ByteArray × Int × ByteArray × (List (ByteArray × Int × Bool)) × (List (Int × Bool)) × (List (ByteArray × Bool × (List (Int × Bool))))
abbrev Y34 := (List (ByteArray × (List (ByteArray × Int × Bool)) × (List (Int × Bool)) × (List (ByteArray × Bool × (List (Int × Bool)))))) × ByteArray × Int
abbrev Y35 := ByteArray × (List (ByteArray × (List (ByteArray × Int × Bool)) × (List (Int × Bool)) × (List (ByteArray × Bool × (List (Int × Bool)))))) × Int × Int
abbrev Y36 := (List (ByteArray × (List (ByteArray × Int × Bool)) × (List (Int × Bool)) × (List (ByteArray × Bool × (List (Int × Bool)))))) × Int × Int
abbrev Y37 := (List (Int × ByteArray)) × Int
abbrev Y38 := ByteArray × Int × Int × Int × Bool × Int × Bool × Int × Bool × Int × ByteArray × (List (Int × ByteArray))
abbrev Y39 := ByteArray × Int × (List (Int × ByteArray))
abbrev Y40 := (List (Int × ByteArray)) × Int × Bool × ByteArray
abbrev Y41 := (List (Int × ByteArray)) × Int × Bool
abbrev Y42 := (List (Int × ByteArray)) × Int × Bool × ByteArray × (List (ByteArray × Int × Bool)) × (List (Int × Bool)) × (List (ByteArray × Bool × (List (Int × Bool))))
abbrev Y43 := (List (Int × Bool)) × Int × Bool
abbrev Y44 := ByteArray × Int × (List (ByteArray × Int × Bool)) × Int × Int × (List (Int × ByteArray)) × Int × Bool × ByteArray × (List (ByteArray × Int × Bool)) × (List (Int × Bool)) × (List (ByteArray × Bool × (List (Int × Bool)))) × (List (Int × Bool))
abbrev Y45 := (List (Int × ByteArray)) × Int × Bool × ByteArray × (List (ByteArray × Int × Bool)) × (List (Int × Bool)) × (List (ByteArray × Bool × (List (Int × Bool)))) × (List (Int × Bool))
abbrev Y46 := ByteArray × (List (ByteArray × Int × Bool)) × (List (Int × Bool)) × (List (ByteArray × Bool × (List (Int × Bool)))) × Int × Bool
abbrev Y47 := (List (Int × ByteArray)) × Int × Bool × ByteArray × (List (ByteArray × Int × Bool)) × (List (Int × Bool)) × (List (ByteArray × Bool × (List (Int × Bool)))) × ByteArray × (List (ByteArray × Int × Bool)) × (List (Int × Bool)) × (List (ByteArray × Bool × (List (Int × Bool))))
abbrev Y48 := (List (ByteArray × (List (ByteArray × Int × Bool)) × (List (Int × Bool)) × (List (ByteArray × Bool × (List (Int × Bool)))))) × Bool
abbrev Y49 := (List (Int × ByteArray)) × Int × Bool × (List (ByteArray × (List (ByteArray × Int × Bool)) × (List (Int × Bool)) × (List (ByteArray × Bool × (List (Int × Bool))))))
abbrev Y50 := ByteArray × Int × Bool × Int × Bool
abbrev Y51 := Int × (List (Int × ByteArray)) × Int × Bool × ByteArray × Int × Bool × ByteArray × Int × Bool
abbrev Y52 := Bool × (List (Int × ByteArray)) × Int × Bool × ByteArray × (List (ByteArray × Int × Bool)) × (List (Int × Bool)) × (List (ByteArray × Bool × (List (Int × Bool)))) × (List (Int × Bool))
abbrev Y53 := (List (Int × ByteArray)) × Int × Bool × ByteArray × (List (ByteArray × Int × Bool)) × (List (Int × Bool)) × (List (ByteArray × Bool × (List (Int × Bool)))) × Bool
abbrev Y54 := ByteArray × Bool × (List (Int × Bool)) × Int × Bool
abbrev Y55 := Int × (List (Int × ByteArray)) × (List (Int × ByteArray))
abbrev Z4 : Int × Bool := ((0 : Int), false)
abbrev Z3 : Int × ByteArray := ((0 : Int), ByteArray.empty)
abbrev Z2 : ByteArray × Int × Bool := (ByteArray.empty, (0 : Int), false)
abbrev Z1 : Y0 := (ByteArray.empty, false, ([] : List (Int × Bool)))
abbrev Z0 : Y1 := (ByteArray.empty, ([] : List (ByteArray × Int × Bool)), ([] : List (Int × Bool)), ([] : List (ByteArray × Bool × (List (Int × Bool)))))
noncomputable def eqts (t : Nat) : Bool := memN t [61]
noncomputable def tys : Nat → TyI
 | 3 => .cell (.int .i64) 0
 | 4 => .cell (.bool) 0
 | 5 => .cell (.int .u8) 0
 | 9 => .cell (.str) 0
 | 25 => .cell (.row K4) 88
 | 29 => .cell (.row K5) 1
 | 31 => .cell (.row K1) 32
 | 32 => .cell (.row K2) 16
 | 33 => .cell (.row K3) 48
 | 35 => .strct [0, 1, 2, 3] [.str, .row K1, .row K2, .row K3]
 | 57 => .cell (.row K7) 24
 | 61 => .strct [0, 1] [.int .i64, .str]
 | 69 => .strct [0, 1, 2] [.str, .bool, .row K2]
 | 82 => .strct [0, 1, 2] [.str, .int .i64, .bool]
 | 85 => .strct [0, 1] [.int .i64, .bool]
 | 88 => .cell (.row K0) 16
 | 104 => .strct [0, 1, 2] [.row K7, .int .i64, .bool]
 | 108 => .strct [0, 1, 2] [.row K7, .int .i64, .bool]
 | 118 => .cell (.row K6) 8
 | 124 => .strct [0, 1, 2] [.row K5, .int .i64, .int .i64]
 | _ => .no
noncomputable def strings_Split.sig : Sig := ⟨[.val false [⟨.str, 0, 0, false⟩], .val false [⟨.str, 0, 0, false⟩]], [(.one, [(.row K0, 1)])]⟩
noncomputable def strings_Join.sig : Sig := ⟨[.val false [⟨.row K0, 0, 0, false⟩], .val false [⟨.str, 0, 0, false⟩]], [(.one, [(.str, 0)])]⟩
namespace spec_l1In
noncomputable def m  : (Int × Int × Int) → Option Bool
 | (a0_0, a1_0, a2_0) => bif decide (a0_0 ≥ a1_0) then some (decide (a0_0 ≤ a2_0)) else some false
noncomputable def sig : Sig := ⟨[.val false [⟨.int .i64, 0, 0, false⟩], .val false [⟨.int .i64, 0, 0, false⟩], .val false [⟨.int .i64, 0, 0, false⟩]], [(.one, [(.bool, 0)])]⟩
noncomputable def hint (_ : Nat) : Hint := ⟨[], []⟩
noncomputable def join (_ : Nat) : Option Hint := none
noncomputable def body : Code := (Tryd.f101).body.getD .skip
noncomputable def rv : List ResultVar := (Tryd.f101).results.toList
noncomputable def fn : Fn := ⟨15, sig, rv, body, hint, join⟩
end spec_l1In
namespace spec_l8Small
noncomputable def m (c101 : (Int × Int × Int) → Option Bool) : Int → Option Bool
 | a0_0 => Option.bind (c101 (wrap i64 a0_0, (97 : Int), (122 : Int))) fun r1 => some r1
noncomputable def sig : Sig := ⟨[.val false [⟨.int .u8, 0, 0, false⟩]], [(.one, [(.bool, 0)])]⟩
noncomputable def hint (_ : Nat) : Hint := ⟨[], []⟩
noncomputable def join (_ : Nat) : Option Hint := none
noncomputable def body : Code := (Tryd.f125).body.getD .skip
noncomputable def rv : List ResultVar := (Tryd.f125).results.toList
noncomputable def fn : Fn := ⟨6, sig, rv, body, hint, join⟩
end spec_l8Small
namespace spec_l2Digit
noncomputable def m (c101 : (Int × Int × Int) → Option Bool) : Int → Option Bool
 | a0_0 => Option.bind (c101 (wrap i64 a0_0, (48 : Int), (57 : Int))) fun r1 => some r1
noncomputable def sig : Sig := ⟨[.val false [⟨.int .u8, 0, 0, false⟩]], [(.one, [(.bool, 0)])]⟩
noncomputable def hint (_ : Nat) : Hint := ⟨[], []⟩
noncomputable def join (_ : Nat) : Option Hint := none
noncomputable def body : Code := (Tryd.f126).body.getD .skip
noncomputable def rv : List ResultVar := (Tryd.f126).results.toList
noncomputable def fn : Fn := ⟨6, sig, rv, body, hint, join⟩
end spec_l2Digit
namespace spec_l8Name
noncomputable def s0 (c101 : (Int × Int × Int) → Option Bool) (c125 c126 : Int → Option Bool) (L0 : (ByteArray × Int) → Option Bool) : (ByteArray × Int) → Option Bool
 | (x0, x1) => bif decide (x1 < (ByteArray.size x0 : Int)) then bif decide (0 ≤ x1) && decide (x1 < (ByteArray.size x0 : Int)) then Option.bind (c125 ((ByteArray.get! x0 (toNat x1)).toNat : Int)) fun r1 => bif !(r1) then bif x1 == 0 then some false else bif decide (0 ≤ x1) && decide (x1 < (ByteArray.size x0 : Int)) then Option.bind (c126 ((ByteArray.get! x0 (toNat x1)).toNat : Int)) fun r2 => bif !(r2) then some false else L0 (x0, wrap i64 (x1 + 1)) else none else L0 (x0, wrap i64 (x1 + 1)) else none else Option.bind (c101 ((ByteArray.size x0 : Int), (1 : Int), (8 : Int))) fun r3 => some r3
noncomputable def ll0 : (ByteArray × Int) → LS
 | (x0, x1) => ⟨[.cv ⟨.str, x0⟩, .cv ⟨.int .i64, x1⟩], []⟩
noncomputable def m (B0 : (ByteArray × Int) → Option Bool) : ByteArray → Option Bool
 | a0_0 => B0 (a0_0, (0 : Int))
noncomputable def sig : Sig := ⟨[.val false [⟨.str, 0, 0, false⟩]], [(.one, [(.bool, 0)])]⟩
noncomputable def hint : Nat → Hint
 | 0 => ⟨[(0, .keep), (3, .keep)], []⟩
 | _ => ⟨[], []⟩
noncomputable def join (_ : Nat) : Option Hint := none
noncomputable def body : Code := (Tryd.f137).body.getD .skip
noncomputable def rv : List ResultVar := (Tryd.f137).results.toList
noncomputable def fn : Fn := ⟨29, sig, rv, body, hint, join⟩
end spec_l8Name
namespace spec_l9Has
noncomputable def s0 (L0 : Y3 → Option Bool) : Y3 → Option Bool
 | (x0, x1, x2) => bif decide (x2 < (List.length x0 : Int)) then bif decide (0 ≤ x2) && decide (x2 < (List.length x0 : Int)) then bif ByteArray.toList (getD x0 (toNat x2) ByteArray.empty) == ByteArray.toList x1 then some true else L0 (x0, x1, wrap i64 (x2 + 1)) else none else some false
noncomputable def ll0 : Y3 → LS
 | (x0, x1, x2) => ⟨[.cv ⟨.row K0, x0⟩, .cv ⟨.str, x1⟩, .cv ⟨.int .i64, x2⟩], []⟩
noncomputable def m (B0 : Y3 → Option Bool) : Y2 → Option Bool
 | (a0_0, a1_0) => B0 (a0_0, a1_0, (0 : Int))
noncomputable def sig : Sig := ⟨[.val false [⟨.row K0, 0, 0, false⟩], .val false [⟨.str, 0, 0, false⟩]], [(.one, [(.bool, 0)])]⟩
noncomputable def hint : Nat → Hint
 | 0 => ⟨[(0, .keep), (1, .keep), (5, .keep)], []⟩
 | _ => ⟨[], []⟩
noncomputable def join (_ : Nat) : Option Hint := none
noncomputable def body : Code := (Tryd.f138).body.getD .skip
noncomputable def rv : List ResultVar := (Tryd.f138).results.toList
noncomputable def fn : Fn := ⟨18, sig, rv, body, hint, join⟩
end spec_l9Has
namespace spec_l9Word
noncomputable def m (c137 : ByteArray → Option Bool) (c138 : Y2 → Option Bool) : ByteArray → Option Bool
 | a0_0 => Option.bind (c137 a0_0) fun r1 => bif r1 then Option.bind (c138 (([({ data := #[116, 97, 98, 108, 101] } : ByteArray), ({ data := #[112, 114, 105, 109, 97, 114, 121] } : ByteArray), ({ data := #[117, 110, 105, 113, 117, 101] } : ByteArray), ({ data := #[105, 110, 100, 101, 120] } : ByteArray), ({ data := #[110, 117, 108, 108] } : ByteArray), ({ data := #[100, 101, 115, 99] } : ByteArray), ({ data := #[105, 110, 116] } : ByteArray), ({ data := #[110, 117, 109] } : ByteArray), ({ data := #[116, 101, 120, 116] } : ByteArray), ({ data := #[98, 111, 111, 108] } : ByteArray)] : List ByteArray), a0_0)) fun r2 => some (!(r2)) else some false
noncomputable def sig : Sig := ⟨[.val false [⟨.str, 0, 0, false⟩]], [(.one, [(.bool, 0)])]⟩
noncomputable def hint (_ : Nat) : Hint := ⟨[], []⟩
noncomputable def join (_ : Nat) : Option Hint := none
noncomputable def body : Code := (Tryd.f107).body.getD .skip
noncomputable def rv : List ResultVar := (Tryd.f107).results.toList
noncomputable def fn : Fn := ⟨11, sig, rv, body, hint, join⟩
end spec_l9Word
namespace spec_l9Names
noncomputable def s0 (c107 : ByteArray → Option Bool) (B2 L0 : Y4 → Option Bool) : Y4 → Option Bool
 | (x0, x1, x2, x3, x4) => bif decide (x0 < (List.length x2 : Int)) then bif decide (0 ≤ x0) && decide (x0 < (List.length x2 : Int)) then Option.bind (c107 ((getD x2 (toNat x0) Z2).1)) fun r1 => bif !(r1) then some false else L0 (wrap i64 (x0 + 1), x1, x2, x3, x4) else none else B2 ((0 : Int), x1, x2, x3, x4)
noncomputable def ll0 : Y4 → LS
 | (x0, x1, x2, x3, x4) => ⟨[.addr 65 0 [] 0, .cv ⟨.int .i64, x0⟩], [⟨false, [⟨0, 0, .mk 0 ⟨.str, x1⟩⟩, ⟨0, 0, .mk 0 ⟨.row K1, x2⟩⟩, ⟨0, 0, .mk 0 ⟨.row K2, x3⟩⟩, ⟨0, 0, .mk 0 ⟨.row K3, x4⟩⟩]⟩]⟩
noncomputable def s2 (c107 : ByteArray → Option Bool) (L2 : Y4 → Option Bool) : Y4 → Option Bool
 | (x0, x1, x2, x3, x4) => bif decide (x0 < (List.length x4 : Int)) then bif decide (0 ≤ x0) && decide (x0 < (List.length x4 : Int)) then Option.bind (c107 ((getD x4 (toNat x0) Z1).1)) fun r2 => bif !(r2) then some false else L2 (wrap i64 (x0 + 1), x1, x2, x3, x4) else none else Option.bind (c107 x1) fun r3 => some r3
noncomputable def ll2 : Y4 → LS
 | (x0, x1, x2, x3, x4) => ⟨[.addr 65 0 [] 0, .cv ⟨.int .i64, x0⟩], [⟨false, [⟨0, 0, .mk 0 ⟨.str, x1⟩⟩, ⟨0, 0, .mk 0 ⟨.row K1, x2⟩⟩, ⟨0, 0, .mk 0 ⟨.row K2, x3⟩⟩, ⟨0, 0, .mk 0 ⟨.row K3, x4⟩⟩]⟩]⟩
noncomputable def m (B0 : Y4 → Option Bool) : Y1 → Option Bool
 | (a0_0, a0_1, a0_2, a0_3) => B0 ((0 : Int), a0_0, a0_1, a0_2, a0_3)
noncomputable def sig : Sig := ⟨[.val true [⟨.str, 0, 0, false⟩, ⟨.row K1, 0, 0, false⟩, ⟨.row K2, 0, 0, false⟩, ⟨.row K3, 0, 0, false⟩]], [(.one, [(.bool, 0)])]⟩
noncomputable def hint : Nat → Hint
 | 0 => ⟨[(1, .keep), (3, .keep)], [(65, [0, 0, 0, 0])]⟩
 | 2 => ⟨[(1, .keep), (4, .keep)], [(65, [0, 0, 0, 0])]⟩
 | _ => ⟨[], []⟩
noncomputable def join (_ : Nat) : Option Hint := none
noncomputable def body : Code := (Tryd.f60).body.getD .skip
noncomputable def rv : List ResultVar := (Tryd.f60).results.toList
noncomputable def fn : Fn := ⟨38, sig, rv, body, hint, join⟩
end spec_l9Names
namespace spec_l9Types
noncomputable def s0 (c101 : (Int × Int × Int) → Option Bool) (L0 : Y4 → Option Bool) : Y4 → Option Bool
 | (x0, x1, x2, x3, x4) => bif decide (x0 < (List.length x2 : Int)) then bif decide (0 ≤ x0) && decide (x0 < (List.length x2 : Int)) then Option.bind (c101 ((getD x2 (toNat x0) Z2).2.1, (1 : Int), (4 : Int))) fun r1 => bif !(r1) then some false else L0 (wrap i64 (x0 + 1), x1, x2, x3, x4) else none else Option.bind (c101 ((List.length x2 : Int), (1 : Int), (6 : Int))) fun r2 => some r2
noncomputable def ll0 : Y4 → LS
 | (x0, x1, x2, x3, x4) => ⟨[.addr 65 0 [] 0, .cv ⟨.int .i64, x0⟩], [⟨false, [⟨0, 0, .mk 0 ⟨.str, x1⟩⟩, ⟨0, 0, .mk 0 ⟨.row K1, x2⟩⟩, ⟨0, 0, .mk 0 ⟨.row K2, x3⟩⟩, ⟨0, 0, .mk 0 ⟨.row K3, x4⟩⟩]⟩]⟩
noncomputable def m (B0 : Y4 → Option Bool) : Y1 → Option Bool
 | (a0_0, a0_1, a0_2, a0_3) => B0 ((0 : Int), a0_0, a0_1, a0_2, a0_3)
noncomputable def sig : Sig := ⟨[.val true [⟨.str, 0, 0, false⟩, ⟨.row K1, 0, 0, false⟩, ⟨.row K2, 0, 0, false⟩, ⟨.row K3, 0, 0, false⟩]], [(.one, [(.bool, 0)])]⟩
noncomputable def hint : Nat → Hint
 | 0 => ⟨[(1, .keep), (3, .keep)], [(65, [0, 0, 0, 0])]⟩
 | _ => ⟨[], []⟩
noncomputable def join (_ : Nat) : Option Hint := none
noncomputable def body : Code := (Tryd.f61).body.getD .skip
noncomputable def rv : List ResultVar := (Tryd.f61).results.toList
noncomputable def fn : Fn := ⟨23, sig, rv, body, hint, join⟩
end spec_l9Types
namespace spec_l9Col
noncomputable def s0 (L0 : Y6 → Option Int) : Y6 → Option Int
 | (x0, x1, x2, x3, x4, x5) => bif decide (x1 < (List.length x3 : Int)) then bif decide (0 ≤ x1) && decide (x1 < (List.length x3 : Int)) then bif ByteArray.toList ((getD x3 (toNat x1) Z2).1) == ByteArray.toList x0 then some x1 else L0 (x0, wrap i64 (x1 + 1), x2, x3, x4, x5) else none else some (-1 : Int)
noncomputable def ll0 : Y6 → LS
 | (x0, x1, x2, x3, x4, x5) => ⟨[.cv ⟨.str, x0⟩, .addr 129 0 [] 0, .cv ⟨.int .i64, x1⟩], [⟨false, [⟨0, 0, .mk 0 ⟨.str, x2⟩⟩, ⟨0, 0, .mk 0 ⟨.row K1, x3⟩⟩, ⟨0, 0, .mk 0 ⟨.row K2, x4⟩⟩, ⟨0, 0, .mk 0 ⟨.row K3, x5⟩⟩]⟩]⟩
noncomputable def m (B0 : Y6 → Option Int) : Y5 → Option Int
 | (a0_0, a0_1, a0_2, a0_3, a1_0) => B0 (a1_0, (0 : Int), a0_0, a0_1, a0_2, a0_3)
noncomputable def sig : Sig := ⟨[.val true [⟨.str, 0, 0, false⟩, ⟨.row K1, 0, 0, false⟩, ⟨.row K2, 0, 0, false⟩, ⟨.row K3, 0, 0, false⟩], .val false [⟨.str, 0, 0, false⟩]], [(.one, [(.int .i64, 0)])]⟩
noncomputable def hint : Nat → Hint
 | 0 => ⟨[(1, .keep), (2, .keep), (5, .keep)], [(129, [0, 0, 0, 0])]⟩
 | _ => ⟨[], []⟩
noncomputable def join (_ : Nat) : Option Hint := none
noncomputable def body : Code := (Tryd.f108).body.getD .skip
noncomputable def rv : List ResultVar := (Tryd.f108).results.toList
noncomputable def fn : Fn := ⟨22, sig, rv, body, hint, join⟩
end spec_l9Col
namespace spec_l9Once
noncomputable def s0 (c108 : Y5 → Option Int) (B2 L0 : Y4 → Option Bool) : Y4 → Option Bool
 | (x0, x1, x2, x3, x4) => bif decide (x0 < (List.length x2 : Int)) then bif decide (0 ≤ x0) && decide (x0 < (List.length x2 : Int)) then Option.bind (c108 (x1, x2, x3, x4, (getD x2 (toNat x0) Z2).1)) fun r1 => bif r1 != x0 then some false else L0 (wrap i64 (x0 + 1), x1, x2, x3, x4) else none else B2 ((0 : Int), x1, x2, x3, x4)
noncomputable def ll0 : Y4 → LS
 | (x0, x1, x2, x3, x4) => ⟨[.addr 65 0 [] 0, .cv ⟨.int .i64, x0⟩], [⟨false, [⟨0, 0, .mk 0 ⟨.str, x1⟩⟩, ⟨0, 0, .mk 0 ⟨.row K1, x2⟩⟩, ⟨0, 0, .mk 0 ⟨.row K2, x3⟩⟩, ⟨0, 0, .mk 0 ⟨.row K3, x4⟩⟩]⟩]⟩
noncomputable def s2 (B4 : Y7 → Option Bool) (L2 : Y4 → Option Bool) : Y4 → Option Bool
 | (x0, x1, x2, x3, x4) => bif decide (x0 < (List.length x4 : Int)) then B4 (x0, (0 : Int), x1, x2, x3, x4) else some true
noncomputable def ll2 : Y4 → LS
 | (x0, x1, x2, x3, x4) => ⟨[.addr 65 0 [] 0, .cv ⟨.int .i64, x0⟩], [⟨false, [⟨0, 0, .mk 0 ⟨.str, x1⟩⟩, ⟨0, 0, .mk 0 ⟨.row K1, x2⟩⟩, ⟨0, 0, .mk 0 ⟨.row K2, x3⟩⟩, ⟨0, 0, .mk 0 ⟨.row K3, x4⟩⟩]⟩]⟩
noncomputable def s4 (L2 : Y4 → Option Bool) (L4 : Y7 → Option Bool) : Y7 → Option Bool
 | (x0, x1, x2, x3, x4, x5) => bif decide (x1 < x0) then bif decide (0 ≤ x1) && decide (x1 < (List.length x5 : Int)) then bif decide (0 ≤ x0) && decide (x0 < (List.length x5 : Int)) then bif ByteArray.toList ((getD x5 (toNat x1) Z1).1) == ByteArray.toList ((getD x5 (toNat x0) Z1).1) then some false else L4 (x0, wrap i64 (x1 + 1), x2, x3, x4, x5) else none else none else L2 (wrap i64 (x0 + 1), x2, x3, x4, x5)
noncomputable def ll4 : Y7 → LS
 | (x0, x1, x2, x3, x4, x5) => ⟨[.addr 65 0 [] 0, .cv ⟨.int .i64, x0⟩, .cv ⟨.int .i64, x1⟩], [⟨false, [⟨0, 0, .mk 0 ⟨.str, x2⟩⟩, ⟨0, 0, .mk 0 ⟨.row K1, x3⟩⟩, ⟨0, 0, .mk 0 ⟨.row K2, x4⟩⟩, ⟨0, 0, .mk 0 ⟨.row K3, x5⟩⟩]⟩]⟩
noncomputable def m (B0 : Y4 → Option Bool) : Y1 → Option Bool
 | (a0_0, a0_1, a0_2, a0_3) => B0 ((0 : Int), a0_0, a0_1, a0_2, a0_3)
noncomputable def sig : Sig := ⟨[.val true [⟨.str, 0, 0, false⟩, ⟨.row K1, 0, 0, false⟩, ⟨.row K2, 0, 0, false⟩, ⟨.row K3, 0, 0, false⟩]], [(.one, [(.bool, 0)])]⟩
noncomputable def hint : Nat → Hint
 | 0 => ⟨[(1, .keep), (3, .keep)], [(65, [0, 0, 0, 0])]⟩
 | 2 => ⟨[(1, .keep), (4, .keep)], [(65, [0, 0, 0, 0])]⟩
 | 4 => ⟨[(1, .keep), (4, .keep), (5, .keep)], [(65, [0, 0, 0, 0])]⟩
 | _ => ⟨[], []⟩
noncomputable def join (_ : Nat) : Option Hint := none
noncomputable def body : Code := (Tryd.f62).body.getD .skip
noncomputable def rv : List ResultVar := (Tryd.f62).results.toList
noncomputable def fn : Fn := ⟨48, sig, rv, body, hint, join⟩
end spec_l9Once
namespace spec_l9Parts
noncomputable def s0 (c101 : (Int × Int × Int) → Option Bool) (L0 : Y9 → Option Bool) : Y9 → Option Bool
 | (x0, x1, x2, x3, x4, x5) => bif decide (x1 < (List.length x0 : Int)) then bif decide (0 ≤ x1) && decide (x1 < (List.length x0 : Int)) then Option.bind (c101 ((getD x0 (toNat x1) Z4).1, (0 : Int), wrap i64 ((List.length x3 : Int) - 1))) fun r1 => bif !(r1) then some false else bif decide (x1 > 0) then bif decide (0 ≤ 0) && decide ((0 : Int) < (List.length x0 : Int)) then bif decide (0 ≤ x1) && decide (x1 < (List.length x0 : Int)) then bif ((getD x0 (toNat (0 : Int)) Z4).1) == ((getD x0 (toNat x1) Z4).1) then some false else L0 (x0, wrap i64 (x1 + 1), x2, x3, x4, x5) else none else none else L0 (x0, wrap i64 (x1 + 1), x2, x3, x4, x5) else none else Option.bind (c101 ((List.length x0 : Int), (1 : Int), (2 : Int))) fun r2 => some r2
noncomputable def ll0 : Y9 → LS
 | (x0, x1, x2, x3, x4, x5) => ⟨[.cv ⟨.row K2, x0⟩, .addr 129 0 [] 0, .cv ⟨.int .i64, x1⟩], [⟨false, [⟨0, 0, .mk 0 ⟨.str, x2⟩⟩, ⟨0, 0, .mk 0 ⟨.row K1, x3⟩⟩, ⟨0, 0, .mk 0 ⟨.row K2, x4⟩⟩, ⟨0, 0, .mk 0 ⟨.row K3, x5⟩⟩]⟩]⟩
noncomputable def m (B0 : Y9 → Option Bool) : Y8 → Option Bool
 | (a0_0, a0_1, a0_2, a0_3, a1_0) => B0 (a1_0, (0 : Int), a0_0, a0_1, a0_2, a0_3)
noncomputable def sig : Sig := ⟨[.val true [⟨.str, 0, 0, false⟩, ⟨.row K1, 0, 0, false⟩, ⟨.row K2, 0, 0, false⟩, ⟨.row K3, 0, 0, false⟩], .val false [⟨.row K2, 0, 0, false⟩]], [(.one, [(.bool, 0)])]⟩
noncomputable def hint : Nat → Hint
 | 0 => ⟨[(1, .keep), (2, .keep), (5, .keep)], [(129, [0, 0, 0, 0])]⟩
 | _ => ⟨[], []⟩
noncomputable def join (_ : Nat) : Option Hint := none
noncomputable def body : Code := (Tryd.f109).body.getD .skip
noncomputable def rv : List ResultVar := (Tryd.f109).results.toList
noncomputable def fn : Fn := ⟨42, sig, rv, body, hint, join⟩
end spec_l9Parts
namespace spec_l9AllParts
noncomputable def s0 (c109 : Y8 → Option Bool) (L0 : Y4 → Option Bool) : Y4 → Option Bool
 | (x0, x1, x2, x3, x4) => bif decide (x0 < (List.length x4 : Int)) then bif decide (0 ≤ x0) && decide (x0 < (List.length x4 : Int)) then Option.bind (c109 (x1, x2, x3, x4, (getD x4 (toNat x0) Z1).2.2)) fun r1 => bif !(r1) then some false else L0 (wrap i64 (x0 + 1), x1, x2, x3, x4) else none else Option.bind (c109 (x1, x2, x3, x4, x3)) fun r2 => some r2
noncomputable def ll0 : Y4 → LS
 | (x0, x1, x2, x3, x4) => ⟨[.addr 65 0 [] 0, .cv ⟨.int .i64, x0⟩], [⟨false, [⟨0, 0, .mk 0 ⟨.str, x1⟩⟩, ⟨0, 0, .mk 0 ⟨.row K1, x2⟩⟩, ⟨0, 0, .mk 0 ⟨.row K2, x3⟩⟩, ⟨0, 0, .mk 0 ⟨.row K3, x4⟩⟩]⟩]⟩
noncomputable def m (B0 : Y4 → Option Bool) : Y1 → Option Bool
 | (a0_0, a0_1, a0_2, a0_3) => B0 ((0 : Int), a0_0, a0_1, a0_2, a0_3)
noncomputable def sig : Sig := ⟨[.val true [⟨.str, 0, 0, false⟩, ⟨.row K1, 0, 0, false⟩, ⟨.row K2, 0, 0, false⟩, ⟨.row K3, 0, 0, false⟩]], [(.one, [(.bool, 0)])]⟩
noncomputable def hint : Nat → Hint
 | 0 => ⟨[(1, .keep), (3, .keep)], [(65, [0, 0, 0, 0])]⟩
 | _ => ⟨[], []⟩
noncomputable def join (_ : Nat) : Option Hint := none
noncomputable def body : Code := (Tryd.f63).body.getD .skip
noncomputable def rv : List ResultVar := (Tryd.f63).results.toList
noncomputable def fn : Fn := ⟨24, sig, rv, body, hint, join⟩
end spec_l9AllParts
namespace spec_CheckDef
noncomputable def s1 (L1 : Y4 → Option Int) : Y4 → Option Int
 | (x0, x1, x2, x3, x4) => bif decide (x0 < (List.length x3 : Int)) then bif decide (0 ≤ x0) && decide (x0 < (List.length x3 : Int)) then bif decide (0 ≤ ((getD x3 (toNat x0) Z4).1)) && decide (((getD x3 (toNat x0) Z4).1) < (List.length x2 : Int)) then bif (getD x2 (toNat ((getD x3 (toNat x0) Z4).1)) Z2).2.2 then some (4 : Int) else L1 (wrap i64 (x0 + 1), x1, x2, x3, x4) else none else none else some (0 : Int)
noncomputable def ll1 : Y4 → LS
 | (x0, x1, x2, x3, x4) => ⟨[.addr 65 0 [] 0, .cv ⟨.int .i64, x0⟩], [⟨false, [⟨0, 0, .mk 0 ⟨.str, x1⟩⟩, ⟨0, 0, .mk 0 ⟨.row K1, x2⟩⟩, ⟨0, 0, .mk 0 ⟨.row K2, x3⟩⟩, ⟨0, 0, .mk 0 ⟨.row K3, x4⟩⟩]⟩]⟩
noncomputable def m (c60 c61 c62 c63 : Y1 → Option Bool) (B1 : Y4 → Option Int) : Y1 → Option Int
 | (a0_0, a0_1, a0_2, a0_3) => Option.bind (c60 (a0_0, a0_1, a0_2, a0_3)) fun r1 => bif !(r1) then some (1 : Int) else Option.bind (c61 (a0_0, a0_1, a0_2, a0_3)) fun r2 => bif !(r2) then some (2 : Int) else Option.bind (c62 (a0_0, a0_1, a0_2, a0_3)) fun r3 => bif !(r3) then some (3 : Int) else bif decide ((List.length a0_3 : Int) > 2) then some (6 : Int) else Option.bind (c63 (a0_0, a0_1, a0_2, a0_3)) fun r4 => bif !(r4) then some (5 : Int) else B1 ((0 : Int), a0_0, a0_1, a0_2, a0_3)
noncomputable def sig : Sig := ⟨[.val true [⟨.str, 0, 0, false⟩, ⟨.row K1, 0, 0, false⟩, ⟨.row K2, 0, 0, false⟩, ⟨.row K3, 0, 0, false⟩]], [(.one, [(.int .i64, 0)])]⟩
noncomputable def hint : Nat → Hint
 | 1 => ⟨[(1, .keep), (3, .keep)], [(65, [0, 0, 0, 0])]⟩
 | _ => ⟨[], []⟩
noncomputable def join (_ : Nat) : Option Hint := none
noncomputable def body : Code := (Tryd.f23).body.getD .skip
noncomputable def rv : List ResultVar := (Tryd.f23).results.toList
noncomputable def fn : Fn := ⟨43, sig, rv, body, hint, join⟩
end spec_CheckDef
namespace spec_FirstBad
noncomputable def s0 (c23 : Y1 → Option Int) (B2 : Y11 → Option Int) (L0 : Y12 → Option Int) : Y12 → Option Int
 | (x0, x1) => bif decide (x1 < (List.length x0 : Int)) then bif decide (0 ≤ x1) && decide (x1 < (List.length x0 : Int)) then Option.bind (c23 ((getD x0 (toNat x1) Z0).1, (getD x0 (toNat x1) Z0).2.1, (getD x0 (toNat x1) Z0).2.2.1, (getD x0 (toNat x1) Z0).2.2.2)) fun r1 => bif r1 != 0 then some x1 else bif decide (x1 > 2) then some x1 else B2 (x0, x1, (0 : Int), x1, decide (x1 > 2)) else none else some (-1 : Int)
noncomputable def ll0 : Y12 → LS
 | (x0, x1) => ⟨[.cv ⟨.row K4, x0⟩, .cv ⟨.int .i64, x1⟩], []⟩
noncomputable def s2 (L0 : Y12 → Option Int) (L2 : Y11 → Option Int) : Y11 → Option Int
 | (x0, x1, x2, x3, x4) => bif decide (x2 < x1) then bif decide (0 ≤ x2) && decide (x2 < (List.length x0 : Int)) then bif decide (0 ≤ x1) && decide (x1 < (List.length x0 : Int)) then bif ByteArray.toList ((getD x0 (toNat x2) Z0).1) == ByteArray.toList ((getD x0 (toNat x1) Z0).1) then some x1 else L2 (x0, x1, wrap i64 (x2 + 1), x3, x4) else none else none else L0 (x0, wrap i64 (x1 + 1))
noncomputable def ll2 : Y11 → LS
 | (x0, x1, x2, x3, x4) => ⟨[.cv ⟨.row K4, x0⟩, .cv ⟨.int .i64, x1⟩, .cv ⟨.int .i64, x2⟩, .cv ⟨.int .i64, x3⟩, .cv ⟨.bool, x4⟩], []⟩
noncomputable def m (B0 : Y12 → Option Int) : Y10 → Option Int
 | a0_0 => B0 (a0_0, (0 : Int))
noncomputable def sig : Sig := ⟨[.val false [⟨.row K4, 0, 0, false⟩]], [(.one, [(.int .i64, 0)])]⟩
noncomputable def hint : Nat → Hint
 | 0 => ⟨[(0, .keep), (3, .keep)], []⟩
 | 2 => ⟨[(0, .keep), (3, .keep), (4, .keep), (18, .keep), (19, .keep)], []⟩
 | _ => ⟨[], []⟩
noncomputable def join (_ : Nat) : Option Hint := none
noncomputable def body : Code := (Tryd.f15).body.getD .skip
noncomputable def rv : List ResultVar := (Tryd.f15).results.toList
noncomputable def fn : Fn := ⟨39, sig, rv, body, hint, join⟩
end spec_FirstBad
namespace impl_in
noncomputable def m  : (Int × Int × Int) → Option Bool
 | (a0_0, a1_0, a2_0) => bif decide (a0_0 ≥ a1_0) then some (decide (a0_0 ≤ a2_0)) else some false
noncomputable def sig : Sig := ⟨[.val false [⟨.int .i64, 0, 0, false⟩], .val false [⟨.int .i64, 0, 0, false⟩], .val false [⟨.int .i64, 0, 0, false⟩]], [(.one, [(.bool, 0)])]⟩
noncomputable def hint (_ : Nat) : Hint := ⟨[], []⟩
noncomputable def join (_ : Nat) : Option Hint := none
noncomputable def body : Code := (Tryd.f55).body.getD .skip
noncomputable def rv : List ResultVar := (Tryd.f55).results.toList
noncomputable def fn : Fn := ⟨15, sig, rv, body, hint, join⟩
end impl_in
namespace impl_isLetter
noncomputable def m  : Int → Option Bool
 | a0_0 => bif decide (a0_0 ≥ 97) then some (decide (a0_0 ≤ 122)) else some false
noncomputable def sig : Sig := ⟨[.val false [⟨.int .u8, 0, 0, false⟩]], [(.one, [(.bool, 0)])]⟩
noncomputable def hint (_ : Nat) : Hint := ⟨[], []⟩
noncomputable def join (_ : Nat) : Option Hint := none
noncomputable def body : Code := (Tryd.f93).body.getD .skip
noncomputable def rv : List ResultVar := (Tryd.f93).results.toList
noncomputable def fn : Fn := ⟨9, sig, rv, body, hint, join⟩
end impl_isLetter
namespace impl_isDigit
noncomputable def m  : Int → Option Bool
 | a0_0 => bif decide (a0_0 ≥ 48) then some (decide (a0_0 ≤ 57)) else some false
noncomputable def sig : Sig := ⟨[.val false [⟨.int .u8, 0, 0, false⟩]], [(.one, [(.bool, 0)])]⟩
noncomputable def hint (_ : Nat) : Hint := ⟨[], []⟩
noncomputable def join (_ : Nat) : Option Hint := none
noncomputable def body : Code := (Tryd.f94).body.getD .skip
noncomputable def rv : List ResultVar := (Tryd.f94).results.toList
noncomputable def fn : Fn := ⟨9, sig, rv, body, hint, join⟩
end impl_isDigit
namespace impl_nameOk
noncomputable def s0 (c55 : (Int × Int × Int) → Option Bool) (c93 c94 : Int → Option Bool) (L0 : (ByteArray × Int) → Option Bool) : (ByteArray × Int) → Option Bool
 | (x0, x1) => bif decide (x1 < (ByteArray.size x0 : Int)) then bif decide (0 ≤ x1) && decide (x1 < (ByteArray.size x0 : Int)) then Option.bind (c93 ((ByteArray.get! x0 (toNat x1)).toNat : Int)) fun r1 => bif !(r1) then bif x1 == 0 then some false else bif decide (0 ≤ x1) && decide (x1 < (ByteArray.size x0 : Int)) then Option.bind (c94 ((ByteArray.get! x0 (toNat x1)).toNat : Int)) fun r2 => bif !(r2) then some false else L0 (x0, wrap i64 (x1 + 1)) else none else L0 (x0, wrap i64 (x1 + 1)) else none else Option.bind (c55 ((ByteArray.size x0 : Int), (1 : Int), (8 : Int))) fun r3 => some r3
noncomputable def ll0 : (ByteArray × Int) → LS
 | (x0, x1) => ⟨[.cv ⟨.str, x0⟩, .cv ⟨.int .i64, x1⟩], []⟩
noncomputable def m (B0 : (ByteArray × Int) → Option Bool) : ByteArray → Option Bool
 | a0_0 => B0 (a0_0, (0 : Int))
noncomputable def sig : Sig := ⟨[.val false [⟨.str, 0, 0, false⟩]], [(.one, [(.bool, 0)])]⟩
noncomputable def hint : Nat → Hint
 | 0 => ⟨[(0, .keep), (3, .keep)], []⟩
 | _ => ⟨[], []⟩
noncomputable def join (_ : Nat) : Option Hint := none
noncomputable def body : Code := (Tryd.f135).body.getD .skip
noncomputable def rv : List ResultVar := (Tryd.f135).results.toList
noncomputable def fn : Fn := ⟨29, sig, rv, body, hint, join⟩
end impl_nameOk
namespace impl_isFree
noncomputable def s0 (c135 : ByteArray → Option Bool) (L0 : Y13 → Option Bool) : Y13 → Option Bool
 | (x0, x1, x2, x3) => bif decide (x2 < x1) then bif decide (0 ≤ x2) && decide (x2 < (List.length x3 : Int)) then bif ByteArray.toList (getD x3 (toNat x2) ByteArray.empty) == ByteArray.toList x0 then some false else L0 (x0, x1, wrap i64 (x2 + 1), x3) else none else Option.bind (c135 x0) fun r2 => some r2
noncomputable def ll0 : Y13 → LS
 | (x0, x1, x2, x3) => ⟨[.cv ⟨.str, x0⟩, .ref 20 0 [] none 0, .cv ⟨.int .i64, x1⟩, .cv ⟨.int .i64, x2⟩], [⟨true, [⟨0, 0, .mk 1 ⟨.row K0, x3⟩⟩]⟩]⟩
noncomputable def m (c64 : (ByteArray × ByteArray) → Option ((List ByteArray))) (B0 : Y13 → Option Bool) : ByteArray → Option Bool
 | a0_0 => Option.bind (c64 (({ data := #[116, 97, 98, 108, 101, 32, 112, 114, 105, 109, 97, 114, 121, 32, 117, 110, 105, 113, 117, 101, 32, 105, 110, 100, 101, 120, 32, 110, 117, 108, 108, 32, 100, 101, 115, 99, 32, 105, 110, 116, 32, 110, 117, 109, 32, 116, 101, 120, 116, 32, 98, 111, 111, 108] } : ByteArray), ({ data := #[32] } : ByteArray))) fun r1 => B0 (a0_0, (List.length r1 : Int), (0 : Int), r1)
noncomputable def sig : Sig := ⟨[.val false [⟨.str, 0, 0, false⟩]], [(.one, [(.bool, 0)])]⟩
noncomputable def hint : Nat → Hint
 | 0 => ⟨[(0, .keep), (5, .own 1 K0), (6, .keep), (7, .keep)], []⟩
 | _ => ⟨[], []⟩
noncomputable def join (_ : Nat) : Option Hint := none
noncomputable def body : Code := (Tryd.f106).body.getD .skip
noncomputable def rv : List ResultVar := (Tryd.f106).results.toList
noncomputable def fn : Fn := ⟨17, sig, rv, body, hint, join⟩
end impl_isFree
namespace impl_namesOk
noncomputable def s0 (c106 : ByteArray → Option Bool) (B2 : Y14 → Option Bool) (L0 : Y15 → Option Bool) : Y15 → Option Bool
 | (x0, x1, x2, x3, x4, x5, x6) => bif decide (x2 < x1) then bif decide (0 ≤ x2) && decide (x2 < (List.length x0 : Int)) then Option.bind (c106 ((getD x0 (toNat x2) Z2).1)) fun r1 => bif !(r1) then some false else L0 (x0, x1, wrap i64 (x2 + 1), x3, x4, x5, x6) else none else B2 (x6, (List.length x6 : Int), (0 : Int), x3, x4, x5, x6)
noncomputable def ll0 : Y15 → LS
 | (x0, x1, x2, x3, x4, x5, x6) => ⟨[.addr 65 0 [] 0, .cv ⟨.row K1, x0⟩, .cv ⟨.int .i64, x1⟩, .cv ⟨.int .i64, x2⟩], [⟨false, [⟨0, 0, .mk 0 ⟨.str, x3⟩⟩, ⟨0, 0, .mk 0 ⟨.row K1, x4⟩⟩, ⟨0, 0, .mk 0 ⟨.row K2, x5⟩⟩, ⟨0, 0, .mk 0 ⟨.row K3, x6⟩⟩]⟩]⟩
noncomputable def s2 (c106 : ByteArray → Option Bool) (L2 : Y14 → Option Bool) : Y14 → Option Bool
 | (x0, x1, x2, x3, x4, x5, x6) => bif decide (x2 < x1) then bif decide (0 ≤ x2) && decide (x2 < (List.length x0 : Int)) then Option.bind (c106 ((getD x0 (toNat x2) Z1).1)) fun r2 => bif !(r2) then some false else L2 (x0, x1, wrap i64 (x2 + 1), x3, x4, x5, x6) else none else Option.bind (c106 x3) fun r3 => some r3
noncomputable def ll2 : Y14 → LS
 | (x0, x1, x2, x3, x4, x5, x6) => ⟨[.addr 65 0 [] 0, .cv ⟨.row K3, x0⟩, .cv ⟨.int .i64, x1⟩, .cv ⟨.int .i64, x2⟩], [⟨false, [⟨0, 0, .mk 0 ⟨.str, x3⟩⟩, ⟨0, 0, .mk 0 ⟨.row K1, x4⟩⟩, ⟨0, 0, .mk 0 ⟨.row K2, x5⟩⟩, ⟨0, 0, .mk 0 ⟨.row K3, x6⟩⟩]⟩]⟩
noncomputable def m (B0 : Y15 → Option Bool) : Y1 → Option Bool
 | (a0_0, a0_1, a0_2, a0_3) => B0 (a0_1, (List.length a0_1 : Int), (0 : Int), a0_0, a0_1, a0_2, a0_3)
noncomputable def sig : Sig := ⟨[.val true [⟨.str, 0, 0, false⟩, ⟨.row K1, 0, 0, false⟩, ⟨.row K2, 0, 0, false⟩, ⟨.row K3, 0, 0, false⟩]], [(.one, [(.bool, 0)])]⟩
noncomputable def hint : Nat → Hint
 | 0 => ⟨[(1, .keep), (8, .keep), (9, .keep), (10, .keep)], [(65, [0, 0, 0, 0])]⟩
 | 2 => ⟨[(1, .keep), (20, .keep), (21, .keep), (22, .keep)], [(65, [0, 0, 0, 0])]⟩
 | _ => ⟨[], []⟩
noncomputable def join (_ : Nat) : Option Hint := none
noncomputable def body : Code := (Tryd.f54).body.getD .skip
noncomputable def rv : List ResultVar := (Tryd.f54).results.toList
noncomputable def fn : Fn := ⟨34, sig, rv, body, hint, join⟩
end impl_namesOk
namespace impl_twice
noncomputable def s0 (B2 : Y16 → Option Bool) (B4 : Y14 → Option Bool) (L0 : Y15 → Option Bool) : Y15 → Option Bool
 | (x0, x1, x2, x3, x4, x5, x6) => bif decide (x2 < x1) then bif decide (0 ≤ x2) && decide (x2 < (List.length x0 : Int)) then bif decide (0 ≤ 0) && decide ((0 : Int) ≤ x2) && decide (x2 ≤ (List.length x4 : Int)) then B2 (x0, x1, x2, List.drop (toNat (0 : Int)) (List.take (toNat x2) x4), (List.length (List.drop (toNat (0 : Int)) (List.take (toNat x2) x4)) : Int), (0 : Int), x3, x4, x5, x6, (getD x0 (toNat x2) Z2).1, (getD x0 (toNat x2) Z2).2.1, (getD x0 (toNat x2) Z2).2.2) else none else none else B4 (x6, (List.length x6 : Int), (0 : Int), x3, x4, x5, x6)
noncomputable def ll0 : Y15 → LS
 | (x0, x1, x2, x3, x4, x5, x6) => ⟨[.addr 65 0 [] 0, .cv ⟨.row K1, x0⟩, .cv ⟨.int .i64, x1⟩, .cv ⟨.int .i64, x2⟩], [⟨false, [⟨0, 0, .mk 0 ⟨.str, x3⟩⟩, ⟨0, 0, .mk 0 ⟨.row K1, x4⟩⟩, ⟨0, 0, .mk 0 ⟨.row K2, x5⟩⟩, ⟨0, 0, .mk 0 ⟨.row K3, x6⟩⟩]⟩]⟩
noncomputable def s2 (L0 : Y15 → Option Bool) (L2 : Y16 → Option Bool) : Y16 → Option Bool
 | (x0, x1, x2, x3, x4, x5, x6, x7, x8, x9, x10, x11, x12) => bif decide (x5 < x4) then bif decide (0 ≤ x5) && decide (x5 < (List.length x3 : Int)) then bif ByteArray.toList ((getD x3 (toNat x5) Z2).1) == ByteArray.toList x10 then some true else L2 (x0, x1, x2, x3, x4, wrap i64 (x5 + 1), x6, x7, x8, x9, x10, x11, x12) else none else L0 (x0, x1, wrap i64 (x2 + 1), x6, x7, x8, x9)
noncomputable def ll2 : Y16 → LS
 | (x0, x1, x2, x3, x4, x5, x6, x7, x8, x9, x10, x11, x12) => ⟨[.addr 65 0 [] 0, .addr 257 0 [] 0, .cv ⟨.row K1, x0⟩, .cv ⟨.int .i64, x1⟩, .cv ⟨.int .i64, x2⟩, .cv ⟨.row K1, x3⟩, .cv ⟨.int .i64, x4⟩, .cv ⟨.int .i64, x5⟩], [⟨false, [⟨0, 0, .mk 0 ⟨.str, x6⟩⟩, ⟨0, 0, .mk 0 ⟨.row K1, x7⟩⟩, ⟨0, 0, .mk 0 ⟨.row K2, x8⟩⟩, ⟨0, 0, .mk 0 ⟨.row K3, x9⟩⟩]⟩, ⟨false, [⟨0, 0, .mk 0 ⟨.str, x10⟩⟩, ⟨0, 0, .mk 0 ⟨.int .i64, x11⟩⟩, ⟨0, 0, .mk 0 ⟨.bool, x12⟩⟩]⟩]⟩
noncomputable def s4 (B6 : Y17 → Option Bool) (L4 : Y14 → Option Bool) : Y14 → Option Bool
 | (x0, x1, x2, x3, x4, x5, x6) => bif decide (x2 < x1) then bif decide (0 ≤ x2) && decide (x2 < (List.length x0 : Int)) then bif decide (0 ≤ 0) && decide ((0 : Int) ≤ x2) && decide (x2 ≤ (List.length x6 : Int)) then B6 (x0, x1, x2, List.drop (toNat (0 : Int)) (List.take (toNat x2) x6), (List.length (List.drop (toNat (0 : Int)) (List.take (toNat x2) x6)) : Int), (0 : Int), x3, x4, x5, x6, (getD x0 (toNat x2) Z1).1, (getD x0 (toNat x2) Z1).2.1, (getD x0 (toNat x2) Z1).2.2) else none else none else some false
noncomputable def ll4 : Y14 → LS
 | (x0, x1, x2, x3, x4, x5, x6) => ⟨[.addr 65 0 [] 0, .cv ⟨.row K3, x0⟩, .cv ⟨.int .i64, x1⟩, .cv ⟨.int .i64, x2⟩], [⟨false, [⟨0, 0, .mk 0 ⟨.str, x3⟩⟩, ⟨0, 0, .mk 0 ⟨.row K1, x4⟩⟩, ⟨0, 0, .mk 0 ⟨.row K2, x5⟩⟩, ⟨0, 0, .mk 0 ⟨.row K3, x6⟩⟩]⟩]⟩
noncomputable def s6 (L4 : Y14 → Option Bool) (L6 : Y17 → Option Bool) : Y17 → Option Bool
 | (x0, x1, x2, x3, x4, x5, x6, x7, x8, x9, x10, x11, x12) => bif decide (x5 < x4) then bif decide (0 ≤ x5) && decide (x5 < (List.length x3 : Int)) then bif ByteArray.toList ((getD x3 (toNat x5) Z1).1) == ByteArray.toList x10 then some true else L6 (x0, x1, x2, x3, x4, wrap i64 (x5 + 1), x6, x7, x8, x9, x10, x11, x12) else none else L4 (x0, x1, wrap i64 (x2 + 1), x6, x7, x8, x9)
noncomputable def ll6 : Y17 → LS
 | (x0, x1, x2, x3, x4, x5, x6, x7, x8, x9, x10, x11, x12) => ⟨[.addr 65 0 [] 0, .addr 513 0 [] 0, .cv ⟨.row K3, x0⟩, .cv ⟨.int .i64, x1⟩, .cv ⟨.int .i64, x2⟩, .cv ⟨.row K3, x3⟩, .cv ⟨.int .i64, x4⟩, .cv ⟨.int .i64, x5⟩], [⟨false, [⟨0, 0, .mk 0 ⟨.str, x6⟩⟩, ⟨0, 0, .mk 0 ⟨.row K1, x7⟩⟩, ⟨0, 0, .mk 0 ⟨.row K2, x8⟩⟩, ⟨0, 0, .mk 0 ⟨.row K3, x9⟩⟩]⟩, ⟨false, [⟨0, 0, .mk 0 ⟨.str, x10⟩⟩, ⟨0, 0, .mk 0 ⟨.bool, x11⟩⟩, ⟨0, 0, .mk 0 ⟨.row K2, x12⟩⟩]⟩]⟩
noncomputable def m (B0 : Y15 → Option Bool) : Y1 → Option Bool
 | (a0_0, a0_1, a0_2, a0_3) => B0 (a0_1, (List.length a0_1 : Int), (0 : Int), a0_0, a0_1, a0_2, a0_3)
noncomputable def sig : Sig := ⟨[.val true [⟨.str, 0, 0, false⟩, ⟨.row K1, 0, 0, false⟩, ⟨.row K2, 0, 0, false⟩, ⟨.row K3, 0, 0, false⟩]], [(.one, [(.bool, 0)])]⟩
noncomputable def hint : Nat → Hint
 | 0 => ⟨[(1, .keep), (12, .keep), (13, .keep), (14, .keep)], [(65, [0, 0, 0, 0])]⟩
 | 2 => ⟨[(1, .keep), (4, .keep), (12, .keep), (13, .keep), (14, .keep), (22, .keep), (23, .keep), (24, .keep)], [(65, [0, 0, 0, 0]), (257, [0, 0, 0])]⟩
 | 4 => ⟨[(1, .keep), (36, .keep), (37, .keep), (38, .keep)], [(65, [0, 0, 0, 0])]⟩
 | 6 => ⟨[(1, .keep), (8, .keep), (36, .keep), (37, .keep), (38, .keep), (46, .keep), (47, .keep), (48, .keep)], [(65, [0, 0, 0, 0]), (513, [0, 0, 0])]⟩
 | _ => ⟨[], []⟩
noncomputable def join (_ : Nat) : Option Hint := none
noncomputable def body : Code := (Tryd.f56).body.getD .skip
noncomputable def rv : List ResultVar := (Tryd.f56).results.toList
noncomputable def fn : Fn := ⟨59, sig, rv, body, hint, join⟩
end impl_twice
namespace impl_partsOk
noncomputable def s0 (c55 : (Int × Int × Int) → Option Bool) (B2 : Y18 → Option Bool) (L0 : Y19 → Option Bool) : Y19 → Option Bool
 | (x0, x1, x2, x3, x4, x5, x6, x7) => bif decide (x3 < x2) then bif decide (0 ≤ x3) && decide (x3 < (List.length x1 : Int)) then Option.bind (c55 ((getD x1 (toNat x3) Z4).1, (0 : Int), wrap i64 ((List.length x5 : Int) - 1))) fun r1 => bif !(r1) then some false else bif decide (0 ≤ 0) && decide ((0 : Int) ≤ x3) && decide (x3 ≤ (List.length x0 : Int)) then B2 (x0, x1, x2, x3, List.drop (toNat (0 : Int)) (List.take (toNat x3) x0), (List.length (List.drop (toNat (0 : Int)) (List.take (toNat x3) x0)) : Int), (0 : Int), x4, x5, x6, x7, (getD x1 (toNat x3) Z4).1, (getD x1 (toNat x3) Z4).2) else none else none else Option.bind (c55 ((List.length x0 : Int), (1 : Int), (2 : Int))) fun r2 => some r2
noncomputable def ll0 : Y19 → LS
 | (x0, x1, x2, x3, x4, x5, x6, x7) => ⟨[.cv ⟨.row K2, x0⟩, .addr 129 0 [] 0, .cv ⟨.row K2, x1⟩, .cv ⟨.int .i64, x2⟩, .cv ⟨.int .i64, x3⟩], [⟨false, [⟨0, 0, .mk 0 ⟨.str, x4⟩⟩, ⟨0, 0, .mk 0 ⟨.row K1, x5⟩⟩, ⟨0, 0, .mk 0 ⟨.row K2, x6⟩⟩, ⟨0, 0, .mk 0 ⟨.row K3, x7⟩⟩]⟩]⟩
noncomputable def s2 (L0 : Y19 → Option Bool) (L2 : Y18 → Option Bool) : Y18 → Option Bool
 | (x0, x1, x2, x3, x4, x5, x6, x7, x8, x9, x10, x11, x12) => bif decide (x6 < x5) then bif decide (0 ≤ x6) && decide (x6 < (List.length x4 : Int)) then bif ((getD x4 (toNat x6) Z4).1) == x11 then some false else L2 (x0, x1, x2, x3, x4, x5, wrap i64 (x6 + 1), x7, x8, x9, x10, x11, x12) else none else L0 (x0, x1, x2, wrap i64 (x3 + 1), x7, x8, x9, x10)
noncomputable def ll2 : Y18 → LS
 | (x0, x1, x2, x3, x4, x5, x6, x7, x8, x9, x10, x11, x12) => ⟨[.cv ⟨.row K2, x0⟩, .addr 129 0 [] 0, .addr 385 0 [] 0, .cv ⟨.row K2, x1⟩, .cv ⟨.int .i64, x2⟩, .cv ⟨.int .i64, x3⟩, .cv ⟨.row K2, x4⟩, .cv ⟨.int .i64, x5⟩, .cv ⟨.int .i64, x6⟩], [⟨false, [⟨0, 0, .mk 0 ⟨.str, x7⟩⟩, ⟨0, 0, .mk 0 ⟨.row K1, x8⟩⟩, ⟨0, 0, .mk 0 ⟨.row K2, x9⟩⟩, ⟨0, 0, .mk 0 ⟨.row K3, x10⟩⟩]⟩, ⟨false, [⟨0, 0, .mk 0 ⟨.int .i64, x11⟩⟩, ⟨0, 0, .mk 0 ⟨.bool, x12⟩⟩]⟩]⟩
noncomputable def m (B0 : Y19 → Option Bool) : Y8 → Option Bool
 | (a0_0, a0_1, a0_2, a0_3, a1_0) => B0 (a1_0, a1_0, (List.length a1_0 : Int), (0 : Int), a0_0, a0_1, a0_2, a0_3)
noncomputable def sig : Sig := ⟨[.val true [⟨.str, 0, 0, false⟩, ⟨.row K1, 0, 0, false⟩, ⟨.row K2, 0, 0, false⟩, ⟨.row K3, 0, 0, false⟩], .val false [⟨.row K2, 0, 0, false⟩]], [(.one, [(.bool, 0)])]⟩
noncomputable def hint : Nat → Hint
 | 0 => ⟨[(1, .keep), (2, .keep), (9, .keep), (10, .keep), (11, .keep)], [(129, [0, 0, 0, 0])]⟩
 | 2 => ⟨[(1, .keep), (2, .keep), (6, .keep), (9, .keep), (10, .keep), (11, .keep), (26, .keep), (27, .keep), (28, .keep)], [(129, [0, 0, 0, 0]), (385, [0, 0])]⟩
 | _ => ⟨[], []⟩
noncomputable def join (_ : Nat) : Option Hint := none
noncomputable def body : Code := (Tryd.f57).body.getD .skip
noncomputable def rv : List ResultVar := (Tryd.f57).results.toList
noncomputable def fn : Fn := ⟨42, sig, rv, body, hint, join⟩
end impl_partsOk
namespace impl_CheckDef
noncomputable def s0 (c55 : (Int × Int × Int) → Option Bool) (c56 : Y1 → Option Bool) (B2 : Y14 → Option Int) (L0 : Y15 → Option Int) : Y15 → Option Int
 | (x0, x1, x2, x3, x4, x5, x6) => bif decide (x2 < x1) then bif decide (0 ≤ x2) && decide (x2 < (List.length x0 : Int)) then Option.bind (c55 ((getD x0 (toNat x2) Z2).2.1, (1 : Int), (4 : Int))) fun r3 => bif !(r3) then some (2 : Int) else L0 (x0, x1, wrap i64 (x2 + 1), x3, x4, x5, x6) else none else Option.bind (c56 (x3, x4, x5, x6)) fun r4 => bif r4 then some (3 : Int) else bif decide ((List.length x6 : Int) > 2) then some (6 : Int) else B2 (x6, (List.length x6 : Int), (0 : Int), x3, x4, x5, x6)
noncomputable def ll0 : Y15 → LS
 | (x0, x1, x2, x3, x4, x5, x6) => ⟨[.addr 65 0 [] 0, .cv ⟨.row K1, x0⟩, .cv ⟨.int .i64, x1⟩, .cv ⟨.int .i64, x2⟩], [⟨false, [⟨0, 0, .mk 0 ⟨.str, x3⟩⟩, ⟨0, 0, .mk 0 ⟨.row K1, x4⟩⟩, ⟨0, 0, .mk 0 ⟨.row K2, x5⟩⟩, ⟨0, 0, .mk 0 ⟨.row K3, x6⟩⟩]⟩]⟩
noncomputable def s2 (c57 : Y8 → Option Bool) (B4 : Y20 → Option Int) (L2 : Y14 → Option Int) : Y14 → Option Int
 | (x0, x1, x2, x3, x4, x5, x6) => bif decide (x2 < x1) then bif decide (0 ≤ x2) && decide (x2 < (List.length x0 : Int)) then Option.bind (c57 (x3, x4, x5, x6, (getD x0 (toNat x2) Z1).2.2)) fun r5 => bif !(r5) then some (5 : Int) else L2 (x0, x1, wrap i64 (x2 + 1), x3, x4, x5, x6) else none else Option.bind (c57 (x3, x4, x5, x6, x5)) fun r6 => bif !(r6) then some (5 : Int) else B4 (x5, (List.length x5 : Int), (0 : Int), x3, x4, x5, x6)
noncomputable def ll2 : Y14 → LS
 | (x0, x1, x2, x3, x4, x5, x6) => ⟨[.addr 65 0 [] 0, .cv ⟨.row K3, x0⟩, .cv ⟨.int .i64, x1⟩, .cv ⟨.int .i64, x2⟩], [⟨false, [⟨0, 0, .mk 0 ⟨.str, x3⟩⟩, ⟨0, 0, .mk 0 ⟨.row K1, x4⟩⟩, ⟨0, 0, .mk 0 ⟨.row K2, x5⟩⟩, ⟨0, 0, .mk 0 ⟨.row K3, x6⟩⟩]⟩]⟩
noncomputable def s4 (L4 : Y20 → Option Int) : Y20 → Option Int
 | (x0, x1, x2, x3, x4, x5, x6) => bif decide (x2 < x1) then bif decide (0 ≤ x2) && decide (x2 < (List.length x0 : Int)) then bif decide (0 ≤ ((getD x0 (toNat x2) Z4).1)) && decide (((getD x0 (toNat x2) Z4).1) < (List.length x4 : Int)) then bif (getD x4 (toNat ((getD x0 (toNat x2) Z4).1)) Z2).2.2 then some (4 : Int) else L4 (x0, x1, wrap i64 (x2 + 1), x3, x4, x5, x6) else none else none else some (0 : Int)
noncomputable def ll4 : Y20 → LS
 | (x0, x1, x2, x3, x4, x5, x6) => ⟨[.addr 65 0 [] 0, .cv ⟨.row K2, x0⟩, .cv ⟨.int .i64, x1⟩, .cv ⟨.int .i64, x2⟩], [⟨false, [⟨0, 0, .mk 0 ⟨.str, x3⟩⟩, ⟨0, 0, .mk 0 ⟨.row K1, x4⟩⟩, ⟨0, 0, .mk 0 ⟨.row K2, x5⟩⟩, ⟨0, 0, .mk 0 ⟨.row K3, x6⟩⟩]⟩]⟩
noncomputable def m (c54 : Y1 → Option Bool) (c55 : (Int × Int × Int) → Option Bool) (B0 : Y15 → Option Int) : Y1 → Option Int
 | (a0_0, a0_1, a0_2, a0_3) => Option.bind (c54 (a0_0, a0_1, a0_2, a0_3)) fun r1 => bif !(r1) then some (1 : Int) else Option.bind (c55 ((List.length a0_1 : Int), (1 : Int), (6 : Int))) fun r2 => bif !(r2) then some (2 : Int) else B0 (a0_1, (List.length a0_1 : Int), (0 : Int), a0_0, a0_1, a0_2, a0_3)
noncomputable def sig : Sig := ⟨[.val true [⟨.str, 0, 0, false⟩, ⟨.row K1, 0, 0, false⟩, ⟨.row K2, 0, 0, false⟩, ⟨.row K3, 0, 0, false⟩]], [(.one, [(.int .i64, 0)])]⟩
noncomputable def hint : Nat → Hint
 | 0 => ⟨[(1, .keep), (18, .keep), (19, .keep), (20, .keep)], [(65, [0, 0, 0, 0])]⟩
 | 2 => ⟨[(1, .keep), (36, .keep), (37, .keep), (38, .keep)], [(65, [0, 0, 0, 0])]⟩
 | 4 => ⟨[(1, .keep), (54, .keep), (55, .keep), (56, .keep)], [(65, [0, 0, 0, 0])]⟩
 | _ => ⟨[], []⟩
noncomputable def join (_ : Nat) : Option Hint := none
noncomputable def body : Code := (Tryd.f21).body.getD .skip
noncomputable def rv : List ResultVar := (Tryd.f21).results.toList
noncomputable def fn : Fn := ⟨68, sig, rv, body, hint, join⟩
end impl_CheckDef
namespace impl_FirstBad
noncomputable def s0 (c21 : Y1 → Option Int) (B2 : Y21 → Option Int) (L0 : Y22 → Option Int) : Y22 → Option Int
 | (x0, x1, x2, x3) => bif decide (x3 < x2) then bif decide (0 ≤ x3) && decide (x3 < (List.length x1 : Int)) then bif decide (x3 ≥ 3) then some x3 else Option.bind (c21 ((getD x1 (toNat x3) Z0).1, (getD x1 (toNat x3) Z0).2.1, (getD x1 (toNat x3) Z0).2.2.1, (getD x1 (toNat x3) Z0).2.2.2)) fun r1 => bif r1 != 0 then some x3 else bif decide (0 ≤ 0) && decide ((0 : Int) ≤ x3) && decide (x3 ≤ (List.length x0 : Int)) then B2 (x0, x3, x1, x2, x3, (getD x1 (toNat x3) Z0).1, (getD x1 (toNat x3) Z0).2.1, (getD x1 (toNat x3) Z0).2.2.1, (getD x1 (toNat x3) Z0).2.2.2, r1, r1 != 0, List.drop (toNat (0 : Int)) (List.take (toNat x3) x0), (List.length (List.drop (toNat (0 : Int)) (List.take (toNat x3) x0)) : Int), (0 : Int), (getD x1 (toNat x3) Z0).1, (getD x1 (toNat x3) Z0).2.1, (getD x1 (toNat x3) Z0).2.2.1, (getD x1 (toNat x3) Z0).2.2.2) else none else none else some (-1 : Int)
noncomputable def ll0 : Y22 → LS
 | (x0, x1, x2, x3) => ⟨[.cv ⟨.row K4, x0⟩, .cv ⟨.row K4, x1⟩, .cv ⟨.int .i64, x2⟩, .cv ⟨.int .i64, x3⟩], []⟩
noncomputable def s2 (L0 : Y22 → Option Int) (L2 : Y21 → Option Int) : Y21 → Option Int
 | (x0, x1, x2, x3, x4, x5, x6, x7, x8, x9, x10, x11, x12, x13, x14, x15, x16, x17) => bif decide (x13 < x12) then bif decide (0 ≤ x13) && decide (x13 < (List.length x11 : Int)) then bif ByteArray.toList ((getD x11 (toNat x13) Z0).1) == ByteArray.toList x14 then some x1 else L2 (x0, x1, x2, x3, x4, x5, x6, x7, x8, x9, x10, x11, x12, wrap i64 (x13 + 1), x14, x15, x16, x17) else none else L0 (x0, x2, x3, wrap i64 (x4 + 1))
noncomputable def ll2 : Y21 → LS
 | (x0, x1, x2, x3, x4, x5, x6, x7, x8, x9, x10, x11, x12, x13, x14, x15, x16, x17) => ⟨[.cv ⟨.row K4, x0⟩, .cv ⟨.int .i64, x1⟩, .addr 257 0 [] 0, .cv ⟨.row K4, x2⟩, .cv ⟨.int .i64, x3⟩, .cv ⟨.int .i64, x4⟩, .agg [.cv ⟨.str, x5⟩, .cv ⟨.row K1, x6⟩, .cv ⟨.row K2, x7⟩, .cv ⟨.row K3, x8⟩], .cv ⟨.int .i64, x9⟩, .cv ⟨.bool, x10⟩, .cv ⟨.row K4, x11⟩, .cv ⟨.int .i64, x12⟩, .cv ⟨.int .i64, x13⟩], [⟨false, [⟨0, 0, .mk 0 ⟨.str, x14⟩⟩, ⟨0, 0, .mk 0 ⟨.row K1, x15⟩⟩, ⟨0, 0, .mk 0 ⟨.row K2, x16⟩⟩, ⟨0, 0, .mk 0 ⟨.row K3, x17⟩⟩]⟩]⟩
noncomputable def m (B0 : Y22 → Option Int) : Y10 → Option Int
 | a0_0 => B0 (a0_0, a0_0, (List.length a0_0 : Int), (0 : Int))
noncomputable def sig : Sig := ⟨[.val false [⟨.row K4, 0, 0, false⟩]], [(.one, [(.int .i64, 0)])]⟩
noncomputable def hint : Nat → Hint
 | 0 => ⟨[(0, .keep), (7, .keep), (8, .keep), (9, .keep)], []⟩
 | 2 => ⟨[(0, .keep), (3, .keep), (4, .keep), (7, .keep), (8, .keep), (9, .keep), (17, .keep), (18, .keep), (19, .keep), (24, .keep), (25, .keep), (26, .keep)], [(257, [0, 0, 0, 0])]⟩
 | _ => ⟨[], []⟩
noncomputable def join (_ : Nat) : Option Hint := none
noncomputable def body : Code := (Tryd.f17).body.getD .skip
noncomputable def rv : List ResultVar := (Tryd.f17).results.toList
noncomputable def fn : Fn := ⟨38, sig, rv, body, hint, join⟩
end impl_FirstBad
namespace laws_big
noncomputable def m  : ((List Int)) → Option Bool
 | a0_0 => some (decide ((List.length a0_0 : Int) > 1048576))
noncomputable def sig : Sig := ⟨[.val false [⟨.row K5, 0, 0, false⟩]], [(.one, [(.bool, 0)])]⟩
noncomputable def hint (_ : Nat) : Hint := ⟨[], []⟩
noncomputable def join (_ : Nat) : Option Hint := none
noncomputable def body : Code := (Tryd.f19).body.getD .skip
noncomputable def rv : List ResultVar := (Tryd.f19).results.toList
noncomputable def fn : Fn := ⟨6, sig, rv, body, hint, join⟩
end laws_big
namespace spec_l1New
noncomputable def s0 (L0 : ((List Int) × Int × Int) → Option ((List Int) × Int × Int)) : ((List Int) × Int × Int) → Option ((List Int) × Int × Int)
 | (x0, x1, x2) => bif decide (x2 < (List.length x0 : Int)) then bif decide (x2 < 4000) then bif decide (0 ≤ x2) && decide (x2 < (List.length x0 : Int)) then L0 (x0, wrap i64 ((BitVec.ofInt (IntKind.bits IntKind.i64) (wrap i64 ((wrap i64 ((wrap i64 (x1 * 137)) + (wrap i64 (getD x0 (toNat x2) (0 : Int))))) + 11)) &&& BitVec.ofInt (IntKind.bits IntKind.i64) (1073741823 : Int)).toNat : Int), wrap i64 (x2 + 1)) else none else some (x0, (0 : Int), x1) else some (x0, (0 : Int), x1)
noncomputable def ll0 : ((List Int) × Int × Int) → LS
 | (x0, x1, x2) => ⟨[.cv ⟨.row K5, x0⟩, .cv ⟨.int .i64, x1⟩, .cv ⟨.int .i64, x2⟩], []⟩
noncomputable def m (B0 : ((List Int) × Int × Int) → Option ((List Int) × Int × Int)) : ((List Int)) → Option ((List Int) × Int × Int)
 | a0_0 => B0 (a0_0, wrap i64 ((758758 : Int) + (List.length a0_0 : Int)), (0 : Int))
noncomputable def sig : Sig := ⟨[.val false [⟨.row K5, 0, 0, false⟩]], [(.ptr, [(.row K5, 0), (.int .i64, 0), (.int .i64, 0)])]⟩
noncomputable def hint : Nat → Hint
 | 0 => ⟨[(0, .keep), (3, .keep), (4, .keep)], []⟩
 | _ => ⟨[], []⟩
noncomputable def join (_ : Nat) : Option Hint := none
noncomputable def body : Code := (Tryd.f52).body.getD .skip
noncomputable def rv : List ResultVar := (Tryd.f52).results.toList
noncomputable def fn : Fn := ⟨32, sig, rv, body, hint, join⟩
end spec_l1New
namespace spec_l1Byte
noncomputable def m  : ((List Int) × Int × Int) → Option (Int × Int × Int)
 | (a0_0, a0_1, a0_2) => bif decide (¬ (33 : Int) < 0) then bif decide (¬ (47 : Int) < 0) then bif decide (a0_1 < (List.length a0_0 : Int)) then bif decide (0 ≤ a0_1) && decide (a0_1 < (List.length a0_0 : Int)) then some (wrap i64 ((BitVec.ofInt (IntKind.bits IntKind.i64) (wrap i64 ((wrap i64 ((BitVec.ofInt (IntKind.bits IntKind.i64) (wrap i64 ((BitVec.ofInt (IntKind.bits IntKind.i64) (Int.fdiv (wrap i64 ((wrap i64 (a0_2 * 6364136223846793005)) + 1442695040888963407)) (2 ^ (min (toNat (33 : Int)) (IntKind.bits IntKind.i64)))) ^^^ BitVec.ofInt (IntKind.bits IntKind.i64) (Int.fdiv (wrap i64 ((wrap i64 (a0_2 * 6364136223846793005)) + 1442695040888963407)) (2 ^ (min (toNat (47 : Int)) (IntKind.bits IntKind.i64))))).toNat : Int)) &&& BitVec.ofInt (IntKind.bits IntKind.i64) (255 : Int)).toNat : Int)) + (wrap i64 (getD a0_0 (toNat a0_1) (0 : Int))))) &&& BitVec.ofInt (IntKind.bits IntKind.i64) (255 : Int)).toNat : Int), wrap i64 (a0_1 + 1), wrap i64 ((wrap i64 (a0_2 * 6364136223846793005)) + 1442695040888963407)) else none else some (wrap i64 ((BitVec.ofInt (IntKind.bits IntKind.i64) (wrap i64 ((BitVec.ofInt (IntKind.bits IntKind.i64) (Int.fdiv (wrap i64 ((wrap i64 (a0_2 * 6364136223846793005)) + 1442695040888963407)) (2 ^ (min (toNat (33 : Int)) (IntKind.bits IntKind.i64)))) ^^^ BitVec.ofInt (IntKind.bits IntKind.i64) (Int.fdiv (wrap i64 ((wrap i64 (a0_2 * 6364136223846793005)) + 1442695040888963407)) (2 ^ (min (toNat (47 : Int)) (IntKind.bits IntKind.i64))))).toNat : Int)) &&& BitVec.ofInt (IntKind.bits IntKind.i64) (255 : Int)).toNat : Int), a0_1, wrap i64 ((wrap i64 (a0_2 * 6364136223846793005)) + 1442695040888963407)) else none else none
noncomputable def sig : Sig := ⟨[.ptr [⟨.row K5, 0, 1, false⟩, ⟨.int .i64, 0, 0, true⟩, ⟨.int .i64, 0, 0, true⟩]], [(.one, [(.int .i64, 0)])]⟩
noncomputable def hint (_ : Nat) : Hint := ⟨[], []⟩
noncomputable def join (_ : Nat) : Option Hint := none
noncomputable def body : Code := (Tryd.f134).body.getD .skip
noncomputable def rv : List ResultVar := (Tryd.f134).results.toList
noncomputable def fn : Fn := ⟨58, sig, rv, body, hint, join⟩
end spec_l1Byte
namespace spec_l1Below
noncomputable def m (c134 : ((List Int) × Int × Int) → Option (Int × Int × Int)) : Y23 → Option (Int × Int × Int)
 | (a0_0, a0_1, a0_2, a1_0) => bif decide (a1_0 ≤ 0) then some ((0 : Int), a0_1, a0_2) else bif decide (a1_0 ≤ 256) then Option.bind (c134 (a0_0, a0_1, a0_2)) fun r1 => bif decide (¬ a1_0 = 0) then some (Int.tmod r1.1 a1_0, r1.2.1, r1.2.2) else none else Option.bind (c134 (a0_0, a0_1, a0_2)) fun r2 => Option.bind (c134 (a0_0, r2.2.1, r2.2.2)) fun r3 => Option.bind (c134 (a0_0, r3.2.1, r3.2.2)) fun r4 => bif decide (¬ a1_0 = 0) then some (Int.tmod (wrap i64 ((wrap i64 ((wrap i64 (r2.1 * 65536)) + (wrap i64 (r3.1 * 256)))) + r4.1)) a1_0, r4.2.1, r4.2.2) else none
noncomputable def sig : Sig := ⟨[.ptr [⟨.row K5, 0, 1, false⟩, ⟨.int .i64, 0, 0, true⟩, ⟨.int .i64, 0, 0, true⟩], .val false [⟨.int .i64, 0, 0, false⟩]], [(.one, [(.int .i64, 0)])]⟩
noncomputable def hint (_ : Nat) : Hint := ⟨[], []⟩
noncomputable def join (_ : Nat) : Option Hint := none
noncomputable def body : Code := (Tryd.f91).body.getD .skip
noncomputable def rv : List ResultVar := (Tryd.f91).results.toList
noncomputable def fn : Fn := ⟨31, sig, rv, body, hint, join⟩
end spec_l1Below
namespace spec_l1Str
noncomputable def m (c91 : Y23 → Option (Int × Int × Int)) : Y24 → Option (ByteArray × Int × Int)
 | (a0_0, a0_1, a0_2, a1_0) => Option.bind (c91 (a0_0, a0_1, a0_2, (List.length a1_0 : Int))) fun r1 => bif decide (0 ≤ r1.1) && decide (r1.1 < (List.length a1_0 : Int)) then some ((getD a1_0 (toNat r1.1) ByteArray.empty), r1.2.1, r1.2.2) else none
noncomputable def sig : Sig := ⟨[.ptr [⟨.row K5, 0, 1, false⟩, ⟨.int .i64, 0, 0, true⟩, ⟨.int .i64, 0, 0, true⟩], .val false [⟨.row K0, 0, 0, false⟩]], [(.one, [(.str, 0)])]⟩
noncomputable def hint (_ : Nat) : Hint := ⟨[], []⟩
noncomputable def join (_ : Nat) : Option Hint := none
noncomputable def body : Code := (Tryd.f92).body.getD .skip
noncomputable def rv : List ResultVar := (Tryd.f92).results.toList
noncomputable def fn : Fn := ⟨12, sig, rv, body, hint, join⟩
end spec_l1Str
namespace spec_l1Once
noncomputable def m (c91 : Y23 → Option (Int × Int × Int)) : Y23 → Option (Bool × Int × Int)
 | (a0_0, a0_1, a0_2, a1_0) => Option.bind (c91 (a0_0, a0_1, a0_2, a1_0)) fun r1 => some (r1.1 == 0, r1.2.1, r1.2.2)
noncomputable def sig : Sig := ⟨[.ptr [⟨.row K5, 0, 1, false⟩, ⟨.int .i64, 0, 0, true⟩, ⟨.int .i64, 0, 0, true⟩], .val false [⟨.int .i64, 0, 0, false⟩]], [(.one, [(.bool, 0)])]⟩
noncomputable def hint (_ : Nat) : Hint := ⟨[], []⟩
noncomputable def join (_ : Nat) : Option Hint := none
noncomputable def body : Code := (Tryd.f58).body.getD .skip
noncomputable def rv : List ResultVar := (Tryd.f58).results.toList
noncomputable def fn : Fn := ⟨9, sig, rv, body, hint, join⟩
end spec_l1Once
namespace spec_l1Int
noncomputable def m (c91 : Y23 → Option (Int × Int × Int)) : Y25 → Option (Int × Int × Int)
 | (a0_0, a0_1, a0_2, a1_0) => Option.bind (c91 (a0_0, a0_1, a0_2, (List.length a1_0 : Int))) fun r1 => bif decide (0 ≤ r1.1) && decide (r1.1 < (List.length a1_0 : Int)) then some ((getD a1_0 (toNat r1.1) (0 : Int)), r1.2.1, r1.2.2) else none
noncomputable def sig : Sig := ⟨[.ptr [⟨.row K5, 0, 1, false⟩, ⟨.int .i64, 0, 0, true⟩, ⟨.int .i64, 0, 0, true⟩], .val false [⟨.row K6, 0, 0, false⟩]], [(.one, [(.int .i64, 0)])]⟩
noncomputable def hint (_ : Nat) : Hint := ⟨[], []⟩
noncomputable def join (_ : Nat) : Option Hint := none
noncomputable def body : Code := (Tryd.f96).body.getD .skip
noncomputable def rv : List ResultVar := (Tryd.f96).results.toList
noncomputable def fn : Fn := ⟨12, sig, rv, body, hint, join⟩
end spec_l1Int
namespace spec_l9Draw2
noncomputable def m (c58 : Y23 → Option (Bool × Int × Int)) (c91 : Y23 → Option (Int × Int × Int)) : Y23 → Option Y26
 | (a0_0, a0_1, a0_2, a1_0) => Option.bind (c91 (a0_0, a0_1, a0_2, a1_0)) fun r1 => Option.bind (c58 (a0_0, r1.2.1, r1.2.2, (2 : Int))) fun r2 => bif decide (a1_0 > 1) then Option.bind (c58 (a0_0, r2.2.1, r2.2.2, (3 : Int))) fun r3 => bif r3.1 then bif decide (¬ a1_0 = 0) then Option.bind (c58 (a0_0, r3.2.1, r3.2.2, (2 : Int))) fun r4 => bif decide ((List.length ([(r1.1, r2.1)] : List (Int × Bool)) + List.length ([(Int.tmod (wrap i64 (r1.1 + 1)) a1_0, r4.1)] : List (Int × Bool))) * 16 ≤ 140737488355328) then some (([(r1.1, r2.1)] : List (Int × Bool)) ++ ([(Int.tmod (wrap i64 (r1.1 + 1)) a1_0, r4.1)] : List (Int × Bool)), r4.2.1, r4.2.2) else none else none else some (([(r1.1, r2.1)] : List (Int × Bool)), r3.2.1, r3.2.2) else some (([(r1.1, r2.1)] : List (Int × Bool)), r2.2.1, r2.2.2)
noncomputable def sig : Sig := ⟨[.ptr [⟨.row K5, 0, 1, false⟩, ⟨.int .i64, 0, 0, true⟩, ⟨.int .i64, 0, 0, true⟩], .val false [⟨.int .i64, 0, 0, false⟩]], [(.one, [(.row K2, 1)])]⟩
noncomputable def hint (_ : Nat) : Hint := ⟨[], []⟩
noncomputable def join (_ : Nat) : Option Hint := none
noncomputable def body : Code := (Tryd.f104).body.getD .skip
noncomputable def rv : List ResultVar := (Tryd.f104).results.toList
noncomputable def fn : Fn := ⟨32, sig, rv, body, hint, join⟩
end spec_l9Draw2
namespace spec_l9Draw
noncomputable def s0 (c58 : Y23 → Option (Bool × Int × Int)) (c91 : Y23 → Option (Int × Int × Int)) (B2 L0 : Y29 → Option Y28) : Y29 → Option Y28
 | (x0, x1, x2, x3, x4, x5, x6, x7, x8, x9, x10, x11, x12) => Option.bind (c91 (x1, x2, x3, (3 : Int))) fun r2 => bif decide (x0 < (wrap i64 ((1 : Int) + r2.1))) then bif decide (x0 < 3) then bif decide (0 ≤ x0) && decide (x0 < (List.length x12 : Int)) then Option.bind (c91 (x1, r2.2.1, r2.2.2, (4 : Int))) fun r3 => Option.bind (c58 (x1, r3.2.1, r3.2.2, (2 : Int))) fun r4 => bif decide ((List.length x9 + List.length ([((getD x12 (toNat x0) ByteArray.empty), wrap i64 ((1 : Int) + r3.1), r4.1)] : List (ByteArray × Int × Bool))) * 32 ≤ 140737488355328) then L0 (wrap i64 (x0 + 1), x1, r4.2.1, r4.2.2, x4, x5, x6, x7, x8, x9 ++ ([((getD x12 (toNat x0) ByteArray.empty), wrap i64 ((1 : Int) + r3.1), r4.1)] : List (ByteArray × Int × Bool)), x10, x11, x12) else none else none else Option.bind (c58 (x1, r2.2.1, r2.2.2, (3 : Int))) fun r5 => bif decide (0 ≤ 1) && decide ((1 : Int) < (List.length x9 : Int)) then bif !((getD x9 (toNat (1 : Int)) Z2).2.2) then Option.bind (c58 (x1, r5.2.1, r5.2.2, (2 : Int))) fun r6 => bif r6.1 then Option.bind (c58 (x1, r6.2.1, r6.2.2, (2 : Int))) fun r7 => bif decide ((List.length ([((0 : Int), r5.1)] : List (Int × Bool)) + List.length ([((1 : Int), r7.1)] : List (Int × Bool))) * 16 ≤ 140737488355328) then Option.bind (c91 (x1, r7.2.1, r7.2.2, (3 : Int))) fun r8 => B2 (r8.1, x1, r8.2.1, r8.2.2, x4, x5, x6, x7, x8, x9, ([((0 : Int), r5.1)] : List (Int × Bool)) ++ ([((1 : Int), r7.1)] : List (Int × Bool)), x11, x12) else none else Option.bind (c91 (x1, r6.2.1, r6.2.2, (3 : Int))) fun r12 => B2 (r12.1, x1, r12.2.1, r12.2.2, x4, x5, x6, x7, x8, x9, ([((0 : Int), r5.1)] : List (Int × Bool)), x11, x12) else Option.bind (c91 (x1, r5.2.1, r5.2.2, (3 : Int))) fun r13 => B2 (r13.1, x1, r13.2.1, r13.2.2, x4, x5, x6, x7, x8, x9, ([((0 : Int), r5.1)] : List (Int × Bool)), x11, x12) else none else Option.bind (c58 (x1, r2.2.1, r2.2.2, (3 : Int))) fun r14 => bif decide (0 ≤ 1) && decide ((1 : Int) < (List.length x9 : Int)) then bif !((getD x9 (toNat (1 : Int)) Z2).2.2) then Option.bind (c58 (x1, r14.2.1, r14.2.2, (2 : Int))) fun r15 => bif r15.1 then Option.bind (c58 (x1, r15.2.1, r15.2.2, (2 : Int))) fun r16 => bif decide ((List.length ([((0 : Int), r14.1)] : List (Int × Bool)) + List.length ([((1 : Int), r16.1)] : List (Int × Bool))) * 16 ≤ 140737488355328) then Option.bind (c91 (x1, r16.2.1, r16.2.2, (3 : Int))) fun r17 => B2 (r17.1, x1, r17.2.1, r17.2.2, x4, x5, x6, x7, x8, x9, ([((0 : Int), r14.1)] : List (Int × Bool)) ++ ([((1 : Int), r16.1)] : List (Int × Bool)), x11, x12) else none else Option.bind (c91 (x1, r15.2.1, r15.2.2, (3 : Int))) fun r18 => B2 (r18.1, x1, r18.2.1, r18.2.2, x4, x5, x6, x7, x8, x9, ([((0 : Int), r14.1)] : List (Int × Bool)), x11, x12) else Option.bind (c91 (x1, r14.2.1, r14.2.2, (3 : Int))) fun r19 => B2 (r19.1, x1, r19.2.1, r19.2.2, x4, x5, x6, x7, x8, x9, ([((0 : Int), r14.1)] : List (Int × Bool)), x11, x12) else none
noncomputable def ll0 : Y29 → LS
 | (x0, x1, x2, x3, x4, x5, x6, x7, x8, x9, x10, x11, x12) => ⟨[.addr 2 0 [] 0, .addr 257 0 [] 0, .addr 321 0 [] 0, .ref 24 0 [] none 0, .cv ⟨.int .i64, x0⟩], [⟨false, [⟨0, 0, .lk ⟨.row K5, x1⟩⟩, ⟨0, 0, .mk 0 ⟨.int .i64, x2⟩⟩, ⟨0, 0, .mk 0 ⟨.int .i64, x3⟩⟩]⟩, ⟨false, [⟨0, 0, .mk 0 ⟨.str, x4⟩⟩, ⟨0, 0, .mk 9 ⟨.row K1, x5⟩⟩, ⟨0, 0, .mk 9 ⟨.row K2, x6⟩⟩, ⟨0, 0, .mk 9 ⟨.row K3, x7⟩⟩]⟩, ⟨false, [⟨0, 0, .mk 0 ⟨.str, x8⟩⟩, ⟨0, 0, .mk 9 ⟨.row K1, x9⟩⟩, ⟨0, 0, .mk 9 ⟨.row K2, x10⟩⟩, ⟨0, 0, .mk 9 ⟨.row K3, x11⟩⟩]⟩, ⟨true, [⟨0, 0, .mk 9 ⟨.row K0, x12⟩⟩]⟩]⟩
noncomputable def s2 (c58 : Y23 → Option (Bool × Int × Int)) (c92 : Y24 → Option (ByteArray × Int × Int)) (c104 : Y23 → Option Y26) (L2 : Y29 → Option Y28) : Y29 → Option Y28
 | (x0, x1, x2, x3, x4, x5, x6, x7, x8, x9, x10, x11, x12) => bif decide (x0 > 0) then Option.bind (c92 (x1, x2, x3, ([({ data := #[117] } : ByteArray), ({ data := #[118] } : ByteArray)] : List ByteArray))) fun r9 => bif decide (0 ≤ x0) && decide (x0 < (List.length x12 : Int)) then bif decide (¬ ((ByteArray.size r9.1 + ByteArray.size (getD x12 (toNat x0) ByteArray.empty) : Nat) : Int) > IntKind.max i64) then Option.bind (c58 (x1, r9.2.1, r9.2.2, (2 : Int))) fun r10 => Option.bind (c104 (x1, r10.2.1, r10.2.2, (List.length x9 : Int))) fun r11 => bif decide ((List.length x11 + List.length ([(ByteArray.append r9.1 (getD x12 (toNat x0) ByteArray.empty), r10.1, r11.1)] : List (ByteArray × Bool × (List (Int × Bool))))) * 48 ≤ 140737488355328) then L2 (wrap i64 (x0 - 1), x1, r11.2.1, r11.2.2, x4, x5, x6, x7, x8, x9, x10, x11 ++ ([(ByteArray.append r9.1 (getD x12 (toNat x0) ByteArray.empty), r10.1, r11.1)] : List (ByteArray × Bool × (List (Int × Bool)))), x12) else none else none else none else some (x8, x9, x10, x11, x2, x3)
noncomputable def ll2 : Y29 → LS
 | (x0, x1, x2, x3, x4, x5, x6, x7, x8, x9, x10, x11, x12) => ⟨[.addr 2 0 [] 0, .addr 257 0 [] 0, .addr 321 0 [] 0, .ref 24 0 [] none 0, .cv ⟨.int .i64, x0⟩], [⟨false, [⟨0, 0, .lk ⟨.row K5, x1⟩⟩, ⟨0, 0, .mk 0 ⟨.int .i64, x2⟩⟩, ⟨0, 0, .mk 0 ⟨.int .i64, x3⟩⟩]⟩, ⟨false, [⟨0, 0, .mk 0 ⟨.str, x4⟩⟩, ⟨0, 0, .mk 9 ⟨.row K1, x5⟩⟩, ⟨0, 0, .mk 9 ⟨.row K2, x6⟩⟩, ⟨0, 0, .mk 9 ⟨.row K3, x7⟩⟩]⟩, ⟨false, [⟨0, 0, .mk 0 ⟨.str, x8⟩⟩, ⟨0, 0, .mk 9 ⟨.row K1, x9⟩⟩, ⟨0, 0, .mk 9 ⟨.row K2, x10⟩⟩, ⟨0, 0, .mk 9 ⟨.row K3, x11⟩⟩]⟩, ⟨true, [⟨0, 0, .mk 9 ⟨.row K0, x12⟩⟩]⟩]⟩
noncomputable def m (c96 : Y25 → Option (Int × Int × Int)) (B0 : Y29 → Option Y28) : Y27 → Option Y28
 | (a0_0, a0_1, a0_2, a1_0) => Option.bind (c96 (a0_0, a0_1, a0_2, ([(1 : Int), (1 : Int), (3 : Int), (2 : Int)] : List Int))) fun r1 => B0 ((0 : Int), a0_0, r1.2.1, r1.2.2, ByteArray.empty, ([] : List (ByteArray × Int × Bool)), ([] : List (Int × Bool)), ([] : List (ByteArray × Bool × (List (Int × Bool)))), a1_0, ([(({ data := #[105, 100] } : ByteArray), r1.1, false)] : List (ByteArray × Int × Bool)), ([] : List (Int × Bool)), ([] : List (ByteArray × Bool × (List (Int × Bool)))), ([({ data := #[97] } : ByteArray), ({ data := #[98] } : ByteArray), ({ data := #[99] } : ByteArray)] : List ByteArray))
noncomputable def sig : Sig := ⟨[.ptr [⟨.row K5, 0, 1, false⟩, ⟨.int .i64, 0, 0, true⟩, ⟨.int .i64, 0, 0, true⟩], .val false [⟨.str, 0, 0, false⟩]], [(.agg, [(.str, 0), (.row K1, 1), (.row K2, 1), (.row K3, 2)])]⟩
noncomputable def hint : Nat → Hint
 | 0 => ⟨[(0, .keep), (4, .keep), (5, .keep), (6, .own 9 K0), (7, .keep)], [(2, [9, 0, 0]), (257, [0, 9, 9, 9]), (321, [0, 9, 9, 9])]⟩
 | 2 => ⟨[(0, .keep), (4, .keep), (5, .keep), (6, .own 9 K0), (8, .keep)], [(2, [9, 0, 0]), (257, [0, 9, 9, 9]), (321, [0, 9, 9, 9])]⟩
 | _ => ⟨[], []⟩
noncomputable def join (_ : Nat) : Option Hint := none
noncomputable def body : Code := (Tryd.f103).body.getD .skip
noncomputable def rv : List ResultVar := (Tryd.f103).results.toList
noncomputable def fn : Fn := ⟨94, sig, rv, body, hint, join⟩
end spec_l9Draw
namespace impl_partsText
noncomputable def s0 (c111 : Y2 → Option ByteArray) (L0 : Y30 → Option ByteArray) : Y30 → Option ByteArray
 | (x0, x1, x2, x3, x4, x5, x6, x7) => bif decide (x2 < x1) then bif decide (0 ≤ x2) && decide (x2 < (List.length x0 : Int)) then bif decide (0 ≤ ((getD x0 (toNat x2) Z4).1)) && decide (((getD x0 (toNat x2) Z4).1) < (List.length x4 : Int)) then bif (getD x0 (toNat x2) Z4).2 then bif decide (¬ ((ByteArray.size ((getD x4 (toNat ((getD x0 (toNat x2) Z4).1)) Z2).1) + ByteArray.size ({ data := #[32, 100, 101, 115, 99] } : ByteArray) : Nat) : Int) > IntKind.max i64) then bif decide ((List.length x7 + List.length ([ByteArray.append ((getD x4 (toNat ((getD x0 (toNat x2) Z4).1)) Z2).1) ({ data := #[32, 100, 101, 115, 99] } : ByteArray)] : List ByteArray)) * 16 ≤ 140737488355328) then L0 (x0, x1, wrap i64 (x2 + 1), x3, x4, x5, x6, x7 ++ ([ByteArray.append ((getD x4 (toNat ((getD x0 (toNat x2) Z4).1)) Z2).1) ({ data := #[32, 100, 101, 115, 99] } : ByteArray)] : List ByteArray)) else none else none else bif decide ((List.length x7 + List.length ([(getD x4 (toNat ((getD x0 (toNat x2) Z4).1)) Z2).1] : List ByteArray)) * 16 ≤ 140737488355328) then L0 (x0, x1, wrap i64 (x2 + 1), x3, x4, x5, x6, x7 ++ ([(getD x4 (toNat ((getD x0 (toNat x2) Z4).1)) Z2).1] : List ByteArray)) else none else none else none else Option.bind (c111 (x7, ({ data := #[44, 32] } : ByteArray))) fun r1 => bif decide (¬ ((ByteArray.size r1 + ByteArray.size ({ data := #[59, 32] } : ByteArray) : Nat) : Int) > IntKind.max i64) then some (ByteArray.append r1 ({ data := #[59, 32] } : ByteArray)) else none
noncomputable def ll0 : Y30 → LS
 | (x0, x1, x2, x3, x4, x5, x6, x7) => ⟨[.addr 129 0 [] 0, .ref 20 0 [] none 0, .cv ⟨.row K2, x0⟩, .cv ⟨.int .i64, x1⟩, .cv ⟨.int .i64, x2⟩], [⟨false, [⟨0, 0, .mk 0 ⟨.str, x3⟩⟩, ⟨0, 0, .mk 0 ⟨.row K1, x4⟩⟩, ⟨0, 0, .mk 0 ⟨.row K2, x5⟩⟩, ⟨0, 0, .mk 0 ⟨.row K3, x6⟩⟩]⟩, ⟨true, [⟨0, 0, .mk 9 ⟨.row K0, x7⟩⟩]⟩]⟩
noncomputable def m (B0 : Y30 → Option ByteArray) : Y8 → Option ByteArray
 | (a0_0, a0_1, a0_2, a0_3, a1_0) => B0 (a1_0, (List.length a1_0 : Int), (0 : Int), a0_0, a0_1, a0_2, a0_3, ([] : List ByteArray))
noncomputable def sig : Sig := ⟨[.val true [⟨.str, 0, 0, false⟩, ⟨.row K1, 0, 0, false⟩, ⟨.row K2, 0, 0, false⟩, ⟨.row K3, 0, 0, false⟩], .val false [⟨.row K2, 0, 0, false⟩]], [(.one, [(.str, 0)])]⟩
noncomputable def hint : Nat → Hint
 | 0 => ⟨[(2, .keep), (5, .own 9 K0), (9, .keep), (10, .keep), (11, .keep)], [(129, [0, 0, 0, 0])]⟩
 | _ => ⟨[], []⟩
noncomputable def join (_ : Nat) : Option Hint := none
noncomputable def body : Code := (Tryd.f65).body.getD .skip
noncomputable def rv : List ResultVar := (Tryd.f65).results.toList
noncomputable def fn : Fn := ⟨34, sig, rv, body, hint, join⟩
end impl_partsText
namespace impl_DefText
noncomputable def s0 (c64 : (ByteArray × ByteArray) → Option ((List ByteArray))) (c65 : Y8 → Option ByteArray) (B2 : Y31 → Option ByteArray) (L0 : Y32 → Option ByteArray) : Y32 → Option ByteArray
 | (x0, x1, x2, x3, x4, x5, x6, x7) => bif decide (x3 < x2) then bif decide (0 ≤ x3) && decide (x3 < (List.length x1 : Int)) then bif decide (¬ ((ByteArray.size ((getD x1 (toNat x3) Z2).1) + ByteArray.size ({ data := #[32] } : ByteArray) : Nat) : Int) > IntKind.max i64) then Option.bind (c64 (({ data := #[32, 105, 110, 116, 32, 110, 117, 109, 32, 116, 101, 120, 116, 32, 98, 111, 111, 108] } : ByteArray), ({ data := #[32] } : ByteArray))) fun r2 => bif decide (0 ≤ ((getD x1 (toNat x3) Z2).2.1)) && decide (((getD x1 (toNat x3) Z2).2.1) < (List.length r2 : Int)) then bif decide (¬ ((ByteArray.size (ByteArray.append ((getD x1 (toNat x3) Z2).1) ({ data := #[32] } : ByteArray)) + ByteArray.size (getD r2 (toNat ((getD x1 (toNat x3) Z2).2.1)) ByteArray.empty) : Nat) : Int) > IntKind.max i64) then bif decide (¬ ((ByteArray.size x0 + ByteArray.size (ByteArray.append (ByteArray.append ((getD x1 (toNat x3) Z2).1) ({ data := #[32] } : ByteArray)) (getD r2 (toNat ((getD x1 (toNat x3) Z2).2.1)) ByteArray.empty)) : Nat) : Int) > IntKind.max i64) then bif (getD x1 (toNat x3) Z2).2.2 then bif decide (¬ ((ByteArray.size (ByteArray.append x0 (ByteArray.append (ByteArray.append ((getD x1 (toNat x3) Z2).1) ({ data := #[32] } : ByteArray)) (getD r2 (toNat ((getD x1 (toNat x3) Z2).2.1)) ByteArray.empty))) + ByteArray.size ({ data := #[32, 110, 117, 108, 108] } : ByteArray) : Nat) : Int) > IntKind.max i64) then bif decide (¬ ((ByteArray.size (ByteArray.append (ByteArray.append x0 (ByteArray.append (ByteArray.append ((getD x1 (toNat x3) Z2).1) ({ data := #[32] } : ByteArray)) (getD r2 (toNat ((getD x1 (toNat x3) Z2).2.1)) ByteArray.empty))) ({ data := #[32, 110, 117, 108, 108] } : ByteArray)) + ByteArray.size ({ data := #[59, 32] } : ByteArray) : Nat) : Int) > IntKind.max i64) then L0 (ByteArray.append (ByteArray.append (ByteArray.append x0 (ByteArray.append (ByteArray.append ((getD x1 (toNat x3) Z2).1) ({ data := #[32] } : ByteArray)) (getD r2 (toNat ((getD x1 (toNat x3) Z2).2.1)) ByteArray.empty))) ({ data := #[32, 110, 117, 108, 108] } : ByteArray)) ({ data := #[59, 32] } : ByteArray), x1, x2, wrap i64 (x3 + 1), x4, x5, x6, x7) else none else none else bif decide (¬ ((ByteArray.size (ByteArray.append x0 (ByteArray.append (ByteArray.append ((getD x1 (toNat x3) Z2).1) ({ data := #[32] } : ByteArray)) (getD r2 (toNat ((getD x1 (toNat x3) Z2).2.1)) ByteArray.empty))) + ByteArray.size ({ data := #[59, 32] } : ByteArray) : Nat) : Int) > IntKind.max i64) then L0 (ByteArray.append (ByteArray.append x0 (ByteArray.append (ByteArray.append ((getD x1 (toNat x3) Z2).1) ({ data := #[32] } : ByteArray)) (getD r2 (toNat ((getD x1 (toNat x3) Z2).2.1)) ByteArray.empty))) ({ data := #[59, 32] } : ByteArray), x1, x2, wrap i64 (x3 + 1), x4, x5, x6, x7) else none else none else none else none else none else none else Option.bind (c65 (x4, x5, x6, x7, x6)) fun r3 => bif decide (¬ ((ByteArray.size ({ data := #[112, 114, 105, 109, 97, 114, 121, 32] } : ByteArray) + ByteArray.size r3 : Nat) : Int) > IntKind.max i64) then bif decide (¬ ((ByteArray.size x0 + ByteArray.size (ByteArray.append ({ data := #[112, 114, 105, 109, 97, 114, 121, 32] } : ByteArray) r3) : Nat) : Int) > IntKind.max i64) then B2 (ByteArray.append x0 (ByteArray.append ({ data := #[112, 114, 105, 109, 97, 114, 121, 32] } : ByteArray) r3), x7, (List.length x7 : Int), (0 : Int), x4, x5, x6, x7) else none else none
noncomputable def ll0 : Y32 → LS
 | (x0, x1, x2, x3, x4, x5, x6, x7) => ⟨[.addr 65 0 [] 0, .cv ⟨.str, x0⟩, .cv ⟨.row K1, x1⟩, .cv ⟨.int .i64, x2⟩, .cv ⟨.int .i64, x3⟩], [⟨false, [⟨0, 0, .mk 0 ⟨.str, x4⟩⟩, ⟨0, 0, .mk 0 ⟨.row K1, x5⟩⟩, ⟨0, 0, .mk 0 ⟨.row K2, x6⟩⟩, ⟨0, 0, .mk 0 ⟨.row K3, x7⟩⟩]⟩]⟩
noncomputable def s2 (c65 : Y8 → Option ByteArray) (L2 : Y31 → Option ByteArray) : Y31 → Option ByteArray
 | (x0, x1, x2, x3, x4, x5, x6, x7) => bif decide (x3 < x2) then bif decide (0 ≤ x3) && decide (x3 < (List.length x1 : Int)) then bif (getD x1 (toNat x3) Z1).2.1 then bif decide (¬ ((ByteArray.size ({ data := #[117, 110, 105, 113, 117, 101, 32] } : ByteArray) + ByteArray.size ((getD x1 (toNat x3) Z1).1) : Nat) : Int) > IntKind.max i64) then bif decide (¬ ((ByteArray.size (ByteArray.append ({ data := #[117, 110, 105, 113, 117, 101, 32] } : ByteArray) ((getD x1 (toNat x3) Z1).1)) + ByteArray.size ({ data := #[32] } : ByteArray) : Nat) : Int) > IntKind.max i64) then Option.bind (c65 (x4, x5, x6, x7, (getD x1 (toNat x3) Z1).2.2)) fun r4 => bif decide (¬ ((ByteArray.size (ByteArray.append (ByteArray.append ({ data := #[117, 110, 105, 113, 117, 101, 32] } : ByteArray) ((getD x1 (toNat x3) Z1).1)) ({ data := #[32] } : ByteArray)) + ByteArray.size r4 : Nat) : Int) > IntKind.max i64) then bif decide (¬ ((ByteArray.size x0 + ByteArray.size (ByteArray.append (ByteArray.append (ByteArray.append ({ data := #[117, 110, 105, 113, 117, 101, 32] } : ByteArray) ((getD x1 (toNat x3) Z1).1)) ({ data := #[32] } : ByteArray)) r4) : Nat) : Int) > IntKind.max i64) then L2 (ByteArray.append x0 (ByteArray.append (ByteArray.append (ByteArray.append ({ data := #[117, 110, 105, 113, 117, 101, 32] } : ByteArray) ((getD x1 (toNat x3) Z1).1)) ({ data := #[32] } : ByteArray)) r4), x1, x2, wrap i64 (x3 + 1), x4, x5, x6, x7) else none else none else none else none else bif decide (¬ ((ByteArray.size ({ data := #[105, 110, 100, 101, 120, 32] } : ByteArray) + ByteArray.size ((getD x1 (toNat x3) Z1).1) : Nat) : Int) > IntKind.max i64) then bif decide (¬ ((ByteArray.size (ByteArray.append ({ data := #[105, 110, 100, 101, 120, 32] } : ByteArray) ((getD x1 (toNat x3) Z1).1)) + ByteArray.size ({ data := #[32] } : ByteArray) : Nat) : Int) > IntKind.max i64) then Option.bind (c65 (x4, x5, x6, x7, (getD x1 (toNat x3) Z1).2.2)) fun r5 => bif decide (¬ ((ByteArray.size (ByteArray.append (ByteArray.append ({ data := #[105, 110, 100, 101, 120, 32] } : ByteArray) ((getD x1 (toNat x3) Z1).1)) ({ data := #[32] } : ByteArray)) + ByteArray.size r5 : Nat) : Int) > IntKind.max i64) then bif decide (¬ ((ByteArray.size x0 + ByteArray.size (ByteArray.append (ByteArray.append (ByteArray.append ({ data := #[105, 110, 100, 101, 120, 32] } : ByteArray) ((getD x1 (toNat x3) Z1).1)) ({ data := #[32] } : ByteArray)) r5) : Nat) : Int) > IntKind.max i64) then L2 (ByteArray.append x0 (ByteArray.append (ByteArray.append (ByteArray.append ({ data := #[105, 110, 100, 101, 120, 32] } : ByteArray) ((getD x1 (toNat x3) Z1).1)) ({ data := #[32] } : ByteArray)) r5), x1, x2, wrap i64 (x3 + 1), x4, x5, x6, x7) else none else none else none else none else none else bif decide (¬ ((ByteArray.size x0 + ByteArray.size ({ data := #[125] } : ByteArray) : Nat) : Int) > IntKind.max i64) then some (ByteArray.append x0 ({ data := #[125] } : ByteArray)) else none
noncomputable def ll2 : Y31 → LS
 | (x0, x1, x2, x3, x4, x5, x6, x7) => ⟨[.addr 65 0 [] 0, .cv ⟨.str, x0⟩, .cv ⟨.row K3, x1⟩, .cv ⟨.int .i64, x2⟩, .cv ⟨.int .i64, x3⟩], [⟨false, [⟨0, 0, .mk 0 ⟨.str, x4⟩⟩, ⟨0, 0, .mk 0 ⟨.row K1, x5⟩⟩, ⟨0, 0, .mk 0 ⟨.row K2, x6⟩⟩, ⟨0, 0, .mk 0 ⟨.row K3, x7⟩⟩]⟩]⟩
noncomputable def m (c21 : Y1 → Option Int) (B0 : Y32 → Option ByteArray) : Y1 → Option ByteArray
 | (a0_0, a0_1, a0_2, a0_3) => Option.bind (c21 (a0_0, a0_1, a0_2, a0_3)) fun r1 => bif r1 != 0 then some ({ data := #[] } : ByteArray) else bif decide (¬ ((ByteArray.size ({ data := #[116, 97, 98, 108, 101, 32] } : ByteArray) + ByteArray.size a0_0 : Nat) : Int) > IntKind.max i64) then bif decide (¬ ((ByteArray.size (ByteArray.append ({ data := #[116, 97, 98, 108, 101, 32] } : ByteArray) a0_0) + ByteArray.size ({ data := #[32, 123, 32] } : ByteArray) : Nat) : Int) > IntKind.max i64) then B0 (ByteArray.append (ByteArray.append ({ data := #[116, 97, 98, 108, 101, 32] } : ByteArray) a0_0) ({ data := #[32, 123, 32] } : ByteArray), a0_1, (List.length a0_1 : Int), (0 : Int), a0_0, a0_1, a0_2, a0_3) else none else none
noncomputable def sig : Sig := ⟨[.val true [⟨.str, 0, 0, false⟩, ⟨.row K1, 0, 0, false⟩, ⟨.row K2, 0, 0, false⟩, ⟨.row K3, 0, 0, false⟩]], [(.one, [(.str, 0)])]⟩
noncomputable def hint : Nat → Hint
 | 0 => ⟨[(1, .keep), (3, .keep), (17, .keep), (18, .keep), (19, .keep)], [(65, [0, 0, 0, 0])]⟩
 | 2 => ⟨[(1, .keep), (3, .keep), (49, .keep), (50, .keep), (51, .keep)], [(65, [0, 0, 0, 0])]⟩
 | _ => ⟨[], []⟩
noncomputable def join (_ : Nat) : Option Hint := none
noncomputable def body : Code := (Tryd.f24).body.getD .skip
noncomputable def rv : List ResultVar := (Tryd.f24).results.toList
noncomputable def fn : Fn := ⟨72, sig, rv, body, hint, join⟩
end impl_DefText
namespace spec_l9Type
noncomputable def m  : Int → Option ByteArray
 | a0_0 => bif decide (0 ≤ a0_0) && decide (a0_0 < (List.length ([({ data := #[] } : ByteArray), ({ data := #[105, 110, 116] } : ByteArray), ({ data := #[110, 117, 109] } : ByteArray), ({ data := #[116, 101, 120, 116] } : ByteArray), ({ data := #[98, 111, 111, 108] } : ByteArray)] : List ByteArray) : Int)) then some (getD ([({ data := #[] } : ByteArray), ({ data := #[105, 110, 116] } : ByteArray), ({ data := #[110, 117, 109] } : ByteArray), ({ data := #[116, 101, 120, 116] } : ByteArray), ({ data := #[98, 111, 111, 108] } : ByteArray)] : List ByteArray) (toNat a0_0) ByteArray.empty) else none
noncomputable def sig : Sig := ⟨[.val false [⟨.int .i64, 0, 0, false⟩]], [(.one, [(.str, 0)])]⟩
noncomputable def hint (_ : Nat) : Hint := ⟨[], []⟩
noncomputable def join (_ : Nat) : Option Hint := none
noncomputable def body : Code := (Tryd.f66).body.getD .skip
noncomputable def rv : List ResultVar := (Tryd.f66).results.toList
noncomputable def fn : Fn := ⟨9, sig, rv, body, hint, join⟩
end spec_l9Type
namespace spec_l9PartsText
noncomputable def s0 (L0 : Y33 → Option ByteArray) : Y33 → Option ByteArray
 | (x0, x1, x2, x3, x4, x5, x6) => bif decide (x2 < (List.length x0 : Int)) then bif decide (x2 > 0) then bif decide (¬ ((ByteArray.size x1 + ByteArray.size ({ data := #[44, 32] } : ByteArray) : Nat) : Int) > IntKind.max i64) then bif decide (0 ≤ x2) && decide (x2 < (List.length x0 : Int)) then bif decide (0 ≤ ((getD x0 (toNat x2) Z4).1)) && decide (((getD x0 (toNat x2) Z4).1) < (List.length x4 : Int)) then bif decide (¬ ((ByteArray.size (ByteArray.append x1 ({ data := #[44, 32] } : ByteArray)) + ByteArray.size ((getD x4 (toNat ((getD x0 (toNat x2) Z4).1)) Z2).1) : Nat) : Int) > IntKind.max i64) then bif decide (0 ≤ x2) && decide (x2 < (List.length x0 : Int)) then bif (getD x0 (toNat x2) Z4).2 then bif decide (¬ ((ByteArray.size (ByteArray.append (ByteArray.append x1 ({ data := #[44, 32] } : ByteArray)) ((getD x4 (toNat ((getD x0 (toNat x2) Z4).1)) Z2).1)) + ByteArray.size ({ data := #[32, 100, 101, 115, 99] } : ByteArray) : Nat) : Int) > IntKind.max i64) then L0 (x0, ByteArray.append (ByteArray.append (ByteArray.append x1 ({ data := #[44, 32] } : ByteArray)) ((getD x4 (toNat ((getD x0 (toNat x2) Z4).1)) Z2).1)) ({ data := #[32, 100, 101, 115, 99] } : ByteArray), wrap i64 (x2 + 1), x3, x4, x5, x6) else none else L0 (x0, ByteArray.append (ByteArray.append x1 ({ data := #[44, 32] } : ByteArray)) ((getD x4 (toNat ((getD x0 (toNat x2) Z4).1)) Z2).1), wrap i64 (x2 + 1), x3, x4, x5, x6) else none else none else none else none else none else bif decide (0 ≤ x2) && decide (x2 < (List.length x0 : Int)) then bif decide (0 ≤ ((getD x0 (toNat x2) Z4).1)) && decide (((getD x0 (toNat x2) Z4).1) < (List.length x4 : Int)) then bif decide (¬ ((ByteArray.size x1 + ByteArray.size ((getD x4 (toNat ((getD x0 (toNat x2) Z4).1)) Z2).1) : Nat) : Int) > IntKind.max i64) then bif decide (0 ≤ x2) && decide (x2 < (List.length x0 : Int)) then bif (getD x0 (toNat x2) Z4).2 then bif decide (¬ ((ByteArray.size (ByteArray.append x1 ((getD x4 (toNat ((getD x0 (toNat x2) Z4).1)) Z2).1)) + ByteArray.size ({ data := #[32, 100, 101, 115, 99] } : ByteArray) : Nat) : Int) > IntKind.max i64) then L0 (x0, ByteArray.append (ByteArray.append x1 ((getD x4 (toNat ((getD x0 (toNat x2) Z4).1)) Z2).1)) ({ data := #[32, 100, 101, 115, 99] } : ByteArray), wrap i64 (x2 + 1), x3, x4, x5, x6) else none else L0 (x0, ByteArray.append x1 ((getD x4 (toNat ((getD x0 (toNat x2) Z4).1)) Z2).1), wrap i64 (x2 + 1), x3, x4, x5, x6) else none else none else none else none else bif decide (¬ ((ByteArray.size x1 + ByteArray.size ({ data := #[59, 32] } : ByteArray) : Nat) : Int) > IntKind.max i64) then some (ByteArray.append x1 ({ data := #[59, 32] } : ByteArray)) else none
noncomputable def ll0 : Y33 → LS
 | (x0, x1, x2, x3, x4, x5, x6) => ⟨[.cv ⟨.row K2, x0⟩, .addr 129 0 [] 0, .cv ⟨.str, x1⟩, .cv ⟨.int .i64, x2⟩], [⟨false, [⟨0, 0, .mk 0 ⟨.str, x3⟩⟩, ⟨0, 0, .mk 0 ⟨.row K1, x4⟩⟩, ⟨0, 0, .mk 0 ⟨.row K2, x5⟩⟩, ⟨0, 0, .mk 0 ⟨.row K3, x6⟩⟩]⟩]⟩
noncomputable def m (B0 : Y33 → Option ByteArray) : Y8 → Option ByteArray
 | (a0_0, a0_1, a0_2, a0_3, a1_0) => B0 (a1_0, ({ data := #[] } : ByteArray), (0 : Int), a0_0, a0_1, a0_2, a0_3)
noncomputable def sig : Sig := ⟨[.val true [⟨.str, 0, 0, false⟩, ⟨.row K1, 0, 0, false⟩, ⟨.row K2, 0, 0, false⟩, ⟨.row K3, 0, 0, false⟩], .val false [⟨.row K2, 0, 0, false⟩]], [(.one, [(.str, 0)])]⟩
noncomputable def hint : Nat → Hint
 | 0 => ⟨[(1, .keep), (2, .keep), (5, .keep), (6, .keep)], [(129, [0, 0, 0, 0])]⟩
 | _ => ⟨[], []⟩
noncomputable def join (_ : Nat) : Option Hint := none
noncomputable def body : Code := (Tryd.f67).body.getD .skip
noncomputable def rv : List ResultVar := (Tryd.f67).results.toList
noncomputable def fn : Fn := ⟨38, sig, rv, body, hint, join⟩
end spec_l9PartsText
namespace spec_DefText
noncomputable def s0 (c66 : Int → Option ByteArray) (c67 : Y8 → Option ByteArray) (B2 L0 : Y6 → Option ByteArray) : Y6 → Option ByteArray
 | (x0, x1, x2, x3, x4, x5) => bif decide (x1 < (List.length x3 : Int)) then bif decide (0 ≤ x1) && decide (x1 < (List.length x3 : Int)) then bif decide (¬ ((ByteArray.size x0 + ByteArray.size ((getD x3 (toNat x1) Z2).1) : Nat) : Int) > IntKind.max i64) then bif decide (¬ ((ByteArray.size (ByteArray.append x0 ((getD x3 (toNat x1) Z2).1)) + ByteArray.size ({ data := #[32] } : ByteArray) : Nat) : Int) > IntKind.max i64) then bif decide (0 ≤ x1) && decide (x1 < (List.length x3 : Int)) then Option.bind (c66 ((getD x3 (toNat x1) Z2).2.1)) fun r2 => bif decide (¬ ((ByteArray.size (ByteArray.append (ByteArray.append x0 ((getD x3 (toNat x1) Z2).1)) ({ data := #[32] } : ByteArray)) + ByteArray.size r2 : Nat) : Int) > IntKind.max i64) then bif decide (0 ≤ x1) && decide (x1 < (List.length x3 : Int)) then bif (getD x3 (toNat x1) Z2).2.2 then bif decide (¬ ((ByteArray.size (ByteArray.append (ByteArray.append (ByteArray.append x0 ((getD x3 (toNat x1) Z2).1)) ({ data := #[32] } : ByteArray)) r2) + ByteArray.size ({ data := #[32, 110, 117, 108, 108] } : ByteArray) : Nat) : Int) > IntKind.max i64) then bif decide (¬ ((ByteArray.size (ByteArray.append (ByteArray.append (ByteArray.append (ByteArray.append x0 ((getD x3 (toNat x1) Z2).1)) ({ data := #[32] } : ByteArray)) r2) ({ data := #[32, 110, 117, 108, 108] } : ByteArray)) + ByteArray.size ({ data := #[59, 32] } : ByteArray) : Nat) : Int) > IntKind.max i64) then L0 (ByteArray.append (ByteArray.append (ByteArray.append (ByteArray.append (ByteArray.append x0 ((getD x3 (toNat x1) Z2).1)) ({ data := #[32] } : ByteArray)) r2) ({ data := #[32, 110, 117, 108, 108] } : ByteArray)) ({ data := #[59, 32] } : ByteArray), wrap i64 (x1 + 1), x2, x3, x4, x5) else none else none else bif decide (¬ ((ByteArray.size (ByteArray.append (ByteArray.append (ByteArray.append x0 ((getD x3 (toNat x1) Z2).1)) ({ data := #[32] } : ByteArray)) r2) + ByteArray.size ({ data := #[59, 32] } : ByteArray) : Nat) : Int) > IntKind.max i64) then L0 (ByteArray.append (ByteArray.append (ByteArray.append (ByteArray.append x0 ((getD x3 (toNat x1) Z2).1)) ({ data := #[32] } : ByteArray)) r2) ({ data := #[59, 32] } : ByteArray), wrap i64 (x1 + 1), x2, x3, x4, x5) else none else none else none else none else none else none else none else bif decide (¬ ((ByteArray.size x0 + ByteArray.size ({ data := #[112, 114, 105, 109, 97, 114, 121, 32] } : ByteArray) : Nat) : Int) > IntKind.max i64) then Option.bind (c67 (x2, x3, x4, x5, x4)) fun r3 => bif decide (¬ ((ByteArray.size (ByteArray.append x0 ({ data := #[112, 114, 105, 109, 97, 114, 121, 32] } : ByteArray)) + ByteArray.size r3 : Nat) : Int) > IntKind.max i64) then B2 (ByteArray.append (ByteArray.append x0 ({ data := #[112, 114, 105, 109, 97, 114, 121, 32] } : ByteArray)) r3, (0 : Int), x2, x3, x4, x5) else none else none
noncomputable def ll0 : Y6 → LS
 | (x0, x1, x2, x3, x4, x5) => ⟨[.addr 65 0 [] 0, .cv ⟨.str, x0⟩, .cv ⟨.int .i64, x1⟩], [⟨false, [⟨0, 0, .mk 0 ⟨.str, x2⟩⟩, ⟨0, 0, .mk 0 ⟨.row K1, x3⟩⟩, ⟨0, 0, .mk 0 ⟨.row K2, x4⟩⟩, ⟨0, 0, .mk 0 ⟨.row K3, x5⟩⟩]⟩]⟩
noncomputable def s2 (c67 : Y8 → Option ByteArray) (L2 : Y6 → Option ByteArray) : Y6 → Option ByteArray
 | (x0, x1, x2, x3, x4, x5) => bif decide (x1 < (List.length x5 : Int)) then bif decide (0 ≤ x1) && decide (x1 < (List.length x5 : Int)) then bif (getD x5 (toNat x1) Z1).2.1 then bif decide (¬ ((ByteArray.size x0 + ByteArray.size ({ data := #[117, 110, 105, 113, 117, 101, 32] } : ByteArray) : Nat) : Int) > IntKind.max i64) then bif decide (0 ≤ x1) && decide (x1 < (List.length x5 : Int)) then bif decide (¬ ((ByteArray.size (ByteArray.append x0 ({ data := #[117, 110, 105, 113, 117, 101, 32] } : ByteArray)) + ByteArray.size ((getD x5 (toNat x1) Z1).1) : Nat) : Int) > IntKind.max i64) then bif decide (¬ ((ByteArray.size (ByteArray.append (ByteArray.append x0 ({ data := #[117, 110, 105, 113, 117, 101, 32] } : ByteArray)) ((getD x5 (toNat x1) Z1).1)) + ByteArray.size ({ data := #[32] } : ByteArray) : Nat) : Int) > IntKind.max i64) then bif decide (0 ≤ x1) && decide (x1 < (List.length x5 : Int)) then Option.bind (c67 (x2, x3, x4, x5, (getD x5 (toNat x1) Z1).2.2)) fun r4 => bif decide (¬ ((ByteArray.size (ByteArray.append (ByteArray.append (ByteArray.append x0 ({ data := #[117, 110, 105, 113, 117, 101, 32] } : ByteArray)) ((getD x5 (toNat x1) Z1).1)) ({ data := #[32] } : ByteArray)) + ByteArray.size r4 : Nat) : Int) > IntKind.max i64) then L2 (ByteArray.append (ByteArray.append (ByteArray.append (ByteArray.append x0 ({ data := #[117, 110, 105, 113, 117, 101, 32] } : ByteArray)) ((getD x5 (toNat x1) Z1).1)) ({ data := #[32] } : ByteArray)) r4, wrap i64 (x1 + 1), x2, x3, x4, x5) else none else none else none else none else none else none else bif decide (¬ ((ByteArray.size x0 + ByteArray.size ({ data := #[105, 110, 100, 101, 120, 32] } : ByteArray) : Nat) : Int) > IntKind.max i64) then bif decide (0 ≤ x1) && decide (x1 < (List.length x5 : Int)) then bif decide (¬ ((ByteArray.size (ByteArray.append x0 ({ data := #[105, 110, 100, 101, 120, 32] } : ByteArray)) + ByteArray.size ((getD x5 (toNat x1) Z1).1) : Nat) : Int) > IntKind.max i64) then bif decide (¬ ((ByteArray.size (ByteArray.append (ByteArray.append x0 ({ data := #[105, 110, 100, 101, 120, 32] } : ByteArray)) ((getD x5 (toNat x1) Z1).1)) + ByteArray.size ({ data := #[32] } : ByteArray) : Nat) : Int) > IntKind.max i64) then bif decide (0 ≤ x1) && decide (x1 < (List.length x5 : Int)) then Option.bind (c67 (x2, x3, x4, x5, (getD x5 (toNat x1) Z1).2.2)) fun r5 => bif decide (¬ ((ByteArray.size (ByteArray.append (ByteArray.append (ByteArray.append x0 ({ data := #[105, 110, 100, 101, 120, 32] } : ByteArray)) ((getD x5 (toNat x1) Z1).1)) ({ data := #[32] } : ByteArray)) + ByteArray.size r5 : Nat) : Int) > IntKind.max i64) then L2 (ByteArray.append (ByteArray.append (ByteArray.append (ByteArray.append x0 ({ data := #[105, 110, 100, 101, 120, 32] } : ByteArray)) ((getD x5 (toNat x1) Z1).1)) ({ data := #[32] } : ByteArray)) r5, wrap i64 (x1 + 1), x2, x3, x4, x5) else none else none else none else none else none else none else none else bif decide (¬ ((ByteArray.size x0 + ByteArray.size ({ data := #[125] } : ByteArray) : Nat) : Int) > IntKind.max i64) then some (ByteArray.append x0 ({ data := #[125] } : ByteArray)) else none
noncomputable def ll2 : Y6 → LS
 | (x0, x1, x2, x3, x4, x5) => ⟨[.addr 65 0 [] 0, .cv ⟨.str, x0⟩, .cv ⟨.int .i64, x1⟩], [⟨false, [⟨0, 0, .mk 0 ⟨.str, x2⟩⟩, ⟨0, 0, .mk 0 ⟨.row K1, x3⟩⟩, ⟨0, 0, .mk 0 ⟨.row K2, x4⟩⟩, ⟨0, 0, .mk 0 ⟨.row K3, x5⟩⟩]⟩]⟩
noncomputable def m (c23 : Y1 → Option Int) (B0 : Y6 → Option ByteArray) : Y1 → Option ByteArray
 | (a0_0, a0_1, a0_2, a0_3) => Option.bind (c23 (a0_0, a0_1, a0_2, a0_3)) fun r1 => bif r1 != 0 then some ({ data := #[] } : ByteArray) else bif decide (¬ ((ByteArray.size ({ data := #[116, 97, 98, 108, 101, 32] } : ByteArray) + ByteArray.size a0_0 : Nat) : Int) > IntKind.max i64) then bif decide (¬ ((ByteArray.size (ByteArray.append ({ data := #[116, 97, 98, 108, 101, 32] } : ByteArray) a0_0) + ByteArray.size ({ data := #[32, 123, 32] } : ByteArray) : Nat) : Int) > IntKind.max i64) then B0 (ByteArray.append (ByteArray.append ({ data := #[116, 97, 98, 108, 101, 32] } : ByteArray) a0_0) ({ data := #[32, 123, 32] } : ByteArray), (0 : Int), a0_0, a0_1, a0_2, a0_3) else none else none
noncomputable def sig : Sig := ⟨[.val true [⟨.str, 0, 0, false⟩, ⟨.row K1, 0, 0, false⟩, ⟨.row K2, 0, 0, false⟩, ⟨.row K3, 0, 0, false⟩]], [(.one, [(.str, 0)])]⟩
noncomputable def hint : Nat → Hint
 | 0 => ⟨[(1, .keep), (3, .keep), (4, .keep)], [(65, [0, 0, 0, 0])]⟩
 | 2 => ⟨[(1, .keep), (3, .keep), (5, .keep)], [(65, [0, 0, 0, 0])]⟩
 | _ => ⟨[], []⟩
noncomputable def join (_ : Nat) : Option Hint := none
noncomputable def body : Code := (Tryd.f25).body.getD .skip
noncomputable def rv : List ResultVar := (Tryd.f25).results.toList
noncomputable def fn : Fn := ⟨90, sig, rv, body, hint, join⟩
end spec_DefText
namespace spec_DefsText
noncomputable def s0 (c25 : Y1 → Option ByteArray) (L0 : Y34 → Option ByteArray) : Y34 → Option ByteArray
 | (x0, x1, x2) => bif decide (x2 < (List.length x0 : Int)) then bif decide (0 ≤ x2) && decide (x2 < (List.length x0 : Int)) then Option.bind (c25 ((getD x0 (toNat x2) Z0).1, (getD x0 (toNat x2) Z0).2.1, (getD x0 (toNat x2) Z0).2.2.1, (getD x0 (toNat x2) Z0).2.2.2)) fun r1 => bif decide (¬ ((ByteArray.size x1 + ByteArray.size r1 : Nat) : Int) > IntKind.max i64) then bif decide (¬ ((ByteArray.size (ByteArray.append x1 r1) + ByteArray.size ({ data := #[10] } : ByteArray) : Nat) : Int) > IntKind.max i64) then L0 (x0, ByteArray.append (ByteArray.append x1 r1) ({ data := #[10] } : ByteArray), wrap i64 (x2 + 1)) else none else none else none else some x1
noncomputable def ll0 : Y34 → LS
 | (x0, x1, x2) => ⟨[.cv ⟨.row K4, x0⟩, .cv ⟨.str, x1⟩, .cv ⟨.int .i64, x2⟩], []⟩
noncomputable def m (B0 : Y34 → Option ByteArray) : Y10 → Option ByteArray
 | a0_0 => B0 (a0_0, ({ data := #[] } : ByteArray), (0 : Int))
noncomputable def sig : Sig := ⟨[.val false [⟨.row K4, 0, 0, false⟩]], [(.one, [(.str, 0)])]⟩
noncomputable def hint : Nat → Hint
 | 0 => ⟨[(0, .keep), (3, .keep), (4, .keep)], []⟩
 | _ => ⟨[], []⟩
noncomputable def join (_ : Nat) : Option Hint := none
noncomputable def body : Code := (Tryd.f31).body.getD .skip
noncomputable def rv : List ResultVar := (Tryd.f31).results.toList
noncomputable def fn : Fn := ⟨20, sig, rv, body, hint, join⟩
end spec_DefsText
namespace impl_DefsText
noncomputable def s0 (c24 : Y1 → Option ByteArray) (L0 : Y35 → Option ByteArray) : Y35 → Option ByteArray
 | (x0, x1, x2, x3) => bif decide (x3 < x2) then bif decide (0 ≤ x3) && decide (x3 < (List.length x1 : Int)) then Option.bind (c24 ((getD x1 (toNat x3) Z0).1, (getD x1 (toNat x3) Z0).2.1, (getD x1 (toNat x3) Z0).2.2.1, (getD x1 (toNat x3) Z0).2.2.2)) fun r1 => bif decide (¬ ((ByteArray.size r1 + ByteArray.size ({ data := #[10] } : ByteArray) : Nat) : Int) > IntKind.max i64) then bif decide (¬ ((ByteArray.size x0 + ByteArray.size (ByteArray.append r1 ({ data := #[10] } : ByteArray)) : Nat) : Int) > IntKind.max i64) then L0 (ByteArray.append x0 (ByteArray.append r1 ({ data := #[10] } : ByteArray)), x1, x2, wrap i64 (x3 + 1)) else none else none else none else some x0
noncomputable def ll0 : Y35 → LS
 | (x0, x1, x2, x3) => ⟨[.cv ⟨.str, x0⟩, .cv ⟨.row K4, x1⟩, .cv ⟨.int .i64, x2⟩, .cv ⟨.int .i64, x3⟩], []⟩
noncomputable def m (B0 : Y35 → Option ByteArray) : Y10 → Option ByteArray
 | a0_0 => B0 (({ data := #[] } : ByteArray), a0_0, (List.length a0_0 : Int), (0 : Int))
noncomputable def sig : Sig := ⟨[.val false [⟨.row K4, 0, 0, false⟩]], [(.one, [(.str, 0)])]⟩
noncomputable def hint : Nat → Hint
 | 0 => ⟨[(3, .keep), (6, .keep), (7, .keep), (8, .keep)], []⟩
 | _ => ⟨[], []⟩
noncomputable def join (_ : Nat) : Option Hint := none
noncomputable def body : Code := (Tryd.f32).body.getD .skip
noncomputable def rv : List ResultVar := (Tryd.f32).results.toList
noncomputable def fn : Fn := ⟨19, sig, rv, body, hint, join⟩
end impl_DefsText
namespace spec_l10Draw
noncomputable def m (c58 : Y23 → Option (Bool × Int × Int)) (c103 : Y27 → Option Y28) : ((List Int) × Int × Int) → Option Y36
 | (a0_0, a0_1, a0_2) => Option.bind (c103 (a0_0, a0_1, a0_2, ({ data := #[116] } : ByteArray))) fun r1 => Option.bind (c58 (a0_0, r1.2.2.2.2.1, r1.2.2.2.2.2, (3 : Int))) fun r2 => bif r2.1 then Option.bind (c103 (a0_0, r2.2.1, r2.2.2, ({ data := #[117] } : ByteArray))) fun r3 => bif decide ((List.length ([(r1.1, r1.2.1, r1.2.2.1, r1.2.2.2.1)] : List (ByteArray × (List (ByteArray × Int × Bool)) × (List (Int × Bool)) × (List (ByteArray × Bool × (List (Int × Bool)))))) + List.length ([(r3.1, r3.2.1, r3.2.2.1, r3.2.2.2.1)] : List (ByteArray × (List (ByteArray × Int × Bool)) × (List (Int × Bool)) × (List (ByteArray × Bool × (List (Int × Bool))))))) * 88 ≤ 140737488355328) then some (([(r1.1, r1.2.1, r1.2.2.1, r1.2.2.2.1)] : List (ByteArray × (List (ByteArray × Int × Bool)) × (List (Int × Bool)) × (List (ByteArray × Bool × (List (Int × Bool)))))) ++ ([(r3.1, r3.2.1, r3.2.2.1, r3.2.2.2.1)] : List (ByteArray × (List (ByteArray × Int × Bool)) × (List (Int × Bool)) × (List (ByteArray × Bool × (List (Int × Bool)))))), r3.2.2.2.2.1, r3.2.2.2.2.2) else none else some (([(r1.1, r1.2.1, r1.2.2.1, r1.2.2.2.1)] : List (ByteArray × (List (ByteArray × Int × Bool)) × (List (Int × Bool)) × (List (ByteArray × Bool × (List (Int × Bool)))))), r2.2.1, r2.2.2)
noncomputable def sig : Sig := ⟨[.ptr [⟨.row K5, 0, 1, false⟩, ⟨.int .i64, 0, 0, true⟩, ⟨.int .i64, 0, 0, true⟩]], [(.one, [(.row K4, 3)])]⟩
noncomputable def hint (_ : Nat) : Hint := ⟨[], []⟩
noncomputable def join (_ : Nat) : Option Hint := none
noncomputable def body : Code := (Tryd.f90).body.getD .skip
noncomputable def rv : List ResultVar := (Tryd.f90).results.toList
noncomputable def fn : Fn := ⟨15, sig, rv, body, hint, join⟩
end spec_l10Draw
namespace impl_isMark
noncomputable def m  : Int → Option Bool
 | a0_0 => bif a0_0 == 123 then some true else bif a0_0 == 125 then some true else bif a0_0 == 44 then some true else some (a0_0 == 59)
noncomputable def sig : Sig := ⟨[.val false [⟨.int .u8, 0, 0, false⟩]], [(.one, [(.bool, 0)])]⟩
noncomputable def hint (_ : Nat) : Hint := ⟨[], []⟩
noncomputable def join (_ : Nat) : Option Hint := none
noncomputable def body : Code := (Tryd.f136).body.getD .skip
noncomputable def rv : List ResultVar := (Tryd.f136).results.toList
noncomputable def fn : Fn := ⟨17, sig, rv, body, hint, join⟩
end impl_isMark
namespace impl_TokenOk
noncomputable def m (c135 : ByteArray → Option Bool) (c136 : Int → Option Bool) : (Int × ByteArray) → Option Bool
 | (a0_0, a0_1) => bif a0_0 == 1 then Option.bind (c135 a0_1) fun r1 => some r1 else bif a0_0 == 2 then bif (ByteArray.size a0_1 : Int) == 1 then bif decide (0 ≤ 0) && decide ((0 : Int) < (ByteArray.size a0_1 : Int)) then Option.bind (c136 ((ByteArray.get! a0_1 (toNat (0 : Int))).toNat : Int)) fun r2 => some r2 else none else some false else some false
noncomputable def sig : Sig := ⟨[.val true [⟨.int .i64, 0, 0, false⟩, ⟨.str, 0, 0, false⟩]], [(.one, [(.bool, 0)])]⟩
noncomputable def hint (_ : Nat) : Hint := ⟨[], []⟩
noncomputable def join (_ : Nat) : Option Hint := none
noncomputable def body : Code := (Tryd.f95).body.getD .skip
noncomputable def rv : List ResultVar := (Tryd.f95).results.toList
noncomputable def fn : Fn := ⟨22, sig, rv, body, hint, join⟩
end impl_TokenOk
namespace impl_Lex
noncomputable def s0 (c93 : Int → Option Bool) (c95 : (Int × ByteArray) → Option Bool) (B2 : Y38 → Option Y37) (L0 : Y39 → Option Y37) : Y39 → Option Y37
 | (x0, x1, x2) => bif decide (x1 < (ByteArray.size x0 : Int)) then bif decide (0 ≤ x1) && decide (x1 < (ByteArray.size x0 : Int)) then bif ((ByteArray.get! x0 (toNat x1)).toNat : Int) == 32 then L0 (x0, wrap i64 (x1 + 1), x2) else bif ((ByteArray.get! x0 (toNat x1)).toNat : Int) == 9 then L0 (x0, wrap i64 (x1 + 1), x2) else bif ((ByteArray.get! x0 (toNat x1)).toNat : Int) == 10 then L0 (x0, wrap i64 (x1 + 1), x2) else bif ((ByteArray.get! x0 (toNat x1)).toNat : Int) == 13 then L0 (x0, wrap i64 (x1 + 1), x2) else bif decide (0 ≤ x1) && decide (x1 ≤ (wrap i64 (x1 + 1))) && decide ((wrap i64 (x1 + 1)) ≤ (ByteArray.size x0 : Int)) then Option.bind (c93 ((ByteArray.get! x0 (toNat x1)).toNat : Int)) fun r1 => bif r1 then B2 (x0, x1, wrap i64 (x1 + 1), ((ByteArray.get! x0 (toNat x1)).toNat : Int), ((ByteArray.get! x0 (toNat x1)).toNat : Int) == 9, ((ByteArray.get! x0 (toNat x1)).toNat : Int), ((ByteArray.get! x0 (toNat x1)).toNat : Int) == 10, ((ByteArray.get! x0 (toNat x1)).toNat : Int), ((ByteArray.get! x0 (toNat x1)).toNat : Int) == 13, (2 : Int), ByteArray.extract x0 (toNat x1) (toNat (wrap i64 (x1 + 1))), x2) else Option.bind (c95 ((2 : Int), ByteArray.extract x0 (toNat x1) (toNat (wrap i64 (x1 + 1))))) fun r6 => bif !(r6) then some (([] : List (Int × ByteArray)), x1) else bif decide ((List.length x2 : Int) ≥ 500) then some (([] : List (Int × ByteArray)), x1) else bif decide ((List.length x2 + List.length ([((2 : Int), ByteArray.extract x0 (toNat x1) (toNat (wrap i64 (x1 + 1))))] : List (Int × ByteArray))) * 24 ≤ 140737488355328) then L0 (x0, wrap i64 (x1 + 1), x2 ++ ([((2 : Int), ByteArray.extract x0 (toNat x1) (toNat (wrap i64 (x1 + 1))))] : List (Int × ByteArray))) else none else none else none else some (x2, (-1 : Int))
noncomputable def ll0 : Y39 → LS
 | (x0, x1, x2) => ⟨[.cv ⟨.str, x0⟩, .ref 16 0 [] none 0, .cv ⟨.int .i64, x1⟩], [⟨true, [⟨0, 0, .mk 9 ⟨.row K7, x2⟩⟩]⟩]⟩
noncomputable def s2 (c93 c94 : Int → Option Bool) (c95 : (Int × ByteArray) → Option Bool) (L0 : Y39 → Option Y37) (L2 : Y38 → Option Y37) : Y38 → Option Y37
 | (x0, x1, x2, x3, x4, x5, x6, x7, x8, x9, x10, x11) => bif decide (x2 < (ByteArray.size x0 : Int)) then bif decide (0 ≤ x2) && decide (x2 < (ByteArray.size x0 : Int)) then Option.bind (c93 ((ByteArray.get! x0 (toNat x2)).toNat : Int)) fun r2 => bif r2 then L2 (x0, x1, wrap i64 (x2 + 1), x3, x4, x5, x6, x7, x8, x9, x10, x11) else bif decide (0 ≤ x2) && decide (x2 < (ByteArray.size x0 : Int)) then Option.bind (c94 ((ByteArray.get! x0 (toNat x2)).toNat : Int)) fun r3 => bif r3 then L2 (x0, x1, wrap i64 (x2 + 1), x3, x4, x5, x6, x7, x8, x9, x10, x11) else bif decide (0 ≤ x1) && decide (x1 ≤ x2) && decide (x2 ≤ (ByteArray.size x0 : Int)) then Option.bind (c95 ((1 : Int), ByteArray.extract x0 (toNat x1) (toNat x2))) fun r4 => bif !(r4) then some (([] : List (Int × ByteArray)), x1) else bif decide ((List.length x11 : Int) ≥ 500) then some (([] : List (Int × ByteArray)), x1) else bif decide ((List.length x11 + List.length ([((1 : Int), ByteArray.extract x0 (toNat x1) (toNat x2))] : List (Int × ByteArray))) * 24 ≤ 140737488355328) then L0 (x0, x2, x11 ++ ([((1 : Int), ByteArray.extract x0 (toNat x1) (toNat x2))] : List (Int × ByteArray))) else none else none else none else none else bif decide (0 ≤ x1) && decide (x1 ≤ x2) && decide (x2 ≤ (ByteArray.size x0 : Int)) then Option.bind (c95 ((1 : Int), ByteArray.extract x0 (toNat x1) (toNat x2))) fun r5 => bif !(r5) then some (([] : List (Int × ByteArray)), x1) else bif decide ((List.length x11 : Int) ≥ 500) then some (([] : List (Int × ByteArray)), x1) else bif decide ((List.length x11 + List.length ([((1 : Int), ByteArray.extract x0 (toNat x1) (toNat x2))] : List (Int × ByteArray))) * 24 ≤ 140737488355328) then L0 (x0, x2, x11 ++ ([((1 : Int), ByteArray.extract x0 (toNat x1) (toNat x2))] : List (Int × ByteArray))) else none else none
noncomputable def ll2 : Y38 → LS
 | (x0, x1, x2, x3, x4, x5, x6, x7, x8, x9, x10, x11) => ⟨[.cv ⟨.str, x0⟩, .ref 16 0 [] none 0, .cv ⟨.int .i64, x1⟩, .cv ⟨.int .i64, x2⟩, .addr 513 0 [] 0, .cv ⟨.int .u8, x3⟩, .cv ⟨.bool, x4⟩, .cv ⟨.int .u8, x5⟩, .cv ⟨.bool, x6⟩, .cv ⟨.int .u8, x7⟩, .cv ⟨.bool, x8⟩], [⟨false, [⟨0, 0, .mk 0 ⟨.int .i64, x9⟩⟩, ⟨0, 0, .mk 0 ⟨.str, x10⟩⟩]⟩, ⟨true, [⟨0, 0, .mk 9 ⟨.row K7, x11⟩⟩]⟩]⟩
noncomputable def m (B0 : Y39 → Option Y37) : ByteArray → Option Y37
 | a0_0 => B0 (a0_0, (0 : Int), ([] : List (Int × ByteArray)))
noncomputable def sig : Sig := ⟨[.val false [⟨.str, 0, 0, false⟩]], [(.one, [(.row K7, 1)]), (.one, [(.int .i64, 0)])]⟩
noncomputable def hint : Nat → Hint
 | 0 => ⟨[(0, .keep), (4, .own 9 K7), (5, .keep)], []⟩
 | 2 => ⟨[(0, .keep), (4, .own 9 K7), (5, .keep), (7, .keep), (8, .keep), (19, .keep), (20, .keep), (23, .keep), (24, .keep), (27, .keep), (28, .keep)], [(513, [0, 0])]⟩
 | _ => ⟨[], []⟩
noncomputable def join (_ : Nat) : Option Hint := none
noncomputable def body : Code := (Tryd.f39).body.getD .skip
noncomputable def rv : List ResultVar := (Tryd.f39).results.toList
noncomputable def fn : Fn := ⟨79, sig, rv, body, hint, join⟩
end impl_Lex
namespace impl_tokens_maybe
noncomputable def m  : Y40 → Option (Bool × Int × Bool)
 | (a0_0, a0_1, a0_2, a1_0) => bif a0_2 then some (false, a0_1, a0_2) else bif decide (a0_1 ≥ (List.length a0_0 : Int)) then some (false, a0_1, a0_2) else bif decide (0 ≤ a0_1) && decide (a0_1 < (List.length a0_0 : Int)) then bif !(ByteArray.toList ((getD a0_0 (toNat a0_1) Z3).2) == ByteArray.toList a1_0) then some (false, a0_1, a0_2) else some (true, wrap i64 (a0_1 + 1), a0_2) else none
noncomputable def sig : Sig := ⟨[.ptr [⟨.row K7, 0, 1, false⟩, ⟨.int .i64, 0, 0, true⟩, ⟨.bool, 0, 0, true⟩], .val false [⟨.str, 0, 0, false⟩]], [(.one, [(.bool, 0)])]⟩
noncomputable def hint (_ : Nat) : Hint := ⟨[], []⟩
noncomputable def join (_ : Nat) : Option Hint := none
noncomputable def body : Code := (Tryd.f122).body.getD .skip
noncomputable def rv : List ResultVar := (Tryd.f122).results.toList
noncomputable def fn : Fn := ⟨43, sig, rv, body, hint, join⟩
end impl_tokens_maybe
namespace impl_tokens_want
noncomputable def m (c122 : Y40 → Option (Bool × Int × Bool)) : Y40 → Option (Int × Bool)
 | (a0_0, a0_1, a0_2, a1_0) => Option.bind (c122 (a0_0, a0_1, a0_2, a1_0)) fun r1 => bif !(r1.1) then some (r1.2.1, true) else some (r1.2.1, r1.2.2)
noncomputable def sig : Sig := ⟨[.ptr [⟨.row K7, 0, 1, false⟩, ⟨.int .i64, 0, 0, true⟩, ⟨.bool, 0, 0, true⟩], .val false [⟨.str, 0, 0, false⟩]], []⟩
noncomputable def hint (_ : Nat) : Hint := ⟨[], []⟩
noncomputable def join (_ : Nat) : Option Hint := none
noncomputable def body : Code := (Tryd.f120).body.getD .skip
noncomputable def rv : List ResultVar := (Tryd.f120).results.toList
noncomputable def fn : Fn := ⟨11, sig, rv, body, hint, join⟩
end impl_tokens_want
namespace impl_tokens_name
noncomputable def m  : Y41 → Option (ByteArray × Int × Bool)
 | (a0_0, a0_1, a0_2) => bif a0_2 then some (({ data := #[] } : ByteArray), a0_1, true) else bif decide (a0_1 ≥ (List.length a0_0 : Int)) then some (({ data := #[] } : ByteArray), a0_1, true) else bif decide (0 ≤ a0_1) && decide (a0_1 < (List.length a0_0 : Int)) then bif ((getD a0_0 (toNat a0_1) Z3).1) != 1 then some (({ data := #[] } : ByteArray), a0_1, true) else bif decide (0 ≤ (wrap i64 ((wrap i64 (a0_1 + 1)) - 1))) && decide ((wrap i64 ((wrap i64 (a0_1 + 1)) - 1)) < (List.length a0_0 : Int)) then some ((getD a0_0 (toNat (wrap i64 ((wrap i64 (a0_1 + 1)) - 1))) Z3).2, wrap i64 (a0_1 + 1), a0_2) else none else none
noncomputable def sig : Sig := ⟨[.ptr [⟨.row K7, 0, 1, false⟩, ⟨.int .i64, 0, 0, true⟩, ⟨.bool, 0, 0, true⟩]], [(.one, [(.str, 0)])]⟩
noncomputable def hint (_ : Nat) : Hint := ⟨[], []⟩
noncomputable def join (_ : Nat) : Option Hint := none
noncomputable def body : Code := (Tryd.f121).body.getD .skip
noncomputable def rv : List ResultVar := (Tryd.f121).results.toList
noncomputable def fn : Fn := ⟨55, sig, rv, body, hint, join⟩
end impl_tokens_name
namespace impl_tokens_typed
noncomputable def m (c121 : Y41 → Option (ByteArray × Int × Bool)) : Y41 → Option (Int × Int × Bool)
 | (a0_0, a0_1, a0_2) => Option.bind (c121 (a0_0, a0_1, a0_2)) fun r1 => bif ByteArray.toList r1.1 == ByteArray.toList ({ data := #[105, 110, 116] } : ByteArray) then some ((1 : Int), r1.2.1, r1.2.2) else bif ByteArray.toList r1.1 == ByteArray.toList ({ data := #[110, 117, 109] } : ByteArray) then some ((2 : Int), r1.2.1, r1.2.2) else bif ByteArray.toList r1.1 == ByteArray.toList ({ data := #[116, 101, 120, 116] } : ByteArray) then some ((3 : Int), r1.2.1, r1.2.2) else bif ByteArray.toList r1.1 == ByteArray.toList ({ data := #[98, 111, 111, 108] } : ByteArray) then some ((4 : Int), r1.2.1, r1.2.2) else some ((0 : Int), r1.2.1, true)
noncomputable def sig : Sig := ⟨[.ptr [⟨.row K7, 0, 1, false⟩, ⟨.int .i64, 0, 0, true⟩, ⟨.bool, 0, 0, true⟩]], [(.one, [(.int .i64, 0)])]⟩
noncomputable def hint (_ : Nat) : Hint := ⟨[], []⟩
noncomputable def join (_ : Nat) : Option Hint := none
noncomputable def body : Code := (Tryd.f123).body.getD .skip
noncomputable def rv : List ResultVar := (Tryd.f123).results.toList
noncomputable def fn : Fn := ⟨16, sig, rv, body, hint, join⟩
end impl_tokens_typed
namespace impl_tokens_parts
noncomputable def s0 (c121 : Y41 → Option (ByteArray × Int × Bool)) (B2 : Y44 → Option Y43) (L0 : Y45 → Option Y43) : Y45 → Option Y43
 | (x0, x1, x2, x3, x4, x5, x6, x7) => bif !(x2) then Option.bind (c121 (x0, x1, x2)) fun r1 => B2 (r1.1, (-1 : Int), x4, (List.length x4 : Int), (0 : Int), x0, r1.2.1, r1.2.2, x3, x4, x5, x6, x7) else some (x7, x1, x2)
noncomputable def ll0 : Y45 → LS
 | (x0, x1, x2, x3, x4, x5, x6, x7) => ⟨[.addr 2 0 [] 0, .addr 193 0 [] 0, .ref 20 0 [] none 0], [⟨false, [⟨0, 0, .lk ⟨.row K7, x0⟩⟩, ⟨0, 0, .mk 0 ⟨.int .i64, x1⟩⟩, ⟨0, 0, .mk 0 ⟨.bool, x2⟩⟩]⟩, ⟨false, [⟨0, 0, .mk 0 ⟨.str, x3⟩⟩, ⟨0, 0, .mk 0 ⟨.row K1, x4⟩⟩, ⟨0, 0, .mk 0 ⟨.row K2, x5⟩⟩, ⟨0, 0, .mk 0 ⟨.row K3, x6⟩⟩]⟩, ⟨true, [⟨0, 0, .mk 9 ⟨.row K2, x7⟩⟩]⟩]⟩
noncomputable def s2 (c120 : Y40 → Option (Int × Bool)) (c122 : Y40 → Option (Bool × Int × Bool)) (L0 : Y45 → Option Y43) (L2 : Y44 → Option Y43) : Y44 → Option Y43
 | (x0, x1, x2, x3, x4, x5, x6, x7, x8, x9, x10, x11, x12) => bif decide (x4 < x3) then bif decide (0 ≤ x4) && decide (x4 < (List.length x2 : Int)) then bif ByteArray.toList ((getD x2 (toNat x4) Z2).1) == ByteArray.toList x0 then L2 (x0, x4, x2, x3, wrap i64 (x4 + 1), x5, x6, x7, x8, x9, x10, x11, x12) else L2 (x0, x1, x2, x3, wrap i64 (x4 + 1), x5, x6, x7, x8, x9, x10, x11, x12) else none else Option.bind (c122 (x5, x6, x7, ({ data := #[100, 101, 115, 99] } : ByteArray))) fun r2 => bif decide ((List.length x12 + List.length ([(x1, r2.1)] : List (Int × Bool))) * 16 ≤ 140737488355328) then Option.bind (c122 (x5, r2.2.1, r2.2.2, ({ data := #[59] } : ByteArray))) fun r3 => bif r3.1 then some (x12 ++ ([(x1, r2.1)] : List (Int × Bool)), r3.2.1, r3.2.2) else Option.bind (c120 (x5, r3.2.1, r3.2.2, ({ data := #[44] } : ByteArray))) fun r4 => L0 (x5, r4.1, r4.2, x8, x9, x10, x11, x12 ++ ([(x1, r2.1)] : List (Int × Bool))) else none
noncomputable def ll2 : Y44 → LS
 | (x0, x1, x2, x3, x4, x5, x6, x7, x8, x9, x10, x11, x12) => ⟨[.addr 2 0 [] 0, .addr 193 0 [] 0, .ref 20 0 [] none 0, .cv ⟨.str, x0⟩, .cv ⟨.int .i64, x1⟩, .cv ⟨.row K1, x2⟩, .cv ⟨.int .i64, x3⟩, .cv ⟨.int .i64, x4⟩], [⟨false, [⟨0, 0, .lk ⟨.row K7, x5⟩⟩, ⟨0, 0, .mk 0 ⟨.int .i64, x6⟩⟩, ⟨0, 0, .mk 0 ⟨.bool, x7⟩⟩]⟩, ⟨false, [⟨0, 0, .mk 0 ⟨.str, x8⟩⟩, ⟨0, 0, .mk 0 ⟨.row K1, x9⟩⟩, ⟨0, 0, .mk 0 ⟨.row K2, x10⟩⟩, ⟨0, 0, .mk 0 ⟨.row K3, x11⟩⟩]⟩, ⟨true, [⟨0, 0, .mk 9 ⟨.row K2, x12⟩⟩]⟩]⟩
noncomputable def m (B0 : Y45 → Option Y43) : Y42 → Option Y43
 | (a0_0, a0_1, a0_2, a1_0, a1_1, a1_2, a1_3) => B0 (a0_0, a0_1, a0_2, a1_0, a1_1, a1_2, a1_3, ([] : List (Int × Bool)))
noncomputable def sig : Sig := ⟨[.ptr [⟨.row K7, 0, 1, false⟩, ⟨.int .i64, 0, 0, true⟩, ⟨.bool, 0, 0, true⟩], .val true [⟨.str, 0, 0, false⟩, ⟨.row K1, 0, 0, false⟩, ⟨.row K2, 0, 0, false⟩, ⟨.row K3, 0, 0, false⟩]], [(.one, [(.row K2, 1)])]⟩
noncomputable def hint : Nat → Hint
 | 0 => ⟨[(0, .keep), (3, .keep), (5, .own 9 K2)], [(2, [9, 0, 0]), (193, [0, 0, 0, 0])]⟩
 | 2 => ⟨[(0, .keep), (3, .keep), (5, .own 9 K2), (6, .keep), (7, .keep), (19, .keep), (20, .keep), (21, .keep)], [(2, [9, 0, 0]), (193, [0, 0, 0, 0])]⟩
 | _ => ⟨[], []⟩
noncomputable def join (_ : Nat) : Option Hint := none
noncomputable def body : Code := (Tryd.f124).body.getD .skip
noncomputable def rv : List ResultVar := (Tryd.f124).results.toList
noncomputable def fn : Fn := ⟨46, sig, rv, body, hint, join⟩
end impl_tokens_parts
namespace impl_tokens_def
noncomputable def s0 (c120 : Y40 → Option (Int × Bool)) (c121 : Y41 → Option (ByteArray × Int × Bool)) (c122 : Y40 → Option (Bool × Int × Bool)) (c123 : Y41 → Option (Int × Int × Bool)) (c124 : Y42 → Option Y43) (B2 L0 : Y47 → Option Y46) : Y47 → Option Y46
 | (x0, x1, x2, x3, x4, x5, x6, x7, x8, x9, x10) => bif !(x2) then Option.bind (c122 (x0, x1, x2, ({ data := #[112, 114, 105, 109, 97, 114, 121] } : ByteArray))) fun r4 => bif !(r4.1) then Option.bind (c121 (x0, r4.2.1, r4.2.2)) fun r5 => Option.bind (c123 (x0, r5.2.1, r5.2.2)) fun r6 => Option.bind (c122 (x0, r6.2.1, r6.2.2, ({ data := #[110, 117, 108, 108] } : ByteArray))) fun r7 => Option.bind (c120 (x0, r7.2.1, r7.2.2, ({ data := #[59] } : ByteArray))) fun r8 => bif decide ((List.length x8 + List.length ([(r5.1, r6.1, r7.1)] : List (ByteArray × Int × Bool))) * 32 ≤ 140737488355328) then L0 (x0, r8.1, r8.2, x3, x4, x5, x6, x7, x8 ++ ([(r5.1, r6.1, r7.1)] : List (ByteArray × Int × Bool)), x9, x10) else none else Option.bind (c124 (x0, r4.2.1, r4.2.2, x7, x8, x9, x10)) fun r9 => B2 (x0, r9.2.1, r9.2.2, x3, x4, x5, x6, x7, x8, r9.1, x10) else Option.bind (c124 (x0, x1, x2, x7, x8, x9, x10)) fun r17 => B2 (x0, r17.2.1, r17.2.2, x3, x4, x5, x6, x7, x8, r17.1, x10)
noncomputable def ll0 : Y47 → LS
 | (x0, x1, x2, x3, x4, x5, x6, x7, x8, x9, x10) => ⟨[.addr 2 0 [] 0, .addr 129 0 [] 0, .addr 193 0 [] 0], [⟨false, [⟨0, 0, .lk ⟨.row K7, x0⟩⟩, ⟨0, 0, .mk 0 ⟨.int .i64, x1⟩⟩, ⟨0, 0, .mk 0 ⟨.bool, x2⟩⟩]⟩, ⟨false, [⟨0, 0, .mk 0 ⟨.str, x3⟩⟩, ⟨0, 0, .mk 9 ⟨.row K1, x4⟩⟩, ⟨0, 0, .mk 9 ⟨.row K2, x5⟩⟩, ⟨0, 0, .mk 9 ⟨.row K3, x6⟩⟩]⟩, ⟨false, [⟨0, 0, .mk 0 ⟨.str, x7⟩⟩, ⟨0, 0, .mk 9 ⟨.row K1, x8⟩⟩, ⟨0, 0, .mk 9 ⟨.row K2, x9⟩⟩, ⟨0, 0, .mk 9 ⟨.row K3, x10⟩⟩]⟩]⟩
noncomputable def s2 (c120 : Y40 → Option (Int × Bool)) (c121 : Y41 → Option (ByteArray × Int × Bool)) (c122 : Y40 → Option (Bool × Int × Bool)) (c124 : Y42 → Option Y43) (L2 : Y47 → Option Y46) : Y47 → Option Y46
 | (x0, x1, x2, x3, x4, x5, x6, x7, x8, x9, x10) => bif !(x2) then Option.bind (c122 (x0, x1, x2, ({ data := #[125] } : ByteArray))) fun r10 => bif !(r10.1) then Option.bind (c122 (x0, r10.2.1, r10.2.2, ({ data := #[117, 110, 105, 113, 117, 101] } : ByteArray))) fun r11 => bif !(r11.1) then Option.bind (c120 (x0, r11.2.1, r11.2.2, ({ data := #[105, 110, 100, 101, 120] } : ByteArray))) fun r12 => Option.bind (c121 (x0, r12.1, r12.2)) fun r13 => Option.bind (c124 (x0, r13.2.1, r13.2.2, x7, x8, x9, x10)) fun r14 => bif decide ((List.length x10 + List.length ([(r13.1, r11.1, r14.1)] : List (ByteArray × Bool × (List (Int × Bool))))) * 48 ≤ 140737488355328) then L2 (x0, r14.2.1, r14.2.2, x3, x4, x5, x6, x7, x8, x9, x10 ++ ([(r13.1, r11.1, r14.1)] : List (ByteArray × Bool × (List (Int × Bool))))) else none else Option.bind (c121 (x0, r11.2.1, r11.2.2)) fun r15 => Option.bind (c124 (x0, r15.2.1, r15.2.2, x7, x8, x9, x10)) fun r16 => bif decide ((List.length x10 + List.length ([(r15.1, r11.1, r16.1)] : List (ByteArray × Bool × (List (Int × Bool))))) * 48 ≤ 140737488355328) then L2 (x0, r16.2.1, r16.2.2, x3, x4, x5, x6, x7, x8, x9, x10 ++ ([(r15.1, r11.1, r16.1)] : List (ByteArray × Bool × (List (Int × Bool))))) else none else some (x7, x8, x9, x10, r10.2.1, r10.2.2) else some (x7, x8, x9, x10, x1, x2)
noncomputable def ll2 : Y47 → LS
 | (x0, x1, x2, x3, x4, x5, x6, x7, x8, x9, x10) => ⟨[.addr 2 0 [] 0, .addr 129 0 [] 0, .addr 193 0 [] 0], [⟨false, [⟨0, 0, .lk ⟨.row K7, x0⟩⟩, ⟨0, 0, .mk 0 ⟨.int .i64, x1⟩⟩, ⟨0, 0, .mk 0 ⟨.bool, x2⟩⟩]⟩, ⟨false, [⟨0, 0, .mk 0 ⟨.str, x3⟩⟩, ⟨0, 0, .mk 9 ⟨.row K1, x4⟩⟩, ⟨0, 0, .mk 9 ⟨.row K2, x5⟩⟩, ⟨0, 0, .mk 9 ⟨.row K3, x6⟩⟩]⟩, ⟨false, [⟨0, 0, .mk 0 ⟨.str, x7⟩⟩, ⟨0, 0, .mk 9 ⟨.row K1, x8⟩⟩, ⟨0, 0, .mk 1 ⟨.row K2, x9⟩⟩, ⟨0, 0, .mk 9 ⟨.row K3, x10⟩⟩]⟩]⟩
noncomputable def m (c120 : Y40 → Option (Int × Bool)) (c121 : Y41 → Option (ByteArray × Int × Bool)) (B0 : Y47 → Option Y46) : Y41 → Option Y46
 | (a0_0, a0_1, a0_2) => Option.bind (c120 (a0_0, a0_1, a0_2, ({ data := #[116, 97, 98, 108, 101] } : ByteArray))) fun r1 => Option.bind (c121 (a0_0, r1.1, r1.2)) fun r2 => Option.bind (c120 (a0_0, r2.2.1, r2.2.2, ({ data := #[123] } : ByteArray))) fun r3 => B0 (a0_0, r3.1, r3.2, ByteArray.empty, ([] : List (ByteArray × Int × Bool)), ([] : List (Int × Bool)), ([] : List (ByteArray × Bool × (List (Int × Bool)))), r2.1, ([] : List (ByteArray × Int × Bool)), ([] : List (Int × Bool)), ([] : List (ByteArray × Bool × (List (Int × Bool)))))
noncomputable def sig : Sig := ⟨[.ptr [⟨.row K7, 0, 1, false⟩, ⟨.int .i64, 0, 0, true⟩, ⟨.bool, 0, 0, true⟩]], [(.agg, [(.str, 0), (.row K1, 1), (.row K2, 1), (.row K3, 2)])]⟩
noncomputable def hint : Nat → Hint
 | 0 => ⟨[(0, .keep), (2, .keep), (3, .keep)], [(2, [9, 0, 0]), (129, [0, 9, 9, 9]), (193, [0, 9, 9, 9])]⟩
 | 2 => ⟨[(0, .keep), (2, .keep), (3, .keep)], [(2, [9, 0, 0]), (129, [0, 9, 9, 9]), (193, [0, 9, 1, 9])]⟩
 | _ => ⟨[], []⟩
noncomputable def join (_ : Nat) : Option Hint := none
noncomputable def body : Code := (Tryd.f80).body.getD .skip
noncomputable def rv : List ResultVar := (Tryd.f80).results.toList
noncomputable def fn : Fn := ⟨76, sig, rv, body, hint, join⟩
end impl_tokens_def
namespace impl_ParseDefs
noncomputable def s0 (c17 : Y10 → Option Int) (c80 : Y41 → Option Y46) (L0 : Y49 → Option Y48) : Y49 → Option Y48
 | (x0, x1, x2, x3) => bif !(x2) then bif decide (x1 < (List.length x0 : Int)) then Option.bind (c80 (x0, x1, x2)) fun r2 => bif decide ((List.length x3 + List.length ([(r2.1, r2.2.1, r2.2.2.1, r2.2.2.2.1)] : List (ByteArray × (List (ByteArray × Int × Bool)) × (List (Int × Bool)) × (List (ByteArray × Bool × (List (Int × Bool))))))) * 88 ≤ 140737488355328) then L0 (x0, r2.2.2.2.2.1, r2.2.2.2.2.2, x3 ++ ([(r2.1, r2.2.1, r2.2.2.1, r2.2.2.2.1)] : List (ByteArray × (List (ByteArray × Int × Bool)) × (List (Int × Bool)) × (List (ByteArray × Bool × (List (Int × Bool))))))) else none else bif x2 then some (([] : List (ByteArray × (List (ByteArray × Int × Bool)) × (List (Int × Bool)) × (List (ByteArray × Bool × (List (Int × Bool)))))), false) else Option.bind (c17 x3) fun r3 => bif r3 != (-1) then some (([] : List (ByteArray × (List (ByteArray × Int × Bool)) × (List (Int × Bool)) × (List (ByteArray × Bool × (List (Int × Bool)))))), false) else some (x3, true) else bif x2 then some (([] : List (ByteArray × (List (ByteArray × Int × Bool)) × (List (Int × Bool)) × (List (ByteArray × Bool × (List (Int × Bool)))))), false) else Option.bind (c17 x3) fun r4 => bif r4 != (-1) then some (([] : List (ByteArray × (List (ByteArray × Int × Bool)) × (List (Int × Bool)) × (List (ByteArray × Bool × (List (Int × Bool)))))), false) else some (x3, true)
noncomputable def ll0 : Y49 → LS
 | (x0, x1, x2, x3) => ⟨[.ref 705 0 [] none 0, .addr 1153 0 [] 0, .ref 28 0 [] none 0], [⟨true, [⟨0, 0, .al 1153 0 [] none 0⟩]⟩, ⟨false, [⟨0, 0, .mk 1 ⟨.row K7, x0⟩⟩, ⟨0, 0, .mk 0 ⟨.int .i64, x1⟩⟩, ⟨0, 0, .mk 0 ⟨.bool, x2⟩⟩]⟩, ⟨true, [⟨0, 0, .mk 9 ⟨.row K4, x3⟩⟩]⟩]⟩
noncomputable def m (c39 : ByteArray → Option Y37) (B0 : Y49 → Option Y48) : ByteArray → Option Y48
 | a0_0 => Option.bind (c39 a0_0) fun r1 => bif r1.2 != (-1) then some (([] : List (ByteArray × (List (ByteArray × Int × Bool)) × (List (Int × Bool)) × (List (ByteArray × Bool × (List (Int × Bool)))))), false) else B0 (r1.1, (0 : Int), false, ([] : List (ByteArray × (List (ByteArray × Int × Bool)) × (List (Int × Bool)) × (List (ByteArray × Bool × (List (Int × Bool)))))))
noncomputable def sig : Sig := ⟨[.val false [⟨.str, 0, 0, false⟩]], [(.one, [(.row K4, 3)]), (.one, [(.bool, 0)])]⟩
noncomputable def hint : Nat → Hint
 | 0 => ⟨[(4, .keep), (6, .keep), (7, .own 9 K4)], [(705, [9]), (1153, [1, 0, 0])]⟩
 | _ => ⟨[], []⟩
noncomputable def join (_ : Nat) : Option Hint := none
noncomputable def body : Code := (Tryd.f34).body.getD .skip
noncomputable def rv : List ResultVar := (Tryd.f34).results.toList
noncomputable def fn : Fn := ⟨49, sig, rv, body, hint, join⟩
end impl_ParseDefs
namespace spec_l8Mark
noncomputable def m  : ByteArray → Option Bool
 | a0_0 => bif ByteArray.toList a0_0 == ByteArray.toList ({ data := #[123] } : ByteArray) then some true else bif ByteArray.toList a0_0 == ByteArray.toList ({ data := #[125] } : ByteArray) then some true else bif ByteArray.toList a0_0 == ByteArray.toList ({ data := #[44] } : ByteArray) then some true else some (ByteArray.toList a0_0 == ByteArray.toList ({ data := #[59] } : ByteArray))
noncomputable def sig : Sig := ⟨[.val false [⟨.str, 0, 0, false⟩]], [(.one, [(.bool, 0)])]⟩
noncomputable def hint (_ : Nat) : Hint := ⟨[], []⟩
noncomputable def join (_ : Nat) : Option Hint := none
noncomputable def body : Code := (Tryd.f145).body.getD .skip
noncomputable def rv : List ResultVar := (Tryd.f145).results.toList
noncomputable def fn : Fn := ⟨17, sig, rv, body, hint, join⟩
end spec_l8Mark
namespace spec_TokenOk
noncomputable def m (c137 c145 : ByteArray → Option Bool) : (Int × ByteArray) → Option Bool
 | (a0_0, a0_1) => bif a0_0 == 1 then Option.bind (c137 a0_1) fun r1 => some r1 else bif a0_0 == 2 then Option.bind (c145 a0_1) fun r2 => some r2 else some false
noncomputable def sig : Sig := ⟨[.val true [⟨.int .i64, 0, 0, false⟩, ⟨.str, 0, 0, false⟩]], [(.one, [(.bool, 0)])]⟩
noncomputable def hint (_ : Nat) : Hint := ⟨[], []⟩
noncomputable def join (_ : Nat) : Option Hint := none
noncomputable def body : Code := (Tryd.f127).body.getD .skip
noncomputable def rv : List ResultVar := (Tryd.f127).results.toList
noncomputable def fn : Fn := ⟨15, sig, rv, body, hint, join⟩
end spec_TokenOk
namespace spec_Lex
noncomputable def s0 (c125 : Int → Option Bool) (c127 : (Int × ByteArray) → Option Bool) (B2 : Y38 → Option Y37) (L0 : Y39 → Option Y37) : Y39 → Option Y37
 | (x0, x1, x2) => bif decide (x1 < (ByteArray.size x0 : Int)) then bif decide (0 ≤ x1) && decide (x1 < (ByteArray.size x0 : Int)) then bif ((ByteArray.get! x0 (toNat x1)).toNat : Int) == 32 then L0 (x0, wrap i64 (x1 + 1), x2) else bif ((ByteArray.get! x0 (toNat x1)).toNat : Int) == 9 then L0 (x0, wrap i64 (x1 + 1), x2) else bif ((ByteArray.get! x0 (toNat x1)).toNat : Int) == 10 then L0 (x0, wrap i64 (x1 + 1), x2) else bif ((ByteArray.get! x0 (toNat x1)).toNat : Int) == 13 then L0 (x0, wrap i64 (x1 + 1), x2) else Option.bind (c125 ((ByteArray.get! x0 (toNat x1)).toNat : Int)) fun r1 => bif r1 then B2 (x0, x1, wrap i64 (x1 + 1), ((ByteArray.get! x0 (toNat x1)).toNat : Int), ((ByteArray.get! x0 (toNat x1)).toNat : Int) == 9, ((ByteArray.get! x0 (toNat x1)).toNat : Int), ((ByteArray.get! x0 (toNat x1)).toNat : Int) == 10, ((ByteArray.get! x0 (toNat x1)).toNat : Int), ((ByteArray.get! x0 (toNat x1)).toNat : Int) == 13, (1 : Int), ByteArray.empty, x2) else bif decide (0 ≤ x1) && decide (x1 ≤ (wrap i64 (x1 + 1))) && decide ((wrap i64 (x1 + 1)) ≤ (ByteArray.size x0 : Int)) then Option.bind (c127 ((2 : Int), ByteArray.extract x0 (toNat x1) (toNat (wrap i64 (x1 + 1))))) fun r6 => bif !(r6) then some (([] : List (Int × ByteArray)), x1) else bif (List.length x2 : Int) == 500 then some (([] : List (Int × ByteArray)), x1) else bif decide ((List.length x2 + List.length ([((2 : Int), ByteArray.extract x0 (toNat x1) (toNat (wrap i64 (x1 + 1))))] : List (Int × ByteArray))) * 24 ≤ 140737488355328) then L0 (x0, wrap i64 (x1 + 1), x2 ++ ([((2 : Int), ByteArray.extract x0 (toNat x1) (toNat (wrap i64 (x1 + 1))))] : List (Int × ByteArray))) else none else none else none else some (x2, (-1 : Int))
noncomputable def ll0 : Y39 → LS
 | (x0, x1, x2) => ⟨[.cv ⟨.str, x0⟩, .ref 16 0 [] none 0, .cv ⟨.int .i64, x1⟩], [⟨true, [⟨0, 0, .mk 9 ⟨.row K7, x2⟩⟩]⟩]⟩
noncomputable def s2 (c125 c126 : Int → Option Bool) (c127 : (Int × ByteArray) → Option Bool) (L0 : Y39 → Option Y37) (L2 : Y38 → Option Y37) : Y38 → Option Y37
 | (x0, x1, x2, x3, x4, x5, x6, x7, x8, x9, x10, x11) => bif decide (x2 < (ByteArray.size x0 : Int)) then bif decide (0 ≤ x2) && decide (x2 < (ByteArray.size x0 : Int)) then Option.bind (c125 ((ByteArray.get! x0 (toNat x2)).toNat : Int)) fun r2 => bif r2 then L2 (x0, x1, wrap i64 (x2 + 1), x3, x4, x5, x6, x7, x8, x9, x10, x11) else bif decide (0 ≤ x2) && decide (x2 < (ByteArray.size x0 : Int)) then Option.bind (c126 ((ByteArray.get! x0 (toNat x2)).toNat : Int)) fun r3 => bif r3 then L2 (x0, x1, wrap i64 (x2 + 1), x3, x4, x5, x6, x7, x8, x9, x10, x11) else bif decide (0 ≤ x1) && decide (x1 ≤ x2) && decide (x2 ≤ (ByteArray.size x0 : Int)) then Option.bind (c127 (x9, ByteArray.extract x0 (toNat x1) (toNat x2))) fun r4 => bif !(r4) then some (([] : List (Int × ByteArray)), x1) else bif (List.length x11 : Int) == 500 then some (([] : List (Int × ByteArray)), x1) else bif decide ((List.length x11 + List.length ([(x9, ByteArray.extract x0 (toNat x1) (toNat x2))] : List (Int × ByteArray))) * 24 ≤ 140737488355328) then L0 (x0, x2, x11 ++ ([(x9, ByteArray.extract x0 (toNat x1) (toNat x2))] : List (Int × ByteArray))) else none else none else none else none else bif decide (0 ≤ x1) && decide (x1 ≤ x2) && decide (x2 ≤ (ByteArray.size x0 : Int)) then Option.bind (c127 (x9, ByteArray.extract x0 (toNat x1) (toNat x2))) fun r5 => bif !(r5) then some (([] : List (Int × ByteArray)), x1) else bif (List.length x11 : Int) == 500 then some (([] : List (Int × ByteArray)), x1) else bif decide ((List.length x11 + List.length ([(x9, ByteArray.extract x0 (toNat x1) (toNat x2))] : List (Int × ByteArray))) * 24 ≤ 140737488355328) then L0 (x0, x2, x11 ++ ([(x9, ByteArray.extract x0 (toNat x1) (toNat x2))] : List (Int × ByteArray))) else none else none
noncomputable def ll2 : Y38 → LS
 | (x0, x1, x2, x3, x4, x5, x6, x7, x8, x9, x10, x11) => ⟨[.cv ⟨.str, x0⟩, .ref 16 0 [] none 0, .cv ⟨.int .i64, x1⟩, .cv ⟨.int .i64, x2⟩, .addr 513 0 [] 0, .cv ⟨.int .u8, x3⟩, .cv ⟨.bool, x4⟩, .cv ⟨.int .u8, x5⟩, .cv ⟨.bool, x6⟩, .cv ⟨.int .u8, x7⟩, .cv ⟨.bool, x8⟩], [⟨false, [⟨0, 0, .mk 0 ⟨.int .i64, x9⟩⟩, ⟨0, 0, .mk 0 ⟨.str, x10⟩⟩]⟩, ⟨true, [⟨0, 0, .mk 9 ⟨.row K7, x11⟩⟩]⟩]⟩
noncomputable def m (B0 : Y39 → Option Y37) : ByteArray → Option Y37
 | a0_0 => B0 (a0_0, (0 : Int), ([] : List (Int × ByteArray)))
noncomputable def sig : Sig := ⟨[.val false [⟨.str, 0, 0, false⟩]], [(.one, [(.row K7, 1)]), (.one, [(.int .i64, 0)])]⟩
noncomputable def hint : Nat → Hint
 | 0 => ⟨[(0, .keep), (4, .own 9 K7), (5, .keep)], []⟩
 | 2 => ⟨[(0, .keep), (4, .own 9 K7), (5, .keep), (7, .keep), (8, .keep), (20, .keep), (21, .keep), (24, .keep), (25, .keep), (28, .keep), (29, .keep)], [(513, [0, 0])]⟩
 | _ => ⟨[], []⟩
noncomputable def join (_ : Nat) : Option Hint := none
noncomputable def body : Code := (Tryd.f81).body.getD .skip
noncomputable def rv : List ResultVar := (Tryd.f81).results.toList
noncomputable def fn : Fn := ⟨78, sig, rv, body, hint, join⟩
end spec_Lex
namespace spec_l10Is
noncomputable def m  : Y40 → Option (Bool × Int × Bool)
 | (a0_0, a0_1, a0_2, a1_0) => bif a0_2 then some (false, a0_1, a0_2) else bif decide (a0_1 ≥ (List.length a0_0 : Int)) then some (false, a0_1, a0_2) else bif decide (0 ≤ a0_1) && decide (a0_1 < (List.length a0_0 : Int)) then bif !(ByteArray.toList ((getD a0_0 (toNat a0_1) Z3).2) == ByteArray.toList a1_0) then some (false, a0_1, a0_2) else some (true, wrap i64 (a0_1 + 1), a0_2) else none
noncomputable def sig : Sig := ⟨[.ptr [⟨.row K7, 0, 1, false⟩, ⟨.int .i64, 0, 0, true⟩, ⟨.bool, 0, 0, true⟩], .val false [⟨.str, 0, 0, false⟩]], [(.one, [(.bool, 0)])]⟩
noncomputable def hint (_ : Nat) : Hint := ⟨[], []⟩
noncomputable def join (_ : Nat) : Option Hint := none
noncomputable def body : Code := (Tryd.f130).body.getD .skip
noncomputable def rv : List ResultVar := (Tryd.f130).results.toList
noncomputable def fn : Fn := ⟨43, sig, rv, body, hint, join⟩
end spec_l10Is
namespace spec_l10Must
noncomputable def m (c130 : Y40 → Option (Bool × Int × Bool)) : Y40 → Option (Int × Bool)
 | (a0_0, a0_1, a0_2, a1_0) => Option.bind (c130 (a0_0, a0_1, a0_2, a1_0)) fun r1 => bif !(r1.1) then some (r1.2.1, true) else some (r1.2.1, r1.2.2)
noncomputable def sig : Sig := ⟨[.ptr [⟨.row K7, 0, 1, false⟩, ⟨.int .i64, 0, 0, true⟩, ⟨.bool, 0, 0, true⟩], .val false [⟨.str, 0, 0, false⟩]], []⟩
noncomputable def hint (_ : Nat) : Hint := ⟨[], []⟩
noncomputable def join (_ : Nat) : Option Hint := none
noncomputable def body : Code := (Tryd.f128).body.getD .skip
noncomputable def rv : List ResultVar := (Tryd.f128).results.toList
noncomputable def fn : Fn := ⟨11, sig, rv, body, hint, join⟩
end spec_l10Must
namespace spec_l10Name
noncomputable def m  : Y41 → Option (ByteArray × Int × Bool)
 | (a0_0, a0_1, a0_2) => bif a0_2 then some (({ data := #[] } : ByteArray), a0_1, true) else bif decide (a0_1 ≥ (List.length a0_0 : Int)) then some (({ data := #[] } : ByteArray), a0_1, true) else bif decide (0 ≤ a0_1) && decide (a0_1 < (List.length a0_0 : Int)) then bif ((getD a0_0 (toNat a0_1) Z3).1) != 1 then some (({ data := #[] } : ByteArray), a0_1, true) else bif decide (0 ≤ (wrap i64 ((wrap i64 (a0_1 + 1)) - 1))) && decide ((wrap i64 ((wrap i64 (a0_1 + 1)) - 1)) < (List.length a0_0 : Int)) then some ((getD a0_0 (toNat (wrap i64 ((wrap i64 (a0_1 + 1)) - 1))) Z3).2, wrap i64 (a0_1 + 1), a0_2) else none else none
noncomputable def sig : Sig := ⟨[.ptr [⟨.row K7, 0, 1, false⟩, ⟨.int .i64, 0, 0, true⟩, ⟨.bool, 0, 0, true⟩]], [(.one, [(.str, 0)])]⟩
noncomputable def hint (_ : Nat) : Hint := ⟨[], []⟩
noncomputable def join (_ : Nat) : Option Hint := none
noncomputable def body : Code := (Tryd.f129).body.getD .skip
noncomputable def rv : List ResultVar := (Tryd.f129).results.toList
noncomputable def fn : Fn := ⟨55, sig, rv, body, hint, join⟩
end spec_l10Name
namespace spec_l10Col
noncomputable def s0 (c66 : Int → Option ByteArray) (c128 : Y40 → Option (Int × Bool)) (c130 : Y40 → Option (Bool × Int × Bool)) (L0 : Y51 → Option Y50) : Y51 → Option Y50
 | (x0, x1, x2, x3, x4, x5, x6, x7, x8, x9) => bif decide (x0 ≤ 4) then Option.bind (c66 x0) fun r2 => Option.bind (c130 (x1, x2, x3, r2)) fun r3 => bif r3.1 then Option.bind (c130 (x1, r3.2.1, r3.2.2, ({ data := #[110, 117, 108, 108] } : ByteArray))) fun r4 => Option.bind (c128 (x1, r4.2.1, r4.2.2, ({ data := #[59] } : ByteArray))) fun r5 => some (x7, x0, r4.1, r5.1, r5.2) else L0 (wrap i64 (x0 + 1), x1, r3.2.1, r3.2.2, x4, x5, x6, x7, x8, x9) else Option.bind (c130 (x1, x2, x3, ({ data := #[110, 117, 108, 108] } : ByteArray))) fun r6 => Option.bind (c128 (x1, r6.2.1, r6.2.2, ({ data := #[59] } : ByteArray))) fun r7 => some (x7, x8, r6.1, r7.1, r7.2)
noncomputable def ll0 : Y51 → LS
 | (x0, x1, x2, x3, x4, x5, x6, x7, x8, x9) => ⟨[.addr 2 0 [] 0, .addr 129 0 [] 0, .addr 193 0 [] 0, .cv ⟨.int .i64, x0⟩], [⟨false, [⟨0, 0, .lk ⟨.row K7, x1⟩⟩, ⟨0, 0, .mk 0 ⟨.int .i64, x2⟩⟩, ⟨0, 0, .mk 0 ⟨.bool, x3⟩⟩]⟩, ⟨false, [⟨0, 0, .mk 0 ⟨.str, x4⟩⟩, ⟨0, 0, .mk 0 ⟨.int .i64, x5⟩⟩, ⟨0, 0, .mk 0 ⟨.bool, x6⟩⟩]⟩, ⟨false, [⟨0, 0, .mk 0 ⟨.str, x7⟩⟩, ⟨0, 0, .mk 0 ⟨.int .i64, x8⟩⟩, ⟨0, 0, .mk 0 ⟨.bool, x9⟩⟩]⟩]⟩
noncomputable def m (c129 : Y41 → Option (ByteArray × Int × Bool)) (B0 : Y51 → Option Y50) : Y41 → Option Y50
 | (a0_0, a0_1, a0_2) => Option.bind (c129 (a0_0, a0_1, a0_2)) fun r1 => B0 ((1 : Int), a0_0, r1.2.1, r1.2.2, ByteArray.empty, (0 : Int), false, r1.1, (0 : Int), false)
noncomputable def sig : Sig := ⟨[.ptr [⟨.row K7, 0, 1, false⟩, ⟨.int .i64, 0, 0, true⟩, ⟨.bool, 0, 0, true⟩]], [(.agg, [(.str, 0), (.int .i64, 0), (.bool, 0)])]⟩
noncomputable def hint : Nat → Hint
 | 0 => ⟨[(0, .keep), (2, .keep), (3, .keep), (4, .keep)], [(2, [9, 0, 0]), (129, [0, 0, 0]), (193, [0, 0, 0])]⟩
 | _ => ⟨[], []⟩
noncomputable def join (_ : Nat) : Option Hint := none
noncomputable def body : Code := (Tryd.f131).body.getD .skip
noncomputable def rv : List ResultVar := (Tryd.f131).results.toList
noncomputable def fn : Fn := ⟨25, sig, rv, body, hint, join⟩
end spec_l10Col
namespace spec_l10Parts
noncomputable def s0 (c108 : Y5 → Option Int) (c128 : Y40 → Option (Int × Bool)) (c129 : Y41 → Option (ByteArray × Int × Bool)) (c130 : Y40 → Option (Bool × Int × Bool)) (L0 : Y52 → Option Y43) : Y52 → Option Y43
 | (x0, x1, x2, x3, x4, x5, x6, x7, x8) => bif x0 then bif !(x3) then Option.bind (c129 (x1, x2, x3)) fun r1 => Option.bind (c108 (x4, x5, x6, x7, r1.1)) fun r2 => Option.bind (c130 (x1, r1.2.1, r1.2.2, ({ data := #[100, 101, 115, 99] } : ByteArray))) fun r3 => bif decide ((List.length x8 + List.length ([(r2, r3.1)] : List (Int × Bool))) * 16 ≤ 140737488355328) then Option.bind (c130 (x1, r3.2.1, r3.2.2, ({ data := #[44] } : ByteArray))) fun r4 => L0 (r4.1, x1, r4.2.1, r4.2.2, x4, x5, x6, x7, x8 ++ ([(r2, r3.1)] : List (Int × Bool))) else none else Option.bind (c128 (x1, x2, x3, ({ data := #[59] } : ByteArray))) fun r5 => some (x8, r5.1, r5.2) else Option.bind (c128 (x1, x2, x3, ({ data := #[59] } : ByteArray))) fun r6 => some (x8, r6.1, r6.2)
noncomputable def ll0 : Y52 → LS
 | (x0, x1, x2, x3, x4, x5, x6, x7, x8) => ⟨[.addr 2 0 [] 0, .addr 193 0 [] 0, .ref 20 0 [] none 0, .cv ⟨.bool, x0⟩], [⟨false, [⟨0, 0, .lk ⟨.row K7, x1⟩⟩, ⟨0, 0, .mk 0 ⟨.int .i64, x2⟩⟩, ⟨0, 0, .mk 0 ⟨.bool, x3⟩⟩]⟩, ⟨false, [⟨0, 0, .mk 0 ⟨.str, x4⟩⟩, ⟨0, 0, .mk 0 ⟨.row K1, x5⟩⟩, ⟨0, 0, .mk 0 ⟨.row K2, x6⟩⟩, ⟨0, 0, .mk 0 ⟨.row K3, x7⟩⟩]⟩, ⟨true, [⟨0, 0, .mk 9 ⟨.row K2, x8⟩⟩]⟩]⟩
noncomputable def m (B0 : Y52 → Option Y43) : Y42 → Option Y43
 | (a0_0, a0_1, a0_2, a1_0, a1_1, a1_2, a1_3) => B0 (true, a0_0, a0_1, a0_2, a1_0, a1_1, a1_2, a1_3, ([] : List (Int × Bool)))
noncomputable def sig : Sig := ⟨[.ptr [⟨.row K7, 0, 1, false⟩, ⟨.int .i64, 0, 0, true⟩, ⟨.bool, 0, 0, true⟩], .val true [⟨.str, 0, 0, false⟩, ⟨.row K1, 0, 0, false⟩, ⟨.row K2, 0, 0, false⟩, ⟨.row K3, 0, 0, false⟩]], [(.one, [(.row K2, 1)])]⟩
noncomputable def hint : Nat → Hint
 | 0 => ⟨[(0, .keep), (3, .keep), (5, .own 9 K2), (6, .keep)], [(2, [9, 0, 0]), (193, [0, 0, 0, 0])]⟩
 | _ => ⟨[], []⟩
noncomputable def join (_ : Nat) : Option Hint := none
noncomputable def body : Code := (Tryd.f132).body.getD .skip
noncomputable def rv : List ResultVar := (Tryd.f132).results.toList
noncomputable def fn : Fn := ⟨35, sig, rv, body, hint, join⟩
end spec_l10Parts
namespace spec_l10Index
noncomputable def m (c129 : Y41 → Option (ByteArray × Int × Bool)) (c132 : Y42 → Option Y43) : Y53 → Option Y54
 | (a0_0, a0_1, a0_2, a1_0, a1_1, a1_2, a1_3, a2_0) => Option.bind (c129 (a0_0, a0_1, a0_2)) fun r1 => Option.bind (c132 (a0_0, r1.2.1, r1.2.2, a1_0, a1_1, a1_2, a1_3)) fun r2 => some (r1.1, a2_0, r2.1, r2.2.1, r2.2.2)
noncomputable def sig : Sig := ⟨[.ptr [⟨.row K7, 0, 1, false⟩, ⟨.int .i64, 0, 0, true⟩, ⟨.bool, 0, 0, true⟩], .val true [⟨.str, 0, 0, false⟩, ⟨.row K1, 0, 0, false⟩, ⟨.row K2, 0, 0, false⟩, ⟨.row K3, 0, 0, false⟩], .val false [⟨.bool, 0, 0, false⟩]], [(.agg, [(.str, 0), (.bool, 0), (.row K2, 1)])]⟩
noncomputable def hint (_ : Nat) : Hint := ⟨[], []⟩
noncomputable def join (_ : Nat) : Option Hint := none
noncomputable def body : Code := (Tryd.f133).body.getD .skip
noncomputable def rv : List ResultVar := (Tryd.f133).results.toList
noncomputable def fn : Fn := ⟨18, sig, rv, body, hint, join⟩
end spec_l10Index
namespace spec_l10Def
noncomputable def s0 (c130 : Y40 → Option (Bool × Int × Bool)) (c131 : Y41 → Option Y50) (c132 : Y42 → Option Y43) (B2 L0 : Y47 → Option Y46) : Y47 → Option Y46
 | (x0, x1, x2, x3, x4, x5, x6, x7, x8, x9, x10) => bif !(x2) then Option.bind (c130 (x0, x1, x2, ({ data := #[112, 114, 105, 109, 97, 114, 121] } : ByteArray))) fun r4 => bif !(r4.1) then Option.bind (c131 (x0, r4.2.1, r4.2.2)) fun r5 => bif decide ((List.length x8 + List.length ([(r5.1, r5.2.1, r5.2.2.1)] : List (ByteArray × Int × Bool))) * 32 ≤ 140737488355328) then L0 (x0, r5.2.2.2.1, r5.2.2.2.2, x3, x4, x5, x6, x7, x8 ++ ([(r5.1, r5.2.1, r5.2.2.1)] : List (ByteArray × Int × Bool)), x9, x10) else none else Option.bind (c132 (x0, r4.2.1, r4.2.2, x7, x8, x9, x10)) fun r6 => B2 (x0, r6.2.1, r6.2.2, x3, x4, x5, x6, x7, x8, r6.1, x10) else Option.bind (c132 (x0, x1, x2, x7, x8, x9, x10)) fun r12 => B2 (x0, r12.2.1, r12.2.2, x3, x4, x5, x6, x7, x8, r12.1, x10)
noncomputable def ll0 : Y47 → LS
 | (x0, x1, x2, x3, x4, x5, x6, x7, x8, x9, x10) => ⟨[.addr 2 0 [] 0, .addr 129 0 [] 0, .addr 193 0 [] 0], [⟨false, [⟨0, 0, .lk ⟨.row K7, x0⟩⟩, ⟨0, 0, .mk 0 ⟨.int .i64, x1⟩⟩, ⟨0, 0, .mk 0 ⟨.bool, x2⟩⟩]⟩, ⟨false, [⟨0, 0, .mk 0 ⟨.str, x3⟩⟩, ⟨0, 0, .mk 9 ⟨.row K1, x4⟩⟩, ⟨0, 0, .mk 9 ⟨.row K2, x5⟩⟩, ⟨0, 0, .mk 9 ⟨.row K3, x6⟩⟩]⟩, ⟨false, [⟨0, 0, .mk 0 ⟨.str, x7⟩⟩, ⟨0, 0, .mk 9 ⟨.row K1, x8⟩⟩, ⟨0, 0, .mk 9 ⟨.row K2, x9⟩⟩, ⟨0, 0, .mk 9 ⟨.row K3, x10⟩⟩]⟩]⟩
noncomputable def s2 (c128 : Y40 → Option (Int × Bool)) (c130 : Y40 → Option (Bool × Int × Bool)) (c133 : Y53 → Option Y54) (L2 : Y47 → Option Y46) : Y47 → Option Y46
 | (x0, x1, x2, x3, x4, x5, x6, x7, x8, x9, x10) => bif !(x2) then Option.bind (c130 (x0, x1, x2, ({ data := #[125] } : ByteArray))) fun r7 => bif !(r7.1) then Option.bind (c130 (x0, r7.2.1, r7.2.2, ({ data := #[117, 110, 105, 113, 117, 101] } : ByteArray))) fun r8 => bif !(r8.1) then Option.bind (c128 (x0, r8.2.1, r8.2.2, ({ data := #[105, 110, 100, 101, 120] } : ByteArray))) fun r9 => Option.bind (c133 (x0, r9.1, r9.2, x7, x8, x9, x10, r8.1)) fun r10 => bif decide ((List.length x10 + List.length ([(r10.1, r10.2.1, r10.2.2.1)] : List (ByteArray × Bool × (List (Int × Bool))))) * 48 ≤ 140737488355328) then L2 (x0, r10.2.2.2.1, r10.2.2.2.2, x3, x4, x5, x6, x7, x8, x9, x10 ++ ([(r10.1, r10.2.1, r10.2.2.1)] : List (ByteArray × Bool × (List (Int × Bool))))) else none else Option.bind (c133 (x0, r8.2.1, r8.2.2, x7, x8, x9, x10, r8.1)) fun r11 => bif decide ((List.length x10 + List.length ([(r11.1, r11.2.1, r11.2.2.1)] : List (ByteArray × Bool × (List (Int × Bool))))) * 48 ≤ 140737488355328) then L2 (x0, r11.2.2.2.1, r11.2.2.2.2, x3, x4, x5, x6, x7, x8, x9, x10 ++ ([(r11.1, r11.2.1, r11.2.2.1)] : List (ByteArray × Bool × (List (Int × Bool))))) else none else some (x7, x8, x9, x10, r7.2.1, r7.2.2) else some (x7, x8, x9, x10, x1, x2)
noncomputable def ll2 : Y47 → LS
 | (x0, x1, x2, x3, x4, x5, x6, x7, x8, x9, x10) => ⟨[.addr 2 0 [] 0, .addr 129 0 [] 0, .addr 193 0 [] 0], [⟨false, [⟨0, 0, .lk ⟨.row K7, x0⟩⟩, ⟨0, 0, .mk 0 ⟨.int .i64, x1⟩⟩, ⟨0, 0, .mk 0 ⟨.bool, x2⟩⟩]⟩, ⟨false, [⟨0, 0, .mk 0 ⟨.str, x3⟩⟩, ⟨0, 0, .mk 9 ⟨.row K1, x4⟩⟩, ⟨0, 0, .mk 9 ⟨.row K2, x5⟩⟩, ⟨0, 0, .mk 9 ⟨.row K3, x6⟩⟩]⟩, ⟨false, [⟨0, 0, .mk 0 ⟨.str, x7⟩⟩, ⟨0, 0, .mk 9 ⟨.row K1, x8⟩⟩, ⟨0, 0, .mk 1 ⟨.row K2, x9⟩⟩, ⟨0, 0, .mk 9 ⟨.row K3, x10⟩⟩]⟩]⟩
noncomputable def m (c128 : Y40 → Option (Int × Bool)) (c129 : Y41 → Option (ByteArray × Int × Bool)) (B0 : Y47 → Option Y46) : Y41 → Option Y46
 | (a0_0, a0_1, a0_2) => Option.bind (c128 (a0_0, a0_1, a0_2, ({ data := #[116, 97, 98, 108, 101] } : ByteArray))) fun r1 => Option.bind (c129 (a0_0, r1.1, r1.2)) fun r2 => Option.bind (c128 (a0_0, r2.2.1, r2.2.2, ({ data := #[123] } : ByteArray))) fun r3 => B0 (a0_0, r3.1, r3.2, ByteArray.empty, ([] : List (ByteArray × Int × Bool)), ([] : List (Int × Bool)), ([] : List (ByteArray × Bool × (List (Int × Bool)))), r2.1, ([] : List (ByteArray × Int × Bool)), ([] : List (Int × Bool)), ([] : List (ByteArray × Bool × (List (Int × Bool)))))
noncomputable def sig : Sig := ⟨[.ptr [⟨.row K7, 0, 1, false⟩, ⟨.int .i64, 0, 0, true⟩, ⟨.bool, 0, 0, true⟩]], [(.agg, [(.str, 0), (.row K1, 1), (.row K2, 1), (.row K3, 2)])]⟩
noncomputable def hint : Nat → Hint
 | 0 => ⟨[(0, .keep), (2, .keep), (3, .keep)], [(2, [9, 0, 0]), (129, [0, 9, 9, 9]), (193, [0, 9, 9, 9])]⟩
 | 2 => ⟨[(0, .keep), (2, .keep), (3, .keep)], [(2, [9, 0, 0]), (129, [0, 9, 9, 9]), (193, [0, 9, 1, 9])]⟩
 | _ => ⟨[], []⟩
noncomputable def join (_ : Nat) : Option Hint := none
noncomputable def body : Code := (Tryd.f82).body.getD .skip
noncomputable def rv : List ResultVar := (Tryd.f82).results.toList
noncomputable def fn : Fn := ⟨64, sig, rv, body, hint, join⟩
end spec_l10Def
namespace spec_ParseDefs
noncomputable def s0 (c15 : Y10 → Option Int) (c82 : Y41 → Option Y46) (L0 : Y49 → Option Y48) : Y49 → Option Y48
 | (x0, x1, x2, x3) => bif !(x2) then bif decide (x1 < (List.length x0 : Int)) then Option.bind (c82 (x0, x1, x2)) fun r2 => bif decide ((List.length x3 + List.length ([(r2.1, r2.2.1, r2.2.2.1, r2.2.2.2.1)] : List (ByteArray × (List (ByteArray × Int × Bool)) × (List (Int × Bool)) × (List (ByteArray × Bool × (List (Int × Bool))))))) * 88 ≤ 140737488355328) then L0 (x0, r2.2.2.2.2.1, r2.2.2.2.2.2, x3 ++ ([(r2.1, r2.2.1, r2.2.2.1, r2.2.2.2.1)] : List (ByteArray × (List (ByteArray × Int × Bool)) × (List (Int × Bool)) × (List (ByteArray × Bool × (List (Int × Bool))))))) else none else bif x2 then some (([] : List (ByteArray × (List (ByteArray × Int × Bool)) × (List (Int × Bool)) × (List (ByteArray × Bool × (List (Int × Bool)))))), false) else Option.bind (c15 x3) fun r3 => bif r3 != (-1) then some (([] : List (ByteArray × (List (ByteArray × Int × Bool)) × (List (Int × Bool)) × (List (ByteArray × Bool × (List (Int × Bool)))))), false) else some (x3, true) else bif x2 then some (([] : List (ByteArray × (List (ByteArray × Int × Bool)) × (List (Int × Bool)) × (List (ByteArray × Bool × (List (Int × Bool)))))), false) else Option.bind (c15 x3) fun r4 => bif r4 != (-1) then some (([] : List (ByteArray × (List (ByteArray × Int × Bool)) × (List (Int × Bool)) × (List (ByteArray × Bool × (List (Int × Bool)))))), false) else some (x3, true)
noncomputable def ll0 : Y49 → LS
 | (x0, x1, x2, x3) => ⟨[.addr 1153 0 [] 0, .ref 28 0 [] none 0], [⟨false, [⟨0, 0, .mk 1 ⟨.row K7, x0⟩⟩, ⟨0, 0, .mk 0 ⟨.int .i64, x1⟩⟩, ⟨0, 0, .mk 0 ⟨.bool, x2⟩⟩]⟩, ⟨true, [⟨0, 0, .mk 9 ⟨.row K4, x3⟩⟩]⟩]⟩
noncomputable def m (c81 : ByteArray → Option Y37) (B0 : Y49 → Option Y48) : ByteArray → Option Y48
 | a0_0 => Option.bind (c81 a0_0) fun r1 => B0 (r1.1, (0 : Int), r1.2 != (-1), ([] : List (ByteArray × (List (ByteArray × Int × Bool)) × (List (Int × Bool)) × (List (ByteArray × Bool × (List (Int × Bool)))))))
noncomputable def sig : Sig := ⟨[.val false [⟨.str, 0, 0, false⟩]], [(.one, [(.row K4, 3)]), (.one, [(.bool, 0)])]⟩
noncomputable def hint : Nat → Hint
 | 0 => ⟨[(6, .keep), (7, .own 9 K4)], [(1153, [1, 0, 0])]⟩
 | _ => ⟨[], []⟩
noncomputable def join (_ : Nat) : Option Hint := none
noncomputable def body : Code := (Tryd.f35).body.getD .skip
noncomputable def rv : List ResultVar := (Tryd.f35).results.toList
noncomputable def fn : Fn := ⟨54, sig, rv, body, hint, join⟩
end spec_ParseDefs
namespace spec_DrawParseDefs
noncomputable def m (c31 : Y10 → Option ByteArray) (c52 : ((List Int)) → Option ((List Int) × Int × Int)) (c90 : ((List Int) × Int × Int) → Option Y36) (c91 : Y23 → Option (Int × Int × Int)) (c92 : Y24 → Option (ByteArray × Int × Int)) : ((List Int)) → Option ByteArray
 | a0_0 => Option.bind (c52 a0_0) fun r1 => Option.bind (c90 (r1.1, r1.2.1, r1.2.2)) fun r2 => Option.bind (c31 r2.1) fun r3 => Option.bind (c91 (r1.1, r2.2.1, r2.2.2, (6 : Int))) fun r4 => bif r4.1 == 0 then Option.bind (c92 (r1.1, r4.2.1, r4.2.2, ([({ data := #[] } : ByteArray), ({ data := #[116, 97, 98, 108, 101, 32, 116, 123, 105, 100, 32, 105, 110, 116, 59, 112, 114, 105, 109, 97, 114, 121, 32, 105, 100, 59, 125] } : ByteArray), ({ data := #[116, 97, 98, 108, 101, 32, 116, 32, 123, 32, 112, 114, 105, 109, 97, 114, 121, 32, 105, 100, 59, 32, 125] } : ByteArray), ({ data := #[116, 97, 98, 108, 101, 32, 116, 32, 123, 32, 105, 100, 32, 105, 110, 116, 59, 32, 125] } : ByteArray), ({ data := #[116, 97, 98, 108, 101, 32, 116, 32, 123, 32, 105, 100, 32, 105, 110, 116, 59, 32, 112, 114, 105, 109, 97, 114, 121, 32, 105, 100, 32, 100, 101, 115, 99, 44, 32, 105, 100, 59, 32, 125] } : ByteArray), ({ data := #[116, 97, 98, 108, 101, 32, 116, 32, 123, 32, 105, 100, 32, 105, 110, 116, 32, 110, 117, 108, 108, 59, 32, 112, 114, 105, 109, 97, 114, 121, 32, 105, 100, 59, 32, 125] } : ByteArray), ({ data := #[116, 97, 98, 108, 101, 32, 116, 32, 123, 32, 105, 100, 32, 105, 110, 116, 59, 32, 112, 114, 105, 109, 97, 114, 121, 32, 120, 59, 32, 125] } : ByteArray), ({ data := #[116, 97, 98, 108, 101, 32, 116, 32, 123, 32, 105, 100, 32, 105, 110, 116, 59, 32, 112, 114, 105, 109, 97, 114, 121, 32, 105, 100, 59, 32, 117, 110, 105, 113, 117, 101, 32, 117, 32, 105, 100, 59, 32, 105, 110, 100, 101, 120, 32, 117, 32, 105, 100, 59, 32, 125] } : ByteArray), ({ data := #[116, 97, 98, 108, 101] } : ByteArray), ({ data := #[116, 97, 98, 108, 101, 32, 116, 32, 123, 32, 105, 100, 32, 105, 110, 116, 59, 32, 112, 114, 105, 109, 97, 114, 121, 32, 105, 100, 59, 32, 125, 32, 120] } : ByteArray)] : List ByteArray))) fun r5 => some r5.1 else bif r4.1 == 1 then Option.bind (c91 (r1.1, r4.2.1, r4.2.2, wrap i64 ((ByteArray.size r3 : Int) + 1))) fun r6 => bif decide (0 ≤ 0) && decide ((0 : Int) ≤ r6.1) && decide (r6.1 ≤ (ByteArray.size r3 : Int)) then Option.bind (c92 (r1.1, r6.2.1, r6.2.2, ([({ data := #[32] } : ByteArray), ({ data := #[59] } : ByteArray), ({ data := #[44] } : ByteArray), ({ data := #[120] } : ByteArray), ({ data := #[110, 117, 108, 108, 32] } : ByteArray), ({ data := #[123] } : ByteArray)] : List ByteArray))) fun r7 => bif decide (¬ ((ByteArray.size (ByteArray.extract r3 (toNat (0 : Int)) (toNat r6.1)) + ByteArray.size r7.1 : Nat) : Int) > IntKind.max i64) then bif decide (0 ≤ r6.1) && decide (r6.1 ≤ (ByteArray.size r3 : Int)) && decide ((ByteArray.size r3 : Int) ≤ (ByteArray.size r3 : Int)) then bif decide (¬ ((ByteArray.size (ByteArray.append (ByteArray.extract r3 (toNat (0 : Int)) (toNat r6.1)) r7.1) + ByteArray.size (ByteArray.extract r3 (toNat r6.1) (toNat (ByteArray.size r3 : Int))) : Nat) : Int) > IntKind.max i64) then some (ByteArray.append (ByteArray.append (ByteArray.extract r3 (toNat (0 : Int)) (toNat r6.1)) r7.1) (ByteArray.extract r3 (toNat r6.1) (toNat (ByteArray.size r3 : Int)))) else none else none else none else none else bif r4.1 == 2 then Option.bind (c91 (r1.1, r4.2.1, r4.2.2, wrap i64 ((ByteArray.size r3 : Int) + 1))) fun r8 => bif decide (0 ≤ 0) && decide ((0 : Int) ≤ r8.1) && decide (r8.1 ≤ (ByteArray.size r3 : Int)) then some (ByteArray.extract r3 (toNat (0 : Int)) (toNat r8.1)) else none else some r3
noncomputable def sig : Sig := ⟨[.val false [⟨.row K5, 0, 0, false⟩]], [(.one, [(.str, 0)])]⟩
noncomputable def hint (_ : Nat) : Hint := ⟨[], []⟩
noncomputable def join (_ : Nat) : Option Hint := none
noncomputable def body : Code := (Tryd.f38).body.getD .skip
noncomputable def rv : List ResultVar := (Tryd.f38).results.toList
noncomputable def fn : Fn := ⟨46, sig, rv, body, hint, join⟩
end spec_DrawParseDefs
namespace laws_FnDefsRead
noncomputable def s0 (L0 : Y55 → Option Bool) : Y55 → Option Bool
 | (x0, x1, x2) => bif decide (x0 < (List.length x1 : Int)) then bif decide (0 ≤ x0) && decide (x0 < (List.length x1 : Int)) then bif decide (0 ≤ x0) && decide (x0 < (List.length x2 : Int)) then bif !((((getD x1 (toNat x0) Z3).1) == ((getD x2 (toNat x0) Z3).1) && ByteArray.toList ((getD x1 (toNat x0) Z3).2) == ByteArray.toList ((getD x2 (toNat x0) Z3).2))) then some false else L0 (wrap i64 (x0 + 1), x1, x2) else none else none else some true
noncomputable def ll0 : Y55 → LS
 | (x0, x1, x2) => ⟨[.ref 32 0 [] none 0, .ref 40 0 [] none 0, .cv ⟨.int .i64, x0⟩], [⟨true, [⟨0, 0, .mk 1 ⟨.row K7, x1⟩⟩]⟩, ⟨true, [⟨0, 0, .mk 1 ⟨.row K7, x2⟩⟩]⟩]⟩
noncomputable def m (c17 : Y10 → Option Int) (c19 : ((List Int)) → Option Bool) (c32 : Y10 → Option ByteArray) (c34 c35 : ByteArray → Option Y48) (c38 : ((List Int)) → Option ByteArray) (c39 : ByteArray → Option Y37) (B0 : Y55 → Option Bool) : ((List Int)) → Option Bool
 | a0_0 => Option.bind (c19 a0_0) fun r1 => bif r1 then some true else Option.bind (c38 a0_0) fun r2 => Option.bind (c34 r2) fun r3 => Option.bind (c35 r2) fun r4 => bif !(r3.2 == r4.2) then bif r3.2 == r4.2 then some ((List.length r3.1 : Int) == 0) else some false else bif !(r3.2) then bif r3.2 == r4.2 then some ((List.length r3.1 : Int) == 0) else some false else Option.bind (c39 r2) fun r5 => Option.bind (c32 r3.1) fun r6 => Option.bind (c39 r6) fun r7 => bif r7.2 != (-1) then some false else bif (List.length r5.1 : Int) != (List.length r7.1 : Int) then some false else Option.bind (c17 r3.1) fun r8 => bif r8 != (-1) then some false else B0 ((0 : Int), r5.1, r7.1)
noncomputable def sig : Sig := ⟨[.val false [⟨.row K5, 0, 0, false⟩]], [(.one, [(.bool, 0)])]⟩
noncomputable def hint : Nat → Hint
 | 0 => ⟨[(8, .own 1 K7), (10, .own 1 K7), (12, .keep)], []⟩
 | _ => ⟨[], []⟩
noncomputable def join (_ : Nat) : Option Hint := none
noncomputable def body : Code := (Tryd.f9).body.getD .skip
noncomputable def rv : List ResultVar := (Tryd.f9).results.toList
noncomputable def fn : Fn := ⟨82, sig, rv, body, hint, join⟩
end laws_FnDefsRead
noncomputable def fns : Nat → Fn
 | 101 => spec_l1In.fn
 | 125 => spec_l8Small.fn
 | 126 => spec_l2Digit.fn
 | 137 => spec_l8Name.fn
 | 138 => spec_l9Has.fn
 | 107 => spec_l9Word.fn
 | 60 => spec_l9Names.fn
 | 61 => spec_l9Types.fn
 | 108 => spec_l9Col.fn
 | 62 => spec_l9Once.fn
 | 109 => spec_l9Parts.fn
 | 63 => spec_l9AllParts.fn
 | 23 => spec_CheckDef.fn
 | 15 => spec_FirstBad.fn
 | 55 => impl_in.fn
 | 93 => impl_isLetter.fn
 | 94 => impl_isDigit.fn
 | 135 => impl_nameOk.fn
 | 106 => impl_isFree.fn
 | 54 => impl_namesOk.fn
 | 56 => impl_twice.fn
 | 57 => impl_partsOk.fn
 | 21 => impl_CheckDef.fn
 | 17 => impl_FirstBad.fn
 | 19 => laws_big.fn
 | 52 => spec_l1New.fn
 | 134 => spec_l1Byte.fn
 | 91 => spec_l1Below.fn
 | 92 => spec_l1Str.fn
 | 58 => spec_l1Once.fn
 | 96 => spec_l1Int.fn
 | 104 => spec_l9Draw2.fn
 | 103 => spec_l9Draw.fn
 | 65 => impl_partsText.fn
 | 24 => impl_DefText.fn
 | 66 => spec_l9Type.fn
 | 67 => spec_l9PartsText.fn
 | 25 => spec_DefText.fn
 | 31 => spec_DefsText.fn
 | 32 => impl_DefsText.fn
 | 90 => spec_l10Draw.fn
 | 136 => impl_isMark.fn
 | 95 => impl_TokenOk.fn
 | 39 => impl_Lex.fn
 | 122 => impl_tokens_maybe.fn
 | 120 => impl_tokens_want.fn
 | 121 => impl_tokens_name.fn
 | 123 => impl_tokens_typed.fn
 | 124 => impl_tokens_parts.fn
 | 80 => impl_tokens_def.fn
 | 34 => impl_ParseDefs.fn
 | 145 => spec_l8Mark.fn
 | 127 => spec_TokenOk.fn
 | 81 => spec_Lex.fn
 | 130 => spec_l10Is.fn
 | 128 => spec_l10Must.fn
 | 129 => spec_l10Name.fn
 | 131 => spec_l10Col.fn
 | 132 => spec_l10Parts.fn
 | 133 => spec_l10Index.fn
 | 82 => spec_l10Def.fn
 | 35 => spec_ParseDefs.fn
 | 38 => spec_DrawParseDefs.fn
 | 9 => laws_FnDefsRead.fn
 | 64 => ⟨0, strings_Split.sig, [], .refuse "", fun _ => ⟨[], []⟩, fun _ => none⟩
 | 111 => ⟨0, strings_Join.sig, [], .refuse "", fun _ => ⟨[], []⟩, fun _ => none⟩
 | _ => ⟨0, ⟨[], []⟩, [], .refuse "", fun _ => ⟨[], []⟩, fun _ => none⟩
noncomputable def sigs (f : Nat) : Sig := (fns f).sig
end
end Go.PV.T
