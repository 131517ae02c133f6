/- Functions of the program by their own lists and numbers. No condition beyond those in each statement. -/
import Derived.Test.YtipehkeabnfngaaDoorPvLibD
import Derived.Test.YtipehkeabnfngaaDoorProg
import Derived.KernelRfl
set_option linter.unusedVariables false
set_option linter.unusedSimpArgs false
set_option maxRecDepth 100000
set_option linter.unusedVariables false
namespace Go.PV.T
open Go.Proofs
noncomputable section
abbrev K0 : SS := .one (.str)
abbrev K1 : SS := .cons (.str) (.cons (.int .i64) (.one (.bool)))
abbrev K2 : SS := .cons (.int .i64) (.one (.bool))
abbrev K3 : SS := .cons (.str) (.cons (.bool) (.one (.row K2)))
abbrev K4 : SS := .one (.int .u8)
abbrev K5 : SS := .one (.int .i64)
abbrev K6 : SS := .cons (.int .i64) (.cons (.int .i64) (.cons (.bool) (.one (.bool))))
noncomputable def eqts (t : Nat) : Bool := memN t [71]
noncomputable def tys : Nat → TyI
  | 3 => .cell (.int .i64) 0
  | 4 => .cell (.bool) 0
  | 5 => .cell (.int .u8) 0
  | 9 => .cell (.str) 0
  | 29 => .cell (.row K4) 1
  | 31 => .cell (.row K1) 32
  | 32 => .cell (.row K2) 16
  | 33 => .cell (.row K3) 48
  | 35 => .strct [0, 1, 2, 3] [.str, .row K1, .row K2, .row K3]
  | 64 => .cell (.row K6) 24
  | 69 => .strct [0, 1, 2] [.str, .bool, .row K2]
  | 71 => .strct [0, 1, 2, 3] [.int .i64, .int .i64, .bool, .bool]
  | 82 => .strct [0, 1, 2] [.str, .int .i64, .bool]
  | 85 => .strct [0, 1] [.int .i64, .bool]
  | 88 => .cell (.row K0) 16
  | 118 => .cell (.row K5) 8
  | 124 => .strct [0, 1, 2] [.row K4, .int .i64, .int .i64]
  | _ => .no
noncomputable def strings_Split.sig : Sig := ⟨[.val false [⟨.str, 0, 0, false⟩], .val false [⟨.str, 0, 0, false⟩]], [(.one, [(.row K0, 1)])]⟩
noncomputable def spec_l1In.m  : (Int × Int × Int) → Option (Bool)
  | (a0_0, a1_0, a2_0) =>
  bif decide (a0_0 ≥ a1_0) then
   some (decide (a0_0 ≤ a2_0))
  else
   some false
noncomputable def spec_l1In.sig : Sig := ⟨[.val false [⟨.int .i64, 0, 0, false⟩], .val false [⟨.int .i64, 0, 0, false⟩], .val false [⟨.int .i64, 0, 0, false⟩]], [(.one, [(.bool, 0)])]⟩
noncomputable def spec_l1In.hint : Nat → Hint
  | _ => ⟨[], []⟩
noncomputable def spec_l1In.join : Nat → Option Hint
  | _ => none
noncomputable def spec_l1In.body : Code := (Tryd.f101).body.getD .skip
noncomputable def spec_l1In.rv : List ResultVar := (Tryd.f101).results.toList
noncomputable def spec_l8Small.m (c101 : Int × Int × Int → Option (Bool)) : (Int) → Option (Bool)
  | a0_0 =>
  Option.bind (c101 (IntKind.wrap IntKind.i64 a0_0, (97 : Int), (122 : Int))) fun r1 =>
   some r1
noncomputable def spec_l8Small.sig : Sig := ⟨[.val false [⟨.int .u8, 0, 0, false⟩]], [(.one, [(.bool, 0)])]⟩
noncomputable def spec_l8Small.hint : Nat → Hint
  | _ => ⟨[], []⟩
noncomputable def spec_l8Small.join : Nat → Option Hint
  | _ => none
noncomputable def spec_l8Small.body : Code := (Tryd.f125).body.getD .skip
noncomputable def spec_l8Small.rv : List ResultVar := (Tryd.f125).results.toList
noncomputable def spec_l2Digit.m (c101 : Int × Int × Int → Option (Bool)) : (Int) → Option (Bool)
  | a0_0 =>
  Option.bind (c101 (IntKind.wrap IntKind.i64 a0_0, (48 : Int), (57 : Int))) fun r1 =>
   some r1
noncomputable def spec_l2Digit.sig : Sig := ⟨[.val false [⟨.int .u8, 0, 0, false⟩]], [(.one, [(.bool, 0)])]⟩
noncomputable def spec_l2Digit.hint : Nat → Hint
  | _ => ⟨[], []⟩
noncomputable def spec_l2Digit.join : Nat → Option Hint
  | _ => none
noncomputable def spec_l2Digit.body : Code := (Tryd.f126).body.getD .skip
noncomputable def spec_l2Digit.rv : List ResultVar := (Tryd.f126).results.toList
noncomputable def spec_l8Name.s0 (c101 : Int × Int × Int → Option (Bool)) (c125 : (Int) → Option (Bool)) (c126 : (Int) → Option (Bool)) (L0 : (ByteArray × Int) → Option (Bool)) : (ByteArray × Int) → Option (Bool)
  | (x0, x1) =>
  bif decide (x1 < (ByteArray.size x0 : Int)) then
   bif decide (0 ≤ x1) && decide (x1 < (ByteArray.size x0 : Int)) then
    Option.bind (c125 ((ByteArray.get! x0 (Int.toNat x1)).toNat : Int)) fun r1 =>
     bif !(r1) then
      bif x1 == (0 : Int) then
       some false
      else
       bif decide (0 ≤ x1) && decide (x1 < (ByteArray.size x0 : Int)) then
        Option.bind (c126 ((ByteArray.get! x0 (Int.toNat x1)).toNat : Int)) fun r2 =>
         bif !(r2) then
          some false
         else
          L0 (x0, IntKind.wrap IntKind.i64 (x1 + (1 : Int)))
       else
        none
     else
      L0 (x0, IntKind.wrap IntKind.i64 (x1 + (1 : Int)))
   else
    none
  else
   Option.bind (c101 ((ByteArray.size x0 : Int), (1 : Int), (8 : Int))) fun r3 =>
    some r3
noncomputable def spec_l8Name.ll0 : (ByteArray × Int) → LS
  | (x0, x1) => ⟨[.cv ⟨.str, x0⟩, .cv ⟨.int .i64, x1⟩], []⟩
noncomputable def spec_l8Name.m (B0 : (ByteArray × Int) → Option (Bool)) : (ByteArray) → Option (Bool)
  | a0_0 =>
  B0 (a0_0, (0 : Int))
noncomputable def spec_l8Name.sig : Sig := ⟨[.val false [⟨.str, 0, 0, false⟩]], [(.one, [(.bool, 0)])]⟩
noncomputable def spec_l8Name.hint : Nat → Hint
  | 0 => ⟨[(0, .keep), (3, .keep)], []⟩
  | _ => ⟨[], []⟩
noncomputable def spec_l8Name.join : Nat → Option Hint
  | _ => none
noncomputable def spec_l8Name.body : Code := (Tryd.f137).body.getD .skip
noncomputable def spec_l8Name.rv : List ResultVar := (Tryd.f137).results.toList
noncomputable def spec_l9Has.s0 (L0 : ((List ByteArray) × ByteArray × Int) → Option (Bool)) : ((List ByteArray) × ByteArray × Int) → Option (Bool)
  | (x0, x1, x2) =>
  bif decide (x2 < (List.length x0 : Int)) then
   bif decide (0 ≤ x2) && decide (x2 < (List.length x0 : Int)) then
    bif ByteArray.toList (List.getD x0 (Int.toNat x2) ByteArray.empty) == ByteArray.toList x1 then
     some true
    else
     L0 (x0, x1, IntKind.wrap IntKind.i64 (x2 + (1 : Int)))
   else
    none
  else
   some false
noncomputable def spec_l9Has.ll0 : ((List ByteArray) × ByteArray × Int) → LS
  | (x0, x1, x2) => ⟨[.cv ⟨.row K0, x0⟩, .cv ⟨.str, x1⟩, .cv ⟨.int .i64, x2⟩], []⟩
noncomputable def spec_l9Has.m (B0 : ((List ByteArray) × ByteArray × Int) → Option (Bool)) : ((List ByteArray) × ByteArray) → Option (Bool)
  | (a0_0, a1_0) =>
  B0 (a0_0, a1_0, (0 : Int))
noncomputable def spec_l9Has.sig : Sig := ⟨[.val false [⟨.row K0, 0, 0, false⟩], .val false [⟨.str, 0, 0, false⟩]], [(.one, [(.bool, 0)])]⟩
noncomputable def spec_l9Has.hint : Nat → Hint
  | 0 => ⟨[(0, .keep), (1, .keep), (5, .keep)], []⟩
  | _ => ⟨[], []⟩
noncomputable def spec_l9Has.join : Nat → Option Hint
  | _ => none
noncomputable def spec_l9Has.body : Code := (Tryd.f138).body.getD .skip
noncomputable def spec_l9Has.rv : List ResultVar := (Tryd.f138).results.toList
noncomputable def spec_l9Word.m (c137 : (ByteArray) → Option (Bool)) (c138 : (List ByteArray) × ByteArray → Option (Bool)) : (ByteArray) → Option (Bool)
  | a0_0 =>
  Option.bind (c137 a0_0) fun r1 =>
   bif r1 then
    Option.bind (c138 (([({ data := #[116, 97, 98, 108, 101] } : ByteArray), ({ data := #[112, 114, 105, 109, 97, 114, 121] } : ByteArray), ({ data := #[117, 110, 105, 113, 117, 101] } : ByteArray), ({ data := #[105, 110, 100, 101, 120] } : ByteArray), ({ data := #[110, 117, 108, 108] } : ByteArray), ({ data := #[100, 101, 115, 99] } : ByteArray), ({ data := #[105, 110, 116] } : ByteArray), ({ data := #[110, 117, 109] } : ByteArray), ({ data := #[116, 101, 120, 116] } : ByteArray), ({ data := #[98, 111, 111, 108] } : ByteArray)] : List ByteArray), a0_0)) fun r2 =>
     some (!(r2))
   else
    some false
noncomputable def spec_l9Word.sig : Sig := ⟨[.val false [⟨.str, 0, 0, false⟩]], [(.one, [(.bool, 0)])]⟩
noncomputable def spec_l9Word.hint : Nat → Hint
  | _ => ⟨[], []⟩
noncomputable def spec_l9Word.join : Nat → Option Hint
  | _ => none
noncomputable def spec_l9Word.body : Code := (Tryd.f107).body.getD .skip
noncomputable def spec_l9Word.rv : List ResultVar := (Tryd.f107).results.toList
noncomputable def spec_l9Names.s0 (c107 : (ByteArray) → Option (Bool)) (B2 : (Int × ByteArray × (List (ByteArray × Int × Bool)) × (List (Int × Bool)) × (List (ByteArray × Bool × (List (Int × Bool))))) → Option (Bool)) (L0 : (Int × ByteArray × (List (ByteArray × Int × Bool)) × (List (Int × Bool)) × (List (ByteArray × Bool × (List (Int × Bool))))) → Option (Bool)) : (Int × ByteArray × (List (ByteArray × Int × Bool)) × (List (Int × Bool)) × (List (ByteArray × Bool × (List (Int × Bool))))) → Option (Bool)
  | (x0, x1, x2, x3, x4) =>
  bif decide (x0 < (List.length x2 : Int)) then
   bif decide (0 ≤ x0) && decide (x0 < (List.length x2 : Int)) then
    Option.bind (c107 ((List.getD x2 (Int.toNat x0) (ByteArray.empty, (0 : Int), false)).1)) fun r1 =>
     bif !(r1) then
      some false
     else
      L0 (IntKind.wrap IntKind.i64 (x0 + (1 : Int)), x1, x2, x3, x4)
   else
    none
  else
   B2 ((0 : Int), x1, x2, x3, x4)
noncomputable def spec_l9Names.ll0 : (Int × ByteArray × (List (ByteArray × Int × Bool)) × (List (Int × Bool)) × (List (ByteArray × Bool × (List (Int × Bool))))) → LS
  | (x0, x1, x2, x3, x4) => ⟨[.addr 65 0 [] 0, .cv ⟨.int .i64, x0⟩], [⟨false, [⟨0, 0, .mk 0 ⟨.str, x1⟩⟩, ⟨0, 0, .mk 0 ⟨.row K1, x2⟩⟩, ⟨0, 0, .mk 0 ⟨.row K2, x3⟩⟩, ⟨0, 0, .mk 0 ⟨.row K3, x4⟩⟩]⟩]⟩
noncomputable def spec_l9Names.s2 (c107 : (ByteArray) → Option (Bool)) (L2 : (Int × ByteArray × (List (ByteArray × Int × Bool)) × (List (Int × Bool)) × (List (ByteArray × Bool × (List (Int × Bool))))) → Option (Bool)) : (Int × ByteArray × (List (ByteArray × Int × Bool)) × (List (Int × Bool)) × (List (ByteArray × Bool × (List (Int × Bool))))) → Option (Bool)
  | (x0, x1, x2, x3, x4) =>
  bif decide (x0 < (List.length x4 : Int)) then
   bif decide (0 ≤ x0) && decide (x0 < (List.length x4 : Int)) then
    Option.bind (c107 ((List.getD x4 (Int.toNat x0) (ByteArray.empty, false, ([] : List (Int × Bool)))).1)) fun r2 =>
     bif !(r2) then
      some false
     else
      L2 (IntKind.wrap IntKind.i64 (x0 + (1 : Int)), x1, x2, x3, x4)
   else
    none
  else
   Option.bind (c107 x1) fun r3 =>
    some r3
noncomputable def spec_l9Names.ll2 : (Int × ByteArray × (List (ByteArray × Int × Bool)) × (List (Int × Bool)) × (List (ByteArray × Bool × (List (Int × Bool))))) → LS
  | (x0, x1, x2, x3, x4) => ⟨[.addr 65 0 [] 0, .cv ⟨.int .i64, x0⟩], [⟨false, [⟨0, 0, .mk 0 ⟨.str, x1⟩⟩, ⟨0, 0, .mk 0 ⟨.row K1, x2⟩⟩, ⟨0, 0, .mk 0 ⟨.row K2, x3⟩⟩, ⟨0, 0, .mk 0 ⟨.row K3, x4⟩⟩]⟩]⟩
noncomputable def spec_l9Names.m (B0 : (Int × ByteArray × (List (ByteArray × Int × Bool)) × (List (Int × Bool)) × (List (ByteArray × Bool × (List (Int × Bool))))) → Option (Bool)) : (ByteArray × (List (ByteArray × Int × Bool)) × (List (Int × Bool)) × (List (ByteArray × Bool × (List (Int × Bool))))) → Option (Bool)
  | (a0_0, a0_1, a0_2, a0_3) =>
  B0 ((0 : Int), a0_0, a0_1, a0_2, a0_3)
noncomputable def spec_l9Names.sig : Sig := ⟨[.val true [⟨.str, 0, 0, false⟩, ⟨.row K1, 0, 0, false⟩, ⟨.row K2, 0, 0, false⟩, ⟨.row K3, 0, 0, false⟩]], [(.one, [(.bool, 0)])]⟩
noncomputable def spec_l9Names.hint : Nat → Hint
  | 0 => ⟨[(1, .keep), (3, .keep)], [(65, [0, 0, 0, 0])]⟩
  | 2 => ⟨[(1, .keep), (4, .keep)], [(65, [0, 0, 0, 0])]⟩
  | _ => ⟨[], []⟩
noncomputable def spec_l9Names.join : Nat → Option Hint
  | _ => none
noncomputable def spec_l9Names.body : Code := (Tryd.f60).body.getD .skip
noncomputable def spec_l9Names.rv : List ResultVar := (Tryd.f60).results.toList
noncomputable def spec_l9Types.s0 (c101 : Int × Int × Int → Option (Bool)) (L0 : (Int × ByteArray × (List (ByteArray × Int × Bool)) × (List (Int × Bool)) × (List (ByteArray × Bool × (List (Int × Bool))))) → Option (Bool)) : (Int × ByteArray × (List (ByteArray × Int × Bool)) × (List (Int × Bool)) × (List (ByteArray × Bool × (List (Int × Bool))))) → Option (Bool)
  | (x0, x1, x2, x3, x4) =>
  bif decide (x0 < (List.length x2 : Int)) then
   bif decide (0 ≤ x0) && decide (x0 < (List.length x2 : Int)) then
    Option.bind (c101 ((List.getD x2 (Int.toNat x0) (ByteArray.empty, (0 : Int), false)).2.1, (1 : Int), (4 : Int))) fun r1 =>
     bif !(r1) then
      some false
     else
      L0 (IntKind.wrap IntKind.i64 (x0 + (1 : Int)), x1, x2, x3, x4)
   else
    none
  else
   Option.bind (c101 ((List.length x2 : Int), (1 : Int), (6 : Int))) fun r2 =>
    some r2
noncomputable def spec_l9Types.ll0 : (Int × ByteArray × (List (ByteArray × Int × Bool)) × (List (Int × Bool)) × (List (ByteArray × Bool × (List (Int × Bool))))) → LS
  | (x0, x1, x2, x3, x4) => ⟨[.addr 65 0 [] 0, .cv ⟨.int .i64, x0⟩], [⟨false, [⟨0, 0, .mk 0 ⟨.str, x1⟩⟩, ⟨0, 0, .mk 0 ⟨.row K1, x2⟩⟩, ⟨0, 0, .mk 0 ⟨.row K2, x3⟩⟩, ⟨0, 0, .mk 0 ⟨.row K3, x4⟩⟩]⟩]⟩
noncomputable def spec_l9Types.m (B0 : (Int × ByteArray × (List (ByteArray × Int × Bool)) × (List (Int × Bool)) × (List (ByteArray × Bool × (List (Int × Bool))))) → Option (Bool)) : (ByteArray × (List (ByteArray × Int × Bool)) × (List (Int × Bool)) × (List (ByteArray × Bool × (List (Int × Bool))))) → Option (Bool)
  | (a0_0, a0_1, a0_2, a0_3) =>
  B0 ((0 : Int), a0_0, a0_1, a0_2, a0_3)
noncomputable def spec_l9Types.sig : Sig := ⟨[.val true [⟨.str, 0, 0, false⟩, ⟨.row K1, 0, 0, false⟩, ⟨.row K2, 0, 0, false⟩, ⟨.row K3, 0, 0, false⟩]], [(.one, [(.bool, 0)])]⟩
noncomputable def spec_l9Types.hint : Nat → Hint
  | 0 => ⟨[(1, .keep), (3, .keep)], [(65, [0, 0, 0, 0])]⟩
  | _ => ⟨[], []⟩
noncomputable def spec_l9Types.join : Nat → Option Hint
  | _ => none
noncomputable def spec_l9Types.body : Code := (Tryd.f61).body.getD .skip
noncomputable def spec_l9Types.rv : List ResultVar := (Tryd.f61).results.toList
noncomputable def spec_l9Col.s0 (L0 : (ByteArray × Int × ByteArray × (List (ByteArray × Int × Bool)) × (List (Int × Bool)) × (List (ByteArray × Bool × (List (Int × Bool))))) → Option (Int)) : (ByteArray × Int × ByteArray × (List (ByteArray × Int × Bool)) × (List (Int × Bool)) × (List (ByteArray × Bool × (List (Int × Bool))))) → Option (Int)
  | (x0, x1, x2, x3, x4, x5) =>
  bif decide (x1 < (List.length x3 : Int)) then
   bif decide (0 ≤ x1) && decide (x1 < (List.length x3 : Int)) then
    bif ByteArray.toList ((List.getD x3 (Int.toNat x1) (ByteArray.empty, (0 : Int), false)).1) == ByteArray.toList x0 then
     some x1
    else
     L0 (x0, IntKind.wrap IntKind.i64 (x1 + (1 : Int)), x2, x3, x4, x5)
   else
    none
  else
   some (-1 : Int)
noncomputable def spec_l9Col.ll0 : (ByteArray × Int × ByteArray × (List (ByteArray × Int × Bool)) × (List (Int × Bool)) × (List (ByteArray × Bool × (List (Int × Bool))))) → LS
  | (x0, x1, x2, x3, x4, x5) => ⟨[.cv ⟨.str, x0⟩, .addr 129 0 [] 0, .cv ⟨.int .i64, x1⟩], [⟨false, [⟨0, 0, .mk 0 ⟨.str, x2⟩⟩, ⟨0, 0, .mk 0 ⟨.row K1, x3⟩⟩, ⟨0, 0, .mk 0 ⟨.row K2, x4⟩⟩, ⟨0, 0, .mk 0 ⟨.row K3, x5⟩⟩]⟩]⟩
noncomputable def spec_l9Col.m (B0 : (ByteArray × Int × ByteArray × (List (ByteArray × Int × Bool)) × (List (Int × Bool)) × (List (ByteArray × Bool × (List (Int × Bool))))) → Option (Int)) : (ByteArray × (List (ByteArray × Int × Bool)) × (List (Int × Bool)) × (List (ByteArray × Bool × (List (Int × Bool)))) × ByteArray) → Option (Int)
  | (a0_0, a0_1, a0_2, a0_3, a1_0) =>
  B0 (a1_0, (0 : Int), a0_0, a0_1, a0_2, a0_3)
noncomputable def spec_l9Col.sig : Sig := ⟨[.val true [⟨.str, 0, 0, false⟩, ⟨.row K1, 0, 0, false⟩, ⟨.row K2, 0, 0, false⟩, ⟨.row K3, 0, 0, false⟩], .val false [⟨.str, 0, 0, false⟩]], [(.one, [(.int .i64, 0)])]⟩
noncomputable def spec_l9Col.hint : Nat → Hint
  | 0 => ⟨[(1, .keep), (2, .keep), (5, .keep)], [(129, [0, 0, 0, 0])]⟩
  | _ => ⟨[], []⟩
noncomputable def spec_l9Col.join : Nat → Option Hint
  | _ => none
noncomputable def spec_l9Col.body : Code := (Tryd.f108).body.getD .skip
noncomputable def spec_l9Col.rv : List ResultVar := (Tryd.f108).results.toList
noncomputable def spec_l9Once.s0 (c108 : ByteArray × (List (ByteArray × Int × Bool)) × (List (Int × Bool)) × (List (ByteArray × Bool × (List (Int × Bool)))) × ByteArray → Option (Int)) (B2 : (Int × ByteArray × (List (ByteArray × Int × Bool)) × (List (Int × Bool)) × (List (ByteArray × Bool × (List (Int × Bool))))) → Option (Bool)) (L0 : (Int × ByteArray × (List (ByteArray × Int × Bool)) × (List (Int × Bool)) × (List (ByteArray × Bool × (List (Int × Bool))))) → Option (Bool)) : (Int × ByteArray × (List (ByteArray × Int × Bool)) × (List (Int × Bool)) × (List (ByteArray × Bool × (List (Int × Bool))))) → Option (Bool)
  | (x0, x1, x2, x3, x4) =>
  bif decide (x0 < (List.length x2 : Int)) then
   bif decide (0 ≤ x0) && decide (x0 < (List.length x2 : Int)) then
    Option.bind (c108 (x1, x2, x3, x4, (List.getD x2 (Int.toNat x0) (ByteArray.empty, (0 : Int), false)).1)) fun r1 =>
     bif r1 != x0 then
      some false
     else
      L0 (IntKind.wrap IntKind.i64 (x0 + (1 : Int)), x1, x2, x3, x4)
   else
    none
  else
   B2 ((0 : Int), x1, x2, x3, x4)
noncomputable def spec_l9Once.ll0 : (Int × ByteArray × (List (ByteArray × Int × Bool)) × (List (Int × Bool)) × (List (ByteArray × Bool × (List (Int × Bool))))) → LS
  | (x0, x1, x2, x3, x4) => ⟨[.addr 65 0 [] 0, .cv ⟨.int .i64, x0⟩], [⟨false, [⟨0, 0, .mk 0 ⟨.str, x1⟩⟩, ⟨0, 0, .mk 0 ⟨.row K1, x2⟩⟩, ⟨0, 0, .mk 0 ⟨.row K2, x3⟩⟩, ⟨0, 0, .mk 0 ⟨.row K3, x4⟩⟩]⟩]⟩
noncomputable def spec_l9Once.s2 (B4 : (Int × Int × ByteArray × (List (ByteArray × Int × Bool)) × (List (Int × Bool)) × (List (ByteArray × Bool × (List (Int × Bool))))) → Option (Bool)) (L2 : (Int × ByteArray × (List (ByteArray × Int × Bool)) × (List (Int × Bool)) × (List (ByteArray × Bool × (List (Int × Bool))))) → Option (Bool)) : (Int × ByteArray × (List (ByteArray × Int × Bool)) × (List (Int × Bool)) × (List (ByteArray × Bool × (List (Int × Bool))))) → Option (Bool)
  | (x0, x1, x2, x3, x4) =>
  bif decide (x0 < (List.length x4 : Int)) then
   B4 (x0, (0 : Int), x1, x2, x3, x4)
  else
   some true
noncomputable def spec_l9Once.ll2 : (Int × ByteArray × (List (ByteArray × Int × Bool)) × (List (Int × Bool)) × (List (ByteArray × Bool × (List (Int × Bool))))) → LS
  | (x0, x1, x2, x3, x4) => ⟨[.addr 65 0 [] 0, .cv ⟨.int .i64, x0⟩], [⟨false, [⟨0, 0, .mk 0 ⟨.str, x1⟩⟩, ⟨0, 0, .mk 0 ⟨.row K1, x2⟩⟩, ⟨0, 0, .mk 0 ⟨.row K2, x3⟩⟩, ⟨0, 0, .mk 0 ⟨.row K3, x4⟩⟩]⟩]⟩
noncomputable def spec_l9Once.s4 (L2 : (Int × ByteArray × (List (ByteArray × Int × Bool)) × (List (Int × Bool)) × (List (ByteArray × Bool × (List (Int × Bool))))) → Option (Bool)) (L4 : (Int × Int × ByteArray × (List (ByteArray × Int × Bool)) × (List (Int × Bool)) × (List (ByteArray × Bool × (List (Int × Bool))))) → Option (Bool)) : (Int × Int × ByteArray × (List (ByteArray × Int × Bool)) × (List (Int × Bool)) × (List (ByteArray × Bool × (List (Int × Bool))))) → Option (Bool)
  | (x0, x1, x2, x3, x4, x5) =>
  bif decide (x1 < x0) then
   bif decide (0 ≤ x1) && decide (x1 < (List.length x5 : Int)) then
    bif decide (0 ≤ x0) && decide (x0 < (List.length x5 : Int)) then
     bif ByteArray.toList ((List.getD x5 (Int.toNat x1) (ByteArray.empty, false, ([] : List (Int × Bool)))).1) == ByteArray.toList ((List.getD x5 (Int.toNat x0) (ByteArray.empty, false, ([] : List (Int × Bool)))).1) then
      some false
     else
      L4 (x0, IntKind.wrap IntKind.i64 (x1 + (1 : Int)), x2, x3, x4, x5)
    else
     none
   else
    none
  else
   L2 (IntKind.wrap IntKind.i64 (x0 + (1 : Int)), x2, x3, x4, x5)
noncomputable def spec_l9Once.ll4 : (Int × Int × ByteArray × (List (ByteArray × Int × Bool)) × (List (Int × Bool)) × (List (ByteArray × Bool × (List (Int × Bool))))) → LS
  | (x0, x1, x2, x3, x4, x5) => ⟨[.addr 65 0 [] 0, .cv ⟨.int .i64, x0⟩, .cv ⟨.int .i64, x1⟩], [⟨false, [⟨0, 0, .mk 0 ⟨.str, x2⟩⟩, ⟨0, 0, .mk 0 ⟨.row K1, x3⟩⟩, ⟨0, 0, .mk 0 ⟨.row K2, x4⟩⟩, ⟨0, 0, .mk 0 ⟨.row K3, x5⟩⟩]⟩]⟩
noncomputable def spec_l9Once.m (B0 : (Int × ByteArray × (List (ByteArray × Int × Bool)) × (List (Int × Bool)) × (List (ByteArray × Bool × (List (Int × Bool))))) → Option (Bool)) : (ByteArray × (List (ByteArray × Int × Bool)) × (List (Int × Bool)) × (List (ByteArray × Bool × (List (Int × Bool))))) → Option (Bool)
  | (a0_0, a0_1, a0_2, a0_3) =>
  B0 ((0 : Int), a0_0, a0_1, a0_2, a0_3)
noncomputable def spec_l9Once.sig : Sig := ⟨[.val true [⟨.str, 0, 0, false⟩, ⟨.row K1, 0, 0, false⟩, ⟨.row K2, 0, 0, false⟩, ⟨.row K3, 0, 0, false⟩]], [(.one, [(.bool, 0)])]⟩
noncomputable def spec_l9Once.hint : Nat → Hint
  | 0 => ⟨[(1, .keep), (3, .keep)], [(65, [0, 0, 0, 0])]⟩
  | 2 => ⟨[(1, .keep), (4, .keep)], [(65, [0, 0, 0, 0])]⟩
  | 4 => ⟨[(1, .keep), (4, .keep), (5, .keep)], [(65, [0, 0, 0, 0])]⟩
  | _ => ⟨[], []⟩
noncomputable def spec_l9Once.join : Nat → Option Hint
  | _ => none
noncomputable def spec_l9Once.body : Code := (Tryd.f62).body.getD .skip
noncomputable def spec_l9Once.rv : List ResultVar := (Tryd.f62).results.toList
noncomputable def spec_l9Parts.s0 (c101 : Int × Int × Int → Option (Bool)) (L0 : ((List (Int × Bool)) × Int × ByteArray × (List (ByteArray × Int × Bool)) × (List (Int × Bool)) × (List (ByteArray × Bool × (List (Int × Bool))))) → Option (Bool)) : ((List (Int × Bool)) × Int × ByteArray × (List (ByteArray × Int × Bool)) × (List (Int × Bool)) × (List (ByteArray × Bool × (List (Int × Bool))))) → Option (Bool)
  | (x0, x1, x2, x3, x4, x5) =>
  bif decide (x1 < (List.length x0 : Int)) then
   bif decide (0 ≤ x1) && decide (x1 < (List.length x0 : Int)) then
    Option.bind (c101 ((List.getD x0 (Int.toNat x1) ((0 : Int), false)).1, (0 : Int), IntKind.wrap IntKind.i64 ((List.length x3 : Int) - (1 : Int)))) fun r1 =>
     bif !(r1) then
      some false
     else
      bif decide (x1 > (0 : Int)) then
       bif decide (0 ≤ (0 : Int)) && decide ((0 : Int) < (List.length x0 : Int)) then
        bif decide (0 ≤ x1) && decide (x1 < (List.length x0 : Int)) then
         bif ((List.getD x0 (Int.toNat (0 : Int)) ((0 : Int), false)).1) == ((List.getD x0 (Int.toNat x1) ((0 : Int), false)).1) then
          some false
         else
          L0 (x0, IntKind.wrap IntKind.i64 (x1 + (1 : Int)), x2, x3, x4, x5)
        else
         none
       else
        none
      else
       L0 (x0, IntKind.wrap IntKind.i64 (x1 + (1 : Int)), x2, x3, x4, x5)
   else
    none
  else
   Option.bind (c101 ((List.length x0 : Int), (1 : Int), (2 : Int))) fun r2 =>
    some r2
noncomputable def spec_l9Parts.ll0 : ((List (Int × Bool)) × Int × ByteArray × (List (ByteArray × Int × Bool)) × (List (Int × Bool)) × (List (ByteArray × Bool × (List (Int × Bool))))) → LS
  | (x0, x1, x2, x3, x4, x5) => ⟨[.cv ⟨.row K2, x0⟩, .addr 129 0 [] 0, .cv ⟨.int .i64, x1⟩], [⟨false, [⟨0, 0, .mk 0 ⟨.str, x2⟩⟩, ⟨0, 0, .mk 0 ⟨.row K1, x3⟩⟩, ⟨0, 0, .mk 0 ⟨.row K2, x4⟩⟩, ⟨0, 0, .mk 0 ⟨.row K3, x5⟩⟩]⟩]⟩
noncomputable def spec_l9Parts.m (B0 : ((List (Int × Bool)) × Int × ByteArray × (List (ByteArray × Int × Bool)) × (List (Int × Bool)) × (List (ByteArray × Bool × (List (Int × Bool))))) → Option (Bool)) : (ByteArray × (List (ByteArray × Int × Bool)) × (List (Int × Bool)) × (List (ByteArray × Bool × (List (Int × Bool)))) × (List (Int × Bool))) → Option (Bool)
  | (a0_0, a0_1, a0_2, a0_3, a1_0) =>
  B0 (a1_0, (0 : Int), a0_0, a0_1, a0_2, a0_3)
noncomputable def spec_l9Parts.sig : Sig := ⟨[.val true [⟨.str, 0, 0, false⟩, ⟨.row K1, 0, 0, false⟩, ⟨.row K2, 0, 0, false⟩, ⟨.row K3, 0, 0, false⟩], .val false [⟨.row K2, 0, 0, false⟩]], [(.one, [(.bool, 0)])]⟩
noncomputable def spec_l9Parts.hint : Nat → Hint
  | 0 => ⟨[(1, .keep), (2, .keep), (5, .keep)], [(129, [0, 0, 0, 0])]⟩
  | _ => ⟨[], []⟩
noncomputable def spec_l9Parts.join : Nat → Option Hint
  | _ => none
noncomputable def spec_l9Parts.body : Code := (Tryd.f109).body.getD .skip
noncomputable def spec_l9Parts.rv : List ResultVar := (Tryd.f109).results.toList
noncomputable def spec_l9AllParts.s0 (c109 : ByteArray × (List (ByteArray × Int × Bool)) × (List (Int × Bool)) × (List (ByteArray × Bool × (List (Int × Bool)))) × (List (Int × Bool)) → Option (Bool)) (L0 : (Int × ByteArray × (List (ByteArray × Int × Bool)) × (List (Int × Bool)) × (List (ByteArray × Bool × (List (Int × Bool))))) → Option (Bool)) : (Int × ByteArray × (List (ByteArray × Int × Bool)) × (List (Int × Bool)) × (List (ByteArray × Bool × (List (Int × Bool))))) → Option (Bool)
  | (x0, x1, x2, x3, x4) =>
  bif decide (x0 < (List.length x4 : Int)) then
   bif decide (0 ≤ x0) && decide (x0 < (List.length x4 : Int)) then
    Option.bind (c109 (x1, x2, x3, x4, (List.getD x4 (Int.toNat x0) (ByteArray.empty, false, ([] : List (Int × Bool)))).2.2)) fun r1 =>
     bif !(r1) then
      some false
     else
      L0 (IntKind.wrap IntKind.i64 (x0 + (1 : Int)), x1, x2, x3, x4)
   else
    none
  else
   Option.bind (c109 (x1, x2, x3, x4, x3)) fun r2 =>
    some r2
noncomputable def spec_l9AllParts.ll0 : (Int × ByteArray × (List (ByteArray × Int × Bool)) × (List (Int × Bool)) × (List (ByteArray × Bool × (List (Int × Bool))))) → LS
  | (x0, x1, x2, x3, x4) => ⟨[.addr 65 0 [] 0, .cv ⟨.int .i64, x0⟩], [⟨false, [⟨0, 0, .mk 0 ⟨.str, x1⟩⟩, ⟨0, 0, .mk 0 ⟨.row K1, x2⟩⟩, ⟨0, 0, .mk 0 ⟨.row K2, x3⟩⟩, ⟨0, 0, .mk 0 ⟨.row K3, x4⟩⟩]⟩]⟩
noncomputable def spec_l9AllParts.m (B0 : (Int × ByteArray × (List (ByteArray × Int × Bool)) × (List (Int × Bool)) × (List (ByteArray × Bool × (List (Int × Bool))))) → Option (Bool)) : (ByteArray × (List (ByteArray × Int × Bool)) × (List (Int × Bool)) × (List (ByteArray × Bool × (List (Int × Bool))))) → Option (Bool)
  | (a0_0, a0_1, a0_2, a0_3) =>
  B0 ((0 : Int), a0_0, a0_1, a0_2, a0_3)
noncomputable def spec_l9AllParts.sig : Sig := ⟨[.val true [⟨.str, 0, 0, false⟩, ⟨.row K1, 0, 0, false⟩, ⟨.row K2, 0, 0, false⟩, ⟨.row K3, 0, 0, false⟩]], [(.one, [(.bool, 0)])]⟩
noncomputable def spec_l9AllParts.hint : Nat → Hint
  | 0 => ⟨[(1, .keep), (3, .keep)], [(65, [0, 0, 0, 0])]⟩
  | _ => ⟨[], []⟩
noncomputable def spec_l9AllParts.join : Nat → Option Hint
  | _ => none
noncomputable def spec_l9AllParts.body : Code := (Tryd.f63).body.getD .skip
noncomputable def spec_l9AllParts.rv : List ResultVar := (Tryd.f63).results.toList
noncomputable def spec_CheckDef.s1 (L1 : (Int × ByteArray × (List (ByteArray × Int × Bool)) × (List (Int × Bool)) × (List (ByteArray × Bool × (List (Int × Bool))))) → Option (Int)) : (Int × ByteArray × (List (ByteArray × Int × Bool)) × (List (Int × Bool)) × (List (ByteArray × Bool × (List (Int × Bool))))) → Option (Int)
  | (x0, x1, x2, x3, x4) =>
  bif decide (x0 < (List.length x3 : Int)) then
   bif decide (0 ≤ x0) && decide (x0 < (List.length x3 : Int)) then
    bif decide (0 ≤ ((List.getD x3 (Int.toNat x0) ((0 : Int), false)).1)) && decide (((List.getD x3 (Int.toNat x0) ((0 : Int), false)).1) < (List.length x2 : Int)) then
     bif (List.getD x2 (Int.toNat ((List.getD x3 (Int.toNat x0) ((0 : Int), false)).1)) (ByteArray.empty, (0 : Int), false)).2.2 then
      some (4 : Int)
     else
      L1 (IntKind.wrap IntKind.i64 (x0 + (1 : Int)), x1, x2, x3, x4)
    else
     none
   else
    none
  else
   some (0 : Int)
noncomputable def spec_CheckDef.ll1 : (Int × ByteArray × (List (ByteArray × Int × Bool)) × (List (Int × Bool)) × (List (ByteArray × Bool × (List (Int × Bool))))) → LS
  | (x0, x1, x2, x3, x4) => ⟨[.addr 65 0 [] 0, .cv ⟨.int .i64, x0⟩], [⟨false, [⟨0, 0, .mk 0 ⟨.str, x1⟩⟩, ⟨0, 0, .mk 0 ⟨.row K1, x2⟩⟩, ⟨0, 0, .mk 0 ⟨.row K2, x3⟩⟩, ⟨0, 0, .mk 0 ⟨.row K3, x4⟩⟩]⟩]⟩
noncomputable def spec_CheckDef.m (c60 : ByteArray × (List (ByteArray × Int × Bool)) × (List (Int × Bool)) × (List (ByteArray × Bool × (List (Int × Bool)))) → Option (Bool)) (c61 : ByteArray × (List (ByteArray × Int × Bool)) × (List (Int × Bool)) × (List (ByteArray × Bool × (List (Int × Bool)))) → Option (Bool)) (c62 : ByteArray × (List (ByteArray × Int × Bool)) × (List (Int × Bool)) × (List (ByteArray × Bool × (List (Int × Bool)))) → Option (Bool)) (c63 : ByteArray × (List (ByteArray × Int × Bool)) × (List (Int × Bool)) × (List (ByteArray × Bool × (List (Int × Bool)))) → Option (Bool)) (B1 : (Int × ByteArray × (List (ByteArray × Int × Bool)) × (List (Int × Bool)) × (List (ByteArray × Bool × (List (Int × Bool))))) → Option (Int)) : (ByteArray × (List (ByteArray × Int × Bool)) × (List (Int × Bool)) × (List (ByteArray × Bool × (List (Int × Bool))))) → Option (Int)
  | (a0_0, a0_1, a0_2, a0_3) =>
  Option.bind (c60 (a0_0, a0_1, a0_2, a0_3)) fun r1 =>
   bif !(r1) then
    some (1 : Int)
   else
    Option.bind (c61 (a0_0, a0_1, a0_2, a0_3)) fun r2 =>
     bif !(r2) then
      some (2 : Int)
     else
      Option.bind (c62 (a0_0, a0_1, a0_2, a0_3)) fun r3 =>
       bif !(r3) then
        some (3 : Int)
       else
        bif decide ((List.length a0_3 : Int) > (2 : Int)) then
         some (6 : Int)
        else
         Option.bind (c63 (a0_0, a0_1, a0_2, a0_3)) fun r4 =>
          bif !(r4) then
           some (5 : Int)
          else
           B1 ((0 : Int), a0_0, a0_1, a0_2, a0_3)
noncomputable def spec_CheckDef.sig : Sig := ⟨[.val true [⟨.str, 0, 0, false⟩, ⟨.row K1, 0, 0, false⟩, ⟨.row K2, 0, 0, false⟩, ⟨.row K3, 0, 0, false⟩]], [(.one, [(.int .i64, 0)])]⟩
noncomputable def spec_CheckDef.hint : Nat → Hint
  | 1 => ⟨[(1, .keep), (3, .keep)], [(65, [0, 0, 0, 0])]⟩
  | _ => ⟨[], []⟩
noncomputable def spec_CheckDef.join : Nat → Option Hint
  | _ => none
noncomputable def spec_CheckDef.body : Code := (Tryd.f23).body.getD .skip
noncomputable def spec_CheckDef.rv : List ResultVar := (Tryd.f23).results.toList
noncomputable def impl_in.m  : (Int × Int × Int) → Option (Bool)
  | (a0_0, a1_0, a2_0) =>
  bif decide (a0_0 ≥ a1_0) then
   some (decide (a0_0 ≤ a2_0))
  else
   some false
noncomputable def impl_in.sig : Sig := ⟨[.val false [⟨.int .i64, 0, 0, false⟩], .val false [⟨.int .i64, 0, 0, false⟩], .val false [⟨.int .i64, 0, 0, false⟩]], [(.one, [(.bool, 0)])]⟩
noncomputable def impl_in.hint : Nat → Hint
  | _ => ⟨[], []⟩
noncomputable def impl_in.join : Nat → Option Hint
  | _ => none
noncomputable def impl_in.body : Code := (Tryd.f55).body.getD .skip
noncomputable def impl_in.rv : List ResultVar := (Tryd.f55).results.toList
noncomputable def impl_isLetter.m  : (Int) → Option (Bool)
  | a0_0 =>
  bif decide (a0_0 ≥ (97 : Int)) then
   some (decide (a0_0 ≤ (122 : Int)))
  else
   some false
noncomputable def impl_isLetter.sig : Sig := ⟨[.val false [⟨.int .u8, 0, 0, false⟩]], [(.one, [(.bool, 0)])]⟩
noncomputable def impl_isLetter.hint : Nat → Hint
  | _ => ⟨[], []⟩
noncomputable def impl_isLetter.join : Nat → Option Hint
  | _ => none
noncomputable def impl_isLetter.body : Code := (Tryd.f93).body.getD .skip
noncomputable def impl_isLetter.rv : List ResultVar := (Tryd.f93).results.toList
noncomputable def impl_isDigit.m  : (Int) → Option (Bool)
  | a0_0 =>
  bif decide (a0_0 ≥ (48 : Int)) then
   some (decide (a0_0 ≤ (57 : Int)))
  else
   some false
noncomputable def impl_isDigit.sig : Sig := ⟨[.val false [⟨.int .u8, 0, 0, false⟩]], [(.one, [(.bool, 0)])]⟩
noncomputable def impl_isDigit.hint : Nat → Hint
  | _ => ⟨[], []⟩
noncomputable def impl_isDigit.join : Nat → Option Hint
  | _ => none
noncomputable def impl_isDigit.body : Code := (Tryd.f94).body.getD .skip
noncomputable def impl_isDigit.rv : List ResultVar := (Tryd.f94).results.toList
noncomputable def impl_nameOk.s0 (c55 : Int × Int × Int → Option (Bool)) (c93 : (Int) → Option (Bool)) (c94 : (Int) → Option (Bool)) (L0 : (ByteArray × Int) → Option (Bool)) : (ByteArray × Int) → Option (Bool)
  | (x0, x1) =>
  bif decide (x1 < (ByteArray.size x0 : Int)) then
   bif decide (0 ≤ x1) && decide (x1 < (ByteArray.size x0 : Int)) then
    Option.bind (c93 ((ByteArray.get! x0 (Int.toNat x1)).toNat : Int)) fun r1 =>
     bif !(r1) then
      bif x1 == (0 : Int) then
       some false
      else
       bif decide (0 ≤ x1) && decide (x1 < (ByteArray.size x0 : Int)) then
        Option.bind (c94 ((ByteArray.get! x0 (Int.toNat x1)).toNat : Int)) fun r2 =>
         bif !(r2) then
          some false
         else
          L0 (x0, IntKind.wrap IntKind.i64 (x1 + (1 : Int)))
       else
        none
     else
      L0 (x0, IntKind.wrap IntKind.i64 (x1 + (1 : Int)))
   else
    none
  else
   Option.bind (c55 ((ByteArray.size x0 : Int), (1 : Int), (8 : Int))) fun r3 =>
    some r3
noncomputable def impl_nameOk.ll0 : (ByteArray × Int) → LS
  | (x0, x1) => ⟨[.cv ⟨.str, x0⟩, .cv ⟨.int .i64, x1⟩], []⟩
noncomputable def impl_nameOk.m (B0 : (ByteArray × Int) → Option (Bool)) : (ByteArray) → Option (Bool)
  | a0_0 =>
  B0 (a0_0, (0 : Int))
noncomputable def impl_nameOk.sig : Sig := ⟨[.val false [⟨.str, 0, 0, false⟩]], [(.one, [(.bool, 0)])]⟩
noncomputable def impl_nameOk.hint : Nat → Hint
  | 0 => ⟨[(0, .keep), (3, .keep)], []⟩
  | _ => ⟨[], []⟩
noncomputable def impl_nameOk.join : Nat → Option Hint
  | _ => none
noncomputable def impl_nameOk.body : Code := (Tryd.f135).body.getD .skip
noncomputable def impl_nameOk.rv : List ResultVar := (Tryd.f135).results.toList
noncomputable def impl_isFree.s0 (c135 : (ByteArray) → Option (Bool)) (L0 : (ByteArray × Int × Int × (List ByteArray)) → Option (Bool)) : (ByteArray × Int × Int × (List ByteArray)) → Option (Bool)
  | (x0, x1, x2, x3) =>
  bif decide (x2 < x1) then
   bif decide (0 ≤ x2) && decide (x2 < (List.length x3 : Int)) then
    bif ByteArray.toList (List.getD x3 (Int.toNat x2) ByteArray.empty) == ByteArray.toList x0 then
     some false
    else
     L0 (x0, x1, IntKind.wrap IntKind.i64 (x2 + (1 : Int)), x3)
   else
    none
  else
   Option.bind (c135 x0) fun r2 =>
    some r2
noncomputable def impl_isFree.ll0 : (ByteArray × Int × Int × (List ByteArray)) → LS
  | (x0, x1, x2, x3) => ⟨[.cv ⟨.str, x0⟩, .ref 20 0 [] none 0, .cv ⟨.int .i64, x1⟩, .cv ⟨.int .i64, x2⟩], [⟨true, [⟨0, 0, .mk 1 ⟨.row K0, x3⟩⟩]⟩]⟩
noncomputable def impl_isFree.m (c64 : ByteArray × ByteArray → Option (List ByteArray)) (B0 : (ByteArray × Int × Int × (List ByteArray)) → Option (Bool)) : (ByteArray) → Option (Bool)
  | a0_0 =>
  Option.bind (c64 (({ data := #[116, 97, 98, 108, 101, 32, 112, 114, 105, 109, 97, 114, 121, 32, 117, 110, 105, 113, 117, 101, 32, 105, 110, 100, 101, 120, 32, 110, 117, 108, 108, 32, 100, 101, 115, 99, 32, 105, 110, 116, 32, 110, 117, 109, 32, 116, 101, 120, 116, 32, 98, 111, 111, 108] } : ByteArray), ({ data := #[32] } : ByteArray))) fun r1 =>
   B0 (a0_0, (List.length r1 : Int), (0 : Int), r1)
noncomputable def impl_isFree.sig : Sig := ⟨[.val false [⟨.str, 0, 0, false⟩]], [(.one, [(.bool, 0)])]⟩
noncomputable def impl_isFree.hint : Nat → Hint
  | 0 => ⟨[(0, .keep), (5, .own 1 K0), (6, .keep), (7, .keep)], []⟩
  | _ => ⟨[], []⟩
noncomputable def impl_isFree.join : Nat → Option Hint
  | _ => none
noncomputable def impl_isFree.body : Code := (Tryd.f106).body.getD .skip
noncomputable def impl_isFree.rv : List ResultVar := (Tryd.f106).results.toList
noncomputable def impl_namesOk.s0 (c106 : (ByteArray) → Option (Bool)) (B2 : ((List (ByteArray × Bool × (List (Int × Bool)))) × Int × Int × ByteArray × (List (ByteArray × Int × Bool)) × (List (Int × Bool)) × (List (ByteArray × Bool × (List (Int × Bool))))) → Option (Bool)) (L0 : ((List (ByteArray × Int × Bool)) × Int × Int × ByteArray × (List (ByteArray × Int × Bool)) × (List (Int × Bool)) × (List (ByteArray × Bool × (List (Int × Bool))))) → Option (Bool)) : ((List (ByteArray × Int × Bool)) × Int × Int × ByteArray × (List (ByteArray × Int × Bool)) × (List (Int × Bool)) × (List (ByteArray × Bool × (List (Int × Bool))))) → Option (Bool)
  | (x0, x1, x2, x3, x4, x5, x6) =>
  bif decide (x2 < x1) then
   bif decide (0 ≤ x2) && decide (x2 < (List.length x0 : Int)) then
    Option.bind (c106 ((List.getD x0 (Int.toNat x2) (ByteArray.empty, (0 : Int), false)).1)) fun r1 =>
     bif !(r1) then
      some false
     else
      L0 (x0, x1, IntKind.wrap IntKind.i64 (x2 + (1 : Int)), x3, x4, x5, x6)
   else
    none
  else
   B2 (x6, (List.length x6 : Int), (0 : Int), x3, x4, x5, x6)
noncomputable def impl_namesOk.ll0 : ((List (ByteArray × Int × Bool)) × Int × Int × ByteArray × (List (ByteArray × Int × Bool)) × (List (Int × Bool)) × (List (ByteArray × Bool × (List (Int × Bool))))) → LS
  | (x0, x1, x2, x3, x4, x5, x6) => ⟨[.addr 65 0 [] 0, .cv ⟨.row K1, x0⟩, .cv ⟨.int .i64, x1⟩, .cv ⟨.int .i64, x2⟩], [⟨false, [⟨0, 0, .mk 0 ⟨.str, x3⟩⟩, ⟨0, 0, .mk 0 ⟨.row K1, x4⟩⟩, ⟨0, 0, .mk 0 ⟨.row K2, x5⟩⟩, ⟨0, 0, .mk 0 ⟨.row K3, x6⟩⟩]⟩]⟩
noncomputable def impl_namesOk.s2 (c106 : (ByteArray) → Option (Bool)) (L2 : ((List (ByteArray × Bool × (List (Int × Bool)))) × Int × Int × ByteArray × (List (ByteArray × Int × Bool)) × (List (Int × Bool)) × (List (ByteArray × Bool × (List (Int × Bool))))) → Option (Bool)) : ((List (ByteArray × Bool × (List (Int × Bool)))) × Int × Int × ByteArray × (List (ByteArray × Int × Bool)) × (List (Int × Bool)) × (List (ByteArray × Bool × (List (Int × Bool))))) → Option (Bool)
  | (x0, x1, x2, x3, x4, x5, x6) =>
  bif decide (x2 < x1) then
   bif decide (0 ≤ x2) && decide (x2 < (List.length x0 : Int)) then
    Option.bind (c106 ((List.getD x0 (Int.toNat x2) (ByteArray.empty, false, ([] : List (Int × Bool)))).1)) fun r2 =>
     bif !(r2) then
      some false
     else
      L2 (x0, x1, IntKind.wrap IntKind.i64 (x2 + (1 : Int)), x3, x4, x5, x6)
   else
    none
  else
   Option.bind (c106 x3) fun r3 =>
    some r3
noncomputable def impl_namesOk.ll2 : ((List (ByteArray × Bool × (List (Int × Bool)))) × Int × Int × ByteArray × (List (ByteArray × Int × Bool)) × (List (Int × Bool)) × (List (ByteArray × Bool × (List (Int × Bool))))) → LS
  | (x0, x1, x2, x3, x4, x5, x6) => ⟨[.addr 65 0 [] 0, .cv ⟨.row K3, x0⟩, .cv ⟨.int .i64, x1⟩, .cv ⟨.int .i64, x2⟩], [⟨false, [⟨0, 0, .mk 0 ⟨.str, x3⟩⟩, ⟨0, 0, .mk 0 ⟨.row K1, x4⟩⟩, ⟨0, 0, .mk 0 ⟨.row K2, x5⟩⟩, ⟨0, 0, .mk 0 ⟨.row K3, x6⟩⟩]⟩]⟩
noncomputable def impl_namesOk.m (B0 : ((List (ByteArray × Int × Bool)) × Int × Int × ByteArray × (List (ByteArray × Int × Bool)) × (List (Int × Bool)) × (List (ByteArray × Bool × (List (Int × Bool))))) → Option (Bool)) : (ByteArray × (List (ByteArray × Int × Bool)) × (List (Int × Bool)) × (List (ByteArray × Bool × (List (Int × Bool))))) → Option (Bool)
  | (a0_0, a0_1, a0_2, a0_3) =>
  B0 (a0_1, (List.length a0_1 : Int), (0 : Int), a0_0, a0_1, a0_2, a0_3)
noncomputable def impl_namesOk.sig : Sig := ⟨[.val true [⟨.str, 0, 0, false⟩, ⟨.row K1, 0, 0, false⟩, ⟨.row K2, 0, 0, false⟩, ⟨.row K3, 0, 0, false⟩]], [(.one, [(.bool, 0)])]⟩
noncomputable def impl_namesOk.hint : Nat → Hint
  | 0 => ⟨[(1, .keep), (8, .keep), (9, .keep), (10, .keep)], [(65, [0, 0, 0, 0])]⟩
  | 2 => ⟨[(1, .keep), (20, .keep), (21, .keep), (22, .keep)], [(65, [0, 0, 0, 0])]⟩
  | _ => ⟨[], []⟩
noncomputable def impl_namesOk.join : Nat → Option Hint
  | _ => none
noncomputable def impl_namesOk.body : Code := (Tryd.f54).body.getD .skip
noncomputable def impl_namesOk.rv : List ResultVar := (Tryd.f54).results.toList
noncomputable def impl_twice.s0 (B2 : ((List (ByteArray × Int × Bool)) × Int × Int × (List (ByteArray × Int × Bool)) × Int × Int × ByteArray × (List (ByteArray × Int × Bool)) × (List (Int × Bool)) × (List (ByteArray × Bool × (List (Int × Bool)))) × ByteArray × Int × Bool) → Option (Bool)) (B4 : ((List (ByteArray × Bool × (List (Int × Bool)))) × Int × Int × ByteArray × (List (ByteArray × Int × Bool)) × (List (Int × Bool)) × (List (ByteArray × Bool × (List (Int × Bool))))) → Option (Bool)) (L0 : ((List (ByteArray × Int × Bool)) × Int × Int × ByteArray × (List (ByteArray × Int × Bool)) × (List (Int × Bool)) × (List (ByteArray × Bool × (List (Int × Bool))))) → Option (Bool)) : ((List (ByteArray × Int × Bool)) × Int × Int × ByteArray × (List (ByteArray × Int × Bool)) × (List (Int × Bool)) × (List (ByteArray × Bool × (List (Int × Bool))))) → Option (Bool)
  | (x0, x1, x2, x3, x4, x5, x6) =>
  bif decide (x2 < x1) then
   bif decide (0 ≤ x2) && decide (x2 < (List.length x0 : Int)) then
    bif decide (0 ≤ (0 : Int)) && decide ((0 : Int) ≤ x2) && decide (x2 ≤ (List.length x4 : Int)) then
     B2 (x0, x1, x2, List.drop (Int.toNat (0 : Int)) (List.take (Int.toNat x2) x4), (List.length (List.drop (Int.toNat (0 : Int)) (List.take (Int.toNat x2) x4)) : Int), (0 : Int), x3, x4, x5, x6, (List.getD x0 (Int.toNat x2) (ByteArray.empty, (0 : Int), false)).1, (List.getD x0 (Int.toNat x2) (ByteArray.empty, (0 : Int), false)).2.1, (List.getD x0 (Int.toNat x2) (ByteArray.empty, (0 : Int), false)).2.2)
    else
     none
   else
    none
  else
   B4 (x6, (List.length x6 : Int), (0 : Int), x3, x4, x5, x6)
noncomputable def impl_twice.ll0 : ((List (ByteArray × Int × Bool)) × Int × Int × ByteArray × (List (ByteArray × Int × Bool)) × (List (Int × Bool)) × (List (ByteArray × Bool × (List (Int × Bool))))) → LS
  | (x0, x1, x2, x3, x4, x5, x6) => ⟨[.addr 65 0 [] 0, .cv ⟨.row K1, x0⟩, .cv ⟨.int .i64, x1⟩, .cv ⟨.int .i64, x2⟩], [⟨false, [⟨0, 0, .mk 0 ⟨.str, x3⟩⟩, ⟨0, 0, .mk 0 ⟨.row K1, x4⟩⟩, ⟨0, 0, .mk 0 ⟨.row K2, x5⟩⟩, ⟨0, 0, .mk 0 ⟨.row K3, x6⟩⟩]⟩]⟩
noncomputable def impl_twice.s2 (L0 : ((List (ByteArray × Int × Bool)) × Int × Int × ByteArray × (List (ByteArray × Int × Bool)) × (List (Int × Bool)) × (List (ByteArray × Bool × (List (Int × Bool))))) → Option (Bool)) (L2 : ((List (ByteArray × Int × Bool)) × Int × Int × (List (ByteArray × Int × Bool)) × Int × Int × ByteArray × (List (ByteArray × Int × Bool)) × (List (Int × Bool)) × (List (ByteArray × Bool × (List (Int × Bool)))) × ByteArray × Int × Bool) → Option (Bool)) : ((List (ByteArray × Int × Bool)) × Int × Int × (List (ByteArray × Int × Bool)) × Int × Int × ByteArray × (List (ByteArray × Int × Bool)) × (List (Int × Bool)) × (List (ByteArray × Bool × (List (Int × Bool)))) × ByteArray × Int × Bool) → Option (Bool)
  | (x0, x1, x2, x3, x4, x5, x6, x7, x8, x9, x10, x11, x12) =>
  bif decide (x5 < x4) then
   bif decide (0 ≤ x5) && decide (x5 < (List.length x3 : Int)) then
    bif ByteArray.toList ((List.getD x3 (Int.toNat x5) (ByteArray.empty, (0 : Int), false)).1) == ByteArray.toList x10 then
     some true
    else
     L2 (x0, x1, x2, x3, x4, IntKind.wrap IntKind.i64 (x5 + (1 : Int)), x6, x7, x8, x9, x10, x11, x12)
   else
    none
  else
   L0 (x0, x1, IntKind.wrap IntKind.i64 (x2 + (1 : Int)), x6, x7, x8, x9)
noncomputable def impl_twice.ll2 : ((List (ByteArray × Int × Bool)) × Int × Int × (List (ByteArray × Int × Bool)) × Int × Int × ByteArray × (List (ByteArray × Int × Bool)) × (List (Int × Bool)) × (List (ByteArray × Bool × (List (Int × Bool)))) × ByteArray × Int × Bool) → LS
  | (x0, x1, x2, x3, x4, x5, x6, x7, x8, x9, x10, x11, x12) => ⟨[.addr 65 0 [] 0, .addr 257 0 [] 0, .cv ⟨.row K1, x0⟩, .cv ⟨.int .i64, x1⟩, .cv ⟨.int .i64, x2⟩, .cv ⟨.row K1, x3⟩, .cv ⟨.int .i64, x4⟩, .cv ⟨.int .i64, x5⟩], [⟨false, [⟨0, 0, .mk 0 ⟨.str, x6⟩⟩, ⟨0, 0, .mk 0 ⟨.row K1, x7⟩⟩, ⟨0, 0, .mk 0 ⟨.row K2, x8⟩⟩, ⟨0, 0, .mk 0 ⟨.row K3, x9⟩⟩]⟩, ⟨false, [⟨0, 0, .mk 0 ⟨.str, x10⟩⟩, ⟨0, 0, .mk 0 ⟨.int .i64, x11⟩⟩, ⟨0, 0, .mk 0 ⟨.bool, x12⟩⟩]⟩]⟩
noncomputable def impl_twice.s4 (B6 : ((List (ByteArray × Bool × (List (Int × Bool)))) × Int × Int × (List (ByteArray × Bool × (List (Int × Bool)))) × Int × Int × ByteArray × (List (ByteArray × Int × Bool)) × (List (Int × Bool)) × (List (ByteArray × Bool × (List (Int × Bool)))) × ByteArray × Bool × (List (Int × Bool))) → Option (Bool)) (L4 : ((List (ByteArray × Bool × (List (Int × Bool)))) × Int × Int × ByteArray × (List (ByteArray × Int × Bool)) × (List (Int × Bool)) × (List (ByteArray × Bool × (List (Int × Bool))))) → Option (Bool)) : ((List (ByteArray × Bool × (List (Int × Bool)))) × Int × Int × ByteArray × (List (ByteArray × Int × Bool)) × (List (Int × Bool)) × (List (ByteArray × Bool × (List (Int × Bool))))) → Option (Bool)
  | (x0, x1, x2, x3, x4, x5, x6) =>
  bif decide (x2 < x1) then
   bif decide (0 ≤ x2) && decide (x2 < (List.length x0 : Int)) then
    bif decide (0 ≤ (0 : Int)) && decide ((0 : Int) ≤ x2) && decide (x2 ≤ (List.length x6 : Int)) then
     B6 (x0, x1, x2, List.drop (Int.toNat (0 : Int)) (List.take (Int.toNat x2) x6), (List.length (List.drop (Int.toNat (0 : Int)) (List.take (Int.toNat x2) x6)) : Int), (0 : Int), x3, x4, x5, x6, (List.getD x0 (Int.toNat x2) (ByteArray.empty, false, ([] : List (Int × Bool)))).1, (List.getD x0 (Int.toNat x2) (ByteArray.empty, false, ([] : List (Int × Bool)))).2.1, (List.getD x0 (Int.toNat x2) (ByteArray.empty, false, ([] : List (Int × Bool)))).2.2)
    else
     none
   else
    none
  else
   some false
noncomputable def impl_twice.ll4 : ((List (ByteArray × Bool × (List (Int × Bool)))) × Int × Int × ByteArray × (List (ByteArray × Int × Bool)) × (List (Int × Bool)) × (List (ByteArray × Bool × (List (Int × Bool))))) → LS
  | (x0, x1, x2, x3, x4, x5, x6) => ⟨[.addr 65 0 [] 0, .cv ⟨.row K3, x0⟩, .cv ⟨.int .i64, x1⟩, .cv ⟨.int .i64, x2⟩], [⟨false, [⟨0, 0, .mk 0 ⟨.str, x3⟩⟩, ⟨0, 0, .mk 0 ⟨.row K1, x4⟩⟩, ⟨0, 0, .mk 0 ⟨.row K2, x5⟩⟩, ⟨0, 0, .mk 0 ⟨.row K3, x6⟩⟩]⟩]⟩
noncomputable def impl_twice.s6 (L4 : ((List (ByteArray × Bool × (List (Int × Bool)))) × Int × Int × ByteArray × (List (ByteArray × Int × Bool)) × (List (Int × Bool)) × (List (ByteArray × Bool × (List (Int × Bool))))) → Option (Bool)) (L6 : ((List (ByteArray × Bool × (List (Int × Bool)))) × Int × Int × (List (ByteArray × Bool × (List (Int × Bool)))) × Int × Int × ByteArray × (List (ByteArray × Int × Bool)) × (List (Int × Bool)) × (List (ByteArray × Bool × (List (Int × Bool)))) × ByteArray × Bool × (List (Int × Bool))) → Option (Bool)) : ((List (ByteArray × Bool × (List (Int × Bool)))) × Int × Int × (List (ByteArray × Bool × (List (Int × Bool)))) × Int × Int × ByteArray × (List (ByteArray × Int × Bool)) × (List (Int × Bool)) × (List (ByteArray × Bool × (List (Int × Bool)))) × ByteArray × Bool × (List (Int × Bool))) → Option (Bool)
  | (x0, x1, x2, x3, x4, x5, x6, x7, x8, x9, x10, x11, x12) =>
  bif decide (x5 < x4) then
   bif decide (0 ≤ x5) && decide (x5 < (List.length x3 : Int)) then
    bif ByteArray.toList ((List.getD x3 (Int.toNat x5) (ByteArray.empty, false, ([] : List (Int × Bool)))).1) == ByteArray.toList x10 then
     some true
    else
     L6 (x0, x1, x2, x3, x4, IntKind.wrap IntKind.i64 (x5 + (1 : Int)), x6, x7, x8, x9, x10, x11, x12)
   else
    none
  else
   L4 (x0, x1, IntKind.wrap IntKind.i64 (x2 + (1 : Int)), x6, x7, x8, x9)
noncomputable def impl_twice.ll6 : ((List (ByteArray × Bool × (List (Int × Bool)))) × Int × Int × (List (ByteArray × Bool × (List (Int × Bool)))) × Int × Int × ByteArray × (List (ByteArray × Int × Bool)) × (List (Int × Bool)) × (List (ByteArray × Bool × (List (Int × Bool)))) × ByteArray × Bool × (List (Int × Bool))) → LS
  | (x0, x1, x2, x3, x4, x5, x6, x7, x8, x9, x10, x11, x12) => ⟨[.addr 65 0 [] 0, .addr 513 0 [] 0, .cv ⟨.row K3, x0⟩, .cv ⟨.int .i64, x1⟩, .cv ⟨.int .i64, x2⟩, .cv ⟨.row K3, x3⟩, .cv ⟨.int .i64, x4⟩, .cv ⟨.int .i64, x5⟩], [⟨false, [⟨0, 0, .mk 0 ⟨.str, x6⟩⟩, ⟨0, 0, .mk 0 ⟨.row K1, x7⟩⟩, ⟨0, 0, .mk 0 ⟨.row K2, x8⟩⟩, ⟨0, 0, .mk 0 ⟨.row K3, x9⟩⟩]⟩, ⟨false, [⟨0, 0, .mk 0 ⟨.str, x10⟩⟩, ⟨0, 0, .mk 0 ⟨.bool, x11⟩⟩, ⟨0, 0, .mk 0 ⟨.row K2, x12⟩⟩]⟩]⟩
noncomputable def impl_twice.m (B0 : ((List (ByteArray × Int × Bool)) × Int × Int × ByteArray × (List (ByteArray × Int × Bool)) × (List (Int × Bool)) × (List (ByteArray × Bool × (List (Int × Bool))))) → Option (Bool)) : (ByteArray × (List (ByteArray × Int × Bool)) × (List (Int × Bool)) × (List (ByteArray × Bool × (List (Int × Bool))))) → Option (Bool)
  | (a0_0, a0_1, a0_2, a0_3) =>
  B0 (a0_1, (List.length a0_1 : Int), (0 : Int), a0_0, a0_1, a0_2, a0_3)
noncomputable def impl_twice.sig : Sig := ⟨[.val true [⟨.str, 0, 0, false⟩, ⟨.row K1, 0, 0, false⟩, ⟨.row K2, 0, 0, false⟩, ⟨.row K3, 0, 0, false⟩]], [(.one, [(.bool, 0)])]⟩
noncomputable def impl_twice.hint : Nat → Hint
  | 0 => ⟨[(1, .keep), (12, .keep), (13, .keep), (14, .keep)], [(65, [0, 0, 0, 0])]⟩
  | 2 => ⟨[(1, .keep), (4, .keep), (12, .keep), (13, .keep), (14, .keep), (22, .keep), (23, .keep), (24, .keep)], [(65, [0, 0, 0, 0]), (257, [0, 0, 0])]⟩
  | 4 => ⟨[(1, .keep), (36, .keep), (37, .keep), (38, .keep)], [(65, [0, 0, 0, 0])]⟩
  | 6 => ⟨[(1, .keep), (8, .keep), (36, .keep), (37, .keep), (38, .keep), (46, .keep), (47, .keep), (48, .keep)], [(65, [0, 0, 0, 0]), (513, [0, 0, 0])]⟩
  | _ => ⟨[], []⟩
noncomputable def impl_twice.join : Nat → Option Hint
  | _ => none
noncomputable def impl_twice.body : Code := (Tryd.f56).body.getD .skip
noncomputable def impl_twice.rv : List ResultVar := (Tryd.f56).results.toList
noncomputable def impl_partsOk.s0 (c55 : Int × Int × Int → Option (Bool)) (B2 : ((List (Int × Bool)) × (List (Int × Bool)) × Int × Int × (List (Int × Bool)) × Int × Int × ByteArray × (List (ByteArray × Int × Bool)) × (List (Int × Bool)) × (List (ByteArray × Bool × (List (Int × Bool)))) × Int × Bool) → Option (Bool)) (L0 : ((List (Int × Bool)) × (List (Int × Bool)) × Int × Int × ByteArray × (List (ByteArray × Int × Bool)) × (List (Int × Bool)) × (List (ByteArray × Bool × (List (Int × Bool))))) → Option (Bool)) : ((List (Int × Bool)) × (List (Int × Bool)) × Int × Int × ByteArray × (List (ByteArray × Int × Bool)) × (List (Int × Bool)) × (List (ByteArray × Bool × (List (Int × Bool))))) → Option (Bool)
  | (x0, x1, x2, x3, x4, x5, x6, x7) =>
  bif decide (x3 < x2) then
   bif decide (0 ≤ x3) && decide (x3 < (List.length x1 : Int)) then
    Option.bind (c55 ((List.getD x1 (Int.toNat x3) ((0 : Int), false)).1, (0 : Int), IntKind.wrap IntKind.i64 ((List.length x5 : Int) - (1 : Int)))) fun r1 =>
     bif !(r1) then
      some false
     else
      bif decide (0 ≤ (0 : Int)) && decide ((0 : Int) ≤ x3) && decide (x3 ≤ (List.length x0 : Int)) then
       B2 (x0, x1, x2, x3, List.drop (Int.toNat (0 : Int)) (List.take (Int.toNat x3) x0), (List.length (List.drop (Int.toNat (0 : Int)) (List.take (Int.toNat x3) x0)) : Int), (0 : Int), x4, x5, x6, x7, (List.getD x1 (Int.toNat x3) ((0 : Int), false)).1, (List.getD x1 (Int.toNat x3) ((0 : Int), false)).2)
      else
       none
   else
    none
  else
   Option.bind (c55 ((List.length x0 : Int), (1 : Int), (2 : Int))) fun r2 =>
    some r2
noncomputable def impl_partsOk.ll0 : ((List (Int × Bool)) × (List (Int × Bool)) × Int × Int × ByteArray × (List (ByteArray × Int × Bool)) × (List (Int × Bool)) × (List (ByteArray × Bool × (List (Int × Bool))))) → LS
  | (x0, x1, x2, x3, x4, x5, x6, x7) => ⟨[.cv ⟨.row K2, x0⟩, .addr 129 0 [] 0, .cv ⟨.row K2, x1⟩, .cv ⟨.int .i64, x2⟩, .cv ⟨.int .i64, x3⟩], [⟨false, [⟨0, 0, .mk 0 ⟨.str, x4⟩⟩, ⟨0, 0, .mk 0 ⟨.row K1, x5⟩⟩, ⟨0, 0, .mk 0 ⟨.row K2, x6⟩⟩, ⟨0, 0, .mk 0 ⟨.row K3, x7⟩⟩]⟩]⟩
noncomputable def impl_partsOk.s2 (L0 : ((List (Int × Bool)) × (List (Int × Bool)) × Int × Int × ByteArray × (List (ByteArray × Int × Bool)) × (List (Int × Bool)) × (List (ByteArray × Bool × (List (Int × Bool))))) → Option (Bool)) (L2 : ((List (Int × Bool)) × (List (Int × Bool)) × Int × Int × (List (Int × Bool)) × Int × Int × ByteArray × (List (ByteArray × Int × Bool)) × (List (Int × Bool)) × (List (ByteArray × Bool × (List (Int × Bool)))) × Int × Bool) → Option (Bool)) : ((List (Int × Bool)) × (List (Int × Bool)) × Int × Int × (List (Int × Bool)) × Int × Int × ByteArray × (List (ByteArray × Int × Bool)) × (List (Int × Bool)) × (List (ByteArray × Bool × (List (Int × Bool)))) × Int × Bool) → Option (Bool)
  | (x0, x1, x2, x3, x4, x5, x6, x7, x8, x9, x10, x11, x12) =>
  bif decide (x6 < x5) then
   bif decide (0 ≤ x6) && decide (x6 < (List.length x4 : Int)) then
    bif ((List.getD x4 (Int.toNat x6) ((0 : Int), false)).1) == x11 then
     some false
    else
     L2 (x0, x1, x2, x3, x4, x5, IntKind.wrap IntKind.i64 (x6 + (1 : Int)), x7, x8, x9, x10, x11, x12)
   else
    none
  else
   L0 (x0, x1, x2, IntKind.wrap IntKind.i64 (x3 + (1 : Int)), x7, x8, x9, x10)
noncomputable def impl_partsOk.ll2 : ((List (Int × Bool)) × (List (Int × Bool)) × Int × Int × (List (Int × Bool)) × Int × Int × ByteArray × (List (ByteArray × Int × Bool)) × (List (Int × Bool)) × (List (ByteArray × Bool × (List (Int × Bool)))) × Int × Bool) → LS
  | (x0, x1, x2, x3, x4, x5, x6, x7, x8, x9, x10, x11, x12) => ⟨[.cv ⟨.row K2, x0⟩, .addr 129 0 [] 0, .addr 385 0 [] 0, .cv ⟨.row K2, x1⟩, .cv ⟨.int .i64, x2⟩, .cv ⟨.int .i64, x3⟩, .cv ⟨.row K2, x4⟩, .cv ⟨.int .i64, x5⟩, .cv ⟨.int .i64, x6⟩], [⟨false, [⟨0, 0, .mk 0 ⟨.str, x7⟩⟩, ⟨0, 0, .mk 0 ⟨.row K1, x8⟩⟩, ⟨0, 0, .mk 0 ⟨.row K2, x9⟩⟩, ⟨0, 0, .mk 0 ⟨.row K3, x10⟩⟩]⟩, ⟨false, [⟨0, 0, .mk 0 ⟨.int .i64, x11⟩⟩, ⟨0, 0, .mk 0 ⟨.bool, x12⟩⟩]⟩]⟩
noncomputable def impl_partsOk.m (B0 : ((List (Int × Bool)) × (List (Int × Bool)) × Int × Int × ByteArray × (List (ByteArray × Int × Bool)) × (List (Int × Bool)) × (List (ByteArray × Bool × (List (Int × Bool))))) → Option (Bool)) : (ByteArray × (List (ByteArray × Int × Bool)) × (List (Int × Bool)) × (List (ByteArray × Bool × (List (Int × Bool)))) × (List (Int × Bool))) → Option (Bool)
  | (a0_0, a0_1, a0_2, a0_3, a1_0) =>
  B0 (a1_0, a1_0, (List.length a1_0 : Int), (0 : Int), a0_0, a0_1, a0_2, a0_3)
noncomputable def impl_partsOk.sig : Sig := ⟨[.val true [⟨.str, 0, 0, false⟩, ⟨.row K1, 0, 0, false⟩, ⟨.row K2, 0, 0, false⟩, ⟨.row K3, 0, 0, false⟩], .val false [⟨.row K2, 0, 0, false⟩]], [(.one, [(.bool, 0)])]⟩
noncomputable def impl_partsOk.hint : Nat → Hint
  | 0 => ⟨[(1, .keep), (2, .keep), (9, .keep), (10, .keep), (11, .keep)], [(129, [0, 0, 0, 0])]⟩
  | 2 => ⟨[(1, .keep), (2, .keep), (6, .keep), (9, .keep), (10, .keep), (11, .keep), (26, .keep), (27, .keep), (28, .keep)], [(129, [0, 0, 0, 0]), (385, [0, 0])]⟩
  | _ => ⟨[], []⟩
noncomputable def impl_partsOk.join : Nat → Option Hint
  | _ => none
noncomputable def impl_partsOk.body : Code := (Tryd.f57).body.getD .skip
noncomputable def impl_partsOk.rv : List ResultVar := (Tryd.f57).results.toList
noncomputable def impl_CheckDef.s0 (c55 : Int × Int × Int → Option (Bool)) (c56 : ByteArray × (List (ByteArray × Int × Bool)) × (List (Int × Bool)) × (List (ByteArray × Bool × (List (Int × Bool)))) → Option (Bool)) (B2 : ((List (ByteArray × Bool × (List (Int × Bool)))) × Int × Int × ByteArray × (List (ByteArray × Int × Bool)) × (List (Int × Bool)) × (List (ByteArray × Bool × (List (Int × Bool))))) → Option (Int)) (L0 : ((List (ByteArray × Int × Bool)) × Int × Int × ByteArray × (List (ByteArray × Int × Bool)) × (List (Int × Bool)) × (List (ByteArray × Bool × (List (Int × Bool))))) → Option (Int)) : ((List (ByteArray × Int × Bool)) × Int × Int × ByteArray × (List (ByteArray × Int × Bool)) × (List (Int × Bool)) × (List (ByteArray × Bool × (List (Int × Bool))))) → Option (Int)
  | (x0, x1, x2, x3, x4, x5, x6) =>
  bif decide (x2 < x1) then
   bif decide (0 ≤ x2) && decide (x2 < (List.length x0 : Int)) then
    Option.bind (c55 ((List.getD x0 (Int.toNat x2) (ByteArray.empty, (0 : Int), false)).2.1, (1 : Int), (4 : Int))) fun r3 =>
     bif !(r3) then
      some (2 : Int)
     else
      L0 (x0, x1, IntKind.wrap IntKind.i64 (x2 + (1 : Int)), x3, x4, x5, x6)
   else
    none
  else
   Option.bind (c56 (x3, x4, x5, x6)) fun r4 =>
    bif r4 then
     some (3 : Int)
    else
     bif decide ((List.length x6 : Int) > (2 : Int)) then
      some (6 : Int)
     else
      B2 (x6, (List.length x6 : Int), (0 : Int), x3, x4, x5, x6)
noncomputable def impl_CheckDef.ll0 : ((List (ByteArray × Int × Bool)) × Int × Int × ByteArray × (List (ByteArray × Int × Bool)) × (List (Int × Bool)) × (List (ByteArray × Bool × (List (Int × Bool))))) → LS
  | (x0, x1, x2, x3, x4, x5, x6) => ⟨[.addr 65 0 [] 0, .cv ⟨.row K1, x0⟩, .cv ⟨.int .i64, x1⟩, .cv ⟨.int .i64, x2⟩], [⟨false, [⟨0, 0, .mk 0 ⟨.str, x3⟩⟩, ⟨0, 0, .mk 0 ⟨.row K1, x4⟩⟩, ⟨0, 0, .mk 0 ⟨.row K2, x5⟩⟩, ⟨0, 0, .mk 0 ⟨.row K3, x6⟩⟩]⟩]⟩
noncomputable def impl_CheckDef.s2 (c57 : ByteArray × (List (ByteArray × Int × Bool)) × (List (Int × Bool)) × (List (ByteArray × Bool × (List (Int × Bool)))) × (List (Int × Bool)) → Option (Bool)) (B4 : ((List (Int × Bool)) × Int × Int × ByteArray × (List (ByteArray × Int × Bool)) × (List (Int × Bool)) × (List (ByteArray × Bool × (List (Int × Bool))))) → Option (Int)) (L2 : ((List (ByteArray × Bool × (List (Int × Bool)))) × Int × Int × ByteArray × (List (ByteArray × Int × Bool)) × (List (Int × Bool)) × (List (ByteArray × Bool × (List (Int × Bool))))) → Option (Int)) : ((List (ByteArray × Bool × (List (Int × Bool)))) × Int × Int × ByteArray × (List (ByteArray × Int × Bool)) × (List (Int × Bool)) × (List (ByteArray × Bool × (List (Int × Bool))))) → Option (Int)
  | (x0, x1, x2, x3, x4, x5, x6) =>
  bif decide (x2 < x1) then
   bif decide (0 ≤ x2) && decide (x2 < (List.length x0 : Int)) then
    Option.bind (c57 (x3, x4, x5, x6, (List.getD x0 (Int.toNat x2) (ByteArray.empty, false, ([] : List (Int × Bool)))).2.2)) fun r5 =>
     bif !(r5) then
      some (5 : Int)
     else
      L2 (x0, x1, IntKind.wrap IntKind.i64 (x2 + (1 : Int)), x3, x4, x5, x6)
   else
    none
  else
   Option.bind (c57 (x3, x4, x5, x6, x5)) fun r6 =>
    bif !(r6) then
     some (5 : Int)
    else
     B4 (x5, (List.length x5 : Int), (0 : Int), x3, x4, x5, x6)
noncomputable def impl_CheckDef.ll2 : ((List (ByteArray × Bool × (List (Int × Bool)))) × Int × Int × ByteArray × (List (ByteArray × Int × Bool)) × (List (Int × Bool)) × (List (ByteArray × Bool × (List (Int × Bool))))) → LS
  | (x0, x1, x2, x3, x4, x5, x6) => ⟨[.addr 65 0 [] 0, .cv ⟨.row K3, x0⟩, .cv ⟨.int .i64, x1⟩, .cv ⟨.int .i64, x2⟩], [⟨false, [⟨0, 0, .mk 0 ⟨.str, x3⟩⟩, ⟨0, 0, .mk 0 ⟨.row K1, x4⟩⟩, ⟨0, 0, .mk 0 ⟨.row K2, x5⟩⟩, ⟨0, 0, .mk 0 ⟨.row K3, x6⟩⟩]⟩]⟩
noncomputable def impl_CheckDef.s4 (L4 : ((List (Int × Bool)) × Int × Int × ByteArray × (List (ByteArray × Int × Bool)) × (List (Int × Bool)) × (List (ByteArray × Bool × (List (Int × Bool))))) → Option (Int)) : ((List (Int × Bool)) × Int × Int × ByteArray × (List (ByteArray × Int × Bool)) × (List (Int × Bool)) × (List (ByteArray × Bool × (List (Int × Bool))))) → Option (Int)
  | (x0, x1, x2, x3, x4, x5, x6) =>
  bif decide (x2 < x1) then
   bif decide (0 ≤ x2) && decide (x2 < (List.length x0 : Int)) then
    bif decide (0 ≤ ((List.getD x0 (Int.toNat x2) ((0 : Int), false)).1)) && decide (((List.getD x0 (Int.toNat x2) ((0 : Int), false)).1) < (List.length x4 : Int)) then
     bif (List.getD x4 (Int.toNat ((List.getD x0 (Int.toNat x2) ((0 : Int), false)).1)) (ByteArray.empty, (0 : Int), false)).2.2 then
      some (4 : Int)
     else
      L4 (x0, x1, IntKind.wrap IntKind.i64 (x2 + (1 : Int)), x3, x4, x5, x6)
    else
     none
   else
    none
  else
   some (0 : Int)
noncomputable def impl_CheckDef.ll4 : ((List (Int × Bool)) × Int × Int × ByteArray × (List (ByteArray × Int × Bool)) × (List (Int × Bool)) × (List (ByteArray × Bool × (List (Int × Bool))))) → LS
  | (x0, x1, x2, x3, x4, x5, x6) => ⟨[.addr 65 0 [] 0, .cv ⟨.row K2, x0⟩, .cv ⟨.int .i64, x1⟩, .cv ⟨.int .i64, x2⟩], [⟨false, [⟨0, 0, .mk 0 ⟨.str, x3⟩⟩, ⟨0, 0, .mk 0 ⟨.row K1, x4⟩⟩, ⟨0, 0, .mk 0 ⟨.row K2, x5⟩⟩, ⟨0, 0, .mk 0 ⟨.row K3, x6⟩⟩]⟩]⟩
noncomputable def impl_CheckDef.m (c54 : ByteArray × (List (ByteArray × Int × Bool)) × (List (Int × Bool)) × (List (ByteArray × Bool × (List (Int × Bool)))) → Option (Bool)) (c55 : Int × Int × Int → Option (Bool)) (B0 : ((List (ByteArray × Int × Bool)) × Int × Int × ByteArray × (List (ByteArray × Int × Bool)) × (List (Int × Bool)) × (List (ByteArray × Bool × (List (Int × Bool))))) → Option (Int)) : (ByteArray × (List (ByteArray × Int × Bool)) × (List (Int × Bool)) × (List (ByteArray × Bool × (List (Int × Bool))))) → Option (Int)
  | (a0_0, a0_1, a0_2, a0_3) =>
  Option.bind (c54 (a0_0, a0_1, a0_2, a0_3)) fun r1 =>
   bif !(r1) then
    some (1 : Int)
   else
    Option.bind (c55 ((List.length a0_1 : Int), (1 : Int), (6 : Int))) fun r2 =>
     bif !(r2) then
      some (2 : Int)
     else
      B0 (a0_1, (List.length a0_1 : Int), (0 : Int), a0_0, a0_1, a0_2, a0_3)
noncomputable def impl_CheckDef.sig : Sig := ⟨[.val true [⟨.str, 0, 0, false⟩, ⟨.row K1, 0, 0, false⟩, ⟨.row K2, 0, 0, false⟩, ⟨.row K3, 0, 0, false⟩]], [(.one, [(.int .i64, 0)])]⟩
noncomputable def impl_CheckDef.hint : Nat → Hint
  | 0 => ⟨[(1, .keep), (18, .keep), (19, .keep), (20, .keep)], [(65, [0, 0, 0, 0])]⟩
  | 2 => ⟨[(1, .keep), (36, .keep), (37, .keep), (38, .keep)], [(65, [0, 0, 0, 0])]⟩
  | 4 => ⟨[(1, .keep), (54, .keep), (55, .keep), (56, .keep)], [(65, [0, 0, 0, 0])]⟩
  | _ => ⟨[], []⟩
noncomputable def impl_CheckDef.join : Nat → Option Hint
  | _ => none
noncomputable def impl_CheckDef.body : Code := (Tryd.f21).body.getD .skip
noncomputable def impl_CheckDef.rv : List ResultVar := (Tryd.f21).results.toList
noncomputable def laws_big.m  : (List Int) → Option (Bool)
  | a0_0 =>
  some (decide ((List.length a0_0 : Int) > (1048576 : Int)))
noncomputable def laws_big.sig : Sig := ⟨[.val false [⟨.row K4, 0, 0, false⟩]], [(.one, [(.bool, 0)])]⟩
noncomputable def laws_big.hint : Nat → Hint
  | _ => ⟨[], []⟩
noncomputable def laws_big.join : Nat → Option Hint
  | _ => none
noncomputable def laws_big.body : Code := (Tryd.f19).body.getD .skip
noncomputable def laws_big.rv : List ResultVar := (Tryd.f19).results.toList
noncomputable def spec_l1New.s0 (L0 : ((List Int) × Int × Int) → Option ((List Int) × Int × Int)) : ((List Int) × Int × Int) → Option ((List Int) × Int × Int)
  | (x0, x1, x2) =>
  bif decide (x2 < (List.length x0 : Int)) then
   bif decide (x2 < (4000 : Int)) then
    bif decide (0 ≤ x2) && decide (x2 < (List.length x0 : Int)) then
     L0 (x0, IntKind.wrap IntKind.i64 ((BitVec.ofInt (IntKind.bits IntKind.i64) (IntKind.wrap IntKind.i64 ((IntKind.wrap IntKind.i64 ((IntKind.wrap IntKind.i64 (x1 * (137 : Int))) + (IntKind.wrap IntKind.i64 (List.getD x0 (Int.toNat x2) (0 : Int))))) + (11 : Int))) &&& BitVec.ofInt (IntKind.bits IntKind.i64) (1073741823 : Int)).toNat : Int), IntKind.wrap IntKind.i64 (x2 + (1 : Int)))
    else
     none
   else
    some (x0, (0 : Int), x1)
  else
   some (x0, (0 : Int), x1)
noncomputable def spec_l1New.ll0 : ((List Int) × Int × Int) → LS
  | (x0, x1, x2) => ⟨[.cv ⟨.row K4, x0⟩, .cv ⟨.int .i64, x1⟩, .cv ⟨.int .i64, x2⟩], []⟩
noncomputable def spec_l1New.m (B0 : ((List Int) × Int × Int) → Option ((List Int) × Int × Int)) : (List Int) → Option ((List Int) × Int × Int)
  | a0_0 =>
  B0 (a0_0, IntKind.wrap IntKind.i64 ((758758 : Int) + (List.length a0_0 : Int)), (0 : Int))
noncomputable def spec_l1New.sig : Sig := ⟨[.val false [⟨.row K4, 0, 0, false⟩]], [(.ptr, [(.row K4, 0), (.int .i64, 0), (.int .i64, 0)])]⟩
noncomputable def spec_l1New.hint : Nat → Hint
  | 0 => ⟨[(0, .keep), (3, .keep), (4, .keep)], []⟩
  | _ => ⟨[], []⟩
noncomputable def spec_l1New.join : Nat → Option Hint
  | _ => none
noncomputable def spec_l1New.body : Code := (Tryd.f52).body.getD .skip
noncomputable def spec_l1New.rv : List ResultVar := (Tryd.f52).results.toList
noncomputable def spec_l1Byte.m  : ((List Int) × Int × Int) → Option (Int × Int × Int)
  | (a0_0, a0_1, a0_2) =>
  bif decide (¬ (33 : Int) < 0) then
   bif decide (¬ (47 : Int) < 0) then
    bif decide (a0_1 < (List.length a0_0 : Int)) then
     bif decide (0 ≤ a0_1) && decide (a0_1 < (List.length a0_0 : Int)) then
      some (IntKind.wrap IntKind.i64 ((BitVec.ofInt (IntKind.bits IntKind.i64) (IntKind.wrap IntKind.i64 ((IntKind.wrap IntKind.i64 ((BitVec.ofInt (IntKind.bits IntKind.i64) (IntKind.wrap IntKind.i64 ((BitVec.ofInt (IntKind.bits IntKind.i64) (Int.fdiv (IntKind.wrap IntKind.i64 ((IntKind.wrap IntKind.i64 (a0_2 * (6364136223846793005 : Int))) + (1442695040888963407 : Int))) (2 ^ (min (Int.toNat (33 : Int)) (IntKind.bits IntKind.i64)))) ^^^ BitVec.ofInt (IntKind.bits IntKind.i64) (Int.fdiv (IntKind.wrap IntKind.i64 ((IntKind.wrap IntKind.i64 (a0_2 * (6364136223846793005 : Int))) + (1442695040888963407 : Int))) (2 ^ (min (Int.toNat (47 : Int)) (IntKind.bits IntKind.i64))))).toNat : Int)) &&& BitVec.ofInt (IntKind.bits IntKind.i64) (255 : Int)).toNat : Int)) + (IntKind.wrap IntKind.i64 (List.getD a0_0 (Int.toNat a0_1) (0 : Int))))) &&& BitVec.ofInt (IntKind.bits IntKind.i64) (255 : Int)).toNat : Int), IntKind.wrap IntKind.i64 (a0_1 + (1 : Int)), IntKind.wrap IntKind.i64 ((IntKind.wrap IntKind.i64 (a0_2 * (6364136223846793005 : Int))) + (1442695040888963407 : Int)))
     else
      none
    else
     some (IntKind.wrap IntKind.i64 ((BitVec.ofInt (IntKind.bits IntKind.i64) (IntKind.wrap IntKind.i64 ((BitVec.ofInt (IntKind.bits IntKind.i64) (Int.fdiv (IntKind.wrap IntKind.i64 ((IntKind.wrap IntKind.i64 (a0_2 * (6364136223846793005 : Int))) + (1442695040888963407 : Int))) (2 ^ (min (Int.toNat (33 : Int)) (IntKind.bits IntKind.i64)))) ^^^ BitVec.ofInt (IntKind.bits IntKind.i64) (Int.fdiv (IntKind.wrap IntKind.i64 ((IntKind.wrap IntKind.i64 (a0_2 * (6364136223846793005 : Int))) + (1442695040888963407 : Int))) (2 ^ (min (Int.toNat (47 : Int)) (IntKind.bits IntKind.i64))))).toNat : Int)) &&& BitVec.ofInt (IntKind.bits IntKind.i64) (255 : Int)).toNat : Int), a0_1, IntKind.wrap IntKind.i64 ((IntKind.wrap IntKind.i64 (a0_2 * (6364136223846793005 : Int))) + (1442695040888963407 : Int)))
   else
    none
  else
   none
noncomputable def spec_l1Byte.sig : Sig := ⟨[.ptr [⟨.row K4, 0, 1, false⟩, ⟨.int .i64, 0, 0, true⟩, ⟨.int .i64, 0, 0, true⟩]], [(.one, [(.int .i64, 0)])]⟩
noncomputable def spec_l1Byte.hint : Nat → Hint
  | _ => ⟨[], []⟩
noncomputable def spec_l1Byte.join : Nat → Option Hint
  | _ => none
noncomputable def spec_l1Byte.body : Code := (Tryd.f134).body.getD .skip
noncomputable def spec_l1Byte.rv : List ResultVar := (Tryd.f134).results.toList
noncomputable def spec_l1Below.m (c134 : (List Int) × Int × Int → Option (Int × Int × Int)) : ((List Int) × Int × Int × Int) → Option (Int × Int × Int)
  | (a0_0, a0_1, a0_2, a1_0) =>
  bif decide (a1_0 ≤ (0 : Int)) then
   some ((0 : Int), a0_1, a0_2)
  else
   bif decide (a1_0 ≤ (256 : Int)) then
    Option.bind (c134 (a0_0, a0_1, a0_2)) fun r1 =>
     bif decide (¬ a1_0 = 0) then
      some (Int.tmod r1.1 a1_0, r1.2.1, r1.2.2)
     else
      none
   else
    Option.bind (c134 (a0_0, a0_1, a0_2)) fun r2 =>
     Option.bind (c134 (a0_0, r2.2.1, r2.2.2)) fun r3 =>
      Option.bind (c134 (a0_0, r3.2.1, r3.2.2)) fun r4 =>
       bif decide (¬ a1_0 = 0) then
        some (Int.tmod (IntKind.wrap IntKind.i64 ((IntKind.wrap IntKind.i64 ((IntKind.wrap IntKind.i64 (r2.1 * (65536 : Int))) + (IntKind.wrap IntKind.i64 (r3.1 * (256 : Int))))) + r4.1)) a1_0, r4.2.1, r4.2.2)
       else
        none
noncomputable def spec_l1Below.sig : Sig := ⟨[.ptr [⟨.row K4, 0, 1, false⟩, ⟨.int .i64, 0, 0, true⟩, ⟨.int .i64, 0, 0, true⟩], .val false [⟨.int .i64, 0, 0, false⟩]], [(.one, [(.int .i64, 0)])]⟩
noncomputable def spec_l1Below.hint : Nat → Hint
  | _ => ⟨[], []⟩
noncomputable def spec_l1Below.join : Nat → Option Hint
  | _ => none
noncomputable def spec_l1Below.body : Code := (Tryd.f91).body.getD .skip
noncomputable def spec_l1Below.rv : List ResultVar := (Tryd.f91).results.toList
noncomputable def spec_l1Str.m (c91 : (List Int) × Int × Int × Int → Option (Int × Int × Int)) : ((List Int) × Int × Int × (List ByteArray)) → Option (ByteArray × Int × Int)
  | (a0_0, a0_1, a0_2, a1_0) =>
  Option.bind (c91 (a0_0, a0_1, a0_2, (List.length a1_0 : Int))) fun r1 =>
   bif decide (0 ≤ r1.1) && decide (r1.1 < (List.length a1_0 : Int)) then
    some ((List.getD a1_0 (Int.toNat r1.1) ByteArray.empty), r1.2.1, r1.2.2)
   else
    none
noncomputable def spec_l1Str.sig : Sig := ⟨[.ptr [⟨.row K4, 0, 1, false⟩, ⟨.int .i64, 0, 0, true⟩, ⟨.int .i64, 0, 0, true⟩], .val false [⟨.row K0, 0, 0, false⟩]], [(.one, [(.str, 0)])]⟩
noncomputable def spec_l1Str.hint : Nat → Hint
  | _ => ⟨[], []⟩
noncomputable def spec_l1Str.join : Nat → Option Hint
  | _ => none
noncomputable def spec_l1Str.body : Code := (Tryd.f92).body.getD .skip
noncomputable def spec_l1Str.rv : List ResultVar := (Tryd.f92).results.toList
noncomputable def spec_l1Once.m (c91 : (List Int) × Int × Int × Int → Option (Int × Int × Int)) : ((List Int) × Int × Int × Int) → Option (Bool × Int × Int)
  | (a0_0, a0_1, a0_2, a1_0) =>
  Option.bind (c91 (a0_0, a0_1, a0_2, a1_0)) fun r1 =>
   some (r1.1 == (0 : Int), r1.2.1, r1.2.2)
noncomputable def spec_l1Once.sig : Sig := ⟨[.ptr [⟨.row K4, 0, 1, false⟩, ⟨.int .i64, 0, 0, true⟩, ⟨.int .i64, 0, 0, true⟩], .val false [⟨.int .i64, 0, 0, false⟩]], [(.one, [(.bool, 0)])]⟩
noncomputable def spec_l1Once.hint : Nat → Hint
  | _ => ⟨[], []⟩
noncomputable def spec_l1Once.join : Nat → Option Hint
  | _ => none
noncomputable def spec_l1Once.body : Code := (Tryd.f58).body.getD .skip
noncomputable def spec_l1Once.rv : List ResultVar := (Tryd.f58).results.toList
noncomputable def spec_l1Int.m (c91 : (List Int) × Int × Int × Int → Option (Int × Int × Int)) : ((List Int) × Int × Int × (List Int)) → Option (Int × Int × Int)
  | (a0_0, a0_1, a0_2, a1_0) =>
  Option.bind (c91 (a0_0, a0_1, a0_2, (List.length a1_0 : Int))) fun r1 =>
   bif decide (0 ≤ r1.1) && decide (r1.1 < (List.length a1_0 : Int)) then
    some ((List.getD a1_0 (Int.toNat r1.1) (0 : Int)), r1.2.1, r1.2.2)
   else
    none
noncomputable def spec_l1Int.sig : Sig := ⟨[.ptr [⟨.row K4, 0, 1, false⟩, ⟨.int .i64, 0, 0, true⟩, ⟨.int .i64, 0, 0, true⟩], .val false [⟨.row K5, 0, 0, false⟩]], [(.one, [(.int .i64, 0)])]⟩
noncomputable def spec_l1Int.hint : Nat → Hint
  | _ => ⟨[], []⟩
noncomputable def spec_l1Int.join : Nat → Option Hint
  | _ => none
noncomputable def spec_l1Int.body : Code := (Tryd.f96).body.getD .skip
noncomputable def spec_l1Int.rv : List ResultVar := (Tryd.f96).results.toList
noncomputable def spec_l9Draw2.m (c58 : (List Int) × Int × Int × Int → Option (Bool × Int × Int)) (c91 : (List Int) × Int × Int × Int → Option (Int × Int × Int)) : ((List Int) × Int × Int × Int) → Option ((List (Int × Bool)) × Int × Int)
  | (a0_0, a0_1, a0_2, a1_0) =>
  Option.bind (c91 (a0_0, a0_1, a0_2, a1_0)) fun r1 =>
   Option.bind (c58 (a0_0, r1.2.1, r1.2.2, (2 : Int))) fun r2 =>
    bif decide (a1_0 > (1 : Int)) then
     Option.bind (c58 (a0_0, r2.2.1, r2.2.2, (3 : Int))) fun r3 =>
      bif r3.1 then
       bif decide (¬ a1_0 = 0) then
        Option.bind (c58 (a0_0, r3.2.1, r3.2.2, (2 : Int))) fun r4 =>
         bif decide ((List.length ([(r1.1, r2.1)] : List (Int × Bool)) + List.length ([(Int.tmod (IntKind.wrap IntKind.i64 (r1.1 + (1 : Int))) a1_0, r4.1)] : List (Int × Bool))) * 16 ≤ 140737488355328) then
          some (([(r1.1, r2.1)] : List (Int × Bool)) ++ ([(Int.tmod (IntKind.wrap IntKind.i64 (r1.1 + (1 : Int))) a1_0, r4.1)] : List (Int × Bool)), r4.2.1, r4.2.2)
         else
          none
       else
        none
      else
       some (([(r1.1, r2.1)] : List (Int × Bool)), r3.2.1, r3.2.2)
    else
     some (([(r1.1, r2.1)] : List (Int × Bool)), r2.2.1, r2.2.2)
noncomputable def spec_l9Draw2.sig : Sig := ⟨[.ptr [⟨.row K4, 0, 1, false⟩, ⟨.int .i64, 0, 0, true⟩, ⟨.int .i64, 0, 0, true⟩], .val false [⟨.int .i64, 0, 0, false⟩]], [(.one, [(.row K2, 1)])]⟩
noncomputable def spec_l9Draw2.hint : Nat → Hint
  | _ => ⟨[], []⟩
noncomputable def spec_l9Draw2.join : Nat → Option Hint
  | _ => none
noncomputable def spec_l9Draw2.body : Code := (Tryd.f104).body.getD .skip
noncomputable def spec_l9Draw2.rv : List ResultVar := (Tryd.f104).results.toList
noncomputable def spec_l9Draw.s0 (c58 : (List Int) × Int × Int × Int → Option (Bool × Int × Int)) (c91 : (List Int) × Int × Int × Int → Option (Int × Int × Int)) (B2 : (Int × (List Int) × Int × Int × ByteArray × (List (ByteArray × Int × Bool)) × (List (Int × Bool)) × (List (ByteArray × Bool × (List (Int × Bool)))) × ByteArray × (List (ByteArray × Int × Bool)) × (List (Int × Bool)) × (List (ByteArray × Bool × (List (Int × Bool)))) × (List ByteArray)) → Option (ByteArray × (List (ByteArray × Int × Bool)) × (List (Int × Bool)) × (List (ByteArray × Bool × (List (Int × Bool)))) × Int × Int)) (L0 : (Int × (List Int) × Int × Int × ByteArray × (List (ByteArray × Int × Bool)) × (List (Int × Bool)) × (List (ByteArray × Bool × (List (Int × Bool)))) × ByteArray × (List (ByteArray × Int × Bool)) × (List (Int × Bool)) × (List (ByteArray × Bool × (List (Int × Bool)))) × (List ByteArray)) → Option (ByteArray × (List (ByteArray × Int × Bool)) × (List (Int × Bool)) × (List (ByteArray × Bool × (List (Int × Bool)))) × Int × Int)) : (Int × (List Int) × Int × Int × ByteArray × (List (ByteArray × Int × Bool)) × (List (Int × Bool)) × (List (ByteArray × Bool × (List (Int × Bool)))) × ByteArray × (List (ByteArray × Int × Bool)) × (List (Int × Bool)) × (List (ByteArray × Bool × (List (Int × Bool)))) × (List ByteArray)) → Option (ByteArray × (List (ByteArray × Int × Bool)) × (List (Int × Bool)) × (List (ByteArray × Bool × (List (Int × Bool)))) × Int × Int)
  | (x0, x1, x2, x3, x4, x5, x6, x7, x8, x9, x10, x11, x12) =>
  Option.bind (c91 (x1, x2, x3, (3 : Int))) fun r2 =>
   bif decide (x0 < (IntKind.wrap IntKind.i64 ((1 : Int) + r2.1))) then
    bif decide (x0 < (3 : Int)) then
     bif decide (0 ≤ x0) && decide (x0 < (List.length x12 : Int)) then
      Option.bind (c91 (x1, r2.2.1, r2.2.2, (4 : Int))) fun r3 =>
       Option.bind (c58 (x1, r3.2.1, r3.2.2, (2 : Int))) fun r4 =>
        bif decide ((List.length x9 + List.length ([((List.getD x12 (Int.toNat x0) ByteArray.empty), IntKind.wrap IntKind.i64 ((1 : Int) + r3.1), r4.1)] : List (ByteArray × Int × Bool))) * 32 ≤ 140737488355328) then
         L0 (IntKind.wrap IntKind.i64 (x0 + (1 : Int)), x1, r4.2.1, r4.2.2, x4, x5, x6, x7, x8, x9 ++ ([((List.getD x12 (Int.toNat x0) ByteArray.empty), IntKind.wrap IntKind.i64 ((1 : Int) + r3.1), r4.1)] : List (ByteArray × Int × Bool)), x10, x11, x12)
        else
         none
     else
      none
    else
     Option.bind (c58 (x1, r2.2.1, r2.2.2, (3 : Int))) fun r5 =>
      bif decide (0 ≤ (1 : Int)) && decide ((1 : Int) < (List.length x9 : Int)) then
       bif !((List.getD x9 (Int.toNat (1 : Int)) (ByteArray.empty, (0 : Int), false)).2.2) then
        Option.bind (c58 (x1, r5.2.1, r5.2.2, (2 : Int))) fun r6 =>
         bif r6.1 then
          Option.bind (c58 (x1, r6.2.1, r6.2.2, (2 : Int))) fun r7 =>
           bif decide ((List.length ([((0 : Int), r5.1)] : List (Int × Bool)) + List.length ([((1 : Int), r7.1)] : List (Int × Bool))) * 16 ≤ 140737488355328) then
            Option.bind (c91 (x1, r7.2.1, r7.2.2, (3 : Int))) fun r8 =>
             B2 (r8.1, x1, r8.2.1, r8.2.2, x4, x5, x6, x7, x8, x9, ([((0 : Int), r5.1)] : List (Int × Bool)) ++ ([((1 : Int), r7.1)] : List (Int × Bool)), x11, x12)
           else
            none
         else
          Option.bind (c91 (x1, r6.2.1, r6.2.2, (3 : Int))) fun r12 =>
           B2 (r12.1, x1, r12.2.1, r12.2.2, x4, x5, x6, x7, x8, x9, ([((0 : Int), r5.1)] : List (Int × Bool)), x11, x12)
       else
        Option.bind (c91 (x1, r5.2.1, r5.2.2, (3 : Int))) fun r13 =>
         B2 (r13.1, x1, r13.2.1, r13.2.2, x4, x5, x6, x7, x8, x9, ([((0 : Int), r5.1)] : List (Int × Bool)), x11, x12)
      else
       none
   else
    Option.bind (c58 (x1, r2.2.1, r2.2.2, (3 : Int))) fun r14 =>
     bif decide (0 ≤ (1 : Int)) && decide ((1 : Int) < (List.length x9 : Int)) then
      bif !((List.getD x9 (Int.toNat (1 : Int)) (ByteArray.empty, (0 : Int), false)).2.2) then
       Option.bind (c58 (x1, r14.2.1, r14.2.2, (2 : Int))) fun r15 =>
        bif r15.1 then
         Option.bind (c58 (x1, r15.2.1, r15.2.2, (2 : Int))) fun r16 =>
          bif decide ((List.length ([((0 : Int), r14.1)] : List (Int × Bool)) + List.length ([((1 : Int), r16.1)] : List (Int × Bool))) * 16 ≤ 140737488355328) then
           Option.bind (c91 (x1, r16.2.1, r16.2.2, (3 : Int))) fun r17 =>
            B2 (r17.1, x1, r17.2.1, r17.2.2, x4, x5, x6, x7, x8, x9, ([((0 : Int), r14.1)] : List (Int × Bool)) ++ ([((1 : Int), r16.1)] : List (Int × Bool)), x11, x12)
          else
           none
        else
         Option.bind (c91 (x1, r15.2.1, r15.2.2, (3 : Int))) fun r18 =>
          B2 (r18.1, x1, r18.2.1, r18.2.2, x4, x5, x6, x7, x8, x9, ([((0 : Int), r14.1)] : List (Int × Bool)), x11, x12)
      else
       Option.bind (c91 (x1, r14.2.1, r14.2.2, (3 : Int))) fun r19 =>
        B2 (r19.1, x1, r19.2.1, r19.2.2, x4, x5, x6, x7, x8, x9, ([((0 : Int), r14.1)] : List (Int × Bool)), x11, x12)
     else
      none
noncomputable def spec_l9Draw.ll0 : (Int × (List Int) × Int × Int × ByteArray × (List (ByteArray × Int × Bool)) × (List (Int × Bool)) × (List (ByteArray × Bool × (List (Int × Bool)))) × ByteArray × (List (ByteArray × Int × Bool)) × (List (Int × Bool)) × (List (ByteArray × Bool × (List (Int × Bool)))) × (List ByteArray)) → LS
  | (x0, x1, x2, x3, x4, x5, x6, x7, x8, x9, x10, x11, x12) => ⟨[.addr 2 0 [] 0, .addr 257 0 [] 0, .addr 321 0 [] 0, .ref 24 0 [] none 0, .cv ⟨.int .i64, x0⟩], [⟨false, [⟨0, 0, .lk ⟨.row K4, x1⟩⟩, ⟨0, 0, .mk 0 ⟨.int .i64, x2⟩⟩, ⟨0, 0, .mk 0 ⟨.int .i64, x3⟩⟩]⟩, ⟨false, [⟨0, 0, .mk 0 ⟨.str, x4⟩⟩, ⟨0, 0, .mk 9 ⟨.row K1, x5⟩⟩, ⟨0, 0, .mk 9 ⟨.row K2, x6⟩⟩, ⟨0, 0, .mk 9 ⟨.row K3, x7⟩⟩]⟩, ⟨false, [⟨0, 0, .mk 0 ⟨.str, x8⟩⟩, ⟨0, 0, .mk 9 ⟨.row K1, x9⟩⟩, ⟨0, 0, .mk 9 ⟨.row K2, x10⟩⟩, ⟨0, 0, .mk 9 ⟨.row K3, x11⟩⟩]⟩, ⟨true, [⟨0, 0, .mk 9 ⟨.row K0, x12⟩⟩]⟩]⟩
noncomputable def spec_l9Draw.s2 (c58 : (List Int) × Int × Int × Int → Option (Bool × Int × Int)) (c92 : (List Int) × Int × Int × (List ByteArray) → Option (ByteArray × Int × Int)) (c104 : (List Int) × Int × Int × Int → Option ((List (Int × Bool)) × Int × Int)) (L2 : (Int × (List Int) × Int × Int × ByteArray × (List (ByteArray × Int × Bool)) × (List (Int × Bool)) × (List (ByteArray × Bool × (List (Int × Bool)))) × ByteArray × (List (ByteArray × Int × Bool)) × (List (Int × Bool)) × (List (ByteArray × Bool × (List (Int × Bool)))) × (List ByteArray)) → Option (ByteArray × (List (ByteArray × Int × Bool)) × (List (Int × Bool)) × (List (ByteArray × Bool × (List (Int × Bool)))) × Int × Int)) : (Int × (List Int) × Int × Int × ByteArray × (List (ByteArray × Int × Bool)) × (List (Int × Bool)) × (List (ByteArray × Bool × (List (Int × Bool)))) × ByteArray × (List (ByteArray × Int × Bool)) × (List (Int × Bool)) × (List (ByteArray × Bool × (List (Int × Bool)))) × (List ByteArray)) → Option (ByteArray × (List (ByteArray × Int × Bool)) × (List (Int × Bool)) × (List (ByteArray × Bool × (List (Int × Bool)))) × Int × Int)
  | (x0, x1, x2, x3, x4, x5, x6, x7, x8, x9, x10, x11, x12) =>
  bif decide (x0 > (0 : Int)) then
   Option.bind (c92 (x1, x2, x3, ([({ data := #[117] } : ByteArray), ({ data := #[118] } : ByteArray)] : List ByteArray))) fun r9 =>
    bif decide (0 ≤ x0) && decide (x0 < (List.length x12 : Int)) then
     bif decide (¬ ((ByteArray.size r9.1 + ByteArray.size (List.getD x12 (Int.toNat x0) ByteArray.empty) : Nat) : Int) > IntKind.max IntKind.i64) then
      Option.bind (c58 (x1, r9.2.1, r9.2.2, (2 : Int))) fun r10 =>
       Option.bind (c104 (x1, r10.2.1, r10.2.2, (List.length x9 : Int))) fun r11 =>
        bif decide ((List.length x11 + List.length ([(ByteArray.append r9.1 (List.getD x12 (Int.toNat x0) ByteArray.empty), r10.1, r11.1)] : List (ByteArray × Bool × (List (Int × Bool))))) * 48 ≤ 140737488355328) then
         L2 (IntKind.wrap IntKind.i64 (x0 - (1 : Int)), x1, r11.2.1, r11.2.2, x4, x5, x6, x7, x8, x9, x10, x11 ++ ([(ByteArray.append r9.1 (List.getD x12 (Int.toNat x0) ByteArray.empty), r10.1, r11.1)] : List (ByteArray × Bool × (List (Int × Bool)))), x12)
        else
         none
     else
      none
    else
     none
  else
   some (x8, x9, x10, x11, x2, x3)
noncomputable def spec_l9Draw.ll2 : (Int × (List Int) × Int × Int × ByteArray × (List (ByteArray × Int × Bool)) × (List (Int × Bool)) × (List (ByteArray × Bool × (List (Int × Bool)))) × ByteArray × (List (ByteArray × Int × Bool)) × (List (Int × Bool)) × (List (ByteArray × Bool × (List (Int × Bool)))) × (List ByteArray)) → LS
  | (x0, x1, x2, x3, x4, x5, x6, x7, x8, x9, x10, x11, x12) => ⟨[.addr 2 0 [] 0, .addr 257 0 [] 0, .addr 321 0 [] 0, .ref 24 0 [] none 0, .cv ⟨.int .i64, x0⟩], [⟨false, [⟨0, 0, .lk ⟨.row K4, x1⟩⟩, ⟨0, 0, .mk 0 ⟨.int .i64, x2⟩⟩, ⟨0, 0, .mk 0 ⟨.int .i64, x3⟩⟩]⟩, ⟨false, [⟨0, 0, .mk 0 ⟨.str, x4⟩⟩, ⟨0, 0, .mk 9 ⟨.row K1, x5⟩⟩, ⟨0, 0, .mk 9 ⟨.row K2, x6⟩⟩, ⟨0, 0, .mk 9 ⟨.row K3, x7⟩⟩]⟩, ⟨false, [⟨0, 0, .mk 0 ⟨.str, x8⟩⟩, ⟨0, 0, .mk 9 ⟨.row K1, x9⟩⟩, ⟨0, 0, .mk 9 ⟨.row K2, x10⟩⟩, ⟨0, 0, .mk 9 ⟨.row K3, x11⟩⟩]⟩, ⟨true, [⟨0, 0, .mk 9 ⟨.row K0, x12⟩⟩]⟩]⟩
noncomputable def spec_l9Draw.m (c96 : (List Int) × Int × Int × (List Int) → Option (Int × Int × Int)) (B0 : (Int × (List Int) × Int × Int × ByteArray × (List (ByteArray × Int × Bool)) × (List (Int × Bool)) × (List (ByteArray × Bool × (List (Int × Bool)))) × ByteArray × (List (ByteArray × Int × Bool)) × (List (Int × Bool)) × (List (ByteArray × Bool × (List (Int × Bool)))) × (List ByteArray)) → Option (ByteArray × (List (ByteArray × Int × Bool)) × (List (Int × Bool)) × (List (ByteArray × Bool × (List (Int × Bool)))) × Int × Int)) : ((List Int) × Int × Int × ByteArray) → Option (ByteArray × (List (ByteArray × Int × Bool)) × (List (Int × Bool)) × (List (ByteArray × Bool × (List (Int × Bool)))) × Int × Int)
  | (a0_0, a0_1, a0_2, a1_0) =>
  Option.bind (c96 (a0_0, a0_1, a0_2, ([(1 : Int), (1 : Int), (3 : Int), (2 : Int)] : List Int))) fun r1 =>
   B0 ((0 : Int), a0_0, r1.2.1, r1.2.2, ByteArray.empty, ([] : List (ByteArray × Int × Bool)), ([] : List (Int × Bool)), ([] : List (ByteArray × Bool × (List (Int × Bool)))), a1_0, ([(({ data := #[105, 100] } : ByteArray), r1.1, false)] : List (ByteArray × Int × Bool)), ([] : List (Int × Bool)), ([] : List (ByteArray × Bool × (List (Int × Bool)))), ([({ data := #[97] } : ByteArray), ({ data := #[98] } : ByteArray), ({ data := #[99] } : ByteArray)] : List ByteArray))
noncomputable def spec_l9Draw.sig : Sig := ⟨[.ptr [⟨.row K4, 0, 1, false⟩, ⟨.int .i64, 0, 0, true⟩, ⟨.int .i64, 0, 0, true⟩], .val false [⟨.str, 0, 0, false⟩]], [(.agg, [(.str, 0), (.row K1, 1), (.row K2, 1), (.row K3, 2)])]⟩
noncomputable def spec_l9Draw.hint : Nat → Hint
  | 0 => ⟨[(0, .keep), (4, .keep), (5, .keep), (6, .own 9 K0), (7, .keep)], [(2, [9, 0, 0]), (257, [0, 9, 9, 9]), (321, [0, 9, 9, 9])]⟩
  | 2 => ⟨[(0, .keep), (4, .keep), (5, .keep), (6, .own 9 K0), (8, .keep)], [(2, [9, 0, 0]), (257, [0, 9, 9, 9]), (321, [0, 9, 9, 9])]⟩
  | _ => ⟨[], []⟩
noncomputable def spec_l9Draw.join : Nat → Option Hint
  | _ => none
noncomputable def spec_l9Draw.body : Code := (Tryd.f103).body.getD .skip
noncomputable def spec_l9Draw.rv : List ResultVar := (Tryd.f103).results.toList
noncomputable def spec_l2Num.m (c105 : (Int) → Option (ByteArray)) : (Int) → Option (ByteArray)
  | a0_0 =>
  bif decide (a0_0 < (0 : Int)) then
   Option.bind (c105 (IntKind.wrap IntKind.i64 (0 - a0_0))) fun r1 =>
    bif decide (¬ ((ByteArray.size ({ data := #[45] } : ByteArray) + ByteArray.size r1 : Nat) : Int) > IntKind.max IntKind.i64) then
     some (ByteArray.append ({ data := #[45] } : ByteArray) r1)
    else
     none
  else
   bif decide (a0_0 < (10 : Int)) then
    some (numsStr ([IntKind.wrap IntKind.u8 (IntKind.wrap IntKind.i64 ((48 : Int) + a0_0))] : List Int))
   else
    bif decide (¬ (10 : Int) = 0) then
     Option.bind (c105 (IntKind.wrap IntKind.i64 (Int.tdiv a0_0 (10 : Int)))) fun r2 =>
      bif decide (¬ (10 : Int) = 0) then
       bif decide (¬ ((ByteArray.size r2 + ByteArray.size (numsStr ([IntKind.wrap IntKind.u8 (IntKind.wrap IntKind.i64 ((48 : Int) + (Int.tmod a0_0 (10 : Int))))] : List Int)) : Nat) : Int) > IntKind.max IntKind.i64) then
        some (ByteArray.append r2 (numsStr ([IntKind.wrap IntKind.u8 (IntKind.wrap IntKind.i64 ((48 : Int) + (Int.tmod a0_0 (10 : Int))))] : List Int)))
       else
        none
      else
       none
    else
     none
noncomputable def spec_l2Num.sig : Sig := ⟨[.val false [⟨.int .i64, 0, 0, false⟩]], [(.one, [(.str, 0)])]⟩
noncomputable def spec_l2Num.hint : Nat → Hint
  | _ => ⟨[], []⟩
noncomputable def spec_l2Num.join : Nat → Option Hint
  | _ => none
noncomputable def spec_l2Num.body : Code := (Tryd.f105).body.getD .skip
noncomputable def spec_l2Num.rv : List ResultVar := (Tryd.f105).results.toList
noncomputable def spec_l9Any.s1 (c91 : (List Int) × Int × Int × Int → Option (Int × Int × Int)) (c105 : (Int) → Option (ByteArray)) (L1 : ((List Int) × Int × Int × ByteArray × (List (ByteArray × Int × Bool)) × (List (Int × Bool)) × (List (ByteArray × Bool × (List (Int × Bool)))) × ByteArray × (List (ByteArray × Int × Bool)) × (List (Int × Bool)) × (List (ByteArray × Bool × (List (Int × Bool))))) → Option (ByteArray × (List (ByteArray × Int × Bool)) × (List (Int × Bool)) × (List (ByteArray × Bool × (List (Int × Bool)))) × Int × Int)) : ((List Int) × Int × Int × ByteArray × (List (ByteArray × Int × Bool)) × (List (Int × Bool)) × (List (ByteArray × Bool × (List (Int × Bool)))) × ByteArray × (List (ByteArray × Int × Bool)) × (List (Int × Bool)) × (List (ByteArray × Bool × (List (Int × Bool))))) → Option (ByteArray × (List (ByteArray × Int × Bool)) × (List (Int × Bool)) × (List (ByteArray × Bool × (List (Int × Bool)))) × Int × Int)
  | (x0, x1, x2, x3, x4, x5, x6, x7, x8, x9, x10) =>
  Option.bind (c91 (x0, x1, x2, (2 : Int))) fun r11 =>
   bif decide ((List.length x8 : Int) < (IntKind.wrap IntKind.i64 ((6 : Int) + r11.1))) then
    Option.bind (c105 (List.length x8 : Int)) fun r12 =>
     bif decide (¬ ((ByteArray.size ({ data := #[122] } : ByteArray) + ByteArray.size r12 : Nat) : Int) > IntKind.max IntKind.i64) then
      bif decide ((List.length x8 + List.length ([(ByteArray.append ({ data := #[122] } : ByteArray) r12, (4 : Int), false)] : List (ByteArray × Int × Bool))) * 32 ≤ 140737488355328) then
       L1 (x0, r11.2.1, r11.2.2, x3, x4, x5, x6, x7, x8 ++ ([(ByteArray.append ({ data := #[122] } : ByteArray) r12, (4 : Int), false)] : List (ByteArray × Int × Bool)), x9, x10)
      else
       none
     else
      none
   else
    some (x7, x8, x9, x10, r11.2.1, r11.2.2)
noncomputable def spec_l9Any.ll1 : ((List Int) × Int × Int × ByteArray × (List (ByteArray × Int × Bool)) × (List (Int × Bool)) × (List (ByteArray × Bool × (List (Int × Bool)))) × ByteArray × (List (ByteArray × Int × Bool)) × (List (Int × Bool)) × (List (ByteArray × Bool × (List (Int × Bool))))) → LS
  | (x0, x1, x2, x3, x4, x5, x6, x7, x8, x9, x10) => ⟨[.addr 2 0 [] 0, .addr 129 0 [] 0, .addr 193 0 [] 0], [⟨false, [⟨0, 0, .lk ⟨.row K4, x0⟩⟩, ⟨0, 0, .mk 0 ⟨.int .i64, x1⟩⟩, ⟨0, 0, .mk 0 ⟨.int .i64, x2⟩⟩]⟩, ⟨false, [⟨0, 0, .mk 0 ⟨.str, x3⟩⟩, ⟨0, 0, .mk 9 ⟨.row K1, x4⟩⟩, ⟨0, 0, .mk 9 ⟨.row K2, x5⟩⟩, ⟨0, 0, .mk 9 ⟨.row K3, x6⟩⟩]⟩, ⟨false, [⟨0, 0, .mk 0 ⟨.str, x7⟩⟩, ⟨0, 0, .mk 1 ⟨.row K1, x8⟩⟩, ⟨0, 0, .mk 1 ⟨.row K2, x9⟩⟩, ⟨0, 0, .mk 2 ⟨.row K3, x10⟩⟩]⟩]⟩
noncomputable def spec_l9Any.m (c91 : (List Int) × Int × Int × Int → Option (Int × Int × Int)) (c92 : (List Int) × Int × Int × (List ByteArray) → Option (ByteArray × Int × Int)) (c103 : (List Int) × Int × Int × ByteArray → Option (ByteArray × (List (ByteArray × Int × Bool)) × (List (Int × Bool)) × (List (ByteArray × Bool × (List (Int × Bool)))) × Int × Int)) (c104 : (List Int) × Int × Int × Int → Option ((List (Int × Bool)) × Int × Int)) (B1 : ((List Int) × Int × Int × ByteArray × (List (ByteArray × Int × Bool)) × (List (Int × Bool)) × (List (ByteArray × Bool × (List (Int × Bool)))) × ByteArray × (List (ByteArray × Int × Bool)) × (List (Int × Bool)) × (List (ByteArray × Bool × (List (Int × Bool))))) → Option (ByteArray × (List (ByteArray × Int × Bool)) × (List (Int × Bool)) × (List (ByteArray × Bool × (List (Int × Bool)))) × Int × Int)) : ((List Int) × Int × Int) → Option (ByteArray × (List (ByteArray × Int × Bool)) × (List (Int × Bool)) × (List (ByteArray × Bool × (List (Int × Bool)))) × Int × Int)
  | (a0_0, a0_1, a0_2) =>
  Option.bind (c103 (a0_0, a0_1, a0_2, ({ data := #[116] } : ByteArray))) fun r1 =>
   Option.bind (c91 (a0_0, r1.2.2.2.2.1, r1.2.2.2.2.2, (List.length r1.2.1 : Int))) fun r2 =>
    Option.bind (c91 (a0_0, r2.2.1, r2.2.2, (16 : Int))) fun r3 =>
     bif r3.1 == (0 : Int) then
      Option.bind (c92 (a0_0, r3.2.1, r3.2.2, ([({ data := #[] } : ByteArray), ({ data := #[116, 97, 98, 108, 101] } : ByteArray), ({ data := #[65] } : ByteArray), ({ data := #[116, 50] } : ByteArray)] : List ByteArray))) fun r4 =>
       some (r4.1, r1.2.1, r1.2.2.1, r1.2.2.2.1, r4.2.1, r4.2.2)
     else
      bif r3.1 == (1 : Int) then
       Option.bind (c92 (a0_0, r3.2.1, r3.2.2, ([({ data := #[105, 100] } : ByteArray), ({ data := #[97] } : ByteArray), ({ data := #[105, 110, 116] } : ByteArray), ({ data := #[] } : ByteArray)] : List ByteArray))) fun r5 =>
        bif decide (0 ≤ r2.1) && decide (r2.1 < (List.length r1.2.1 : Int)) then
         some (r1.1, List.set r1.2.1 (Int.toNat r2.1) (r5.1, (List.getD r1.2.1 (Int.toNat r2.1) (ByteArray.empty, (0 : Int), false)).2.1, (List.getD r1.2.1 (Int.toNat r2.1) (ByteArray.empty, (0 : Int), false)).2.2), r1.2.2.1, r1.2.2.2.1, r5.2.1, r5.2.2)
        else
         none
      else
       bif r3.1 == (2 : Int) then
        Option.bind (c91 (a0_0, r3.2.1, r3.2.2, (6 : Int))) fun r6 =>
         bif decide (0 ≤ r2.1) && decide (r2.1 < (List.length r1.2.1 : Int)) then
          some (r1.1, List.set r1.2.1 (Int.toNat r2.1) ((List.getD r1.2.1 (Int.toNat r2.1) (ByteArray.empty, (0 : Int), false)).1, r6.1, (List.getD r1.2.1 (Int.toNat r2.1) (ByteArray.empty, (0 : Int), false)).2.2), r1.2.2.1, r1.2.2.2.1, r6.2.1, r6.2.2)
         else
          none
       else
        bif r3.1 == (3 : Int) then
         bif decide (0 ≤ r2.1) && decide (r2.1 < (List.length r1.2.1 : Int)) then
          bif decide (0 ≤ r2.1) && decide (r2.1 < (List.length r1.2.1 : Int)) then
           some (r1.1, List.set r1.2.1 (Int.toNat r2.1) ((List.getD r1.2.1 (Int.toNat r2.1) (ByteArray.empty, (0 : Int), false)).1, (List.getD r1.2.1 (Int.toNat r2.1) (ByteArray.empty, (0 : Int), false)).2.1, !((List.getD r1.2.1 (Int.toNat r2.1) (ByteArray.empty, (0 : Int), false)).2.2)), r1.2.2.1, r1.2.2.2.1, r3.2.1, r3.2.2)
          else
           none
         else
          none
        else
         bif r3.1 == (4 : Int) then
          Option.bind (c104 (a0_0, r3.2.1, r3.2.2, IntKind.wrap IntKind.i64 ((List.length r1.2.1 : Int) + (1 : Int)))) fun r7 =>
           some (r1.1, r1.2.1, r7.1, r1.2.2.2.1, r7.2.1, r7.2.2)
         else
          bif r3.1 == (5 : Int) then
           bif decide (0 ≤ (0 : Int)) && decide ((0 : Int) < (List.length r1.2.2.1 : Int)) then
            bif decide ((List.length r1.2.2.1 + List.length ([((List.getD r1.2.2.1 (Int.toNat (0 : Int)) ((0 : Int), false)).1, (List.getD r1.2.2.1 (Int.toNat (0 : Int)) ((0 : Int), false)).2)] : List (Int × Bool))) * 16 ≤ 140737488355328) then
             some (r1.1, r1.2.1, r1.2.2.1 ++ ([((List.getD r1.2.2.1 (Int.toNat (0 : Int)) ((0 : Int), false)).1, (List.getD r1.2.2.1 (Int.toNat (0 : Int)) ((0 : Int), false)).2)] : List (Int × Bool)), r1.2.2.2.1, r3.2.1, r3.2.2)
            else
             none
           else
            none
          else
           bif r3.1 == (6 : Int) then
            Option.bind (c92 (a0_0, r3.2.1, r3.2.2, ([({ data := #[117, 98] } : ByteArray), ({ data := #[119] } : ByteArray), ({ data := #[100, 101, 115, 99] } : ByteArray)] : List ByteArray))) fun r8 =>
             Option.bind (c104 (a0_0, r8.2.1, r8.2.2, IntKind.wrap IntKind.i64 ((List.length r1.2.1 : Int) + (1 : Int)))) fun r9 =>
              bif decide ((List.length r1.2.2.2.1 + List.length ([(r8.1, false, r9.1)] : List (ByteArray × Bool × (List (Int × Bool))))) * 48 ≤ 140737488355328) then
               some (r1.1, r1.2.1, r1.2.2.1, r1.2.2.2.1 ++ ([(r8.1, false, r9.1)] : List (ByteArray × Bool × (List (Int × Bool)))), r9.2.1, r9.2.2)
              else
               none
           else
            bif r3.1 == (7 : Int) then
             Option.bind (c91 (a0_0, r3.2.1, r3.2.2, (2 : Int))) fun r10 =>
              bif decide (0 ≤ (0 : Int)) && decide ((0 : Int) ≤ r10.1) && decide (r10.1 ≤ (List.length r1.2.1 : Int)) then
               some (r1.1, List.take (Int.toNat r10.1) r1.2.1, r1.2.2.1, r1.2.2.2.1, r10.2.1, r10.2.2)
              else
               none
            else
             bif r3.1 == (8 : Int) then
              B1 (a0_0, r3.2.1, r3.2.2, ByteArray.empty, ([] : List (ByteArray × Int × Bool)), ([] : List (Int × Bool)), ([] : List (ByteArray × Bool × (List (Int × Bool)))), r1.1, r1.2.1, r1.2.2.1, r1.2.2.2.1)
             else
              some (r1.1, r1.2.1, r1.2.2.1, r1.2.2.2.1, r3.2.1, r3.2.2)
noncomputable def spec_l9Any.sig : Sig := ⟨[.ptr [⟨.row K4, 0, 1, false⟩, ⟨.int .i64, 0, 0, true⟩, ⟨.int .i64, 0, 0, true⟩]], [(.agg, [(.str, 0), (.row K1, 1), (.row K2, 1), (.row K3, 2)])]⟩
noncomputable def spec_l9Any.hint : Nat → Hint
  | 1 => ⟨[(0, .keep), (2, .keep), (3, .keep)], [(2, [9, 0, 0]), (129, [0, 9, 9, 9]), (193, [0, 1, 1, 2])]⟩
  | _ => ⟨[], []⟩
noncomputable def spec_l9Any.join : Nat → Option Hint
  | _ => none
noncomputable def spec_l9Any.body : Code := (Tryd.f53).body.getD .skip
noncomputable def spec_l9Any.rv : List ResultVar := (Tryd.f53).results.toList
noncomputable def spec_DrawIndexPlan.m (c52 : (List Int) → Option ((List Int) × Int × Int)) (c53 : (List Int) × Int × Int → Option (ByteArray × (List (ByteArray × Int × Bool)) × (List (Int × Bool)) × (List (ByteArray × Bool × (List (Int × Bool)))) × Int × Int)) (c96 : (List Int) × Int × Int × (List Int) → Option (Int × Int × Int)) : (List Int) → Option (ByteArray × (List (ByteArray × Int × Bool)) × (List (Int × Bool)) × (List (ByteArray × Bool × (List (Int × Bool)))) × Int)
  | a0_0 =>
  Option.bind (c52 a0_0) fun r1 =>
   Option.bind (c53 (r1.1, r1.2.1, r1.2.2)) fun r2 =>
    Option.bind (c96 (r1.1, r2.2.2.2.2.1, r2.2.2.2.2.2, ([(0 : Int), (0 : Int), (1 : Int), (-1 : Int), (2 : Int)] : List Int))) fun r3 =>
     some (r2.1, r2.2.1, r2.2.2.1, r2.2.2.2.1, r3.1)
noncomputable def spec_DrawIndexPlan.sig : Sig := ⟨[.val false [⟨.row K4, 0, 0, false⟩]], [(.agg, [(.str, 0), (.row K1, 1), (.row K2, 1), (.row K3, 2)]), (.one, [(.int .i64, 0)])]⟩
noncomputable def spec_DrawIndexPlan.hint : Nat → Hint
  | _ => ⟨[], []⟩
noncomputable def spec_DrawIndexPlan.join : Nat → Option Hint
  | _ => none
noncomputable def spec_DrawIndexPlan.body : Code := (Tryd.f40).body.getD .skip
noncomputable def spec_DrawIndexPlan.rv : List ResultVar := (Tryd.f40).results.toList
noncomputable def impl_partsOf.s0 (L0 : ((List (Int × Bool)) × Int × Int × ByteArray × (List (ByteArray × Int × Bool)) × (List (Int × Bool)) × (List (ByteArray × Bool × (List (Int × Bool)))) × (List (Int × Int × Bool × Bool))) → Option (List (Int × Int × Bool × Bool))) : ((List (Int × Bool)) × Int × Int × ByteArray × (List (ByteArray × Int × Bool)) × (List (Int × Bool)) × (List (ByteArray × Bool × (List (Int × Bool)))) × (List (Int × Int × Bool × Bool))) → Option (List (Int × Int × Bool × Bool))
  | (x0, x1, x2, x3, x4, x5, x6, x7) =>
  bif decide (x2 < x1) then
   bif decide (0 ≤ x2) && decide (x2 < (List.length x0 : Int)) then
    bif decide (0 ≤ ((List.getD x0 (Int.toNat x2) ((0 : Int), false)).1)) && decide (((List.getD x0 (Int.toNat x2) ((0 : Int), false)).1) < (List.length x4 : Int)) then
     bif decide ((List.length x7 + List.length ([((List.getD x0 (Int.toNat x2) ((0 : Int), false)).1, (List.getD x4 (Int.toNat ((List.getD x0 (Int.toNat x2) ((0 : Int), false)).1)) (ByteArray.empty, (0 : Int), false)).2.1, (List.getD x4 (Int.toNat ((List.getD x0 (Int.toNat x2) ((0 : Int), false)).1)) (ByteArray.empty, (0 : Int), false)).2.2, (List.getD x0 (Int.toNat x2) ((0 : Int), false)).2)] : List (Int × Int × Bool × Bool))) * 24 ≤ 140737488355328) then
      L0 (x0, x1, IntKind.wrap IntKind.i64 (x2 + (1 : Int)), x3, x4, x5, x6, x7 ++ ([((List.getD x0 (Int.toNat x2) ((0 : Int), false)).1, (List.getD x4 (Int.toNat ((List.getD x0 (Int.toNat x2) ((0 : Int), false)).1)) (ByteArray.empty, (0 : Int), false)).2.1, (List.getD x4 (Int.toNat ((List.getD x0 (Int.toNat x2) ((0 : Int), false)).1)) (ByteArray.empty, (0 : Int), false)).2.2, (List.getD x0 (Int.toNat x2) ((0 : Int), false)).2)] : List (Int × Int × Bool × Bool)))
     else
      none
    else
     none
   else
    none
  else
   some x7
noncomputable def impl_partsOf.ll0 : ((List (Int × Bool)) × Int × Int × ByteArray × (List (ByteArray × Int × Bool)) × (List (Int × Bool)) × (List (ByteArray × Bool × (List (Int × Bool)))) × (List (Int × Int × Bool × Bool))) → LS
  | (x0, x1, x2, x3, x4, x5, x6, x7) => ⟨[.addr 129 0 [] 0, .ref 20 0 [] none 0, .cv ⟨.row K2, x0⟩, .cv ⟨.int .i64, x1⟩, .cv ⟨.int .i64, x2⟩], [⟨false, [⟨0, 0, .mk 0 ⟨.str, x3⟩⟩, ⟨0, 0, .mk 0 ⟨.row K1, x4⟩⟩, ⟨0, 0, .mk 0 ⟨.row K2, x5⟩⟩, ⟨0, 0, .mk 0 ⟨.row K3, x6⟩⟩]⟩, ⟨true, [⟨0, 0, .mk 9 ⟨.row K6, x7⟩⟩]⟩]⟩
noncomputable def impl_partsOf.m (B0 : ((List (Int × Bool)) × Int × Int × ByteArray × (List (ByteArray × Int × Bool)) × (List (Int × Bool)) × (List (ByteArray × Bool × (List (Int × Bool)))) × (List (Int × Int × Bool × Bool))) → Option (List (Int × Int × Bool × Bool))) : (ByteArray × (List (ByteArray × Int × Bool)) × (List (Int × Bool)) × (List (ByteArray × Bool × (List (Int × Bool)))) × (List (Int × Bool))) → Option (List (Int × Int × Bool × Bool))
  | (a0_0, a0_1, a0_2, a0_3, a1_0) =>
  B0 (a1_0, (List.length a1_0 : Int), (0 : Int), a0_0, a0_1, a0_2, a0_3, ([] : List (Int × Int × Bool × Bool)))
noncomputable def impl_partsOf.sig : Sig := ⟨[.val true [⟨.str, 0, 0, false⟩, ⟨.row K1, 0, 0, false⟩, ⟨.row K2, 0, 0, false⟩, ⟨.row K3, 0, 0, false⟩], .val false [⟨.row K2, 0, 0, false⟩]], [(.one, [(.row K6, 1)])]⟩
noncomputable def impl_partsOf.hint : Nat → Hint
  | 0 => ⟨[(2, .keep), (5, .own 9 K6), (9, .keep), (10, .keep), (11, .keep)], [(129, [0, 0, 0, 0])]⟩
  | _ => ⟨[], []⟩
noncomputable def impl_partsOf.join : Nat → Option Hint
  | _ => none
noncomputable def impl_partsOf.body : Code := (Tryd.f97).body.getD .skip
noncomputable def impl_partsOf.rv : List ResultVar := (Tryd.f97).results.toList
noncomputable def impl_PrimaryPlan.m (c21 : ByteArray × (List (ByteArray × Int × Bool)) × (List (Int × Bool)) × (List (ByteArray × Bool × (List (Int × Bool)))) → Option (Int)) (c97 : ByteArray × (List (ByteArray × Int × Bool)) × (List (Int × Bool)) × (List (ByteArray × Bool × (List (Int × Bool)))) × (List (Int × Bool)) → Option (List (Int × Int × Bool × Bool))) : (ByteArray × (List (ByteArray × Int × Bool)) × (List (Int × Bool)) × (List (ByteArray × Bool × (List (Int × Bool))))) → Option (List (Int × Int × Bool × Bool))
  | (a0_0, a0_1, a0_2, a0_3) =>
  Option.bind (c21 (a0_0, a0_1, a0_2, a0_3)) fun r1 =>
   bif r1 != (0 : Int) then
    some ([] : List (Int × Int × Bool × Bool))
   else
    Option.bind (c97 (a0_0, a0_1, a0_2, a0_3, a0_2)) fun r2 =>
     some r2
noncomputable def impl_PrimaryPlan.sig : Sig := ⟨[.val true [⟨.str, 0, 0, false⟩, ⟨.row K1, 0, 0, false⟩, ⟨.row K2, 0, 0, false⟩, ⟨.row K3, 0, 0, false⟩]], [(.one, [(.row K6, 1)])]⟩
noncomputable def impl_PrimaryPlan.hint : Nat → Hint
  | _ => ⟨[], []⟩
noncomputable def impl_PrimaryPlan.join : Nat → Option Hint
  | _ => none
noncomputable def impl_PrimaryPlan.body : Code := (Tryd.f41).body.getD .skip
noncomputable def impl_PrimaryPlan.rv : List ResultVar := (Tryd.f41).results.toList
noncomputable def impl_IndexPlan.m (c21 : ByteArray × (List (ByteArray × Int × Bool)) × (List (Int × Bool)) × (List (ByteArray × Bool × (List (Int × Bool)))) → Option (Int)) (c55 : Int × Int × Int → Option (Bool)) (c97 : ByteArray × (List (ByteArray × Int × Bool)) × (List (Int × Bool)) × (List (ByteArray × Bool × (List (Int × Bool)))) × (List (Int × Bool)) → Option (List (Int × Int × Bool × Bool))) : (ByteArray × (List (ByteArray × Int × Bool)) × (List (Int × Bool)) × (List (ByteArray × Bool × (List (Int × Bool)))) × Int) → Option (List (Int × Int × Bool × Bool))
  | (a0_0, a0_1, a0_2, a0_3, a1_0) =>
  Option.bind (c21 (a0_0, a0_1, a0_2, a0_3)) fun r1 =>
   bif r1 != (0 : Int) then
    some ([] : List (Int × Int × Bool × Bool))
   else
    Option.bind (c55 (a1_0, (0 : Int), IntKind.wrap IntKind.i64 ((List.length a0_3 : Int) - (1 : Int)))) fun r2 =>
     bif !(r2) then
      some ([] : List (Int × Int × Bool × Bool))
     else
      bif decide (0 ≤ a1_0) && decide (a1_0 < (List.length a0_3 : Int)) then
       Option.bind (c97 (a0_0, a0_1, a0_2, a0_3, (List.getD a0_3 (Int.toNat a1_0) (ByteArray.empty, false, ([] : List (Int × Bool)))).2.2)) fun r3 =>
        Option.bind (c97 (a0_0, a0_1, a0_2, a0_3, a0_2)) fun r4 =>
         bif decide ((List.length r3 + List.length r4) * 24 ≤ 140737488355328) then
          some (r3 ++ r4)
         else
          none
      else
       none
noncomputable def impl_IndexPlan.sig : Sig := ⟨[.val true [⟨.str, 0, 0, false⟩, ⟨.row K1, 0, 0, false⟩, ⟨.row K2, 0, 0, false⟩, ⟨.row K3, 0, 0, false⟩], .val false [⟨.int .i64, 0, 0, false⟩]], [(.one, [(.row K6, 1)])]⟩
noncomputable def impl_IndexPlan.hint : Nat → Hint
  | _ => ⟨[], []⟩
noncomputable def impl_IndexPlan.join : Nat → Option Hint
  | _ => none
noncomputable def impl_IndexPlan.body : Code := (Tryd.f42).body.getD .skip
noncomputable def impl_IndexPlan.rv : List ResultVar := (Tryd.f42).results.toList
noncomputable def impl_RowPlan.s0 (L0 : ((List (ByteArray × Int × Bool)) × Int × Int × (List (Int × Int × Bool × Bool))) → Option (List (Int × Int × Bool × Bool))) : ((List (ByteArray × Int × Bool)) × Int × Int × (List (Int × Int × Bool × Bool))) → Option (List (Int × Int × Bool × Bool))
  | (x0, x1, x2, x3) =>
  bif decide (x2 < x1) then
   bif decide (0 ≤ x2) && decide (x2 < (List.length x0 : Int)) then
    bif decide ((List.length x3 + List.length ([(x2, (List.getD x0 (Int.toNat x2) (ByteArray.empty, (0 : Int), false)).2.1, (List.getD x0 (Int.toNat x2) (ByteArray.empty, (0 : Int), false)).2.2, false)] : List (Int × Int × Bool × Bool))) * 24 ≤ 140737488355328) then
     L0 (x0, x1, IntKind.wrap IntKind.i64 (x2 + (1 : Int)), x3 ++ ([(x2, (List.getD x0 (Int.toNat x2) (ByteArray.empty, (0 : Int), false)).2.1, (List.getD x0 (Int.toNat x2) (ByteArray.empty, (0 : Int), false)).2.2, false)] : List (Int × Int × Bool × Bool)))
    else
     none
   else
    none
  else
   some x3
noncomputable def impl_RowPlan.ll0 : ((List (ByteArray × Int × Bool)) × Int × Int × (List (Int × Int × Bool × Bool))) → LS
  | (x0, x1, x2, x3) => ⟨[.ref 12 0 [] none 0, .cv ⟨.row K1, x0⟩, .cv ⟨.int .i64, x1⟩, .cv ⟨.int .i64, x2⟩], [⟨true, [⟨0, 0, .mk 9 ⟨.row K6, x3⟩⟩]⟩]⟩
noncomputable def impl_RowPlan.m (c21 : ByteArray × (List (ByteArray × Int × Bool)) × (List (Int × Bool)) × (List (ByteArray × Bool × (List (Int × Bool)))) → Option (Int)) (B0 : ((List (ByteArray × Int × Bool)) × Int × Int × (List (Int × Int × Bool × Bool))) → Option (List (Int × Int × Bool × Bool))) : (ByteArray × (List (ByteArray × Int × Bool)) × (List (Int × Bool)) × (List (ByteArray × Bool × (List (Int × Bool))))) → Option (List (Int × Int × Bool × Bool))
  | (a0_0, a0_1, a0_2, a0_3) =>
  Option.bind (c21 (a0_0, a0_1, a0_2, a0_3)) fun r1 =>
   bif r1 != (0 : Int) then
    some ([] : List (Int × Int × Bool × Bool))
   else
    B0 (a0_1, (List.length a0_1 : Int), (0 : Int), ([] : List (Int × Int × Bool × Bool)))
noncomputable def impl_RowPlan.sig : Sig := ⟨[.val true [⟨.str, 0, 0, false⟩, ⟨.row K1, 0, 0, false⟩, ⟨.row K2, 0, 0, false⟩, ⟨.row K3, 0, 0, false⟩]], [(.one, [(.row K6, 1)])]⟩
noncomputable def impl_RowPlan.hint : Nat → Hint
  | 0 => ⟨[(3, .own 9 K6), (10, .keep), (11, .keep), (12, .keep)], []⟩
  | _ => ⟨[], []⟩
noncomputable def impl_RowPlan.join : Nat → Option Hint
  | _ => none
noncomputable def impl_RowPlan.body : Code := (Tryd.f43).body.getD .skip
noncomputable def impl_RowPlan.rv : List ResultVar := (Tryd.f43).results.toList
noncomputable def impl_PartOk.m (c55 : Int × Int × Int → Option (Bool)) : (Int × Int × Bool × Bool) → Option (Bool)
  | (a0_0, a0_1, a0_2, a0_3) =>
  Option.bind (c55 (a0_0, (0 : Int), (9 : Int))) fun r1 =>
   bif r1 then
    Option.bind (c55 (a0_1, (1 : Int), (4 : Int))) fun r2 =>
     some r2
   else
    some false
noncomputable def impl_PartOk.sig : Sig := ⟨[.val true [⟨.int .i64, 0, 0, false⟩, ⟨.int .i64, 0, 0, false⟩, ⟨.bool, 0, 0, false⟩, ⟨.bool, 0, 0, false⟩]], [(.one, [(.bool, 0)])]⟩
noncomputable def impl_PartOk.hint : Nat → Hint
  | _ => ⟨[], []⟩
noncomputable def impl_PartOk.join : Nat → Option Hint
  | _ => none
noncomputable def impl_PartOk.body : Code := (Tryd.f98).body.getD .skip
noncomputable def impl_PartOk.rv : List ResultVar := (Tryd.f98).results.toList
noncomputable def impl_PlanOk.s0 (c98 : Int × Int × Bool × Bool → Option (Bool)) (L0 : ((List (Int × Int × Bool × Bool)) × Int × Int) → Option (Bool)) : ((List (Int × Int × Bool × Bool)) × Int × Int) → Option (Bool)
  | (x0, x1, x2) =>
  bif decide (x2 < x1) then
   bif decide (0 ≤ x2) && decide (x2 < (List.length x0 : Int)) then
    bif decide (x2 ≥ (6 : Int)) then
     some false
    else
     Option.bind (c98 ((List.getD x0 (Int.toNat x2) ((0 : Int), (0 : Int), false, false)).1, (List.getD x0 (Int.toNat x2) ((0 : Int), (0 : Int), false, false)).2.1, (List.getD x0 (Int.toNat x2) ((0 : Int), (0 : Int), false, false)).2.2.1, (List.getD x0 (Int.toNat x2) ((0 : Int), (0 : Int), false, false)).2.2.2)) fun r1 =>
      bif !(r1) then
       some false
      else
       L0 (x0, x1, IntKind.wrap IntKind.i64 (x2 + (1 : Int)))
   else
    none
  else
   some true
noncomputable def impl_PlanOk.ll0 : ((List (Int × Int × Bool × Bool)) × Int × Int) → LS
  | (x0, x1, x2) => ⟨[.cv ⟨.row K6, x0⟩, .cv ⟨.int .i64, x1⟩, .cv ⟨.int .i64, x2⟩], []⟩
noncomputable def impl_PlanOk.m (B0 : ((List (Int × Int × Bool × Bool)) × Int × Int) → Option (Bool)) : (List (Int × Int × Bool × Bool)) → Option (Bool)
  | a0_0 =>
  B0 (a0_0, (List.length a0_0 : Int), (0 : Int))
noncomputable def impl_PlanOk.sig : Sig := ⟨[.val false [⟨.row K6, 0, 0, false⟩]], [(.one, [(.bool, 0)])]⟩
noncomputable def impl_PlanOk.hint : Nat → Hint
  | 0 => ⟨[(5, .keep), (6, .keep), (7, .keep)], []⟩
  | _ => ⟨[], []⟩
noncomputable def impl_PlanOk.join : Nat → Option Hint
  | _ => none
noncomputable def impl_PlanOk.body : Code := (Tryd.f44).body.getD .skip
noncomputable def impl_PlanOk.rv : List ResultVar := (Tryd.f44).results.toList
noncomputable def laws_FnPlans.s0 (L0 : (Int × Int × (List (Int × Int × Bool × Bool)) × (List (Int × Int × Bool × Bool))) → Option (Bool)) : (Int × Int × (List (Int × Int × Bool × Bool)) × (List (Int × Int × Bool × Bool))) → Option (Bool)
  | (x0, x1, x2, x3) =>
  bif decide (x1 < (List.length x2 : Int)) then
   bif decide (0 ≤ (IntKind.wrap IntKind.i64 (x0 + x1))) && decide ((IntKind.wrap IntKind.i64 (x0 + x1)) < (List.length x3 : Int)) then
    bif decide (0 ≤ x1) && decide (x1 < (List.length x2 : Int)) then
     bif !((((List.getD x3 (Int.toNat (IntKind.wrap IntKind.i64 (x0 + x1))) ((0 : Int), (0 : Int), false, false)).1) == ((List.getD x2 (Int.toNat x1) ((0 : Int), (0 : Int), false, false)).1) && (((List.getD x3 (Int.toNat (IntKind.wrap IntKind.i64 (x0 + x1))) ((0 : Int), (0 : Int), false, false)).2.1) == ((List.getD x2 (Int.toNat x1) ((0 : Int), (0 : Int), false, false)).2.1) && (((List.getD x3 (Int.toNat (IntKind.wrap IntKind.i64 (x0 + x1))) ((0 : Int), (0 : Int), false, false)).2.2.1) == ((List.getD x2 (Int.toNat x1) ((0 : Int), (0 : Int), false, false)).2.2.1) && ((List.getD x3 (Int.toNat (IntKind.wrap IntKind.i64 (x0 + x1))) ((0 : Int), (0 : Int), false, false)).2.2.2) == ((List.getD x2 (Int.toNat x1) ((0 : Int), (0 : Int), false, false)).2.2.2))))) then
      some false
     else
      L0 (x0, IntKind.wrap IntKind.i64 (x1 + (1 : Int)), x2, x3)
    else
     none
   else
    none
  else
   some true
noncomputable def laws_FnPlans.ll0 : (Int × Int × (List (Int × Int × Bool × Bool)) × (List (Int × Int × Bool × Bool))) → LS
  | (x0, x1, x2, x3) => ⟨[.ref 20 0 [] none 0, .ref 24 0 [] none 0, .cv ⟨.int .i64, x0⟩, .cv ⟨.int .i64, x1⟩], [⟨true, [⟨0, 0, .mk 1 ⟨.row K6, x2⟩⟩]⟩, ⟨true, [⟨0, 0, .mk 1 ⟨.row K6, x3⟩⟩]⟩]⟩
noncomputable def laws_FnPlans.m (c19 : (List Int) → Option (Bool)) (c23 : ByteArray × (List (ByteArray × Int × Bool)) × (List (Int × Bool)) × (List (ByteArray × Bool × (List (Int × Bool)))) → Option (Int)) (c40 : (List Int) → Option (ByteArray × (List (ByteArray × Int × Bool)) × (List (Int × Bool)) × (List (ByteArray × Bool × (List (Int × Bool)))) × Int)) (c41 : ByteArray × (List (ByteArray × Int × Bool)) × (List (Int × Bool)) × (List (ByteArray × Bool × (List (Int × Bool)))) → Option (List (Int × Int × Bool × Bool))) (c42 : ByteArray × (List (ByteArray × Int × Bool)) × (List (Int × Bool)) × (List (ByteArray × Bool × (List (Int × Bool)))) × Int → Option (List (Int × Int × Bool × Bool))) (c43 : ByteArray × (List (ByteArray × Int × Bool)) × (List (Int × Bool)) × (List (ByteArray × Bool × (List (Int × Bool)))) → Option (List (Int × Int × Bool × Bool))) (c44 : (List (Int × Int × Bool × Bool)) → Option (Bool)) (B0 : (Int × Int × (List (Int × Int × Bool × Bool)) × (List (Int × Int × Bool × Bool))) → Option (Bool)) : (List Int) → Option (Bool)
  | a0_0 =>
  Option.bind (c19 a0_0) fun r1 =>
   bif r1 then
    some true
   else
    Option.bind (c40 a0_0) fun r2 =>
     Option.bind (c41 (r2.1, r2.2.1, r2.2.2.1, r2.2.2.2.1)) fun r3 =>
      Option.bind (c42 (r2.1, r2.2.1, r2.2.2.1, r2.2.2.2.1, r2.2.2.2.2)) fun r4 =>
       Option.bind (c43 (r2.1, r2.2.1, r2.2.2.1, r2.2.2.2.1)) fun r5 =>
        Option.bind (c23 (r2.1, r2.2.1, r2.2.2.1, r2.2.2.2.1)) fun r6 =>
         bif r6 != (0 : Int) then
          bif (List.length r3 : Int) == (0 : Int) then
           bif (List.length r4 : Int) == (0 : Int) then
            some ((List.length r5 : Int) == (0 : Int))
           else
            some false
          else
           some false
         else
          bif (List.length r3 : Int) != (List.length r2.2.2.1 : Int) then
           some false
          else
           bif (List.length r5 : Int) != (List.length r2.2.1 : Int) then
            some false
           else
            Option.bind (c44 r3) fun r7 =>
             bif !(r7) then
              some false
             else
              Option.bind (c44 r4) fun r8 =>
               bif !(r8) then
                some false
               else
                Option.bind (c44 r5) fun r9 =>
                 bif !(r9) then
                  some false
                 else
                  bif decide (r2.2.2.2.2 < (0 : Int)) then
                   some ((List.length r4 : Int) == (0 : Int))
                  else
                   bif decide (r2.2.2.2.2 ≥ (List.length r2.2.2.2.1 : Int)) then
                    some ((List.length r4 : Int) == (0 : Int))
                   else
                    bif decide (0 ≤ r2.2.2.2.2) && decide (r2.2.2.2.2 < (List.length r2.2.2.2.1 : Int)) then
                     bif (List.length r4 : Int) != (IntKind.wrap IntKind.i64 ((List.length ((List.getD r2.2.2.2.1 (Int.toNat r2.2.2.2.2) (ByteArray.empty, false, ([] : List (Int × Bool)))).2.2) : Int) + (List.length r3 : Int))) then
                      some false
                     else
                      B0 ((List.length ((List.getD r2.2.2.2.1 (Int.toNat r2.2.2.2.2) (ByteArray.empty, false, ([] : List (Int × Bool)))).2.2) : Int), (0 : Int), r3, r4)
                    else
                     none
noncomputable def laws_FnPlans.sig : Sig := ⟨[.val false [⟨.row K4, 0, 0, false⟩]], [(.one, [(.bool, 0)])]⟩
noncomputable def laws_FnPlans.hint : Nat → Hint
  | 0 => ⟨[(5, .own 1 K6), (6, .own 1 K6), (8, .keep), (9, .keep)], []⟩
  | _ => ⟨[], []⟩
noncomputable def laws_FnPlans.join : Nat → Option Hint
  | _ => none
noncomputable def laws_FnPlans.body : Code := (Tryd.f10).body.getD .skip
noncomputable def laws_FnPlans.rv : List ResultVar := (Tryd.f10).results.toList
noncomputable def fns : Nat → Fn
  | 101 => ⟨15, spec_l1In.sig, spec_l1In.rv, spec_l1In.body, spec_l1In.hint, spec_l1In.join⟩
  | 125 => ⟨6, spec_l8Small.sig, spec_l8Small.rv, spec_l8Small.body, spec_l8Small.hint, spec_l8Small.join⟩
  | 126 => ⟨6, spec_l2Digit.sig, spec_l2Digit.rv, spec_l2Digit.body, spec_l2Digit.hint, spec_l2Digit.join⟩
  | 137 => ⟨29, spec_l8Name.sig, spec_l8Name.rv, spec_l8Name.body, spec_l8Name.hint, spec_l8Name.join⟩
  | 138 => ⟨18, spec_l9Has.sig, spec_l9Has.rv, spec_l9Has.body, spec_l9Has.hint, spec_l9Has.join⟩
  | 107 => ⟨11, spec_l9Word.sig, spec_l9Word.rv, spec_l9Word.body, spec_l9Word.hint, spec_l9Word.join⟩
  | 60 => ⟨38, spec_l9Names.sig, spec_l9Names.rv, spec_l9Names.body, spec_l9Names.hint, spec_l9Names.join⟩
  | 61 => ⟨23, spec_l9Types.sig, spec_l9Types.rv, spec_l9Types.body, spec_l9Types.hint, spec_l9Types.join⟩
  | 108 => ⟨22, spec_l9Col.sig, spec_l9Col.rv, spec_l9Col.body, spec_l9Col.hint, spec_l9Col.join⟩
  | 62 => ⟨48, spec_l9Once.sig, spec_l9Once.rv, spec_l9Once.body, spec_l9Once.hint, spec_l9Once.join⟩
  | 109 => ⟨42, spec_l9Parts.sig, spec_l9Parts.rv, spec_l9Parts.body, spec_l9Parts.hint, spec_l9Parts.join⟩
  | 63 => ⟨24, spec_l9AllParts.sig, spec_l9AllParts.rv, spec_l9AllParts.body, spec_l9AllParts.hint, spec_l9AllParts.join⟩
  | 23 => ⟨43, spec_CheckDef.sig, spec_CheckDef.rv, spec_CheckDef.body, spec_CheckDef.hint, spec_CheckDef.join⟩
  | 55 => ⟨15, impl_in.sig, impl_in.rv, impl_in.body, impl_in.hint, impl_in.join⟩
  | 93 => ⟨9, impl_isLetter.sig, impl_isLetter.rv, impl_isLetter.body, impl_isLetter.hint, impl_isLetter.join⟩
  | 94 => ⟨9, impl_isDigit.sig, impl_isDigit.rv, impl_isDigit.body, impl_isDigit.hint, impl_isDigit.join⟩
  | 135 => ⟨29, impl_nameOk.sig, impl_nameOk.rv, impl_nameOk.body, impl_nameOk.hint, impl_nameOk.join⟩
  | 106 => ⟨17, impl_isFree.sig, impl_isFree.rv, impl_isFree.body, impl_isFree.hint, impl_isFree.join⟩
  | 54 => ⟨34, impl_namesOk.sig, impl_namesOk.rv, impl_namesOk.body, impl_namesOk.hint, impl_namesOk.join⟩
  | 56 => ⟨59, impl_twice.sig, impl_twice.rv, impl_twice.body, impl_twice.hint, impl_twice.join⟩
  | 57 => ⟨42, impl_partsOk.sig, impl_partsOk.rv, impl_partsOk.body, impl_partsOk.hint, impl_partsOk.join⟩
  | 21 => ⟨68, impl_CheckDef.sig, impl_CheckDef.rv, impl_CheckDef.body, impl_CheckDef.hint, impl_CheckDef.join⟩
  | 19 => ⟨6, laws_big.sig, laws_big.rv, laws_big.body, laws_big.hint, laws_big.join⟩
  | 52 => ⟨32, spec_l1New.sig, spec_l1New.rv, spec_l1New.body, spec_l1New.hint, spec_l1New.join⟩
  | 134 => ⟨58, spec_l1Byte.sig, spec_l1Byte.rv, spec_l1Byte.body, spec_l1Byte.hint, spec_l1Byte.join⟩
  | 91 => ⟨31, spec_l1Below.sig, spec_l1Below.rv, spec_l1Below.body, spec_l1Below.hint, spec_l1Below.join⟩
  | 92 => ⟨12, spec_l1Str.sig, spec_l1Str.rv, spec_l1Str.body, spec_l1Str.hint, spec_l1Str.join⟩
  | 58 => ⟨9, spec_l1Once.sig, spec_l1Once.rv, spec_l1Once.body, spec_l1Once.hint, spec_l1Once.join⟩
  | 96 => ⟨12, spec_l1Int.sig, spec_l1Int.rv, spec_l1Int.body, spec_l1Int.hint, spec_l1Int.join⟩
  | 104 => ⟨32, spec_l9Draw2.sig, spec_l9Draw2.rv, spec_l9Draw2.body, spec_l9Draw2.hint, spec_l9Draw2.join⟩
  | 103 => ⟨94, spec_l9Draw.sig, spec_l9Draw.rv, spec_l9Draw.body, spec_l9Draw.hint, spec_l9Draw.join⟩
  | 105 => ⟨28, spec_l2Num.sig, spec_l2Num.rv, spec_l2Num.body, spec_l2Num.hint, spec_l2Num.join⟩
  | 53 => ⟨119, spec_l9Any.sig, spec_l9Any.rv, spec_l9Any.body, spec_l9Any.hint, spec_l9Any.join⟩
  | 40 => ⟨12, spec_DrawIndexPlan.sig, spec_DrawIndexPlan.rv, spec_DrawIndexPlan.body, spec_DrawIndexPlan.hint, spec_DrawIndexPlan.join⟩
  | 97 => ⟨35, impl_partsOf.sig, impl_partsOf.rv, impl_partsOf.body, impl_partsOf.hint, impl_partsOf.join⟩
  | 41 => ⟨10, impl_PrimaryPlan.sig, impl_PrimaryPlan.rv, impl_PrimaryPlan.body, impl_PrimaryPlan.hint, impl_PrimaryPlan.join⟩
  | 42 => ⟨30, impl_IndexPlan.sig, impl_IndexPlan.rv, impl_IndexPlan.body, impl_IndexPlan.hint, impl_IndexPlan.join⟩
  | 43 => ⟨28, impl_RowPlan.sig, impl_RowPlan.rv, impl_RowPlan.body, impl_RowPlan.hint, impl_RowPlan.join⟩
  | 98 => ⟨11, impl_PartOk.sig, impl_PartOk.rv, impl_PartOk.body, impl_PartOk.hint, impl_PartOk.join⟩
  | 44 => ⟨20, impl_PlanOk.sig, impl_PlanOk.rv, impl_PlanOk.body, impl_PlanOk.hint, impl_PlanOk.join⟩
  | 10 => ⟨112, laws_FnPlans.sig, laws_FnPlans.rv, laws_FnPlans.body, laws_FnPlans.hint, laws_FnPlans.join⟩
  | 64 => ⟨0, strings_Split.sig, [], .refuse "", fun _ => ⟨[], []⟩, fun _ => none⟩
  | _ => ⟨0, ⟨[], []⟩, [], .refuse "", fun _ => ⟨[], []⟩, fun _ => none⟩
noncomputable def sigs (f : Nat) : Sig := (fns f).sig
end
end Go.PV.T
