/- Functions of the program by their own lists and numbers. No condition beyond those in each statement. -/
import Derived.Test.YtipehkeabnfngaaDoorPvLibD
import Derived.Test.YtipehkeabnfngaaDoorProg
import Derived.KernelRfl
set_option linter.unusedVariables false
set_option linter.unusedSimpArgs false
set_option maxRecDepth 100000
set_option linter.unusedVariables false
namespace Go.PV.T
open Go.Proofs
noncomputable section
abbrev K0 : SS := .one (.str)
abbrev K1 : SS := .cons (.str) (.cons (.int .i64) (.one (.bool)))
abbrev K2 : SS := .cons (.int .i64) (.one (.bool))
abbrev K3 : SS := .cons (.str) (.cons (.bool) (.one (.row K2)))
abbrev K4 : SS := .cons (.int .i64) (.cons (.int .i64) (.cons (.bool) (.one (.bool))))
abbrev K5 : SS := .one (.int .u8)
noncomputable def eqts (t : Nat) : Bool := memN t []
noncomputable def tys : Nat → TyI
  | 3 => .cell (.int .i64) 0
  | 4 => .cell (.bool) 0
  | 5 => .cell (.int .u8) 0
  | 9 => .cell (.str) 0
  | 29 => .cell (.row K5) 1
  | 31 => .cell (.row K1) 32
  | 32 => .cell (.row K2) 16
  | 33 => .cell (.row K3) 48
  | 35 => .strct [0, 1, 2, 3] [.str, .row K1, .row K2, .row K3]
  | 42 => .cell (.row K1) 32
  | 43 => .cell (.row K2) 16
  | 44 => .cell (.row K3) 48
  | 46 => .strct [0, 1, 2, 3] [.str, .row K1, .row K2, .row K3]
  | 64 => .cell (.row K4) 24
  | 69 => .strct [0, 1, 2] [.str, .bool, .row K2]
  | 71 => .strct [0, 1, 2, 3] [.int .i64, .int .i64, .bool, .bool]
  | 82 => .strct [0, 1, 2] [.str, .int .i64, .bool]
  | 85 => .strct [0, 1] [.int .i64, .bool]
  | 88 => .cell (.row K0) 16
  | 131 => .strct [0, 1, 2] [.str, .int .i64, .bool]
  | 134 => .strct [0, 1, 2] [.str, .bool, .row K2]
  | 137 => .strct [0, 1] [.int .i64, .bool]
  | _ => .no
noncomputable def strings_Split.sig : Sig := ⟨[.val false [⟨.str, 0, 0, false⟩], .val false [⟨.str, 0, 0, false⟩]], [(.one, [(.row K0, 1)])]⟩
noncomputable def laws_szCol.m  : (ByteArray × Int × Bool × Int) → Option (Int)
  | (a0_0, a0_1, a0_2, a1_0) =>
  bif decide ((IntKind.wrap IntKind.i64 (a1_0 - (ByteArray.size a0_0 : Int))) < (0 : Int)) then
   some (-1 : Int)
  else
   some (IntKind.wrap IntKind.i64 (a1_0 - (ByteArray.size a0_0 : Int)))
noncomputable def laws_szCol.sig : Sig := ⟨[.val true [⟨.str, 0, 0, false⟩, ⟨.int .i64, 0, 0, false⟩, ⟨.bool, 0, 0, false⟩], .val false [⟨.int .i64, 0, 0, false⟩]], [(.one, [(.int .i64, 0)])]⟩
noncomputable def laws_szCol.hint : Nat → Hint
  | _ => ⟨[], []⟩
noncomputable def laws_szCol.join : Nat → Option Hint
  | _ => none
noncomputable def laws_szCol.body : Code := (Tryd.f112).body.getD .skip
noncomputable def laws_szCol.rv : List ResultVar := (Tryd.f112).results.toList
noncomputable def laws_szColS.s0 (c112 : ByteArray × Int × Bool × Int → Option (Int)) (L0 : ((List (ByteArray × Int × Bool)) × Int × Int) → Option (Int)) : ((List (ByteArray × Int × Bool)) × Int × Int) → Option (Int)
  | (x0, x1, x2) =>
  bif decide (x2 < (List.length x0 : Int)) then
   bif decide (0 ≤ x2) && decide (x2 < (List.length x0 : Int)) then
    Option.bind (c112 ((List.getD x0 (Int.toNat x2) (ByteArray.empty, (0 : Int), false)).1, (List.getD x0 (Int.toNat x2) (ByteArray.empty, (0 : Int), false)).2.1, (List.getD x0 (Int.toNat x2) (ByteArray.empty, (0 : Int), false)).2.2, x1)) fun r1 =>
     bif decide (r1 < (0 : Int)) then
      some (-1 : Int)
     else
      L0 (x0, r1, IntKind.wrap IntKind.i64 (x2 + (1 : Int)))
   else
    none
  else
   some x1
noncomputable def laws_szColS.ll0 : ((List (ByteArray × Int × Bool)) × Int × Int) → LS
  | (x0, x1, x2) => ⟨[.cv ⟨.row K1, x0⟩, .cv ⟨.int .i64, x1⟩, .cv ⟨.int .i64, x2⟩], []⟩
noncomputable def laws_szColS.m (B0 : ((List (ByteArray × Int × Bool)) × Int × Int) → Option (Int)) : ((List (ByteArray × Int × Bool)) × Int) → Option (Int)
  | (a0_0, a1_0) =>
  bif decide ((IntKind.wrap IntKind.i64 (a1_0 - (List.length a0_0 : Int))) < (0 : Int)) then
   some (-1 : Int)
  else
   B0 (a0_0, IntKind.wrap IntKind.i64 (a1_0 - (List.length a0_0 : Int)), (0 : Int))
noncomputable def laws_szColS.sig : Sig := ⟨[.val false [⟨.row K1, 0, 0, false⟩], .val false [⟨.int .i64, 0, 0, false⟩]], [(.one, [(.int .i64, 0)])]⟩
noncomputable def laws_szColS.hint : Nat → Hint
  | 0 => ⟨[(0, .keep), (1, .keep), (5, .keep)], []⟩
  | _ => ⟨[], []⟩
noncomputable def laws_szColS.join : Nat → Option Hint
  | _ => none
noncomputable def laws_szColS.body : Code := (Tryd.f70).body.getD .skip
noncomputable def laws_szColS.rv : List ResultVar := (Tryd.f70).results.toList
noncomputable def laws_szByS.m  : ((List (Int × Bool)) × Int) → Option (Int)
  | (a0_0, a1_0) =>
  bif decide ((IntKind.wrap IntKind.i64 (a1_0 - (List.length a0_0 : Int))) < (0 : Int)) then
   some (-1 : Int)
  else
   some (IntKind.wrap IntKind.i64 (a1_0 - (List.length a0_0 : Int)))
noncomputable def laws_szByS.sig : Sig := ⟨[.val false [⟨.row K2, 0, 0, false⟩], .val false [⟨.int .i64, 0, 0, false⟩]], [(.one, [(.int .i64, 0)])]⟩
noncomputable def laws_szByS.hint : Nat → Hint
  | _ => ⟨[], []⟩
noncomputable def laws_szByS.join : Nat → Option Hint
  | _ => none
noncomputable def laws_szByS.body : Code := (Tryd.f71).body.getD .skip
noncomputable def laws_szByS.rv : List ResultVar := (Tryd.f71).results.toList
noncomputable def laws_szIndex.m (c71 : (List (Int × Bool)) × Int → Option (Int)) : (ByteArray × Bool × (List (Int × Bool)) × Int) → Option (Int)
  | (a0_0, a0_1, a0_2, a1_0) =>
  bif decide ((IntKind.wrap IntKind.i64 (a1_0 - (ByteArray.size a0_0 : Int))) < (0 : Int)) then
   some (-1 : Int)
  else
   Option.bind (c71 (a0_2, IntKind.wrap IntKind.i64 (a1_0 - (ByteArray.size a0_0 : Int)))) fun r1 =>
    bif decide (r1 < (0 : Int)) then
     some (-1 : Int)
    else
     some r1
noncomputable def laws_szIndex.sig : Sig := ⟨[.val true [⟨.str, 0, 0, false⟩, ⟨.bool, 0, 0, false⟩, ⟨.row K2, 0, 0, false⟩], .val false [⟨.int .i64, 0, 0, false⟩]], [(.one, [(.int .i64, 0)])]⟩
noncomputable def laws_szIndex.hint : Nat → Hint
  | _ => ⟨[], []⟩
noncomputable def laws_szIndex.join : Nat → Option Hint
  | _ => none
noncomputable def laws_szIndex.body : Code := (Tryd.f113).body.getD .skip
noncomputable def laws_szIndex.rv : List ResultVar := (Tryd.f113).results.toList
noncomputable def laws_szIndexS.s0 (c113 : ByteArray × Bool × (List (Int × Bool)) × Int → Option (Int)) (L0 : ((List (ByteArray × Bool × (List (Int × Bool)))) × Int × Int) → Option (Int)) : ((List (ByteArray × Bool × (List (Int × Bool)))) × Int × Int) → Option (Int)
  | (x0, x1, x2) =>
  bif decide (x2 < (List.length x0 : Int)) then
   bif decide (0 ≤ x2) && decide (x2 < (List.length x0 : Int)) then
    Option.bind (c113 ((List.getD x0 (Int.toNat x2) (ByteArray.empty, false, ([] : List (Int × Bool)))).1, (List.getD x0 (Int.toNat x2) (ByteArray.empty, false, ([] : List (Int × Bool)))).2.1, (List.getD x0 (Int.toNat x2) (ByteArray.empty, false, ([] : List (Int × Bool)))).2.2, x1)) fun r1 =>
     bif decide (r1 < (0 : Int)) then
      some (-1 : Int)
     else
      L0 (x0, r1, IntKind.wrap IntKind.i64 (x2 + (1 : Int)))
   else
    none
  else
   some x1
noncomputable def laws_szIndexS.ll0 : ((List (ByteArray × Bool × (List (Int × Bool)))) × Int × Int) → LS
  | (x0, x1, x2) => ⟨[.cv ⟨.row K3, x0⟩, .cv ⟨.int .i64, x1⟩, .cv ⟨.int .i64, x2⟩], []⟩
noncomputable def laws_szIndexS.m (B0 : ((List (ByteArray × Bool × (List (Int × Bool)))) × Int × Int) → Option (Int)) : ((List (ByteArray × Bool × (List (Int × Bool)))) × Int) → Option (Int)
  | (a0_0, a1_0) =>
  bif decide ((IntKind.wrap IntKind.i64 (a1_0 - (List.length a0_0 : Int))) < (0 : Int)) then
   some (-1 : Int)
  else
   B0 (a0_0, IntKind.wrap IntKind.i64 (a1_0 - (List.length a0_0 : Int)), (0 : Int))
noncomputable def laws_szIndexS.sig : Sig := ⟨[.val false [⟨.row K3, 0, 0, false⟩], .val false [⟨.int .i64, 0, 0, false⟩]], [(.one, [(.int .i64, 0)])]⟩
noncomputable def laws_szIndexS.hint : Nat → Hint
  | 0 => ⟨[(0, .keep), (1, .keep), (5, .keep)], []⟩
  | _ => ⟨[], []⟩
noncomputable def laws_szIndexS.join : Nat → Option Hint
  | _ => none
noncomputable def laws_szIndexS.body : Code := (Tryd.f72).body.getD .skip
noncomputable def laws_szIndexS.rv : List ResultVar := (Tryd.f72).results.toList
noncomputable def laws_szDef.m (c70 : (List (ByteArray × Int × Bool)) × Int → Option (Int)) (c71 : (List (Int × Bool)) × Int → Option (Int)) (c72 : (List (ByteArray × Bool × (List (Int × Bool)))) × Int → Option (Int)) : (ByteArray × (List (ByteArray × Int × Bool)) × (List (Int × Bool)) × (List (ByteArray × Bool × (List (Int × Bool)))) × Int) → Option (Int)
  | (a0_0, a0_1, a0_2, a0_3, a1_0) =>
  bif decide ((IntKind.wrap IntKind.i64 (a1_0 - (ByteArray.size a0_0 : Int))) < (0 : Int)) then
   some (-1 : Int)
  else
   Option.bind (c70 (a0_1, IntKind.wrap IntKind.i64 (a1_0 - (ByteArray.size a0_0 : Int)))) fun r1 =>
    bif decide (r1 < (0 : Int)) then
     some (-1 : Int)
    else
     Option.bind (c71 (a0_2, r1)) fun r2 =>
      bif decide (r2 < (0 : Int)) then
       some (-1 : Int)
      else
       Option.bind (c72 (a0_3, r2)) fun r3 =>
        bif decide (r3 < (0 : Int)) then
         some (-1 : Int)
        else
         some r3
noncomputable def laws_szDef.sig : Sig := ⟨[.val true [⟨.str, 0, 0, false⟩, ⟨.row K1, 0, 0, false⟩, ⟨.row K2, 0, 0, false⟩, ⟨.row K3, 0, 0, false⟩], .val false [⟨.int .i64, 0, 0, false⟩]], [(.one, [(.int .i64, 0)])]⟩
noncomputable def laws_szDef.hint : Nat → Hint
  | _ => ⟨[], []⟩
noncomputable def laws_szDef.join : Nat → Option Hint
  | _ => none
noncomputable def laws_szDef.body : Code := (Tryd.f28).body.getD .skip
noncomputable def laws_szDef.rv : List ResultVar := (Tryd.f28).results.toList
noncomputable def spec_l1In.m  : (Int × Int × Int) → Option (Bool)
  | (a0_0, a1_0, a2_0) =>
  bif decide (a0_0 ≥ a1_0) then
   some (decide (a0_0 ≤ a2_0))
  else
   some false
noncomputable def spec_l1In.sig : Sig := ⟨[.val false [⟨.int .i64, 0, 0, false⟩], .val false [⟨.int .i64, 0, 0, false⟩], .val false [⟨.int .i64, 0, 0, false⟩]], [(.one, [(.bool, 0)])]⟩
noncomputable def spec_l1In.hint : Nat → Hint
  | _ => ⟨[], []⟩
noncomputable def spec_l1In.join : Nat → Option Hint
  | _ => none
noncomputable def spec_l1In.body : Code := (Tryd.f101).body.getD .skip
noncomputable def spec_l1In.rv : List ResultVar := (Tryd.f101).results.toList
noncomputable def spec_l8Small.m (c101 : Int × Int × Int → Option (Bool)) : (Int) → Option (Bool)
  | a0_0 =>
  Option.bind (c101 (IntKind.wrap IntKind.i64 a0_0, (97 : Int), (122 : Int))) fun r1 =>
   some r1
noncomputable def spec_l8Small.sig : Sig := ⟨[.val false [⟨.int .u8, 0, 0, false⟩]], [(.one, [(.bool, 0)])]⟩
noncomputable def spec_l8Small.hint : Nat → Hint
  | _ => ⟨[], []⟩
noncomputable def spec_l8Small.join : Nat → Option Hint
  | _ => none
noncomputable def spec_l8Small.body : Code := (Tryd.f125).body.getD .skip
noncomputable def spec_l8Small.rv : List ResultVar := (Tryd.f125).results.toList
noncomputable def spec_l2Digit.m (c101 : Int × Int × Int → Option (Bool)) : (Int) → Option (Bool)
  | a0_0 =>
  Option.bind (c101 (IntKind.wrap IntKind.i64 a0_0, (48 : Int), (57 : Int))) fun r1 =>
   some r1
noncomputable def spec_l2Digit.sig : Sig := ⟨[.val false [⟨.int .u8, 0, 0, false⟩]], [(.one, [(.bool, 0)])]⟩
noncomputable def spec_l2Digit.hint : Nat → Hint
  | _ => ⟨[], []⟩
noncomputable def spec_l2Digit.join : Nat → Option Hint
  | _ => none
noncomputable def spec_l2Digit.body : Code := (Tryd.f126).body.getD .skip
noncomputable def spec_l2Digit.rv : List ResultVar := (Tryd.f126).results.toList
noncomputable def spec_l8Name.s0 (c101 : Int × Int × Int → Option (Bool)) (c125 : (Int) → Option (Bool)) (c126 : (Int) → Option (Bool)) (L0 : (ByteArray × Int) → Option (Bool)) : (ByteArray × Int) → Option (Bool)
  | (x0, x1) =>
  bif decide (x1 < (ByteArray.size x0 : Int)) then
   bif decide (0 ≤ x1) && decide (x1 < (ByteArray.size x0 : Int)) then
    Option.bind (c125 ((ByteArray.get! x0 (Int.toNat x1)).toNat : Int)) fun r1 =>
     bif !(r1) then
      bif x1 == (0 : Int) then
       some false
      else
       bif decide (0 ≤ x1) && decide (x1 < (ByteArray.size x0 : Int)) then
        Option.bind (c126 ((ByteArray.get! x0 (Int.toNat x1)).toNat : Int)) fun r2 =>
         bif !(r2) then
          some false
         else
          L0 (x0, IntKind.wrap IntKind.i64 (x1 + (1 : Int)))
       else
        none
     else
      L0 (x0, IntKind.wrap IntKind.i64 (x1 + (1 : Int)))
   else
    none
  else
   Option.bind (c101 ((ByteArray.size x0 : Int), (1 : Int), (8 : Int))) fun r3 =>
    some r3
noncomputable def spec_l8Name.ll0 : (ByteArray × Int) → LS
  | (x0, x1) => ⟨[.cv ⟨.str, x0⟩, .cv ⟨.int .i64, x1⟩], []⟩
noncomputable def spec_l8Name.m (B0 : (ByteArray × Int) → Option (Bool)) : (ByteArray) → Option (Bool)
  | a0_0 =>
  B0 (a0_0, (0 : Int))
noncomputable def spec_l8Name.sig : Sig := ⟨[.val false [⟨.str, 0, 0, false⟩]], [(.one, [(.bool, 0)])]⟩
noncomputable def spec_l8Name.hint : Nat → Hint
  | 0 => ⟨[(0, .keep), (3, .keep)], []⟩
  | _ => ⟨[], []⟩
noncomputable def spec_l8Name.join : Nat → Option Hint
  | _ => none
noncomputable def spec_l8Name.body : Code := (Tryd.f137).body.getD .skip
noncomputable def spec_l8Name.rv : List ResultVar := (Tryd.f137).results.toList
noncomputable def spec_l9Has.s0 (L0 : ((List ByteArray) × ByteArray × Int) → Option (Bool)) : ((List ByteArray) × ByteArray × Int) → Option (Bool)
  | (x0, x1, x2) =>
  bif decide (x2 < (List.length x0 : Int)) then
   bif decide (0 ≤ x2) && decide (x2 < (List.length x0 : Int)) then
    bif ByteArray.toList (List.getD x0 (Int.toNat x2) ByteArray.empty) == ByteArray.toList x1 then
     some true
    else
     L0 (x0, x1, IntKind.wrap IntKind.i64 (x2 + (1 : Int)))
   else
    none
  else
   some false
noncomputable def spec_l9Has.ll0 : ((List ByteArray) × ByteArray × Int) → LS
  | (x0, x1, x2) => ⟨[.cv ⟨.row K0, x0⟩, .cv ⟨.str, x1⟩, .cv ⟨.int .i64, x2⟩], []⟩
noncomputable def spec_l9Has.m (B0 : ((List ByteArray) × ByteArray × Int) → Option (Bool)) : ((List ByteArray) × ByteArray) → Option (Bool)
  | (a0_0, a1_0) =>
  B0 (a0_0, a1_0, (0 : Int))
noncomputable def spec_l9Has.sig : Sig := ⟨[.val false [⟨.row K0, 0, 0, false⟩], .val false [⟨.str, 0, 0, false⟩]], [(.one, [(.bool, 0)])]⟩
noncomputable def spec_l9Has.hint : Nat → Hint
  | 0 => ⟨[(0, .keep), (1, .keep), (5, .keep)], []⟩
  | _ => ⟨[], []⟩
noncomputable def spec_l9Has.join : Nat → Option Hint
  | _ => none
noncomputable def spec_l9Has.body : Code := (Tryd.f138).body.getD .skip
noncomputable def spec_l9Has.rv : List ResultVar := (Tryd.f138).results.toList
noncomputable def spec_l9Word.m (c137 : (ByteArray) → Option (Bool)) (c138 : (List ByteArray) × ByteArray → Option (Bool)) : (ByteArray) → Option (Bool)
  | a0_0 =>
  Option.bind (c137 a0_0) fun r1 =>
   bif r1 then
    Option.bind (c138 (([({ data := #[116, 97, 98, 108, 101] } : ByteArray), ({ data := #[112, 114, 105, 109, 97, 114, 121] } : ByteArray), ({ data := #[117, 110, 105, 113, 117, 101] } : ByteArray), ({ data := #[105, 110, 100, 101, 120] } : ByteArray), ({ data := #[110, 117, 108, 108] } : ByteArray), ({ data := #[100, 101, 115, 99] } : ByteArray), ({ data := #[105, 110, 116] } : ByteArray), ({ data := #[110, 117, 109] } : ByteArray), ({ data := #[116, 101, 120, 116] } : ByteArray), ({ data := #[98, 111, 111, 108] } : ByteArray)] : List ByteArray), a0_0)) fun r2 =>
     some (!(r2))
   else
    some false
noncomputable def spec_l9Word.sig : Sig := ⟨[.val false [⟨.str, 0, 0, false⟩]], [(.one, [(.bool, 0)])]⟩
noncomputable def spec_l9Word.hint : Nat → Hint
  | _ => ⟨[], []⟩
noncomputable def spec_l9Word.join : Nat → Option Hint
  | _ => none
noncomputable def spec_l9Word.body : Code := (Tryd.f107).body.getD .skip
noncomputable def spec_l9Word.rv : List ResultVar := (Tryd.f107).results.toList
noncomputable def spec_l9Names.s0 (c107 : (ByteArray) → Option (Bool)) (B2 : (Int × ByteArray × (List (ByteArray × Int × Bool)) × (List (Int × Bool)) × (List (ByteArray × Bool × (List (Int × Bool))))) → Option (Bool)) (L0 : (Int × ByteArray × (List (ByteArray × Int × Bool)) × (List (Int × Bool)) × (List (ByteArray × Bool × (List (Int × Bool))))) → Option (Bool)) : (Int × ByteArray × (List (ByteArray × Int × Bool)) × (List (Int × Bool)) × (List (ByteArray × Bool × (List (Int × Bool))))) → Option (Bool)
  | (x0, x1, x2, x3, x4) =>
  bif decide (x0 < (List.length x2 : Int)) then
   bif decide (0 ≤ x0) && decide (x0 < (List.length x2 : Int)) then
    Option.bind (c107 ((List.getD x2 (Int.toNat x0) (ByteArray.empty, (0 : Int), false)).1)) fun r1 =>
     bif !(r1) then
      some false
     else
      L0 (IntKind.wrap IntKind.i64 (x0 + (1 : Int)), x1, x2, x3, x4)
   else
    none
  else
   B2 ((0 : Int), x1, x2, x3, x4)
noncomputable def spec_l9Names.ll0 : (Int × ByteArray × (List (ByteArray × Int × Bool)) × (List (Int × Bool)) × (List (ByteArray × Bool × (List (Int × Bool))))) → LS
  | (x0, x1, x2, x3, x4) => ⟨[.addr 65 0 [] 0, .cv ⟨.int .i64, x0⟩], [⟨false, [⟨0, 0, .mk 0 ⟨.str, x1⟩⟩, ⟨0, 0, .mk 0 ⟨.row K1, x2⟩⟩, ⟨0, 0, .mk 0 ⟨.row K2, x3⟩⟩, ⟨0, 0, .mk 0 ⟨.row K3, x4⟩⟩]⟩]⟩
noncomputable def spec_l9Names.s2 (c107 : (ByteArray) → Option (Bool)) (L2 : (Int × ByteArray × (List (ByteArray × Int × Bool)) × (List (Int × Bool)) × (List (ByteArray × Bool × (List (Int × Bool))))) → Option (Bool)) : (Int × ByteArray × (List (ByteArray × Int × Bool)) × (List (Int × Bool)) × (List (ByteArray × Bool × (List (Int × Bool))))) → Option (Bool)
  | (x0, x1, x2, x3, x4) =>
  bif decide (x0 < (List.length x4 : Int)) then
   bif decide (0 ≤ x0) && decide (x0 < (List.length x4 : Int)) then
    Option.bind (c107 ((List.getD x4 (Int.toNat x0) (ByteArray.empty, false, ([] : List (Int × Bool)))).1)) fun r2 =>
     bif !(r2) then
      some false
     else
      L2 (IntKind.wrap IntKind.i64 (x0 + (1 : Int)), x1, x2, x3, x4)
   else
    none
  else
   Option.bind (c107 x1) fun r3 =>
    some r3
noncomputable def spec_l9Names.ll2 : (Int × ByteArray × (List (ByteArray × Int × Bool)) × (List (Int × Bool)) × (List (ByteArray × Bool × (List (Int × Bool))))) → LS
  | (x0, x1, x2, x3, x4) => ⟨[.addr 65 0 [] 0, .cv ⟨.int .i64, x0⟩], [⟨false, [⟨0, 0, .mk 0 ⟨.str, x1⟩⟩, ⟨0, 0, .mk 0 ⟨.row K1, x2⟩⟩, ⟨0, 0, .mk 0 ⟨.row K2, x3⟩⟩, ⟨0, 0, .mk 0 ⟨.row K3, x4⟩⟩]⟩]⟩
noncomputable def spec_l9Names.m (B0 : (Int × ByteArray × (List (ByteArray × Int × Bool)) × (List (Int × Bool)) × (List (ByteArray × Bool × (List (Int × Bool))))) → Option (Bool)) : (ByteArray × (List (ByteArray × Int × Bool)) × (List (Int × Bool)) × (List (ByteArray × Bool × (List (Int × Bool))))) → Option (Bool)
  | (a0_0, a0_1, a0_2, a0_3) =>
  B0 ((0 : Int), a0_0, a0_1, a0_2, a0_3)
noncomputable def spec_l9Names.sig : Sig := ⟨[.val true [⟨.str, 0, 0, false⟩, ⟨.row K1, 0, 0, false⟩, ⟨.row K2, 0, 0, false⟩, ⟨.row K3, 0, 0, false⟩]], [(.one, [(.bool, 0)])]⟩
noncomputable def spec_l9Names.hint : Nat → Hint
  | 0 => ⟨[(1, .keep), (3, .keep)], [(65, [0, 0, 0, 0])]⟩
  | 2 => ⟨[(1, .keep), (4, .keep)], [(65, [0, 0, 0, 0])]⟩
  | _ => ⟨[], []⟩
noncomputable def spec_l9Names.join : Nat → Option Hint
  | _ => none
noncomputable def spec_l9Names.body : Code := (Tryd.f60).body.getD .skip
noncomputable def spec_l9Names.rv : List ResultVar := (Tryd.f60).results.toList
noncomputable def spec_l9Types.s0 (c101 : Int × Int × Int → Option (Bool)) (L0 : (Int × ByteArray × (List (ByteArray × Int × Bool)) × (List (Int × Bool)) × (List (ByteArray × Bool × (List (Int × Bool))))) → Option (Bool)) : (Int × ByteArray × (List (ByteArray × Int × Bool)) × (List (Int × Bool)) × (List (ByteArray × Bool × (List (Int × Bool))))) → Option (Bool)
  | (x0, x1, x2, x3, x4) =>
  bif decide (x0 < (List.length x2 : Int)) then
   bif decide (0 ≤ x0) && decide (x0 < (List.length x2 : Int)) then
    Option.bind (c101 ((List.getD x2 (Int.toNat x0) (ByteArray.empty, (0 : Int), false)).2.1, (1 : Int), (4 : Int))) fun r1 =>
     bif !(r1) then
      some false
     else
      L0 (IntKind.wrap IntKind.i64 (x0 + (1 : Int)), x1, x2, x3, x4)
   else
    none
  else
   Option.bind (c101 ((List.length x2 : Int), (1 : Int), (6 : Int))) fun r2 =>
    some r2
noncomputable def spec_l9Types.ll0 : (Int × ByteArray × (List (ByteArray × Int × Bool)) × (List (Int × Bool)) × (List (ByteArray × Bool × (List (Int × Bool))))) → LS
  | (x0, x1, x2, x3, x4) => ⟨[.addr 65 0 [] 0, .cv ⟨.int .i64, x0⟩], [⟨false, [⟨0, 0, .mk 0 ⟨.str, x1⟩⟩, ⟨0, 0, .mk 0 ⟨.row K1, x2⟩⟩, ⟨0, 0, .mk 0 ⟨.row K2, x3⟩⟩, ⟨0, 0, .mk 0 ⟨.row K3, x4⟩⟩]⟩]⟩
noncomputable def spec_l9Types.m (B0 : (Int × ByteArray × (List (ByteArray × Int × Bool)) × (List (Int × Bool)) × (List (ByteArray × Bool × (List (Int × Bool))))) → Option (Bool)) : (ByteArray × (List (ByteArray × Int × Bool)) × (List (Int × Bool)) × (List (ByteArray × Bool × (List (Int × Bool))))) → Option (Bool)
  | (a0_0, a0_1, a0_2, a0_3) =>
  B0 ((0 : Int), a0_0, a0_1, a0_2, a0_3)
noncomputable def spec_l9Types.sig : Sig := ⟨[.val true [⟨.str, 0, 0, false⟩, ⟨.row K1, 0, 0, false⟩, ⟨.row K2, 0, 0, false⟩, ⟨.row K3, 0, 0, false⟩]], [(.one, [(.bool, 0)])]⟩
noncomputable def spec_l9Types.hint : Nat → Hint
  | 0 => ⟨[(1, .keep), (3, .keep)], [(65, [0, 0, 0, 0])]⟩
  | _ => ⟨[], []⟩
noncomputable def spec_l9Types.join : Nat → Option Hint
  | _ => none
noncomputable def spec_l9Types.body : Code := (Tryd.f61).body.getD .skip
noncomputable def spec_l9Types.rv : List ResultVar := (Tryd.f61).results.toList
noncomputable def spec_l9Col.s0 (L0 : (ByteArray × Int × ByteArray × (List (ByteArray × Int × Bool)) × (List (Int × Bool)) × (List (ByteArray × Bool × (List (Int × Bool))))) → Option (Int)) : (ByteArray × Int × ByteArray × (List (ByteArray × Int × Bool)) × (List (Int × Bool)) × (List (ByteArray × Bool × (List (Int × Bool))))) → Option (Int)
  | (x0, x1, x2, x3, x4, x5) =>
  bif decide (x1 < (List.length x3 : Int)) then
   bif decide (0 ≤ x1) && decide (x1 < (List.length x3 : Int)) then
    bif ByteArray.toList ((List.getD x3 (Int.toNat x1) (ByteArray.empty, (0 : Int), false)).1) == ByteArray.toList x0 then
     some x1
    else
     L0 (x0, IntKind.wrap IntKind.i64 (x1 + (1 : Int)), x2, x3, x4, x5)
   else
    none
  else
   some (-1 : Int)
noncomputable def spec_l9Col.ll0 : (ByteArray × Int × ByteArray × (List (ByteArray × Int × Bool)) × (List (Int × Bool)) × (List (ByteArray × Bool × (List (Int × Bool))))) → LS
  | (x0, x1, x2, x3, x4, x5) => ⟨[.cv ⟨.str, x0⟩, .addr 129 0 [] 0, .cv ⟨.int .i64, x1⟩], [⟨false, [⟨0, 0, .mk 0 ⟨.str, x2⟩⟩, ⟨0, 0, .mk 0 ⟨.row K1, x3⟩⟩, ⟨0, 0, .mk 0 ⟨.row K2, x4⟩⟩, ⟨0, 0, .mk 0 ⟨.row K3, x5⟩⟩]⟩]⟩
noncomputable def spec_l9Col.m (B0 : (ByteArray × Int × ByteArray × (List (ByteArray × Int × Bool)) × (List (Int × Bool)) × (List (ByteArray × Bool × (List (Int × Bool))))) → Option (Int)) : (ByteArray × (List (ByteArray × Int × Bool)) × (List (Int × Bool)) × (List (ByteArray × Bool × (List (Int × Bool)))) × ByteArray) → Option (Int)
  | (a0_0, a0_1, a0_2, a0_3, a1_0) =>
  B0 (a1_0, (0 : Int), a0_0, a0_1, a0_2, a0_3)
noncomputable def spec_l9Col.sig : Sig := ⟨[.val true [⟨.str, 0, 0, false⟩, ⟨.row K1, 0, 0, false⟩, ⟨.row K2, 0, 0, false⟩, ⟨.row K3, 0, 0, false⟩], .val false [⟨.str, 0, 0, false⟩]], [(.one, [(.int .i64, 0)])]⟩
noncomputable def spec_l9Col.hint : Nat → Hint
  | 0 => ⟨[(1, .keep), (2, .keep), (5, .keep)], [(129, [0, 0, 0, 0])]⟩
  | _ => ⟨[], []⟩
noncomputable def spec_l9Col.join : Nat → Option Hint
  | _ => none
noncomputable def spec_l9Col.body : Code := (Tryd.f108).body.getD .skip
noncomputable def spec_l9Col.rv : List ResultVar := (Tryd.f108).results.toList
noncomputable def spec_l9Once.s0 (c108 : ByteArray × (List (ByteArray × Int × Bool)) × (List (Int × Bool)) × (List (ByteArray × Bool × (List (Int × Bool)))) × ByteArray → Option (Int)) (B2 : (Int × ByteArray × (List (ByteArray × Int × Bool)) × (List (Int × Bool)) × (List (ByteArray × Bool × (List (Int × Bool))))) → Option (Bool)) (L0 : (Int × ByteArray × (List (ByteArray × Int × Bool)) × (List (Int × Bool)) × (List (ByteArray × Bool × (List (Int × Bool))))) → Option (Bool)) : (Int × ByteArray × (List (ByteArray × Int × Bool)) × (List (Int × Bool)) × (List (ByteArray × Bool × (List (Int × Bool))))) → Option (Bool)
  | (x0, x1, x2, x3, x4) =>
  bif decide (x0 < (List.length x2 : Int)) then
   bif decide (0 ≤ x0) && decide (x0 < (List.length x2 : Int)) then
    Option.bind (c108 (x1, x2, x3, x4, (List.getD x2 (Int.toNat x0) (ByteArray.empty, (0 : Int), false)).1)) fun r1 =>
     bif r1 != x0 then
      some false
     else
      L0 (IntKind.wrap IntKind.i64 (x0 + (1 : Int)), x1, x2, x3, x4)
   else
    none
  else
   B2 ((0 : Int), x1, x2, x3, x4)
noncomputable def spec_l9Once.ll0 : (Int × ByteArray × (List (ByteArray × Int × Bool)) × (List (Int × Bool)) × (List (ByteArray × Bool × (List (Int × Bool))))) → LS
  | (x0, x1, x2, x3, x4) => ⟨[.addr 65 0 [] 0, .cv ⟨.int .i64, x0⟩], [⟨false, [⟨0, 0, .mk 0 ⟨.str, x1⟩⟩, ⟨0, 0, .mk 0 ⟨.row K1, x2⟩⟩, ⟨0, 0, .mk 0 ⟨.row K2, x3⟩⟩, ⟨0, 0, .mk 0 ⟨.row K3, x4⟩⟩]⟩]⟩
noncomputable def spec_l9Once.s2 (B4 : (Int × Int × ByteArray × (List (ByteArray × Int × Bool)) × (List (Int × Bool)) × (List (ByteArray × Bool × (List (Int × Bool))))) → Option (Bool)) (L2 : (Int × ByteArray × (List (ByteArray × Int × Bool)) × (List (Int × Bool)) × (List (ByteArray × Bool × (List (Int × Bool))))) → Option (Bool)) : (Int × ByteArray × (List (ByteArray × Int × Bool)) × (List (Int × Bool)) × (List (ByteArray × Bool × (List (Int × Bool))))) → Option (Bool)
  | (x0, x1, x2, x3, x4) =>
  bif decide (x0 < (List.length x4 : Int)) then
   B4 (x0, (0 : Int), x1, x2, x3, x4)
  else
   some true
noncomputable def spec_l9Once.ll2 : (Int × ByteArray × (List (ByteArray × Int × Bool)) × (List (Int × Bool)) × (List (ByteArray × Bool × (List (Int × Bool))))) → LS
  | (x0, x1, x2, x3, x4) => ⟨[.addr 65 0 [] 0, .cv ⟨.int .i64, x0⟩], [⟨false, [⟨0, 0, .mk 0 ⟨.str, x1⟩⟩, ⟨0, 0, .mk 0 ⟨.row K1, x2⟩⟩, ⟨0, 0, .mk 0 ⟨.row K2, x3⟩⟩, ⟨0, 0, .mk 0 ⟨.row K3, x4⟩⟩]⟩]⟩
noncomputable def spec_l9Once.s4 (L2 : (Int × ByteArray × (List (ByteArray × Int × Bool)) × (List (Int × Bool)) × (List (ByteArray × Bool × (List (Int × Bool))))) → Option (Bool)) (L4 : (Int × Int × ByteArray × (List (ByteArray × Int × Bool)) × (List (Int × Bool)) × (List (ByteArray × Bool × (List (Int × Bool))))) → Option (Bool)) : (Int × Int × ByteArray × (List (ByteArray × Int × Bool)) × (List (Int × Bool)) × (List (ByteArray × Bool × (List (Int × Bool))))) → Option (Bool)
  | (x0, x1, x2, x3, x4, x5) =>
  bif decide (x1 < x0) then
   bif decide (0 ≤ x1) && decide (x1 < (List.length x5 : Int)) then
    bif decide (0 ≤ x0) && decide (x0 < (List.length x5 : Int)) then
     bif ByteArray.toList ((List.getD x5 (Int.toNat x1) (ByteArray.empty, false, ([] : List (Int × Bool)))).1) == ByteArray.toList ((List.getD x5 (Int.toNat x0) (ByteArray.empty, false, ([] : List (Int × Bool)))).1) then
      some false
     else
      L4 (x0, IntKind.wrap IntKind.i64 (x1 + (1 : Int)), x2, x3, x4, x5)
    else
     none
   else
    none
  else
   L2 (IntKind.wrap IntKind.i64 (x0 + (1 : Int)), x2, x3, x4, x5)
noncomputable def spec_l9Once.ll4 : (Int × Int × ByteArray × (List (ByteArray × Int × Bool)) × (List (Int × Bool)) × (List (ByteArray × Bool × (List (Int × Bool))))) → LS
  | (x0, x1, x2, x3, x4, x5) => ⟨[.addr 65 0 [] 0, .cv ⟨.int .i64, x0⟩, .cv ⟨.int .i64, x1⟩], [⟨false, [⟨0, 0, .mk 0 ⟨.str, x2⟩⟩, ⟨0, 0, .mk 0 ⟨.row K1, x3⟩⟩, ⟨0, 0, .mk 0 ⟨.row K2, x4⟩⟩, ⟨0, 0, .mk 0 ⟨.row K3, x5⟩⟩]⟩]⟩
noncomputable def spec_l9Once.m (B0 : (Int × ByteArray × (List (ByteArray × Int × Bool)) × (List (Int × Bool)) × (List (ByteArray × Bool × (List (Int × Bool))))) → Option (Bool)) : (ByteArray × (List (ByteArray × Int × Bool)) × (List (Int × Bool)) × (List (ByteArray × Bool × (List (Int × Bool))))) → Option (Bool)
  | (a0_0, a0_1, a0_2, a0_3) =>
  B0 ((0 : Int), a0_0, a0_1, a0_2, a0_3)
noncomputable def spec_l9Once.sig : Sig := ⟨[.val true [⟨.str, 0, 0, false⟩, ⟨.row K1, 0, 0, false⟩, ⟨.row K2, 0, 0, false⟩, ⟨.row K3, 0, 0, false⟩]], [(.one, [(.bool, 0)])]⟩
noncomputable def spec_l9Once.hint : Nat → Hint
  | 0 => ⟨[(1, .keep), (3, .keep)], [(65, [0, 0, 0, 0])]⟩
  | 2 => ⟨[(1, .keep), (4, .keep)], [(65, [0, 0, 0, 0])]⟩
  | 4 => ⟨[(1, .keep), (4, .keep), (5, .keep)], [(65, [0, 0, 0, 0])]⟩
  | _ => ⟨[], []⟩
noncomputable def spec_l9Once.join : Nat → Option Hint
  | _ => none
noncomputable def spec_l9Once.body : Code := (Tryd.f62).body.getD .skip
noncomputable def spec_l9Once.rv : List ResultVar := (Tryd.f62).results.toList
noncomputable def spec_l9Parts.s0 (c101 : Int × Int × Int → Option (Bool)) (L0 : ((List (Int × Bool)) × Int × ByteArray × (List (ByteArray × Int × Bool)) × (List (Int × Bool)) × (List (ByteArray × Bool × (List (Int × Bool))))) → Option (Bool)) : ((List (Int × Bool)) × Int × ByteArray × (List (ByteArray × Int × Bool)) × (List (Int × Bool)) × (List (ByteArray × Bool × (List (Int × Bool))))) → Option (Bool)
  | (x0, x1, x2, x3, x4, x5) =>
  bif decide (x1 < (List.length x0 : Int)) then
   bif decide (0 ≤ x1) && decide (x1 < (List.length x0 : Int)) then
    Option.bind (c101 ((List.getD x0 (Int.toNat x1) ((0 : Int), false)).1, (0 : Int), IntKind.wrap IntKind.i64 ((List.length x3 : Int) - (1 : Int)))) fun r1 =>
     bif !(r1) then
      some false
     else
      bif decide (x1 > (0 : Int)) then
       bif decide (0 ≤ (0 : Int)) && decide ((0 : Int) < (List.length x0 : Int)) then
        bif decide (0 ≤ x1) && decide (x1 < (List.length x0 : Int)) then
         bif ((List.getD x0 (Int.toNat (0 : Int)) ((0 : Int), false)).1) == ((List.getD x0 (Int.toNat x1) ((0 : Int), false)).1) then
          some false
         else
          L0 (x0, IntKind.wrap IntKind.i64 (x1 + (1 : Int)), x2, x3, x4, x5)
        else
         none
       else
        none
      else
       L0 (x0, IntKind.wrap IntKind.i64 (x1 + (1 : Int)), x2, x3, x4, x5)
   else
    none
  else
   Option.bind (c101 ((List.length x0 : Int), (1 : Int), (2 : Int))) fun r2 =>
    some r2
noncomputable def spec_l9Parts.ll0 : ((List (Int × Bool)) × Int × ByteArray × (List (ByteArray × Int × Bool)) × (List (Int × Bool)) × (List (ByteArray × Bool × (List (Int × Bool))))) → LS
  | (x0, x1, x2, x3, x4, x5) => ⟨[.cv ⟨.row K2, x0⟩, .addr 129 0 [] 0, .cv ⟨.int .i64, x1⟩], [⟨false, [⟨0, 0, .mk 0 ⟨.str, x2⟩⟩, ⟨0, 0, .mk 0 ⟨.row K1, x3⟩⟩, ⟨0, 0, .mk 0 ⟨.row K2, x4⟩⟩, ⟨0, 0, .mk 0 ⟨.row K3, x5⟩⟩]⟩]⟩
noncomputable def spec_l9Parts.m (B0 : ((List (Int × Bool)) × Int × ByteArray × (List (ByteArray × Int × Bool)) × (List (Int × Bool)) × (List (ByteArray × Bool × (List (Int × Bool))))) → Option (Bool)) : (ByteArray × (List (ByteArray × Int × Bool)) × (List (Int × Bool)) × (List (ByteArray × Bool × (List (Int × Bool)))) × (List (Int × Bool))) → Option (Bool)
  | (a0_0, a0_1, a0_2, a0_3, a1_0) =>
  B0 (a1_0, (0 : Int), a0_0, a0_1, a0_2, a0_3)
noncomputable def spec_l9Parts.sig : Sig := ⟨[.val true [⟨.str, 0, 0, false⟩, ⟨.row K1, 0, 0, false⟩, ⟨.row K2, 0, 0, false⟩, ⟨.row K3, 0, 0, false⟩], .val false [⟨.row K2, 0, 0, false⟩]], [(.one, [(.bool, 0)])]⟩
noncomputable def spec_l9Parts.hint : Nat → Hint
  | 0 => ⟨[(1, .keep), (2, .keep), (5, .keep)], [(129, [0, 0, 0, 0])]⟩
  | _ => ⟨[], []⟩
noncomputable def spec_l9Parts.join : Nat → Option Hint
  | _ => none
noncomputable def spec_l9Parts.body : Code := (Tryd.f109).body.getD .skip
noncomputable def spec_l9Parts.rv : List ResultVar := (Tryd.f109).results.toList
noncomputable def spec_l9AllParts.s0 (c109 : ByteArray × (List (ByteArray × Int × Bool)) × (List (Int × Bool)) × (List (ByteArray × Bool × (List (Int × Bool)))) × (List (Int × Bool)) → Option (Bool)) (L0 : (Int × ByteArray × (List (ByteArray × Int × Bool)) × (List (Int × Bool)) × (List (ByteArray × Bool × (List (Int × Bool))))) → Option (Bool)) : (Int × ByteArray × (List (ByteArray × Int × Bool)) × (List (Int × Bool)) × (List (ByteArray × Bool × (List (Int × Bool))))) → Option (Bool)
  | (x0, x1, x2, x3, x4) =>
  bif decide (x0 < (List.length x4 : Int)) then
   bif decide (0 ≤ x0) && decide (x0 < (List.length x4 : Int)) then
    Option.bind (c109 (x1, x2, x3, x4, (List.getD x4 (Int.toNat x0) (ByteArray.empty, false, ([] : List (Int × Bool)))).2.2)) fun r1 =>
     bif !(r1) then
      some false
     else
      L0 (IntKind.wrap IntKind.i64 (x0 + (1 : Int)), x1, x2, x3, x4)
   else
    none
  else
   Option.bind (c109 (x1, x2, x3, x4, x3)) fun r2 =>
    some r2
noncomputable def spec_l9AllParts.ll0 : (Int × ByteArray × (List (ByteArray × Int × Bool)) × (List (Int × Bool)) × (List (ByteArray × Bool × (List (Int × Bool))))) → LS
  | (x0, x1, x2, x3, x4) => ⟨[.addr 65 0 [] 0, .cv ⟨.int .i64, x0⟩], [⟨false, [⟨0, 0, .mk 0 ⟨.str, x1⟩⟩, ⟨0, 0, .mk 0 ⟨.row K1, x2⟩⟩, ⟨0, 0, .mk 0 ⟨.row K2, x3⟩⟩, ⟨0, 0, .mk 0 ⟨.row K3, x4⟩⟩]⟩]⟩
noncomputable def spec_l9AllParts.m (B0 : (Int × ByteArray × (List (ByteArray × Int × Bool)) × (List (Int × Bool)) × (List (ByteArray × Bool × (List (Int × Bool))))) → Option (Bool)) : (ByteArray × (List (ByteArray × Int × Bool)) × (List (Int × Bool)) × (List (ByteArray × Bool × (List (Int × Bool))))) → Option (Bool)
  | (a0_0, a0_1, a0_2, a0_3) =>
  B0 ((0 : Int), a0_0, a0_1, a0_2, a0_3)
noncomputable def spec_l9AllParts.sig : Sig := ⟨[.val true [⟨.str, 0, 0, false⟩, ⟨.row K1, 0, 0, false⟩, ⟨.row K2, 0, 0, false⟩, ⟨.row K3, 0, 0, false⟩]], [(.one, [(.bool, 0)])]⟩
noncomputable def spec_l9AllParts.hint : Nat → Hint
  | 0 => ⟨[(1, .keep), (3, .keep)], [(65, [0, 0, 0, 0])]⟩
  | _ => ⟨[], []⟩
noncomputable def spec_l9AllParts.join : Nat → Option Hint
  | _ => none
noncomputable def spec_l9AllParts.body : Code := (Tryd.f63).body.getD .skip
noncomputable def spec_l9AllParts.rv : List ResultVar := (Tryd.f63).results.toList
noncomputable def spec_CheckDef.s1 (L1 : (Int × ByteArray × (List (ByteArray × Int × Bool)) × (List (Int × Bool)) × (List (ByteArray × Bool × (List (Int × Bool))))) → Option (Int)) : (Int × ByteArray × (List (ByteArray × Int × Bool)) × (List (Int × Bool)) × (List (ByteArray × Bool × (List (Int × Bool))))) → Option (Int)
  | (x0, x1, x2, x3, x4) =>
  bif decide (x0 < (List.length x3 : Int)) then
   bif decide (0 ≤ x0) && decide (x0 < (List.length x3 : Int)) then
    bif decide (0 ≤ ((List.getD x3 (Int.toNat x0) ((0 : Int), false)).1)) && decide (((List.getD x3 (Int.toNat x0) ((0 : Int), false)).1) < (List.length x2 : Int)) then
     bif (List.getD x2 (Int.toNat ((List.getD x3 (Int.toNat x0) ((0 : Int), false)).1)) (ByteArray.empty, (0 : Int), false)).2.2 then
      some (4 : Int)
     else
      L1 (IntKind.wrap IntKind.i64 (x0 + (1 : Int)), x1, x2, x3, x4)
    else
     none
   else
    none
  else
   some (0 : Int)
noncomputable def spec_CheckDef.ll1 : (Int × ByteArray × (List (ByteArray × Int × Bool)) × (List (Int × Bool)) × (List (ByteArray × Bool × (List (Int × Bool))))) → LS
  | (x0, x1, x2, x3, x4) => ⟨[.addr 65 0 [] 0, .cv ⟨.int .i64, x0⟩], [⟨false, [⟨0, 0, .mk 0 ⟨.str, x1⟩⟩, ⟨0, 0, .mk 0 ⟨.row K1, x2⟩⟩, ⟨0, 0, .mk 0 ⟨.row K2, x3⟩⟩, ⟨0, 0, .mk 0 ⟨.row K3, x4⟩⟩]⟩]⟩
noncomputable def spec_CheckDef.m (c60 : ByteArray × (List (ByteArray × Int × Bool)) × (List (Int × Bool)) × (List (ByteArray × Bool × (List (Int × Bool)))) → Option (Bool)) (c61 : ByteArray × (List (ByteArray × Int × Bool)) × (List (Int × Bool)) × (List (ByteArray × Bool × (List (Int × Bool)))) → Option (Bool)) (c62 : ByteArray × (List (ByteArray × Int × Bool)) × (List (Int × Bool)) × (List (ByteArray × Bool × (List (Int × Bool)))) → Option (Bool)) (c63 : ByteArray × (List (ByteArray × Int × Bool)) × (List (Int × Bool)) × (List (ByteArray × Bool × (List (Int × Bool)))) → Option (Bool)) (B1 : (Int × ByteArray × (List (ByteArray × Int × Bool)) × (List (Int × Bool)) × (List (ByteArray × Bool × (List (Int × Bool))))) → Option (Int)) : (ByteArray × (List (ByteArray × Int × Bool)) × (List (Int × Bool)) × (List (ByteArray × Bool × (List (Int × Bool))))) → Option (Int)
  | (a0_0, a0_1, a0_2, a0_3) =>
  Option.bind (c60 (a0_0, a0_1, a0_2, a0_3)) fun r1 =>
   bif !(r1) then
    some (1 : Int)
   else
    Option.bind (c61 (a0_0, a0_1, a0_2, a0_3)) fun r2 =>
     bif !(r2) then
      some (2 : Int)
     else
      Option.bind (c62 (a0_0, a0_1, a0_2, a0_3)) fun r3 =>
       bif !(r3) then
        some (3 : Int)
       else
        bif decide ((List.length a0_3 : Int) > (2 : Int)) then
         some (6 : Int)
        else
         Option.bind (c63 (a0_0, a0_1, a0_2, a0_3)) fun r4 =>
          bif !(r4) then
           some (5 : Int)
          else
           B1 ((0 : Int), a0_0, a0_1, a0_2, a0_3)
noncomputable def spec_CheckDef.sig : Sig := ⟨[.val true [⟨.str, 0, 0, false⟩, ⟨.row K1, 0, 0, false⟩, ⟨.row K2, 0, 0, false⟩, ⟨.row K3, 0, 0, false⟩]], [(.one, [(.int .i64, 0)])]⟩
noncomputable def spec_CheckDef.hint : Nat → Hint
  | 1 => ⟨[(1, .keep), (3, .keep)], [(65, [0, 0, 0, 0])]⟩
  | _ => ⟨[], []⟩
noncomputable def spec_CheckDef.join : Nat → Option Hint
  | _ => none
noncomputable def spec_CheckDef.body : Code := (Tryd.f23).body.getD .skip
noncomputable def spec_CheckDef.rv : List ResultVar := (Tryd.f23).results.toList
noncomputable def laws_toCol.m  : (ByteArray × Int × Bool) → Option (ByteArray × Int × Bool)
  | (a0_0, a0_1, a0_2) =>
  some (a0_0, a0_1, a0_2)
noncomputable def laws_toCol.sig : Sig := ⟨[.val true [⟨.str, 0, 0, false⟩, ⟨.int .i64, 0, 0, false⟩, ⟨.bool, 0, 0, false⟩]], [(.agg, [(.str, 0), (.int .i64, 0), (.bool, 0)])]⟩
noncomputable def laws_toCol.hint : Nat → Hint
  | _ => ⟨[], []⟩
noncomputable def laws_toCol.join : Nat → Option Hint
  | _ => none
noncomputable def laws_toCol.body : Code := (Tryd.f114).body.getD .skip
noncomputable def laws_toCol.rv : List ResultVar := (Tryd.f114).results.toList
noncomputable def laws_toColS.s0 (c114 : ByteArray × Int × Bool → Option (ByteArray × Int × Bool)) (L0 : ((List (ByteArray × Int × Bool)) × Int × (List (ByteArray × Int × Bool))) → Option (List (ByteArray × Int × Bool))) : ((List (ByteArray × Int × Bool)) × Int × (List (ByteArray × Int × Bool))) → Option (List (ByteArray × Int × Bool))
  | (x0, x1, x2) =>
  bif decide (x1 < (List.length x0 : Int)) then
   bif decide (0 ≤ x1) && decide (x1 < (List.length x0 : Int)) then
    Option.bind (c114 ((List.getD x0 (Int.toNat x1) (ByteArray.empty, (0 : Int), false)).1, (List.getD x0 (Int.toNat x1) (ByteArray.empty, (0 : Int), false)).2.1, (List.getD x0 (Int.toNat x1) (ByteArray.empty, (0 : Int), false)).2.2)) fun r1 =>
     bif decide (0 ≤ x1) && decide (x1 < (List.length x2 : Int)) then
      L0 (x0, IntKind.wrap IntKind.i64 (x1 + (1 : Int)), List.set (List.set (List.set x2 (Int.toNat x1) (r1.1, (List.getD x2 (Int.toNat x1) (ByteArray.empty, (0 : Int), false)).2.1, (List.getD x2 (Int.toNat x1) (ByteArray.empty, (0 : Int), false)).2.2)) (Int.toNat x1) ((List.getD (List.set x2 (Int.toNat x1) (r1.1, (List.getD x2 (Int.toNat x1) (ByteArray.empty, (0 : Int), false)).2.1, (List.getD x2 (Int.toNat x1) (ByteArray.empty, (0 : Int), false)).2.2)) (Int.toNat x1) (ByteArray.empty, (0 : Int), false)).1, r1.2.1, (List.getD (List.set x2 (Int.toNat x1) (r1.1, (List.getD x2 (Int.toNat x1) (ByteArray.empty, (0 : Int), false)).2.1, (List.getD x2 (Int.toNat x1) (ByteArray.empty, (0 : Int), false)).2.2)) (Int.toNat x1) (ByteArray.empty, (0 : Int), false)).2.2)) (Int.toNat x1) ((List.getD (List.set (List.set x2 (Int.toNat x1) (r1.1, (List.getD x2 (Int.toNat x1) (ByteArray.empty, (0 : Int), false)).2.1, (List.getD x2 (Int.toNat x1) (ByteArray.empty, (0 : Int), false)).2.2)) (Int.toNat x1) ((List.getD (List.set x2 (Int.toNat x1) (r1.1, (List.getD x2 (Int.toNat x1) (ByteArray.empty, (0 : Int), false)).2.1, (List.getD x2 (Int.toNat x1) (ByteArray.empty, (0 : Int), false)).2.2)) (Int.toNat x1) (ByteArray.empty, (0 : Int), false)).1, r1.2.1, (List.getD (List.set x2 (Int.toNat x1) (r1.1, (List.getD x2 (Int.toNat x1) (ByteArray.empty, (0 : Int), false)).2.1, (List.getD x2 (Int.toNat x1) (ByteArray.empty, (0 : Int), false)).2.2)) (Int.toNat x1) (ByteArray.empty, (0 : Int), false)).2.2)) (Int.toNat x1) (ByteArray.empty, (0 : Int), false)).1, (List.getD (List.set (List.set x2 (Int.toNat x1) (r1.1, (List.getD x2 (Int.toNat x1) (ByteArray.empty, (0 : Int), false)).2.1, (List.getD x2 (Int.toNat x1) (ByteArray.empty, (0 : Int), false)).2.2)) (Int.toNat x1) ((List.getD (List.set x2 (Int.toNat x1) (r1.1, (List.getD x2 (Int.toNat x1) (ByteArray.empty, (0 : Int), false)).2.1, (List.getD x2 (Int.toNat x1) (ByteArray.empty, (0 : Int), false)).2.2)) (Int.toNat x1) (ByteArray.empty, (0 : Int), false)).1, r1.2.1, (List.getD (List.set x2 (Int.toNat x1) (r1.1, (List.getD x2 (Int.toNat x1) (ByteArray.empty, (0 : Int), false)).2.1, (List.getD x2 (Int.toNat x1) (ByteArray.empty, (0 : Int), false)).2.2)) (Int.toNat x1) (ByteArray.empty, (0 : Int), false)).2.2)) (Int.toNat x1) (ByteArray.empty, (0 : Int), false)).2.1, r1.2.2))
     else
      none
   else
    none
  else
   some x2
noncomputable def laws_toColS.ll0 : ((List (ByteArray × Int × Bool)) × Int × (List (ByteArray × Int × Bool))) → LS
  | (x0, x1, x2) => ⟨[.cv ⟨.row K1, x0⟩, .ref 12 0 [] none 0, .cv ⟨.int .i64, x1⟩], [⟨true, [⟨0, 0, .mk 9 ⟨.row K1, x2⟩⟩]⟩]⟩
noncomputable def laws_toColS.m (B0 : ((List (ByteArray × Int × Bool)) × Int × (List (ByteArray × Int × Bool))) → Option (List (ByteArray × Int × Bool))) : (List (ByteArray × Int × Bool)) → Option (List (ByteArray × Int × Bool))
  | a0_0 =>
  bif decide (0 ≤ (List.length a0_0 : Int)) && decide ((List.length a0_0 : Int) ≤ (List.length a0_0 : Int)) && decide ((List.length a0_0 : Int) * 32 ≤ 140737488355328) then
   B0 (a0_0, (0 : Int), List.replicate (Int.toNat (List.length a0_0 : Int)) (ByteArray.empty, (0 : Int), false))
  else
   none
noncomputable def laws_toColS.sig : Sig := ⟨[.val false [⟨.row K1, 0, 0, false⟩]], [(.one, [(.row K1, 1)])]⟩
noncomputable def laws_toColS.hint : Nat → Hint
  | 0 => ⟨[(0, .keep), (3, .own 9 K1), (4, .keep)], []⟩
  | _ => ⟨[], []⟩
noncomputable def laws_toColS.join : Nat → Option Hint
  | _ => none
noncomputable def laws_toColS.body : Code := (Tryd.f73).body.getD .skip
noncomputable def laws_toColS.rv : List ResultVar := (Tryd.f73).results.toList
noncomputable def laws_toBy.m  : (Int × Bool) → Option (Int × Bool)
  | (a0_0, a0_1) =>
  some (a0_0, a0_1)
noncomputable def laws_toBy.sig : Sig := ⟨[.val true [⟨.int .i64, 0, 0, false⟩, ⟨.bool, 0, 0, false⟩]], [(.agg, [(.int .i64, 0), (.bool, 0)])]⟩
noncomputable def laws_toBy.hint : Nat → Hint
  | _ => ⟨[], []⟩
noncomputable def laws_toBy.join : Nat → Option Hint
  | _ => none
noncomputable def laws_toBy.body : Code := (Tryd.f115).body.getD .skip
noncomputable def laws_toBy.rv : List ResultVar := (Tryd.f115).results.toList
noncomputable def laws_toByS.s0 (c115 : Int × Bool → Option (Int × Bool)) (L0 : ((List (Int × Bool)) × Int × (List (Int × Bool))) → Option (List (Int × Bool))) : ((List (Int × Bool)) × Int × (List (Int × Bool))) → Option (List (Int × Bool))
  | (x0, x1, x2) =>
  bif decide (x1 < (List.length x0 : Int)) then
   bif decide (0 ≤ x1) && decide (x1 < (List.length x0 : Int)) then
    Option.bind (c115 ((List.getD x0 (Int.toNat x1) ((0 : Int), false)).1, (List.getD x0 (Int.toNat x1) ((0 : Int), false)).2)) fun r1 =>
     bif decide (0 ≤ x1) && decide (x1 < (List.length x2 : Int)) then
      L0 (x0, IntKind.wrap IntKind.i64 (x1 + (1 : Int)), List.set (List.set x2 (Int.toNat x1) (r1.1, (List.getD x2 (Int.toNat x1) ((0 : Int), false)).2)) (Int.toNat x1) ((List.getD (List.set x2 (Int.toNat x1) (r1.1, (List.getD x2 (Int.toNat x1) ((0 : Int), false)).2)) (Int.toNat x1) ((0 : Int), false)).1, r1.2))
     else
      none
   else
    none
  else
   some x2
noncomputable def laws_toByS.ll0 : ((List (Int × Bool)) × Int × (List (Int × Bool))) → LS
  | (x0, x1, x2) => ⟨[.cv ⟨.row K2, x0⟩, .ref 12 0 [] none 0, .cv ⟨.int .i64, x1⟩], [⟨true, [⟨0, 0, .mk 9 ⟨.row K2, x2⟩⟩]⟩]⟩
noncomputable def laws_toByS.m (B0 : ((List (Int × Bool)) × Int × (List (Int × Bool))) → Option (List (Int × Bool))) : (List (Int × Bool)) → Option (List (Int × Bool))
  | a0_0 =>
  bif decide (0 ≤ (List.length a0_0 : Int)) && decide ((List.length a0_0 : Int) ≤ (List.length a0_0 : Int)) && decide ((List.length a0_0 : Int) * 16 ≤ 140737488355328) then
   B0 (a0_0, (0 : Int), List.replicate (Int.toNat (List.length a0_0 : Int)) ((0 : Int), false))
  else
   none
noncomputable def laws_toByS.sig : Sig := ⟨[.val false [⟨.row K2, 0, 0, false⟩]], [(.one, [(.row K2, 1)])]⟩
noncomputable def laws_toByS.hint : Nat → Hint
  | 0 => ⟨[(0, .keep), (3, .own 9 K2), (4, .keep)], []⟩
  | _ => ⟨[], []⟩
noncomputable def laws_toByS.join : Nat → Option Hint
  | _ => none
noncomputable def laws_toByS.body : Code := (Tryd.f74).body.getD .skip
noncomputable def laws_toByS.rv : List ResultVar := (Tryd.f74).results.toList
noncomputable def laws_toIndex.m (c74 : (List (Int × Bool)) → Option (List (Int × Bool))) : (ByteArray × Bool × (List (Int × Bool))) → Option (ByteArray × Bool × (List (Int × Bool)))
  | (a0_0, a0_1, a0_2) =>
  Option.bind (c74 a0_2) fun r1 =>
   some (a0_0, a0_1, r1)
noncomputable def laws_toIndex.sig : Sig := ⟨[.val true [⟨.str, 0, 0, false⟩, ⟨.bool, 0, 0, false⟩, ⟨.row K2, 0, 0, false⟩]], [(.agg, [(.str, 0), (.bool, 0), (.row K2, 1)])]⟩
noncomputable def laws_toIndex.hint : Nat → Hint
  | _ => ⟨[], []⟩
noncomputable def laws_toIndex.join : Nat → Option Hint
  | _ => none
noncomputable def laws_toIndex.body : Code := (Tryd.f116).body.getD .skip
noncomputable def laws_toIndex.rv : List ResultVar := (Tryd.f116).results.toList
noncomputable def laws_toIndexS.s0 (c116 : ByteArray × Bool × (List (Int × Bool)) → Option (ByteArray × Bool × (List (Int × Bool)))) (L0 : ((List (ByteArray × Bool × (List (Int × Bool)))) × Int × (List (ByteArray × Bool × (List (Int × Bool))))) → Option (List (ByteArray × Bool × (List (Int × Bool))))) : ((List (ByteArray × Bool × (List (Int × Bool)))) × Int × (List (ByteArray × Bool × (List (Int × Bool))))) → Option (List (ByteArray × Bool × (List (Int × Bool))))
  | (x0, x1, x2) =>
  bif decide (x1 < (List.length x0 : Int)) then
   bif decide (0 ≤ x1) && decide (x1 < (List.length x0 : Int)) then
    Option.bind (c116 ((List.getD x0 (Int.toNat x1) (ByteArray.empty, false, ([] : List (Int × Bool)))).1, (List.getD x0 (Int.toNat x1) (ByteArray.empty, false, ([] : List (Int × Bool)))).2.1, (List.getD x0 (Int.toNat x1) (ByteArray.empty, false, ([] : List (Int × Bool)))).2.2)) fun r1 =>
     bif decide (0 ≤ x1) && decide (x1 < (List.length x2 : Int)) then
      L0 (x0, IntKind.wrap IntKind.i64 (x1 + (1 : Int)), List.set (List.set (List.set x2 (Int.toNat x1) (r1.1, (List.getD x2 (Int.toNat x1) (ByteArray.empty, false, ([] : List (Int × Bool)))).2.1, (List.getD x2 (Int.toNat x1) (ByteArray.empty, false, ([] : List (Int × Bool)))).2.2)) (Int.toNat x1) ((List.getD (List.set x2 (Int.toNat x1) (r1.1, (List.getD x2 (Int.toNat x1) (ByteArray.empty, false, ([] : List (Int × Bool)))).2.1, (List.getD x2 (Int.toNat x1) (ByteArray.empty, false, ([] : List (Int × Bool)))).2.2)) (Int.toNat x1) (ByteArray.empty, false, ([] : List (Int × Bool)))).1, r1.2.1, (List.getD (List.set x2 (Int.toNat x1) (r1.1, (List.getD x2 (Int.toNat x1) (ByteArray.empty, false, ([] : List (Int × Bool)))).2.1, (List.getD x2 (Int.toNat x1) (ByteArray.empty, false, ([] : List (Int × Bool)))).2.2)) (Int.toNat x1) (ByteArray.empty, false, ([] : List (Int × Bool)))).2.2)) (Int.toNat x1) ((List.getD (List.set (List.set x2 (Int.toNat x1) (r1.1, (List.getD x2 (Int.toNat x1) (ByteArray.empty, false, ([] : List (Int × Bool)))).2.1, (List.getD x2 (Int.toNat x1) (ByteArray.empty, false, ([] : List (Int × Bool)))).2.2)) (Int.toNat x1) ((List.getD (List.set x2 (Int.toNat x1) (r1.1, (List.getD x2 (Int.toNat x1) (ByteArray.empty, false, ([] : List (Int × Bool)))).2.1, (List.getD x2 (Int.toNat x1) (ByteArray.empty, false, ([] : List (Int × Bool)))).2.2)) (Int.toNat x1) (ByteArray.empty, false, ([] : List (Int × Bool)))).1, r1.2.1, (List.getD (List.set x2 (Int.toNat x1) (r1.1, (List.getD x2 (Int.toNat x1) (ByteArray.empty, false, ([] : List (Int × Bool)))).2.1, (List.getD x2 (Int.toNat x1) (ByteArray.empty, false, ([] : List (Int × Bool)))).2.2)) (Int.toNat x1) (ByteArray.empty, false, ([] : List (Int × Bool)))).2.2)) (Int.toNat x1) (ByteArray.empty, false, ([] : List (Int × Bool)))).1, (List.getD (List.set (List.set x2 (Int.toNat x1) (r1.1, (List.getD x2 (Int.toNat x1) (ByteArray.empty, false, ([] : List (Int × Bool)))).2.1, (List.getD x2 (Int.toNat x1) (ByteArray.empty, false, ([] : List (Int × Bool)))).2.2)) (Int.toNat x1) ((List.getD (List.set x2 (Int.toNat x1) (r1.1, (List.getD x2 (Int.toNat x1) (ByteArray.empty, false, ([] : List (Int × Bool)))).2.1, (List.getD x2 (Int.toNat x1) (ByteArray.empty, false, ([] : List (Int × Bool)))).2.2)) (Int.toNat x1) (ByteArray.empty, false, ([] : List (Int × Bool)))).1, r1.2.1, (List.getD (List.set x2 (Int.toNat x1) (r1.1, (List.getD x2 (Int.toNat x1) (ByteArray.empty, false, ([] : List (Int × Bool)))).2.1, (List.getD x2 (Int.toNat x1) (ByteArray.empty, false, ([] : List (Int × Bool)))).2.2)) (Int.toNat x1) (ByteArray.empty, false, ([] : List (Int × Bool)))).2.2)) (Int.toNat x1) (ByteArray.empty, false, ([] : List (Int × Bool)))).2.1, r1.2.2))
     else
      none
   else
    none
  else
   some x2
noncomputable def laws_toIndexS.ll0 : ((List (ByteArray × Bool × (List (Int × Bool)))) × Int × (List (ByteArray × Bool × (List (Int × Bool))))) → LS
  | (x0, x1, x2) => ⟨[.cv ⟨.row K3, x0⟩, .ref 12 0 [] none 0, .cv ⟨.int .i64, x1⟩], [⟨true, [⟨0, 0, .mk 9 ⟨.row K3, x2⟩⟩]⟩]⟩
noncomputable def laws_toIndexS.m (B0 : ((List (ByteArray × Bool × (List (Int × Bool)))) × Int × (List (ByteArray × Bool × (List (Int × Bool))))) → Option (List (ByteArray × Bool × (List (Int × Bool))))) : (List (ByteArray × Bool × (List (Int × Bool)))) → Option (List (ByteArray × Bool × (List (Int × Bool))))
  | a0_0 =>
  bif decide (0 ≤ (List.length a0_0 : Int)) && decide ((List.length a0_0 : Int) ≤ (List.length a0_0 : Int)) && decide ((List.length a0_0 : Int) * 48 ≤ 140737488355328) then
   B0 (a0_0, (0 : Int), List.replicate (Int.toNat (List.length a0_0 : Int)) (ByteArray.empty, false, ([] : List (Int × Bool))))
  else
   none
noncomputable def laws_toIndexS.sig : Sig := ⟨[.val false [⟨.row K3, 0, 0, false⟩]], [(.one, [(.row K3, 2)])]⟩
noncomputable def laws_toIndexS.hint : Nat → Hint
  | 0 => ⟨[(0, .keep), (3, .own 9 K3), (4, .keep)], []⟩
  | _ => ⟨[], []⟩
noncomputable def laws_toIndexS.join : Nat → Option Hint
  | _ => none
noncomputable def laws_toIndexS.body : Code := (Tryd.f75).body.getD .skip
noncomputable def laws_toIndexS.rv : List ResultVar := (Tryd.f75).results.toList
noncomputable def laws_toDef.m (c73 : (List (ByteArray × Int × Bool)) → Option (List (ByteArray × Int × Bool))) (c74 : (List (Int × Bool)) → Option (List (Int × Bool))) (c75 : (List (ByteArray × Bool × (List (Int × Bool)))) → Option (List (ByteArray × Bool × (List (Int × Bool))))) : (ByteArray × (List (ByteArray × Int × Bool)) × (List (Int × Bool)) × (List (ByteArray × Bool × (List (Int × Bool))))) → Option (ByteArray × (List (ByteArray × Int × Bool)) × (List (Int × Bool)) × (List (ByteArray × Bool × (List (Int × Bool)))))
  | (a0_0, a0_1, a0_2, a0_3) =>
  Option.bind (c73 a0_1) fun r1 =>
   Option.bind (c74 a0_2) fun r2 =>
    Option.bind (c75 a0_3) fun r3 =>
     some (a0_0, r1, r2, r3)
noncomputable def laws_toDef.sig : Sig := ⟨[.val true [⟨.str, 0, 0, false⟩, ⟨.row K1, 0, 0, false⟩, ⟨.row K2, 0, 0, false⟩, ⟨.row K3, 0, 0, false⟩]], [(.agg, [(.str, 0), (.row K1, 1), (.row K2, 1), (.row K3, 2)])]⟩
noncomputable def laws_toDef.hint : Nat → Hint
  | _ => ⟨[], []⟩
noncomputable def laws_toDef.join : Nat → Option Hint
  | _ => none
noncomputable def laws_toDef.body : Code := (Tryd.f29).body.getD .skip
noncomputable def laws_toDef.rv : List ResultVar := (Tryd.f29).results.toList
noncomputable def impl_in.m  : (Int × Int × Int) → Option (Bool)
  | (a0_0, a1_0, a2_0) =>
  bif decide (a0_0 ≥ a1_0) then
   some (decide (a0_0 ≤ a2_0))
  else
   some false
noncomputable def impl_in.sig : Sig := ⟨[.val false [⟨.int .i64, 0, 0, false⟩], .val false [⟨.int .i64, 0, 0, false⟩], .val false [⟨.int .i64, 0, 0, false⟩]], [(.one, [(.bool, 0)])]⟩
noncomputable def impl_in.hint : Nat → Hint
  | _ => ⟨[], []⟩
noncomputable def impl_in.join : Nat → Option Hint
  | _ => none
noncomputable def impl_in.body : Code := (Tryd.f55).body.getD .skip
noncomputable def impl_in.rv : List ResultVar := (Tryd.f55).results.toList
noncomputable def impl_isLetter.m  : (Int) → Option (Bool)
  | a0_0 =>
  bif decide (a0_0 ≥ (97 : Int)) then
   some (decide (a0_0 ≤ (122 : Int)))
  else
   some false
noncomputable def impl_isLetter.sig : Sig := ⟨[.val false [⟨.int .u8, 0, 0, false⟩]], [(.one, [(.bool, 0)])]⟩
noncomputable def impl_isLetter.hint : Nat → Hint
  | _ => ⟨[], []⟩
noncomputable def impl_isLetter.join : Nat → Option Hint
  | _ => none
noncomputable def impl_isLetter.body : Code := (Tryd.f93).body.getD .skip
noncomputable def impl_isLetter.rv : List ResultVar := (Tryd.f93).results.toList
noncomputable def impl_isDigit.m  : (Int) → Option (Bool)
  | a0_0 =>
  bif decide (a0_0 ≥ (48 : Int)) then
   some (decide (a0_0 ≤ (57 : Int)))
  else
   some false
noncomputable def impl_isDigit.sig : Sig := ⟨[.val false [⟨.int .u8, 0, 0, false⟩]], [(.one, [(.bool, 0)])]⟩
noncomputable def impl_isDigit.hint : Nat → Hint
  | _ => ⟨[], []⟩
noncomputable def impl_isDigit.join : Nat → Option Hint
  | _ => none
noncomputable def impl_isDigit.body : Code := (Tryd.f94).body.getD .skip
noncomputable def impl_isDigit.rv : List ResultVar := (Tryd.f94).results.toList
noncomputable def impl_nameOk.s0 (c55 : Int × Int × Int → Option (Bool)) (c93 : (Int) → Option (Bool)) (c94 : (Int) → Option (Bool)) (L0 : (ByteArray × Int) → Option (Bool)) : (ByteArray × Int) → Option (Bool)
  | (x0, x1) =>
  bif decide (x1 < (ByteArray.size x0 : Int)) then
   bif decide (0 ≤ x1) && decide (x1 < (ByteArray.size x0 : Int)) then
    Option.bind (c93 ((ByteArray.get! x0 (Int.toNat x1)).toNat : Int)) fun r1 =>
     bif !(r1) then
      bif x1 == (0 : Int) then
       some false
      else
       bif decide (0 ≤ x1) && decide (x1 < (ByteArray.size x0 : Int)) then
        Option.bind (c94 ((ByteArray.get! x0 (Int.toNat x1)).toNat : Int)) fun r2 =>
         bif !(r2) then
          some false
         else
          L0 (x0, IntKind.wrap IntKind.i64 (x1 + (1 : Int)))
       else
        none
     else
      L0 (x0, IntKind.wrap IntKind.i64 (x1 + (1 : Int)))
   else
    none
  else
   Option.bind (c55 ((ByteArray.size x0 : Int), (1 : Int), (8 : Int))) fun r3 =>
    some r3
noncomputable def impl_nameOk.ll0 : (ByteArray × Int) → LS
  | (x0, x1) => ⟨[.cv ⟨.str, x0⟩, .cv ⟨.int .i64, x1⟩], []⟩
noncomputable def impl_nameOk.m (B0 : (ByteArray × Int) → Option (Bool)) : (ByteArray) → Option (Bool)
  | a0_0 =>
  B0 (a0_0, (0 : Int))
noncomputable def impl_nameOk.sig : Sig := ⟨[.val false [⟨.str, 0, 0, false⟩]], [(.one, [(.bool, 0)])]⟩
noncomputable def impl_nameOk.hint : Nat → Hint
  | 0 => ⟨[(0, .keep), (3, .keep)], []⟩
  | _ => ⟨[], []⟩
noncomputable def impl_nameOk.join : Nat → Option Hint
  | _ => none
noncomputable def impl_nameOk.body : Code := (Tryd.f135).body.getD .skip
noncomputable def impl_nameOk.rv : List ResultVar := (Tryd.f135).results.toList
noncomputable def impl_isFree.s0 (c135 : (ByteArray) → Option (Bool)) (L0 : (ByteArray × Int × Int × (List ByteArray)) → Option (Bool)) : (ByteArray × Int × Int × (List ByteArray)) → Option (Bool)
  | (x0, x1, x2, x3) =>
  bif decide (x2 < x1) then
   bif decide (0 ≤ x2) && decide (x2 < (List.length x3 : Int)) then
    bif ByteArray.toList (List.getD x3 (Int.toNat x2) ByteArray.empty) == ByteArray.toList x0 then
     some false
    else
     L0 (x0, x1, IntKind.wrap IntKind.i64 (x2 + (1 : Int)), x3)
   else
    none
  else
   Option.bind (c135 x0) fun r2 =>
    some r2
noncomputable def impl_isFree.ll0 : (ByteArray × Int × Int × (List ByteArray)) → LS
  | (x0, x1, x2, x3) => ⟨[.cv ⟨.str, x0⟩, .ref 20 0 [] none 0, .cv ⟨.int .i64, x1⟩, .cv ⟨.int .i64, x2⟩], [⟨true, [⟨0, 0, .mk 1 ⟨.row K0, x3⟩⟩]⟩]⟩
noncomputable def impl_isFree.m (c64 : ByteArray × ByteArray → Option (List ByteArray)) (B0 : (ByteArray × Int × Int × (List ByteArray)) → Option (Bool)) : (ByteArray) → Option (Bool)
  | a0_0 =>
  Option.bind (c64 (({ data := #[116, 97, 98, 108, 101, 32, 112, 114, 105, 109, 97, 114, 121, 32, 117, 110, 105, 113, 117, 101, 32, 105, 110, 100, 101, 120, 32, 110, 117, 108, 108, 32, 100, 101, 115, 99, 32, 105, 110, 116, 32, 110, 117, 109, 32, 116, 101, 120, 116, 32, 98, 111, 111, 108] } : ByteArray), ({ data := #[32] } : ByteArray))) fun r1 =>
   B0 (a0_0, (List.length r1 : Int), (0 : Int), r1)
noncomputable def impl_isFree.sig : Sig := ⟨[.val false [⟨.str, 0, 0, false⟩]], [(.one, [(.bool, 0)])]⟩
noncomputable def impl_isFree.hint : Nat → Hint
  | 0 => ⟨[(0, .keep), (5, .own 1 K0), (6, .keep), (7, .keep)], []⟩
  | _ => ⟨[], []⟩
noncomputable def impl_isFree.join : Nat → Option Hint
  | _ => none
noncomputable def impl_isFree.body : Code := (Tryd.f106).body.getD .skip
noncomputable def impl_isFree.rv : List ResultVar := (Tryd.f106).results.toList
noncomputable def impl_namesOk.s0 (c106 : (ByteArray) → Option (Bool)) (B2 : ((List (ByteArray × Bool × (List (Int × Bool)))) × Int × Int × ByteArray × (List (ByteArray × Int × Bool)) × (List (Int × Bool)) × (List (ByteArray × Bool × (List (Int × Bool))))) → Option (Bool)) (L0 : ((List (ByteArray × Int × Bool)) × Int × Int × ByteArray × (List (ByteArray × Int × Bool)) × (List (Int × Bool)) × (List (ByteArray × Bool × (List (Int × Bool))))) → Option (Bool)) : ((List (ByteArray × Int × Bool)) × Int × Int × ByteArray × (List (ByteArray × Int × Bool)) × (List (Int × Bool)) × (List (ByteArray × Bool × (List (Int × Bool))))) → Option (Bool)
  | (x0, x1, x2, x3, x4, x5, x6) =>
  bif decide (x2 < x1) then
   bif decide (0 ≤ x2) && decide (x2 < (List.length x0 : Int)) then
    Option.bind (c106 ((List.getD x0 (Int.toNat x2) (ByteArray.empty, (0 : Int), false)).1)) fun r1 =>
     bif !(r1) then
      some false
     else
      L0 (x0, x1, IntKind.wrap IntKind.i64 (x2 + (1 : Int)), x3, x4, x5, x6)
   else
    none
  else
   B2 (x6, (List.length x6 : Int), (0 : Int), x3, x4, x5, x6)
noncomputable def impl_namesOk.ll0 : ((List (ByteArray × Int × Bool)) × Int × Int × ByteArray × (List (ByteArray × Int × Bool)) × (List (Int × Bool)) × (List (ByteArray × Bool × (List (Int × Bool))))) → LS
  | (x0, x1, x2, x3, x4, x5, x6) => ⟨[.addr 65 0 [] 0, .cv ⟨.row K1, x0⟩, .cv ⟨.int .i64, x1⟩, .cv ⟨.int .i64, x2⟩], [⟨false, [⟨0, 0, .mk 0 ⟨.str, x3⟩⟩, ⟨0, 0, .mk 0 ⟨.row K1, x4⟩⟩, ⟨0, 0, .mk 0 ⟨.row K2, x5⟩⟩, ⟨0, 0, .mk 0 ⟨.row K3, x6⟩⟩]⟩]⟩
noncomputable def impl_namesOk.s2 (c106 : (ByteArray) → Option (Bool)) (L2 : ((List (ByteArray × Bool × (List (Int × Bool)))) × Int × Int × ByteArray × (List (ByteArray × Int × Bool)) × (List (Int × Bool)) × (List (ByteArray × Bool × (List (Int × Bool))))) → Option (Bool)) : ((List (ByteArray × Bool × (List (Int × Bool)))) × Int × Int × ByteArray × (List (ByteArray × Int × Bool)) × (List (Int × Bool)) × (List (ByteArray × Bool × (List (Int × Bool))))) → Option (Bool)
  | (x0, x1, x2, x3, x4, x5, x6) =>
  bif decide (x2 < x1) then
   bif decide (0 ≤ x2) && decide (x2 < (List.length x0 : Int)) then
    Option.bind (c106 ((List.getD x0 (Int.toNat x2) (ByteArray.empty, false, ([] : List (Int × Bool)))).1)) fun r2 =>
     bif !(r2) then
      some false
     else
      L2 (x0, x1, IntKind.wrap IntKind.i64 (x2 + (1 : Int)), x3, x4, x5, x6)
   else
    none
  else
   Option.bind (c106 x3) fun r3 =>
    some r3
noncomputable def impl_namesOk.ll2 : ((List (ByteArray × Bool × (List (Int × Bool)))) × Int × Int × ByteArray × (List (ByteArray × Int × Bool)) × (List (Int × Bool)) × (List (ByteArray × Bool × (List (Int × Bool))))) → LS
  | (x0, x1, x2, x3, x4, x5, x6) => ⟨[.addr 65 0 [] 0, .cv ⟨.row K3, x0⟩, .cv ⟨.int .i64, x1⟩, .cv ⟨.int .i64, x2⟩], [⟨false, [⟨0, 0, .mk 0 ⟨.str, x3⟩⟩, ⟨0, 0, .mk 0 ⟨.row K1, x4⟩⟩, ⟨0, 0, .mk 0 ⟨.row K2, x5⟩⟩, ⟨0, 0, .mk 0 ⟨.row K3, x6⟩⟩]⟩]⟩
noncomputable def impl_namesOk.m (B0 : ((List (ByteArray × Int × Bool)) × Int × Int × ByteArray × (List (ByteArray × Int × Bool)) × (List (Int × Bool)) × (List (ByteArray × Bool × (List (Int × Bool))))) → Option (Bool)) : (ByteArray × (List (ByteArray × Int × Bool)) × (List (Int × Bool)) × (List (ByteArray × Bool × (List (Int × Bool))))) → Option (Bool)
  | (a0_0, a0_1, a0_2, a0_3) =>
  B0 (a0_1, (List.length a0_1 : Int), (0 : Int), a0_0, a0_1, a0_2, a0_3)
noncomputable def impl_namesOk.sig : Sig := ⟨[.val true [⟨.str, 0, 0, false⟩, ⟨.row K1, 0, 0, false⟩, ⟨.row K2, 0, 0, false⟩, ⟨.row K3, 0, 0, false⟩]], [(.one, [(.bool, 0)])]⟩
noncomputable def impl_namesOk.hint : Nat → Hint
  | 0 => ⟨[(1, .keep), (8, .keep), (9, .keep), (10, .keep)], [(65, [0, 0, 0, 0])]⟩
  | 2 => ⟨[(1, .keep), (20, .keep), (21, .keep), (22, .keep)], [(65, [0, 0, 0, 0])]⟩
  | _ => ⟨[], []⟩
noncomputable def impl_namesOk.join : Nat → Option Hint
  | _ => none
noncomputable def impl_namesOk.body : Code := (Tryd.f54).body.getD .skip
noncomputable def impl_namesOk.rv : List ResultVar := (Tryd.f54).results.toList
noncomputable def impl_twice.s0 (B2 : ((List (ByteArray × Int × Bool)) × Int × Int × (List (ByteArray × Int × Bool)) × Int × Int × ByteArray × (List (ByteArray × Int × Bool)) × (List (Int × Bool)) × (List (ByteArray × Bool × (List (Int × Bool)))) × ByteArray × Int × Bool) → Option (Bool)) (B4 : ((List (ByteArray × Bool × (List (Int × Bool)))) × Int × Int × ByteArray × (List (ByteArray × Int × Bool)) × (List (Int × Bool)) × (List (ByteArray × Bool × (List (Int × Bool))))) → Option (Bool)) (L0 : ((List (ByteArray × Int × Bool)) × Int × Int × ByteArray × (List (ByteArray × Int × Bool)) × (List (Int × Bool)) × (List (ByteArray × Bool × (List (Int × Bool))))) → Option (Bool)) : ((List (ByteArray × Int × Bool)) × Int × Int × ByteArray × (List (ByteArray × Int × Bool)) × (List (Int × Bool)) × (List (ByteArray × Bool × (List (Int × Bool))))) → Option (Bool)
  | (x0, x1, x2, x3, x4, x5, x6) =>
  bif decide (x2 < x1) then
   bif decide (0 ≤ x2) && decide (x2 < (List.length x0 : Int)) then
    bif decide (0 ≤ (0 : Int)) && decide ((0 : Int) ≤ x2) && decide (x2 ≤ (List.length x4 : Int)) then
     B2 (x0, x1, x2, List.drop (Int.toNat (0 : Int)) (List.take (Int.toNat x2) x4), (List.length (List.drop (Int.toNat (0 : Int)) (List.take (Int.toNat x2) x4)) : Int), (0 : Int), x3, x4, x5, x6, (List.getD x0 (Int.toNat x2) (ByteArray.empty, (0 : Int), false)).1, (List.getD x0 (Int.toNat x2) (ByteArray.empty, (0 : Int), false)).2.1, (List.getD x0 (Int.toNat x2) (ByteArray.empty, (0 : Int), false)).2.2)
    else
     none
   else
    none
  else
   B4 (x6, (List.length x6 : Int), (0 : Int), x3, x4, x5, x6)
noncomputable def impl_twice.ll0 : ((List (ByteArray × Int × Bool)) × Int × Int × ByteArray × (List (ByteArray × Int × Bool)) × (List (Int × Bool)) × (List (ByteArray × Bool × (List (Int × Bool))))) → LS
  | (x0, x1, x2, x3, x4, x5, x6) => ⟨[.addr 65 0 [] 0, .cv ⟨.row K1, x0⟩, .cv ⟨.int .i64, x1⟩, .cv ⟨.int .i64, x2⟩], [⟨false, [⟨0, 0, .mk 0 ⟨.str, x3⟩⟩, ⟨0, 0, .mk 0 ⟨.row K1, x4⟩⟩, ⟨0, 0, .mk 0 ⟨.row K2, x5⟩⟩, ⟨0, 0, .mk 0 ⟨.row K3, x6⟩⟩]⟩]⟩
noncomputable def impl_twice.s2 (L0 : ((List (ByteArray × Int × Bool)) × Int × Int × ByteArray × (List (ByteArray × Int × Bool)) × (List (Int × Bool)) × (List (ByteArray × Bool × (List (Int × Bool))))) → Option (Bool)) (L2 : ((List (ByteArray × Int × Bool)) × Int × Int × (List (ByteArray × Int × Bool)) × Int × Int × ByteArray × (List (ByteArray × Int × Bool)) × (List (Int × Bool)) × (List (ByteArray × Bool × (List (Int × Bool)))) × ByteArray × Int × Bool) → Option (Bool)) : ((List (ByteArray × Int × Bool)) × Int × Int × (List (ByteArray × Int × Bool)) × Int × Int × ByteArray × (List (ByteArray × Int × Bool)) × (List (Int × Bool)) × (List (ByteArray × Bool × (List (Int × Bool)))) × ByteArray × Int × Bool) → Option (Bool)
  | (x0, x1, x2, x3, x4, x5, x6, x7, x8, x9, x10, x11, x12) =>
  bif decide (x5 < x4) then
   bif decide (0 ≤ x5) && decide (x5 < (List.length x3 : Int)) then
    bif ByteArray.toList ((List.getD x3 (Int.toNat x5) (ByteArray.empty, (0 : Int), false)).1) == ByteArray.toList x10 then
     some true
    else
     L2 (x0, x1, x2, x3, x4, IntKind.wrap IntKind.i64 (x5 + (1 : Int)), x6, x7, x8, x9, x10, x11, x12)
   else
    none
  else
   L0 (x0, x1, IntKind.wrap IntKind.i64 (x2 + (1 : Int)), x6, x7, x8, x9)
noncomputable def impl_twice.ll2 : ((List (ByteArray × Int × Bool)) × Int × Int × (List (ByteArray × Int × Bool)) × Int × Int × ByteArray × (List (ByteArray × Int × Bool)) × (List (Int × Bool)) × (List (ByteArray × Bool × (List (Int × Bool)))) × ByteArray × Int × Bool) → LS
  | (x0, x1, x2, x3, x4, x5, x6, x7, x8, x9, x10, x11, x12) => ⟨[.addr 65 0 [] 0, .addr 257 0 [] 0, .cv ⟨.row K1, x0⟩, .cv ⟨.int .i64, x1⟩, .cv ⟨.int .i64, x2⟩, .cv ⟨.row K1, x3⟩, .cv ⟨.int .i64, x4⟩, .cv ⟨.int .i64, x5⟩], [⟨false, [⟨0, 0, .mk 0 ⟨.str, x6⟩⟩, ⟨0, 0, .mk 0 ⟨.row K1, x7⟩⟩, ⟨0, 0, .mk 0 ⟨.row K2, x8⟩⟩, ⟨0, 0, .mk 0 ⟨.row K3, x9⟩⟩]⟩, ⟨false, [⟨0, 0, .mk 0 ⟨.str, x10⟩⟩, ⟨0, 0, .mk 0 ⟨.int .i64, x11⟩⟩, ⟨0, 0, .mk 0 ⟨.bool, x12⟩⟩]⟩]⟩
noncomputable def impl_twice.s4 (B6 : ((List (ByteArray × Bool × (List (Int × Bool)))) × Int × Int × (List (ByteArray × Bool × (List (Int × Bool)))) × Int × Int × ByteArray × (List (ByteArray × Int × Bool)) × (List (Int × Bool)) × (List (ByteArray × Bool × (List (Int × Bool)))) × ByteArray × Bool × (List (Int × Bool))) → Option (Bool)) (L4 : ((List (ByteArray × Bool × (List (Int × Bool)))) × Int × Int × ByteArray × (List (ByteArray × Int × Bool)) × (List (Int × Bool)) × (List (ByteArray × Bool × (List (Int × Bool))))) → Option (Bool)) : ((List (ByteArray × Bool × (List (Int × Bool)))) × Int × Int × ByteArray × (List (ByteArray × Int × Bool)) × (List (Int × Bool)) × (List (ByteArray × Bool × (List (Int × Bool))))) → Option (Bool)
  | (x0, x1, x2, x3, x4, x5, x6) =>
  bif decide (x2 < x1) then
   bif decide (0 ≤ x2) && decide (x2 < (List.length x0 : Int)) then
    bif decide (0 ≤ (0 : Int)) && decide ((0 : Int) ≤ x2) && decide (x2 ≤ (List.length x6 : Int)) then
     B6 (x0, x1, x2, List.drop (Int.toNat (0 : Int)) (List.take (Int.toNat x2) x6), (List.length (List.drop (Int.toNat (0 : Int)) (List.take (Int.toNat x2) x6)) : Int), (0 : Int), x3, x4, x5, x6, (List.getD x0 (Int.toNat x2) (ByteArray.empty, false, ([] : List (Int × Bool)))).1, (List.getD x0 (Int.toNat x2) (ByteArray.empty, false, ([] : List (Int × Bool)))).2.1, (List.getD x0 (Int.toNat x2) (ByteArray.empty, false, ([] : List (Int × Bool)))).2.2)
    else
     none
   else
    none
  else
   some false
noncomputable def impl_twice.ll4 : ((List (ByteArray × Bool × (List (Int × Bool)))) × Int × Int × ByteArray × (List (ByteArray × Int × Bool)) × (List (Int × Bool)) × (List (ByteArray × Bool × (List (Int × Bool))))) → LS
  | (x0, x1, x2, x3, x4, x5, x6) => ⟨[.addr 65 0 [] 0, .cv ⟨.row K3, x0⟩, .cv ⟨.int .i64, x1⟩, .cv ⟨.int .i64, x2⟩], [⟨false, [⟨0, 0, .mk 0 ⟨.str, x3⟩⟩, ⟨0, 0, .mk 0 ⟨.row K1, x4⟩⟩, ⟨0, 0, .mk 0 ⟨.row K2, x5⟩⟩, ⟨0, 0, .mk 0 ⟨.row K3, x6⟩⟩]⟩]⟩
noncomputable def impl_twice.s6 (L4 : ((List (ByteArray × Bool × (List (Int × Bool)))) × Int × Int × ByteArray × (List (ByteArray × Int × Bool)) × (List (Int × Bool)) × (List (ByteArray × Bool × (List (Int × Bool))))) → Option (Bool)) (L6 : ((List (ByteArray × Bool × (List (Int × Bool)))) × Int × Int × (List (ByteArray × Bool × (List (Int × Bool)))) × Int × Int × ByteArray × (List (ByteArray × Int × Bool)) × (List (Int × Bool)) × (List (ByteArray × Bool × (List (Int × Bool)))) × ByteArray × Bool × (List (Int × Bool))) → Option (Bool)) : ((List (ByteArray × Bool × (List (Int × Bool)))) × Int × Int × (List (ByteArray × Bool × (List (Int × Bool)))) × Int × Int × ByteArray × (List (ByteArray × Int × Bool)) × (List (Int × Bool)) × (List (ByteArray × Bool × (List (Int × Bool)))) × ByteArray × Bool × (List (Int × Bool))) → Option (Bool)
  | (x0, x1, x2, x3, x4, x5, x6, x7, x8, x9, x10, x11, x12) =>
  bif decide (x5 < x4) then
   bif decide (0 ≤ x5) && decide (x5 < (List.length x3 : Int)) then
    bif ByteArray.toList ((List.getD x3 (Int.toNat x5) (ByteArray.empty, false, ([] : List (Int × Bool)))).1) == ByteArray.toList x10 then
     some true
    else
     L6 (x0, x1, x2, x3, x4, IntKind.wrap IntKind.i64 (x5 + (1 : Int)), x6, x7, x8, x9, x10, x11, x12)
   else
    none
  else
   L4 (x0, x1, IntKind.wrap IntKind.i64 (x2 + (1 : Int)), x6, x7, x8, x9)
noncomputable def impl_twice.ll6 : ((List (ByteArray × Bool × (List (Int × Bool)))) × Int × Int × (List (ByteArray × Bool × (List (Int × Bool)))) × Int × Int × ByteArray × (List (ByteArray × Int × Bool)) × (List (Int × Bool)) × (List (ByteArray × Bool × (List (Int × Bool)))) × ByteArray × Bool × (List (Int × Bool))) → LS
  | (x0, x1, x2, x3, x4, x5, x6, x7, x8, x9, x10, x11, x12) => ⟨[.addr 65 0 [] 0, .addr 513 0 [] 0, .cv ⟨.row K3, x0⟩, .cv ⟨.int .i64, x1⟩, .cv ⟨.int .i64, x2⟩, .cv ⟨.row K3, x3⟩, .cv ⟨.int .i64, x4⟩, .cv ⟨.int .i64, x5⟩], [⟨false, [⟨0, 0, .mk 0 ⟨.str, x6⟩⟩, ⟨0, 0, .mk 0 ⟨.row K1, x7⟩⟩, ⟨0, 0, .mk 0 ⟨.row K2, x8⟩⟩, ⟨0, 0, .mk 0 ⟨.row K3, x9⟩⟩]⟩, ⟨false, [⟨0, 0, .mk 0 ⟨.str, x10⟩⟩, ⟨0, 0, .mk 0 ⟨.bool, x11⟩⟩, ⟨0, 0, .mk 0 ⟨.row K2, x12⟩⟩]⟩]⟩
noncomputable def impl_twice.m (B0 : ((List (ByteArray × Int × Bool)) × Int × Int × ByteArray × (List (ByteArray × Int × Bool)) × (List (Int × Bool)) × (List (ByteArray × Bool × (List (Int × Bool))))) → Option (Bool)) : (ByteArray × (List (ByteArray × Int × Bool)) × (List (Int × Bool)) × (List (ByteArray × Bool × (List (Int × Bool))))) → Option (Bool)
  | (a0_0, a0_1, a0_2, a0_3) =>
  B0 (a0_1, (List.length a0_1 : Int), (0 : Int), a0_0, a0_1, a0_2, a0_3)
noncomputable def impl_twice.sig : Sig := ⟨[.val true [⟨.str, 0, 0, false⟩, ⟨.row K1, 0, 0, false⟩, ⟨.row K2, 0, 0, false⟩, ⟨.row K3, 0, 0, false⟩]], [(.one, [(.bool, 0)])]⟩
noncomputable def impl_twice.hint : Nat → Hint
  | 0 => ⟨[(1, .keep), (12, .keep), (13, .keep), (14, .keep)], [(65, [0, 0, 0, 0])]⟩
  | 2 => ⟨[(1, .keep), (4, .keep), (12, .keep), (13, .keep), (14, .keep), (22, .keep), (23, .keep), (24, .keep)], [(65, [0, 0, 0, 0]), (257, [0, 0, 0])]⟩
  | 4 => ⟨[(1, .keep), (36, .keep), (37, .keep), (38, .keep)], [(65, [0, 0, 0, 0])]⟩
  | 6 => ⟨[(1, .keep), (8, .keep), (36, .keep), (37, .keep), (38, .keep), (46, .keep), (47, .keep), (48, .keep)], [(65, [0, 0, 0, 0]), (513, [0, 0, 0])]⟩
  | _ => ⟨[], []⟩
noncomputable def impl_twice.join : Nat → Option Hint
  | _ => none
noncomputable def impl_twice.body : Code := (Tryd.f56).body.getD .skip
noncomputable def impl_twice.rv : List ResultVar := (Tryd.f56).results.toList
noncomputable def impl_partsOk.s0 (c55 : Int × Int × Int → Option (Bool)) (B2 : ((List (Int × Bool)) × (List (Int × Bool)) × Int × Int × (List (Int × Bool)) × Int × Int × ByteArray × (List (ByteArray × Int × Bool)) × (List (Int × Bool)) × (List (ByteArray × Bool × (List (Int × Bool)))) × Int × Bool) → Option (Bool)) (L0 : ((List (Int × Bool)) × (List (Int × Bool)) × Int × Int × ByteArray × (List (ByteArray × Int × Bool)) × (List (Int × Bool)) × (List (ByteArray × Bool × (List (Int × Bool))))) → Option (Bool)) : ((List (Int × Bool)) × (List (Int × Bool)) × Int × Int × ByteArray × (List (ByteArray × Int × Bool)) × (List (Int × Bool)) × (List (ByteArray × Bool × (List (Int × Bool))))) → Option (Bool)
  | (x0, x1, x2, x3, x4, x5, x6, x7) =>
  bif decide (x3 < x2) then
   bif decide (0 ≤ x3) && decide (x3 < (List.length x1 : Int)) then
    Option.bind (c55 ((List.getD x1 (Int.toNat x3) ((0 : Int), false)).1, (0 : Int), IntKind.wrap IntKind.i64 ((List.length x5 : Int) - (1 : Int)))) fun r1 =>
     bif !(r1) then
      some false
     else
      bif decide (0 ≤ (0 : Int)) && decide ((0 : Int) ≤ x3) && decide (x3 ≤ (List.length x0 : Int)) then
       B2 (x0, x1, x2, x3, List.drop (Int.toNat (0 : Int)) (List.take (Int.toNat x3) x0), (List.length (List.drop (Int.toNat (0 : Int)) (List.take (Int.toNat x3) x0)) : Int), (0 : Int), x4, x5, x6, x7, (List.getD x1 (Int.toNat x3) ((0 : Int), false)).1, (List.getD x1 (Int.toNat x3) ((0 : Int), false)).2)
      else
       none
   else
    none
  else
   Option.bind (c55 ((List.length x0 : Int), (1 : Int), (2 : Int))) fun r2 =>
    some r2
noncomputable def impl_partsOk.ll0 : ((List (Int × Bool)) × (List (Int × Bool)) × Int × Int × ByteArray × (List (ByteArray × Int × Bool)) × (List (Int × Bool)) × (List (ByteArray × Bool × (List (Int × Bool))))) → LS
  | (x0, x1, x2, x3, x4, x5, x6, x7) => ⟨[.cv ⟨.row K2, x0⟩, .addr 129 0 [] 0, .cv ⟨.row K2, x1⟩, .cv ⟨.int .i64, x2⟩, .cv ⟨.int .i64, x3⟩], [⟨false, [⟨0, 0, .mk 0 ⟨.str, x4⟩⟩, ⟨0, 0, .mk 0 ⟨.row K1, x5⟩⟩, ⟨0, 0, .mk 0 ⟨.row K2, x6⟩⟩, ⟨0, 0, .mk 0 ⟨.row K3, x7⟩⟩]⟩]⟩
noncomputable def impl_partsOk.s2 (L0 : ((List (Int × Bool)) × (List (Int × Bool)) × Int × Int × ByteArray × (List (ByteArray × Int × Bool)) × (List (Int × Bool)) × (List (ByteArray × Bool × (List (Int × Bool))))) → Option (Bool)) (L2 : ((List (Int × Bool)) × (List (Int × Bool)) × Int × Int × (List (Int × Bool)) × Int × Int × ByteArray × (List (ByteArray × Int × Bool)) × (List (Int × Bool)) × (List (ByteArray × Bool × (List (Int × Bool)))) × Int × Bool) → Option (Bool)) : ((List (Int × Bool)) × (List (Int × Bool)) × Int × Int × (List (Int × Bool)) × Int × Int × ByteArray × (List (ByteArray × Int × Bool)) × (List (Int × Bool)) × (List (ByteArray × Bool × (List (Int × Bool)))) × Int × Bool) → Option (Bool)
  | (x0, x1, x2, x3, x4, x5, x6, x7, x8, x9, x10, x11, x12) =>
  bif decide (x6 < x5) then
   bif decide (0 ≤ x6) && decide (x6 < (List.length x4 : Int)) then
    bif ((List.getD x4 (Int.toNat x6) ((0 : Int), false)).1) == x11 then
     some false
    else
     L2 (x0, x1, x2, x3, x4, x5, IntKind.wrap IntKind.i64 (x6 + (1 : Int)), x7, x8, x9, x10, x11, x12)
   else
    none
  else
   L0 (x0, x1, x2, IntKind.wrap IntKind.i64 (x3 + (1 : Int)), x7, x8, x9, x10)
noncomputable def impl_partsOk.ll2 : ((List (Int × Bool)) × (List (Int × Bool)) × Int × Int × (List (Int × Bool)) × Int × Int × ByteArray × (List (ByteArray × Int × Bool)) × (List (Int × Bool)) × (List (ByteArray × Bool × (List (Int × Bool)))) × Int × Bool) → LS
  | (x0, x1, x2, x3, x4, x5, x6, x7, x8, x9, x10, x11, x12) => ⟨[.cv ⟨.row K2, x0⟩, .addr 129 0 [] 0, .addr 385 0 [] 0, .cv ⟨.row K2, x1⟩, .cv ⟨.int .i64, x2⟩, .cv ⟨.int .i64, x3⟩, .cv ⟨.row K2, x4⟩, .cv ⟨.int .i64, x5⟩, .cv ⟨.int .i64, x6⟩], [⟨false, [⟨0, 0, .mk 0 ⟨.str, x7⟩⟩, ⟨0, 0, .mk 0 ⟨.row K1, x8⟩⟩, ⟨0, 0, .mk 0 ⟨.row K2, x9⟩⟩, ⟨0, 0, .mk 0 ⟨.row K3, x10⟩⟩]⟩, ⟨false, [⟨0, 0, .mk 0 ⟨.int .i64, x11⟩⟩, ⟨0, 0, .mk 0 ⟨.bool, x12⟩⟩]⟩]⟩
noncomputable def impl_partsOk.m (B0 : ((List (Int × Bool)) × (List (Int × Bool)) × Int × Int × ByteArray × (List (ByteArray × Int × Bool)) × (List (Int × Bool)) × (List (ByteArray × Bool × (List (Int × Bool))))) → Option (Bool)) : (ByteArray × (List (ByteArray × Int × Bool)) × (List (Int × Bool)) × (List (ByteArray × Bool × (List (Int × Bool)))) × (List (Int × Bool))) → Option (Bool)
  | (a0_0, a0_1, a0_2, a0_3, a1_0) =>
  B0 (a1_0, a1_0, (List.length a1_0 : Int), (0 : Int), a0_0, a0_1, a0_2, a0_3)
noncomputable def impl_partsOk.sig : Sig := ⟨[.val true [⟨.str, 0, 0, false⟩, ⟨.row K1, 0, 0, false⟩, ⟨.row K2, 0, 0, false⟩, ⟨.row K3, 0, 0, false⟩], .val false [⟨.row K2, 0, 0, false⟩]], [(.one, [(.bool, 0)])]⟩
noncomputable def impl_partsOk.hint : Nat → Hint
  | 0 => ⟨[(1, .keep), (2, .keep), (9, .keep), (10, .keep), (11, .keep)], [(129, [0, 0, 0, 0])]⟩
  | 2 => ⟨[(1, .keep), (2, .keep), (6, .keep), (9, .keep), (10, .keep), (11, .keep), (26, .keep), (27, .keep), (28, .keep)], [(129, [0, 0, 0, 0]), (385, [0, 0])]⟩
  | _ => ⟨[], []⟩
noncomputable def impl_partsOk.join : Nat → Option Hint
  | _ => none
noncomputable def impl_partsOk.body : Code := (Tryd.f57).body.getD .skip
noncomputable def impl_partsOk.rv : List ResultVar := (Tryd.f57).results.toList
noncomputable def impl_CheckDef.s0 (c55 : Int × Int × Int → Option (Bool)) (c56 : ByteArray × (List (ByteArray × Int × Bool)) × (List (Int × Bool)) × (List (ByteArray × Bool × (List (Int × Bool)))) → Option (Bool)) (B2 : ((List (ByteArray × Bool × (List (Int × Bool)))) × Int × Int × ByteArray × (List (ByteArray × Int × Bool)) × (List (Int × Bool)) × (List (ByteArray × Bool × (List (Int × Bool))))) → Option (Int)) (L0 : ((List (ByteArray × Int × Bool)) × Int × Int × ByteArray × (List (ByteArray × Int × Bool)) × (List (Int × Bool)) × (List (ByteArray × Bool × (List (Int × Bool))))) → Option (Int)) : ((List (ByteArray × Int × Bool)) × Int × Int × ByteArray × (List (ByteArray × Int × Bool)) × (List (Int × Bool)) × (List (ByteArray × Bool × (List (Int × Bool))))) → Option (Int)
  | (x0, x1, x2, x3, x4, x5, x6) =>
  bif decide (x2 < x1) then
   bif decide (0 ≤ x2) && decide (x2 < (List.length x0 : Int)) then
    Option.bind (c55 ((List.getD x0 (Int.toNat x2) (ByteArray.empty, (0 : Int), false)).2.1, (1 : Int), (4 : Int))) fun r3 =>
     bif !(r3) then
      some (2 : Int)
     else
      L0 (x0, x1, IntKind.wrap IntKind.i64 (x2 + (1 : Int)), x3, x4, x5, x6)
   else
    none
  else
   Option.bind (c56 (x3, x4, x5, x6)) fun r4 =>
    bif r4 then
     some (3 : Int)
    else
     bif decide ((List.length x6 : Int) > (2 : Int)) then
      some (6 : Int)
     else
      B2 (x6, (List.length x6 : Int), (0 : Int), x3, x4, x5, x6)
noncomputable def impl_CheckDef.ll0 : ((List (ByteArray × Int × Bool)) × Int × Int × ByteArray × (List (ByteArray × Int × Bool)) × (List (Int × Bool)) × (List (ByteArray × Bool × (List (Int × Bool))))) → LS
  | (x0, x1, x2, x3, x4, x5, x6) => ⟨[.addr 65 0 [] 0, .cv ⟨.row K1, x0⟩, .cv ⟨.int .i64, x1⟩, .cv ⟨.int .i64, x2⟩], [⟨false, [⟨0, 0, .mk 0 ⟨.str, x3⟩⟩, ⟨0, 0, .mk 0 ⟨.row K1, x4⟩⟩, ⟨0, 0, .mk 0 ⟨.row K2, x5⟩⟩, ⟨0, 0, .mk 0 ⟨.row K3, x6⟩⟩]⟩]⟩
noncomputable def impl_CheckDef.s2 (c57 : ByteArray × (List (ByteArray × Int × Bool)) × (List (Int × Bool)) × (List (ByteArray × Bool × (List (Int × Bool)))) × (List (Int × Bool)) → Option (Bool)) (B4 : ((List (Int × Bool)) × Int × Int × ByteArray × (List (ByteArray × Int × Bool)) × (List (Int × Bool)) × (List (ByteArray × Bool × (List (Int × Bool))))) → Option (Int)) (L2 : ((List (ByteArray × Bool × (List (Int × Bool)))) × Int × Int × ByteArray × (List (ByteArray × Int × Bool)) × (List (Int × Bool)) × (List (ByteArray × Bool × (List (Int × Bool))))) → Option (Int)) : ((List (ByteArray × Bool × (List (Int × Bool)))) × Int × Int × ByteArray × (List (ByteArray × Int × Bool)) × (List (Int × Bool)) × (List (ByteArray × Bool × (List (Int × Bool))))) → Option (Int)
  | (x0, x1, x2, x3, x4, x5, x6) =>
  bif decide (x2 < x1) then
   bif decide (0 ≤ x2) && decide (x2 < (List.length x0 : Int)) then
    Option.bind (c57 (x3, x4, x5, x6, (List.getD x0 (Int.toNat x2) (ByteArray.empty, false, ([] : List (Int × Bool)))).2.2)) fun r5 =>
     bif !(r5) then
      some (5 : Int)
     else
      L2 (x0, x1, IntKind.wrap IntKind.i64 (x2 + (1 : Int)), x3, x4, x5, x6)
   else
    none
  else
   Option.bind (c57 (x3, x4, x5, x6, x5)) fun r6 =>
    bif !(r6) then
     some (5 : Int)
    else
     B4 (x5, (List.length x5 : Int), (0 : Int), x3, x4, x5, x6)
noncomputable def impl_CheckDef.ll2 : ((List (ByteArray × Bool × (List (Int × Bool)))) × Int × Int × ByteArray × (List (ByteArray × Int × Bool)) × (List (Int × Bool)) × (List (ByteArray × Bool × (List (Int × Bool))))) → LS
  | (x0, x1, x2, x3, x4, x5, x6) => ⟨[.addr 65 0 [] 0, .cv ⟨.row K3, x0⟩, .cv ⟨.int .i64, x1⟩, .cv ⟨.int .i64, x2⟩], [⟨false, [⟨0, 0, .mk 0 ⟨.str, x3⟩⟩, ⟨0, 0, .mk 0 ⟨.row K1, x4⟩⟩, ⟨0, 0, .mk 0 ⟨.row K2, x5⟩⟩, ⟨0, 0, .mk 0 ⟨.row K3, x6⟩⟩]⟩]⟩
noncomputable def impl_CheckDef.s4 (L4 : ((List (Int × Bool)) × Int × Int × ByteArray × (List (ByteArray × Int × Bool)) × (List (Int × Bool)) × (List (ByteArray × Bool × (List (Int × Bool))))) → Option (Int)) : ((List (Int × Bool)) × Int × Int × ByteArray × (List (ByteArray × Int × Bool)) × (List (Int × Bool)) × (List (ByteArray × Bool × (List (Int × Bool))))) → Option (Int)
  | (x0, x1, x2, x3, x4, x5, x6) =>
  bif decide (x2 < x1) then
   bif decide (0 ≤ x2) && decide (x2 < (List.length x0 : Int)) then
    bif decide (0 ≤ ((List.getD x0 (Int.toNat x2) ((0 : Int), false)).1)) && decide (((List.getD x0 (Int.toNat x2) ((0 : Int), false)).1) < (List.length x4 : Int)) then
     bif (List.getD x4 (Int.toNat ((List.getD x0 (Int.toNat x2) ((0 : Int), false)).1)) (ByteArray.empty, (0 : Int), false)).2.2 then
      some (4 : Int)
     else
      L4 (x0, x1, IntKind.wrap IntKind.i64 (x2 + (1 : Int)), x3, x4, x5, x6)
    else
     none
   else
    none
  else
   some (0 : Int)
noncomputable def impl_CheckDef.ll4 : ((List (Int × Bool)) × Int × Int × ByteArray × (List (ByteArray × Int × Bool)) × (List (Int × Bool)) × (List (ByteArray × Bool × (List (Int × Bool))))) → LS
  | (x0, x1, x2, x3, x4, x5, x6) => ⟨[.addr 65 0 [] 0, .cv ⟨.row K2, x0⟩, .cv ⟨.int .i64, x1⟩, .cv ⟨.int .i64, x2⟩], [⟨false, [⟨0, 0, .mk 0 ⟨.str, x3⟩⟩, ⟨0, 0, .mk 0 ⟨.row K1, x4⟩⟩, ⟨0, 0, .mk 0 ⟨.row K2, x5⟩⟩, ⟨0, 0, .mk 0 ⟨.row K3, x6⟩⟩]⟩]⟩
noncomputable def impl_CheckDef.m (c54 : ByteArray × (List (ByteArray × Int × Bool)) × (List (Int × Bool)) × (List (ByteArray × Bool × (List (Int × Bool)))) → Option (Bool)) (c55 : Int × Int × Int → Option (Bool)) (B0 : ((List (ByteArray × Int × Bool)) × Int × Int × ByteArray × (List (ByteArray × Int × Bool)) × (List (Int × Bool)) × (List (ByteArray × Bool × (List (Int × Bool))))) → Option (Int)) : (ByteArray × (List (ByteArray × Int × Bool)) × (List (Int × Bool)) × (List (ByteArray × Bool × (List (Int × Bool))))) → Option (Int)
  | (a0_0, a0_1, a0_2, a0_3) =>
  Option.bind (c54 (a0_0, a0_1, a0_2, a0_3)) fun r1 =>
   bif !(r1) then
    some (1 : Int)
   else
    Option.bind (c55 ((List.length a0_1 : Int), (1 : Int), (6 : Int))) fun r2 =>
     bif !(r2) then
      some (2 : Int)
     else
      B0 (a0_1, (List.length a0_1 : Int), (0 : Int), a0_0, a0_1, a0_2, a0_3)
noncomputable def impl_CheckDef.sig : Sig := ⟨[.val true [⟨.str, 0, 0, false⟩, ⟨.row K1, 0, 0, false⟩, ⟨.row K2, 0, 0, false⟩, ⟨.row K3, 0, 0, false⟩]], [(.one, [(.int .i64, 0)])]⟩
noncomputable def impl_CheckDef.hint : Nat → Hint
  | 0 => ⟨[(1, .keep), (18, .keep), (19, .keep), (20, .keep)], [(65, [0, 0, 0, 0])]⟩
  | 2 => ⟨[(1, .keep), (36, .keep), (37, .keep), (38, .keep)], [(65, [0, 0, 0, 0])]⟩
  | 4 => ⟨[(1, .keep), (54, .keep), (55, .keep), (56, .keep)], [(65, [0, 0, 0, 0])]⟩
  | _ => ⟨[], []⟩
noncomputable def impl_CheckDef.join : Nat → Option Hint
  | _ => none
noncomputable def impl_CheckDef.body : Code := (Tryd.f21).body.getD .skip
noncomputable def impl_CheckDef.rv : List ResultVar := (Tryd.f21).results.toList
noncomputable def laws_eqCol.m  : (ByteArray × Int × Bool × ByteArray × Int × Bool) → Option (Bool)
  | (a0_0, a0_1, a0_2, a1_0, a1_1, a1_2) =>
  bif !(ByteArray.toList a0_0 == ByteArray.toList a1_0) then
   some false
  else
   bif a0_1 != a1_1 then
    some false
   else
    bif !(a0_2 == a1_2) then
     some false
    else
     some true
noncomputable def laws_eqCol.sig : Sig := ⟨[.val true [⟨.str, 0, 0, false⟩, ⟨.int .i64, 0, 0, false⟩, ⟨.bool, 0, 0, false⟩], .val true [⟨.str, 0, 0, false⟩, ⟨.int .i64, 0, 0, false⟩, ⟨.bool, 0, 0, false⟩]], [(.one, [(.bool, 0)])]⟩
noncomputable def laws_eqCol.hint : Nat → Hint
  | _ => ⟨[], []⟩
noncomputable def laws_eqCol.join : Nat → Option Hint
  | _ => none
noncomputable def laws_eqCol.body : Code := (Tryd.f117).body.getD .skip
noncomputable def laws_eqCol.rv : List ResultVar := (Tryd.f117).results.toList
noncomputable def laws_eqColS.s0 (c117 : ByteArray × Int × Bool × ByteArray × Int × Bool → Option (Bool)) (L0 : ((List (ByteArray × Int × Bool)) × (List (ByteArray × Int × Bool)) × Int) → Option (Bool)) : ((List (ByteArray × Int × Bool)) × (List (ByteArray × Int × Bool)) × Int) → Option (Bool)
  | (x0, x1, x2) =>
  bif decide (x2 < (List.length x0 : Int)) then
   bif decide (0 ≤ x2) && decide (x2 < (List.length x0 : Int)) then
    bif decide (0 ≤ x2) && decide (x2 < (List.length x1 : Int)) then
     Option.bind (c117 ((List.getD x0 (Int.toNat x2) (ByteArray.empty, (0 : Int), false)).1, (List.getD x0 (Int.toNat x2) (ByteArray.empty, (0 : Int), false)).2.1, (List.getD x0 (Int.toNat x2) (ByteArray.empty, (0 : Int), false)).2.2, (List.getD x1 (Int.toNat x2) (ByteArray.empty, (0 : Int), false)).1, (List.getD x1 (Int.toNat x2) (ByteArray.empty, (0 : Int), false)).2.1, (List.getD x1 (Int.toNat x2) (ByteArray.empty, (0 : Int), false)).2.2)) fun r1 =>
      bif !(r1) then
       some false
      else
       L0 (x0, x1, IntKind.wrap IntKind.i64 (x2 + (1 : Int)))
    else
     none
   else
    none
  else
   some true
noncomputable def laws_eqColS.ll0 : ((List (ByteArray × Int × Bool)) × (List (ByteArray × Int × Bool)) × Int) → LS
  | (x0, x1, x2) => ⟨[.cv ⟨.row K1, x0⟩, .cv ⟨.row K1, x1⟩, .cv ⟨.int .i64, x2⟩], []⟩
noncomputable def laws_eqColS.m (B0 : ((List (ByteArray × Int × Bool)) × (List (ByteArray × Int × Bool)) × Int) → Option (Bool)) : ((List (ByteArray × Int × Bool)) × (List (ByteArray × Int × Bool))) → Option (Bool)
  | (a0_0, a1_0) =>
  bif (List.length a0_0 : Int) != (List.length a1_0 : Int) then
   some false
  else
   B0 (a0_0, a1_0, (0 : Int))
noncomputable def laws_eqColS.sig : Sig := ⟨[.val false [⟨.row K1, 0, 0, false⟩], .val false [⟨.row K1, 0, 0, false⟩]], [(.one, [(.bool, 0)])]⟩
noncomputable def laws_eqColS.hint : Nat → Hint
  | 0 => ⟨[(0, .keep), (1, .keep), (5, .keep)], []⟩
  | _ => ⟨[], []⟩
noncomputable def laws_eqColS.join : Nat → Option Hint
  | _ => none
noncomputable def laws_eqColS.body : Code := (Tryd.f76).body.getD .skip
noncomputable def laws_eqColS.rv : List ResultVar := (Tryd.f76).results.toList
noncomputable def laws_eqBy.m  : (Int × Bool × Int × Bool) → Option (Bool)
  | (a0_0, a0_1, a1_0, a1_1) =>
  bif a0_0 != a1_0 then
   some false
  else
   bif !(a0_1 == a1_1) then
    some false
   else
    some true
noncomputable def laws_eqBy.sig : Sig := ⟨[.val true [⟨.int .i64, 0, 0, false⟩, ⟨.bool, 0, 0, false⟩], .val true [⟨.int .i64, 0, 0, false⟩, ⟨.bool, 0, 0, false⟩]], [(.one, [(.bool, 0)])]⟩
noncomputable def laws_eqBy.hint : Nat → Hint
  | _ => ⟨[], []⟩
noncomputable def laws_eqBy.join : Nat → Option Hint
  | _ => none
noncomputable def laws_eqBy.body : Code := (Tryd.f118).body.getD .skip
noncomputable def laws_eqBy.rv : List ResultVar := (Tryd.f118).results.toList
noncomputable def laws_eqByS.s0 (c118 : Int × Bool × Int × Bool → Option (Bool)) (L0 : ((List (Int × Bool)) × (List (Int × Bool)) × Int) → Option (Bool)) : ((List (Int × Bool)) × (List (Int × Bool)) × Int) → Option (Bool)
  | (x0, x1, x2) =>
  bif decide (x2 < (List.length x0 : Int)) then
   bif decide (0 ≤ x2) && decide (x2 < (List.length x0 : Int)) then
    bif decide (0 ≤ x2) && decide (x2 < (List.length x1 : Int)) then
     Option.bind (c118 ((List.getD x0 (Int.toNat x2) ((0 : Int), false)).1, (List.getD x0 (Int.toNat x2) ((0 : Int), false)).2, (List.getD x1 (Int.toNat x2) ((0 : Int), false)).1, (List.getD x1 (Int.toNat x2) ((0 : Int), false)).2)) fun r1 =>
      bif !(r1) then
       some false
      else
       L0 (x0, x1, IntKind.wrap IntKind.i64 (x2 + (1 : Int)))
    else
     none
   else
    none
  else
   some true
noncomputable def laws_eqByS.ll0 : ((List (Int × Bool)) × (List (Int × Bool)) × Int) → LS
  | (x0, x1, x2) => ⟨[.cv ⟨.row K2, x0⟩, .cv ⟨.row K2, x1⟩, .cv ⟨.int .i64, x2⟩], []⟩
noncomputable def laws_eqByS.m (B0 : ((List (Int × Bool)) × (List (Int × Bool)) × Int) → Option (Bool)) : ((List (Int × Bool)) × (List (Int × Bool))) → Option (Bool)
  | (a0_0, a1_0) =>
  bif (List.length a0_0 : Int) != (List.length a1_0 : Int) then
   some false
  else
   B0 (a0_0, a1_0, (0 : Int))
noncomputable def laws_eqByS.sig : Sig := ⟨[.val false [⟨.row K2, 0, 0, false⟩], .val false [⟨.row K2, 0, 0, false⟩]], [(.one, [(.bool, 0)])]⟩
noncomputable def laws_eqByS.hint : Nat → Hint
  | 0 => ⟨[(0, .keep), (1, .keep), (5, .keep)], []⟩
  | _ => ⟨[], []⟩
noncomputable def laws_eqByS.join : Nat → Option Hint
  | _ => none
noncomputable def laws_eqByS.body : Code := (Tryd.f77).body.getD .skip
noncomputable def laws_eqByS.rv : List ResultVar := (Tryd.f77).results.toList
noncomputable def laws_eqIndex.m (c77 : (List (Int × Bool)) × (List (Int × Bool)) → Option (Bool)) : (ByteArray × Bool × (List (Int × Bool)) × ByteArray × Bool × (List (Int × Bool))) → Option (Bool)
  | (a0_0, a0_1, a0_2, a1_0, a1_1, a1_2) =>
  bif !(ByteArray.toList a0_0 == ByteArray.toList a1_0) then
   some false
  else
   bif !(a0_1 == a1_1) then
    some false
   else
    Option.bind (c77 (a0_2, a1_2)) fun r1 =>
     bif !(r1) then
      some false
     else
      some true
noncomputable def laws_eqIndex.sig : Sig := ⟨[.val true [⟨.str, 0, 0, false⟩, ⟨.bool, 0, 0, false⟩, ⟨.row K2, 0, 0, false⟩], .val true [⟨.str, 0, 0, false⟩, ⟨.bool, 0, 0, false⟩, ⟨.row K2, 0, 0, false⟩]], [(.one, [(.bool, 0)])]⟩
noncomputable def laws_eqIndex.hint : Nat → Hint
  | _ => ⟨[], []⟩
noncomputable def laws_eqIndex.join : Nat → Option Hint
  | _ => none
noncomputable def laws_eqIndex.body : Code := (Tryd.f119).body.getD .skip
noncomputable def laws_eqIndex.rv : List ResultVar := (Tryd.f119).results.toList
noncomputable def laws_eqIndexS.s0 (c119 : ByteArray × Bool × (List (Int × Bool)) × ByteArray × Bool × (List (Int × Bool)) → Option (Bool)) (L0 : ((List (ByteArray × Bool × (List (Int × Bool)))) × (List (ByteArray × Bool × (List (Int × Bool)))) × Int) → Option (Bool)) : ((List (ByteArray × Bool × (List (Int × Bool)))) × (List (ByteArray × Bool × (List (Int × Bool)))) × Int) → Option (Bool)
  | (x0, x1, x2) =>
  bif decide (x2 < (List.length x0 : Int)) then
   bif decide (0 ≤ x2) && decide (x2 < (List.length x0 : Int)) then
    bif decide (0 ≤ x2) && decide (x2 < (List.length x1 : Int)) then
     Option.bind (c119 ((List.getD x0 (Int.toNat x2) (ByteArray.empty, false, ([] : List (Int × Bool)))).1, (List.getD x0 (Int.toNat x2) (ByteArray.empty, false, ([] : List (Int × Bool)))).2.1, (List.getD x0 (Int.toNat x2) (ByteArray.empty, false, ([] : List (Int × Bool)))).2.2, (List.getD x1 (Int.toNat x2) (ByteArray.empty, false, ([] : List (Int × Bool)))).1, (List.getD x1 (Int.toNat x2) (ByteArray.empty, false, ([] : List (Int × Bool)))).2.1, (List.getD x1 (Int.toNat x2) (ByteArray.empty, false, ([] : List (Int × Bool)))).2.2)) fun r1 =>
      bif !(r1) then
       some false
      else
       L0 (x0, x1, IntKind.wrap IntKind.i64 (x2 + (1 : Int)))
    else
     none
   else
    none
  else
   some true
noncomputable def laws_eqIndexS.ll0 : ((List (ByteArray × Bool × (List (Int × Bool)))) × (List (ByteArray × Bool × (List (Int × Bool)))) × Int) → LS
  | (x0, x1, x2) => ⟨[.cv ⟨.row K3, x0⟩, .cv ⟨.row K3, x1⟩, .cv ⟨.int .i64, x2⟩], []⟩
noncomputable def laws_eqIndexS.m (B0 : ((List (ByteArray × Bool × (List (Int × Bool)))) × (List (ByteArray × Bool × (List (Int × Bool)))) × Int) → Option (Bool)) : ((List (ByteArray × Bool × (List (Int × Bool)))) × (List (ByteArray × Bool × (List (Int × Bool))))) → Option (Bool)
  | (a0_0, a1_0) =>
  bif (List.length a0_0 : Int) != (List.length a1_0 : Int) then
   some false
  else
   B0 (a0_0, a1_0, (0 : Int))
noncomputable def laws_eqIndexS.sig : Sig := ⟨[.val false [⟨.row K3, 0, 0, false⟩], .val false [⟨.row K3, 0, 0, false⟩]], [(.one, [(.bool, 0)])]⟩
noncomputable def laws_eqIndexS.hint : Nat → Hint
  | 0 => ⟨[(0, .keep), (1, .keep), (5, .keep)], []⟩
  | _ => ⟨[], []⟩
noncomputable def laws_eqIndexS.join : Nat → Option Hint
  | _ => none
noncomputable def laws_eqIndexS.body : Code := (Tryd.f78).body.getD .skip
noncomputable def laws_eqIndexS.rv : List ResultVar := (Tryd.f78).results.toList
noncomputable def laws_eqDef.m (c76 : (List (ByteArray × Int × Bool)) × (List (ByteArray × Int × Bool)) → Option (Bool)) (c77 : (List (Int × Bool)) × (List (Int × Bool)) → Option (Bool)) (c78 : (List (ByteArray × Bool × (List (Int × Bool)))) × (List (ByteArray × Bool × (List (Int × Bool)))) → Option (Bool)) : (ByteArray × (List (ByteArray × Int × Bool)) × (List (Int × Bool)) × (List (ByteArray × Bool × (List (Int × Bool)))) × ByteArray × (List (ByteArray × Int × Bool)) × (List (Int × Bool)) × (List (ByteArray × Bool × (List (Int × Bool))))) → Option (Bool)
  | (a0_0, a0_1, a0_2, a0_3, a1_0, a1_1, a1_2, a1_3) =>
  bif !(ByteArray.toList a0_0 == ByteArray.toList a1_0) then
   some false
  else
   Option.bind (c76 (a0_1, a1_1)) fun r1 =>
    bif !(r1) then
     some false
    else
     Option.bind (c77 (a0_2, a1_2)) fun r2 =>
      bif !(r2) then
       some false
      else
       Option.bind (c78 (a0_3, a1_3)) fun r3 =>
        bif !(r3) then
         some false
        else
         some true
noncomputable def laws_eqDef.sig : Sig := ⟨[.val true [⟨.str, 0, 0, false⟩, ⟨.row K1, 0, 0, false⟩, ⟨.row K2, 0, 0, false⟩, ⟨.row K3, 0, 0, false⟩], .val true [⟨.str, 0, 0, false⟩, ⟨.row K1, 0, 0, false⟩, ⟨.row K2, 0, 0, false⟩, ⟨.row K3, 0, 0, false⟩]], [(.one, [(.bool, 0)])]⟩
noncomputable def laws_eqDef.hint : Nat → Hint
  | _ => ⟨[], []⟩
noncomputable def laws_eqDef.join : Nat → Option Hint
  | _ => none
noncomputable def laws_eqDef.body : Code := (Tryd.f30).body.getD .skip
noncomputable def laws_eqDef.rv : List ResultVar := (Tryd.f30).results.toList
noncomputable def laws_markText.s0 (L0 : (Int × ByteArray) → Option (ByteArray)) : (Int × ByteArray) → Option (ByteArray)
  | (x0, x1) =>
  bif decide (x0 > (0 : Int)) then
   bif decide (¬ (10 : Int) = 0) then
    bif decide (¬ ((ByteArray.size (numsStr ([IntKind.wrap IntKind.u8 (IntKind.wrap IntKind.i64 ((48 : Int) + (Int.tmod x0 (10 : Int))))] : List Int)) + ByteArray.size x1 : Nat) : Int) > IntKind.max IntKind.i64) then
     bif decide (¬ (10 : Int) = 0) then
      L0 (IntKind.wrap IntKind.i64 (Int.tdiv x0 (10 : Int)), ByteArray.append (numsStr ([IntKind.wrap IntKind.u8 (IntKind.wrap IntKind.i64 ((48 : Int) + (Int.tmod x0 (10 : Int))))] : List Int)) x1)
     else
      none
    else
     none
   else
    none
  else
   bif decide (¬ ((ByteArray.size ({ data := #[109] } : ByteArray) + ByteArray.size x1 : Nat) : Int) > IntKind.max IntKind.i64) then
    some (ByteArray.append ({ data := #[109] } : ByteArray) x1)
   else
    none
noncomputable def laws_markText.ll0 : (Int × ByteArray) → LS
  | (x0, x1) => ⟨[.cv ⟨.int .i64, x0⟩, .cv ⟨.str, x1⟩], []⟩
noncomputable def laws_markText.m (B0 : (Int × ByteArray) → Option (ByteArray)) : (Int) → Option (ByteArray)
  | a0_0 =>
  bif decide (a0_0 ≤ (0 : Int)) then
   some ({ data := #[109, 48] } : ByteArray)
  else
   B0 (a0_0, ({ data := #[] } : ByteArray))
noncomputable def laws_markText.sig : Sig := ⟨[.val false [⟨.int .i64, 0, 0, false⟩]], [(.one, [(.str, 0)])]⟩
noncomputable def laws_markText.hint : Nat → Hint
  | 0 => ⟨[(0, .keep), (3, .keep)], []⟩
  | _ => ⟨[], []⟩
noncomputable def laws_markText.join : Nat → Option Hint
  | _ => none
noncomputable def laws_markText.body : Code := (Tryd.f83).body.getD .skip
noncomputable def laws_markText.rv : List ResultVar := (Tryd.f83).results.toList
noncomputable def laws_markColS.s0 (c83 : (Int) → Option (ByteArray)) (L0 : (Int × Int × (List (ByteArray × Int × Bool))) → Option (Int × (List (ByteArray × Int × Bool)))) : (Int × Int × (List (ByteArray × Int × Bool))) → Option (Int × (List (ByteArray × Int × Bool)))
  | (x0, x1, x2) =>
  bif decide (x1 < (List.length x2 : Int)) then
   Option.bind (c83 x0) fun r1 =>
    bif decide (0 ≤ x1) && decide (x1 < (List.length x2 : Int)) then
     bif decide (0 ≤ x1) && decide (x1 < (List.length (List.set x2 (Int.toNat x1) (r1, (List.getD x2 (Int.toNat x1) (ByteArray.empty, (0 : Int), false)).2.1, (List.getD x2 (Int.toNat x1) (ByteArray.empty, (0 : Int), false)).2.2)) : Int)) then
      bif decide (¬ (3 : Int) = 0) then
       bif decide (0 ≤ x1) && decide (x1 < (List.length (List.set (List.set x2 (Int.toNat x1) (r1, (List.getD x2 (Int.toNat x1) (ByteArray.empty, (0 : Int), false)).2.1, (List.getD x2 (Int.toNat x1) (ByteArray.empty, (0 : Int), false)).2.2)) (Int.toNat x1) ((List.getD (List.set x2 (Int.toNat x1) (r1, (List.getD x2 (Int.toNat x1) (ByteArray.empty, (0 : Int), false)).2.1, (List.getD x2 (Int.toNat x1) (ByteArray.empty, (0 : Int), false)).2.2)) (Int.toNat x1) (ByteArray.empty, (0 : Int), false)).1, IntKind.wrap IntKind.i64 (x0 + (1 : Int)), (List.getD (List.set x2 (Int.toNat x1) (r1, (List.getD x2 (Int.toNat x1) (ByteArray.empty, (0 : Int), false)).2.1, (List.getD x2 (Int.toNat x1) (ByteArray.empty, (0 : Int), false)).2.2)) (Int.toNat x1) (ByteArray.empty, (0 : Int), false)).2.2)) : Int)) then
        L0 (IntKind.wrap IntKind.i64 ((IntKind.wrap IntKind.i64 ((IntKind.wrap IntKind.i64 (x0 + (1 : Int))) + (1 : Int))) + (1 : Int)), IntKind.wrap IntKind.i64 (x1 + (1 : Int)), List.set (List.set (List.set x2 (Int.toNat x1) (r1, (List.getD x2 (Int.toNat x1) (ByteArray.empty, (0 : Int), false)).2.1, (List.getD x2 (Int.toNat x1) (ByteArray.empty, (0 : Int), false)).2.2)) (Int.toNat x1) ((List.getD (List.set x2 (Int.toNat x1) (r1, (List.getD x2 (Int.toNat x1) (ByteArray.empty, (0 : Int), false)).2.1, (List.getD x2 (Int.toNat x1) (ByteArray.empty, (0 : Int), false)).2.2)) (Int.toNat x1) (ByteArray.empty, (0 : Int), false)).1, IntKind.wrap IntKind.i64 (x0 + (1 : Int)), (List.getD (List.set x2 (Int.toNat x1) (r1, (List.getD x2 (Int.toNat x1) (ByteArray.empty, (0 : Int), false)).2.1, (List.getD x2 (Int.toNat x1) (ByteArray.empty, (0 : Int), false)).2.2)) (Int.toNat x1) (ByteArray.empty, (0 : Int), false)).2.2)) (Int.toNat x1) ((List.getD (List.set (List.set x2 (Int.toNat x1) (r1, (List.getD x2 (Int.toNat x1) (ByteArray.empty, (0 : Int), false)).2.1, (List.getD x2 (Int.toNat x1) (ByteArray.empty, (0 : Int), false)).2.2)) (Int.toNat x1) ((List.getD (List.set x2 (Int.toNat x1) (r1, (List.getD x2 (Int.toNat x1) (ByteArray.empty, (0 : Int), false)).2.1, (List.getD x2 (Int.toNat x1) (ByteArray.empty, (0 : Int), false)).2.2)) (Int.toNat x1) (ByteArray.empty, (0 : Int), false)).1, IntKind.wrap IntKind.i64 (x0 + (1 : Int)), (List.getD (List.set x2 (Int.toNat x1) (r1, (List.getD x2 (Int.toNat x1) (ByteArray.empty, (0 : Int), false)).2.1, (List.getD x2 (Int.toNat x1) (ByteArray.empty, (0 : Int), false)).2.2)) (Int.toNat x1) (ByteArray.empty, (0 : Int), false)).2.2)) (Int.toNat x1) (ByteArray.empty, (0 : Int), false)).1, (List.getD (List.set (List.set x2 (Int.toNat x1) (r1, (List.getD x2 (Int.toNat x1) (ByteArray.empty, (0 : Int), false)).2.1, (List.getD x2 (Int.toNat x1) (ByteArray.empty, (0 : Int), false)).2.2)) (Int.toNat x1) ((List.getD (List.set x2 (Int.toNat x1) (r1, (List.getD x2 (Int.toNat x1) (ByteArray.empty, (0 : Int), false)).2.1, (List.getD x2 (Int.toNat x1) (ByteArray.empty, (0 : Int), false)).2.2)) (Int.toNat x1) (ByteArray.empty, (0 : Int), false)).1, IntKind.wrap IntKind.i64 (x0 + (1 : Int)), (List.getD (List.set x2 (Int.toNat x1) (r1, (List.getD x2 (Int.toNat x1) (ByteArray.empty, (0 : Int), false)).2.1, (List.getD x2 (Int.toNat x1) (ByteArray.empty, (0 : Int), false)).2.2)) (Int.toNat x1) (ByteArray.empty, (0 : Int), false)).2.2)) (Int.toNat x1) (ByteArray.empty, (0 : Int), false)).2.1, (Int.tmod (IntKind.wrap IntKind.i64 ((IntKind.wrap IntKind.i64 (x0 + (1 : Int))) + (1 : Int))) (3 : Int)) == (0 : Int)))
       else
        none
      else
       none
     else
      none
    else
     none
  else
   some (x0, x2)
noncomputable def laws_markColS.ll0 : (Int × Int × (List (ByteArray × Int × Bool))) → LS
  | (x0, x1, x2) => ⟨[.ref 2 0 [] none 0, .cv ⟨.int .i64, x0⟩, .cv ⟨.int .i64, x1⟩], [⟨true, [⟨0, 0, .mk 1 ⟨.row K1, x2⟩⟩]⟩]⟩
noncomputable def laws_markColS.m (B0 : (Int × Int × (List (ByteArray × Int × Bool))) → Option (Int × (List (ByteArray × Int × Bool)))) : ((List (ByteArray × Int × Bool)) × Int) → Option (Int × (List (ByteArray × Int × Bool)))
  | (a0_0, a1_0) =>
  B0 (a1_0, (0 : Int), a0_0)
noncomputable def laws_markColS.sig : Sig := ⟨[.val false [⟨.row K1, 1, 1, true⟩], .val false [⟨.int .i64, 0, 0, false⟩]], [(.one, [(.int .i64, 0)])]⟩
noncomputable def laws_markColS.hint : Nat → Hint
  | 0 => ⟨[(0, .keep), (1, .keep), (5, .keep)], [(2, [1])]⟩
  | _ => ⟨[], []⟩
noncomputable def laws_markColS.join : Nat → Option Hint
  | _ => none
noncomputable def laws_markColS.body : Code := (Tryd.f84).body.getD .skip
noncomputable def laws_markColS.rv : List ResultVar := (Tryd.f84).results.toList
noncomputable def laws_markByS.s0 (L0 : (Int × Int × (List (Int × Bool))) → Option (Int × (List (Int × Bool)))) : (Int × Int × (List (Int × Bool))) → Option (Int × (List (Int × Bool)))
  | (x0, x1, x2) =>
  bif decide (x1 < (List.length x2 : Int)) then
   bif decide (0 ≤ x1) && decide (x1 < (List.length x2 : Int)) then
    bif decide (¬ (3 : Int) = 0) then
     bif decide (0 ≤ x1) && decide (x1 < (List.length (List.set x2 (Int.toNat x1) (x0, (List.getD x2 (Int.toNat x1) ((0 : Int), false)).2)) : Int)) then
      L0 (IntKind.wrap IntKind.i64 ((IntKind.wrap IntKind.i64 (x0 + (1 : Int))) + (1 : Int)), IntKind.wrap IntKind.i64 (x1 + (1 : Int)), List.set (List.set x2 (Int.toNat x1) (x0, (List.getD x2 (Int.toNat x1) ((0 : Int), false)).2)) (Int.toNat x1) ((List.getD (List.set x2 (Int.toNat x1) (x0, (List.getD x2 (Int.toNat x1) ((0 : Int), false)).2)) (Int.toNat x1) ((0 : Int), false)).1, (Int.tmod (IntKind.wrap IntKind.i64 (x0 + (1 : Int))) (3 : Int)) == (0 : Int)))
     else
      none
    else
     none
   else
    none
  else
   some (x0, x2)
noncomputable def laws_markByS.ll0 : (Int × Int × (List (Int × Bool))) → LS
  | (x0, x1, x2) => ⟨[.ref 2 0 [] none 0, .cv ⟨.int .i64, x0⟩, .cv ⟨.int .i64, x1⟩], [⟨true, [⟨0, 0, .mk 1 ⟨.row K2, x2⟩⟩]⟩]⟩
noncomputable def laws_markByS.m (B0 : (Int × Int × (List (Int × Bool))) → Option (Int × (List (Int × Bool)))) : ((List (Int × Bool)) × Int) → Option (Int × (List (Int × Bool)))
  | (a0_0, a1_0) =>
  B0 (a1_0, (0 : Int), a0_0)
noncomputable def laws_markByS.sig : Sig := ⟨[.val false [⟨.row K2, 1, 1, true⟩], .val false [⟨.int .i64, 0, 0, false⟩]], [(.one, [(.int .i64, 0)])]⟩
noncomputable def laws_markByS.hint : Nat → Hint
  | 0 => ⟨[(0, .keep), (1, .keep), (5, .keep)], [(2, [1])]⟩
  | _ => ⟨[], []⟩
noncomputable def laws_markByS.join : Nat → Option Hint
  | _ => none
noncomputable def laws_markByS.body : Code := (Tryd.f85).body.getD .skip
noncomputable def laws_markByS.rv : List ResultVar := (Tryd.f85).results.toList
noncomputable def laws_markIndexS.s0 (c83 : (Int) → Option (ByteArray)) (c85 : (List (Int × Bool)) × Int → Option (Int × (List (Int × Bool)))) (L0 : (Int × Int × (List (ByteArray × Bool × (List (Int × Bool))))) → Option (Int × (List (ByteArray × Bool × (List (Int × Bool)))))) : (Int × Int × (List (ByteArray × Bool × (List (Int × Bool))))) → Option (Int × (List (ByteArray × Bool × (List (Int × Bool)))))
  | (x0, x1, x2) =>
  bif decide (x1 < (List.length x2 : Int)) then
   Option.bind (c83 x0) fun r1 =>
    bif decide (0 ≤ x1) && decide (x1 < (List.length x2 : Int)) then
     bif decide (¬ (3 : Int) = 0) then
      bif decide (0 ≤ x1) && decide (x1 < (List.length (List.set x2 (Int.toNat x1) (r1, (List.getD x2 (Int.toNat x1) (ByteArray.empty, false, ([] : List (Int × Bool)))).2.1, (List.getD x2 (Int.toNat x1) (ByteArray.empty, false, ([] : List (Int × Bool)))).2.2)) : Int)) then
       bif decide (0 ≤ x1) && decide (x1 < (List.length (List.set (List.set x2 (Int.toNat x1) (r1, (List.getD x2 (Int.toNat x1) (ByteArray.empty, false, ([] : List (Int × Bool)))).2.1, (List.getD x2 (Int.toNat x1) (ByteArray.empty, false, ([] : List (Int × Bool)))).2.2)) (Int.toNat x1) ((List.getD (List.set x2 (Int.toNat x1) (r1, (List.getD x2 (Int.toNat x1) (ByteArray.empty, false, ([] : List (Int × Bool)))).2.1, (List.getD x2 (Int.toNat x1) (ByteArray.empty, false, ([] : List (Int × Bool)))).2.2)) (Int.toNat x1) (ByteArray.empty, false, ([] : List (Int × Bool)))).1, (Int.tmod (IntKind.wrap IntKind.i64 (x0 + (1 : Int))) (3 : Int)) == (0 : Int), (List.getD (List.set x2 (Int.toNat x1) (r1, (List.getD x2 (Int.toNat x1) (ByteArray.empty, false, ([] : List (Int × Bool)))).2.1, (List.getD x2 (Int.toNat x1) (ByteArray.empty, false, ([] : List (Int × Bool)))).2.2)) (Int.toNat x1) (ByteArray.empty, false, ([] : List (Int × Bool)))).2.2)) : Int)) then
        Option.bind (c85 ((List.getD (List.set (List.set x2 (Int.toNat x1) (r1, (List.getD x2 (Int.toNat x1) (ByteArray.empty, false, ([] : List (Int × Bool)))).2.1, (List.getD x2 (Int.toNat x1) (ByteArray.empty, false, ([] : List (Int × Bool)))).2.2)) (Int.toNat x1) ((List.getD (List.set x2 (Int.toNat x1) (r1, (List.getD x2 (Int.toNat x1) (ByteArray.empty, false, ([] : List (Int × Bool)))).2.1, (List.getD x2 (Int.toNat x1) (ByteArray.empty, false, ([] : List (Int × Bool)))).2.2)) (Int.toNat x1) (ByteArray.empty, false, ([] : List (Int × Bool)))).1, (Int.tmod (IntKind.wrap IntKind.i64 (x0 + (1 : Int))) (3 : Int)) == (0 : Int), (List.getD (List.set x2 (Int.toNat x1) (r1, (List.getD x2 (Int.toNat x1) (ByteArray.empty, false, ([] : List (Int × Bool)))).2.1, (List.getD x2 (Int.toNat x1) (ByteArray.empty, false, ([] : List (Int × Bool)))).2.2)) (Int.toNat x1) (ByteArray.empty, false, ([] : List (Int × Bool)))).2.2)) (Int.toNat x1) (ByteArray.empty, false, ([] : List (Int × Bool)))).2.2, IntKind.wrap IntKind.i64 ((IntKind.wrap IntKind.i64 (x0 + (1 : Int))) + (1 : Int)))) fun r2 =>
         L0 (r2.1, IntKind.wrap IntKind.i64 (x1 + (1 : Int)), List.set (List.set (List.set x2 (Int.toNat x1) (r1, (List.getD x2 (Int.toNat x1) (ByteArray.empty, false, ([] : List (Int × Bool)))).2.1, (List.getD x2 (Int.toNat x1) (ByteArray.empty, false, ([] : List (Int × Bool)))).2.2)) (Int.toNat x1) ((List.getD (List.set x2 (Int.toNat x1) (r1, (List.getD x2 (Int.toNat x1) (ByteArray.empty, false, ([] : List (Int × Bool)))).2.1, (List.getD x2 (Int.toNat x1) (ByteArray.empty, false, ([] : List (Int × Bool)))).2.2)) (Int.toNat x1) (ByteArray.empty, false, ([] : List (Int × Bool)))).1, (Int.tmod (IntKind.wrap IntKind.i64 (x0 + (1 : Int))) (3 : Int)) == (0 : Int), (List.getD (List.set x2 (Int.toNat x1) (r1, (List.getD x2 (Int.toNat x1) (ByteArray.empty, false, ([] : List (Int × Bool)))).2.1, (List.getD x2 (Int.toNat x1) (ByteArray.empty, false, ([] : List (Int × Bool)))).2.2)) (Int.toNat x1) (ByteArray.empty, false, ([] : List (Int × Bool)))).2.2)) (Int.toNat x1) ((List.getD (List.set (List.set x2 (Int.toNat x1) (r1, (List.getD x2 (Int.toNat x1) (ByteArray.empty, false, ([] : List (Int × Bool)))).2.1, (List.getD x2 (Int.toNat x1) (ByteArray.empty, false, ([] : List (Int × Bool)))).2.2)) (Int.toNat x1) ((List.getD (List.set x2 (Int.toNat x1) (r1, (List.getD x2 (Int.toNat x1) (ByteArray.empty, false, ([] : List (Int × Bool)))).2.1, (List.getD x2 (Int.toNat x1) (ByteArray.empty, false, ([] : List (Int × Bool)))).2.2)) (Int.toNat x1) (ByteArray.empty, false, ([] : List (Int × Bool)))).1, (Int.tmod (IntKind.wrap IntKind.i64 (x0 + (1 : Int))) (3 : Int)) == (0 : Int), (List.getD (List.set x2 (Int.toNat x1) (r1, (List.getD x2 (Int.toNat x1) (ByteArray.empty, false, ([] : List (Int × Bool)))).2.1, (List.getD x2 (Int.toNat x1) (ByteArray.empty, false, ([] : List (Int × Bool)))).2.2)) (Int.toNat x1) (ByteArray.empty, false, ([] : List (Int × Bool)))).2.2)) (Int.toNat x1) (ByteArray.empty, false, ([] : List (Int × Bool)))).1, (List.getD (List.set (List.set x2 (Int.toNat x1) (r1, (List.getD x2 (Int.toNat x1) (ByteArray.empty, false, ([] : List (Int × Bool)))).2.1, (List.getD x2 (Int.toNat x1) (ByteArray.empty, false, ([] : List (Int × Bool)))).2.2)) (Int.toNat x1) ((List.getD (List.set x2 (Int.toNat x1) (r1, (List.getD x2 (Int.toNat x1) (ByteArray.empty, false, ([] : List (Int × Bool)))).2.1, (List.getD x2 (Int.toNat x1) (ByteArray.empty, false, ([] : List (Int × Bool)))).2.2)) (Int.toNat x1) (ByteArray.empty, false, ([] : List (Int × Bool)))).1, (Int.tmod (IntKind.wrap IntKind.i64 (x0 + (1 : Int))) (3 : Int)) == (0 : Int), (List.getD (List.set x2 (Int.toNat x1) (r1, (List.getD x2 (Int.toNat x1) (ByteArray.empty, false, ([] : List (Int × Bool)))).2.1, (List.getD x2 (Int.toNat x1) (ByteArray.empty, false, ([] : List (Int × Bool)))).2.2)) (Int.toNat x1) (ByteArray.empty, false, ([] : List (Int × Bool)))).2.2)) (Int.toNat x1) (ByteArray.empty, false, ([] : List (Int × Bool)))).2.1, r2.2))
       else
        none
      else
       none
     else
      none
    else
     none
  else
   some (x0, x2)
noncomputable def laws_markIndexS.ll0 : (Int × Int × (List (ByteArray × Bool × (List (Int × Bool))))) → LS
  | (x0, x1, x2) => ⟨[.ref 2 0 [] none 0, .cv ⟨.int .i64, x0⟩, .cv ⟨.int .i64, x1⟩], [⟨true, [⟨0, 0, .mk 2 ⟨.row K3, x2⟩⟩]⟩]⟩
noncomputable def laws_markIndexS.m (B0 : (Int × Int × (List (ByteArray × Bool × (List (Int × Bool))))) → Option (Int × (List (ByteArray × Bool × (List (Int × Bool)))))) : ((List (ByteArray × Bool × (List (Int × Bool)))) × Int) → Option (Int × (List (ByteArray × Bool × (List (Int × Bool)))))
  | (a0_0, a1_0) =>
  B0 (a1_0, (0 : Int), a0_0)
noncomputable def laws_markIndexS.sig : Sig := ⟨[.val false [⟨.row K3, 2, 2, true⟩], .val false [⟨.int .i64, 0, 0, false⟩]], [(.one, [(.int .i64, 0)])]⟩
noncomputable def laws_markIndexS.hint : Nat → Hint
  | 0 => ⟨[(0, .keep), (1, .keep), (5, .keep)], [(2, [2])]⟩
  | _ => ⟨[], []⟩
noncomputable def laws_markIndexS.join : Nat → Option Hint
  | _ => none
noncomputable def laws_markIndexS.body : Code := (Tryd.f86).body.getD .skip
noncomputable def laws_markIndexS.rv : List ResultVar := (Tryd.f86).results.toList
noncomputable def impl_RowPlan.s0 (L0 : ((List (ByteArray × Int × Bool)) × Int × Int × (List (Int × Int × Bool × Bool))) → Option (List (Int × Int × Bool × Bool))) : ((List (ByteArray × Int × Bool)) × Int × Int × (List (Int × Int × Bool × Bool))) → Option (List (Int × Int × Bool × Bool))
  | (x0, x1, x2, x3) =>
  bif decide (x2 < x1) then
   bif decide (0 ≤ x2) && decide (x2 < (List.length x0 : Int)) then
    bif decide ((List.length x3 + List.length ([(x2, (List.getD x0 (Int.toNat x2) (ByteArray.empty, (0 : Int), false)).2.1, (List.getD x0 (Int.toNat x2) (ByteArray.empty, (0 : Int), false)).2.2, false)] : List (Int × Int × Bool × Bool))) * 24 ≤ 140737488355328) then
     L0 (x0, x1, IntKind.wrap IntKind.i64 (x2 + (1 : Int)), x3 ++ ([(x2, (List.getD x0 (Int.toNat x2) (ByteArray.empty, (0 : Int), false)).2.1, (List.getD x0 (Int.toNat x2) (ByteArray.empty, (0 : Int), false)).2.2, false)] : List (Int × Int × Bool × Bool)))
    else
     none
   else
    none
  else
   some x3
noncomputable def impl_RowPlan.ll0 : ((List (ByteArray × Int × Bool)) × Int × Int × (List (Int × Int × Bool × Bool))) → LS
  | (x0, x1, x2, x3) => ⟨[.ref 12 0 [] none 0, .cv ⟨.row K1, x0⟩, .cv ⟨.int .i64, x1⟩, .cv ⟨.int .i64, x2⟩], [⟨true, [⟨0, 0, .mk 9 ⟨.row K4, x3⟩⟩]⟩]⟩
noncomputable def impl_RowPlan.m (c21 : ByteArray × (List (ByteArray × Int × Bool)) × (List (Int × Bool)) × (List (ByteArray × Bool × (List (Int × Bool)))) → Option (Int)) (B0 : ((List (ByteArray × Int × Bool)) × Int × Int × (List (Int × Int × Bool × Bool))) → Option (List (Int × Int × Bool × Bool))) : (ByteArray × (List (ByteArray × Int × Bool)) × (List (Int × Bool)) × (List (ByteArray × Bool × (List (Int × Bool))))) → Option (List (Int × Int × Bool × Bool))
  | (a0_0, a0_1, a0_2, a0_3) =>
  Option.bind (c21 (a0_0, a0_1, a0_2, a0_3)) fun r1 =>
   bif r1 != (0 : Int) then
    some ([] : List (Int × Int × Bool × Bool))
   else
    B0 (a0_1, (List.length a0_1 : Int), (0 : Int), ([] : List (Int × Int × Bool × Bool)))
noncomputable def impl_RowPlan.sig : Sig := ⟨[.val true [⟨.str, 0, 0, false⟩, ⟨.row K1, 0, 0, false⟩, ⟨.row K2, 0, 0, false⟩, ⟨.row K3, 0, 0, false⟩]], [(.one, [(.row K4, 1)])]⟩
noncomputable def impl_RowPlan.hint : Nat → Hint
  | 0 => ⟨[(3, .own 9 K4), (10, .keep), (11, .keep), (12, .keep)], []⟩
  | _ => ⟨[], []⟩
noncomputable def impl_RowPlan.join : Nat → Option Hint
  | _ => none
noncomputable def impl_RowPlan.body : Code := (Tryd.f43).body.getD .skip
noncomputable def impl_RowPlan.rv : List ResultVar := (Tryd.f43).results.toList
noncomputable def spec_l11Part.m  : (ByteArray × (List (ByteArray × Int × Bool)) × (List (Int × Bool)) × (List (ByteArray × Bool × (List (Int × Bool)))) × Int × Bool) → Option (Int × Int × Bool × Bool)
  | (a0_0, a0_1, a0_2, a0_3, a1_0, a2_0) =>
  bif decide (0 ≤ a1_0) && decide (a1_0 < (List.length a0_1 : Int)) then
   bif decide (0 ≤ a1_0) && decide (a1_0 < (List.length a0_1 : Int)) then
    some (a1_0, (List.getD a0_1 (Int.toNat a1_0) (ByteArray.empty, (0 : Int), false)).2.1, (List.getD a0_1 (Int.toNat a1_0) (ByteArray.empty, (0 : Int), false)).2.2, a2_0)
   else
    none
  else
   none
noncomputable def spec_l11Part.sig : Sig := ⟨[.val true [⟨.str, 0, 0, false⟩, ⟨.row K1, 0, 0, false⟩, ⟨.row K2, 0, 0, false⟩, ⟨.row K3, 0, 0, false⟩], .val false [⟨.int .i64, 0, 0, false⟩], .val false [⟨.bool, 0, 0, false⟩]], [(.agg, [(.int .i64, 0), (.int .i64, 0), (.bool, 0), (.bool, 0)])]⟩
noncomputable def spec_l11Part.hint : Nat → Hint
  | _ => ⟨[], []⟩
noncomputable def spec_l11Part.join : Nat → Option Hint
  | _ => none
noncomputable def spec_l11Part.body : Code := (Tryd.f99).body.getD .skip
noncomputable def spec_l11Part.rv : List ResultVar := (Tryd.f99).results.toList
noncomputable def spec_RowPlan.s0 (c23 : ByteArray × (List (ByteArray × Int × Bool)) × (List (Int × Bool)) × (List (ByteArray × Bool × (List (Int × Bool)))) → Option (Int)) (c99 : ByteArray × (List (ByteArray × Int × Bool)) × (List (Int × Bool)) × (List (ByteArray × Bool × (List (Int × Bool)))) × Int × Bool → Option (Int × Int × Bool × Bool)) (L0 : (Int × ByteArray × (List (ByteArray × Int × Bool)) × (List (Int × Bool)) × (List (ByteArray × Bool × (List (Int × Bool)))) × (List (Int × Int × Bool × Bool))) → Option (List (Int × Int × Bool × Bool))) : (Int × ByteArray × (List (ByteArray × Int × Bool)) × (List (Int × Bool)) × (List (ByteArray × Bool × (List (Int × Bool)))) × (List (Int × Int × Bool × Bool))) → Option (List (Int × Int × Bool × Bool))
  | (x0, x1, x2, x3, x4, x5) =>
  bif decide (x0 < (List.length x2 : Int)) then
   Option.bind (c23 (x1, x2, x3, x4)) fun r1 =>
    bif r1 == (0 : Int) then
     Option.bind (c99 (x1, x2, x3, x4, x0, false)) fun r2 =>
      bif decide ((List.length x5 + List.length ([(r2.1, r2.2.1, r2.2.2.1, r2.2.2.2)] : List (Int × Int × Bool × Bool))) * 24 ≤ 140737488355328) then
       L0 (IntKind.wrap IntKind.i64 (x0 + (1 : Int)), x1, x2, x3, x4, x5 ++ ([(r2.1, r2.2.1, r2.2.2.1, r2.2.2.2)] : List (Int × Int × Bool × Bool)))
      else
       none
    else
     some x5
  else
   some x5
noncomputable def spec_RowPlan.ll0 : (Int × ByteArray × (List (ByteArray × Int × Bool)) × (List (Int × Bool)) × (List (ByteArray × Bool × (List (Int × Bool)))) × (List (Int × Int × Bool × Bool))) → LS
  | (x0, x1, x2, x3, x4, x5) => ⟨[.addr 65 0 [] 0, .ref 12 0 [] none 0, .cv ⟨.int .i64, x0⟩], [⟨false, [⟨0, 0, .mk 0 ⟨.str, x1⟩⟩, ⟨0, 0, .mk 0 ⟨.row K1, x2⟩⟩, ⟨0, 0, .mk 0 ⟨.row K2, x3⟩⟩, ⟨0, 0, .mk 0 ⟨.row K3, x4⟩⟩]⟩, ⟨true, [⟨0, 0, .mk 9 ⟨.row K4, x5⟩⟩]⟩]⟩
noncomputable def spec_RowPlan.m (B0 : (Int × ByteArray × (List (ByteArray × Int × Bool)) × (List (Int × Bool)) × (List (ByteArray × Bool × (List (Int × Bool)))) × (List (Int × Int × Bool × Bool))) → Option (List (Int × Int × Bool × Bool))) : (ByteArray × (List (ByteArray × Int × Bool)) × (List (Int × Bool)) × (List (ByteArray × Bool × (List (Int × Bool))))) → Option (List (Int × Int × Bool × Bool))
  | (a0_0, a0_1, a0_2, a0_3) =>
  B0 ((0 : Int), a0_0, a0_1, a0_2, a0_3, ([] : List (Int × Int × Bool × Bool)))
noncomputable def spec_RowPlan.sig : Sig := ⟨[.val true [⟨.str, 0, 0, false⟩, ⟨.row K1, 0, 0, false⟩, ⟨.row K2, 0, 0, false⟩, ⟨.row K3, 0, 0, false⟩]], [(.one, [(.row K4, 1)])]⟩
noncomputable def spec_RowPlan.hint : Nat → Hint
  | 0 => ⟨[(1, .keep), (3, .own 9 K4), (4, .keep)], [(65, [0, 0, 0, 0])]⟩
  | _ => ⟨[], []⟩
noncomputable def spec_RowPlan.join : Nat → Option Hint
  | _ => none
noncomputable def spec_RowPlan.body : Code := (Tryd.f45).body.getD .skip
noncomputable def spec_RowPlan.rv : List ResultVar := (Tryd.f45).results.toList
noncomputable def laws_eqPart.m  : (Int × Int × Bool × Bool × Int × Int × Bool × Bool) → Option (Bool)
  | (a0_0, a0_1, a0_2, a0_3, a1_0, a1_1, a1_2, a1_3) =>
  bif a0_0 != a1_0 then
   some false
  else
   bif a0_1 != a1_1 then
    some false
   else
    bif !(a0_2 == a1_2) then
     some false
    else
     bif !(a0_3 == a1_3) then
      some false
     else
      some true
noncomputable def laws_eqPart.sig : Sig := ⟨[.val true [⟨.int .i64, 0, 0, false⟩, ⟨.int .i64, 0, 0, false⟩, ⟨.bool, 0, 0, false⟩, ⟨.bool, 0, 0, false⟩], .val true [⟨.int .i64, 0, 0, false⟩, ⟨.int .i64, 0, 0, false⟩, ⟨.bool, 0, 0, false⟩, ⟨.bool, 0, 0, false⟩]], [(.one, [(.bool, 0)])]⟩
noncomputable def laws_eqPart.hint : Nat → Hint
  | _ => ⟨[], []⟩
noncomputable def laws_eqPart.join : Nat → Option Hint
  | _ => none
noncomputable def laws_eqPart.body : Code := (Tryd.f100).body.getD .skip
noncomputable def laws_eqPart.rv : List ResultVar := (Tryd.f100).results.toList
noncomputable def laws_eqPartS.s0 (c100 : Int × Int × Bool × Bool × Int × Int × Bool × Bool → Option (Bool)) (L0 : ((List (Int × Int × Bool × Bool)) × (List (Int × Int × Bool × Bool)) × Int) → Option (Bool)) : ((List (Int × Int × Bool × Bool)) × (List (Int × Int × Bool × Bool)) × Int) → Option (Bool)
  | (x0, x1, x2) =>
  bif decide (x2 < (List.length x0 : Int)) then
   bif decide (0 ≤ x2) && decide (x2 < (List.length x0 : Int)) then
    bif decide (0 ≤ x2) && decide (x2 < (List.length x1 : Int)) then
     Option.bind (c100 ((List.getD x0 (Int.toNat x2) ((0 : Int), (0 : Int), false, false)).1, (List.getD x0 (Int.toNat x2) ((0 : Int), (0 : Int), false, false)).2.1, (List.getD x0 (Int.toNat x2) ((0 : Int), (0 : Int), false, false)).2.2.1, (List.getD x0 (Int.toNat x2) ((0 : Int), (0 : Int), false, false)).2.2.2, (List.getD x1 (Int.toNat x2) ((0 : Int), (0 : Int), false, false)).1, (List.getD x1 (Int.toNat x2) ((0 : Int), (0 : Int), false, false)).2.1, (List.getD x1 (Int.toNat x2) ((0 : Int), (0 : Int), false, false)).2.2.1, (List.getD x1 (Int.toNat x2) ((0 : Int), (0 : Int), false, false)).2.2.2)) fun r1 =>
      bif !(r1) then
       some false
      else
       L0 (x0, x1, IntKind.wrap IntKind.i64 (x2 + (1 : Int)))
    else
     none
   else
    none
  else
   some true
noncomputable def laws_eqPartS.ll0 : ((List (Int × Int × Bool × Bool)) × (List (Int × Int × Bool × Bool)) × Int) → LS
  | (x0, x1, x2) => ⟨[.cv ⟨.row K4, x0⟩, .cv ⟨.row K4, x1⟩, .cv ⟨.int .i64, x2⟩], []⟩
noncomputable def laws_eqPartS.m (B0 : ((List (Int × Int × Bool × Bool)) × (List (Int × Int × Bool × Bool)) × Int) → Option (Bool)) : ((List (Int × Int × Bool × Bool)) × (List (Int × Int × Bool × Bool))) → Option (Bool)
  | (a0_0, a1_0) =>
  bif (List.length a0_0 : Int) != (List.length a1_0 : Int) then
   some false
  else
   B0 (a0_0, a1_0, (0 : Int))
noncomputable def laws_eqPartS.sig : Sig := ⟨[.val false [⟨.row K4, 0, 0, false⟩], .val false [⟨.row K4, 0, 0, false⟩]], [(.one, [(.bool, 0)])]⟩
noncomputable def laws_eqPartS.hint : Nat → Hint
  | 0 => ⟨[(0, .keep), (1, .keep), (5, .keep)], []⟩
  | _ => ⟨[], []⟩
noncomputable def laws_eqPartS.join : Nat → Option Hint
  | _ => none
noncomputable def laws_eqPartS.body : Code := (Tryd.f46).body.getD .skip
noncomputable def laws_eqPartS.rv : List ResultVar := (Tryd.f46).results.toList
noncomputable def laws_markDef.m (c84 : (List (ByteArray × Int × Bool)) × Int → Option (Int × (List (ByteArray × Int × Bool)))) (c85 : (List (Int × Bool)) × Int → Option (Int × (List (Int × Bool)))) (c86 : (List (ByteArray × Bool × (List (Int × Bool)))) × Int → Option (Int × (List (ByteArray × Bool × (List (Int × Bool)))))) : (ByteArray × (List (ByteArray × Int × Bool)) × (List (Int × Bool)) × (List (ByteArray × Bool × (List (Int × Bool)))) × Int) → Option (Int × (List (ByteArray × Int × Bool)) × (List (Int × Bool)) × (List (ByteArray × Bool × (List (Int × Bool)))))
  | (a0_0, a0_1, a0_2, a0_3, a1_0) =>
  Option.bind (c84 (a0_1, a1_0)) fun r1 =>
   Option.bind (c85 (a0_2, r1.1)) fun r2 =>
    Option.bind (c86 (a0_3, r2.1)) fun r3 =>
     some (r3.1, r1.2, r2.2, r3.2)
noncomputable def laws_markDef.sig : Sig := ⟨[.val true [⟨.str, 0, 0, false⟩, ⟨.row K1, 1, 1, true⟩, ⟨.row K2, 1, 1, true⟩, ⟨.row K3, 2, 2, true⟩], .val false [⟨.int .i64, 0, 0, false⟩]], [(.one, [(.int .i64, 0)])]⟩
noncomputable def laws_markDef.hint : Nat → Hint
  | _ => ⟨[], []⟩
noncomputable def laws_markDef.join : Nat → Option Hint
  | _ => none
noncomputable def laws_markDef.body : Code := (Tryd.f47).body.getD .skip
noncomputable def laws_markDef.rv : List ResultVar := (Tryd.f47).results.toList
noncomputable def laws_markPartS.s0 (L0 : (Int × Int × (List (Int × Int × Bool × Bool))) → Option (Int × (List (Int × Int × Bool × Bool)))) : (Int × Int × (List (Int × Int × Bool × Bool))) → Option (Int × (List (Int × Int × Bool × Bool)))
  | (x0, x1, x2) =>
  bif decide (x1 < (List.length x2 : Int)) then
   bif decide (0 ≤ x1) && decide (x1 < (List.length x2 : Int)) then
    bif decide (0 ≤ x1) && decide (x1 < (List.length (List.set x2 (Int.toNat x1) (x0, (List.getD x2 (Int.toNat x1) ((0 : Int), (0 : Int), false, false)).2.1, (List.getD x2 (Int.toNat x1) ((0 : Int), (0 : Int), false, false)).2.2.1, (List.getD x2 (Int.toNat x1) ((0 : Int), (0 : Int), false, false)).2.2.2)) : Int)) then
     bif decide (¬ (3 : Int) = 0) then
      bif decide (0 ≤ x1) && decide (x1 < (List.length (List.set (List.set x2 (Int.toNat x1) (x0, (List.getD x2 (Int.toNat x1) ((0 : Int), (0 : Int), false, false)).2.1, (List.getD x2 (Int.toNat x1) ((0 : Int), (0 : Int), false, false)).2.2.1, (List.getD x2 (Int.toNat x1) ((0 : Int), (0 : Int), false, false)).2.2.2)) (Int.toNat x1) ((List.getD (List.set x2 (Int.toNat x1) (x0, (List.getD x2 (Int.toNat x1) ((0 : Int), (0 : Int), false, false)).2.1, (List.getD x2 (Int.toNat x1) ((0 : Int), (0 : Int), false, false)).2.2.1, (List.getD x2 (Int.toNat x1) ((0 : Int), (0 : Int), false, false)).2.2.2)) (Int.toNat x1) ((0 : Int), (0 : Int), false, false)).1, IntKind.wrap IntKind.i64 (x0 + (1 : Int)), (List.getD (List.set x2 (Int.toNat x1) (x0, (List.getD x2 (Int.toNat x1) ((0 : Int), (0 : Int), false, false)).2.1, (List.getD x2 (Int.toNat x1) ((0 : Int), (0 : Int), false, false)).2.2.1, (List.getD x2 (Int.toNat x1) ((0 : Int), (0 : Int), false, false)).2.2.2)) (Int.toNat x1) ((0 : Int), (0 : Int), false, false)).2.2.1, (List.getD (List.set x2 (Int.toNat x1) (x0, (List.getD x2 (Int.toNat x1) ((0 : Int), (0 : Int), false, false)).2.1, (List.getD x2 (Int.toNat x1) ((0 : Int), (0 : Int), false, false)).2.2.1, (List.getD x2 (Int.toNat x1) ((0 : Int), (0 : Int), false, false)).2.2.2)) (Int.toNat x1) ((0 : Int), (0 : Int), false, false)).2.2.2)) : Int)) then
       bif decide (¬ (3 : Int) = 0) then
        bif decide (0 ≤ x1) && decide (x1 < (List.length (List.set (List.set (List.set x2 (Int.toNat x1) (x0, (List.getD x2 (Int.toNat x1) ((0 : Int), (0 : Int), false, false)).2.1, (List.getD x2 (Int.toNat x1) ((0 : Int), (0 : Int), false, false)).2.2.1, (List.getD x2 (Int.toNat x1) ((0 : Int), (0 : Int), false, false)).2.2.2)) (Int.toNat x1) ((List.getD (List.set x2 (Int.toNat x1) (x0, (List.getD x2 (Int.toNat x1) ((0 : Int), (0 : Int), false, false)).2.1, (List.getD x2 (Int.toNat x1) ((0 : Int), (0 : Int), false, false)).2.2.1, (List.getD x2 (Int.toNat x1) ((0 : Int), (0 : Int), false, false)).2.2.2)) (Int.toNat x1) ((0 : Int), (0 : Int), false, false)).1, IntKind.wrap IntKind.i64 (x0 + (1 : Int)), (List.getD (List.set x2 (Int.toNat x1) (x0, (List.getD x2 (Int.toNat x1) ((0 : Int), (0 : Int), false, false)).2.1, (List.getD x2 (Int.toNat x1) ((0 : Int), (0 : Int), false, false)).2.2.1, (List.getD x2 (Int.toNat x1) ((0 : Int), (0 : Int), false, false)).2.2.2)) (Int.toNat x1) ((0 : Int), (0 : Int), false, false)).2.2.1, (List.getD (List.set x2 (Int.toNat x1) (x0, (List.getD x2 (Int.toNat x1) ((0 : Int), (0 : Int), false, false)).2.1, (List.getD x2 (Int.toNat x1) ((0 : Int), (0 : Int), false, false)).2.2.1, (List.getD x2 (Int.toNat x1) ((0 : Int), (0 : Int), false, false)).2.2.2)) (Int.toNat x1) ((0 : Int), (0 : Int), false, false)).2.2.2)) (Int.toNat x1) ((List.getD (List.set (List.set x2 (Int.toNat x1) (x0, (List.getD x2 (Int.toNat x1) ((0 : Int), (0 : Int), false, false)).2.1, (List.getD x2 (Int.toNat x1) ((0 : Int), (0 : Int), false, false)).2.2.1, (List.getD x2 (Int.toNat x1) ((0 : Int), (0 : Int), false, false)).2.2.2)) (Int.toNat x1) ((List.getD (List.set x2 (Int.toNat x1) (x0, (List.getD x2 (Int.toNat x1) ((0 : Int), (0 : Int), false, false)).2.1, (List.getD x2 (Int.toNat x1) ((0 : Int), (0 : Int), false, false)).2.2.1, (List.getD x2 (Int.toNat x1) ((0 : Int), (0 : Int), false, false)).2.2.2)) (Int.toNat x1) ((0 : Int), (0 : Int), false, false)).1, IntKind.wrap IntKind.i64 (x0 + (1 : Int)), (List.getD (List.set x2 (Int.toNat x1) (x0, (List.getD x2 (Int.toNat x1) ((0 : Int), (0 : Int), false, false)).2.1, (List.getD x2 (Int.toNat x1) ((0 : Int), (0 : Int), false, false)).2.2.1, (List.getD x2 (Int.toNat x1) ((0 : Int), (0 : Int), false, false)).2.2.2)) (Int.toNat x1) ((0 : Int), (0 : Int), false, false)).2.2.1, (List.getD (List.set x2 (Int.toNat x1) (x0, (List.getD x2 (Int.toNat x1) ((0 : Int), (0 : Int), false, false)).2.1, (List.getD x2 (Int.toNat x1) ((0 : Int), (0 : Int), false, false)).2.2.1, (List.getD x2 (Int.toNat x1) ((0 : Int), (0 : Int), false, false)).2.2.2)) (Int.toNat x1) ((0 : Int), (0 : Int), false, false)).2.2.2)) (Int.toNat x1) ((0 : Int), (0 : Int), false, false)).1, (List.getD (List.set (List.set x2 (Int.toNat x1) (x0, (List.getD x2 (Int.toNat x1) ((0 : Int), (0 : Int), false, false)).2.1, (List.getD x2 (Int.toNat x1) ((0 : Int), (0 : Int), false, false)).2.2.1, (List.getD x2 (Int.toNat x1) ((0 : Int), (0 : Int), false, false)).2.2.2)) (Int.toNat x1) ((List.getD (List.set x2 (Int.toNat x1) (x0, (List.getD x2 (Int.toNat x1) ((0 : Int), (0 : Int), false, false)).2.1, (List.getD x2 (Int.toNat x1) ((0 : Int), (0 : Int), false, false)).2.2.1, (List.getD x2 (Int.toNat x1) ((0 : Int), (0 : Int), false, false)).2.2.2)) (Int.toNat x1) ((0 : Int), (0 : Int), false, false)).1, IntKind.wrap IntKind.i64 (x0 + (1 : Int)), (List.getD (List.set x2 (Int.toNat x1) (x0, (List.getD x2 (Int.toNat x1) ((0 : Int), (0 : Int), false, false)).2.1, (List.getD x2 (Int.toNat x1) ((0 : Int), (0 : Int), false, false)).2.2.1, (List.getD x2 (Int.toNat x1) ((0 : Int), (0 : Int), false, false)).2.2.2)) (Int.toNat x1) ((0 : Int), (0 : Int), false, false)).2.2.1, (List.getD (List.set x2 (Int.toNat x1) (x0, (List.getD x2 (Int.toNat x1) ((0 : Int), (0 : Int), false, false)).2.1, (List.getD x2 (Int.toNat x1) ((0 : Int), (0 : Int), false, false)).2.2.1, (List.getD x2 (Int.toNat x1) ((0 : Int), (0 : Int), false, false)).2.2.2)) (Int.toNat x1) ((0 : Int), (0 : Int), false, false)).2.2.2)) (Int.toNat x1) ((0 : Int), (0 : Int), false, false)).2.1, (Int.tmod (IntKind.wrap IntKind.i64 ((IntKind.wrap IntKind.i64 (x0 + (1 : Int))) + (1 : Int))) (3 : Int)) == (0 : Int), (List.getD (List.set (List.set x2 (Int.toNat x1) (x0, (List.getD x2 (Int.toNat x1) ((0 : Int), (0 : Int), false, false)).2.1, (List.getD x2 (Int.toNat x1) ((0 : Int), (0 : Int), false, false)).2.2.1, (List.getD x2 (Int.toNat x1) ((0 : Int), (0 : Int), false, false)).2.2.2)) (Int.toNat x1) ((List.getD (List.set x2 (Int.toNat x1) (x0, (List.getD x2 (Int.toNat x1) ((0 : Int), (0 : Int), false, false)).2.1, (List.getD x2 (Int.toNat x1) ((0 : Int), (0 : Int), false, false)).2.2.1, (List.getD x2 (Int.toNat x1) ((0 : Int), (0 : Int), false, false)).2.2.2)) (Int.toNat x1) ((0 : Int), (0 : Int), false, false)).1, IntKind.wrap IntKind.i64 (x0 + (1 : Int)), (List.getD (List.set x2 (Int.toNat x1) (x0, (List.getD x2 (Int.toNat x1) ((0 : Int), (0 : Int), false, false)).2.1, (List.getD x2 (Int.toNat x1) ((0 : Int), (0 : Int), false, false)).2.2.1, (List.getD x2 (Int.toNat x1) ((0 : Int), (0 : Int), false, false)).2.2.2)) (Int.toNat x1) ((0 : Int), (0 : Int), false, false)).2.2.1, (List.getD (List.set x2 (Int.toNat x1) (x0, (List.getD x2 (Int.toNat x1) ((0 : Int), (0 : Int), false, false)).2.1, (List.getD x2 (Int.toNat x1) ((0 : Int), (0 : Int), false, false)).2.2.1, (List.getD x2 (Int.toNat x1) ((0 : Int), (0 : Int), false, false)).2.2.2)) (Int.toNat x1) ((0 : Int), (0 : Int), false, false)).2.2.2)) (Int.toNat x1) ((0 : Int), (0 : Int), false, false)).2.2.2)) : Int)) then
         L0 (IntKind.wrap IntKind.i64 ((IntKind.wrap IntKind.i64 ((IntKind.wrap IntKind.i64 ((IntKind.wrap IntKind.i64 (x0 + (1 : Int))) + (1 : Int))) + (1 : Int))) + (1 : Int)), IntKind.wrap IntKind.i64 (x1 + (1 : Int)), List.set (List.set (List.set (List.set x2 (Int.toNat x1) (x0, (List.getD x2 (Int.toNat x1) ((0 : Int), (0 : Int), false, false)).2.1, (List.getD x2 (Int.toNat x1) ((0 : Int), (0 : Int), false, false)).2.2.1, (List.getD x2 (Int.toNat x1) ((0 : Int), (0 : Int), false, false)).2.2.2)) (Int.toNat x1) ((List.getD (List.set x2 (Int.toNat x1) (x0, (List.getD x2 (Int.toNat x1) ((0 : Int), (0 : Int), false, false)).2.1, (List.getD x2 (Int.toNat x1) ((0 : Int), (0 : Int), false, false)).2.2.1, (List.getD x2 (Int.toNat x1) ((0 : Int), (0 : Int), false, false)).2.2.2)) (Int.toNat x1) ((0 : Int), (0 : Int), false, false)).1, IntKind.wrap IntKind.i64 (x0 + (1 : Int)), (List.getD (List.set x2 (Int.toNat x1) (x0, (List.getD x2 (Int.toNat x1) ((0 : Int), (0 : Int), false, false)).2.1, (List.getD x2 (Int.toNat x1) ((0 : Int), (0 : Int), false, false)).2.2.1, (List.getD x2 (Int.toNat x1) ((0 : Int), (0 : Int), false, false)).2.2.2)) (Int.toNat x1) ((0 : Int), (0 : Int), false, false)).2.2.1, (List.getD (List.set x2 (Int.toNat x1) (x0, (List.getD x2 (Int.toNat x1) ((0 : Int), (0 : Int), false, false)).2.1, (List.getD x2 (Int.toNat x1) ((0 : Int), (0 : Int), false, false)).2.2.1, (List.getD x2 (Int.toNat x1) ((0 : Int), (0 : Int), false, false)).2.2.2)) (Int.toNat x1) ((0 : Int), (0 : Int), false, false)).2.2.2)) (Int.toNat x1) ((List.getD (List.set (List.set x2 (Int.toNat x1) (x0, (List.getD x2 (Int.toNat x1) ((0 : Int), (0 : Int), false, false)).2.1, (List.getD x2 (Int.toNat x1) ((0 : Int), (0 : Int), false, false)).2.2.1, (List.getD x2 (Int.toNat x1) ((0 : Int), (0 : Int), false, false)).2.2.2)) (Int.toNat x1) ((List.getD (List.set x2 (Int.toNat x1) (x0, (List.getD x2 (Int.toNat x1) ((0 : Int), (0 : Int), false, false)).2.1, (List.getD x2 (Int.toNat x1) ((0 : Int), (0 : Int), false, false)).2.2.1, (List.getD x2 (Int.toNat x1) ((0 : Int), (0 : Int), false, false)).2.2.2)) (Int.toNat x1) ((0 : Int), (0 : Int), false, false)).1, IntKind.wrap IntKind.i64 (x0 + (1 : Int)), (List.getD (List.set x2 (Int.toNat x1) (x0, (List.getD x2 (Int.toNat x1) ((0 : Int), (0 : Int), false, false)).2.1, (List.getD x2 (Int.toNat x1) ((0 : Int), (0 : Int), false, false)).2.2.1, (List.getD x2 (Int.toNat x1) ((0 : Int), (0 : Int), false, false)).2.2.2)) (Int.toNat x1) ((0 : Int), (0 : Int), false, false)).2.2.1, (List.getD (List.set x2 (Int.toNat x1) (x0, (List.getD x2 (Int.toNat x1) ((0 : Int), (0 : Int), false, false)).2.1, (List.getD x2 (Int.toNat x1) ((0 : Int), (0 : Int), false, false)).2.2.1, (List.getD x2 (Int.toNat x1) ((0 : Int), (0 : Int), false, false)).2.2.2)) (Int.toNat x1) ((0 : Int), (0 : Int), false, false)).2.2.2)) (Int.toNat x1) ((0 : Int), (0 : Int), false, false)).1, (List.getD (List.set (List.set x2 (Int.toNat x1) (x0, (List.getD x2 (Int.toNat x1) ((0 : Int), (0 : Int), false, false)).2.1, (List.getD x2 (Int.toNat x1) ((0 : Int), (0 : Int), false, false)).2.2.1, (List.getD x2 (Int.toNat x1) ((0 : Int), (0 : Int), false, false)).2.2.2)) (Int.toNat x1) ((List.getD (List.set x2 (Int.toNat x1) (x0, (List.getD x2 (Int.toNat x1) ((0 : Int), (0 : Int), false, false)).2.1, (List.getD x2 (Int.toNat x1) ((0 : Int), (0 : Int), false, false)).2.2.1, (List.getD x2 (Int.toNat x1) ((0 : Int), (0 : Int), false, false)).2.2.2)) (Int.toNat x1) ((0 : Int), (0 : Int), false, false)).1, IntKind.wrap IntKind.i64 (x0 + (1 : Int)), (List.getD (List.set x2 (Int.toNat x1) (x0, (List.getD x2 (Int.toNat x1) ((0 : Int), (0 : Int), false, false)).2.1, (List.getD x2 (Int.toNat x1) ((0 : Int), (0 : Int), false, false)).2.2.1, (List.getD x2 (Int.toNat x1) ((0 : Int), (0 : Int), false, false)).2.2.2)) (Int.toNat x1) ((0 : Int), (0 : Int), false, false)).2.2.1, (List.getD (List.set x2 (Int.toNat x1) (x0, (List.getD x2 (Int.toNat x1) ((0 : Int), (0 : Int), false, false)).2.1, (List.getD x2 (Int.toNat x1) ((0 : Int), (0 : Int), false, false)).2.2.1, (List.getD x2 (Int.toNat x1) ((0 : Int), (0 : Int), false, false)).2.2.2)) (Int.toNat x1) ((0 : Int), (0 : Int), false, false)).2.2.2)) (Int.toNat x1) ((0 : Int), (0 : Int), false, false)).2.1, (Int.tmod (IntKind.wrap IntKind.i64 ((IntKind.wrap IntKind.i64 (x0 + (1 : Int))) + (1 : Int))) (3 : Int)) == (0 : Int), (List.getD (List.set (List.set x2 (Int.toNat x1) (x0, (List.getD x2 (Int.toNat x1) ((0 : Int), (0 : Int), false, false)).2.1, (List.getD x2 (Int.toNat x1) ((0 : Int), (0 : Int), false, false)).2.2.1, (List.getD x2 (Int.toNat x1) ((0 : Int), (0 : Int), false, false)).2.2.2)) (Int.toNat x1) ((List.getD (List.set x2 (Int.toNat x1) (x0, (List.getD x2 (Int.toNat x1) ((0 : Int), (0 : Int), false, false)).2.1, (List.getD x2 (Int.toNat x1) ((0 : Int), (0 : Int), false, false)).2.2.1, (List.getD x2 (Int.toNat x1) ((0 : Int), (0 : Int), false, false)).2.2.2)) (Int.toNat x1) ((0 : Int), (0 : Int), false, false)).1, IntKind.wrap IntKind.i64 (x0 + (1 : Int)), (List.getD (List.set x2 (Int.toNat x1) (x0, (List.getD x2 (Int.toNat x1) ((0 : Int), (0 : Int), false, false)).2.1, (List.getD x2 (Int.toNat x1) ((0 : Int), (0 : Int), false, false)).2.2.1, (List.getD x2 (Int.toNat x1) ((0 : Int), (0 : Int), false, false)).2.2.2)) (Int.toNat x1) ((0 : Int), (0 : Int), false, false)).2.2.1, (List.getD (List.set x2 (Int.toNat x1) (x0, (List.getD x2 (Int.toNat x1) ((0 : Int), (0 : Int), false, false)).2.1, (List.getD x2 (Int.toNat x1) ((0 : Int), (0 : Int), false, false)).2.2.1, (List.getD x2 (Int.toNat x1) ((0 : Int), (0 : Int), false, false)).2.2.2)) (Int.toNat x1) ((0 : Int), (0 : Int), false, false)).2.2.2)) (Int.toNat x1) ((0 : Int), (0 : Int), false, false)).2.2.2)) (Int.toNat x1) ((List.getD (List.set (List.set (List.set x2 (Int.toNat x1) (x0, (List.getD x2 (Int.toNat x1) ((0 : Int), (0 : Int), false, false)).2.1, (List.getD x2 (Int.toNat x1) ((0 : Int), (0 : Int), false, false)).2.2.1, (List.getD x2 (Int.toNat x1) ((0 : Int), (0 : Int), false, false)).2.2.2)) (Int.toNat x1) ((List.getD (List.set x2 (Int.toNat x1) (x0, (List.getD x2 (Int.toNat x1) ((0 : Int), (0 : Int), false, false)).2.1, (List.getD x2 (Int.toNat x1) ((0 : Int), (0 : Int), false, false)).2.2.1, (List.getD x2 (Int.toNat x1) ((0 : Int), (0 : Int), false, false)).2.2.2)) (Int.toNat x1) ((0 : Int), (0 : Int), false, false)).1, IntKind.wrap IntKind.i64 (x0 + (1 : Int)), (List.getD (List.set x2 (Int.toNat x1) (x0, (List.getD x2 (Int.toNat x1) ((0 : Int), (0 : Int), false, false)).2.1, (List.getD x2 (Int.toNat x1) ((0 : Int), (0 : Int), false, false)).2.2.1, (List.getD x2 (Int.toNat x1) ((0 : Int), (0 : Int), false, false)).2.2.2)) (Int.toNat x1) ((0 : Int), (0 : Int), false, false)).2.2.1, (List.getD (List.set x2 (Int.toNat x1) (x0, (List.getD x2 (Int.toNat x1) ((0 : Int), (0 : Int), false, false)).2.1, (List.getD x2 (Int.toNat x1) ((0 : Int), (0 : Int), false, false)).2.2.1, (List.getD x2 (Int.toNat x1) ((0 : Int), (0 : Int), false, false)).2.2.2)) (Int.toNat x1) ((0 : Int), (0 : Int), false, false)).2.2.2)) (Int.toNat x1) ((List.getD (List.set (List.set x2 (Int.toNat x1) (x0, (List.getD x2 (Int.toNat x1) ((0 : Int), (0 : Int), false, false)).2.1, (List.getD x2 (Int.toNat x1) ((0 : Int), (0 : Int), false, false)).2.2.1, (List.getD x2 (Int.toNat x1) ((0 : Int), (0 : Int), false, false)).2.2.2)) (Int.toNat x1) ((List.getD (List.set x2 (Int.toNat x1) (x0, (List.getD x2 (Int.toNat x1) ((0 : Int), (0 : Int), false, false)).2.1, (List.getD x2 (Int.toNat x1) ((0 : Int), (0 : Int), false, false)).2.2.1, (List.getD x2 (Int.toNat x1) ((0 : Int), (0 : Int), false, false)).2.2.2)) (Int.toNat x1) ((0 : Int), (0 : Int), false, false)).1, IntKind.wrap IntKind.i64 (x0 + (1 : Int)), (List.getD (List.set x2 (Int.toNat x1) (x0, (List.getD x2 (Int.toNat x1) ((0 : Int), (0 : Int), false, false)).2.1, (List.getD x2 (Int.toNat x1) ((0 : Int), (0 : Int), false, false)).2.2.1, (List.getD x2 (Int.toNat x1) ((0 : Int), (0 : Int), false, false)).2.2.2)) (Int.toNat x1) ((0 : Int), (0 : Int), false, false)).2.2.1, (List.getD (List.set x2 (Int.toNat x1) (x0, (List.getD x2 (Int.toNat x1) ((0 : Int), (0 : Int), false, false)).2.1, (List.getD x2 (Int.toNat x1) ((0 : Int), (0 : Int), false, false)).2.2.1, (List.getD x2 (Int.toNat x1) ((0 : Int), (0 : Int), false, false)).2.2.2)) (Int.toNat x1) ((0 : Int), (0 : Int), false, false)).2.2.2)) (Int.toNat x1) ((0 : Int), (0 : Int), false, false)).1, (List.getD (List.set (List.set x2 (Int.toNat x1) (x0, (List.getD x2 (Int.toNat x1) ((0 : Int), (0 : Int), false, false)).2.1, (List.getD x2 (Int.toNat x1) ((0 : Int), (0 : Int), false, false)).2.2.1, (List.getD x2 (Int.toNat x1) ((0 : Int), (0 : Int), false, false)).2.2.2)) (Int.toNat x1) ((List.getD (List.set x2 (Int.toNat x1) (x0, (List.getD x2 (Int.toNat x1) ((0 : Int), (0 : Int), false, false)).2.1, (List.getD x2 (Int.toNat x1) ((0 : Int), (0 : Int), false, false)).2.2.1, (List.getD x2 (Int.toNat x1) ((0 : Int), (0 : Int), false, false)).2.2.2)) (Int.toNat x1) ((0 : Int), (0 : Int), false, false)).1, IntKind.wrap IntKind.i64 (x0 + (1 : Int)), (List.getD (List.set x2 (Int.toNat x1) (x0, (List.getD x2 (Int.toNat x1) ((0 : Int), (0 : Int), false, false)).2.1, (List.getD x2 (Int.toNat x1) ((0 : Int), (0 : Int), false, false)).2.2.1, (List.getD x2 (Int.toNat x1) ((0 : Int), (0 : Int), false, false)).2.2.2)) (Int.toNat x1) ((0 : Int), (0 : Int), false, false)).2.2.1, (List.getD (List.set x2 (Int.toNat x1) (x0, (List.getD x2 (Int.toNat x1) ((0 : Int), (0 : Int), false, false)).2.1, (List.getD x2 (Int.toNat x1) ((0 : Int), (0 : Int), false, false)).2.2.1, (List.getD x2 (Int.toNat x1) ((0 : Int), (0 : Int), false, false)).2.2.2)) (Int.toNat x1) ((0 : Int), (0 : Int), false, false)).2.2.2)) (Int.toNat x1) ((0 : Int), (0 : Int), false, false)).2.1, (Int.tmod (IntKind.wrap IntKind.i64 ((IntKind.wrap IntKind.i64 (x0 + (1 : Int))) + (1 : Int))) (3 : Int)) == (0 : Int), (List.getD (List.set (List.set x2 (Int.toNat x1) (x0, (List.getD x2 (Int.toNat x1) ((0 : Int), (0 : Int), false, false)).2.1, (List.getD x2 (Int.toNat x1) ((0 : Int), (0 : Int), false, false)).2.2.1, (List.getD x2 (Int.toNat x1) ((0 : Int), (0 : Int), false, false)).2.2.2)) (Int.toNat x1) ((List.getD (List.set x2 (Int.toNat x1) (x0, (List.getD x2 (Int.toNat x1) ((0 : Int), (0 : Int), false, false)).2.1, (List.getD x2 (Int.toNat x1) ((0 : Int), (0 : Int), false, false)).2.2.1, (List.getD x2 (Int.toNat x1) ((0 : Int), (0 : Int), false, false)).2.2.2)) (Int.toNat x1) ((0 : Int), (0 : Int), false, false)).1, IntKind.wrap IntKind.i64 (x0 + (1 : Int)), (List.getD (List.set x2 (Int.toNat x1) (x0, (List.getD x2 (Int.toNat x1) ((0 : Int), (0 : Int), false, false)).2.1, (List.getD x2 (Int.toNat x1) ((0 : Int), (0 : Int), false, false)).2.2.1, (List.getD x2 (Int.toNat x1) ((0 : Int), (0 : Int), false, false)).2.2.2)) (Int.toNat x1) ((0 : Int), (0 : Int), false, false)).2.2.1, (List.getD (List.set x2 (Int.toNat x1) (x0, (List.getD x2 (Int.toNat x1) ((0 : Int), (0 : Int), false, false)).2.1, (List.getD x2 (Int.toNat x1) ((0 : Int), (0 : Int), false, false)).2.2.1, (List.getD x2 (Int.toNat x1) ((0 : Int), (0 : Int), false, false)).2.2.2)) (Int.toNat x1) ((0 : Int), (0 : Int), false, false)).2.2.2)) (Int.toNat x1) ((0 : Int), (0 : Int), false, false)).2.2.2)) (Int.toNat x1) ((0 : Int), (0 : Int), false, false)).1, (List.getD (List.set (List.set (List.set x2 (Int.toNat x1) (x0, (List.getD x2 (Int.toNat x1) ((0 : Int), (0 : Int), false, false)).2.1, (List.getD x2 (Int.toNat x1) ((0 : Int), (0 : Int), false, false)).2.2.1, (List.getD x2 (Int.toNat x1) ((0 : Int), (0 : Int), false, false)).2.2.2)) (Int.toNat x1) ((List.getD (List.set x2 (Int.toNat x1) (x0, (List.getD x2 (Int.toNat x1) ((0 : Int), (0 : Int), false, false)).2.1, (List.getD x2 (Int.toNat x1) ((0 : Int), (0 : Int), false, false)).2.2.1, (List.getD x2 (Int.toNat x1) ((0 : Int), (0 : Int), false, false)).2.2.2)) (Int.toNat x1) ((0 : Int), (0 : Int), false, false)).1, IntKind.wrap IntKind.i64 (x0 + (1 : Int)), (List.getD (List.set x2 (Int.toNat x1) (x0, (List.getD x2 (Int.toNat x1) ((0 : Int), (0 : Int), false, false)).2.1, (List.getD x2 (Int.toNat x1) ((0 : Int), (0 : Int), false, false)).2.2.1, (List.getD x2 (Int.toNat x1) ((0 : Int), (0 : Int), false, false)).2.2.2)) (Int.toNat x1) ((0 : Int), (0 : Int), false, false)).2.2.1, (List.getD (List.set x2 (Int.toNat x1) (x0, (List.getD x2 (Int.toNat x1) ((0 : Int), (0 : Int), false, false)).2.1, (List.getD x2 (Int.toNat x1) ((0 : Int), (0 : Int), false, false)).2.2.1, (List.getD x2 (Int.toNat x1) ((0 : Int), (0 : Int), false, false)).2.2.2)) (Int.toNat x1) ((0 : Int), (0 : Int), false, false)).2.2.2)) (Int.toNat x1) ((List.getD (List.set (List.set x2 (Int.toNat x1) (x0, (List.getD x2 (Int.toNat x1) ((0 : Int), (0 : Int), false, false)).2.1, (List.getD x2 (Int.toNat x1) ((0 : Int), (0 : Int), false, false)).2.2.1, (List.getD x2 (Int.toNat x1) ((0 : Int), (0 : Int), false, false)).2.2.2)) (Int.toNat x1) ((List.getD (List.set x2 (Int.toNat x1) (x0, (List.getD x2 (Int.toNat x1) ((0 : Int), (0 : Int), false, false)).2.1, (List.getD x2 (Int.toNat x1) ((0 : Int), (0 : Int), false, false)).2.2.1, (List.getD x2 (Int.toNat x1) ((0 : Int), (0 : Int), false, false)).2.2.2)) (Int.toNat x1) ((0 : Int), (0 : Int), false, false)).1, IntKind.wrap IntKind.i64 (x0 + (1 : Int)), (List.getD (List.set x2 (Int.toNat x1) (x0, (List.getD x2 (Int.toNat x1) ((0 : Int), (0 : Int), false, false)).2.1, (List.getD x2 (Int.toNat x1) ((0 : Int), (0 : Int), false, false)).2.2.1, (List.getD x2 (Int.toNat x1) ((0 : Int), (0 : Int), false, false)).2.2.2)) (Int.toNat x1) ((0 : Int), (0 : Int), false, false)).2.2.1, (List.getD (List.set x2 (Int.toNat x1) (x0, (List.getD x2 (Int.toNat x1) ((0 : Int), (0 : Int), false, false)).2.1, (List.getD x2 (Int.toNat x1) ((0 : Int), (0 : Int), false, false)).2.2.1, (List.getD x2 (Int.toNat x1) ((0 : Int), (0 : Int), false, false)).2.2.2)) (Int.toNat x1) ((0 : Int), (0 : Int), false, false)).2.2.2)) (Int.toNat x1) ((0 : Int), (0 : Int), false, false)).1, (List.getD (List.set (List.set x2 (Int.toNat x1) (x0, (List.getD x2 (Int.toNat x1) ((0 : Int), (0 : Int), false, false)).2.1, (List.getD x2 (Int.toNat x1) ((0 : Int), (0 : Int), false, false)).2.2.1, (List.getD x2 (Int.toNat x1) ((0 : Int), (0 : Int), false, false)).2.2.2)) (Int.toNat x1) ((List.getD (List.set x2 (Int.toNat x1) (x0, (List.getD x2 (Int.toNat x1) ((0 : Int), (0 : Int), false, false)).2.1, (List.getD x2 (Int.toNat x1) ((0 : Int), (0 : Int), false, false)).2.2.1, (List.getD x2 (Int.toNat x1) ((0 : Int), (0 : Int), false, false)).2.2.2)) (Int.toNat x1) ((0 : Int), (0 : Int), false, false)).1, IntKind.wrap IntKind.i64 (x0 + (1 : Int)), (List.getD (List.set x2 (Int.toNat x1) (x0, (List.getD x2 (Int.toNat x1) ((0 : Int), (0 : Int), false, false)).2.1, (List.getD x2 (Int.toNat x1) ((0 : Int), (0 : Int), false, false)).2.2.1, (List.getD x2 (Int.toNat x1) ((0 : Int), (0 : Int), false, false)).2.2.2)) (Int.toNat x1) ((0 : Int), (0 : Int), false, false)).2.2.1, (List.getD (List.set x2 (Int.toNat x1) (x0, (List.getD x2 (Int.toNat x1) ((0 : Int), (0 : Int), false, false)).2.1, (List.getD x2 (Int.toNat x1) ((0 : Int), (0 : Int), false, false)).2.2.1, (List.getD x2 (Int.toNat x1) ((0 : Int), (0 : Int), false, false)).2.2.2)) (Int.toNat x1) ((0 : Int), (0 : Int), false, false)).2.2.2)) (Int.toNat x1) ((0 : Int), (0 : Int), false, false)).2.1, (Int.tmod (IntKind.wrap IntKind.i64 ((IntKind.wrap IntKind.i64 (x0 + (1 : Int))) + (1 : Int))) (3 : Int)) == (0 : Int), (List.getD (List.set (List.set x2 (Int.toNat x1) (x0, (List.getD x2 (Int.toNat x1) ((0 : Int), (0 : Int), false, false)).2.1, (List.getD x2 (Int.toNat x1) ((0 : Int), (0 : Int), false, false)).2.2.1, (List.getD x2 (Int.toNat x1) ((0 : Int), (0 : Int), false, false)).2.2.2)) (Int.toNat x1) ((List.getD (List.set x2 (Int.toNat x1) (x0, (List.getD x2 (Int.toNat x1) ((0 : Int), (0 : Int), false, false)).2.1, (List.getD x2 (Int.toNat x1) ((0 : Int), (0 : Int), false, false)).2.2.1, (List.getD x2 (Int.toNat x1) ((0 : Int), (0 : Int), false, false)).2.2.2)) (Int.toNat x1) ((0 : Int), (0 : Int), false, false)).1, IntKind.wrap IntKind.i64 (x0 + (1 : Int)), (List.getD (List.set x2 (Int.toNat x1) (x0, (List.getD x2 (Int.toNat x1) ((0 : Int), (0 : Int), false, false)).2.1, (List.getD x2 (Int.toNat x1) ((0 : Int), (0 : Int), false, false)).2.2.1, (List.getD x2 (Int.toNat x1) ((0 : Int), (0 : Int), false, false)).2.2.2)) (Int.toNat x1) ((0 : Int), (0 : Int), false, false)).2.2.1, (List.getD (List.set x2 (Int.toNat x1) (x0, (List.getD x2 (Int.toNat x1) ((0 : Int), (0 : Int), false, false)).2.1, (List.getD x2 (Int.toNat x1) ((0 : Int), (0 : Int), false, false)).2.2.1, (List.getD x2 (Int.toNat x1) ((0 : Int), (0 : Int), false, false)).2.2.2)) (Int.toNat x1) ((0 : Int), (0 : Int), false, false)).2.2.2)) (Int.toNat x1) ((0 : Int), (0 : Int), false, false)).2.2.2)) (Int.toNat x1) ((0 : Int), (0 : Int), false, false)).2.1, (List.getD (List.set (List.set (List.set x2 (Int.toNat x1) (x0, (List.getD x2 (Int.toNat x1) ((0 : Int), (0 : Int), false, false)).2.1, (List.getD x2 (Int.toNat x1) ((0 : Int), (0 : Int), false, false)).2.2.1, (List.getD x2 (Int.toNat x1) ((0 : Int), (0 : Int), false, false)).2.2.2)) (Int.toNat x1) ((List.getD (List.set x2 (Int.toNat x1) (x0, (List.getD x2 (Int.toNat x1) ((0 : Int), (0 : Int), false, false)).2.1, (List.getD x2 (Int.toNat x1) ((0 : Int), (0 : Int), false, false)).2.2.1, (List.getD x2 (Int.toNat x1) ((0 : Int), (0 : Int), false, false)).2.2.2)) (Int.toNat x1) ((0 : Int), (0 : Int), false, false)).1, IntKind.wrap IntKind.i64 (x0 + (1 : Int)), (List.getD (List.set x2 (Int.toNat x1) (x0, (List.getD x2 (Int.toNat x1) ((0 : Int), (0 : Int), false, false)).2.1, (List.getD x2 (Int.toNat x1) ((0 : Int), (0 : Int), false, false)).2.2.1, (List.getD x2 (Int.toNat x1) ((0 : Int), (0 : Int), false, false)).2.2.2)) (Int.toNat x1) ((0 : Int), (0 : Int), false, false)).2.2.1, (List.getD (List.set x2 (Int.toNat x1) (x0, (List.getD x2 (Int.toNat x1) ((0 : Int), (0 : Int), false, false)).2.1, (List.getD x2 (Int.toNat x1) ((0 : Int), (0 : Int), false, false)).2.2.1, (List.getD x2 (Int.toNat x1) ((0 : Int), (0 : Int), false, false)).2.2.2)) (Int.toNat x1) ((0 : Int), (0 : Int), false, false)).2.2.2)) (Int.toNat x1) ((List.getD (List.set (List.set x2 (Int.toNat x1) (x0, (List.getD x2 (Int.toNat x1) ((0 : Int), (0 : Int), false, false)).2.1, (List.getD x2 (Int.toNat x1) ((0 : Int), (0 : Int), false, false)).2.2.1, (List.getD x2 (Int.toNat x1) ((0 : Int), (0 : Int), false, false)).2.2.2)) (Int.toNat x1) ((List.getD (List.set x2 (Int.toNat x1) (x0, (List.getD x2 (Int.toNat x1) ((0 : Int), (0 : Int), false, false)).2.1, (List.getD x2 (Int.toNat x1) ((0 : Int), (0 : Int), false, false)).2.2.1, (List.getD x2 (Int.toNat x1) ((0 : Int), (0 : Int), false, false)).2.2.2)) (Int.toNat x1) ((0 : Int), (0 : Int), false, false)).1, IntKind.wrap IntKind.i64 (x0 + (1 : Int)), (List.getD (List.set x2 (Int.toNat x1) (x0, (List.getD x2 (Int.toNat x1) ((0 : Int), (0 : Int), false, false)).2.1, (List.getD x2 (Int.toNat x1) ((0 : Int), (0 : Int), false, false)).2.2.1, (List.getD x2 (Int.toNat x1) ((0 : Int), (0 : Int), false, false)).2.2.2)) (Int.toNat x1) ((0 : Int), (0 : Int), false, false)).2.2.1, (List.getD (List.set x2 (Int.toNat x1) (x0, (List.getD x2 (Int.toNat x1) ((0 : Int), (0 : Int), false, false)).2.1, (List.getD x2 (Int.toNat x1) ((0 : Int), (0 : Int), false, false)).2.2.1, (List.getD x2 (Int.toNat x1) ((0 : Int), (0 : Int), false, false)).2.2.2)) (Int.toNat x1) ((0 : Int), (0 : Int), false, false)).2.2.2)) (Int.toNat x1) ((0 : Int), (0 : Int), false, false)).1, (List.getD (List.set (List.set x2 (Int.toNat x1) (x0, (List.getD x2 (Int.toNat x1) ((0 : Int), (0 : Int), false, false)).2.1, (List.getD x2 (Int.toNat x1) ((0 : Int), (0 : Int), false, false)).2.2.1, (List.getD x2 (Int.toNat x1) ((0 : Int), (0 : Int), false, false)).2.2.2)) (Int.toNat x1) ((List.getD (List.set x2 (Int.toNat x1) (x0, (List.getD x2 (Int.toNat x1) ((0 : Int), (0 : Int), false, false)).2.1, (List.getD x2 (Int.toNat x1) ((0 : Int), (0 : Int), false, false)).2.2.1, (List.getD x2 (Int.toNat x1) ((0 : Int), (0 : Int), false, false)).2.2.2)) (Int.toNat x1) ((0 : Int), (0 : Int), false, false)).1, IntKind.wrap IntKind.i64 (x0 + (1 : Int)), (List.getD (List.set x2 (Int.toNat x1) (x0, (List.getD x2 (Int.toNat x1) ((0 : Int), (0 : Int), false, false)).2.1, (List.getD x2 (Int.toNat x1) ((0 : Int), (0 : Int), false, false)).2.2.1, (List.getD x2 (Int.toNat x1) ((0 : Int), (0 : Int), false, false)).2.2.2)) (Int.toNat x1) ((0 : Int), (0 : Int), false, false)).2.2.1, (List.getD (List.set x2 (Int.toNat x1) (x0, (List.getD x2 (Int.toNat x1) ((0 : Int), (0 : Int), false, false)).2.1, (List.getD x2 (Int.toNat x1) ((0 : Int), (0 : Int), false, false)).2.2.1, (List.getD x2 (Int.toNat x1) ((0 : Int), (0 : Int), false, false)).2.2.2)) (Int.toNat x1) ((0 : Int), (0 : Int), false, false)).2.2.2)) (Int.toNat x1) ((0 : Int), (0 : Int), false, false)).2.1, (Int.tmod (IntKind.wrap IntKind.i64 ((IntKind.wrap IntKind.i64 (x0 + (1 : Int))) + (1 : Int))) (3 : Int)) == (0 : Int), (List.getD (List.set (List.set x2 (Int.toNat x1) (x0, (List.getD x2 (Int.toNat x1) ((0 : Int), (0 : Int), false, false)).2.1, (List.getD x2 (Int.toNat x1) ((0 : Int), (0 : Int), false, false)).2.2.1, (List.getD x2 (Int.toNat x1) ((0 : Int), (0 : Int), false, false)).2.2.2)) (Int.toNat x1) ((List.getD (List.set x2 (Int.toNat x1) (x0, (List.getD x2 (Int.toNat x1) ((0 : Int), (0 : Int), false, false)).2.1, (List.getD x2 (Int.toNat x1) ((0 : Int), (0 : Int), false, false)).2.2.1, (List.getD x2 (Int.toNat x1) ((0 : Int), (0 : Int), false, false)).2.2.2)) (Int.toNat x1) ((0 : Int), (0 : Int), false, false)).1, IntKind.wrap IntKind.i64 (x0 + (1 : Int)), (List.getD (List.set x2 (Int.toNat x1) (x0, (List.getD x2 (Int.toNat x1) ((0 : Int), (0 : Int), false, false)).2.1, (List.getD x2 (Int.toNat x1) ((0 : Int), (0 : Int), false, false)).2.2.1, (List.getD x2 (Int.toNat x1) ((0 : Int), (0 : Int), false, false)).2.2.2)) (Int.toNat x1) ((0 : Int), (0 : Int), false, false)).2.2.1, (List.getD (List.set x2 (Int.toNat x1) (x0, (List.getD x2 (Int.toNat x1) ((0 : Int), (0 : Int), false, false)).2.1, (List.getD x2 (Int.toNat x1) ((0 : Int), (0 : Int), false, false)).2.2.1, (List.getD x2 (Int.toNat x1) ((0 : Int), (0 : Int), false, false)).2.2.2)) (Int.toNat x1) ((0 : Int), (0 : Int), false, false)).2.2.2)) (Int.toNat x1) ((0 : Int), (0 : Int), false, false)).2.2.2)) (Int.toNat x1) ((0 : Int), (0 : Int), false, false)).2.2.1, (Int.tmod (IntKind.wrap IntKind.i64 ((IntKind.wrap IntKind.i64 ((IntKind.wrap IntKind.i64 (x0 + (1 : Int))) + (1 : Int))) + (1 : Int))) (3 : Int)) == (0 : Int)))
        else
         none
       else
        none
      else
       none
     else
      none
    else
     none
   else
    none
  else
   some (x0, x2)
noncomputable def laws_markPartS.ll0 : (Int × Int × (List (Int × Int × Bool × Bool))) → LS
  | (x0, x1, x2) => ⟨[.ref 2 0 [] none 0, .cv ⟨.int .i64, x0⟩, .cv ⟨.int .i64, x1⟩], [⟨true, [⟨0, 0, .mk 1 ⟨.row K4, x2⟩⟩]⟩]⟩
noncomputable def laws_markPartS.m (B0 : (Int × Int × (List (Int × Int × Bool × Bool))) → Option (Int × (List (Int × Int × Bool × Bool)))) : ((List (Int × Int × Bool × Bool)) × Int) → Option (Int × (List (Int × Int × Bool × Bool)))
  | (a0_0, a1_0) =>
  B0 (a1_0, (0 : Int), a0_0)
noncomputable def laws_markPartS.sig : Sig := ⟨[.val false [⟨.row K4, 1, 1, true⟩], .val false [⟨.int .i64, 0, 0, false⟩]], [(.one, [(.int .i64, 0)])]⟩
noncomputable def laws_markPartS.hint : Nat → Hint
  | 0 => ⟨[(0, .keep), (1, .keep), (5, .keep)], [(2, [1])]⟩
  | _ => ⟨[], []⟩
noncomputable def laws_markPartS.join : Nat → Option Hint
  | _ => none
noncomputable def laws_markPartS.body : Code := (Tryd.f48).body.getD .skip
noncomputable def laws_markPartS.rv : List ResultVar := (Tryd.f48).results.toList
noncomputable def laws_heldPartS.s0 (L0 : ((List (Int × Int × Bool × Bool)) × Int × Int) → Option (Int)) : ((List (Int × Int × Bool × Bool)) × Int × Int) → Option (Int)
  | (x0, x1, x2) =>
  bif decide (x2 < (List.length x0 : Int)) then
   bif decide (0 ≤ x2) && decide (x2 < (List.length x0 : Int)) then
    bif ((List.getD x0 (Int.toNat x2) ((0 : Int), (0 : Int), false, false)).1) != x1 then
     some (-1 : Int)
    else
     bif decide (0 ≤ x2) && decide (x2 < (List.length x0 : Int)) then
      bif ((List.getD x0 (Int.toNat x2) ((0 : Int), (0 : Int), false, false)).2.1) != (IntKind.wrap IntKind.i64 (x1 + (1 : Int))) then
       some (-1 : Int)
      else
       bif decide (0 ≤ x2) && decide (x2 < (List.length x0 : Int)) then
        bif decide (¬ (3 : Int) = 0) then
         bif !(((List.getD x0 (Int.toNat x2) ((0 : Int), (0 : Int), false, false)).2.2.1) == ((Int.tmod (IntKind.wrap IntKind.i64 ((IntKind.wrap IntKind.i64 (x1 + (1 : Int))) + (1 : Int))) (3 : Int)) == (0 : Int))) then
          some (-1 : Int)
         else
          bif decide (0 ≤ x2) && decide (x2 < (List.length x0 : Int)) then
           bif decide (¬ (3 : Int) = 0) then
            bif !(((List.getD x0 (Int.toNat x2) ((0 : Int), (0 : Int), false, false)).2.2.2) == ((Int.tmod (IntKind.wrap IntKind.i64 ((IntKind.wrap IntKind.i64 ((IntKind.wrap IntKind.i64 (x1 + (1 : Int))) + (1 : Int))) + (1 : Int))) (3 : Int)) == (0 : Int))) then
             some (-1 : Int)
            else
             L0 (x0, IntKind.wrap IntKind.i64 ((IntKind.wrap IntKind.i64 ((IntKind.wrap IntKind.i64 ((IntKind.wrap IntKind.i64 (x1 + (1 : Int))) + (1 : Int))) + (1 : Int))) + (1 : Int)), IntKind.wrap IntKind.i64 (x2 + (1 : Int)))
           else
            none
          else
           none
        else
         none
       else
        none
     else
      none
   else
    none
  else
   some x1
noncomputable def laws_heldPartS.ll0 : ((List (Int × Int × Bool × Bool)) × Int × Int) → LS
  | (x0, x1, x2) => ⟨[.cv ⟨.row K4, x0⟩, .cv ⟨.int .i64, x1⟩, .cv ⟨.int .i64, x2⟩], []⟩
noncomputable def laws_heldPartS.m (B0 : ((List (Int × Int × Bool × Bool)) × Int × Int) → Option (Int)) : ((List (Int × Int × Bool × Bool)) × Int) → Option (Int)
  | (a0_0, a1_0) =>
  B0 (a0_0, a1_0, (0 : Int))
noncomputable def laws_heldPartS.sig : Sig := ⟨[.val false [⟨.row K4, 0, 0, false⟩], .val false [⟨.int .i64, 0, 0, false⟩]], [(.one, [(.int .i64, 0)])]⟩
noncomputable def laws_heldPartS.hint : Nat → Hint
  | 0 => ⟨[(0, .keep), (1, .keep), (5, .keep)], []⟩
  | _ => ⟨[], []⟩
noncomputable def laws_heldPartS.join : Nat → Option Hint
  | _ => none
noncomputable def laws_heldPartS.body : Code := (Tryd.f49).body.getD .skip
noncomputable def laws_heldPartS.rv : List ResultVar := (Tryd.f49).results.toList
noncomputable def laws_FnExactRowPlan.m (c28 : ByteArray × (List (ByteArray × Int × Bool)) × (List (Int × Bool)) × (List (ByteArray × Bool × (List (Int × Bool)))) × Int → Option (Int)) (c29 : ByteArray × (List (ByteArray × Int × Bool)) × (List (Int × Bool)) × (List (ByteArray × Bool × (List (Int × Bool)))) → Option (ByteArray × (List (ByteArray × Int × Bool)) × (List (Int × Bool)) × (List (ByteArray × Bool × (List (Int × Bool)))))) (c30 : ByteArray × (List (ByteArray × Int × Bool)) × (List (Int × Bool)) × (List (ByteArray × Bool × (List (Int × Bool)))) × ByteArray × (List (ByteArray × Int × Bool)) × (List (Int × Bool)) × (List (ByteArray × Bool × (List (Int × Bool)))) → Option (Bool)) (c43 : ByteArray × (List (ByteArray × Int × Bool)) × (List (Int × Bool)) × (List (ByteArray × Bool × (List (Int × Bool)))) → Option (List (Int × Int × Bool × Bool))) (c45 : ByteArray × (List (ByteArray × Int × Bool)) × (List (Int × Bool)) × (List (ByteArray × Bool × (List (Int × Bool)))) → Option (List (Int × Int × Bool × Bool))) (c46 : (List (Int × Int × Bool × Bool)) × (List (Int × Int × Bool × Bool)) → Option (Bool)) (c47 : ByteArray × (List (ByteArray × Int × Bool)) × (List (Int × Bool)) × (List (ByteArray × Bool × (List (Int × Bool)))) × Int → Option (Int × (List (ByteArray × Int × Bool)) × (List (Int × Bool)) × (List (ByteArray × Bool × (List (Int × Bool)))))) (c48 : (List (Int × Int × Bool × Bool)) × Int → Option (Int × (List (Int × Int × Bool × Bool)))) (c49 : (List (Int × Int × Bool × Bool)) × Int → Option (Int)) : (ByteArray × (List (ByteArray × Int × Bool)) × (List (Int × Bool)) × (List (ByteArray × Bool × (List (Int × Bool))))) → Option (Bool)
  | (a0_0, a0_1, a0_2, a0_3) =>
  Option.bind (c28 (a0_0, a0_1, a0_2, a0_3, (1048576 : Int))) fun r1 =>
   bif decide (r1 < (0 : Int)) then
    some true
   else
    Option.bind (c29 (a0_0, a0_1, a0_2, a0_3)) fun r2 =>
     Option.bind (c45 (r2.1, r2.2.1, r2.2.2.1, r2.2.2.2)) fun r3 =>
      Option.bind (c29 (a0_0, a0_1, a0_2, a0_3)) fun r4 =>
       Option.bind (c43 (r4.1, r4.2.1, r4.2.2.1, r4.2.2.2)) fun r5 =>
        Option.bind (c46 (r5, r3)) fun r6 =>
         bif !(r6) then
          some false
         else
          Option.bind (c29 (a0_0, a0_1, a0_2, a0_3)) fun r7 =>
           Option.bind (c30 (r4.1, r4.2.1, r4.2.2.1, r4.2.2.2, r7.1, r7.2.1, r7.2.2.1, r7.2.2.2)) fun r8 =>
            bif !(r8) then
             some false
            else
             Option.bind (c47 (r4.1, r4.2.1, r4.2.2.1, r4.2.2.2, (1 : Int))) fun r9 =>
              bif decide (r9.1 < (0 : Int)) then
               some false
              else
               Option.bind (c46 (r5, r3)) fun r10 =>
                bif !(r10) then
                 some false
                else
                 Option.bind (c48 (r5, (1 : Int))) fun r11 =>
                  Option.bind (c49 (r11.2, (1 : Int))) fun r12 =>
                   bif decide (r12 < (0 : Int)) then
                    some false
                   else
                    bif r12 != r11.1 then
                     some false
                    else
                     Option.bind (c29 (a0_0, a0_1, a0_2, a0_3)) fun r13 =>
                      Option.bind (c43 (r13.1, r13.2.1, r13.2.2.1, r13.2.2.2)) fun r14 =>
                       Option.bind (c46 (r14, r3)) fun r15 =>
                        bif !(r15) then
                         some false
                        else
                         Option.bind (c49 (r11.2, (1 : Int))) fun r16 =>
                          bif decide (r16 < (0 : Int)) then
                           some false
                          else
                           bif r16 != r11.1 then
                            some false
                           else
                            some true
noncomputable def laws_FnExactRowPlan.sig : Sig := ⟨[.val true [⟨.str, 0, 0, false⟩, ⟨.row K1, 0, 0, false⟩, ⟨.row K2, 0, 0, false⟩, ⟨.row K3, 0, 0, false⟩]], [(.one, [(.bool, 0)])]⟩
noncomputable def laws_FnExactRowPlan.hint : Nat → Hint
  | _ => ⟨[], []⟩
noncomputable def laws_FnExactRowPlan.join : Nat → Option Hint
  | _ => none
noncomputable def laws_FnExactRowPlan.body : Code := (Tryd.f11).body.getD .skip
noncomputable def laws_FnExactRowPlan.rv : List ResultVar := (Tryd.f11).results.toList
noncomputable def fns : Nat → Fn
  | 112 => ⟨13, laws_szCol.sig, laws_szCol.rv, laws_szCol.body, laws_szCol.hint, laws_szCol.join⟩
  | 70 => ⟨27, laws_szColS.sig, laws_szColS.rv, laws_szColS.body, laws_szColS.hint, laws_szColS.join⟩
  | 71 => ⟨12, laws_szByS.sig, laws_szByS.rv, laws_szByS.body, laws_szByS.hint, laws_szByS.join⟩
  | 113 => ⟨19, laws_szIndex.sig, laws_szIndex.rv, laws_szIndex.body, laws_szIndex.hint, laws_szIndex.join⟩
  | 72 => ⟨27, laws_szIndexS.sig, laws_szIndexS.rv, laws_szIndexS.body, laws_szIndexS.hint, laws_szIndexS.join⟩
  | 28 => ⟨31, laws_szDef.sig, laws_szDef.rv, laws_szDef.body, laws_szDef.hint, laws_szDef.join⟩
  | 101 => ⟨15, spec_l1In.sig, spec_l1In.rv, spec_l1In.body, spec_l1In.hint, spec_l1In.join⟩
  | 125 => ⟨6, spec_l8Small.sig, spec_l8Small.rv, spec_l8Small.body, spec_l8Small.hint, spec_l8Small.join⟩
  | 126 => ⟨6, spec_l2Digit.sig, spec_l2Digit.rv, spec_l2Digit.body, spec_l2Digit.hint, spec_l2Digit.join⟩
  | 137 => ⟨29, spec_l8Name.sig, spec_l8Name.rv, spec_l8Name.body, spec_l8Name.hint, spec_l8Name.join⟩
  | 138 => ⟨18, spec_l9Has.sig, spec_l9Has.rv, spec_l9Has.body, spec_l9Has.hint, spec_l9Has.join⟩
  | 107 => ⟨11, spec_l9Word.sig, spec_l9Word.rv, spec_l9Word.body, spec_l9Word.hint, spec_l9Word.join⟩
  | 60 => ⟨38, spec_l9Names.sig, spec_l9Names.rv, spec_l9Names.body, spec_l9Names.hint, spec_l9Names.join⟩
  | 61 => ⟨23, spec_l9Types.sig, spec_l9Types.rv, spec_l9Types.body, spec_l9Types.hint, spec_l9Types.join⟩
  | 108 => ⟨22, spec_l9Col.sig, spec_l9Col.rv, spec_l9Col.body, spec_l9Col.hint, spec_l9Col.join⟩
  | 62 => ⟨48, spec_l9Once.sig, spec_l9Once.rv, spec_l9Once.body, spec_l9Once.hint, spec_l9Once.join⟩
  | 109 => ⟨42, spec_l9Parts.sig, spec_l9Parts.rv, spec_l9Parts.body, spec_l9Parts.hint, spec_l9Parts.join⟩
  | 63 => ⟨24, spec_l9AllParts.sig, spec_l9AllParts.rv, spec_l9AllParts.body, spec_l9AllParts.hint, spec_l9AllParts.join⟩
  | 23 => ⟨43, spec_CheckDef.sig, spec_CheckDef.rv, spec_CheckDef.body, spec_CheckDef.hint, spec_CheckDef.join⟩
  | 114 => ⟨14, laws_toCol.sig, laws_toCol.rv, laws_toCol.body, laws_toCol.hint, laws_toCol.join⟩
  | 73 => ⟨23, laws_toColS.sig, laws_toColS.rv, laws_toColS.body, laws_toColS.hint, laws_toColS.join⟩
  | 115 => ⟨11, laws_toBy.sig, laws_toBy.rv, laws_toBy.body, laws_toBy.hint, laws_toBy.join⟩
  | 74 => ⟨23, laws_toByS.sig, laws_toByS.rv, laws_toByS.body, laws_toByS.hint, laws_toByS.join⟩
  | 116 => ⟨15, laws_toIndex.sig, laws_toIndex.rv, laws_toIndex.body, laws_toIndex.hint, laws_toIndex.join⟩
  | 75 => ⟨23, laws_toIndexS.sig, laws_toIndexS.rv, laws_toIndexS.body, laws_toIndexS.hint, laws_toIndexS.join⟩
  | 29 => ⟨20, laws_toDef.sig, laws_toDef.rv, laws_toDef.body, laws_toDef.hint, laws_toDef.join⟩
  | 55 => ⟨15, impl_in.sig, impl_in.rv, impl_in.body, impl_in.hint, impl_in.join⟩
  | 93 => ⟨9, impl_isLetter.sig, impl_isLetter.rv, impl_isLetter.body, impl_isLetter.hint, impl_isLetter.join⟩
  | 94 => ⟨9, impl_isDigit.sig, impl_isDigit.rv, impl_isDigit.body, impl_isDigit.hint, impl_isDigit.join⟩
  | 135 => ⟨29, impl_nameOk.sig, impl_nameOk.rv, impl_nameOk.body, impl_nameOk.hint, impl_nameOk.join⟩
  | 106 => ⟨17, impl_isFree.sig, impl_isFree.rv, impl_isFree.body, impl_isFree.hint, impl_isFree.join⟩
  | 54 => ⟨34, impl_namesOk.sig, impl_namesOk.rv, impl_namesOk.body, impl_namesOk.hint, impl_namesOk.join⟩
  | 56 => ⟨59, impl_twice.sig, impl_twice.rv, impl_twice.body, impl_twice.hint, impl_twice.join⟩
  | 57 => ⟨42, impl_partsOk.sig, impl_partsOk.rv, impl_partsOk.body, impl_partsOk.hint, impl_partsOk.join⟩
  | 21 => ⟨68, impl_CheckDef.sig, impl_CheckDef.rv, impl_CheckDef.body, impl_CheckDef.hint, impl_CheckDef.join⟩
  | 117 => ⟨20, laws_eqCol.sig, laws_eqCol.rv, laws_eqCol.body, laws_eqCol.hint, laws_eqCol.join⟩
  | 76 => ⟨27, laws_eqColS.sig, laws_eqColS.rv, laws_eqColS.body, laws_eqColS.hint, laws_eqColS.join⟩
  | 118 => ⟨15, laws_eqBy.sig, laws_eqBy.rv, laws_eqBy.body, laws_eqBy.hint, laws_eqBy.join⟩
  | 77 => ⟨27, laws_eqByS.sig, laws_eqByS.rv, laws_eqByS.body, laws_eqByS.hint, laws_eqByS.join⟩
  | 119 => ⟨21, laws_eqIndex.sig, laws_eqIndex.rv, laws_eqIndex.body, laws_eqIndex.hint, laws_eqIndex.join⟩
  | 78 => ⟨27, laws_eqIndexS.sig, laws_eqIndexS.rv, laws_eqIndexS.body, laws_eqIndexS.hint, laws_eqIndexS.join⟩
  | 30 => ⟨28, laws_eqDef.sig, laws_eqDef.rv, laws_eqDef.body, laws_eqDef.hint, laws_eqDef.join⟩
  | 83 => ⟨20, laws_markText.sig, laws_markText.rv, laws_markText.body, laws_markText.hint, laws_markText.join⟩
  | 84 => ⟨37, laws_markColS.sig, laws_markColS.rv, laws_markColS.body, laws_markColS.hint, laws_markColS.join⟩
  | 85 => ⟨29, laws_markByS.sig, laws_markByS.rv, laws_markByS.body, laws_markByS.hint, laws_markByS.join⟩
  | 86 => ⟨37, laws_markIndexS.sig, laws_markIndexS.rv, laws_markIndexS.body, laws_markIndexS.hint, laws_markIndexS.join⟩
  | 43 => ⟨28, impl_RowPlan.sig, impl_RowPlan.rv, impl_RowPlan.body, impl_RowPlan.hint, impl_RowPlan.join⟩
  | 99 => ⟨22, spec_l11Part.sig, spec_l11Part.rv, spec_l11Part.body, spec_l11Part.hint, spec_l11Part.join⟩
  | 45 => ⟨25, spec_RowPlan.sig, spec_RowPlan.rv, spec_RowPlan.body, spec_RowPlan.hint, spec_RowPlan.join⟩
  | 100 => ⟨25, laws_eqPart.sig, laws_eqPart.rv, laws_eqPart.body, laws_eqPart.hint, laws_eqPart.join⟩
  | 46 => ⟨27, laws_eqPartS.sig, laws_eqPartS.rv, laws_eqPartS.body, laws_eqPartS.hint, laws_eqPartS.join⟩
  | 47 => ⟨18, laws_markDef.sig, laws_markDef.rv, laws_markDef.body, laws_markDef.hint, laws_markDef.join⟩
  | 48 => ⟨45, laws_markPartS.sig, laws_markPartS.rv, laws_markPartS.body, laws_markPartS.hint, laws_markPartS.join⟩
  | 49 => ⟨53, laws_heldPartS.sig, laws_heldPartS.rv, laws_heldPartS.body, laws_heldPartS.hint, laws_heldPartS.join⟩
  | 11 => ⟨69, laws_FnExactRowPlan.sig, laws_FnExactRowPlan.rv, laws_FnExactRowPlan.body, laws_FnExactRowPlan.hint, laws_FnExactRowPlan.join⟩
  | 64 => ⟨0, strings_Split.sig, [], .refuse "", fun _ => ⟨[], []⟩, fun _ => none⟩
  | _ => ⟨0, ⟨[], []⟩, [], .refuse "", fun _ => ⟨[], []⟩, fun _ => none⟩
noncomputable def sigs (f : Nat) : Sig := (fns f).sig
end
end Go.PV.T
