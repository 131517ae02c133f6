/- Functions of the program by their own lists and numbers. No condition beyond those in each statement. -/
import Derived.Test.YticedidmodmdnaaPvLibD
import Derived.Test.YticedidmodmdnaaProg
import Derived.KernelRfl
set_option maxRecDepth 100000
set_option linter.unusedVariables false
namespace Go.PV.T
open Go.Proofs
noncomputable section
abbrev K0 : SS := .cons (.int .i64) (.cons (.int .i64) (.one (.int .i64)))
abbrev K1 : SS := .one (.int .u8)
abbrev K2 : SS := .one (.row K1)
abbrev K3 : SS := .cons (.int .i64) (.one (.row K1))
noncomputable def eqts (t : Nat) : Bool := memN t []
noncomputable def tys : Nat → TyI
  | 3 => .cell (.int .i64) 0
  | 4 => .cell (.bool) 0
  | 5 => .cell (.int .u8) 0
  | 9 => .cell (.str) 0
  | 22 => .cell (.row K2) 24
  | 23 => .cell (.row K3) 32
  | 24 => .cell (.row K0) 24
  | 26 => .strct [0, 1, 2, 3, 4] [.row K2, .row K3, .int .i64, .row K0, .bool]
  | 29 => .cell (.row K3) 32
  | 30 => .cell (.row K0) 24
  | 32 => .strct [0, 1, 2, 3, 4] [.row K2, .row K3, .int .i64, .row K0, .bool]
  | 43 => .cell (.row K1) 1
  | 58 => .strct [0, 1] [.int .i64, .row K1]
  | 78 => .strct [0, 1, 2] [.int .i64, .int .i64, .int .i64]
  | 82 => .strct [0, 1, 2] [.int .i64, .int .i64, .int .i64]
  | 111 => .strct [0, 1] [.int .i64, .row K1]
  | 119 => .cell (.int .u64) 0
  | 122 => .cell (.int .u32) 0
  | _ => .no
noncomputable def laws_szFaultS.m  : ((List (Int × Int × Int)) × Int) → Option (Int)
  | (a0_0, a1_0) =>
  bif decide ((IntKind.wrap IntKind.i64 (a1_0 - (List.length a0_0 : Int))) < (0 : Int)) then
   some (-1 : Int)
  else
   some (IntKind.wrap IntKind.i64 (a1_0 - (List.length a0_0 : Int)))
noncomputable def laws_szFaultS.sig : Sig := ⟨[.val false [⟨.row K0, 0, 0, false⟩], .val false [⟨.int .i64, 0, 0, false⟩]], [(.one, [(.int .i64, 0)])]⟩
noncomputable def laws_szFaultS.hint : Nat → Hint
  | _ => ⟨[], []⟩
noncomputable def laws_szFaultS.join : Nat → Option Hint
  | _ => none
noncomputable def laws_szFaultS.body : Code := (Try.f19).body.getD .skip
noncomputable def laws_szFaultS.rv : List ResultVar := (Try.f19).results.toList
noncomputable def laws_szByteS.m  : ((List Int) × Int) → Option (Int)
  | (a0_0, a1_0) =>
  bif decide ((IntKind.wrap IntKind.i64 (a1_0 - (List.length a0_0 : Int))) < (0 : Int)) then
   some (-1 : Int)
  else
   some (IntKind.wrap IntKind.i64 (a1_0 - (List.length a0_0 : Int)))
noncomputable def laws_szByteS.sig : Sig := ⟨[.val false [⟨.row K1, 0, 0, false⟩], .val false [⟨.int .i64, 0, 0, false⟩]], [(.one, [(.int .i64, 0)])]⟩
noncomputable def laws_szByteS.hint : Nat → Hint
  | _ => ⟨[], []⟩
noncomputable def laws_szByteS.join : Nat → Option Hint
  | _ => none
noncomputable def laws_szByteS.body : Code := (Try.f101).body.getD .skip
noncomputable def laws_szByteS.rv : List ResultVar := (Try.f101).results.toList
noncomputable def laws_szByteSS.s0 (c101 : (List Int) × Int → Option (Int)) (L0 : ((List (List Int)) × Int × Int) → Option (Int)) : ((List (List Int)) × Int × Int) → Option (Int)
  | (x0, x1, x2) =>
  bif decide (x2 < (List.length x0 : Int)) then
   bif decide (0 ≤ x2) && decide (x2 < (List.length x0 : Int)) then
    Option.bind (c101 ((List.getD x0 (Int.toNat x2) ([] : List Int)), x1)) fun r1 =>
     bif decide (r1 < (0 : Int)) then
      some (-1 : Int)
     else
      L0 (x0, r1, IntKind.wrap IntKind.i64 (x2 + (1 : Int)))
   else
    none
  else
   some x1
noncomputable def laws_szByteSS.ll0 : ((List (List Int)) × Int × Int) → LS
  | (x0, x1, x2) => ⟨[.cv ⟨.row K2, x0⟩, .cv ⟨.int .i64, x1⟩, .cv ⟨.int .i64, x2⟩], []⟩
noncomputable def laws_szByteSS.m (B0 : ((List (List Int)) × Int × Int) → Option (Int)) : ((List (List Int)) × Int) → Option (Int)
  | (a0_0, a1_0) =>
  bif decide ((IntKind.wrap IntKind.i64 (a1_0 - (List.length a0_0 : Int))) < (0 : Int)) then
   some (-1 : Int)
  else
   B0 (a0_0, IntKind.wrap IntKind.i64 (a1_0 - (List.length a0_0 : Int)), (0 : Int))
noncomputable def laws_szByteSS.sig : Sig := ⟨[.val false [⟨.row K2, 0, 0, false⟩], .val false [⟨.int .i64, 0, 0, false⟩]], [(.one, [(.int .i64, 0)])]⟩
noncomputable def laws_szByteSS.hint : Nat → Hint
  | 0 => ⟨[(0, .keep), (1, .keep), (5, .keep)], []⟩
  | _ => ⟨[], []⟩
noncomputable def laws_szByteSS.join : Nat → Option Hint
  | _ => none
noncomputable def laws_szByteSS.body : Code := (Try.f56).body.getD .skip
noncomputable def laws_szByteSS.rv : List ResultVar := (Try.f56).results.toList
noncomputable def laws_szWrite.m (c101 : (List Int) × Int → Option (Int)) : (Int × (List Int) × Int) → Option (Int)
  | (a0_0, a0_1, a1_0) =>
  Option.bind (c101 (a0_1, a1_0)) fun r1 =>
   bif decide (r1 < (0 : Int)) then
    some (-1 : Int)
   else
    some r1
noncomputable def laws_szWrite.sig : Sig := ⟨[.val true [⟨.int .i64, 0, 0, false⟩, ⟨.row K1, 0, 0, false⟩], .val false [⟨.int .i64, 0, 0, false⟩]], [(.one, [(.int .i64, 0)])]⟩
noncomputable def laws_szWrite.hint : Nat → Hint
  | _ => ⟨[], []⟩
noncomputable def laws_szWrite.join : Nat → Option Hint
  | _ => none
noncomputable def laws_szWrite.body : Code := (Try.f102).body.getD .skip
noncomputable def laws_szWrite.rv : List ResultVar := (Try.f102).results.toList
noncomputable def laws_szWriteS.s0 (c102 : Int × (List Int) × Int → Option (Int)) (L0 : ((List (Int × (List Int))) × Int × Int) → Option (Int)) : ((List (Int × (List Int))) × Int × Int) → Option (Int)
  | (x0, x1, x2) =>
  bif decide (x2 < (List.length x0 : Int)) then
   bif decide (0 ≤ x2) && decide (x2 < (List.length x0 : Int)) then
    Option.bind (c102 ((List.getD x0 (Int.toNat x2) ((0 : Int), ([] : List Int))).1, (List.getD x0 (Int.toNat x2) ((0 : Int), ([] : List Int))).2, x1)) fun r1 =>
     bif decide (r1 < (0 : Int)) then
      some (-1 : Int)
     else
      L0 (x0, r1, IntKind.wrap IntKind.i64 (x2 + (1 : Int)))
   else
    none
  else
   some x1
noncomputable def laws_szWriteS.ll0 : ((List (Int × (List Int))) × Int × Int) → LS
  | (x0, x1, x2) => ⟨[.cv ⟨.row K3, x0⟩, .cv ⟨.int .i64, x1⟩, .cv ⟨.int .i64, x2⟩], []⟩
noncomputable def laws_szWriteS.m (B0 : ((List (Int × (List Int))) × Int × Int) → Option (Int)) : ((List (Int × (List Int))) × Int) → Option (Int)
  | (a0_0, a1_0) =>
  bif decide ((IntKind.wrap IntKind.i64 (a1_0 - (List.length a0_0 : Int))) < (0 : Int)) then
   some (-1 : Int)
  else
   B0 (a0_0, IntKind.wrap IntKind.i64 (a1_0 - (List.length a0_0 : Int)), (0 : Int))
noncomputable def laws_szWriteS.sig : Sig := ⟨[.val false [⟨.row K3, 0, 0, false⟩], .val false [⟨.int .i64, 0, 0, false⟩]], [(.one, [(.int .i64, 0)])]⟩
noncomputable def laws_szWriteS.hint : Nat → Hint
  | 0 => ⟨[(0, .keep), (1, .keep), (5, .keep)], []⟩
  | _ => ⟨[], []⟩
noncomputable def laws_szWriteS.join : Nat → Option Hint
  | _ => none
noncomputable def laws_szWriteS.body : Code := (Try.f57).body.getD .skip
noncomputable def laws_szWriteS.rv : List ResultVar := (Try.f57).results.toList
noncomputable def laws_szDisk.m (c19 : (List (Int × Int × Int)) × Int → Option (Int)) (c56 : (List (List Int)) × Int → Option (Int)) (c57 : (List (Int × (List Int))) × Int → Option (Int)) : ((List (List Int)) × (List (Int × (List Int))) × Int × (List (Int × Int × Int)) × Bool × Int) → Option (Int)
  | (a0_0, a0_1, a0_2, a0_3, a0_4, a1_0) =>
  Option.bind (c56 (a0_0, a1_0)) fun r1 =>
   bif decide (r1 < (0 : Int)) then
    some (-1 : Int)
   else
    Option.bind (c57 (a0_1, r1)) fun r2 =>
     bif decide (r2 < (0 : Int)) then
      some (-1 : Int)
     else
      Option.bind (c19 (a0_3, r2)) fun r3 =>
       bif decide (r3 < (0 : Int)) then
        some (-1 : Int)
       else
        some r3
noncomputable def laws_szDisk.sig : Sig := ⟨[.val true [⟨.row K2, 0, 0, false⟩, ⟨.row K3, 0, 0, false⟩, ⟨.int .i64, 0, 0, false⟩, ⟨.row K0, 0, 0, false⟩, ⟨.bool, 0, 0, false⟩], .val false [⟨.int .i64, 0, 0, false⟩]], [(.one, [(.int .i64, 0)])]⟩
noncomputable def laws_szDisk.hint : Nat → Hint
  | _ => ⟨[], []⟩
noncomputable def laws_szDisk.join : Nat → Option Hint
  | _ => none
noncomputable def laws_szDisk.body : Code := (Try.f14).body.getD .skip
noncomputable def laws_szDisk.rv : List ResultVar := (Try.f14).results.toList
noncomputable def spec_l1In.m  : (Int × Int × Int) → Option (Bool)
  | (a0_0, a1_0, a2_0) =>
  bif decide (a0_0 ≥ a1_0) then
   some (decide (a0_0 ≤ a2_0))
  else
   some false
noncomputable def spec_l1In.sig : Sig := ⟨[.val false [⟨.int .i64, 0, 0, false⟩], .val false [⟨.int .i64, 0, 0, false⟩], .val false [⟨.int .i64, 0, 0, false⟩]], [(.one, [(.bool, 0)])]⟩
noncomputable def spec_l1In.hint : Nat → Hint
  | _ => ⟨[], []⟩
noncomputable def spec_l1In.join : Nat → Option Hint
  | _ => none
noncomputable def spec_l1In.body : Code := (Try.f58).body.getD .skip
noncomputable def spec_l1In.rv : List ResultVar := (Try.f58).results.toList
noncomputable def laws_toFault.m  : (Int × Int × Int) → Option (Int × Int × Int)
  | (a0_0, a0_1, a0_2) =>
  some (a0_0, a0_1, a0_2)
noncomputable def laws_toFault.sig : Sig := ⟨[.val true [⟨.int .i64, 0, 0, false⟩, ⟨.int .i64, 0, 0, false⟩, ⟨.int .i64, 0, 0, false⟩]], [(.agg, [(.int .i64, 0), (.int .i64, 0), (.int .i64, 0)])]⟩
noncomputable def laws_toFault.hint : Nat → Hint
  | _ => ⟨[], []⟩
noncomputable def laws_toFault.join : Nat → Option Hint
  | _ => none
noncomputable def laws_toFault.body : Code := (Try.f65).body.getD .skip
noncomputable def laws_toFault.rv : List ResultVar := (Try.f65).results.toList
noncomputable def laws_toFaultS.s0 (c65 : Int × Int × Int → Option (Int × Int × Int)) (L0 : ((List (Int × Int × Int)) × Int × (List (Int × Int × Int))) → Option (List (Int × Int × Int))) : ((List (Int × Int × Int)) × Int × (List (Int × Int × Int))) → Option (List (Int × Int × Int))
  | (x0, x1, x2) =>
  bif decide (x1 < (List.length x0 : Int)) then
   bif decide (0 ≤ x1) && decide (x1 < (List.length x0 : Int)) then
    Option.bind (c65 ((List.getD x0 (Int.toNat x1) ((0 : Int), (0 : Int), (0 : Int))).1, (List.getD x0 (Int.toNat x1) ((0 : Int), (0 : Int), (0 : Int))).2.1, (List.getD x0 (Int.toNat x1) ((0 : Int), (0 : Int), (0 : Int))).2.2)) fun r1 =>
     bif decide (0 ≤ x1) && decide (x1 < (List.length x2 : Int)) then
      L0 (x0, IntKind.wrap IntKind.i64 (x1 + (1 : Int)), List.set (List.set (List.set x2 (Int.toNat x1) (r1.1, (List.getD x2 (Int.toNat x1) ((0 : Int), (0 : Int), (0 : Int))).2.1, (List.getD x2 (Int.toNat x1) ((0 : Int), (0 : Int), (0 : Int))).2.2)) (Int.toNat x1) ((List.getD (List.set x2 (Int.toNat x1) (r1.1, (List.getD x2 (Int.toNat x1) ((0 : Int), (0 : Int), (0 : Int))).2.1, (List.getD x2 (Int.toNat x1) ((0 : Int), (0 : Int), (0 : Int))).2.2)) (Int.toNat x1) ((0 : Int), (0 : Int), (0 : Int))).1, r1.2.1, (List.getD (List.set x2 (Int.toNat x1) (r1.1, (List.getD x2 (Int.toNat x1) ((0 : Int), (0 : Int), (0 : Int))).2.1, (List.getD x2 (Int.toNat x1) ((0 : Int), (0 : Int), (0 : Int))).2.2)) (Int.toNat x1) ((0 : Int), (0 : Int), (0 : Int))).2.2)) (Int.toNat x1) ((List.getD (List.set (List.set x2 (Int.toNat x1) (r1.1, (List.getD x2 (Int.toNat x1) ((0 : Int), (0 : Int), (0 : Int))).2.1, (List.getD x2 (Int.toNat x1) ((0 : Int), (0 : Int), (0 : Int))).2.2)) (Int.toNat x1) ((List.getD (List.set x2 (Int.toNat x1) (r1.1, (List.getD x2 (Int.toNat x1) ((0 : Int), (0 : Int), (0 : Int))).2.1, (List.getD x2 (Int.toNat x1) ((0 : Int), (0 : Int), (0 : Int))).2.2)) (Int.toNat x1) ((0 : Int), (0 : Int), (0 : Int))).1, r1.2.1, (List.getD (List.set x2 (Int.toNat x1) (r1.1, (List.getD x2 (Int.toNat x1) ((0 : Int), (0 : Int), (0 : Int))).2.1, (List.getD x2 (Int.toNat x1) ((0 : Int), (0 : Int), (0 : Int))).2.2)) (Int.toNat x1) ((0 : Int), (0 : Int), (0 : Int))).2.2)) (Int.toNat x1) ((0 : Int), (0 : Int), (0 : Int))).1, (List.getD (List.set (List.set x2 (Int.toNat x1) (r1.1, (List.getD x2 (Int.toNat x1) ((0 : Int), (0 : Int), (0 : Int))).2.1, (List.getD x2 (Int.toNat x1) ((0 : Int), (0 : Int), (0 : Int))).2.2)) (Int.toNat x1) ((List.getD (List.set x2 (Int.toNat x1) (r1.1, (List.getD x2 (Int.toNat x1) ((0 : Int), (0 : Int), (0 : Int))).2.1, (List.getD x2 (Int.toNat x1) ((0 : Int), (0 : Int), (0 : Int))).2.2)) (Int.toNat x1) ((0 : Int), (0 : Int), (0 : Int))).1, r1.2.1, (List.getD (List.set x2 (Int.toNat x1) (r1.1, (List.getD x2 (Int.toNat x1) ((0 : Int), (0 : Int), (0 : Int))).2.1, (List.getD x2 (Int.toNat x1) ((0 : Int), (0 : Int), (0 : Int))).2.2)) (Int.toNat x1) ((0 : Int), (0 : Int), (0 : Int))).2.2)) (Int.toNat x1) ((0 : Int), (0 : Int), (0 : Int))).2.1, r1.2.2))
     else
      none
   else
    none
  else
   some x2
noncomputable def laws_toFaultS.ll0 : ((List (Int × Int × Int)) × Int × (List (Int × Int × Int))) → LS
  | (x0, x1, x2) => ⟨[.cv ⟨.row K0, x0⟩, .ref 12 0 [] none 0, .cv ⟨.int .i64, x1⟩], [⟨true, [⟨0, 0, .mk 9 ⟨.row K0, x2⟩⟩]⟩]⟩
noncomputable def laws_toFaultS.m (B0 : ((List (Int × Int × Int)) × Int × (List (Int × Int × Int))) → Option (List (Int × Int × Int))) : (List (Int × Int × Int)) → Option (List (Int × Int × Int))
  | a0_0 =>
  bif decide (0 ≤ (List.length a0_0 : Int)) && decide ((List.length a0_0 : Int) ≤ (List.length a0_0 : Int)) && decide ((List.length a0_0 : Int) * 24 ≤ 140737488355328) then
   B0 (a0_0, (0 : Int), List.replicate (Int.toNat (List.length a0_0 : Int)) ((0 : Int), (0 : Int), (0 : Int)))
  else
   none
noncomputable def laws_toFaultS.sig : Sig := ⟨[.val false [⟨.row K0, 0, 0, false⟩]], [(.one, [(.row K0, 1)])]⟩
noncomputable def laws_toFaultS.hint : Nat → Hint
  | 0 => ⟨[(0, .keep), (3, .own 9 K0), (4, .keep)], []⟩
  | _ => ⟨[], []⟩
noncomputable def laws_toFaultS.join : Nat → Option Hint
  | _ => none
noncomputable def laws_toFaultS.body : Code := (Try.f21).body.getD .skip
noncomputable def laws_toFaultS.rv : List ResultVar := (Try.f21).results.toList
noncomputable def laws_toByteS.s0 (L0 : ((List Int) × Int × (List Int)) → Option (List Int)) : ((List Int) × Int × (List Int)) → Option (List Int)
  | (x0, x1, x2) =>
  bif decide (x1 < (List.length x0 : Int)) then
   bif decide (0 ≤ x1) && decide (x1 < (List.length x0 : Int)) then
    bif decide (0 ≤ x1) && decide (x1 < (List.length x2 : Int)) then
     L0 (x0, IntKind.wrap IntKind.i64 (x1 + (1 : Int)), List.set x2 (Int.toNat x1) (List.getD x0 (Int.toNat x1) (0 : Int)))
    else
     none
   else
    none
  else
   some x2
noncomputable def laws_toByteS.ll0 : ((List Int) × Int × (List Int)) → LS
  | (x0, x1, x2) => ⟨[.cv ⟨.row K1, x0⟩, .ref 12 0 [] none 0, .cv ⟨.int .i64, x1⟩], [⟨true, [⟨0, 0, .mk 9 ⟨.row K1, x2⟩⟩]⟩]⟩
noncomputable def laws_toByteS.m (B0 : ((List Int) × Int × (List Int)) → Option (List Int)) : (List Int) → Option (List Int)
  | a0_0 =>
  bif decide (0 ≤ (List.length a0_0 : Int)) && decide ((List.length a0_0 : Int) ≤ (List.length a0_0 : Int)) && decide ((List.length a0_0 : Int) * 1 ≤ 140737488355328) then
   B0 (a0_0, (0 : Int), List.replicate (Int.toNat (List.length a0_0 : Int)) (0 : Int))
  else
   none
noncomputable def laws_toByteS.sig : Sig := ⟨[.val false [⟨.row K1, 0, 0, false⟩]], [(.one, [(.row K1, 1)])]⟩
noncomputable def laws_toByteS.hint : Nat → Hint
  | 0 => ⟨[(0, .keep), (3, .own 9 K1), (4, .keep)], []⟩
  | _ => ⟨[], []⟩
noncomputable def laws_toByteS.join : Nat → Option Hint
  | _ => none
noncomputable def laws_toByteS.body : Code := (Try.f55).body.getD .skip
noncomputable def laws_toByteS.rv : List ResultVar := (Try.f55).results.toList
noncomputable def laws_toByteSS.s0 (c55 : (List Int) → Option (List Int)) (L0 : ((List (List Int)) × Int × (List (List Int))) → Option (List (List Int))) : ((List (List Int)) × Int × (List (List Int))) → Option (List (List Int))
  | (x0, x1, x2) =>
  bif decide (x1 < (List.length x0 : Int)) then
   bif decide (0 ≤ x1) && decide (x1 < (List.length x0 : Int)) then
    Option.bind (c55 (List.getD x0 (Int.toNat x1) ([] : List Int))) fun r1 =>
     bif decide (0 ≤ x1) && decide (x1 < (List.length x2 : Int)) then
      L0 (x0, IntKind.wrap IntKind.i64 (x1 + (1 : Int)), List.set x2 (Int.toNat x1) r1)
     else
      none
   else
    none
  else
   some x2
noncomputable def laws_toByteSS.ll0 : ((List (List Int)) × Int × (List (List Int))) → LS
  | (x0, x1, x2) => ⟨[.cv ⟨.row K2, x0⟩, .ref 12 0 [] none 0, .cv ⟨.int .i64, x1⟩], [⟨true, [⟨0, 0, .mk 9 ⟨.row K2, x2⟩⟩]⟩]⟩
noncomputable def laws_toByteSS.m (B0 : ((List (List Int)) × Int × (List (List Int))) → Option (List (List Int))) : (List (List Int)) → Option (List (List Int))
  | a0_0 =>
  bif decide (0 ≤ (List.length a0_0 : Int)) && decide ((List.length a0_0 : Int) ≤ (List.length a0_0 : Int)) && decide ((List.length a0_0 : Int) * 24 ≤ 140737488355328) then
   B0 (a0_0, (0 : Int), List.replicate (Int.toNat (List.length a0_0 : Int)) ([] : List Int))
  else
   none
noncomputable def laws_toByteSS.sig : Sig := ⟨[.val false [⟨.row K2, 0, 0, false⟩]], [(.one, [(.row K2, 2)])]⟩
noncomputable def laws_toByteSS.hint : Nat → Hint
  | 0 => ⟨[(0, .keep), (3, .own 9 K2), (4, .keep)], []⟩
  | _ => ⟨[], []⟩
noncomputable def laws_toByteSS.join : Nat → Option Hint
  | _ => none
noncomputable def laws_toByteSS.body : Code := (Try.f60).body.getD .skip
noncomputable def laws_toByteSS.rv : List ResultVar := (Try.f60).results.toList
noncomputable def laws_toWrite.m (c55 : (List Int) → Option (List Int)) : (Int × (List Int)) → Option (Int × (List Int))
  | (a0_0, a0_1) =>
  Option.bind (c55 a0_1) fun r1 =>
   some (a0_0, r1)
noncomputable def laws_toWrite.sig : Sig := ⟨[.val true [⟨.int .i64, 0, 0, false⟩, ⟨.row K1, 0, 0, false⟩]], [(.agg, [(.int .i64, 0), (.row K1, 1)])]⟩
noncomputable def laws_toWrite.hint : Nat → Hint
  | _ => ⟨[], []⟩
noncomputable def laws_toWrite.join : Nat → Option Hint
  | _ => none
noncomputable def laws_toWrite.body : Code := (Try.f103).body.getD .skip
noncomputable def laws_toWrite.rv : List ResultVar := (Try.f103).results.toList
noncomputable def laws_toWriteS.s0 (c103 : Int × (List Int) → Option (Int × (List Int))) (L0 : ((List (Int × (List Int))) × Int × (List (Int × (List Int)))) → Option (List (Int × (List Int)))) : ((List (Int × (List Int))) × Int × (List (Int × (List Int)))) → Option (List (Int × (List Int)))
  | (x0, x1, x2) =>
  bif decide (x1 < (List.length x0 : Int)) then
   bif decide (0 ≤ x1) && decide (x1 < (List.length x0 : Int)) then
    Option.bind (c103 ((List.getD x0 (Int.toNat x1) ((0 : Int), ([] : List Int))).1, (List.getD x0 (Int.toNat x1) ((0 : Int), ([] : List Int))).2)) fun r1 =>
     bif decide (0 ≤ x1) && decide (x1 < (List.length x2 : Int)) then
      L0 (x0, IntKind.wrap IntKind.i64 (x1 + (1 : Int)), List.set (List.set x2 (Int.toNat x1) (r1.1, (List.getD x2 (Int.toNat x1) ((0 : Int), ([] : List Int))).2)) (Int.toNat x1) ((List.getD (List.set x2 (Int.toNat x1) (r1.1, (List.getD x2 (Int.toNat x1) ((0 : Int), ([] : List Int))).2)) (Int.toNat x1) ((0 : Int), ([] : List Int))).1, r1.2))
     else
      none
   else
    none
  else
   some x2
noncomputable def laws_toWriteS.ll0 : ((List (Int × (List Int))) × Int × (List (Int × (List Int)))) → LS
  | (x0, x1, x2) => ⟨[.cv ⟨.row K3, x0⟩, .ref 12 0 [] none 0, .cv ⟨.int .i64, x1⟩], [⟨true, [⟨0, 0, .mk 9 ⟨.row K3, x2⟩⟩]⟩]⟩
noncomputable def laws_toWriteS.m (B0 : ((List (Int × (List Int))) × Int × (List (Int × (List Int)))) → Option (List (Int × (List Int)))) : (List (Int × (List Int))) → Option (List (Int × (List Int)))
  | a0_0 =>
  bif decide (0 ≤ (List.length a0_0 : Int)) && decide ((List.length a0_0 : Int) ≤ (List.length a0_0 : Int)) && decide ((List.length a0_0 : Int) * 32 ≤ 140737488355328) then
   B0 (a0_0, (0 : Int), List.replicate (Int.toNat (List.length a0_0 : Int)) ((0 : Int), ([] : List Int)))
  else
   none
noncomputable def laws_toWriteS.sig : Sig := ⟨[.val false [⟨.row K3, 0, 0, false⟩]], [(.one, [(.row K3, 2)])]⟩
noncomputable def laws_toWriteS.hint : Nat → Hint
  | 0 => ⟨[(0, .keep), (3, .own 9 K3), (4, .keep)], []⟩
  | _ => ⟨[], []⟩
noncomputable def laws_toWriteS.join : Nat → Option Hint
  | _ => none
noncomputable def laws_toWriteS.body : Code := (Try.f61).body.getD .skip
noncomputable def laws_toWriteS.rv : List ResultVar := (Try.f61).results.toList
noncomputable def laws_toDisk.m (c21 : (List (Int × Int × Int)) → Option (List (Int × Int × Int))) (c60 : (List (List Int)) → Option (List (List Int))) (c61 : (List (Int × (List Int))) → Option (List (Int × (List Int)))) : ((List (List Int)) × (List (Int × (List Int))) × Int × (List (Int × Int × Int)) × Bool) → Option ((List (List Int)) × (List (Int × (List Int))) × Int × (List (Int × Int × Int)) × Bool)
  | (a0_0, a0_1, a0_2, a0_3, a0_4) =>
  Option.bind (c60 a0_0) fun r1 =>
   Option.bind (c61 a0_1) fun r2 =>
    Option.bind (c21 a0_3) fun r3 =>
     some (r1, r2, a0_2, r3, a0_4)
noncomputable def laws_toDisk.sig : Sig := ⟨[.val true [⟨.row K2, 0, 0, false⟩, ⟨.row K3, 0, 0, false⟩, ⟨.int .i64, 0, 0, false⟩, ⟨.row K0, 0, 0, false⟩, ⟨.bool, 0, 0, false⟩]], [(.agg, [(.row K2, 2), (.row K3, 2), (.int .i64, 0), (.row K0, 1), (.bool, 0)])]⟩
noncomputable def laws_toDisk.hint : Nat → Hint
  | _ => ⟨[], []⟩
noncomputable def laws_toDisk.join : Nat → Option Hint
  | _ => none
noncomputable def laws_toDisk.body : Code := (Try.f16).body.getD .skip
noncomputable def laws_toDisk.rv : List ResultVar := (Try.f16).results.toList
noncomputable def impl_in.m  : (Int × Int × Int) → Option (Bool)
  | (a0_0, a1_0, a2_0) =>
  bif decide (a0_0 ≥ a1_0) then
   some (decide (a0_0 ≤ a2_0))
  else
   some false
noncomputable def impl_in.sig : Sig := ⟨[.val false [⟨.int .i64, 0, 0, false⟩], .val false [⟨.int .i64, 0, 0, false⟩], .val false [⟨.int .i64, 0, 0, false⟩]], [(.one, [(.bool, 0)])]⟩
noncomputable def impl_in.hint : Nat → Hint
  | _ => ⟨[], []⟩
noncomputable def impl_in.join : Nat → Option Hint
  | _ => none
noncomputable def impl_in.body : Code := (Try.f62).body.getD .skip
noncomputable def impl_in.rv : List ResultVar := (Try.f62).results.toList
noncomputable def laws_eqFault.m  : (Int × Int × Int × Int × Int × Int) → Option (Bool)
  | (a0_0, a0_1, a0_2, a1_0, a1_1, a1_2) =>
  bif a0_0 != a1_0 then
   some false
  else
   bif a0_1 != a1_1 then
    some false
   else
    bif a0_2 != a1_2 then
     some false
    else
     some true
noncomputable def laws_eqFault.sig : Sig := ⟨[.val true [⟨.int .i64, 0, 0, false⟩, ⟨.int .i64, 0, 0, false⟩, ⟨.int .i64, 0, 0, false⟩], .val true [⟨.int .i64, 0, 0, false⟩, ⟨.int .i64, 0, 0, false⟩, ⟨.int .i64, 0, 0, false⟩]], [(.one, [(.bool, 0)])]⟩
noncomputable def laws_eqFault.hint : Nat → Hint
  | _ => ⟨[], []⟩
noncomputable def laws_eqFault.join : Nat → Option Hint
  | _ => none
noncomputable def laws_eqFault.body : Code := (Try.f66).body.getD .skip
noncomputable def laws_eqFault.rv : List ResultVar := (Try.f66).results.toList
noncomputable def laws_eqFaultS.s0 (c66 : Int × Int × Int × Int × Int × Int → Option (Bool)) (L0 : ((List (Int × Int × Int)) × (List (Int × Int × Int)) × Int) → Option (Bool)) : ((List (Int × Int × Int)) × (List (Int × Int × Int)) × Int) → Option (Bool)
  | (x0, x1, x2) =>
  bif decide (x2 < (List.length x0 : Int)) then
   bif decide (0 ≤ x2) && decide (x2 < (List.length x0 : Int)) then
    bif decide (0 ≤ x2) && decide (x2 < (List.length x1 : Int)) then
     Option.bind (c66 ((List.getD x0 (Int.toNat x2) ((0 : Int), (0 : Int), (0 : Int))).1, (List.getD x0 (Int.toNat x2) ((0 : Int), (0 : Int), (0 : Int))).2.1, (List.getD x0 (Int.toNat x2) ((0 : Int), (0 : Int), (0 : Int))).2.2, (List.getD x1 (Int.toNat x2) ((0 : Int), (0 : Int), (0 : Int))).1, (List.getD x1 (Int.toNat x2) ((0 : Int), (0 : Int), (0 : Int))).2.1, (List.getD x1 (Int.toNat x2) ((0 : Int), (0 : Int), (0 : Int))).2.2)) fun r1 =>
      bif !(r1) then
       some false
      else
       L0 (x0, x1, IntKind.wrap IntKind.i64 (x2 + (1 : Int)))
    else
     none
   else
    none
  else
   some true
noncomputable def laws_eqFaultS.ll0 : ((List (Int × Int × Int)) × (List (Int × Int × Int)) × Int) → LS
  | (x0, x1, x2) => ⟨[.cv ⟨.row K0, x0⟩, .cv ⟨.row K0, x1⟩, .cv ⟨.int .i64, x2⟩], []⟩
noncomputable def laws_eqFaultS.m (B0 : ((List (Int × Int × Int)) × (List (Int × Int × Int)) × Int) → Option (Bool)) : ((List (Int × Int × Int)) × (List (Int × Int × Int))) → Option (Bool)
  | (a0_0, a1_0) =>
  bif (List.length a0_0 : Int) != (List.length a1_0 : Int) then
   some false
  else
   B0 (a0_0, a1_0, (0 : Int))
noncomputable def laws_eqFaultS.sig : Sig := ⟨[.val false [⟨.row K0, 0, 0, false⟩], .val false [⟨.row K0, 0, 0, false⟩]], [(.one, [(.bool, 0)])]⟩
noncomputable def laws_eqFaultS.hint : Nat → Hint
  | 0 => ⟨[(0, .keep), (1, .keep), (5, .keep)], []⟩
  | _ => ⟨[], []⟩
noncomputable def laws_eqFaultS.join : Nat → Option Hint
  | _ => none
noncomputable def laws_eqFaultS.body : Code := (Try.f23).body.getD .skip
noncomputable def laws_eqFaultS.rv : List ResultVar := (Try.f23).results.toList
noncomputable def laws_eqByteS.s0 (L0 : ((List Int) × (List Int) × Int) → Option (Bool)) : ((List Int) × (List Int) × Int) → Option (Bool)
  | (x0, x1, x2) =>
  bif decide (x2 < (List.length x0 : Int)) then
   bif decide (0 ≤ x2) && decide (x2 < (List.length x0 : Int)) then
    bif decide (0 ≤ x2) && decide (x2 < (List.length x1 : Int)) then
     bif (List.getD x0 (Int.toNat x2) (0 : Int)) != (List.getD x1 (Int.toNat x2) (0 : Int)) then
      some false
     else
      L0 (x0, x1, IntKind.wrap IntKind.i64 (x2 + (1 : Int)))
    else
     none
   else
    none
  else
   some true
noncomputable def laws_eqByteS.ll0 : ((List Int) × (List Int) × Int) → LS
  | (x0, x1, x2) => ⟨[.cv ⟨.row K1, x0⟩, .cv ⟨.row K1, x1⟩, .cv ⟨.int .i64, x2⟩], []⟩
noncomputable def laws_eqByteS.m (B0 : ((List Int) × (List Int) × Int) → Option (Bool)) : ((List Int) × (List Int)) → Option (Bool)
  | (a0_0, a1_0) =>
  bif (List.length a0_0 : Int) != (List.length a1_0 : Int) then
   some false
  else
   B0 (a0_0, a1_0, (0 : Int))
noncomputable def laws_eqByteS.sig : Sig := ⟨[.val false [⟨.row K1, 0, 0, false⟩], .val false [⟨.row K1, 0, 0, false⟩]], [(.one, [(.bool, 0)])]⟩
noncomputable def laws_eqByteS.hint : Nat → Hint
  | 0 => ⟨[(0, .keep), (1, .keep), (5, .keep)], []⟩
  | _ => ⟨[], []⟩
noncomputable def laws_eqByteS.join : Nat → Option Hint
  | _ => none
noncomputable def laws_eqByteS.body : Code := (Try.f29).body.getD .skip
noncomputable def laws_eqByteS.rv : List ResultVar := (Try.f29).results.toList
noncomputable def laws_eqByteSS.s0 (c29 : (List Int) × (List Int) → Option (Bool)) (L0 : ((List (List Int)) × (List (List Int)) × Int) → Option (Bool)) : ((List (List Int)) × (List (List Int)) × Int) → Option (Bool)
  | (x0, x1, x2) =>
  bif decide (x2 < (List.length x0 : Int)) then
   bif decide (0 ≤ x2) && decide (x2 < (List.length x0 : Int)) then
    bif decide (0 ≤ x2) && decide (x2 < (List.length x1 : Int)) then
     Option.bind (c29 ((List.getD x0 (Int.toNat x2) ([] : List Int)), (List.getD x1 (Int.toNat x2) ([] : List Int)))) fun r1 =>
      bif !(r1) then
       some false
      else
       L0 (x0, x1, IntKind.wrap IntKind.i64 (x2 + (1 : Int)))
    else
     none
   else
    none
  else
   some true
noncomputable def laws_eqByteSS.ll0 : ((List (List Int)) × (List (List Int)) × Int) → LS
  | (x0, x1, x2) => ⟨[.cv ⟨.row K2, x0⟩, .cv ⟨.row K2, x1⟩, .cv ⟨.int .i64, x2⟩], []⟩
noncomputable def laws_eqByteSS.m (B0 : ((List (List Int)) × (List (List Int)) × Int) → Option (Bool)) : ((List (List Int)) × (List (List Int))) → Option (Bool)
  | (a0_0, a1_0) =>
  bif (List.length a0_0 : Int) != (List.length a1_0 : Int) then
   some false
  else
   B0 (a0_0, a1_0, (0 : Int))
noncomputable def laws_eqByteSS.sig : Sig := ⟨[.val false [⟨.row K2, 0, 0, false⟩], .val false [⟨.row K2, 0, 0, false⟩]], [(.one, [(.bool, 0)])]⟩
noncomputable def laws_eqByteSS.hint : Nat → Hint
  | 0 => ⟨[(0, .keep), (1, .keep), (5, .keep)], []⟩
  | _ => ⟨[], []⟩
noncomputable def laws_eqByteSS.join : Nat → Option Hint
  | _ => none
noncomputable def laws_eqByteSS.body : Code := (Try.f63).body.getD .skip
noncomputable def laws_eqByteSS.rv : List ResultVar := (Try.f63).results.toList
noncomputable def laws_eqWrite.m (c29 : (List Int) × (List Int) → Option (Bool)) : (Int × (List Int) × Int × (List Int)) → Option (Bool)
  | (a0_0, a0_1, a1_0, a1_1) =>
  bif a0_0 != a1_0 then
   some false
  else
   Option.bind (c29 (a0_1, a1_1)) fun r1 =>
    bif !(r1) then
     some false
    else
     some true
noncomputable def laws_eqWrite.sig : Sig := ⟨[.val true [⟨.int .i64, 0, 0, false⟩, ⟨.row K1, 0, 0, false⟩], .val true [⟨.int .i64, 0, 0, false⟩, ⟨.row K1, 0, 0, false⟩]], [(.one, [(.bool, 0)])]⟩
noncomputable def laws_eqWrite.hint : Nat → Hint
  | _ => ⟨[], []⟩
noncomputable def laws_eqWrite.join : Nat → Option Hint
  | _ => none
noncomputable def laws_eqWrite.body : Code := (Try.f104).body.getD .skip
noncomputable def laws_eqWrite.rv : List ResultVar := (Try.f104).results.toList
noncomputable def laws_eqWriteS.s0 (c104 : Int × (List Int) × Int × (List Int) → Option (Bool)) (L0 : ((List (Int × (List Int))) × (List (Int × (List Int))) × Int) → Option (Bool)) : ((List (Int × (List Int))) × (List (Int × (List Int))) × Int) → Option (Bool)
  | (x0, x1, x2) =>
  bif decide (x2 < (List.length x0 : Int)) then
   bif decide (0 ≤ x2) && decide (x2 < (List.length x0 : Int)) then
    bif decide (0 ≤ x2) && decide (x2 < (List.length x1 : Int)) then
     Option.bind (c104 ((List.getD x0 (Int.toNat x2) ((0 : Int), ([] : List Int))).1, (List.getD x0 (Int.toNat x2) ((0 : Int), ([] : List Int))).2, (List.getD x1 (Int.toNat x2) ((0 : Int), ([] : List Int))).1, (List.getD x1 (Int.toNat x2) ((0 : Int), ([] : List Int))).2)) fun r1 =>
      bif !(r1) then
       some false
      else
       L0 (x0, x1, IntKind.wrap IntKind.i64 (x2 + (1 : Int)))
    else
     none
   else
    none
  else
   some true
noncomputable def laws_eqWriteS.ll0 : ((List (Int × (List Int))) × (List (Int × (List Int))) × Int) → LS
  | (x0, x1, x2) => ⟨[.cv ⟨.row K3, x0⟩, .cv ⟨.row K3, x1⟩, .cv ⟨.int .i64, x2⟩], []⟩
noncomputable def laws_eqWriteS.m (B0 : ((List (Int × (List Int))) × (List (Int × (List Int))) × Int) → Option (Bool)) : ((List (Int × (List Int))) × (List (Int × (List Int)))) → Option (Bool)
  | (a0_0, a1_0) =>
  bif (List.length a0_0 : Int) != (List.length a1_0 : Int) then
   some false
  else
   B0 (a0_0, a1_0, (0 : Int))
noncomputable def laws_eqWriteS.sig : Sig := ⟨[.val false [⟨.row K3, 0, 0, false⟩], .val false [⟨.row K3, 0, 0, false⟩]], [(.one, [(.bool, 0)])]⟩
noncomputable def laws_eqWriteS.hint : Nat → Hint
  | 0 => ⟨[(0, .keep), (1, .keep), (5, .keep)], []⟩
  | _ => ⟨[], []⟩
noncomputable def laws_eqWriteS.join : Nat → Option Hint
  | _ => none
noncomputable def laws_eqWriteS.body : Code := (Try.f64).body.getD .skip
noncomputable def laws_eqWriteS.rv : List ResultVar := (Try.f64).results.toList
noncomputable def laws_eqDisk.m (c23 : (List (Int × Int × Int)) × (List (Int × Int × Int)) → Option (Bool)) (c63 : (List (List Int)) × (List (List Int)) → Option (Bool)) (c64 : (List (Int × (List Int))) × (List (Int × (List Int))) → Option (Bool)) : ((List (List Int)) × (List (Int × (List Int))) × Int × (List (Int × Int × Int)) × Bool × (List (List Int)) × (List (Int × (List Int))) × Int × (List (Int × Int × Int)) × Bool) → Option (Bool)
  | (a0_0, a0_1, a0_2, a0_3, a0_4, a1_0, a1_1, a1_2, a1_3, a1_4) =>
  Option.bind (c63 (a0_0, a1_0)) fun r1 =>
   bif !(r1) then
    some false
   else
    Option.bind (c64 (a0_1, a1_1)) fun r2 =>
     bif !(r2) then
      some false
     else
      bif a0_2 != a1_2 then
       some false
      else
       Option.bind (c23 (a0_3, a1_3)) fun r3 =>
        bif !(r3) then
         some false
        else
         bif !(a0_4 == a1_4) then
          some false
         else
          some true
noncomputable def laws_eqDisk.sig : Sig := ⟨[.val true [⟨.row K2, 0, 0, false⟩, ⟨.row K3, 0, 0, false⟩, ⟨.int .i64, 0, 0, false⟩, ⟨.row K0, 0, 0, false⟩, ⟨.bool, 0, 0, false⟩], .val true [⟨.row K2, 0, 0, false⟩, ⟨.row K3, 0, 0, false⟩, ⟨.int .i64, 0, 0, false⟩, ⟨.row K0, 0, 0, false⟩, ⟨.bool, 0, 0, false⟩]], [(.one, [(.bool, 0)])]⟩
noncomputable def laws_eqDisk.hint : Nat → Hint
  | _ => ⟨[], []⟩
noncomputable def laws_eqDisk.join : Nat → Option Hint
  | _ => none
noncomputable def laws_eqDisk.body : Code := (Try.f18).body.getD .skip
noncomputable def laws_eqDisk.rv : List ResultVar := (Try.f18).results.toList
noncomputable def laws_markFaultS.s0 (L0 : (Int × Int × (List (Int × Int × Int))) → Option (Int × (List (Int × Int × Int)))) : (Int × Int × (List (Int × Int × Int))) → Option (Int × (List (Int × Int × Int)))
  | (x0, x1, x2) =>
  bif decide (x1 < (List.length x2 : Int)) then
   bif decide (0 ≤ x1) && decide (x1 < (List.length x2 : Int)) then
    bif decide (0 ≤ x1) && decide (x1 < (List.length (List.set x2 (Int.toNat x1) (x0, (List.getD x2 (Int.toNat x1) ((0 : Int), (0 : Int), (0 : Int))).2.1, (List.getD x2 (Int.toNat x1) ((0 : Int), (0 : Int), (0 : Int))).2.2)) : Int)) then
     bif decide (0 ≤ x1) && decide (x1 < (List.length (List.set (List.set x2 (Int.toNat x1) (x0, (List.getD x2 (Int.toNat x1) ((0 : Int), (0 : Int), (0 : Int))).2.1, (List.getD x2 (Int.toNat x1) ((0 : Int), (0 : Int), (0 : Int))).2.2)) (Int.toNat x1) ((List.getD (List.set x2 (Int.toNat x1) (x0, (List.getD x2 (Int.toNat x1) ((0 : Int), (0 : Int), (0 : Int))).2.1, (List.getD x2 (Int.toNat x1) ((0 : Int), (0 : Int), (0 : Int))).2.2)) (Int.toNat x1) ((0 : Int), (0 : Int), (0 : Int))).1, IntKind.wrap IntKind.i64 (x0 + (1 : Int)), (List.getD (List.set x2 (Int.toNat x1) (x0, (List.getD x2 (Int.toNat x1) ((0 : Int), (0 : Int), (0 : Int))).2.1, (List.getD x2 (Int.toNat x1) ((0 : Int), (0 : Int), (0 : Int))).2.2)) (Int.toNat x1) ((0 : Int), (0 : Int), (0 : Int))).2.2)) : Int)) then
      L0 (IntKind.wrap IntKind.i64 ((IntKind.wrap IntKind.i64 ((IntKind.wrap IntKind.i64 (x0 + (1 : Int))) + (1 : Int))) + (1 : Int)), IntKind.wrap IntKind.i64 (x1 + (1 : Int)), List.set (List.set (List.set x2 (Int.toNat x1) (x0, (List.getD x2 (Int.toNat x1) ((0 : Int), (0 : Int), (0 : Int))).2.1, (List.getD x2 (Int.toNat x1) ((0 : Int), (0 : Int), (0 : Int))).2.2)) (Int.toNat x1) ((List.getD (List.set x2 (Int.toNat x1) (x0, (List.getD x2 (Int.toNat x1) ((0 : Int), (0 : Int), (0 : Int))).2.1, (List.getD x2 (Int.toNat x1) ((0 : Int), (0 : Int), (0 : Int))).2.2)) (Int.toNat x1) ((0 : Int), (0 : Int), (0 : Int))).1, IntKind.wrap IntKind.i64 (x0 + (1 : Int)), (List.getD (List.set x2 (Int.toNat x1) (x0, (List.getD x2 (Int.toNat x1) ((0 : Int), (0 : Int), (0 : Int))).2.1, (List.getD x2 (Int.toNat x1) ((0 : Int), (0 : Int), (0 : Int))).2.2)) (Int.toNat x1) ((0 : Int), (0 : Int), (0 : Int))).2.2)) (Int.toNat x1) ((List.getD (List.set (List.set x2 (Int.toNat x1) (x0, (List.getD x2 (Int.toNat x1) ((0 : Int), (0 : Int), (0 : Int))).2.1, (List.getD x2 (Int.toNat x1) ((0 : Int), (0 : Int), (0 : Int))).2.2)) (Int.toNat x1) ((List.getD (List.set x2 (Int.toNat x1) (x0, (List.getD x2 (Int.toNat x1) ((0 : Int), (0 : Int), (0 : Int))).2.1, (List.getD x2 (Int.toNat x1) ((0 : Int), (0 : Int), (0 : Int))).2.2)) (Int.toNat x1) ((0 : Int), (0 : Int), (0 : Int))).1, IntKind.wrap IntKind.i64 (x0 + (1 : Int)), (List.getD (List.set x2 (Int.toNat x1) (x0, (List.getD x2 (Int.toNat x1) ((0 : Int), (0 : Int), (0 : Int))).2.1, (List.getD x2 (Int.toNat x1) ((0 : Int), (0 : Int), (0 : Int))).2.2)) (Int.toNat x1) ((0 : Int), (0 : Int), (0 : Int))).2.2)) (Int.toNat x1) ((0 : Int), (0 : Int), (0 : Int))).1, (List.getD (List.set (List.set x2 (Int.toNat x1) (x0, (List.getD x2 (Int.toNat x1) ((0 : Int), (0 : Int), (0 : Int))).2.1, (List.getD x2 (Int.toNat x1) ((0 : Int), (0 : Int), (0 : Int))).2.2)) (Int.toNat x1) ((List.getD (List.set x2 (Int.toNat x1) (x0, (List.getD x2 (Int.toNat x1) ((0 : Int), (0 : Int), (0 : Int))).2.1, (List.getD x2 (Int.toNat x1) ((0 : Int), (0 : Int), (0 : Int))).2.2)) (Int.toNat x1) ((0 : Int), (0 : Int), (0 : Int))).1, IntKind.wrap IntKind.i64 (x0 + (1 : Int)), (List.getD (List.set x2 (Int.toNat x1) (x0, (List.getD x2 (Int.toNat x1) ((0 : Int), (0 : Int), (0 : Int))).2.1, (List.getD x2 (Int.toNat x1) ((0 : Int), (0 : Int), (0 : Int))).2.2)) (Int.toNat x1) ((0 : Int), (0 : Int), (0 : Int))).2.2)) (Int.toNat x1) ((0 : Int), (0 : Int), (0 : Int))).2.1, IntKind.wrap IntKind.i64 ((IntKind.wrap IntKind.i64 (x0 + (1 : Int))) + (1 : Int))))
     else
      none
    else
     none
   else
    none
  else
   some (x0, x2)
noncomputable def laws_markFaultS.ll0 : (Int × Int × (List (Int × Int × Int))) → LS
  | (x0, x1, x2) => ⟨[.ref 2 0 [] none 0, .cv ⟨.int .i64, x0⟩, .cv ⟨.int .i64, x1⟩], [⟨true, [⟨0, 0, .mk 1 ⟨.row K0, x2⟩⟩]⟩]⟩
noncomputable def laws_markFaultS.m (B0 : (Int × Int × (List (Int × Int × Int))) → Option (Int × (List (Int × Int × Int)))) : ((List (Int × Int × Int)) × Int) → Option (Int × (List (Int × Int × Int)))
  | (a0_0, a1_0) =>
  B0 (a1_0, (0 : Int), a0_0)
noncomputable def laws_markFaultS.sig : Sig := ⟨[.val false [⟨.row K0, 1, 1, true⟩], .val false [⟨.int .i64, 0, 0, false⟩]], [(.one, [(.int .i64, 0)])]⟩
noncomputable def laws_markFaultS.hint : Nat → Hint
  | 0 => ⟨[(0, .keep), (1, .keep), (5, .keep)], [(2, [1])]⟩
  | _ => ⟨[], []⟩
noncomputable def laws_markFaultS.join : Nat → Option Hint
  | _ => none
noncomputable def laws_markFaultS.body : Code := (Try.f24).body.getD .skip
noncomputable def laws_markFaultS.rv : List ResultVar := (Try.f24).results.toList
noncomputable def laws_markByteS.s0 (L0 : (Int × Int × (List Int)) → Option (Int × (List Int))) : (Int × Int × (List Int)) → Option (Int × (List Int))
  | (x0, x1, x2) =>
  bif decide (x1 < (List.length x2 : Int)) then
   bif decide (0 ≤ x1) && decide (x1 < (List.length x2 : Int)) then
    L0 (IntKind.wrap IntKind.i64 (x0 + (1 : Int)), IntKind.wrap IntKind.i64 (x1 + (1 : Int)), List.set x2 (Int.toNat x1) (IntKind.wrap IntKind.u8 x0))
   else
    none
  else
   some (x0, x2)
noncomputable def laws_markByteS.ll0 : (Int × Int × (List Int)) → LS
  | (x0, x1, x2) => ⟨[.ref 2 0 [] none 0, .cv ⟨.int .i64, x0⟩, .cv ⟨.int .i64, x1⟩], [⟨true, [⟨0, 0, .mk 1 ⟨.row K1, x2⟩⟩]⟩]⟩
noncomputable def laws_markByteS.m (B0 : (Int × Int × (List Int)) → Option (Int × (List Int))) : ((List Int) × Int) → Option (Int × (List Int))
  | (a0_0, a1_0) =>
  B0 (a1_0, (0 : Int), a0_0)
noncomputable def laws_markByteS.sig : Sig := ⟨[.val false [⟨.row K1, 1, 1, true⟩], .val false [⟨.int .i64, 0, 0, false⟩]], [(.one, [(.int .i64, 0)])]⟩
noncomputable def laws_markByteS.hint : Nat → Hint
  | 0 => ⟨[(0, .keep), (1, .keep), (5, .keep)], [(2, [1])]⟩
  | _ => ⟨[], []⟩
noncomputable def laws_markByteS.join : Nat → Option Hint
  | _ => none
noncomputable def laws_markByteS.body : Code := (Try.f30).body.getD .skip
noncomputable def laws_markByteS.rv : List ResultVar := (Try.f30).results.toList
noncomputable def laws_markByteSS.s0 (c30 : (List Int) × Int → Option (Int × (List Int))) (L0 : (Int × Int × (List (List Int))) → Option (Int × (List (List Int)))) : (Int × Int × (List (List Int))) → Option (Int × (List (List Int)))
  | (x0, x1, x2) =>
  bif decide (x1 < (List.length x2 : Int)) then
   bif decide (0 ≤ x1) && decide (x1 < (List.length x2 : Int)) then
    Option.bind (c30 ((List.getD x2 (Int.toNat x1) ([] : List Int)), x0)) fun r1 =>
     L0 (r1.1, IntKind.wrap IntKind.i64 (x1 + (1 : Int)), List.set x2 (Int.toNat x1) r1.2)
   else
    none
  else
   some (x0, x2)
noncomputable def laws_markByteSS.ll0 : (Int × Int × (List (List Int))) → LS
  | (x0, x1, x2) => ⟨[.ref 2 0 [] none 0, .cv ⟨.int .i64, x0⟩, .cv ⟨.int .i64, x1⟩], [⟨true, [⟨0, 0, .mk 2 ⟨.row K2, x2⟩⟩]⟩]⟩
noncomputable def laws_markByteSS.m (B0 : (Int × Int × (List (List Int))) → Option (Int × (List (List Int)))) : ((List (List Int)) × Int) → Option (Int × (List (List Int)))
  | (a0_0, a1_0) =>
  B0 (a1_0, (0 : Int), a0_0)
noncomputable def laws_markByteSS.sig : Sig := ⟨[.val false [⟨.row K2, 2, 2, true⟩], .val false [⟨.int .i64, 0, 0, false⟩]], [(.one, [(.int .i64, 0)])]⟩
noncomputable def laws_markByteSS.hint : Nat → Hint
  | 0 => ⟨[(0, .keep), (1, .keep), (5, .keep)], [(2, [2])]⟩
  | _ => ⟨[], []⟩
noncomputable def laws_markByteSS.join : Nat → Option Hint
  | _ => none
noncomputable def laws_markByteSS.body : Code := (Try.f67).body.getD .skip
noncomputable def laws_markByteSS.rv : List ResultVar := (Try.f67).results.toList
noncomputable def laws_markWriteS.s0 (c30 : (List Int) × Int → Option (Int × (List Int))) (L0 : (Int × Int × (List (Int × (List Int)))) → Option (Int × (List (Int × (List Int))))) : (Int × Int × (List (Int × (List Int)))) → Option (Int × (List (Int × (List Int))))
  | (x0, x1, x2) =>
  bif decide (x1 < (List.length x2 : Int)) then
   bif decide (0 ≤ x1) && decide (x1 < (List.length x2 : Int)) then
    bif decide (0 ≤ x1) && decide (x1 < (List.length (List.set x2 (Int.toNat x1) (x0, (List.getD x2 (Int.toNat x1) ((0 : Int), ([] : List Int))).2)) : Int)) then
     Option.bind (c30 ((List.getD (List.set x2 (Int.toNat x1) (x0, (List.getD x2 (Int.toNat x1) ((0 : Int), ([] : List Int))).2)) (Int.toNat x1) ((0 : Int), ([] : List Int))).2, IntKind.wrap IntKind.i64 (x0 + (1 : Int)))) fun r1 =>
      L0 (r1.1, IntKind.wrap IntKind.i64 (x1 + (1 : Int)), List.set (List.set x2 (Int.toNat x1) (x0, (List.getD x2 (Int.toNat x1) ((0 : Int), ([] : List Int))).2)) (Int.toNat x1) ((List.getD (List.set x2 (Int.toNat x1) (x0, (List.getD x2 (Int.toNat x1) ((0 : Int), ([] : List Int))).2)) (Int.toNat x1) ((0 : Int), ([] : List Int))).1, r1.2))
    else
     none
   else
    none
  else
   some (x0, x2)
noncomputable def laws_markWriteS.ll0 : (Int × Int × (List (Int × (List Int)))) → LS
  | (x0, x1, x2) => ⟨[.ref 2 0 [] none 0, .cv ⟨.int .i64, x0⟩, .cv ⟨.int .i64, x1⟩], [⟨true, [⟨0, 0, .mk 2 ⟨.row K3, x2⟩⟩]⟩]⟩
noncomputable def laws_markWriteS.m (B0 : (Int × Int × (List (Int × (List Int)))) → Option (Int × (List (Int × (List Int))))) : ((List (Int × (List Int))) × Int) → Option (Int × (List (Int × (List Int))))
  | (a0_0, a1_0) =>
  B0 (a1_0, (0 : Int), a0_0)
noncomputable def laws_markWriteS.sig : Sig := ⟨[.val false [⟨.row K3, 2, 2, true⟩], .val false [⟨.int .i64, 0, 0, false⟩]], [(.one, [(.int .i64, 0)])]⟩
noncomputable def laws_markWriteS.hint : Nat → Hint
  | 0 => ⟨[(0, .keep), (1, .keep), (5, .keep)], [(2, [2])]⟩
  | _ => ⟨[], []⟩
noncomputable def laws_markWriteS.join : Nat → Option Hint
  | _ => none
noncomputable def laws_markWriteS.body : Code := (Try.f68).body.getD .skip
noncomputable def laws_markWriteS.rv : List ResultVar := (Try.f68).results.toList
noncomputable def laws_markDisk.m (c24 : (List (Int × Int × Int)) × Int → Option (Int × (List (Int × Int × Int)))) (c67 : (List (List Int)) × Int → Option (Int × (List (List Int)))) (c68 : (List (Int × (List Int))) × Int → Option (Int × (List (Int × (List Int))))) : ((List (List Int)) × (List (Int × (List Int))) × Int × (List (Int × Int × Int)) × Bool × Int) → Option (Int × (List (List Int)) × (List (Int × (List Int))) × (List (Int × Int × Int)))
  | (a0_0, a0_1, a0_2, a0_3, a0_4, a1_0) =>
  Option.bind (c67 (a0_0, a1_0)) fun r1 =>
   Option.bind (c68 (a0_1, r1.1)) fun r2 =>
    Option.bind (c24 (a0_3, r2.1)) fun r3 =>
     some (r3.1, r1.2, r2.2, r3.2)
noncomputable def laws_markDisk.sig : Sig := ⟨[.val true [⟨.row K2, 2, 2, true⟩, ⟨.row K3, 2, 2, true⟩, ⟨.int .i64, 0, 0, false⟩, ⟨.row K0, 1, 1, true⟩, ⟨.bool, 0, 0, false⟩], .val false [⟨.int .i64, 0, 0, false⟩]], [(.one, [(.int .i64, 0)])]⟩
noncomputable def laws_markDisk.hint : Nat → Hint
  | _ => ⟨[], []⟩
noncomputable def laws_markDisk.join : Nat → Option Hint
  | _ => none
noncomputable def laws_markDisk.body : Code := (Try.f25).body.getD .skip
noncomputable def laws_markDisk.rv : List ResultVar := (Try.f25).results.toList
noncomputable def laws_heldByteS.s0 (L0 : ((List Int) × Int × Int) → Option (Int)) : ((List Int) × Int × Int) → Option (Int)
  | (x0, x1, x2) =>
  bif decide (x2 < (List.length x0 : Int)) then
   bif decide (0 ≤ x2) && decide (x2 < (List.length x0 : Int)) then
    bif (List.getD x0 (Int.toNat x2) (0 : Int)) != (IntKind.wrap IntKind.u8 x1) then
     some (-1 : Int)
    else
     L0 (x0, IntKind.wrap IntKind.i64 (x1 + (1 : Int)), IntKind.wrap IntKind.i64 (x2 + (1 : Int)))
   else
    none
  else
   some x1
noncomputable def laws_heldByteS.ll0 : ((List Int) × Int × Int) → LS
  | (x0, x1, x2) => ⟨[.cv ⟨.row K1, x0⟩, .cv ⟨.int .i64, x1⟩, .cv ⟨.int .i64, x2⟩], []⟩
noncomputable def laws_heldByteS.m (B0 : ((List Int) × Int × Int) → Option (Int)) : ((List Int) × Int) → Option (Int)
  | (a0_0, a1_0) =>
  B0 (a0_0, a1_0, (0 : Int))
noncomputable def laws_heldByteS.sig : Sig := ⟨[.val false [⟨.row K1, 0, 0, false⟩], .val false [⟨.int .i64, 0, 0, false⟩]], [(.one, [(.int .i64, 0)])]⟩
noncomputable def laws_heldByteS.hint : Nat → Hint
  | 0 => ⟨[(0, .keep), (1, .keep), (5, .keep)], []⟩
  | _ => ⟨[], []⟩
noncomputable def laws_heldByteS.join : Nat → Option Hint
  | _ => none
noncomputable def laws_heldByteS.body : Code := (Try.f31).body.getD .skip
noncomputable def laws_heldByteS.rv : List ResultVar := (Try.f31).results.toList
noncomputable def spec_ReadSec.s0 (L0 : (Int × Int × (List (List Int)) × (List (Int × (List Int))) × Int × (List (Int × Int × Int)) × Bool) → Option ((List Int) × Bool)) : (Int × Int × (List (List Int)) × (List (Int × (List Int))) × Int × (List (Int × Int × Int)) × Bool) → Option ((List Int) × Bool)
  | (x0, x1, x2, x3, x4, x5, x6) =>
  bif decide (x1 ≥ (0 : Int)) then
   bif decide (0 ≤ x1) && decide (x1 < (List.length x3 : Int)) then
    bif ((List.getD x3 (Int.toNat x1) ((0 : Int), ([] : List Int))).1) == x0 then
     bif decide (0 ≤ x1) && decide (x1 < (List.length x3 : Int)) then
      bif decide ((List.length ([] : List Int) + List.length ((List.getD x3 (Int.toNat x1) ((0 : Int), ([] : List Int))).2)) * 1 ≤ 140737488355328) then
       some (([] : List Int) ++ ((List.getD x3 (Int.toNat x1) ((0 : Int), ([] : List Int))).2), true)
      else
       none
     else
      none
    else
     L0 (x0, IntKind.wrap IntKind.i64 (x1 - (1 : Int)), x2, x3, x4, x5, x6)
   else
    none
  else
   bif decide (0 ≤ x0) && decide (x0 < (List.length x2 : Int)) then
    bif decide ((List.length ([] : List Int) + List.length (List.getD x2 (Int.toNat x0) ([] : List Int))) * 1 ≤ 140737488355328) then
     some (([] : List Int) ++ (List.getD x2 (Int.toNat x0) ([] : List Int)), true)
    else
     none
   else
    none
noncomputable def spec_ReadSec.ll0 : (Int × Int × (List (List Int)) × (List (Int × (List Int))) × Int × (List (Int × Int × Int)) × Bool) → LS
  | (x0, x1, x2, x3, x4, x5, x6) => ⟨[.cv ⟨.int .i64, x0⟩, .addr 129 0 [] 0, .cv ⟨.int .i64, x1⟩], [⟨false, [⟨0, 0, .mk 0 ⟨.row K2, x2⟩⟩, ⟨0, 0, .mk 0 ⟨.row K3, x3⟩⟩, ⟨0, 0, .mk 0 ⟨.int .i64, x4⟩⟩, ⟨0, 0, .mk 0 ⟨.row K0, x5⟩⟩, ⟨0, 0, .mk 0 ⟨.bool, x6⟩⟩]⟩]⟩
noncomputable def spec_ReadSec.m (c58 : Int × Int × Int → Option (Bool)) (B0 : (Int × Int × (List (List Int)) × (List (Int × (List Int))) × Int × (List (Int × Int × Int)) × Bool) → Option ((List Int) × Bool)) : ((List (List Int)) × (List (Int × (List Int))) × Int × (List (Int × Int × Int)) × Bool × Int) → Option ((List Int) × Bool)
  | (a0_0, a0_1, a0_2, a0_3, a0_4, a1_0) =>
  Option.bind (c58 (a1_0, (0 : Int), IntKind.wrap IntKind.i64 ((List.length a0_0 : Int) - (1 : Int)))) fun r1 =>
   bif !(r1) then
    some (([] : List Int), false)
   else
    B0 (a1_0, IntKind.wrap IntKind.i64 ((List.length a0_1 : Int) - (1 : Int)), a0_0, a0_1, a0_2, a0_3, a0_4)
noncomputable def spec_ReadSec.sig : Sig := ⟨[.val true [⟨.row K2, 0, 0, false⟩, ⟨.row K3, 0, 0, false⟩, ⟨.int .i64, 0, 0, false⟩, ⟨.row K0, 0, 0, false⟩, ⟨.bool, 0, 0, false⟩], .val false [⟨.int .i64, 0, 0, false⟩]], [(.one, [(.row K1, 1)]), (.one, [(.bool, 0)])]⟩
noncomputable def spec_ReadSec.hint : Nat → Hint
  | 0 => ⟨[(1, .keep), (2, .keep), (6, .keep)], [(129, [0, 0, 0, 0, 0])]⟩
  | _ => ⟨[], []⟩
noncomputable def spec_ReadSec.join : Nat → Option Hint
  | _ => none
noncomputable def spec_ReadSec.body : Code := (Try.f27).body.getD .skip
noncomputable def spec_ReadSec.rv : List ResultVar := (Try.f27).results.toList
noncomputable def impl_copyBytes.m  : (List Int) → Option (List Int)
  | a0_0 =>
  bif decide ((List.length ([] : List Int) + List.length a0_0) * 1 ≤ 140737488355328) then
   some (([] : List Int) ++ a0_0)
  else
   none
noncomputable def impl_copyBytes.sig : Sig := ⟨[.val false [⟨.row K1, 0, 0, false⟩]], [(.one, [(.row K1, 1)])]⟩
noncomputable def impl_copyBytes.hint : Nat → Hint
  | _ => ⟨[], []⟩
noncomputable def impl_copyBytes.join : Nat → Option Hint
  | _ => none
noncomputable def impl_copyBytes.body : Code := (Try.f72).body.getD .skip
noncomputable def impl_copyBytes.rv : List ResultVar := (Try.f72).results.toList
noncomputable def impl_ReadSec.s0 (c72 : (List Int) → Option (List Int)) (L0 : (Int × Int × (List (List Int)) × (List (Int × (List Int))) × Int × (List (Int × Int × Int)) × Bool) → Option ((List Int) × Bool)) : (Int × Int × (List (List Int)) × (List (Int × (List Int))) × Int × (List (Int × Int × Int)) × Bool) → Option ((List Int) × Bool)
  | (x0, x1, x2, x3, x4, x5, x6) =>
  bif decide (x1 ≥ (0 : Int)) then
   bif decide (0 ≤ x1) && decide (x1 < (List.length x3 : Int)) then
    bif ((List.getD x3 (Int.toNat x1) ((0 : Int), ([] : List Int))).1) == x0 then
     bif decide (0 ≤ x1) && decide (x1 < (List.length x3 : Int)) then
      Option.bind (c72 ((List.getD x3 (Int.toNat x1) ((0 : Int), ([] : List Int))).2)) fun r2 =>
       some (r2, true)
     else
      none
    else
     L0 (x0, IntKind.wrap IntKind.i64 (x1 - (1 : Int)), x2, x3, x4, x5, x6)
   else
    none
  else
   bif decide (0 ≤ x0) && decide (x0 < (List.length x2 : Int)) then
    Option.bind (c72 (List.getD x2 (Int.toNat x0) ([] : List Int))) fun r3 =>
     some (r3, true)
   else
    none
noncomputable def impl_ReadSec.ll0 : (Int × Int × (List (List Int)) × (List (Int × (List Int))) × Int × (List (Int × Int × Int)) × Bool) → LS
  | (x0, x1, x2, x3, x4, x5, x6) => ⟨[.cv ⟨.int .i64, x0⟩, .addr 129 0 [] 0, .cv ⟨.int .i64, x1⟩], [⟨false, [⟨0, 0, .mk 0 ⟨.row K2, x2⟩⟩, ⟨0, 0, .mk 0 ⟨.row K3, x3⟩⟩, ⟨0, 0, .mk 0 ⟨.int .i64, x4⟩⟩, ⟨0, 0, .mk 0 ⟨.row K0, x5⟩⟩, ⟨0, 0, .mk 0 ⟨.bool, x6⟩⟩]⟩]⟩
noncomputable def impl_ReadSec.m (c62 : Int × Int × Int → Option (Bool)) (B0 : (Int × Int × (List (List Int)) × (List (Int × (List Int))) × Int × (List (Int × Int × Int)) × Bool) → Option ((List Int) × Bool)) : ((List (List Int)) × (List (Int × (List Int))) × Int × (List (Int × Int × Int)) × Bool × Int) → Option ((List Int) × Bool)
  | (a0_0, a0_1, a0_2, a0_3, a0_4, a1_0) =>
  Option.bind (c62 (a1_0, (0 : Int), IntKind.wrap IntKind.i64 ((List.length a0_0 : Int) - (1 : Int)))) fun r1 =>
   bif !(r1) then
    some (([] : List Int), false)
   else
    B0 (a1_0, IntKind.wrap IntKind.i64 ((List.length a0_1 : Int) - (1 : Int)), a0_0, a0_1, a0_2, a0_3, a0_4)
noncomputable def impl_ReadSec.sig : Sig := ⟨[.val true [⟨.row K2, 0, 0, false⟩, ⟨.row K3, 0, 0, false⟩, ⟨.int .i64, 0, 0, false⟩, ⟨.row K0, 0, 0, false⟩, ⟨.bool, 0, 0, false⟩], .val false [⟨.int .i64, 0, 0, false⟩]], [(.one, [(.row K1, 1)]), (.one, [(.bool, 0)])]⟩
noncomputable def impl_ReadSec.hint : Nat → Hint
  | 0 => ⟨[(1, .keep), (2, .keep), (6, .keep)], [(129, [0, 0, 0, 0, 0])]⟩
  | _ => ⟨[], []⟩
noncomputable def impl_ReadSec.join : Nat → Option Hint
  | _ => none
noncomputable def impl_ReadSec.body : Code := (Try.f28).body.getD .skip
noncomputable def impl_ReadSec.rv : List ResultVar := (Try.f28).results.toList
noncomputable def spec_Crc.s0 (B2 : ((List Int) × Int × Int × Int) → Option (Int)) (L0 : ((List Int) × Int × Int) → Option (Int)) : ((List Int) × Int × Int) → Option (Int)
  | (x0, x1, x2) =>
  bif decide (x2 < (List.length x0 : Int)) then
   bif decide (0 ≤ x2) && decide (x2 < (List.length x0 : Int)) then
    B2 (x0, IntKind.wrap IntKind.i64 ((BitVec.ofInt (IntKind.bits IntKind.i64) x1 ^^^ BitVec.ofInt (IntKind.bits IntKind.i64) (IntKind.wrap IntKind.i64 (List.getD x0 (Int.toNat x2) (0 : Int)))).toNat : Int), x2, (0 : Int))
   else
    none
  else
   some (IntKind.wrap IntKind.i64 ((BitVec.ofInt (IntKind.bits IntKind.i64) x1 ^^^ BitVec.ofInt (IntKind.bits IntKind.i64) (4294967295 : Int)).toNat : Int))
noncomputable def spec_Crc.ll0 : ((List Int) × Int × Int) → LS
  | (x0, x1, x2) => ⟨[.cv ⟨.row K1, x0⟩, .cv ⟨.int .i64, x1⟩, .cv ⟨.int .i64, x2⟩], []⟩
noncomputable def spec_Crc.s2 (L0 : ((List Int) × Int × Int) → Option (Int)) (L2 : ((List Int) × Int × Int × Int) → Option (Int)) : ((List Int) × Int × Int × Int) → Option (Int)
  | (x0, x1, x2, x3) =>
  bif decide (x3 < (8 : Int)) then
   bif decide (¬ (1 : Int) < 0) then
    bif (IntKind.wrap IntKind.i64 ((BitVec.ofInt (IntKind.bits IntKind.i64) x1 &&& BitVec.ofInt (IntKind.bits IntKind.i64) (1 : Int)).toNat : Int)) == (1 : Int) then
     L2 (x0, IntKind.wrap IntKind.i64 ((BitVec.ofInt (IntKind.bits IntKind.i64) (Int.fdiv x1 (2 ^ (min (Int.toNat (1 : Int)) (IntKind.bits IntKind.i64)))) ^^^ BitVec.ofInt (IntKind.bits IntKind.i64) (2197175160 : Int)).toNat : Int), x2, IntKind.wrap IntKind.i64 (x3 + (1 : Int)))
    else
     L2 (x0, Int.fdiv x1 (2 ^ (min (Int.toNat (1 : Int)) (IntKind.bits IntKind.i64))), x2, IntKind.wrap IntKind.i64 (x3 + (1 : Int)))
   else
    none
  else
   L0 (x0, x1, IntKind.wrap IntKind.i64 (x2 + (1 : Int)))
noncomputable def spec_Crc.ll2 : ((List Int) × Int × Int × Int) → LS
  | (x0, x1, x2, x3) => ⟨[.cv ⟨.row K1, x0⟩, .cv ⟨.int .i64, x1⟩, .cv ⟨.int .i64, x2⟩, .cv ⟨.int .i64, x3⟩], []⟩
noncomputable def spec_Crc.m (B0 : ((List Int) × Int × Int) → Option (Int)) : (List Int) → Option (Int)
  | a0_0 =>
  B0 (a0_0, (4294967295 : Int), (0 : Int))
noncomputable def spec_Crc.sig : Sig := ⟨[.val false [⟨.row K1, 0, 0, false⟩]], [(.one, [(.int .i64, 0)])]⟩
noncomputable def spec_Crc.hint : Nat → Hint
  | 0 => ⟨[(0, .keep), (3, .keep), (4, .keep)], []⟩
  | 2 => ⟨[(0, .keep), (3, .keep), (4, .keep), (5, .keep)], []⟩
  | _ => ⟨[], []⟩
noncomputable def spec_Crc.join : Nat → Option Hint
  | _ => none
noncomputable def spec_Crc.body : Code := (Try.f113).body.getD .skip
noncomputable def spec_Crc.rv : List ResultVar := (Try.f113).results.toList
noncomputable def impl_Crc.s0 (B2 : (Int × (List Int) × Int × Int × Int) → Option (Int)) (L0 : (Int × (List Int) × Int × Int) → Option (Int)) : (Int × (List Int) × Int × Int) → Option (Int)
  | (x0, x1, x2, x3) =>
  bif decide (x3 < x2) then
   bif decide (0 ≤ x3) && decide (x3 < (List.length x1 : Int)) then
    B2 (IntKind.wrap IntKind.u32 ((BitVec.ofInt (IntKind.bits IntKind.u32) x0 ^^^ BitVec.ofInt (IntKind.bits IntKind.u32) (IntKind.wrap IntKind.u32 (List.getD x1 (Int.toNat x3) (0 : Int)))).toNat : Int), x1, x2, x3, (0 : Int))
   else
    none
  else
   some (IntKind.wrap IntKind.i64 (IntKind.wrap IntKind.u32 ((BitVec.ofInt (IntKind.bits IntKind.u32) (if IntKind.signed IntKind.u32 then -1 else IntKind.max IntKind.u32) ^^^ BitVec.ofInt (IntKind.bits IntKind.u32) x0).toNat : Int)))
noncomputable def impl_Crc.ll0 : (Int × (List Int) × Int × Int) → LS
  | (x0, x1, x2, x3) => ⟨[.cv ⟨.int .u32, x0⟩, .cv ⟨.row K1, x1⟩, .cv ⟨.int .i64, x2⟩, .cv ⟨.int .i64, x3⟩], []⟩
noncomputable def impl_Crc.s2 (L0 : (Int × (List Int) × Int × Int) → Option (Int)) (L2 : (Int × (List Int) × Int × Int × Int) → Option (Int)) : (Int × (List Int) × Int × Int × Int) → Option (Int)
  | (x0, x1, x2, x3, x4) =>
  bif decide (x4 < (8 : Int)) then
   bif decide (¬ (1 : Int) < 0) then
    bif (IntKind.wrap IntKind.u32 ((BitVec.ofInt (IntKind.bits IntKind.u32) x0 &&& BitVec.ofInt (IntKind.bits IntKind.u32) (1 : Int)).toNat : Int)) == (1 : Int) then
     L2 (IntKind.wrap IntKind.u32 ((BitVec.ofInt (IntKind.bits IntKind.u32) (Int.fdiv x0 (2 ^ (min (Int.toNat (1 : Int)) (IntKind.bits IntKind.u32)))) ^^^ BitVec.ofInt (IntKind.bits IntKind.u32) (2197175160 : Int)).toNat : Int), x1, x2, x3, IntKind.wrap IntKind.i64 (x4 + (1 : Int)))
    else
     L2 (Int.fdiv x0 (2 ^ (min (Int.toNat (1 : Int)) (IntKind.bits IntKind.u32))), x1, x2, x3, IntKind.wrap IntKind.i64 (x4 + (1 : Int)))
   else
    none
  else
   L0 (x0, x1, x2, IntKind.wrap IntKind.i64 (x3 + (1 : Int)))
noncomputable def impl_Crc.ll2 : (Int × (List Int) × Int × Int × Int) → LS
  | (x0, x1, x2, x3, x4) => ⟨[.cv ⟨.int .u32, x0⟩, .cv ⟨.row K1, x1⟩, .cv ⟨.int .i64, x2⟩, .cv ⟨.int .i64, x3⟩, .cv ⟨.int .i64, x4⟩], []⟩
noncomputable def impl_Crc.m (B0 : (Int × (List Int) × Int × Int) → Option (Int)) : (List Int) → Option (Int)
  | a0_0 =>
  B0 ((4294967295 : Int), a0_0, (List.length a0_0 : Int), (0 : Int))
noncomputable def impl_Crc.sig : Sig := ⟨[.val false [⟨.row K1, 0, 0, false⟩]], [(.one, [(.int .i64, 0)])]⟩
noncomputable def impl_Crc.hint : Nat → Hint
  | 0 => ⟨[(3, .keep), (7, .keep), (8, .keep), (9, .keep)], []⟩
  | 2 => ⟨[(3, .keep), (7, .keep), (8, .keep), (9, .keep), (17, .keep)], []⟩
  | _ => ⟨[], []⟩
noncomputable def impl_Crc.join : Nat → Option Hint
  | _ => none
noncomputable def impl_Crc.body : Code := (Try.f114).body.getD .skip
noncomputable def impl_Crc.rv : List ResultVar := (Try.f114).results.toList
noncomputable def impl_addSum.m (c114 : (List Int) → Option (Int)) : (List Int) → Option (List Int)
  | a0_0 =>
  Option.bind (c114 a0_0) fun r1 =>
   bif decide (¬ (24 : Int) < 0) then
    bif decide (¬ (16 : Int) < 0) then
     bif decide (¬ (8 : Int) < 0) then
      bif decide ((List.length a0_0 + List.length ([IntKind.wrap IntKind.u8 (Int.fdiv r1 (2 ^ (min (Int.toNat (24 : Int)) (IntKind.bits IntKind.i64)))), IntKind.wrap IntKind.u8 (Int.fdiv r1 (2 ^ (min (Int.toNat (16 : Int)) (IntKind.bits IntKind.i64)))), IntKind.wrap IntKind.u8 (Int.fdiv r1 (2 ^ (min (Int.toNat (8 : Int)) (IntKind.bits IntKind.i64)))), IntKind.wrap IntKind.u8 r1] : List Int)) * 1 ≤ 140737488355328) then
       some (a0_0 ++ ([IntKind.wrap IntKind.u8 (Int.fdiv r1 (2 ^ (min (Int.toNat (24 : Int)) (IntKind.bits IntKind.i64)))), IntKind.wrap IntKind.u8 (Int.fdiv r1 (2 ^ (min (Int.toNat (16 : Int)) (IntKind.bits IntKind.i64)))), IntKind.wrap IntKind.u8 (Int.fdiv r1 (2 ^ (min (Int.toNat (8 : Int)) (IntKind.bits IntKind.i64)))), IntKind.wrap IntKind.u8 r1] : List Int))
      else
       none
     else
      none
    else
     none
   else
    none
noncomputable def impl_addSum.sig : Sig := ⟨[.val false [⟨.row K1, 1, 1, false⟩]], [(.one, [(.row K1, 1)])]⟩
noncomputable def impl_addSum.hint : Nat → Hint
  | _ => ⟨[], []⟩
noncomputable def impl_addSum.join : Nat → Option Hint
  | _ => none
noncomputable def impl_addSum.body : Code := (Try.f98).body.getD .skip
noncomputable def impl_addSum.rv : List ResultVar := (Try.f98).results.toList
noncomputable def impl_clamp.m  : (Int × Int × Int) → Option (Int)
  | (a0_0, a1_0, a2_0) =>
  some (bif decide ((bif decide (a2_0 < a0_0) then a2_0 else a0_0) > a1_0) then (bif decide (a2_0 < a0_0) then a2_0 else a0_0) else a1_0)
noncomputable def impl_clamp.sig : Sig := ⟨[.val false [⟨.int .i64, 0, 0, false⟩], .val false [⟨.int .i64, 0, 0, false⟩], .val false [⟨.int .i64, 0, 0, false⟩]], [(.one, [(.int .i64, 0)])]⟩
noncomputable def impl_clamp.hint : Nat → Hint
  | _ => ⟨[], []⟩
noncomputable def impl_clamp.join : Nat → Option Hint
  | _ => none
noncomputable def impl_clamp.body : Code := (Try.f115).body.getD .skip
noncomputable def impl_clamp.rv : List ResultVar := (Try.f115).results.toList
noncomputable def impl_addU.s0 (L0 : (Int × (List Int)) → Option (List Int)) : (Int × (List Int)) → Option (List Int)
  | (x0, x1) =>
  bif decide (x0 > (127 : Int)) then
   bif decide (¬ (128 : Int) = 0) then
    bif decide ((List.length x1 + List.length ([IntKind.wrap IntKind.u8 (IntKind.wrap IntKind.i64 ((Int.tmod x0 (128 : Int)) + (128 : Int)))] : List Int)) * 1 ≤ 140737488355328) then
     bif decide (¬ (128 : Int) = 0) then
      L0 (IntKind.wrap IntKind.i64 (Int.tdiv x0 (128 : Int)), x1 ++ ([IntKind.wrap IntKind.u8 (IntKind.wrap IntKind.i64 ((Int.tmod x0 (128 : Int)) + (128 : Int)))] : List Int))
     else
      none
    else
     none
   else
    none
  else
   bif decide ((List.length x1 + List.length ([IntKind.wrap IntKind.u8 x0] : List Int)) * 1 ≤ 140737488355328) then
    some (x1 ++ ([IntKind.wrap IntKind.u8 x0] : List Int))
   else
    none
noncomputable def impl_addU.ll0 : (Int × (List Int)) → LS
  | (x0, x1) => ⟨[.ref 0 0 [] none 0, .cv ⟨.int .i64, x0⟩], [⟨true, [⟨0, 0, .mk 1 ⟨.row K1, x1⟩⟩]⟩]⟩
noncomputable def impl_addU.m (c115 : Int × Int × Int → Option (Int)) (B0 : (Int × (List Int)) → Option (List Int)) : ((List Int) × Int) → Option (List Int)
  | (a0_0, a1_0) =>
  Option.bind (c115 (a1_0, (0 : Int), (1000000 : Int))) fun r1 =>
   B0 (r1, a0_0)
noncomputable def impl_addU.sig : Sig := ⟨[.val false [⟨.row K1, 1, 1, false⟩], .val false [⟨.int .i64, 0, 0, false⟩]], [(.one, [(.row K1, 1)])]⟩
noncomputable def impl_addU.hint : Nat → Hint
  | 0 => ⟨[(0, .own 1 K1), (1, .keep)], []⟩
  | _ => ⟨[], []⟩
noncomputable def impl_addU.join : Nat → Option Hint
  | _ => none
noncomputable def impl_addU.body : Code := (Try.f100).body.getD .skip
noncomputable def impl_addU.rv : List ResultVar := (Try.f100).results.toList
noncomputable def impl_addText.m (c100 : (List Int) × Int → Option (List Int)) : ((List Int) × ByteArray) → Option (List Int)
  | (a0_0, a1_0) =>
  Option.bind (c100 (a0_0, (ByteArray.size a1_0 : Int))) fun r1 =>
   bif decide ((List.length r1 + List.length (strNums a1_0)) * 1 ≤ 140737488355328) then
    some (r1 ++ (strNums a1_0))
   else
    none
noncomputable def impl_addText.sig : Sig := ⟨[.val false [⟨.row K1, 1, 1, false⟩], .val false [⟨.str, 0, 0, false⟩]], [(.one, [(.row K1, 1)])]⟩
noncomputable def impl_addText.hint : Nat → Hint
  | _ => ⟨[], []⟩
noncomputable def impl_addText.join : Nat → Option Hint
  | _ => none
noncomputable def impl_addText.body : Code := (Try.f99).body.getD .skip
noncomputable def impl_addText.rv : List ResultVar := (Try.f99).results.toList
noncomputable def impl_PutPage.m (c62 : Int × Int × Int → Option (Bool)) (c98 : (List Int) → Option (List Int)) (c99 : (List Int) × ByteArray → Option (List Int)) (c100 : (List Int) × Int → Option (List Int)) : (Int × (List Int)) → Option (List Int)
  | (a0_0, a1_0) =>
  Option.bind (c62 (a0_0, (1 : Int), (2 : Int))) fun r1 =>
   bif !(r1) then
    some ([] : List Int)
   else
    bif decide ((List.length a1_0 : Int) > (240 : Int)) then
     some ([] : List Int)
    else
     Option.bind (c100 (([] : List Int), a0_0)) fun r2 =>
      Option.bind (c99 (r2, numsStr a1_0)) fun r3 =>
       Option.bind (c98 r3) fun r4 =>
        some r4
noncomputable def impl_PutPage.sig : Sig := ⟨[.val false [⟨.int .i64, 0, 0, false⟩], .val false [⟨.row K1, 0, 0, false⟩]], [(.one, [(.row K1, 1)])]⟩
noncomputable def impl_PutPage.hint : Nat → Hint
  | _ => ⟨[], []⟩
noncomputable def impl_PutPage.join : Nat → Option Hint
  | _ => none
noncomputable def impl_PutPage.body : Code := (Try.f54).body.getD .skip
noncomputable def impl_PutPage.rv : List ResultVar := (Try.f54).results.toList
noncomputable def impl_PutSum.m (c72 : (List Int) → Option (List Int)) (c98 : (List Int) → Option (List Int)) : (List Int) → Option (List Int)
  | a0_0 =>
  Option.bind (c72 a0_0) fun r1 =>
   Option.bind (c98 r1) fun r2 =>
    some r2
noncomputable def impl_PutSum.sig : Sig := ⟨[.val false [⟨.row K1, 0, 0, false⟩]], [(.one, [(.row K1, 1)])]⟩
noncomputable def impl_PutSum.hint : Nat → Hint
  | _ => ⟨[], []⟩
noncomputable def impl_PutSum.join : Nat → Option Hint
  | _ => none
noncomputable def impl_PutSum.body : Code := (Try.f112).body.getD .skip
noncomputable def impl_PutSum.rv : List ResultVar := (Try.f112).results.toList
noncomputable def impl_GetSum.m (c72 : (List Int) → Option (List Int)) (c112 : (List Int) → Option (List Int)) : (List Int) → Option ((List Int) × Bool)
  | a0_0 =>
  bif decide ((List.length a0_0 : Int) < (4 : Int)) then
   some (([] : List Int), false)
  else
   bif decide (0 ≤ (0 : Int)) && decide ((0 : Int) ≤ (IntKind.wrap IntKind.i64 ((List.length a0_0 : Int) - (4 : Int)))) && decide ((IntKind.wrap IntKind.i64 ((List.length a0_0 : Int) - (4 : Int))) ≤ (List.length a0_0 : Int)) then
    Option.bind (c72 (List.drop (Int.toNat (0 : Int)) (List.take (Int.toNat (IntKind.wrap IntKind.i64 ((List.length a0_0 : Int) - (4 : Int)))) a0_0))) fun r1 =>
     Option.bind (c112 r1) fun r2 =>
      bif !(ByteArray.toList (numsStr r2) == ByteArray.toList (numsStr a0_0)) then
       some (([] : List Int), false)
      else
       some (r1, true)
   else
    none
noncomputable def impl_GetSum.sig : Sig := ⟨[.val false [⟨.row K1, 0, 0, false⟩]], [(.one, [(.row K1, 1)]), (.one, [(.bool, 0)])]⟩
noncomputable def impl_GetSum.hint : Nat → Hint
  | _ => ⟨[], []⟩
noncomputable def impl_GetSum.join : Nat → Option Hint
  | _ => none
noncomputable def impl_GetSum.body : Code := (Try.f91).body.getD .skip
noncomputable def impl_GetSum.rv : List ResultVar := (Try.f91).results.toList
noncomputable def impl_GetU.s0 (L0 : ((List Int) × Int × Int × Int) → Option (Int × Int × Bool)) : ((List Int) × Int × Int × Int) → Option (Int × Int × Bool)
  | (x0, x1, x2, x3) =>
  bif decide (x3 < (3 : Int)) then
   bif decide (x1 ≥ (0 : Int)) then
    bif decide (x1 < (IntKind.wrap IntKind.i64 ((List.length x0 : Int) - x3))) then
     bif decide (0 ≤ (IntKind.wrap IntKind.i64 (x1 + x3))) && decide ((IntKind.wrap IntKind.i64 (x1 + x3)) < (List.length x0 : Int)) then
      bif decide (¬ (128 : Int) = 0) then
       bif decide (¬ (IntKind.wrap IntKind.i64 ((7 : Int) * x3)) < 0) then
        bif decide ((IntKind.wrap IntKind.i64 (List.getD x0 (Int.toNat (IntKind.wrap IntKind.i64 (x1 + x3))) (0 : Int))) ≥ (128 : Int)) then
         L0 (x0, x1, IntKind.wrap IntKind.i64 (x2 + (IntKind.wrap IntKind.i64 ((Int.tmod (IntKind.wrap IntKind.i64 (List.getD x0 (Int.toNat (IntKind.wrap IntKind.i64 (x1 + x3))) (0 : Int))) (128 : Int)) * 2 ^ (min (Int.toNat (IntKind.wrap IntKind.i64 ((7 : Int) * x3))) (IntKind.bits IntKind.i64))))), IntKind.wrap IntKind.i64 (x3 + (1 : Int)))
        else
         bif (IntKind.wrap IntKind.i64 (List.getD x0 (Int.toNat (IntKind.wrap IntKind.i64 (x1 + x3))) (0 : Int))) == (0 : Int) then
          bif decide (x3 > (0 : Int)) then
           some ((0 : Int), (0 : Int), false)
          else
           bif decide ((IntKind.wrap IntKind.i64 (x2 + (IntKind.wrap IntKind.i64 ((Int.tmod (IntKind.wrap IntKind.i64 (List.getD x0 (Int.toNat (IntKind.wrap IntKind.i64 (x1 + x3))) (0 : Int))) (128 : Int)) * 2 ^ (min (Int.toNat (IntKind.wrap IntKind.i64 ((7 : Int) * x3))) (IntKind.bits IntKind.i64)))))) > (1000000 : Int)) then
            some ((0 : Int), (0 : Int), false)
           else
            some (IntKind.wrap IntKind.i64 (x2 + (IntKind.wrap IntKind.i64 ((Int.tmod (IntKind.wrap IntKind.i64 (List.getD x0 (Int.toNat (IntKind.wrap IntKind.i64 (x1 + x3))) (0 : Int))) (128 : Int)) * 2 ^ (min (Int.toNat (IntKind.wrap IntKind.i64 ((7 : Int) * x3))) (IntKind.bits IntKind.i64))))), IntKind.wrap IntKind.i64 ((IntKind.wrap IntKind.i64 (x1 + x3)) + (1 : Int)), true)
         else
          bif decide ((IntKind.wrap IntKind.i64 (x2 + (IntKind.wrap IntKind.i64 ((Int.tmod (IntKind.wrap IntKind.i64 (List.getD x0 (Int.toNat (IntKind.wrap IntKind.i64 (x1 + x3))) (0 : Int))) (128 : Int)) * 2 ^ (min (Int.toNat (IntKind.wrap IntKind.i64 ((7 : Int) * x3))) (IntKind.bits IntKind.i64)))))) > (1000000 : Int)) then
           some ((0 : Int), (0 : Int), false)
          else
           some (IntKind.wrap IntKind.i64 (x2 + (IntKind.wrap IntKind.i64 ((Int.tmod (IntKind.wrap IntKind.i64 (List.getD x0 (Int.toNat (IntKind.wrap IntKind.i64 (x1 + x3))) (0 : Int))) (128 : Int)) * 2 ^ (min (Int.toNat (IntKind.wrap IntKind.i64 ((7 : Int) * x3))) (IntKind.bits IntKind.i64))))), IntKind.wrap IntKind.i64 ((IntKind.wrap IntKind.i64 (x1 + x3)) + (1 : Int)), true)
       else
        none
      else
       none
     else
      none
    else
     some ((0 : Int), (0 : Int), false)
   else
    some ((0 : Int), (0 : Int), false)
  else
   some ((0 : Int), (0 : Int), false)
noncomputable def impl_GetU.ll0 : ((List Int) × Int × Int × Int) → LS
  | (x0, x1, x2, x3) => ⟨[.cv ⟨.row K1, x0⟩, .cv ⟨.int .i64, x1⟩, .cv ⟨.int .i64, x2⟩, .cv ⟨.int .i64, x3⟩], []⟩
noncomputable def impl_GetU.m (B0 : ((List Int) × Int × Int × Int) → Option (Int × Int × Bool)) : ((List Int) × Int) → Option (Int × Int × Bool)
  | (a0_0, a1_0) =>
  B0 (a0_0, a1_0, (0 : Int), (0 : Int))
noncomputable def impl_GetU.sig : Sig := ⟨[.val false [⟨.row K1, 0, 0, false⟩], .val false [⟨.int .i64, 0, 0, false⟩]], [(.one, [(.int .i64, 0)]), (.one, [(.int .i64, 0)]), (.one, [(.bool, 0)])]⟩
noncomputable def impl_GetU.hint : Nat → Hint
  | 0 => ⟨[(0, .keep), (1, .keep), (7, .keep), (8, .keep)], []⟩
  | _ => ⟨[], []⟩
noncomputable def impl_GetU.join : Nat → Option Hint
  | _ => none
noncomputable def impl_GetU.body : Code := (Try.f92).body.getD .skip
noncomputable def impl_GetU.rv : List ResultVar := (Try.f92).results.toList
noncomputable def impl_GetText.m (c92 : (List Int) × Int → Option (Int × Int × Bool)) : ((List Int) × Int) → Option (ByteArray × Int × Bool)
  | (a0_0, a1_0) =>
  Option.bind (c92 (a0_0, a1_0)) fun r1 =>
   bif !(r1.2.2) then
    some (({ data := #[] } : ByteArray), (0 : Int), false)
   else
    bif decide (r1.1 > (IntKind.wrap IntKind.i64 ((List.length a0_0 : Int) - r1.2.1))) then
     some (({ data := #[] } : ByteArray), (0 : Int), false)
    else
     bif decide (0 ≤ r1.2.1) && decide (r1.2.1 ≤ (IntKind.wrap IntKind.i64 (r1.2.1 + r1.1))) && decide ((IntKind.wrap IntKind.i64 (r1.2.1 + r1.1)) ≤ (List.length a0_0 : Int)) then
      some (numsStr (List.drop (Int.toNat r1.2.1) (List.take (Int.toNat (IntKind.wrap IntKind.i64 (r1.2.1 + r1.1))) a0_0)), IntKind.wrap IntKind.i64 (r1.2.1 + r1.1), true)
     else
      none
noncomputable def impl_GetText.sig : Sig := ⟨[.val false [⟨.row K1, 0, 0, false⟩], .val false [⟨.int .i64, 0, 0, false⟩]], [(.one, [(.str, 0)]), (.one, [(.int .i64, 0)]), (.one, [(.bool, 0)])]⟩
noncomputable def impl_GetText.hint : Nat → Hint
  | _ => ⟨[], []⟩
noncomputable def impl_GetText.join : Nat → Option Hint
  | _ => none
noncomputable def impl_GetText.body : Code := (Try.f93).body.getD .skip
noncomputable def impl_GetText.rv : List ResultVar := (Try.f93).results.toList
noncomputable def impl_GetPage.m (c54 : Int × (List Int) → Option (List Int)) (c91 : (List Int) → Option ((List Int) × Bool)) (c92 : (List Int) × Int → Option (Int × Int × Bool)) (c93 : (List Int) × Int → Option (ByteArray × Int × Bool)) : (List Int) → Option (Int × (List Int) × Bool)
  | a0_0 =>
  Option.bind (c91 a0_0) fun r1 =>
   Option.bind (c92 (r1.1, (0 : Int))) fun r2 =>
    Option.bind (c93 (r1.1, r2.2.1)) fun r3 =>
     bif !(r1.2) then
      some ((0 : Int), ([] : List Int), false)
     else
      bif !(r2.2.2) then
       some ((0 : Int), ([] : List Int), false)
      else
       bif !(r3.2.2) then
        some ((0 : Int), ([] : List Int), false)
       else
        bif decide (r2.1 < (1 : Int)) then
         some ((0 : Int), ([] : List Int), false)
        else
         Option.bind (c54 (r2.1, strNums r3.1)) fun r4 =>
          bif !(ByteArray.toList (numsStr r4) == ByteArray.toList (numsStr a0_0)) then
           some ((0 : Int), ([] : List Int), false)
          else
           some (r2.1, strNums r3.1, true)
noncomputable def impl_GetPage.sig : Sig := ⟨[.val false [⟨.row K1, 0, 0, false⟩]], [(.one, [(.int .i64, 0)]), (.one, [(.row K1, 1)]), (.one, [(.bool, 0)])]⟩
noncomputable def impl_GetPage.hint : Nat → Hint
  | _ => ⟨[], []⟩
noncomputable def impl_GetPage.join : Nat → Option Hint
  | _ => none
noncomputable def impl_GetPage.body : Code := (Try.f49).body.getD .skip
noncomputable def impl_GetPage.rv : List ResultVar := (Try.f49).results.toList
noncomputable def spec_GetSum.s0 (c113 : (List Int) → Option (Int)) (L0 : ((List Int) × Int × Int × Int) → Option ((List Int) × Bool)) : ((List Int) × Int × Int × Int) → Option ((List Int) × Bool)
  | (x0, x1, x2, x3) =>
  bif decide (x3 < (List.length x0 : Int)) then
   bif decide (¬ (8 : Int) < 0) then
    bif decide (0 ≤ x3) && decide (x3 < (List.length x0 : Int)) then
     L0 (x0, x1, IntKind.wrap IntKind.i64 ((BitVec.ofInt (IntKind.bits IntKind.i64) (IntKind.wrap IntKind.i64 (x2 * 2 ^ (min (Int.toNat (8 : Int)) (IntKind.bits IntKind.i64)))) ||| BitVec.ofInt (IntKind.bits IntKind.i64) (IntKind.wrap IntKind.i64 (List.getD x0 (Int.toNat x3) (0 : Int)))).toNat : Int), IntKind.wrap IntKind.i64 (x3 + (1 : Int)))
    else
     none
   else
    none
  else
   bif decide (0 ≤ (0 : Int)) && decide ((0 : Int) ≤ x1) && decide (x1 ≤ (List.length x0 : Int)) then
    Option.bind (c113 (List.drop (Int.toNat (0 : Int)) (List.take (Int.toNat x1) x0))) fun r1 =>
     bif x2 != r1 then
      some (([] : List Int), false)
     else
      bif decide (0 ≤ (0 : Int)) && decide ((0 : Int) ≤ x1) && decide (x1 ≤ (List.length x0 : Int)) then
       bif decide ((List.length ([] : List Int) + List.length (List.drop (Int.toNat (0 : Int)) (List.take (Int.toNat x1) x0))) * 1 ≤ 140737488355328) then
        some (([] : List Int) ++ (List.drop (Int.toNat (0 : Int)) (List.take (Int.toNat x1) x0)), true)
       else
        none
      else
       none
   else
    none
noncomputable def spec_GetSum.ll0 : ((List Int) × Int × Int × Int) → LS
  | (x0, x1, x2, x3) => ⟨[.cv ⟨.row K1, x0⟩, .cv ⟨.int .i64, x1⟩, .cv ⟨.int .i64, x2⟩, .cv ⟨.int .i64, x3⟩], []⟩
noncomputable def spec_GetSum.m (B0 : ((List Int) × Int × Int × Int) → Option ((List Int) × Bool)) : (List Int) → Option ((List Int) × Bool)
  | a0_0 =>
  bif decide ((IntKind.wrap IntKind.i64 ((List.length a0_0 : Int) - (4 : Int))) < (0 : Int)) then
   some (([] : List Int), false)
  else
   B0 (a0_0, IntKind.wrap IntKind.i64 ((List.length a0_0 : Int) - (4 : Int)), (0 : Int), IntKind.wrap IntKind.i64 ((List.length a0_0 : Int) - (4 : Int)))
noncomputable def spec_GetSum.sig : Sig := ⟨[.val false [⟨.row K1, 0, 0, false⟩]], [(.one, [(.row K1, 1)]), (.one, [(.bool, 0)])]⟩
noncomputable def spec_GetSum.hint : Nat → Hint
  | 0 => ⟨[(0, .keep), (4, .keep), (5, .keep), (6, .keep)], []⟩
  | _ => ⟨[], []⟩
noncomputable def spec_GetSum.join : Nat → Option Hint
  | _ => none
noncomputable def spec_GetSum.body : Code := (Try.f94).body.getD .skip
noncomputable def spec_GetSum.rv : List ResultVar := (Try.f94).results.toList
noncomputable def spec_GetU.s0 (L0 : ((List Int) × Int × Int × Int) → Option (Int × Int × Bool)) : ((List Int) × Int × Int × Int) → Option (Int × Int × Bool)
  | (x0, x1, x2, x3) =>
  bif decide (x3 < (3 : Int)) then
   bif decide (x1 ≥ (0 : Int)) then
    bif decide (x1 < (List.length x0 : Int)) then
     bif decide ((IntKind.wrap IntKind.i64 (x1 + x3)) < (List.length x0 : Int)) then
      bif decide (0 ≤ (IntKind.wrap IntKind.i64 (x1 + x3))) && decide ((IntKind.wrap IntKind.i64 (x1 + x3)) < (List.length x0 : Int)) then
       bif decide (¬ (IntKind.wrap IntKind.u64 (IntKind.wrap IntKind.i64 ((7 : Int) * x3))) < 0) then
        bif decide ((IntKind.wrap IntKind.i64 (List.getD x0 (Int.toNat (IntKind.wrap IntKind.i64 (x1 + x3))) (0 : Int))) > (127 : Int)) then
         L0 (x0, x1, IntKind.wrap IntKind.i64 ((BitVec.ofInt (IntKind.bits IntKind.i64) x2 ||| BitVec.ofInt (IntKind.bits IntKind.i64) (IntKind.wrap IntKind.i64 ((IntKind.wrap IntKind.i64 ((BitVec.ofInt (IntKind.bits IntKind.i64) (IntKind.wrap IntKind.i64 (List.getD x0 (Int.toNat (IntKind.wrap IntKind.i64 (x1 + x3))) (0 : Int))) &&& BitVec.ofInt (IntKind.bits IntKind.i64) (127 : Int)).toNat : Int)) * 2 ^ (min (Int.toNat (IntKind.wrap IntKind.u64 (IntKind.wrap IntKind.i64 ((7 : Int) * x3)))) (IntKind.bits IntKind.i64))))).toNat : Int), IntKind.wrap IntKind.i64 (x3 + (1 : Int)))
        else
         bif decide (x3 > (0 : Int)) then
          bif (IntKind.wrap IntKind.i64 (List.getD x0 (Int.toNat (IntKind.wrap IntKind.i64 (x1 + x3))) (0 : Int))) == (0 : Int) then
           some ((0 : Int), (0 : Int), false)
          else
           bif decide ((IntKind.wrap IntKind.i64 ((BitVec.ofInt (IntKind.bits IntKind.i64) x2 ||| BitVec.ofInt (IntKind.bits IntKind.i64) (IntKind.wrap IntKind.i64 ((IntKind.wrap IntKind.i64 ((BitVec.ofInt (IntKind.bits IntKind.i64) (IntKind.wrap IntKind.i64 (List.getD x0 (Int.toNat (IntKind.wrap IntKind.i64 (x1 + x3))) (0 : Int))) &&& BitVec.ofInt (IntKind.bits IntKind.i64) (127 : Int)).toNat : Int)) * 2 ^ (min (Int.toNat (IntKind.wrap IntKind.u64 (IntKind.wrap IntKind.i64 ((7 : Int) * x3)))) (IntKind.bits IntKind.i64))))).toNat : Int)) > (1000000 : Int)) then
            some ((0 : Int), (0 : Int), false)
           else
            some (IntKind.wrap IntKind.i64 ((BitVec.ofInt (IntKind.bits IntKind.i64) x2 ||| BitVec.ofInt (IntKind.bits IntKind.i64) (IntKind.wrap IntKind.i64 ((IntKind.wrap IntKind.i64 ((BitVec.ofInt (IntKind.bits IntKind.i64) (IntKind.wrap IntKind.i64 (List.getD x0 (Int.toNat (IntKind.wrap IntKind.i64 (x1 + x3))) (0 : Int))) &&& BitVec.ofInt (IntKind.bits IntKind.i64) (127 : Int)).toNat : Int)) * 2 ^ (min (Int.toNat (IntKind.wrap IntKind.u64 (IntKind.wrap IntKind.i64 ((7 : Int) * x3)))) (IntKind.bits IntKind.i64))))).toNat : Int), IntKind.wrap IntKind.i64 ((IntKind.wrap IntKind.i64 (x1 + x3)) + (1 : Int)), true)
         else
          bif decide ((IntKind.wrap IntKind.i64 ((BitVec.ofInt (IntKind.bits IntKind.i64) x2 ||| BitVec.ofInt (IntKind.bits IntKind.i64) (IntKind.wrap IntKind.i64 ((IntKind.wrap IntKind.i64 ((BitVec.ofInt (IntKind.bits IntKind.i64) (IntKind.wrap IntKind.i64 (List.getD x0 (Int.toNat (IntKind.wrap IntKind.i64 (x1 + x3))) (0 : Int))) &&& BitVec.ofInt (IntKind.bits IntKind.i64) (127 : Int)).toNat : Int)) * 2 ^ (min (Int.toNat (IntKind.wrap IntKind.u64 (IntKind.wrap IntKind.i64 ((7 : Int) * x3)))) (IntKind.bits IntKind.i64))))).toNat : Int)) > (1000000 : Int)) then
           some ((0 : Int), (0 : Int), false)
          else
           some (IntKind.wrap IntKind.i64 ((BitVec.ofInt (IntKind.bits IntKind.i64) x2 ||| BitVec.ofInt (IntKind.bits IntKind.i64) (IntKind.wrap IntKind.i64 ((IntKind.wrap IntKind.i64 ((BitVec.ofInt (IntKind.bits IntKind.i64) (IntKind.wrap IntKind.i64 (List.getD x0 (Int.toNat (IntKind.wrap IntKind.i64 (x1 + x3))) (0 : Int))) &&& BitVec.ofInt (IntKind.bits IntKind.i64) (127 : Int)).toNat : Int)) * 2 ^ (min (Int.toNat (IntKind.wrap IntKind.u64 (IntKind.wrap IntKind.i64 ((7 : Int) * x3)))) (IntKind.bits IntKind.i64))))).toNat : Int), IntKind.wrap IntKind.i64 ((IntKind.wrap IntKind.i64 (x1 + x3)) + (1 : Int)), true)
       else
        none
      else
       none
     else
      some ((0 : Int), (0 : Int), false)
    else
     some ((0 : Int), (0 : Int), false)
   else
    some ((0 : Int), (0 : Int), false)
  else
   some ((0 : Int), (0 : Int), false)
noncomputable def spec_GetU.ll0 : ((List Int) × Int × Int × Int) → LS
  | (x0, x1, x2, x3) => ⟨[.cv ⟨.row K1, x0⟩, .cv ⟨.int .i64, x1⟩, .cv ⟨.int .i64, x2⟩, .cv ⟨.int .i64, x3⟩], []⟩
noncomputable def spec_GetU.m (B0 : ((List Int) × Int × Int × Int) → Option (Int × Int × Bool)) : ((List Int) × Int) → Option (Int × Int × Bool)
  | (a0_0, a1_0) =>
  B0 (a0_0, a1_0, (0 : Int), (0 : Int))
noncomputable def spec_GetU.sig : Sig := ⟨[.val false [⟨.row K1, 0, 0, false⟩], .val false [⟨.int .i64, 0, 0, false⟩]], [(.one, [(.int .i64, 0)]), (.one, [(.int .i64, 0)]), (.one, [(.bool, 0)])]⟩
noncomputable def spec_GetU.hint : Nat → Hint
  | 0 => ⟨[(0, .keep), (1, .keep), (7, .keep), (8, .keep)], []⟩
  | _ => ⟨[], []⟩
noncomputable def spec_GetU.join : Nat → Option Hint
  | _ => none
noncomputable def spec_GetU.body : Code := (Try.f95).body.getD .skip
noncomputable def spec_GetU.rv : List ResultVar := (Try.f95).results.toList
noncomputable def spec_GetText.m (c95 : (List Int) × Int → Option (Int × Int × Bool)) : ((List Int) × Int) → Option (ByteArray × Int × Bool)
  | (a0_0, a1_0) =>
  Option.bind (c95 (a0_0, a1_0)) fun r1 =>
   bif !(r1.2.2) then
    some (({ data := #[] } : ByteArray), (0 : Int), false)
   else
    bif decide (r1.1 > (IntKind.wrap IntKind.i64 ((List.length a0_0 : Int) - r1.2.1))) then
     some (({ data := #[] } : ByteArray), (0 : Int), false)
    else
     bif decide (0 ≤ r1.2.1) && decide (r1.2.1 ≤ (IntKind.wrap IntKind.i64 (r1.2.1 + r1.1))) && decide ((IntKind.wrap IntKind.i64 (r1.2.1 + r1.1)) ≤ (List.length a0_0 : Int)) then
      some (numsStr (List.drop (Int.toNat r1.2.1) (List.take (Int.toNat (IntKind.wrap IntKind.i64 (r1.2.1 + r1.1))) a0_0)), IntKind.wrap IntKind.i64 (r1.2.1 + r1.1), true)
     else
      none
noncomputable def spec_GetText.sig : Sig := ⟨[.val false [⟨.row K1, 0, 0, false⟩], .val false [⟨.int .i64, 0, 0, false⟩]], [(.one, [(.str, 0)]), (.one, [(.int .i64, 0)]), (.one, [(.bool, 0)])]⟩
noncomputable def spec_GetText.hint : Nat → Hint
  | _ => ⟨[], []⟩
noncomputable def spec_GetText.join : Nat → Option Hint
  | _ => none
noncomputable def spec_GetText.body : Code := (Try.f96).body.getD .skip
noncomputable def spec_GetText.rv : List ResultVar := (Try.f96).results.toList
noncomputable def spec_GetPage.m (c58 : Int × Int × Int → Option (Bool)) (c94 : (List Int) → Option ((List Int) × Bool)) (c95 : (List Int) × Int → Option (Int × Int × Bool)) (c96 : (List Int) × Int → Option (ByteArray × Int × Bool)) : (List Int) → Option (Int × (List Int) × Bool)
  | a0_0 =>
  Option.bind (c94 a0_0) fun r1 =>
   Option.bind (c95 (r1.1, (0 : Int))) fun r2 =>
    Option.bind (c96 (r1.1, r2.2.1)) fun r3 =>
     bif !(r1.2) then
      some ((0 : Int), ([] : List Int), false)
     else
      bif !(r2.2.2) then
       some ((0 : Int), ([] : List Int), false)
      else
       bif !(r3.2.2) then
        some ((0 : Int), ([] : List Int), false)
       else
        bif r3.2.1 != (List.length r1.1 : Int) then
         some ((0 : Int), ([] : List Int), false)
        else
         Option.bind (c58 (r2.1, (1 : Int), (2 : Int))) fun r4 =>
          bif !(r4) then
           some ((0 : Int), ([] : List Int), false)
          else
           bif decide ((ByteArray.size r3.1 : Int) > (240 : Int)) then
            some ((0 : Int), ([] : List Int), false)
           else
            some (r2.1, strNums r3.1, true)
noncomputable def spec_GetPage.sig : Sig := ⟨[.val false [⟨.row K1, 0, 0, false⟩]], [(.one, [(.int .i64, 0)]), (.one, [(.row K1, 1)]), (.one, [(.bool, 0)])]⟩
noncomputable def spec_GetPage.hint : Nat → Hint
  | _ => ⟨[], []⟩
noncomputable def spec_GetPage.join : Nat → Option Hint
  | _ => none
noncomputable def spec_GetPage.body : Code := (Try.f50).body.getD .skip
noncomputable def spec_GetPage.rv : List ResultVar := (Try.f50).results.toList
noncomputable def impl_PageAt.m (c28 : (List (List Int)) × (List (Int × (List Int))) × Int × (List (Int × Int × Int)) × Bool × Int → Option ((List Int) × Bool)) (c49 : (List Int) → Option (Int × (List Int) × Bool)) : ((List (List Int)) × (List (Int × (List Int))) × Int × (List (Int × Int × Int)) × Bool × Int × Int) → Option ((List Int) × Bool)
  | (a0_0, a0_1, a0_2, a0_3, a0_4, a1_0, a2_0) =>
  Option.bind (c28 (a0_0, a0_1, a0_2, a0_3, a0_4, a1_0)) fun r1 =>
   Option.bind (c49 r1.1) fun r2 =>
    bif !(r1.2) then
     some (([] : List Int), false)
    else
     bif !(r2.2.2) then
      some (([] : List Int), false)
     else
      bif r2.1 != a2_0 then
       some (([] : List Int), false)
      else
       some (r2.2.1, true)
noncomputable def impl_PageAt.sig : Sig := ⟨[.val true [⟨.row K2, 0, 0, false⟩, ⟨.row K3, 0, 0, false⟩, ⟨.int .i64, 0, 0, false⟩, ⟨.row K0, 0, 0, false⟩, ⟨.bool, 0, 0, false⟩], .val false [⟨.int .i64, 0, 0, false⟩], .val false [⟨.int .i64, 0, 0, false⟩]], [(.one, [(.row K1, 1)]), (.one, [(.bool, 0)])]⟩
noncomputable def impl_PageAt.hint : Nat → Hint
  | _ => ⟨[], []⟩
noncomputable def impl_PageAt.join : Nat → Option Hint
  | _ => none
noncomputable def impl_PageAt.body : Code := (Try.f52).body.getD .skip
noncomputable def impl_PageAt.rv : List ResultVar := (Try.f52).results.toList
noncomputable def spec_PageAt.m (c27 : (List (List Int)) × (List (Int × (List Int))) × Int × (List (Int × Int × Int)) × Bool × Int → Option ((List Int) × Bool)) (c50 : (List Int) → Option (Int × (List Int) × Bool)) : ((List (List Int)) × (List (Int × (List Int))) × Int × (List (Int × Int × Int)) × Bool × Int × Int) → Option ((List Int) × Bool)
  | (a0_0, a0_1, a0_2, a0_3, a0_4, a1_0, a2_0) =>
  Option.bind (c27 (a0_0, a0_1, a0_2, a0_3, a0_4, a1_0)) fun r1 =>
   Option.bind (c50 r1.1) fun r2 =>
    bif !(r1.2) then
     some (([] : List Int), false)
    else
     bif !(r2.2.2) then
      some (([] : List Int), false)
     else
      bif r2.1 != a2_0 then
       some (([] : List Int), false)
      else
       some (r2.2.1, true)
noncomputable def spec_PageAt.sig : Sig := ⟨[.val true [⟨.row K2, 0, 0, false⟩, ⟨.row K3, 0, 0, false⟩, ⟨.int .i64, 0, 0, false⟩, ⟨.row K0, 0, 0, false⟩, ⟨.bool, 0, 0, false⟩], .val false [⟨.int .i64, 0, 0, false⟩], .val false [⟨.int .i64, 0, 0, false⟩]], [(.one, [(.row K1, 1)]), (.one, [(.bool, 0)])]⟩
noncomputable def spec_PageAt.hint : Nat → Hint
  | _ => ⟨[], []⟩
noncomputable def spec_PageAt.join : Nat → Option Hint
  | _ => none
noncomputable def spec_PageAt.body : Code := (Try.f53).body.getD .skip
noncomputable def spec_PageAt.rv : List ResultVar := (Try.f53).results.toList
noncomputable def laws_FnExactPageAt.m (c14 : (List (List Int)) × (List (Int × (List Int))) × Int × (List (Int × Int × Int)) × Bool × Int → Option (Int)) (c16 : (List (List Int)) × (List (Int × (List Int))) × Int × (List (Int × Int × Int)) × Bool → Option ((List (List Int)) × (List (Int × (List Int))) × Int × (List (Int × Int × Int)) × Bool)) (c18 : (List (List Int)) × (List (Int × (List Int))) × Int × (List (Int × Int × Int)) × Bool × (List (List Int)) × (List (Int × (List Int))) × Int × (List (Int × Int × Int)) × Bool → Option (Bool)) (c25 : (List (List Int)) × (List (Int × (List Int))) × Int × (List (Int × Int × Int)) × Bool × Int → Option (Int × (List (List Int)) × (List (Int × (List Int))) × (List (Int × Int × Int)))) (c29 : (List Int) × (List Int) → Option (Bool)) (c30 : (List Int) × Int → Option (Int × (List Int))) (c31 : (List Int) × Int → Option (Int)) (c52 : (List (List Int)) × (List (Int × (List Int))) × Int × (List (Int × Int × Int)) × Bool × Int × Int → Option ((List Int) × Bool)) (c53 : (List (List Int)) × (List (Int × (List Int))) × Int × (List (Int × Int × Int)) × Bool × Int × Int → Option ((List Int) × Bool)) : ((List (List Int)) × (List (Int × (List Int))) × Int × (List (Int × Int × Int)) × Bool × Int × Int) → Option (Bool)
  | (a0_0, a0_1, a0_2, a0_3, a0_4, a1_0, a2_0) =>
  Option.bind (c14 (a0_0, a0_1, a0_2, a0_3, a0_4, (1048576 : Int))) fun r1 =>
   bif decide (r1 < (0 : Int)) then
    some true
   else
    Option.bind (c16 (a0_0, a0_1, a0_2, a0_3, a0_4)) fun r2 =>
     Option.bind (c53 (r2.1, r2.2.1, r2.2.2.1, r2.2.2.2.1, r2.2.2.2.2, a1_0, a2_0)) fun r3 =>
      Option.bind (c16 (a0_0, a0_1, a0_2, a0_3, a0_4)) fun r4 =>
       Option.bind (c52 (r4.1, r4.2.1, r4.2.2.1, r4.2.2.2.1, r4.2.2.2.2, a1_0, a2_0)) fun r5 =>
        Option.bind (c29 (r5.1, r3.1)) fun r6 =>
         bif !(r6) then
          some false
         else
          bif !(r5.2 == r3.2) then
           some false
          else
           Option.bind (c16 (a0_0, a0_1, a0_2, a0_3, a0_4)) fun r7 =>
            Option.bind (c18 (r4.1, r4.2.1, r4.2.2.1, r4.2.2.2.1, r4.2.2.2.2, r7.1, r7.2.1, r7.2.2.1, r7.2.2.2.1, r7.2.2.2.2)) fun r8 =>
             bif !(r8) then
              some false
             else
              Option.bind (c25 (r4.1, r4.2.1, r4.2.2.1, r4.2.2.2.1, r4.2.2.2.2, (1 : Int))) fun r9 =>
               bif decide (r9.1 < (0 : Int)) then
                some false
               else
                Option.bind (c29 (r5.1, r3.1)) fun r10 =>
                 bif !(r10) then
                  some false
                 else
                  bif !(r5.2 == r3.2) then
                   some false
                  else
                   Option.bind (c30 (r5.1, (1 : Int))) fun r11 =>
                    Option.bind (c31 (r11.2, (1 : Int))) fun r12 =>
                     bif decide (r12 < (0 : Int)) then
                      some false
                     else
                      bif r12 != r11.1 then
                       some false
                      else
                       Option.bind (c16 (a0_0, a0_1, a0_2, a0_3, a0_4)) fun r13 =>
                        Option.bind (c52 (r13.1, r13.2.1, r13.2.2.1, r13.2.2.2.1, r13.2.2.2.2, a1_0, a2_0)) fun r14 =>
                         Option.bind (c29 (r14.1, r3.1)) fun r15 =>
                          bif !(r15) then
                           some false
                          else
                           bif !(r14.2 == r3.2) then
                            some false
                           else
                            Option.bind (c31 (r11.2, (1 : Int))) fun r16 =>
                             bif decide (r16 < (0 : Int)) then
                              some false
                             else
                              bif r16 != r11.1 then
                               some false
                              else
                               some true
noncomputable def laws_FnExactPageAt.sig : Sig := ⟨[.val true [⟨.row K2, 0, 0, false⟩, ⟨.row K3, 0, 0, false⟩, ⟨.int .i64, 0, 0, false⟩, ⟨.row K0, 0, 0, false⟩, ⟨.bool, 0, 0, false⟩], .val false [⟨.int .i64, 0, 0, false⟩], .val false [⟨.int .i64, 0, 0, false⟩]], [(.one, [(.bool, 0)])]⟩
noncomputable def laws_FnExactPageAt.hint : Nat → Hint
  | _ => ⟨[], []⟩
noncomputable def laws_FnExactPageAt.join : Nat → Option Hint
  | _ => none
noncomputable def laws_FnExactPageAt.body : Code := (Try.f11).body.getD .skip
noncomputable def laws_FnExactPageAt.rv : List ResultVar := (Try.f11).results.toList
noncomputable def fns : Nat → Fn
  | 19 => ⟨12, laws_szFaultS.sig, laws_szFaultS.rv, laws_szFaultS.body, laws_szFaultS.hint, laws_szFaultS.join⟩
  | 101 => ⟨12, laws_szByteS.sig, laws_szByteS.rv, laws_szByteS.body, laws_szByteS.hint, laws_szByteS.join⟩
  | 56 => ⟨27, laws_szByteSS.sig, laws_szByteSS.rv, laws_szByteSS.body, laws_szByteSS.hint, laws_szByteSS.join⟩
  | 102 => ⟨12, laws_szWrite.sig, laws_szWrite.rv, laws_szWrite.body, laws_szWrite.hint, laws_szWrite.join⟩
  | 57 => ⟨27, laws_szWriteS.sig, laws_szWriteS.rv, laws_szWriteS.body, laws_szWriteS.hint, laws_szWriteS.join⟩
  | 14 => ⟨24, laws_szDisk.sig, laws_szDisk.rv, laws_szDisk.body, laws_szDisk.hint, laws_szDisk.join⟩
  | 58 => ⟨15, spec_l1In.sig, spec_l1In.rv, spec_l1In.body, spec_l1In.hint, spec_l1In.join⟩
  | 65 => ⟨14, laws_toFault.sig, laws_toFault.rv, laws_toFault.body, laws_toFault.hint, laws_toFault.join⟩
  | 21 => ⟨23, laws_toFaultS.sig, laws_toFaultS.rv, laws_toFaultS.body, laws_toFaultS.hint, laws_toFaultS.join⟩
  | 55 => ⟨22, laws_toByteS.sig, laws_toByteS.rv, laws_toByteS.body, laws_toByteS.hint, laws_toByteS.join⟩
  | 60 => ⟨23, laws_toByteSS.sig, laws_toByteSS.rv, laws_toByteSS.body, laws_toByteSS.hint, laws_toByteSS.join⟩
  | 103 => ⟨12, laws_toWrite.sig, laws_toWrite.rv, laws_toWrite.body, laws_toWrite.hint, laws_toWrite.join⟩
  | 61 => ⟨23, laws_toWriteS.sig, laws_toWriteS.rv, laws_toWriteS.body, laws_toWriteS.hint, laws_toWriteS.join⟩
  | 16 => ⟨23, laws_toDisk.sig, laws_toDisk.rv, laws_toDisk.body, laws_toDisk.hint, laws_toDisk.join⟩
  | 62 => ⟨15, impl_in.sig, impl_in.rv, impl_in.body, impl_in.hint, impl_in.join⟩
  | 66 => ⟨20, laws_eqFault.sig, laws_eqFault.rv, laws_eqFault.body, laws_eqFault.hint, laws_eqFault.join⟩
  | 23 => ⟨27, laws_eqFaultS.sig, laws_eqFaultS.rv, laws_eqFaultS.body, laws_eqFaultS.hint, laws_eqFaultS.join⟩
  | 29 => ⟨26, laws_eqByteS.sig, laws_eqByteS.rv, laws_eqByteS.body, laws_eqByteS.hint, laws_eqByteS.join⟩
  | 63 => ⟨27, laws_eqByteSS.sig, laws_eqByteSS.rv, laws_eqByteSS.body, laws_eqByteSS.hint, laws_eqByteSS.join⟩
  | 104 => ⟨16, laws_eqWrite.sig, laws_eqWrite.rv, laws_eqWrite.body, laws_eqWrite.hint, laws_eqWrite.join⟩
  | 64 => ⟨27, laws_eqWriteS.sig, laws_eqWriteS.rv, laws_eqWriteS.body, laws_eqWriteS.hint, laws_eqWriteS.join⟩
  | 18 => ⟨33, laws_eqDisk.sig, laws_eqDisk.rv, laws_eqDisk.body, laws_eqDisk.hint, laws_eqDisk.join⟩
  | 24 => ⟨34, laws_markFaultS.sig, laws_markFaultS.rv, laws_markFaultS.body, laws_markFaultS.hint, laws_markFaultS.join⟩
  | 30 => ⟨20, laws_markByteS.sig, laws_markByteS.rv, laws_markByteS.body, laws_markByteS.hint, laws_markByteS.join⟩
  | 67 => ⟨19, laws_markByteSS.sig, laws_markByteSS.rv, laws_markByteSS.body, laws_markByteSS.hint, laws_markByteSS.join⟩
  | 68 => ⟨27, laws_markWriteS.sig, laws_markWriteS.rv, laws_markWriteS.body, laws_markWriteS.hint, laws_markWriteS.join⟩
  | 25 => ⟨18, laws_markDisk.sig, laws_markDisk.rv, laws_markDisk.body, laws_markDisk.hint, laws_markDisk.join⟩
  | 31 => ⟨22, laws_heldByteS.sig, laws_heldByteS.rv, laws_heldByteS.body, laws_heldByteS.hint, laws_heldByteS.join⟩
  | 27 => ⟨46, spec_ReadSec.sig, spec_ReadSec.rv, spec_ReadSec.body, spec_ReadSec.hint, spec_ReadSec.join⟩
  | 72 => ⟨5, impl_copyBytes.sig, impl_copyBytes.rv, impl_copyBytes.body, impl_copyBytes.hint, impl_copyBytes.join⟩
  | 28 => ⟨43, impl_ReadSec.sig, impl_ReadSec.rv, impl_ReadSec.body, impl_ReadSec.hint, impl_ReadSec.join⟩
  | 113 => ⟨34, spec_Crc.sig, spec_Crc.rv, spec_Crc.body, spec_Crc.hint, spec_Crc.join⟩
  | 114 => ⟨32, impl_Crc.sig, impl_Crc.rv, impl_Crc.body, impl_Crc.hint, impl_Crc.join⟩
  | 98 => ⟨20, impl_addSum.sig, impl_addSum.rv, impl_addSum.body, impl_addSum.hint, impl_addSum.join⟩
  | 115 => ⟨12, impl_clamp.sig, impl_clamp.rv, impl_clamp.body, impl_clamp.hint, impl_clamp.join⟩
  | 100 => ⟨23, impl_addU.sig, impl_addU.rv, impl_addU.body, impl_addU.hint, impl_addU.join⟩
  | 99 => ⟨11, impl_addText.sig, impl_addText.rv, impl_addText.body, impl_addText.hint, impl_addText.join⟩
  | 54 => ⟨19, impl_PutPage.sig, impl_PutPage.rv, impl_PutPage.body, impl_PutPage.hint, impl_PutPage.join⟩
  | 112 => ⟨6, impl_PutSum.sig, impl_PutSum.rv, impl_PutSum.body, impl_PutSum.hint, impl_PutSum.join⟩
  | 91 => ⟨21, impl_GetSum.sig, impl_GetSum.rv, impl_GetSum.body, impl_GetSum.hint, impl_GetSum.join⟩
  | 92 => ⟨57, impl_GetU.sig, impl_GetU.rv, impl_GetU.body, impl_GetU.hint, impl_GetU.join⟩
  | 93 => ⟨37, impl_GetText.sig, impl_GetText.rv, impl_GetText.body, impl_GetText.hint, impl_GetText.join⟩
  | 49 => ⟨58, impl_GetPage.sig, impl_GetPage.rv, impl_GetPage.body, impl_GetPage.hint, impl_GetPage.join⟩
  | 94 => ⟨40, spec_GetSum.sig, spec_GetSum.rv, spec_GetSum.body, spec_GetSum.hint, spec_GetSum.join⟩
  | 95 => ⟨64, spec_GetU.sig, spec_GetU.rv, spec_GetU.body, spec_GetU.hint, spec_GetU.join⟩
  | 96 => ⟨37, spec_GetText.sig, spec_GetText.rv, spec_GetText.body, spec_GetText.hint, spec_GetText.join⟩
  | 50 => ⟨61, spec_GetPage.sig, spec_GetPage.rv, spec_GetPage.body, spec_GetPage.hint, spec_GetPage.join⟩
  | 52 => ⟨37, impl_PageAt.sig, impl_PageAt.rv, impl_PageAt.body, impl_PageAt.hint, impl_PageAt.join⟩
  | 53 => ⟨38, spec_PageAt.sig, spec_PageAt.rv, spec_PageAt.body, spec_PageAt.hint, spec_PageAt.join⟩
  | 11 => ⟨106, laws_FnExactPageAt.sig, laws_FnExactPageAt.rv, laws_FnExactPageAt.body, laws_FnExactPageAt.hint, laws_FnExactPageAt.join⟩
  | _ => ⟨0, ⟨[], []⟩, [], .refuse "", fun _ => ⟨[], []⟩, fun _ => none⟩
noncomputable def sigs (f : Nat) : Sig := (fns f).sig
end
end Go.PV.T
