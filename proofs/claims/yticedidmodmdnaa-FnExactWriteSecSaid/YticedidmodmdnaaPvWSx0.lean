/- Functions of the program by their own lists and numbers. No condition beyond those in each statement. -/
import Derived.Test.YticedidmodmdnaaPvLibD
import Derived.Test.YticedidmodmdnaaProg
import Derived.KernelRfl
set_option maxRecDepth 100000
set_option linter.unusedVariables false
namespace Go.PV.T
open Go.Proofs
noncomputable section
abbrev K0 : SS := .cons (.int .i64) (.cons (.int .i64) (.one (.int .i64)))
abbrev K1 : SS := .one (.int .u8)
abbrev K2 : SS := .one (.row K1)
abbrev K3 : SS := .cons (.int .i64) (.one (.row K1))
noncomputable def eqts (t : Nat) : Bool := memN t []
noncomputable def tys : Nat → TyI
  | 3 => .cell (.int .i64) 0
  | 4 => .cell (.bool) 0
  | 5 => .cell (.int .u8) 0
  | 22 => .cell (.row K2) 24
  | 23 => .cell (.row K3) 32
  | 24 => .cell (.row K0) 24
  | 26 => .strct [0, 1, 2, 3, 4] [.row K2, .row K3, .int .i64, .row K0, .bool]
  | 29 => .cell (.row K3) 32
  | 30 => .cell (.row K0) 24
  | 32 => .strct [0, 1, 2, 3, 4] [.row K2, .row K3, .int .i64, .row K0, .bool]
  | 43 => .cell (.row K1) 1
  | 58 => .strct [0, 1] [.int .i64, .row K1]
  | 78 => .strct [0, 1, 2] [.int .i64, .int .i64, .int .i64]
  | 82 => .strct [0, 1, 2] [.int .i64, .int .i64, .int .i64]
  | 111 => .strct [0, 1] [.int .i64, .row K1]
  | 119 => .cell (.int .u64) 0
  | _ => .no
noncomputable def laws_szFaultS.m  : ((List (Int × Int × Int)) × Int) → Option (Int)
  | (a0_0, a1_0) =>
  bif decide ((IntKind.wrap IntKind.i64 (a1_0 - (List.length a0_0 : Int))) < (0 : Int)) then
   some (-1 : Int)
  else
   some (IntKind.wrap IntKind.i64 (a1_0 - (List.length a0_0 : Int)))
noncomputable def laws_szFaultS.sig : Sig := ⟨[.val false [⟨.row K0, 0, 0, false⟩], .val false [⟨.int .i64, 0, 0, false⟩]], [(.one, [(.int .i64, 0)])]⟩
noncomputable def laws_szFaultS.hint : Nat → Hint
  | _ => ⟨[], []⟩
noncomputable def laws_szFaultS.join : Nat → Option Hint
  | _ => none
noncomputable def laws_szFaultS.body : Code := (Try.f19).body.getD .skip
noncomputable def laws_szFaultS.rv : List ResultVar := (Try.f19).results.toList
noncomputable def laws_szByteS.m  : ((List Int) × Int) → Option (Int)
  | (a0_0, a1_0) =>
  bif decide ((IntKind.wrap IntKind.i64 (a1_0 - (List.length a0_0 : Int))) < (0 : Int)) then
   some (-1 : Int)
  else
   some (IntKind.wrap IntKind.i64 (a1_0 - (List.length a0_0 : Int)))
noncomputable def laws_szByteS.sig : Sig := ⟨[.val false [⟨.row K1, 0, 0, false⟩], .val false [⟨.int .i64, 0, 0, false⟩]], [(.one, [(.int .i64, 0)])]⟩
noncomputable def laws_szByteS.hint : Nat → Hint
  | _ => ⟨[], []⟩
noncomputable def laws_szByteS.join : Nat → Option Hint
  | _ => none
noncomputable def laws_szByteS.body : Code := (Try.f101).body.getD .skip
noncomputable def laws_szByteS.rv : List ResultVar := (Try.f101).results.toList
noncomputable def laws_szByteSS.s0 (c101 : (List Int) × Int → Option (Int)) (L0 : ((List (List Int)) × Int × Int) → Option (Int)) : ((List (List Int)) × Int × Int) → Option (Int)
  | (x0, x1, x2) =>
  bif decide (x2 < (List.length x0 : Int)) then
   bif decide (0 ≤ x2) && decide (x2 < (List.length x0 : Int)) then
    Option.bind (c101 ((List.getD x0 (Int.toNat x2) ([] : List Int)), x1)) fun r1 =>
     bif decide (r1 < (0 : Int)) then
      some (-1 : Int)
     else
      L0 (x0, r1, IntKind.wrap IntKind.i64 (x2 + (1 : Int)))
   else
    none
  else
   some x1
noncomputable def laws_szByteSS.ll0 : ((List (List Int)) × Int × Int) → LS
  | (x0, x1, x2) => ⟨[.cv ⟨.row K2, x0⟩, .cv ⟨.int .i64, x1⟩, .cv ⟨.int .i64, x2⟩], []⟩
noncomputable def laws_szByteSS.m (B0 : ((List (List Int)) × Int × Int) → Option (Int)) : ((List (List Int)) × Int) → Option (Int)
  | (a0_0, a1_0) =>
  bif decide ((IntKind.wrap IntKind.i64 (a1_0 - (List.length a0_0 : Int))) < (0 : Int)) then
   some (-1 : Int)
  else
   B0 (a0_0, IntKind.wrap IntKind.i64 (a1_0 - (List.length a0_0 : Int)), (0 : Int))
noncomputable def laws_szByteSS.sig : Sig := ⟨[.val false [⟨.row K2, 0, 0, false⟩], .val false [⟨.int .i64, 0, 0, false⟩]], [(.one, [(.int .i64, 0)])]⟩
noncomputable def laws_szByteSS.hint : Nat → Hint
  | 0 => ⟨[(0, .keep), (1, .keep), (5, .keep)], []⟩
  | _ => ⟨[], []⟩
noncomputable def laws_szByteSS.join : Nat → Option Hint
  | _ => none
noncomputable def laws_szByteSS.body : Code := (Try.f56).body.getD .skip
noncomputable def laws_szByteSS.rv : List ResultVar := (Try.f56).results.toList
noncomputable def laws_szWrite.m (c101 : (List Int) × Int → Option (Int)) : (Int × (List Int) × Int) → Option (Int)
  | (a0_0, a0_1, a1_0) =>
  Option.bind (c101 (a0_1, a1_0)) fun r1 =>
   bif decide (r1 < (0 : Int)) then
    some (-1 : Int)
   else
    some r1
noncomputable def laws_szWrite.sig : Sig := ⟨[.val true [⟨.int .i64, 0, 0, false⟩, ⟨.row K1, 0, 0, false⟩], .val false [⟨.int .i64, 0, 0, false⟩]], [(.one, [(.int .i64, 0)])]⟩
noncomputable def laws_szWrite.hint : Nat → Hint
  | _ => ⟨[], []⟩
noncomputable def laws_szWrite.join : Nat → Option Hint
  | _ => none
noncomputable def laws_szWrite.body : Code := (Try.f102).body.getD .skip
noncomputable def laws_szWrite.rv : List ResultVar := (Try.f102).results.toList
noncomputable def laws_szWriteS.s0 (c102 : Int × (List Int) × Int → Option (Int)) (L0 : ((List (Int × (List Int))) × Int × Int) → Option (Int)) : ((List (Int × (List Int))) × Int × Int) → Option (Int)
  | (x0, x1, x2) =>
  bif decide (x2 < (List.length x0 : Int)) then
   bif decide (0 ≤ x2) && decide (x2 < (List.length x0 : Int)) then
    Option.bind (c102 ((List.getD x0 (Int.toNat x2) ((0 : Int), ([] : List Int))).1, (List.getD x0 (Int.toNat x2) ((0 : Int), ([] : List Int))).2, x1)) fun r1 =>
     bif decide (r1 < (0 : Int)) then
      some (-1 : Int)
     else
      L0 (x0, r1, IntKind.wrap IntKind.i64 (x2 + (1 : Int)))
   else
    none
  else
   some x1
noncomputable def laws_szWriteS.ll0 : ((List (Int × (List Int))) × Int × Int) → LS
  | (x0, x1, x2) => ⟨[.cv ⟨.row K3, x0⟩, .cv ⟨.int .i64, x1⟩, .cv ⟨.int .i64, x2⟩], []⟩
noncomputable def laws_szWriteS.m (B0 : ((List (Int × (List Int))) × Int × Int) → Option (Int)) : ((List (Int × (List Int))) × Int) → Option (Int)
  | (a0_0, a1_0) =>
  bif decide ((IntKind.wrap IntKind.i64 (a1_0 - (List.length a0_0 : Int))) < (0 : Int)) then
   some (-1 : Int)
  else
   B0 (a0_0, IntKind.wrap IntKind.i64 (a1_0 - (List.length a0_0 : Int)), (0 : Int))
noncomputable def laws_szWriteS.sig : Sig := ⟨[.val false [⟨.row K3, 0, 0, false⟩], .val false [⟨.int .i64, 0, 0, false⟩]], [(.one, [(.int .i64, 0)])]⟩
noncomputable def laws_szWriteS.hint : Nat → Hint
  | 0 => ⟨[(0, .keep), (1, .keep), (5, .keep)], []⟩
  | _ => ⟨[], []⟩
noncomputable def laws_szWriteS.join : Nat → Option Hint
  | _ => none
noncomputable def laws_szWriteS.body : Code := (Try.f57).body.getD .skip
noncomputable def laws_szWriteS.rv : List ResultVar := (Try.f57).results.toList
noncomputable def laws_szDisk.m (c19 : (List (Int × Int × Int)) × Int → Option (Int)) (c56 : (List (List Int)) × Int → Option (Int)) (c57 : (List (Int × (List Int))) × Int → Option (Int)) : ((List (List Int)) × (List (Int × (List Int))) × Int × (List (Int × Int × Int)) × Bool × Int) → Option (Int)
  | (a0_0, a0_1, a0_2, a0_3, a0_4, a1_0) =>
  Option.bind (c56 (a0_0, a1_0)) fun r1 =>
   bif decide (r1 < (0 : Int)) then
    some (-1 : Int)
   else
    Option.bind (c57 (a0_1, r1)) fun r2 =>
     bif decide (r2 < (0 : Int)) then
      some (-1 : Int)
     else
      Option.bind (c19 (a0_3, r2)) fun r3 =>
       bif decide (r3 < (0 : Int)) then
        some (-1 : Int)
       else
        some r3
noncomputable def laws_szDisk.sig : Sig := ⟨[.val true [⟨.row K2, 0, 0, false⟩, ⟨.row K3, 0, 0, false⟩, ⟨.int .i64, 0, 0, false⟩, ⟨.row K0, 0, 0, false⟩, ⟨.bool, 0, 0, false⟩], .val false [⟨.int .i64, 0, 0, false⟩]], [(.one, [(.int .i64, 0)])]⟩
noncomputable def laws_szDisk.hint : Nat → Hint
  | _ => ⟨[], []⟩
noncomputable def laws_szDisk.join : Nat → Option Hint
  | _ => none
noncomputable def laws_szDisk.body : Code := (Try.f14).body.getD .skip
noncomputable def laws_szDisk.rv : List ResultVar := (Try.f14).results.toList
noncomputable def spec_l1In.m  : (Int × Int × Int) → Option (Bool)
  | (a0_0, a1_0, a2_0) =>
  bif decide (a0_0 ≥ a1_0) then
   some (decide (a0_0 ≤ a2_0))
  else
   some false
noncomputable def spec_l1In.sig : Sig := ⟨[.val false [⟨.int .i64, 0, 0, false⟩], .val false [⟨.int .i64, 0, 0, false⟩], .val false [⟨.int .i64, 0, 0, false⟩]], [(.one, [(.bool, 0)])]⟩
noncomputable def spec_l1In.hint : Nat → Hint
  | _ => ⟨[], []⟩
noncomputable def spec_l1In.join : Nat → Option Hint
  | _ => none
noncomputable def spec_l1In.body : Code := (Try.f58).body.getD .skip
noncomputable def spec_l1In.rv : List ResultVar := (Try.f58).results.toList
noncomputable def spec_l12Faults.s0 (c58 : Int × Int × Int → Option (Bool)) (L0 : ((List (Int × Int × Int)) × Int) → Option (Bool)) : ((List (Int × Int × Int)) × Int) → Option (Bool)
  | (x0, x1) =>
  bif decide (x1 < (List.length x0 : Int)) then
   bif decide (0 ≤ x1) && decide (x1 < (List.length x0 : Int)) then
    Option.bind (c58 ((List.getD x0 (Int.toNat x1) ((0 : Int), (0 : Int), (0 : Int))).1, (0 : Int), (100000 : Int))) fun r1 =>
     bif !(r1) then
      some false
     else
      bif decide (0 ≤ x1) && decide (x1 < (List.length x0 : Int)) then
       Option.bind (c58 ((List.getD x0 (Int.toNat x1) ((0 : Int), (0 : Int), (0 : Int))).2.1, (0 : Int), (1048575 : Int))) fun r2 =>
        bif !(r2) then
         some false
        else
         bif decide (0 ≤ x1) && decide (x1 < (List.length x0 : Int)) then
          Option.bind (c58 ((List.getD x0 (Int.toNat x1) ((0 : Int), (0 : Int), (0 : Int))).2.2, (0 : Int), (256 : Int))) fun r3 =>
           bif !(r3) then
            some false
           else
            bif decide (x1 > (0 : Int)) then
             bif decide (0 ≤ (IntKind.wrap IntKind.i64 (x1 - (1 : Int)))) && decide ((IntKind.wrap IntKind.i64 (x1 - (1 : Int))) < (List.length x0 : Int)) then
              bif decide (0 ≤ x1) && decide (x1 < (List.length x0 : Int)) then
               bif decide (((List.getD x0 (Int.toNat (IntKind.wrap IntKind.i64 (x1 - (1 : Int)))) ((0 : Int), (0 : Int), (0 : Int))).1) ≥ ((List.getD x0 (Int.toNat x1) ((0 : Int), (0 : Int), (0 : Int))).1)) then
                some false
               else
                L0 (x0, IntKind.wrap IntKind.i64 (x1 + (1 : Int)))
              else
               none
             else
              none
            else
             L0 (x0, IntKind.wrap IntKind.i64 (x1 + (1 : Int)))
         else
          none
      else
       none
   else
    none
  else
   some (decide ((List.length x0 : Int) ≤ (20 : Int)))
noncomputable def spec_l12Faults.ll0 : ((List (Int × Int × Int)) × Int) → LS
  | (x0, x1) => ⟨[.cv ⟨.row K0, x0⟩, .cv ⟨.int .i64, x1⟩], []⟩
noncomputable def spec_l12Faults.m (B0 : ((List (Int × Int × Int)) × Int) → Option (Bool)) : (List (Int × Int × Int)) → Option (Bool)
  | a0_0 =>
  B0 (a0_0, (0 : Int))
noncomputable def spec_l12Faults.sig : Sig := ⟨[.val false [⟨.row K0, 0, 0, false⟩]], [(.one, [(.bool, 0)])]⟩
noncomputable def spec_l12Faults.hint : Nat → Hint
  | 0 => ⟨[(0, .keep), (3, .keep)], []⟩
  | _ => ⟨[], []⟩
noncomputable def spec_l12Faults.join : Nat → Option Hint
  | _ => none
noncomputable def spec_l12Faults.body : Code := (Try.f59).body.getD .skip
noncomputable def spec_l12Faults.rv : List ResultVar := (Try.f59).results.toList
noncomputable def spec_DiskOk.s0 (B2 : (Int × (List (List Int)) × (List (Int × (List Int))) × Int × (List (Int × Int × Int)) × Bool) → Option (Bool)) (L0 : (Int × (List (List Int)) × (List (Int × (List Int))) × Int × (List (Int × Int × Int)) × Bool) → Option (Bool)) : (Int × (List (List Int)) × (List (Int × (List Int))) × Int × (List (Int × Int × Int)) × Bool) → Option (Bool)
  | (x0, x1, x2, x3, x4, x5) =>
  bif decide (x0 < (List.length x1 : Int)) then
   bif decide (0 ≤ x0) && decide (x0 < (List.length x1 : Int)) then
    bif decide ((List.length (List.getD x1 (Int.toNat x0) ([] : List Int)) : Int) > (256 : Int)) then
     some false
    else
     L0 (IntKind.wrap IntKind.i64 (x0 + (1 : Int)), x1, x2, x3, x4, x5)
   else
    none
  else
   B2 ((0 : Int), x1, x2, x3, x4, x5)
noncomputable def spec_DiskOk.ll0 : (Int × (List (List Int)) × (List (Int × (List Int))) × Int × (List (Int × Int × Int)) × Bool) → LS
  | (x0, x1, x2, x3, x4, x5) => ⟨[.addr 65 0 [] 0, .cv ⟨.int .i64, x0⟩], [⟨false, [⟨0, 0, .mk 0 ⟨.row K2, x1⟩⟩, ⟨0, 0, .mk 0 ⟨.row K3, x2⟩⟩, ⟨0, 0, .mk 0 ⟨.int .i64, x3⟩⟩, ⟨0, 0, .mk 0 ⟨.row K0, x4⟩⟩, ⟨0, 0, .mk 0 ⟨.bool, x5⟩⟩]⟩]⟩
noncomputable def spec_DiskOk.s2 (c58 : Int × Int × Int → Option (Bool)) (c59 : (List (Int × Int × Int)) → Option (Bool)) (L2 : (Int × (List (List Int)) × (List (Int × (List Int))) × Int × (List (Int × Int × Int)) × Bool) → Option (Bool)) : (Int × (List (List Int)) × (List (Int × (List Int))) × Int × (List (Int × Int × Int)) × Bool) → Option (Bool)
  | (x0, x1, x2, x3, x4, x5) =>
  bif decide (x0 < (List.length x2 : Int)) then
   bif decide (0 ≤ x0) && decide (x0 < (List.length x2 : Int)) then
    Option.bind (c58 ((List.getD x2 (Int.toNat x0) ((0 : Int), ([] : List Int))).1, (0 : Int), IntKind.wrap IntKind.i64 ((List.length x1 : Int) - (1 : Int)))) fun r1 =>
     bif !(r1) then
      some false
     else
      bif decide (0 ≤ x0) && decide (x0 < (List.length x2 : Int)) then
       bif decide ((List.length ((List.getD x2 (Int.toNat x0) ((0 : Int), ([] : List Int))).2) : Int) > (256 : Int)) then
        some false
       else
        L2 (IntKind.wrap IntKind.i64 (x0 + (1 : Int)), x1, x2, x3, x4, x5)
      else
       none
   else
    none
  else
   Option.bind (c58 ((List.length x1 : Int), (4 : Int), (48 : Int))) fun r2 =>
    bif r2 then
     bif decide ((List.length x2 : Int) ≤ (60 : Int)) then
      Option.bind (c58 (x3, (0 : Int), (100000 : Int))) fun r3 =>
       bif r3 then
        Option.bind (c59 x4) fun r4 =>
         bif r4 then
          bif !(x5) then
           some true
          else
           some ((List.length x2 : Int) == (0 : Int))
         else
          some false
       else
        some false
     else
      some false
    else
     some false
noncomputable def spec_DiskOk.ll2 : (Int × (List (List Int)) × (List (Int × (List Int))) × Int × (List (Int × Int × Int)) × Bool) → LS
  | (x0, x1, x2, x3, x4, x5) => ⟨[.addr 65 0 [] 0, .cv ⟨.int .i64, x0⟩], [⟨false, [⟨0, 0, .mk 0 ⟨.row K2, x1⟩⟩, ⟨0, 0, .mk 0 ⟨.row K3, x2⟩⟩, ⟨0, 0, .mk 0 ⟨.int .i64, x3⟩⟩, ⟨0, 0, .mk 0 ⟨.row K0, x4⟩⟩, ⟨0, 0, .mk 0 ⟨.bool, x5⟩⟩]⟩]⟩
noncomputable def spec_DiskOk.m (B0 : (Int × (List (List Int)) × (List (Int × (List Int))) × Int × (List (Int × Int × Int)) × Bool) → Option (Bool)) : ((List (List Int)) × (List (Int × (List Int))) × Int × (List (Int × Int × Int)) × Bool) → Option (Bool)
  | (a0_0, a0_1, a0_2, a0_3, a0_4) =>
  B0 ((0 : Int), a0_0, a0_1, a0_2, a0_3, a0_4)
noncomputable def spec_DiskOk.sig : Sig := ⟨[.val true [⟨.row K2, 0, 0, false⟩, ⟨.row K3, 0, 0, false⟩, ⟨.int .i64, 0, 0, false⟩, ⟨.row K0, 0, 0, false⟩, ⟨.bool, 0, 0, false⟩]], [(.one, [(.bool, 0)])]⟩
noncomputable def spec_DiskOk.hint : Nat → Hint
  | 0 => ⟨[(1, .keep), (3, .keep)], [(65, [0, 0, 0, 0, 0])]⟩
  | 2 => ⟨[(1, .keep), (4, .keep)], [(65, [0, 0, 0, 0, 0])]⟩
  | _ => ⟨[], []⟩
noncomputable def spec_DiskOk.join : Nat → Option Hint
  | _ => none
noncomputable def spec_DiskOk.body : Code := (Try.f15).body.getD .skip
noncomputable def spec_DiskOk.rv : List ResultVar := (Try.f15).results.toList
noncomputable def laws_toFault.m  : (Int × Int × Int) → Option (Int × Int × Int)
  | (a0_0, a0_1, a0_2) =>
  some (a0_0, a0_1, a0_2)
noncomputable def laws_toFault.sig : Sig := ⟨[.val true [⟨.int .i64, 0, 0, false⟩, ⟨.int .i64, 0, 0, false⟩, ⟨.int .i64, 0, 0, false⟩]], [(.agg, [(.int .i64, 0), (.int .i64, 0), (.int .i64, 0)])]⟩
noncomputable def laws_toFault.hint : Nat → Hint
  | _ => ⟨[], []⟩
noncomputable def laws_toFault.join : Nat → Option Hint
  | _ => none
noncomputable def laws_toFault.body : Code := (Try.f65).body.getD .skip
noncomputable def laws_toFault.rv : List ResultVar := (Try.f65).results.toList
noncomputable def laws_toFaultS.s0 (c65 : Int × Int × Int → Option (Int × Int × Int)) (L0 : ((List (Int × Int × Int)) × Int × (List (Int × Int × Int))) → Option (List (Int × Int × Int))) : ((List (Int × Int × Int)) × Int × (List (Int × Int × Int))) → Option (List (Int × Int × Int))
  | (x0, x1, x2) =>
  bif decide (x1 < (List.length x0 : Int)) then
   bif decide (0 ≤ x1) && decide (x1 < (List.length x0 : Int)) then
    Option.bind (c65 ((List.getD x0 (Int.toNat x1) ((0 : Int), (0 : Int), (0 : Int))).1, (List.getD x0 (Int.toNat x1) ((0 : Int), (0 : Int), (0 : Int))).2.1, (List.getD x0 (Int.toNat x1) ((0 : Int), (0 : Int), (0 : Int))).2.2)) fun r1 =>
     bif decide (0 ≤ x1) && decide (x1 < (List.length x2 : Int)) then
      L0 (x0, IntKind.wrap IntKind.i64 (x1 + (1 : Int)), List.set (List.set (List.set x2 (Int.toNat x1) (r1.1, (List.getD x2 (Int.toNat x1) ((0 : Int), (0 : Int), (0 : Int))).2.1, (List.getD x2 (Int.toNat x1) ((0 : Int), (0 : Int), (0 : Int))).2.2)) (Int.toNat x1) ((List.getD (List.set x2 (Int.toNat x1) (r1.1, (List.getD x2 (Int.toNat x1) ((0 : Int), (0 : Int), (0 : Int))).2.1, (List.getD x2 (Int.toNat x1) ((0 : Int), (0 : Int), (0 : Int))).2.2)) (Int.toNat x1) ((0 : Int), (0 : Int), (0 : Int))).1, r1.2.1, (List.getD (List.set x2 (Int.toNat x1) (r1.1, (List.getD x2 (Int.toNat x1) ((0 : Int), (0 : Int), (0 : Int))).2.1, (List.getD x2 (Int.toNat x1) ((0 : Int), (0 : Int), (0 : Int))).2.2)) (Int.toNat x1) ((0 : Int), (0 : Int), (0 : Int))).2.2)) (Int.toNat x1) ((List.getD (List.set (List.set x2 (Int.toNat x1) (r1.1, (List.getD x2 (Int.toNat x1) ((0 : Int), (0 : Int), (0 : Int))).2.1, (List.getD x2 (Int.toNat x1) ((0 : Int), (0 : Int), (0 : Int))).2.2)) (Int.toNat x1) ((List.getD (List.set x2 (Int.toNat x1) (r1.1, (List.getD x2 (Int.toNat x1) ((0 : Int), (0 : Int), (0 : Int))).2.1, (List.getD x2 (Int.toNat x1) ((0 : Int), (0 : Int), (0 : Int))).2.2)) (Int.toNat x1) ((0 : Int), (0 : Int), (0 : Int))).1, r1.2.1, (List.getD (List.set x2 (Int.toNat x1) (r1.1, (List.getD x2 (Int.toNat x1) ((0 : Int), (0 : Int), (0 : Int))).2.1, (List.getD x2 (Int.toNat x1) ((0 : Int), (0 : Int), (0 : Int))).2.2)) (Int.toNat x1) ((0 : Int), (0 : Int), (0 : Int))).2.2)) (Int.toNat x1) ((0 : Int), (0 : Int), (0 : Int))).1, (List.getD (List.set (List.set x2 (Int.toNat x1) (r1.1, (List.getD x2 (Int.toNat x1) ((0 : Int), (0 : Int), (0 : Int))).2.1, (List.getD x2 (Int.toNat x1) ((0 : Int), (0 : Int), (0 : Int))).2.2)) (Int.toNat x1) ((List.getD (List.set x2 (Int.toNat x1) (r1.1, (List.getD x2 (Int.toNat x1) ((0 : Int), (0 : Int), (0 : Int))).2.1, (List.getD x2 (Int.toNat x1) ((0 : Int), (0 : Int), (0 : Int))).2.2)) (Int.toNat x1) ((0 : Int), (0 : Int), (0 : Int))).1, r1.2.1, (List.getD (List.set x2 (Int.toNat x1) (r1.1, (List.getD x2 (Int.toNat x1) ((0 : Int), (0 : Int), (0 : Int))).2.1, (List.getD x2 (Int.toNat x1) ((0 : Int), (0 : Int), (0 : Int))).2.2)) (Int.toNat x1) ((0 : Int), (0 : Int), (0 : Int))).2.2)) (Int.toNat x1) ((0 : Int), (0 : Int), (0 : Int))).2.1, r1.2.2))
     else
      none
   else
    none
  else
   some x2
noncomputable def laws_toFaultS.ll0 : ((List (Int × Int × Int)) × Int × (List (Int × Int × Int))) → LS
  | (x0, x1, x2) => ⟨[.cv ⟨.row K0, x0⟩, .ref 12 0 [] none 0, .cv ⟨.int .i64, x1⟩], [⟨true, [⟨0, 0, .mk 9 ⟨.row K0, x2⟩⟩]⟩]⟩
noncomputable def laws_toFaultS.m (B0 : ((List (Int × Int × Int)) × Int × (List (Int × Int × Int))) → Option (List (Int × Int × Int))) : (List (Int × Int × Int)) → Option (List (Int × Int × Int))
  | a0_0 =>
  bif decide (0 ≤ (List.length a0_0 : Int)) && decide ((List.length a0_0 : Int) ≤ (List.length a0_0 : Int)) && decide ((List.length a0_0 : Int) * 24 ≤ 140737488355328) then
   B0 (a0_0, (0 : Int), List.replicate (Int.toNat (List.length a0_0 : Int)) ((0 : Int), (0 : Int), (0 : Int)))
  else
   none
noncomputable def laws_toFaultS.sig : Sig := ⟨[.val false [⟨.row K0, 0, 0, false⟩]], [(.one, [(.row K0, 1)])]⟩
noncomputable def laws_toFaultS.hint : Nat → Hint
  | 0 => ⟨[(0, .keep), (3, .own 9 K0), (4, .keep)], []⟩
  | _ => ⟨[], []⟩
noncomputable def laws_toFaultS.join : Nat → Option Hint
  | _ => none
noncomputable def laws_toFaultS.body : Code := (Try.f21).body.getD .skip
noncomputable def laws_toFaultS.rv : List ResultVar := (Try.f21).results.toList
noncomputable def laws_toByteS.s0 (L0 : ((List Int) × Int × (List Int)) → Option (List Int)) : ((List Int) × Int × (List Int)) → Option (List Int)
  | (x0, x1, x2) =>
  bif decide (x1 < (List.length x0 : Int)) then
   bif decide (0 ≤ x1) && decide (x1 < (List.length x0 : Int)) then
    bif decide (0 ≤ x1) && decide (x1 < (List.length x2 : Int)) then
     L0 (x0, IntKind.wrap IntKind.i64 (x1 + (1 : Int)), List.set x2 (Int.toNat x1) (List.getD x0 (Int.toNat x1) (0 : Int)))
    else
     none
   else
    none
  else
   some x2
noncomputable def laws_toByteS.ll0 : ((List Int) × Int × (List Int)) → LS
  | (x0, x1, x2) => ⟨[.cv ⟨.row K1, x0⟩, .ref 12 0 [] none 0, .cv ⟨.int .i64, x1⟩], [⟨true, [⟨0, 0, .mk 9 ⟨.row K1, x2⟩⟩]⟩]⟩
noncomputable def laws_toByteS.m (B0 : ((List Int) × Int × (List Int)) → Option (List Int)) : (List Int) → Option (List Int)
  | a0_0 =>
  bif decide (0 ≤ (List.length a0_0 : Int)) && decide ((List.length a0_0 : Int) ≤ (List.length a0_0 : Int)) && decide ((List.length a0_0 : Int) * 1 ≤ 140737488355328) then
   B0 (a0_0, (0 : Int), List.replicate (Int.toNat (List.length a0_0 : Int)) (0 : Int))
  else
   none
noncomputable def laws_toByteS.sig : Sig := ⟨[.val false [⟨.row K1, 0, 0, false⟩]], [(.one, [(.row K1, 1)])]⟩
noncomputable def laws_toByteS.hint : Nat → Hint
  | 0 => ⟨[(0, .keep), (3, .own 9 K1), (4, .keep)], []⟩
  | _ => ⟨[], []⟩
noncomputable def laws_toByteS.join : Nat → Option Hint
  | _ => none
noncomputable def laws_toByteS.body : Code := (Try.f55).body.getD .skip
noncomputable def laws_toByteS.rv : List ResultVar := (Try.f55).results.toList
noncomputable def laws_toByteSS.s0 (c55 : (List Int) → Option (List Int)) (L0 : ((List (List Int)) × Int × (List (List Int))) → Option (List (List Int))) : ((List (List Int)) × Int × (List (List Int))) → Option (List (List Int))
  | (x0, x1, x2) =>
  bif decide (x1 < (List.length x0 : Int)) then
   bif decide (0 ≤ x1) && decide (x1 < (List.length x0 : Int)) then
    Option.bind (c55 (List.getD x0 (Int.toNat x1) ([] : List Int))) fun r1 =>
     bif decide (0 ≤ x1) && decide (x1 < (List.length x2 : Int)) then
      L0 (x0, IntKind.wrap IntKind.i64 (x1 + (1 : Int)), List.set x2 (Int.toNat x1) r1)
     else
      none
   else
    none
  else
   some x2
noncomputable def laws_toByteSS.ll0 : ((List (List Int)) × Int × (List (List Int))) → LS
  | (x0, x1, x2) => ⟨[.cv ⟨.row K2, x0⟩, .ref 12 0 [] none 0, .cv ⟨.int .i64, x1⟩], [⟨true, [⟨0, 0, .mk 9 ⟨.row K2, x2⟩⟩]⟩]⟩
noncomputable def laws_toByteSS.m (B0 : ((List (List Int)) × Int × (List (List Int))) → Option (List (List Int))) : (List (List Int)) → Option (List (List Int))
  | a0_0 =>
  bif decide (0 ≤ (List.length a0_0 : Int)) && decide ((List.length a0_0 : Int) ≤ (List.length a0_0 : Int)) && decide ((List.length a0_0 : Int) * 24 ≤ 140737488355328) then
   B0 (a0_0, (0 : Int), List.replicate (Int.toNat (List.length a0_0 : Int)) ([] : List Int))
  else
   none
noncomputable def laws_toByteSS.sig : Sig := ⟨[.val false [⟨.row K2, 0, 0, false⟩]], [(.one, [(.row K2, 2)])]⟩
noncomputable def laws_toByteSS.hint : Nat → Hint
  | 0 => ⟨[(0, .keep), (3, .own 9 K2), (4, .keep)], []⟩
  | _ => ⟨[], []⟩
noncomputable def laws_toByteSS.join : Nat → Option Hint
  | _ => none
noncomputable def laws_toByteSS.body : Code := (Try.f60).body.getD .skip
noncomputable def laws_toByteSS.rv : List ResultVar := (Try.f60).results.toList
noncomputable def laws_toWrite.m (c55 : (List Int) → Option (List Int)) : (Int × (List Int)) → Option (Int × (List Int))
  | (a0_0, a0_1) =>
  Option.bind (c55 a0_1) fun r1 =>
   some (a0_0, r1)
noncomputable def laws_toWrite.sig : Sig := ⟨[.val true [⟨.int .i64, 0, 0, false⟩, ⟨.row K1, 0, 0, false⟩]], [(.agg, [(.int .i64, 0), (.row K1, 1)])]⟩
noncomputable def laws_toWrite.hint : Nat → Hint
  | _ => ⟨[], []⟩
noncomputable def laws_toWrite.join : Nat → Option Hint
  | _ => none
noncomputable def laws_toWrite.body : Code := (Try.f103).body.getD .skip
noncomputable def laws_toWrite.rv : List ResultVar := (Try.f103).results.toList
noncomputable def laws_toWriteS.s0 (c103 : Int × (List Int) → Option (Int × (List Int))) (L0 : ((List (Int × (List Int))) × Int × (List (Int × (List Int)))) → Option (List (Int × (List Int)))) : ((List (Int × (List Int))) × Int × (List (Int × (List Int)))) → Option (List (Int × (List Int)))
  | (x0, x1, x2) =>
  bif decide (x1 < (List.length x0 : Int)) then
   bif decide (0 ≤ x1) && decide (x1 < (List.length x0 : Int)) then
    Option.bind (c103 ((List.getD x0 (Int.toNat x1) ((0 : Int), ([] : List Int))).1, (List.getD x0 (Int.toNat x1) ((0 : Int), ([] : List Int))).2)) fun r1 =>
     bif decide (0 ≤ x1) && decide (x1 < (List.length x2 : Int)) then
      L0 (x0, IntKind.wrap IntKind.i64 (x1 + (1 : Int)), List.set (List.set x2 (Int.toNat x1) (r1.1, (List.getD x2 (Int.toNat x1) ((0 : Int), ([] : List Int))).2)) (Int.toNat x1) ((List.getD (List.set x2 (Int.toNat x1) (r1.1, (List.getD x2 (Int.toNat x1) ((0 : Int), ([] : List Int))).2)) (Int.toNat x1) ((0 : Int), ([] : List Int))).1, r1.2))
     else
      none
   else
    none
  else
   some x2
noncomputable def laws_toWriteS.ll0 : ((List (Int × (List Int))) × Int × (List (Int × (List Int)))) → LS
  | (x0, x1, x2) => ⟨[.cv ⟨.row K3, x0⟩, .ref 12 0 [] none 0, .cv ⟨.int .i64, x1⟩], [⟨true, [⟨0, 0, .mk 9 ⟨.row K3, x2⟩⟩]⟩]⟩
noncomputable def laws_toWriteS.m (B0 : ((List (Int × (List Int))) × Int × (List (Int × (List Int)))) → Option (List (Int × (List Int)))) : (List (Int × (List Int))) → Option (List (Int × (List Int)))
  | a0_0 =>
  bif decide (0 ≤ (List.length a0_0 : Int)) && decide ((List.length a0_0 : Int) ≤ (List.length a0_0 : Int)) && decide ((List.length a0_0 : Int) * 32 ≤ 140737488355328) then
   B0 (a0_0, (0 : Int), List.replicate (Int.toNat (List.length a0_0 : Int)) ((0 : Int), ([] : List Int)))
  else
   none
noncomputable def laws_toWriteS.sig : Sig := ⟨[.val false [⟨.row K3, 0, 0, false⟩]], [(.one, [(.row K3, 2)])]⟩
noncomputable def laws_toWriteS.hint : Nat → Hint
  | 0 => ⟨[(0, .keep), (3, .own 9 K3), (4, .keep)], []⟩
  | _ => ⟨[], []⟩
noncomputable def laws_toWriteS.join : Nat → Option Hint
  | _ => none
noncomputable def laws_toWriteS.body : Code := (Try.f61).body.getD .skip
noncomputable def laws_toWriteS.rv : List ResultVar := (Try.f61).results.toList
noncomputable def laws_toDisk.m (c21 : (List (Int × Int × Int)) → Option (List (Int × Int × Int))) (c60 : (List (List Int)) → Option (List (List Int))) (c61 : (List (Int × (List Int))) → Option (List (Int × (List Int)))) : ((List (List Int)) × (List (Int × (List Int))) × Int × (List (Int × Int × Int)) × Bool) → Option ((List (List Int)) × (List (Int × (List Int))) × Int × (List (Int × Int × Int)) × Bool)
  | (a0_0, a0_1, a0_2, a0_3, a0_4) =>
  Option.bind (c60 a0_0) fun r1 =>
   Option.bind (c61 a0_1) fun r2 =>
    Option.bind (c21 a0_3) fun r3 =>
     some (r1, r2, a0_2, r3, a0_4)
noncomputable def laws_toDisk.sig : Sig := ⟨[.val true [⟨.row K2, 0, 0, false⟩, ⟨.row K3, 0, 0, false⟩, ⟨.int .i64, 0, 0, false⟩, ⟨.row K0, 0, 0, false⟩, ⟨.bool, 0, 0, false⟩]], [(.agg, [(.row K2, 2), (.row K3, 2), (.int .i64, 0), (.row K0, 1), (.bool, 0)])]⟩
noncomputable def laws_toDisk.hint : Nat → Hint
  | _ => ⟨[], []⟩
noncomputable def laws_toDisk.join : Nat → Option Hint
  | _ => none
noncomputable def laws_toDisk.body : Code := (Try.f16).body.getD .skip
noncomputable def laws_toDisk.rv : List ResultVar := (Try.f16).results.toList
noncomputable def impl_in.m  : (Int × Int × Int) → Option (Bool)
  | (a0_0, a1_0, a2_0) =>
  bif decide (a0_0 ≥ a1_0) then
   some (decide (a0_0 ≤ a2_0))
  else
   some false
noncomputable def impl_in.sig : Sig := ⟨[.val false [⟨.int .i64, 0, 0, false⟩], .val false [⟨.int .i64, 0, 0, false⟩], .val false [⟨.int .i64, 0, 0, false⟩]], [(.one, [(.bool, 0)])]⟩
noncomputable def impl_in.hint : Nat → Hint
  | _ => ⟨[], []⟩
noncomputable def impl_in.join : Nat → Option Hint
  | _ => none
noncomputable def impl_in.body : Code := (Try.f62).body.getD .skip
noncomputable def impl_in.rv : List ResultVar := (Try.f62).results.toList
noncomputable def impl_DiskOk.s0 (B2 : ((List (Int × (List Int))) × Int × Int × (List (List Int)) × (List (Int × (List Int))) × Int × (List (Int × Int × Int)) × Bool) → Option (Bool)) (L0 : ((List (List Int)) × Int × Int × (List (List Int)) × (List (Int × (List Int))) × Int × (List (Int × Int × Int)) × Bool) → Option (Bool)) : ((List (List Int)) × Int × Int × (List (List Int)) × (List (Int × (List Int))) × Int × (List (Int × Int × Int)) × Bool) → Option (Bool)
  | (x0, x1, x2, x3, x4, x5, x6, x7) =>
  bif decide (x2 < x1) then
   bif decide (0 ≤ x2) && decide (x2 < (List.length x0 : Int)) then
    bif decide ((List.length (List.getD x0 (Int.toNat x2) ([] : List Int)) : Int) > (256 : Int)) then
     some false
    else
     L0 (x0, x1, IntKind.wrap IntKind.i64 (x2 + (1 : Int)), x3, x4, x5, x6, x7)
   else
    none
  else
   B2 (x4, (List.length x4 : Int), (0 : Int), x3, x4, x5, x6, x7)
noncomputable def impl_DiskOk.ll0 : ((List (List Int)) × Int × Int × (List (List Int)) × (List (Int × (List Int))) × Int × (List (Int × Int × Int)) × Bool) → LS
  | (x0, x1, x2, x3, x4, x5, x6, x7) => ⟨[.addr 65 0 [] 0, .cv ⟨.row K2, x0⟩, .cv ⟨.int .i64, x1⟩, .cv ⟨.int .i64, x2⟩], [⟨false, [⟨0, 0, .mk 0 ⟨.row K2, x3⟩⟩, ⟨0, 0, .mk 0 ⟨.row K3, x4⟩⟩, ⟨0, 0, .mk 0 ⟨.int .i64, x5⟩⟩, ⟨0, 0, .mk 0 ⟨.row K0, x6⟩⟩, ⟨0, 0, .mk 0 ⟨.bool, x7⟩⟩]⟩]⟩
noncomputable def impl_DiskOk.s2 (c62 : Int × Int × Int → Option (Bool)) (B4 : ((List (Int × Int × Int)) × Int × Int × (List (List Int)) × (List (Int × (List Int))) × Int × (List (Int × Int × Int)) × Bool) → Option (Bool)) (L2 : ((List (Int × (List Int))) × Int × Int × (List (List Int)) × (List (Int × (List Int))) × Int × (List (Int × Int × Int)) × Bool) → Option (Bool)) : ((List (Int × (List Int))) × Int × Int × (List (List Int)) × (List (Int × (List Int))) × Int × (List (Int × Int × Int)) × Bool) → Option (Bool)
  | (x0, x1, x2, x3, x4, x5, x6, x7) =>
  bif decide (x2 < x1) then
   bif decide (0 ≤ x2) && decide (x2 < (List.length x0 : Int)) then
    Option.bind (c62 ((List.getD x0 (Int.toNat x2) ((0 : Int), ([] : List Int))).1, (0 : Int), IntKind.wrap IntKind.i64 ((List.length x3 : Int) - (1 : Int)))) fun r3 =>
     bif !(r3) then
      some false
     else
      bif decide ((List.length ((List.getD x0 (Int.toNat x2) ((0 : Int), ([] : List Int))).2) : Int) > (256 : Int)) then
       some false
      else
       L2 (x0, x1, IntKind.wrap IntKind.i64 (x2 + (1 : Int)), x3, x4, x5, x6, x7)
   else
    none
  else
   B4 (x6, (List.length x6 : Int), (0 : Int), x3, x4, x5, x6, x7)
noncomputable def impl_DiskOk.ll2 : ((List (Int × (List Int))) × Int × Int × (List (List Int)) × (List (Int × (List Int))) × Int × (List (Int × Int × Int)) × Bool) → LS
  | (x0, x1, x2, x3, x4, x5, x6, x7) => ⟨[.addr 65 0 [] 0, .cv ⟨.row K3, x0⟩, .cv ⟨.int .i64, x1⟩, .cv ⟨.int .i64, x2⟩], [⟨false, [⟨0, 0, .mk 0 ⟨.row K2, x3⟩⟩, ⟨0, 0, .mk 0 ⟨.row K3, x4⟩⟩, ⟨0, 0, .mk 0 ⟨.int .i64, x5⟩⟩, ⟨0, 0, .mk 0 ⟨.row K0, x6⟩⟩, ⟨0, 0, .mk 0 ⟨.bool, x7⟩⟩]⟩]⟩
noncomputable def impl_DiskOk.s4 (c62 : Int × Int × Int → Option (Bool)) (L4 : ((List (Int × Int × Int)) × Int × Int × (List (List Int)) × (List (Int × (List Int))) × Int × (List (Int × Int × Int)) × Bool) → Option (Bool)) : ((List (Int × Int × Int)) × Int × Int × (List (List Int)) × (List (Int × (List Int))) × Int × (List (Int × Int × Int)) × Bool) → Option (Bool)
  | (x0, x1, x2, x3, x4, x5, x6, x7) =>
  bif decide (x2 < x1) then
   bif decide (0 ≤ x2) && decide (x2 < (List.length x0 : Int)) then
    Option.bind (c62 ((List.getD x0 (Int.toNat x2) ((0 : Int), (0 : Int), (0 : Int))).1, (0 : Int), (100000 : Int))) fun r4 =>
     bif !(r4) then
      some false
     else
      Option.bind (c62 ((List.getD x0 (Int.toNat x2) ((0 : Int), (0 : Int), (0 : Int))).2.1, (0 : Int), (1048575 : Int))) fun r5 =>
       bif !(r5) then
        some false
       else
        Option.bind (c62 ((List.getD x0 (Int.toNat x2) ((0 : Int), (0 : Int), (0 : Int))).2.2, (0 : Int), (256 : Int))) fun r6 =>
         bif !(r6) then
          some false
         else
          bif decide (x2 > (0 : Int)) then
           bif decide (0 ≤ (IntKind.wrap IntKind.i64 (x2 - (1 : Int)))) && decide ((IntKind.wrap IntKind.i64 (x2 - (1 : Int))) < (List.length x6 : Int)) then
            bif decide (((List.getD x6 (Int.toNat (IntKind.wrap IntKind.i64 (x2 - (1 : Int)))) ((0 : Int), (0 : Int), (0 : Int))).1) ≥ ((List.getD x0 (Int.toNat x2) ((0 : Int), (0 : Int), (0 : Int))).1)) then
             some false
            else
             L4 (x0, x1, IntKind.wrap IntKind.i64 (x2 + (1 : Int)), x3, x4, x5, x6, x7)
           else
            none
          else
           L4 (x0, x1, IntKind.wrap IntKind.i64 (x2 + (1 : Int)), x3, x4, x5, x6, x7)
   else
    none
  else
   some true
noncomputable def impl_DiskOk.ll4 : ((List (Int × Int × Int)) × Int × Int × (List (List Int)) × (List (Int × (List Int))) × Int × (List (Int × Int × Int)) × Bool) → LS
  | (x0, x1, x2, x3, x4, x5, x6, x7) => ⟨[.addr 65 0 [] 0, .cv ⟨.row K0, x0⟩, .cv ⟨.int .i64, x1⟩, .cv ⟨.int .i64, x2⟩], [⟨false, [⟨0, 0, .mk 0 ⟨.row K2, x3⟩⟩, ⟨0, 0, .mk 0 ⟨.row K3, x4⟩⟩, ⟨0, 0, .mk 0 ⟨.int .i64, x5⟩⟩, ⟨0, 0, .mk 0 ⟨.row K0, x6⟩⟩, ⟨0, 0, .mk 0 ⟨.bool, x7⟩⟩]⟩]⟩
noncomputable def impl_DiskOk.m (c62 : Int × Int × Int → Option (Bool)) (B0 : ((List (List Int)) × Int × Int × (List (List Int)) × (List (Int × (List Int))) × Int × (List (Int × Int × Int)) × Bool) → Option (Bool)) : ((List (List Int)) × (List (Int × (List Int))) × Int × (List (Int × Int × Int)) × Bool) → Option (Bool)
  | (a0_0, a0_1, a0_2, a0_3, a0_4) =>
  Option.bind (c62 ((List.length a0_0 : Int), (4 : Int), (48 : Int))) fun r1 =>
   bif !(r1) then
    some false
   else
    bif decide ((List.length a0_1 : Int) > (60 : Int)) then
     some false
    else
     Option.bind (c62 (a0_2, (0 : Int), (100000 : Int))) fun r2 =>
      bif !(r2) then
       some false
      else
       bif decide ((List.length a0_3 : Int) > (20 : Int)) then
        some false
       else
        bif a0_4 then
         bif decide ((List.length a0_1 : Int) > (0 : Int)) then
          some false
         else
          B0 (a0_0, (List.length a0_0 : Int), (0 : Int), a0_0, a0_1, a0_2, a0_3, a0_4)
        else
         B0 (a0_0, (List.length a0_0 : Int), (0 : Int), a0_0, a0_1, a0_2, a0_3, a0_4)
noncomputable def impl_DiskOk.sig : Sig := ⟨[.val true [⟨.row K2, 0, 0, false⟩, ⟨.row K3, 0, 0, false⟩, ⟨.int .i64, 0, 0, false⟩, ⟨.row K0, 0, 0, false⟩, ⟨.bool, 0, 0, false⟩]], [(.one, [(.bool, 0)])]⟩
noncomputable def impl_DiskOk.hint : Nat → Hint
  | 0 => ⟨[(1, .keep), (43, .keep), (44, .keep), (45, .keep)], [(65, [0, 0, 0, 0, 0])]⟩
  | 2 => ⟨[(1, .keep), (54, .keep), (55, .keep), (56, .keep)], [(65, [0, 0, 0, 0, 0])]⟩
  | 4 => ⟨[(1, .keep), (76, .keep), (77, .keep), (78, .keep)], [(65, [0, 0, 0, 0, 0])]⟩
  | _ => ⟨[], []⟩
noncomputable def impl_DiskOk.join : Nat → Option Hint
  | _ => none
noncomputable def impl_DiskOk.body : Code := (Try.f17).body.getD .skip
noncomputable def impl_DiskOk.rv : List ResultVar := (Try.f17).results.toList
noncomputable def laws_eqFault.m  : (Int × Int × Int × Int × Int × Int) → Option (Bool)
  | (a0_0, a0_1, a0_2, a1_0, a1_1, a1_2) =>
  bif a0_0 != a1_0 then
   some false
  else
   bif a0_1 != a1_1 then
    some false
   else
    bif a0_2 != a1_2 then
     some false
    else
     some true
noncomputable def laws_eqFault.sig : Sig := ⟨[.val true [⟨.int .i64, 0, 0, false⟩, ⟨.int .i64, 0, 0, false⟩, ⟨.int .i64, 0, 0, false⟩], .val true [⟨.int .i64, 0, 0, false⟩, ⟨.int .i64, 0, 0, false⟩, ⟨.int .i64, 0, 0, false⟩]], [(.one, [(.bool, 0)])]⟩
noncomputable def laws_eqFault.hint : Nat → Hint
  | _ => ⟨[], []⟩
noncomputable def laws_eqFault.join : Nat → Option Hint
  | _ => none
noncomputable def laws_eqFault.body : Code := (Try.f66).body.getD .skip
noncomputable def laws_eqFault.rv : List ResultVar := (Try.f66).results.toList
noncomputable def laws_eqFaultS.s0 (c66 : Int × Int × Int × Int × Int × Int → Option (Bool)) (L0 : ((List (Int × Int × Int)) × (List (Int × Int × Int)) × Int) → Option (Bool)) : ((List (Int × Int × Int)) × (List (Int × Int × Int)) × Int) → Option (Bool)
  | (x0, x1, x2) =>
  bif decide (x2 < (List.length x0 : Int)) then
   bif decide (0 ≤ x2) && decide (x2 < (List.length x0 : Int)) then
    bif decide (0 ≤ x2) && decide (x2 < (List.length x1 : Int)) then
     Option.bind (c66 ((List.getD x0 (Int.toNat x2) ((0 : Int), (0 : Int), (0 : Int))).1, (List.getD x0 (Int.toNat x2) ((0 : Int), (0 : Int), (0 : Int))).2.1, (List.getD x0 (Int.toNat x2) ((0 : Int), (0 : Int), (0 : Int))).2.2, (List.getD x1 (Int.toNat x2) ((0 : Int), (0 : Int), (0 : Int))).1, (List.getD x1 (Int.toNat x2) ((0 : Int), (0 : Int), (0 : Int))).2.1, (List.getD x1 (Int.toNat x2) ((0 : Int), (0 : Int), (0 : Int))).2.2)) fun r1 =>
      bif !(r1) then
       some false
      else
       L0 (x0, x1, IntKind.wrap IntKind.i64 (x2 + (1 : Int)))
    else
     none
   else
    none
  else
   some true
noncomputable def laws_eqFaultS.ll0 : ((List (Int × Int × Int)) × (List (Int × Int × Int)) × Int) → LS
  | (x0, x1, x2) => ⟨[.cv ⟨.row K0, x0⟩, .cv ⟨.row K0, x1⟩, .cv ⟨.int .i64, x2⟩], []⟩
noncomputable def laws_eqFaultS.m (B0 : ((List (Int × Int × Int)) × (List (Int × Int × Int)) × Int) → Option (Bool)) : ((List (Int × Int × Int)) × (List (Int × Int × Int))) → Option (Bool)
  | (a0_0, a1_0) =>
  bif (List.length a0_0 : Int) != (List.length a1_0 : Int) then
   some false
  else
   B0 (a0_0, a1_0, (0 : Int))
noncomputable def laws_eqFaultS.sig : Sig := ⟨[.val false [⟨.row K0, 0, 0, false⟩], .val false [⟨.row K0, 0, 0, false⟩]], [(.one, [(.bool, 0)])]⟩
noncomputable def laws_eqFaultS.hint : Nat → Hint
  | 0 => ⟨[(0, .keep), (1, .keep), (5, .keep)], []⟩
  | _ => ⟨[], []⟩
noncomputable def laws_eqFaultS.join : Nat → Option Hint
  | _ => none
noncomputable def laws_eqFaultS.body : Code := (Try.f23).body.getD .skip
noncomputable def laws_eqFaultS.rv : List ResultVar := (Try.f23).results.toList
noncomputable def laws_eqByteS.s0 (L0 : ((List Int) × (List Int) × Int) → Option (Bool)) : ((List Int) × (List Int) × Int) → Option (Bool)
  | (x0, x1, x2) =>
  bif decide (x2 < (List.length x0 : Int)) then
   bif decide (0 ≤ x2) && decide (x2 < (List.length x0 : Int)) then
    bif decide (0 ≤ x2) && decide (x2 < (List.length x1 : Int)) then
     bif (List.getD x0 (Int.toNat x2) (0 : Int)) != (List.getD x1 (Int.toNat x2) (0 : Int)) then
      some false
     else
      L0 (x0, x1, IntKind.wrap IntKind.i64 (x2 + (1 : Int)))
    else
     none
   else
    none
  else
   some true
noncomputable def laws_eqByteS.ll0 : ((List Int) × (List Int) × Int) → LS
  | (x0, x1, x2) => ⟨[.cv ⟨.row K1, x0⟩, .cv ⟨.row K1, x1⟩, .cv ⟨.int .i64, x2⟩], []⟩
noncomputable def laws_eqByteS.m (B0 : ((List Int) × (List Int) × Int) → Option (Bool)) : ((List Int) × (List Int)) → Option (Bool)
  | (a0_0, a1_0) =>
  bif (List.length a0_0 : Int) != (List.length a1_0 : Int) then
   some false
  else
   B0 (a0_0, a1_0, (0 : Int))
noncomputable def laws_eqByteS.sig : Sig := ⟨[.val false [⟨.row K1, 0, 0, false⟩], .val false [⟨.row K1, 0, 0, false⟩]], [(.one, [(.bool, 0)])]⟩
noncomputable def laws_eqByteS.hint : Nat → Hint
  | 0 => ⟨[(0, .keep), (1, .keep), (5, .keep)], []⟩
  | _ => ⟨[], []⟩
noncomputable def laws_eqByteS.join : Nat → Option Hint
  | _ => none
noncomputable def laws_eqByteS.body : Code := (Try.f29).body.getD .skip
noncomputable def laws_eqByteS.rv : List ResultVar := (Try.f29).results.toList
noncomputable def laws_eqByteSS.s0 (c29 : (List Int) × (List Int) → Option (Bool)) (L0 : ((List (List Int)) × (List (List Int)) × Int) → Option (Bool)) : ((List (List Int)) × (List (List Int)) × Int) → Option (Bool)
  | (x0, x1, x2) =>
  bif decide (x2 < (List.length x0 : Int)) then
   bif decide (0 ≤ x2) && decide (x2 < (List.length x0 : Int)) then
    bif decide (0 ≤ x2) && decide (x2 < (List.length x1 : Int)) then
     Option.bind (c29 ((List.getD x0 (Int.toNat x2) ([] : List Int)), (List.getD x1 (Int.toNat x2) ([] : List Int)))) fun r1 =>
      bif !(r1) then
       some false
      else
       L0 (x0, x1, IntKind.wrap IntKind.i64 (x2 + (1 : Int)))
    else
     none
   else
    none
  else
   some true
noncomputable def laws_eqByteSS.ll0 : ((List (List Int)) × (List (List Int)) × Int) → LS
  | (x0, x1, x2) => ⟨[.cv ⟨.row K2, x0⟩, .cv ⟨.row K2, x1⟩, .cv ⟨.int .i64, x2⟩], []⟩
noncomputable def laws_eqByteSS.m (B0 : ((List (List Int)) × (List (List Int)) × Int) → Option (Bool)) : ((List (List Int)) × (List (List Int))) → Option (Bool)
  | (a0_0, a1_0) =>
  bif (List.length a0_0 : Int) != (List.length a1_0 : Int) then
   some false
  else
   B0 (a0_0, a1_0, (0 : Int))
noncomputable def laws_eqByteSS.sig : Sig := ⟨[.val false [⟨.row K2, 0, 0, false⟩], .val false [⟨.row K2, 0, 0, false⟩]], [(.one, [(.bool, 0)])]⟩
noncomputable def laws_eqByteSS.hint : Nat → Hint
  | 0 => ⟨[(0, .keep), (1, .keep), (5, .keep)], []⟩
  | _ => ⟨[], []⟩
noncomputable def laws_eqByteSS.join : Nat → Option Hint
  | _ => none
noncomputable def laws_eqByteSS.body : Code := (Try.f63).body.getD .skip
noncomputable def laws_eqByteSS.rv : List ResultVar := (Try.f63).results.toList
noncomputable def laws_eqWrite.m (c29 : (List Int) × (List Int) → Option (Bool)) : (Int × (List Int) × Int × (List Int)) → Option (Bool)
  | (a0_0, a0_1, a1_0, a1_1) =>
  bif a0_0 != a1_0 then
   some false
  else
   Option.bind (c29 (a0_1, a1_1)) fun r1 =>
    bif !(r1) then
     some false
    else
     some true
noncomputable def laws_eqWrite.sig : Sig := ⟨[.val true [⟨.int .i64, 0, 0, false⟩, ⟨.row K1, 0, 0, false⟩], .val true [⟨.int .i64, 0, 0, false⟩, ⟨.row K1, 0, 0, false⟩]], [(.one, [(.bool, 0)])]⟩
noncomputable def laws_eqWrite.hint : Nat → Hint
  | _ => ⟨[], []⟩
noncomputable def laws_eqWrite.join : Nat → Option Hint
  | _ => none
noncomputable def laws_eqWrite.body : Code := (Try.f104).body.getD .skip
noncomputable def laws_eqWrite.rv : List ResultVar := (Try.f104).results.toList
noncomputable def laws_eqWriteS.s0 (c104 : Int × (List Int) × Int × (List Int) → Option (Bool)) (L0 : ((List (Int × (List Int))) × (List (Int × (List Int))) × Int) → Option (Bool)) : ((List (Int × (List Int))) × (List (Int × (List Int))) × Int) → Option (Bool)
  | (x0, x1, x2) =>
  bif decide (x2 < (List.length x0 : Int)) then
   bif decide (0 ≤ x2) && decide (x2 < (List.length x0 : Int)) then
    bif decide (0 ≤ x2) && decide (x2 < (List.length x1 : Int)) then
     Option.bind (c104 ((List.getD x0 (Int.toNat x2) ((0 : Int), ([] : List Int))).1, (List.getD x0 (Int.toNat x2) ((0 : Int), ([] : List Int))).2, (List.getD x1 (Int.toNat x2) ((0 : Int), ([] : List Int))).1, (List.getD x1 (Int.toNat x2) ((0 : Int), ([] : List Int))).2)) fun r1 =>
      bif !(r1) then
       some false
      else
       L0 (x0, x1, IntKind.wrap IntKind.i64 (x2 + (1 : Int)))
    else
     none
   else
    none
  else
   some true
noncomputable def laws_eqWriteS.ll0 : ((List (Int × (List Int))) × (List (Int × (List Int))) × Int) → LS
  | (x0, x1, x2) => ⟨[.cv ⟨.row K3, x0⟩, .cv ⟨.row K3, x1⟩, .cv ⟨.int .i64, x2⟩], []⟩
noncomputable def laws_eqWriteS.m (B0 : ((List (Int × (List Int))) × (List (Int × (List Int))) × Int) → Option (Bool)) : ((List (Int × (List Int))) × (List (Int × (List Int)))) → Option (Bool)
  | (a0_0, a1_0) =>
  bif (List.length a0_0 : Int) != (List.length a1_0 : Int) then
   some false
  else
   B0 (a0_0, a1_0, (0 : Int))
noncomputable def laws_eqWriteS.sig : Sig := ⟨[.val false [⟨.row K3, 0, 0, false⟩], .val false [⟨.row K3, 0, 0, false⟩]], [(.one, [(.bool, 0)])]⟩
noncomputable def laws_eqWriteS.hint : Nat → Hint
  | 0 => ⟨[(0, .keep), (1, .keep), (5, .keep)], []⟩
  | _ => ⟨[], []⟩
noncomputable def laws_eqWriteS.join : Nat → Option Hint
  | _ => none
noncomputable def laws_eqWriteS.body : Code := (Try.f64).body.getD .skip
noncomputable def laws_eqWriteS.rv : List ResultVar := (Try.f64).results.toList
noncomputable def laws_eqDisk.m (c23 : (List (Int × Int × Int)) × (List (Int × Int × Int)) → Option (Bool)) (c63 : (List (List Int)) × (List (List Int)) → Option (Bool)) (c64 : (List (Int × (List Int))) × (List (Int × (List Int))) → Option (Bool)) : ((List (List Int)) × (List (Int × (List Int))) × Int × (List (Int × Int × Int)) × Bool × (List (List Int)) × (List (Int × (List Int))) × Int × (List (Int × Int × Int)) × Bool) → Option (Bool)
  | (a0_0, a0_1, a0_2, a0_3, a0_4, a1_0, a1_1, a1_2, a1_3, a1_4) =>
  Option.bind (c63 (a0_0, a1_0)) fun r1 =>
   bif !(r1) then
    some false
   else
    Option.bind (c64 (a0_1, a1_1)) fun r2 =>
     bif !(r2) then
      some false
     else
      bif a0_2 != a1_2 then
       some false
      else
       Option.bind (c23 (a0_3, a1_3)) fun r3 =>
        bif !(r3) then
         some false
        else
         bif !(a0_4 == a1_4) then
          some false
         else
          some true
noncomputable def laws_eqDisk.sig : Sig := ⟨[.val true [⟨.row K2, 0, 0, false⟩, ⟨.row K3, 0, 0, false⟩, ⟨.int .i64, 0, 0, false⟩, ⟨.row K0, 0, 0, false⟩, ⟨.bool, 0, 0, false⟩], .val true [⟨.row K2, 0, 0, false⟩, ⟨.row K3, 0, 0, false⟩, ⟨.int .i64, 0, 0, false⟩, ⟨.row K0, 0, 0, false⟩, ⟨.bool, 0, 0, false⟩]], [(.one, [(.bool, 0)])]⟩
noncomputable def laws_eqDisk.hint : Nat → Hint
  | _ => ⟨[], []⟩
noncomputable def laws_eqDisk.join : Nat → Option Hint
  | _ => none
noncomputable def laws_eqDisk.body : Code := (Try.f18).body.getD .skip
noncomputable def laws_eqDisk.rv : List ResultVar := (Try.f18).results.toList
noncomputable def laws_markFaultS.s0 (L0 : (Int × Int × (List (Int × Int × Int))) → Option (Int × (List (Int × Int × Int)))) : (Int × Int × (List (Int × Int × Int))) → Option (Int × (List (Int × Int × Int)))
  | (x0, x1, x2) =>
  bif decide (x1 < (List.length x2 : Int)) then
   bif decide (0 ≤ x1) && decide (x1 < (List.length x2 : Int)) then
    bif decide (0 ≤ x1) && decide (x1 < (List.length (List.set x2 (Int.toNat x1) (x0, (List.getD x2 (Int.toNat x1) ((0 : Int), (0 : Int), (0 : Int))).2.1, (List.getD x2 (Int.toNat x1) ((0 : Int), (0 : Int), (0 : Int))).2.2)) : Int)) then
     bif decide (0 ≤ x1) && decide (x1 < (List.length (List.set (List.set x2 (Int.toNat x1) (x0, (List.getD x2 (Int.toNat x1) ((0 : Int), (0 : Int), (0 : Int))).2.1, (List.getD x2 (Int.toNat x1) ((0 : Int), (0 : Int), (0 : Int))).2.2)) (Int.toNat x1) ((List.getD (List.set x2 (Int.toNat x1) (x0, (List.getD x2 (Int.toNat x1) ((0 : Int), (0 : Int), (0 : Int))).2.1, (List.getD x2 (Int.toNat x1) ((0 : Int), (0 : Int), (0 : Int))).2.2)) (Int.toNat x1) ((0 : Int), (0 : Int), (0 : Int))).1, IntKind.wrap IntKind.i64 (x0 + (1 : Int)), (List.getD (List.set x2 (Int.toNat x1) (x0, (List.getD x2 (Int.toNat x1) ((0 : Int), (0 : Int), (0 : Int))).2.1, (List.getD x2 (Int.toNat x1) ((0 : Int), (0 : Int), (0 : Int))).2.2)) (Int.toNat x1) ((0 : Int), (0 : Int), (0 : Int))).2.2)) : Int)) then
      L0 (IntKind.wrap IntKind.i64 ((IntKind.wrap IntKind.i64 ((IntKind.wrap IntKind.i64 (x0 + (1 : Int))) + (1 : Int))) + (1 : Int)), IntKind.wrap IntKind.i64 (x1 + (1 : Int)), List.set (List.set (List.set x2 (Int.toNat x1) (x0, (List.getD x2 (Int.toNat x1) ((0 : Int), (0 : Int), (0 : Int))).2.1, (List.getD x2 (Int.toNat x1) ((0 : Int), (0 : Int), (0 : Int))).2.2)) (Int.toNat x1) ((List.getD (List.set x2 (Int.toNat x1) (x0, (List.getD x2 (Int.toNat x1) ((0 : Int), (0 : Int), (0 : Int))).2.1, (List.getD x2 (Int.toNat x1) ((0 : Int), (0 : Int), (0 : Int))).2.2)) (Int.toNat x1) ((0 : Int), (0 : Int), (0 : Int))).1, IntKind.wrap IntKind.i64 (x0 + (1 : Int)), (List.getD (List.set x2 (Int.toNat x1) (x0, (List.getD x2 (Int.toNat x1) ((0 : Int), (0 : Int), (0 : Int))).2.1, (List.getD x2 (Int.toNat x1) ((0 : Int), (0 : Int), (0 : Int))).2.2)) (Int.toNat x1) ((0 : Int), (0 : Int), (0 : Int))).2.2)) (Int.toNat x1) ((List.getD (List.set (List.set x2 (Int.toNat x1) (x0, (List.getD x2 (Int.toNat x1) ((0 : Int), (0 : Int), (0 : Int))).2.1, (List.getD x2 (Int.toNat x1) ((0 : Int), (0 : Int), (0 : Int))).2.2)) (Int.toNat x1) ((List.getD (List.set x2 (Int.toNat x1) (x0, (List.getD x2 (Int.toNat x1) ((0 : Int), (0 : Int), (0 : Int))).2.1, (List.getD x2 (Int.toNat x1) ((0 : Int), (0 : Int), (0 : Int))).2.2)) (Int.toNat x1) ((0 : Int), (0 : Int), (0 : Int))).1, IntKind.wrap IntKind.i64 (x0 + (1 : Int)), (List.getD (List.set x2 (Int.toNat x1) (x0, (List.getD x2 (Int.toNat x1) ((0 : Int), (0 : Int), (0 : Int))).2.1, (List.getD x2 (Int.toNat x1) ((0 : Int), (0 : Int), (0 : Int))).2.2)) (Int.toNat x1) ((0 : Int), (0 : Int), (0 : Int))).2.2)) (Int.toNat x1) ((0 : Int), (0 : Int), (0 : Int))).1, (List.getD (List.set (List.set x2 (Int.toNat x1) (x0, (List.getD x2 (Int.toNat x1) ((0 : Int), (0 : Int), (0 : Int))).2.1, (List.getD x2 (Int.toNat x1) ((0 : Int), (0 : Int), (0 : Int))).2.2)) (Int.toNat x1) ((List.getD (List.set x2 (Int.toNat x1) (x0, (List.getD x2 (Int.toNat x1) ((0 : Int), (0 : Int), (0 : Int))).2.1, (List.getD x2 (Int.toNat x1) ((0 : Int), (0 : Int), (0 : Int))).2.2)) (Int.toNat x1) ((0 : Int), (0 : Int), (0 : Int))).1, IntKind.wrap IntKind.i64 (x0 + (1 : Int)), (List.getD (List.set x2 (Int.toNat x1) (x0, (List.getD x2 (Int.toNat x1) ((0 : Int), (0 : Int), (0 : Int))).2.1, (List.getD x2 (Int.toNat x1) ((0 : Int), (0 : Int), (0 : Int))).2.2)) (Int.toNat x1) ((0 : Int), (0 : Int), (0 : Int))).2.2)) (Int.toNat x1) ((0 : Int), (0 : Int), (0 : Int))).2.1, IntKind.wrap IntKind.i64 ((IntKind.wrap IntKind.i64 (x0 + (1 : Int))) + (1 : Int))))
     else
      none
    else
     none
   else
    none
  else
   some (x0, x2)
noncomputable def laws_markFaultS.ll0 : (Int × Int × (List (Int × Int × Int))) → LS
  | (x0, x1, x2) => ⟨[.ref 2 0 [] none 0, .cv ⟨.int .i64, x0⟩, .cv ⟨.int .i64, x1⟩], [⟨true, [⟨0, 0, .mk 1 ⟨.row K0, x2⟩⟩]⟩]⟩
noncomputable def laws_markFaultS.m (B0 : (Int × Int × (List (Int × Int × Int))) → Option (Int × (List (Int × Int × Int)))) : ((List (Int × Int × Int)) × Int) → Option (Int × (List (Int × Int × Int)))
  | (a0_0, a1_0) =>
  B0 (a1_0, (0 : Int), a0_0)
noncomputable def laws_markFaultS.sig : Sig := ⟨[.val false [⟨.row K0, 1, 1, true⟩], .val false [⟨.int .i64, 0, 0, false⟩]], [(.one, [(.int .i64, 0)])]⟩
noncomputable def laws_markFaultS.hint : Nat → Hint
  | 0 => ⟨[(0, .keep), (1, .keep), (5, .keep)], [(2, [1])]⟩
  | _ => ⟨[], []⟩
noncomputable def laws_markFaultS.join : Nat → Option Hint
  | _ => none
noncomputable def laws_markFaultS.body : Code := (Try.f24).body.getD .skip
noncomputable def laws_markFaultS.rv : List ResultVar := (Try.f24).results.toList
noncomputable def laws_markByteS.s0 (L0 : (Int × Int × (List Int)) → Option (Int × (List Int))) : (Int × Int × (List Int)) → Option (Int × (List Int))
  | (x0, x1, x2) =>
  bif decide (x1 < (List.length x2 : Int)) then
   bif decide (0 ≤ x1) && decide (x1 < (List.length x2 : Int)) then
    L0 (IntKind.wrap IntKind.i64 (x0 + (1 : Int)), IntKind.wrap IntKind.i64 (x1 + (1 : Int)), List.set x2 (Int.toNat x1) (IntKind.wrap IntKind.u8 x0))
   else
    none
  else
   some (x0, x2)
noncomputable def laws_markByteS.ll0 : (Int × Int × (List Int)) → LS
  | (x0, x1, x2) => ⟨[.ref 2 0 [] none 0, .cv ⟨.int .i64, x0⟩, .cv ⟨.int .i64, x1⟩], [⟨true, [⟨0, 0, .mk 1 ⟨.row K1, x2⟩⟩]⟩]⟩
noncomputable def laws_markByteS.m (B0 : (Int × Int × (List Int)) → Option (Int × (List Int))) : ((List Int) × Int) → Option (Int × (List Int))
  | (a0_0, a1_0) =>
  B0 (a1_0, (0 : Int), a0_0)
noncomputable def laws_markByteS.sig : Sig := ⟨[.val false [⟨.row K1, 1, 1, true⟩], .val false [⟨.int .i64, 0, 0, false⟩]], [(.one, [(.int .i64, 0)])]⟩
noncomputable def laws_markByteS.hint : Nat → Hint
  | 0 => ⟨[(0, .keep), (1, .keep), (5, .keep)], [(2, [1])]⟩
  | _ => ⟨[], []⟩
noncomputable def laws_markByteS.join : Nat → Option Hint
  | _ => none
noncomputable def laws_markByteS.body : Code := (Try.f30).body.getD .skip
noncomputable def laws_markByteS.rv : List ResultVar := (Try.f30).results.toList
noncomputable def laws_markByteSS.s0 (c30 : (List Int) × Int → Option (Int × (List Int))) (L0 : (Int × Int × (List (List Int))) → Option (Int × (List (List Int)))) : (Int × Int × (List (List Int))) → Option (Int × (List (List Int)))
  | (x0, x1, x2) =>
  bif decide (x1 < (List.length x2 : Int)) then
   bif decide (0 ≤ x1) && decide (x1 < (List.length x2 : Int)) then
    Option.bind (c30 ((List.getD x2 (Int.toNat x1) ([] : List Int)), x0)) fun r1 =>
     L0 (r1.1, IntKind.wrap IntKind.i64 (x1 + (1 : Int)), List.set x2 (Int.toNat x1) r1.2)
   else
    none
  else
   some (x0, x2)
noncomputable def laws_markByteSS.ll0 : (Int × Int × (List (List Int))) → LS
  | (x0, x1, x2) => ⟨[.ref 2 0 [] none 0, .cv ⟨.int .i64, x0⟩, .cv ⟨.int .i64, x1⟩], [⟨true, [⟨0, 0, .mk 2 ⟨.row K2, x2⟩⟩]⟩]⟩
noncomputable def laws_markByteSS.m (B0 : (Int × Int × (List (List Int))) → Option (Int × (List (List Int)))) : ((List (List Int)) × Int) → Option (Int × (List (List Int)))
  | (a0_0, a1_0) =>
  B0 (a1_0, (0 : Int), a0_0)
noncomputable def laws_markByteSS.sig : Sig := ⟨[.val false [⟨.row K2, 2, 2, true⟩], .val false [⟨.int .i64, 0, 0, false⟩]], [(.one, [(.int .i64, 0)])]⟩
noncomputable def laws_markByteSS.hint : Nat → Hint
  | 0 => ⟨[(0, .keep), (1, .keep), (5, .keep)], [(2, [2])]⟩
  | _ => ⟨[], []⟩
noncomputable def laws_markByteSS.join : Nat → Option Hint
  | _ => none
noncomputable def laws_markByteSS.body : Code := (Try.f67).body.getD .skip
noncomputable def laws_markByteSS.rv : List ResultVar := (Try.f67).results.toList
noncomputable def laws_markWriteS.s0 (c30 : (List Int) × Int → Option (Int × (List Int))) (L0 : (Int × Int × (List (Int × (List Int)))) → Option (Int × (List (Int × (List Int))))) : (Int × Int × (List (Int × (List Int)))) → Option (Int × (List (Int × (List Int))))
  | (x0, x1, x2) =>
  bif decide (x1 < (List.length x2 : Int)) then
   bif decide (0 ≤ x1) && decide (x1 < (List.length x2 : Int)) then
    bif decide (0 ≤ x1) && decide (x1 < (List.length (List.set x2 (Int.toNat x1) (x0, (List.getD x2 (Int.toNat x1) ((0 : Int), ([] : List Int))).2)) : Int)) then
     Option.bind (c30 ((List.getD (List.set x2 (Int.toNat x1) (x0, (List.getD x2 (Int.toNat x1) ((0 : Int), ([] : List Int))).2)) (Int.toNat x1) ((0 : Int), ([] : List Int))).2, IntKind.wrap IntKind.i64 (x0 + (1 : Int)))) fun r1 =>
      L0 (r1.1, IntKind.wrap IntKind.i64 (x1 + (1 : Int)), List.set (List.set x2 (Int.toNat x1) (x0, (List.getD x2 (Int.toNat x1) ((0 : Int), ([] : List Int))).2)) (Int.toNat x1) ((List.getD (List.set x2 (Int.toNat x1) (x0, (List.getD x2 (Int.toNat x1) ((0 : Int), ([] : List Int))).2)) (Int.toNat x1) ((0 : Int), ([] : List Int))).1, r1.2))
    else
     none
   else
    none
  else
   some (x0, x2)
noncomputable def laws_markWriteS.ll0 : (Int × Int × (List (Int × (List Int)))) → LS
  | (x0, x1, x2) => ⟨[.ref 2 0 [] none 0, .cv ⟨.int .i64, x0⟩, .cv ⟨.int .i64, x1⟩], [⟨true, [⟨0, 0, .mk 2 ⟨.row K3, x2⟩⟩]⟩]⟩
noncomputable def laws_markWriteS.m (B0 : (Int × Int × (List (Int × (List Int)))) → Option (Int × (List (Int × (List Int))))) : ((List (Int × (List Int))) × Int) → Option (Int × (List (Int × (List Int))))
  | (a0_0, a1_0) =>
  B0 (a1_0, (0 : Int), a0_0)
noncomputable def laws_markWriteS.sig : Sig := ⟨[.val false [⟨.row K3, 2, 2, true⟩], .val false [⟨.int .i64, 0, 0, false⟩]], [(.one, [(.int .i64, 0)])]⟩
noncomputable def laws_markWriteS.hint : Nat → Hint
  | 0 => ⟨[(0, .keep), (1, .keep), (5, .keep)], [(2, [2])]⟩
  | _ => ⟨[], []⟩
noncomputable def laws_markWriteS.join : Nat → Option Hint
  | _ => none
noncomputable def laws_markWriteS.body : Code := (Try.f68).body.getD .skip
noncomputable def laws_markWriteS.rv : List ResultVar := (Try.f68).results.toList
noncomputable def laws_markDisk.m (c24 : (List (Int × Int × Int)) × Int → Option (Int × (List (Int × Int × Int)))) (c67 : (List (List Int)) × Int → Option (Int × (List (List Int)))) (c68 : (List (Int × (List Int))) × Int → Option (Int × (List (Int × (List Int))))) : ((List (List Int)) × (List (Int × (List Int))) × Int × (List (Int × Int × Int)) × Bool × Int) → Option (Int × (List (List Int)) × (List (Int × (List Int))) × (List (Int × Int × Int)))
  | (a0_0, a0_1, a0_2, a0_3, a0_4, a1_0) =>
  Option.bind (c67 (a0_0, a1_0)) fun r1 =>
   Option.bind (c68 (a0_1, r1.1)) fun r2 =>
    Option.bind (c24 (a0_3, r2.1)) fun r3 =>
     some (r3.1, r1.2, r2.2, r3.2)
noncomputable def laws_markDisk.sig : Sig := ⟨[.val true [⟨.row K2, 2, 2, true⟩, ⟨.row K3, 2, 2, true⟩, ⟨.int .i64, 0, 0, false⟩, ⟨.row K0, 1, 1, true⟩, ⟨.bool, 0, 0, false⟩], .val false [⟨.int .i64, 0, 0, false⟩]], [(.one, [(.int .i64, 0)])]⟩
noncomputable def laws_markDisk.hint : Nat → Hint
  | _ => ⟨[], []⟩
noncomputable def laws_markDisk.join : Nat → Option Hint
  | _ => none
noncomputable def laws_markDisk.body : Code := (Try.f25).body.getD .skip
noncomputable def laws_markDisk.rv : List ResultVar := (Try.f25).results.toList
noncomputable def laws_heldByteS.s0 (L0 : ((List Int) × Int × Int) → Option (Int)) : ((List Int) × Int × Int) → Option (Int)
  | (x0, x1, x2) =>
  bif decide (x2 < (List.length x0 : Int)) then
   bif decide (0 ≤ x2) && decide (x2 < (List.length x0 : Int)) then
    bif (List.getD x0 (Int.toNat x2) (0 : Int)) != (IntKind.wrap IntKind.u8 x1) then
     some (-1 : Int)
    else
     L0 (x0, IntKind.wrap IntKind.i64 (x1 + (1 : Int)), IntKind.wrap IntKind.i64 (x2 + (1 : Int)))
   else
    none
  else
   some x1
noncomputable def laws_heldByteS.ll0 : ((List Int) × Int × Int) → LS
  | (x0, x1, x2) => ⟨[.cv ⟨.row K1, x0⟩, .cv ⟨.int .i64, x1⟩, .cv ⟨.int .i64, x2⟩], []⟩
noncomputable def laws_heldByteS.m (B0 : ((List Int) × Int × Int) → Option (Int)) : ((List Int) × Int) → Option (Int)
  | (a0_0, a1_0) =>
  B0 (a0_0, a1_0, (0 : Int))
noncomputable def laws_heldByteS.sig : Sig := ⟨[.val false [⟨.row K1, 0, 0, false⟩], .val false [⟨.int .i64, 0, 0, false⟩]], [(.one, [(.int .i64, 0)])]⟩
noncomputable def laws_heldByteS.hint : Nat → Hint
  | 0 => ⟨[(0, .keep), (1, .keep), (5, .keep)], []⟩
  | _ => ⟨[], []⟩
noncomputable def laws_heldByteS.join : Nat → Option Hint
  | _ => none
noncomputable def laws_heldByteS.body : Code := (Try.f31).body.getD .skip
noncomputable def laws_heldByteS.rv : List ResultVar := (Try.f31).results.toList
noncomputable def laws_heldByteSS.s0 (c31 : (List Int) × Int → Option (Int)) (L0 : ((List (List Int)) × Int × Int) → Option (Int)) : ((List (List Int)) × Int × Int) → Option (Int)
  | (x0, x1, x2) =>
  bif decide (x2 < (List.length x0 : Int)) then
   bif decide (0 ≤ x2) && decide (x2 < (List.length x0 : Int)) then
    Option.bind (c31 ((List.getD x0 (Int.toNat x2) ([] : List Int)), x1)) fun r1 =>
     bif decide (r1 < (0 : Int)) then
      some (-1 : Int)
     else
      L0 (x0, r1, IntKind.wrap IntKind.i64 (x2 + (1 : Int)))
   else
    none
  else
   some x1
noncomputable def laws_heldByteSS.ll0 : ((List (List Int)) × Int × Int) → LS
  | (x0, x1, x2) => ⟨[.cv ⟨.row K2, x0⟩, .cv ⟨.int .i64, x1⟩, .cv ⟨.int .i64, x2⟩], []⟩
noncomputable def laws_heldByteSS.m (B0 : ((List (List Int)) × Int × Int) → Option (Int)) : ((List (List Int)) × Int) → Option (Int)
  | (a0_0, a1_0) =>
  B0 (a0_0, a1_0, (0 : Int))
noncomputable def laws_heldByteSS.sig : Sig := ⟨[.val false [⟨.row K2, 0, 0, false⟩], .val false [⟨.int .i64, 0, 0, false⟩]], [(.one, [(.int .i64, 0)])]⟩
noncomputable def laws_heldByteSS.hint : Nat → Hint
  | 0 => ⟨[(0, .keep), (1, .keep), (5, .keep)], []⟩
  | _ => ⟨[], []⟩
noncomputable def laws_heldByteSS.join : Nat → Option Hint
  | _ => none
noncomputable def laws_heldByteSS.body : Code := (Try.f69).body.getD .skip
noncomputable def laws_heldByteSS.rv : List ResultVar := (Try.f69).results.toList
noncomputable def laws_heldWriteS.s0 (c31 : (List Int) × Int → Option (Int)) (L0 : ((List (Int × (List Int))) × Int × Int) → Option (Int)) : ((List (Int × (List Int))) × Int × Int) → Option (Int)
  | (x0, x1, x2) =>
  bif decide (x2 < (List.length x0 : Int)) then
   bif decide (0 ≤ x2) && decide (x2 < (List.length x0 : Int)) then
    bif ((List.getD x0 (Int.toNat x2) ((0 : Int), ([] : List Int))).1) != x1 then
     some (-1 : Int)
    else
     bif decide (0 ≤ x2) && decide (x2 < (List.length x0 : Int)) then
      Option.bind (c31 ((List.getD x0 (Int.toNat x2) ((0 : Int), ([] : List Int))).2, IntKind.wrap IntKind.i64 (x1 + (1 : Int)))) fun r1 =>
       bif decide (r1 < (0 : Int)) then
        some (-1 : Int)
       else
        L0 (x0, r1, IntKind.wrap IntKind.i64 (x2 + (1 : Int)))
     else
      none
   else
    none
  else
   some x1
noncomputable def laws_heldWriteS.ll0 : ((List (Int × (List Int))) × Int × Int) → LS
  | (x0, x1, x2) => ⟨[.cv ⟨.row K3, x0⟩, .cv ⟨.int .i64, x1⟩, .cv ⟨.int .i64, x2⟩], []⟩
noncomputable def laws_heldWriteS.m (B0 : ((List (Int × (List Int))) × Int × Int) → Option (Int)) : ((List (Int × (List Int))) × Int) → Option (Int)
  | (a0_0, a1_0) =>
  B0 (a0_0, a1_0, (0 : Int))
noncomputable def laws_heldWriteS.sig : Sig := ⟨[.val false [⟨.row K3, 0, 0, false⟩], .val false [⟨.int .i64, 0, 0, false⟩]], [(.one, [(.int .i64, 0)])]⟩
noncomputable def laws_heldWriteS.hint : Nat → Hint
  | 0 => ⟨[(0, .keep), (1, .keep), (5, .keep)], []⟩
  | _ => ⟨[], []⟩
noncomputable def laws_heldWriteS.join : Nat → Option Hint
  | _ => none
noncomputable def laws_heldWriteS.body : Code := (Try.f70).body.getD .skip
noncomputable def laws_heldWriteS.rv : List ResultVar := (Try.f70).results.toList
noncomputable def laws_heldFaultS.s0 (L0 : ((List (Int × Int × Int)) × Int × Int) → Option (Int)) : ((List (Int × Int × Int)) × Int × Int) → Option (Int)
  | (x0, x1, x2) =>
  bif decide (x2 < (List.length x0 : Int)) then
   bif decide (0 ≤ x2) && decide (x2 < (List.length x0 : Int)) then
    bif ((List.getD x0 (Int.toNat x2) ((0 : Int), (0 : Int), (0 : Int))).1) != x1 then
     some (-1 : Int)
    else
     bif decide (0 ≤ x2) && decide (x2 < (List.length x0 : Int)) then
      bif ((List.getD x0 (Int.toNat x2) ((0 : Int), (0 : Int), (0 : Int))).2.1) != (IntKind.wrap IntKind.i64 (x1 + (1 : Int))) then
       some (-1 : Int)
      else
       bif decide (0 ≤ x2) && decide (x2 < (List.length x0 : Int)) then
        bif ((List.getD x0 (Int.toNat x2) ((0 : Int), (0 : Int), (0 : Int))).2.2) != (IntKind.wrap IntKind.i64 ((IntKind.wrap IntKind.i64 (x1 + (1 : Int))) + (1 : Int))) then
         some (-1 : Int)
        else
         L0 (x0, IntKind.wrap IntKind.i64 ((IntKind.wrap IntKind.i64 ((IntKind.wrap IntKind.i64 (x1 + (1 : Int))) + (1 : Int))) + (1 : Int)), IntKind.wrap IntKind.i64 (x2 + (1 : Int)))
       else
        none
     else
      none
   else
    none
  else
   some x1
noncomputable def laws_heldFaultS.ll0 : ((List (Int × Int × Int)) × Int × Int) → LS
  | (x0, x1, x2) => ⟨[.cv ⟨.row K0, x0⟩, .cv ⟨.int .i64, x1⟩, .cv ⟨.int .i64, x2⟩], []⟩
noncomputable def laws_heldFaultS.m (B0 : ((List (Int × Int × Int)) × Int × Int) → Option (Int)) : ((List (Int × Int × Int)) × Int) → Option (Int)
  | (a0_0, a1_0) =>
  B0 (a0_0, a1_0, (0 : Int))
noncomputable def laws_heldFaultS.sig : Sig := ⟨[.val false [⟨.row K0, 0, 0, false⟩], .val false [⟨.int .i64, 0, 0, false⟩]], [(.one, [(.int .i64, 0)])]⟩
noncomputable def laws_heldFaultS.hint : Nat → Hint
  | 0 => ⟨[(0, .keep), (1, .keep), (5, .keep)], []⟩
  | _ => ⟨[], []⟩
noncomputable def laws_heldFaultS.join : Nat → Option Hint
  | _ => none
noncomputable def laws_heldFaultS.body : Code := (Try.f71).body.getD .skip
noncomputable def laws_heldFaultS.rv : List ResultVar := (Try.f71).results.toList
noncomputable def laws_heldDisk.m (c69 : (List (List Int)) × Int → Option (Int)) (c70 : (List (Int × (List Int))) × Int → Option (Int)) (c71 : (List (Int × Int × Int)) × Int → Option (Int)) : ((List (List Int)) × (List (Int × (List Int))) × Int × (List (Int × Int × Int)) × Bool × Int) → Option (Int)
  | (a0_0, a0_1, a0_2, a0_3, a0_4, a1_0) =>
  Option.bind (c69 (a0_0, a1_0)) fun r1 =>
   bif decide (r1 < (0 : Int)) then
    some (-1 : Int)
   else
    Option.bind (c70 (a0_1, r1)) fun r2 =>
     bif decide (r2 < (0 : Int)) then
      some (-1 : Int)
     else
      Option.bind (c71 (a0_3, r2)) fun r3 =>
       bif decide (r3 < (0 : Int)) then
        some (-1 : Int)
       else
        some r3
noncomputable def laws_heldDisk.sig : Sig := ⟨[.val true [⟨.row K2, 0, 0, false⟩, ⟨.row K3, 0, 0, false⟩, ⟨.int .i64, 0, 0, false⟩, ⟨.row K0, 0, 0, false⟩, ⟨.bool, 0, 0, false⟩], .val false [⟨.int .i64, 0, 0, false⟩]], [(.one, [(.int .i64, 0)])]⟩
noncomputable def laws_heldDisk.hint : Nat → Hint
  | _ => ⟨[], []⟩
noncomputable def laws_heldDisk.join : Nat → Option Hint
  | _ => none
noncomputable def laws_heldDisk.body : Code := (Try.f26).body.getD .skip
noncomputable def laws_heldDisk.rv : List ResultVar := (Try.f26).results.toList
noncomputable def impl_copyBytes.m  : (List Int) → Option (List Int)
  | a0_0 =>
  bif decide ((List.length ([] : List Int) + List.length a0_0) * 1 ≤ 140737488355328) then
   some (([] : List Int) ++ a0_0)
  else
   none
noncomputable def impl_copyBytes.sig : Sig := ⟨[.val false [⟨.row K1, 0, 0, false⟩]], [(.one, [(.row K1, 1)])]⟩
noncomputable def impl_copyBytes.hint : Nat → Hint
  | _ => ⟨[], []⟩
noncomputable def impl_copyBytes.join : Nat → Option Hint
  | _ => none
noncomputable def impl_copyBytes.body : Code := (Try.f72).body.getD .skip
noncomputable def impl_copyBytes.rv : List ResultVar := (Try.f72).results.toList
noncomputable def spec_l12Fault.s0 (L0 : (Int × (List (List Int)) × (List (Int × (List Int))) × Int × (List (Int × Int × Int)) × Bool × Int × Int × Int) → Option (Int × Int × Int × Bool)) : (Int × (List (List Int)) × (List (Int × (List Int))) × Int × (List (Int × Int × Int)) × Bool × Int × Int × Int) → Option (Int × Int × Int × Bool)
  | (x0, x1, x2, x3, x4, x5, x6, x7, x8) =>
  bif decide (x0 < (List.length x4 : Int)) then
   bif decide (0 ≤ x0) && decide (x0 < (List.length x4 : Int)) then
    bif ((List.getD x4 (Int.toNat x0) ((0 : Int), (0 : Int), (0 : Int))).1) == x3 then
     bif decide (0 ≤ x0) && decide (x0 < (List.length x4 : Int)) then
      some ((List.getD x4 (Int.toNat x0) ((0 : Int), (0 : Int), (0 : Int))).1, (List.getD x4 (Int.toNat x0) ((0 : Int), (0 : Int), (0 : Int))).2.1, (List.getD x4 (Int.toNat x0) ((0 : Int), (0 : Int), (0 : Int))).2.2, true)
     else
      none
    else
     L0 (IntKind.wrap IntKind.i64 (x0 + (1 : Int)), x1, x2, x3, x4, x5, x6, x7, x8)
   else
    none
  else
   some ((0 : Int), (0 : Int), (0 : Int), false)
noncomputable def spec_l12Fault.ll0 : (Int × (List (List Int)) × (List (Int × (List Int))) × Int × (List (Int × Int × Int)) × Bool × Int × Int × Int) → LS
  | (x0, x1, x2, x3, x4, x5, x6, x7, x8) => ⟨[.addr 65 0 [] 0, .addr 129 0 [] 0, .cv ⟨.int .i64, x0⟩], [⟨false, [⟨0, 0, .mk 0 ⟨.row K2, x1⟩⟩, ⟨0, 0, .mk 0 ⟨.row K3, x2⟩⟩, ⟨0, 0, .mk 0 ⟨.int .i64, x3⟩⟩, ⟨0, 0, .mk 0 ⟨.row K0, x4⟩⟩, ⟨0, 0, .mk 0 ⟨.bool, x5⟩⟩]⟩, ⟨false, [⟨0, 0, .mk 0 ⟨.int .i64, x6⟩⟩, ⟨0, 0, .mk 0 ⟨.int .i64, x7⟩⟩, ⟨0, 0, .mk 0 ⟨.int .i64, x8⟩⟩]⟩]⟩
noncomputable def spec_l12Fault.m (B0 : (Int × (List (List Int)) × (List (Int × (List Int))) × Int × (List (Int × Int × Int)) × Bool × Int × Int × Int) → Option (Int × Int × Int × Bool)) : ((List (List Int)) × (List (Int × (List Int))) × Int × (List (Int × Int × Int)) × Bool) → Option (Int × Int × Int × Bool)
  | (a0_0, a0_1, a0_2, a0_3, a0_4) =>
  B0 ((0 : Int), a0_0, a0_1, a0_2, a0_3, a0_4, (0 : Int), (0 : Int), (0 : Int))
noncomputable def spec_l12Fault.sig : Sig := ⟨[.val true [⟨.row K2, 0, 0, false⟩, ⟨.row K3, 0, 0, false⟩, ⟨.int .i64, 0, 0, false⟩, ⟨.row K0, 0, 0, false⟩, ⟨.bool, 0, 0, false⟩]], [(.agg, [(.int .i64, 0), (.int .i64, 0), (.int .i64, 0)]), (.one, [(.bool, 0)])]⟩
noncomputable def spec_l12Fault.hint : Nat → Hint
  | 0 => ⟨[(1, .keep), (2, .keep), (4, .keep)], [(65, [0, 0, 0, 0, 0]), (129, [0, 0, 0])]⟩
  | _ => ⟨[], []⟩
noncomputable def spec_l12Fault.join : Nat → Option Hint
  | _ => none
noncomputable def spec_l12Fault.body : Code := (Try.f105).body.getD .skip
noncomputable def spec_l12Fault.rv : List ResultVar := (Try.f105).results.toList
noncomputable def spec_l12Lose.s0 (B2 : (Int × Int × (List (List Int)) × (List (Int × (List Int))) × Int × (List (Int × Int × Int)) × Bool × Int × Int × Int) → Option ((List (List Int)) × (List (Int × (List Int))) × Int × (List (Int × Int × Int)) × Bool)) (L0 : (Int × Int × (List (List Int)) × (List (Int × (List Int))) × Int × (List (Int × Int × Int)) × Bool × Int × Int × Int) → Option ((List (List Int)) × (List (Int × (List Int))) × Int × (List (Int × Int × Int)) × Bool)) : (Int × Int × (List (List Int)) × (List (Int × (List Int))) × Int × (List (Int × Int × Int)) × Bool × Int × Int × Int) → Option ((List (List Int)) × (List (Int × (List Int))) × Int × (List (Int × Int × Int)) × Bool)
  | (x0, x1, x2, x3, x4, x5, x6, x7, x8, x9) =>
  bif decide (x1 < (List.length x3 : Int)) then
   bif decide (x1 < (20 : Int)) then
    bif decide (¬ (IntKind.wrap IntKind.u64 x1) < 0) then
     bif (IntKind.wrap IntKind.i64 ((BitVec.ofInt (IntKind.bits IntKind.i64) (Int.fdiv x8 (2 ^ (min (Int.toNat (IntKind.wrap IntKind.u64 x1)) (IntKind.bits IntKind.i64)))) &&& BitVec.ofInt (IntKind.bits IntKind.i64) (1 : Int)).toNat : Int)) == (1 : Int) then
      L0 (x1, IntKind.wrap IntKind.i64 (x1 + (1 : Int)), x2, x3, x4, x5, x6, x7, x8, x9)
     else
      L0 (x0, IntKind.wrap IntKind.i64 (x1 + (1 : Int)), x2, x3, x4, x5, x6, x7, x8, x9)
    else
     none
   else
    B2 (x0, (0 : Int), x2, x3, x4, x5, x6, x7, x8, x9)
  else
   B2 (x0, (0 : Int), x2, x3, x4, x5, x6, x7, x8, x9)
noncomputable def spec_l12Lose.ll0 : (Int × Int × (List (List Int)) × (List (Int × (List Int))) × Int × (List (Int × Int × Int)) × Bool × Int × Int × Int) → LS
  | (x0, x1, x2, x3, x4, x5, x6, x7, x8, x9) => ⟨[.addr 2 0 [] 0, .addr 193 0 [] 0, .cv ⟨.int .i64, x0⟩, .cv ⟨.int .i64, x1⟩], [⟨false, [⟨0, 0, .mk 1 ⟨.row K2, x2⟩⟩, ⟨0, 0, .mk 1 ⟨.row K3, x3⟩⟩, ⟨0, 0, .mk 0 ⟨.int .i64, x4⟩⟩, ⟨0, 0, .mk 1 ⟨.row K0, x5⟩⟩, ⟨0, 0, .mk 0 ⟨.bool, x6⟩⟩]⟩, ⟨false, [⟨0, 0, .mk 0 ⟨.int .i64, x7⟩⟩, ⟨0, 0, .mk 0 ⟨.int .i64, x8⟩⟩, ⟨0, 0, .mk 0 ⟨.int .i64, x9⟩⟩]⟩]⟩
noncomputable def spec_l12Lose.s2 (L2 : (Int × Int × (List (List Int)) × (List (Int × (List Int))) × Int × (List (Int × Int × Int)) × Bool × Int × Int × Int) → Option ((List (List Int)) × (List (Int × (List Int))) × Int × (List (Int × Int × Int)) × Bool)) : (Int × Int × (List (List Int)) × (List (Int × (List Int))) × Int × (List (Int × Int × Int)) × Bool × Int × Int × Int) → Option ((List (List Int)) × (List (Int × (List Int))) × Int × (List (Int × Int × Int)) × Bool)
  | (x0, x1, x2, x3, x4, x5, x6, x7, x8, x9) =>
  bif decide (x1 ≤ x0) then
   bif decide (0 ≤ x1) && decide (x1 < (List.length x3 : Int)) then
    bif decide (¬ (IntKind.wrap IntKind.u64 x1) < 0) then
     bif (IntKind.wrap IntKind.i64 ((BitVec.ofInt (IntKind.bits IntKind.i64) (Int.fdiv x8 (2 ^ (min (Int.toNat (IntKind.wrap IntKind.u64 x1)) (IntKind.bits IntKind.i64)))) &&& BitVec.ofInt (IntKind.bits IntKind.i64) (1 : Int)).toNat : Int)) == (0 : Int) then
      L2 (x0, IntKind.wrap IntKind.i64 (x1 + (1 : Int)), x2, x3, x4, x5, x6, x7, x8, x9)
     else
      bif x1 == x0 then
       bif decide (x9 < (List.length ((List.getD x3 (Int.toNat x1) ((0 : Int), ([] : List Int))).2) : Int)) then
        bif decide (0 ≤ (0 : Int)) && decide ((0 : Int) ≤ x9) && decide (x9 ≤ (List.length ((List.getD x3 (Int.toNat x1) ((0 : Int), ([] : List Int))).2) : Int)) then
         bif decide ((List.length ([] : List Int) + List.length (List.drop (Int.toNat (0 : Int)) (List.take (Int.toNat x9) ((List.getD x3 (Int.toNat x1) ((0 : Int), ([] : List Int))).2)))) * 1 ≤ 140737488355328) then
          bif decide (0 ≤ ((List.getD x3 (Int.toNat x1) ((0 : Int), ([] : List Int))).1)) && decide (((List.getD x3 (Int.toNat x1) ((0 : Int), ([] : List Int))).1) < (List.length x2 : Int)) then
           L2 (x0, IntKind.wrap IntKind.i64 (x1 + (1 : Int)), List.set x2 (Int.toNat ((List.getD x3 (Int.toNat x1) ((0 : Int), ([] : List Int))).1)) (([] : List Int) ++ (List.drop (Int.toNat (0 : Int)) (List.take (Int.toNat x9) ((List.getD x3 (Int.toNat x1) ((0 : Int), ([] : List Int))).2)))), x3, x4, x5, x6, x7, x8, x9)
          else
           none
         else
          none
        else
         none
       else
        bif decide ((List.length ([] : List Int) + List.length ((List.getD x3 (Int.toNat x1) ((0 : Int), ([] : List Int))).2)) * 1 ≤ 140737488355328) then
         bif decide (0 ≤ ((List.getD x3 (Int.toNat x1) ((0 : Int), ([] : List Int))).1)) && decide (((List.getD x3 (Int.toNat x1) ((0 : Int), ([] : List Int))).1) < (List.length x2 : Int)) then
          L2 (x0, IntKind.wrap IntKind.i64 (x1 + (1 : Int)), List.set x2 (Int.toNat ((List.getD x3 (Int.toNat x1) ((0 : Int), ([] : List Int))).1)) (([] : List Int) ++ ((List.getD x3 (Int.toNat x1) ((0 : Int), ([] : List Int))).2)), x3, x4, x5, x6, x7, x8, x9)
         else
          none
        else
         none
      else
       bif decide ((List.length ([] : List Int) + List.length ((List.getD x3 (Int.toNat x1) ((0 : Int), ([] : List Int))).2)) * 1 ≤ 140737488355328) then
        bif decide (0 ≤ ((List.getD x3 (Int.toNat x1) ((0 : Int), ([] : List Int))).1)) && decide (((List.getD x3 (Int.toNat x1) ((0 : Int), ([] : List Int))).1) < (List.length x2 : Int)) then
         L2 (x0, IntKind.wrap IntKind.i64 (x1 + (1 : Int)), List.set x2 (Int.toNat ((List.getD x3 (Int.toNat x1) ((0 : Int), ([] : List Int))).1)) (([] : List Int) ++ ((List.getD x3 (Int.toNat x1) ((0 : Int), ([] : List Int))).2)), x3, x4, x5, x6, x7, x8, x9)
        else
         none
       else
        none
    else
     none
   else
    none
  else
   some (x2, ([] : List (Int × (List Int))), x4, x5, true)
noncomputable def spec_l12Lose.ll2 : (Int × Int × (List (List Int)) × (List (Int × (List Int))) × Int × (List (Int × Int × Int)) × Bool × Int × Int × Int) → LS
  | (x0, x1, x2, x3, x4, x5, x6, x7, x8, x9) => ⟨[.addr 2 0 [] 0, .addr 193 0 [] 0, .cv ⟨.int .i64, x0⟩, .cv ⟨.int .i64, x1⟩], [⟨false, [⟨0, 0, .mk 1 ⟨.row K2, x2⟩⟩, ⟨0, 0, .mk 1 ⟨.row K3, x3⟩⟩, ⟨0, 0, .mk 0 ⟨.int .i64, x4⟩⟩, ⟨0, 0, .mk 1 ⟨.row K0, x5⟩⟩, ⟨0, 0, .mk 0 ⟨.bool, x6⟩⟩]⟩, ⟨false, [⟨0, 0, .mk 0 ⟨.int .i64, x7⟩⟩, ⟨0, 0, .mk 0 ⟨.int .i64, x8⟩⟩, ⟨0, 0, .mk 0 ⟨.int .i64, x9⟩⟩]⟩]⟩
noncomputable def spec_l12Lose.m (B0 : (Int × Int × (List (List Int)) × (List (Int × (List Int))) × Int × (List (Int × Int × Int)) × Bool × Int × Int × Int) → Option ((List (List Int)) × (List (Int × (List Int))) × Int × (List (Int × Int × Int)) × Bool)) : ((List (List Int)) × (List (Int × (List Int))) × Int × (List (Int × Int × Int)) × Bool × Int × Int × Int) → Option ((List (List Int)) × (List (Int × (List Int))) × Int × (List (Int × Int × Int)) × Bool)
  | (a0_0, a0_1, a0_2, a0_3, a0_4, a1_0, a1_1, a1_2) =>
  B0 ((-1 : Int), (0 : Int), a0_0, a0_1, a0_2, a0_3, a0_4, a1_0, a1_1, a1_2)
noncomputable def spec_l12Lose.sig : Sig := ⟨[.ptr [⟨.row K2, 1, 1, true⟩, ⟨.row K3, 1, 2, true⟩, ⟨.int .i64, 0, 0, true⟩, ⟨.row K0, 1, 1, true⟩, ⟨.bool, 0, 0, true⟩], .val true [⟨.int .i64, 0, 0, false⟩, ⟨.int .i64, 0, 0, false⟩, ⟨.int .i64, 0, 0, false⟩]], []⟩
noncomputable def spec_l12Lose.hint : Nat → Hint
  | 0 => ⟨[(0, .keep), (3, .keep), (4, .keep), (5, .keep)], [(2, [1, 1, 0, 1, 0]), (193, [0, 0, 0])]⟩
  | 2 => ⟨[(0, .keep), (3, .keep), (4, .keep), (6, .keep)], [(2, [1, 1, 0, 1, 0]), (193, [0, 0, 0])]⟩
  | _ => ⟨[], []⟩
noncomputable def spec_l12Lose.join : Nat → Option Hint
  | _ => none
noncomputable def spec_l12Lose.body : Code := (Try.f106).body.getD .skip
noncomputable def spec_l12Lose.rv : List ResultVar := (Try.f106).results.toList
noncomputable def spec_l12Write.m (c105 : (List (List Int)) × (List (Int × (List Int))) × Int × (List (Int × Int × Int)) × Bool → Option (Int × Int × Int × Bool)) (c106 : (List (List Int)) × (List (Int × (List Int))) × Int × (List (Int × Int × Int)) × Bool × Int × Int × Int → Option ((List (List Int)) × (List (Int × (List Int))) × Int × (List (Int × Int × Int)) × Bool)) : ((List (List Int)) × (List (Int × (List Int))) × Int × (List (Int × Int × Int)) × Bool × Int × (List Int)) → Option (Int × (List (List Int)) × (List (Int × (List Int))) × Int × (List (Int × Int × Int)) × Bool)
  | (a0_0, a0_1, a0_2, a0_3, a0_4, a1_0, a2_0) =>
  bif a0_4 then
   some ((9 : Int), a0_0, a0_1, a0_2, a0_3, a0_4)
  else
   bif decide (a0_2 ≥ (100000 : Int)) then
    some ((9 : Int), a0_0, a0_1, a0_2, a0_3, a0_4)
   else
    bif decide ((List.length a0_1 : Int) ≥ (60 : Int)) then
     some ((1 : Int), a0_0, a0_1, a0_2, a0_3, a0_4)
    else
     Option.bind (c105 (a0_0, a0_1, a0_2, a0_3, a0_4)) fun r1 =>
      bif decide ((List.length ([] : List Int) + List.length a2_0) * 1 ≤ 140737488355328) then
       bif decide ((List.length a0_1 + List.length ([(a1_0, ([] : List Int) ++ a2_0)] : List (Int × (List Int)))) * 32 ≤ 140737488355328) then
        bif r1.2.2.2 then
         Option.bind (c106 (a0_0, a0_1 ++ ([(a1_0, ([] : List Int) ++ a2_0)] : List (Int × (List Int))), IntKind.wrap IntKind.i64 (a0_2 + (1 : Int)), a0_3, a0_4, r1.1, r1.2.1, r1.2.2.1)) fun r2 =>
          some ((9 : Int), r2.1, r2.2.1, r2.2.2.1, r2.2.2.2.1, r2.2.2.2.2)
        else
         some ((0 : Int), a0_0, a0_1 ++ ([(a1_0, ([] : List Int) ++ a2_0)] : List (Int × (List Int))), IntKind.wrap IntKind.i64 (a0_2 + (1 : Int)), a0_3, a0_4)
       else
        none
      else
       none
noncomputable def spec_l12Write.sig : Sig := ⟨[.ptr [⟨.row K2, 1, 1, true⟩, ⟨.row K3, 1, 1, true⟩, ⟨.int .i64, 0, 0, true⟩, ⟨.row K0, 1, 1, true⟩, ⟨.bool, 0, 0, true⟩], .val false [⟨.int .i64, 0, 0, false⟩], .val false [⟨.row K1, 0, 0, false⟩]], [(.one, [(.int .i64, 0)])]⟩
noncomputable def spec_l12Write.hint : Nat → Hint
  | _ => ⟨[], []⟩
noncomputable def spec_l12Write.join : Nat → Option Hint
  | _ => none
noncomputable def spec_l12Write.body : Code := (Try.f88).body.getD .skip
noncomputable def spec_l12Write.rv : List ResultVar := (Try.f88).results.toList
noncomputable def impl_copyDisk.s0 (c72 : (List Int) → Option (List Int)) (B2 : ((List (Int × (List Int))) × Int × Int × (List (List Int)) × (List (Int × (List Int))) × Int × (List (Int × Int × Int)) × Bool × (List (List Int)) × (List (Int × (List Int))) × Int × (List (Int × Int × Int)) × Bool × (List (List Int)) × (List (Int × (List Int)))) → Option ((List (List Int)) × (List (Int × (List Int))) × Int × (List (Int × Int × Int)) × Bool)) (L0 : ((List (List Int)) × Int × Int × (List (List Int)) × (List (Int × (List Int))) × Int × (List (Int × Int × Int)) × Bool × (List (List Int)) × (List (Int × (List Int))) × Int × (List (Int × Int × Int)) × Bool × (List (List Int))) → Option ((List (List Int)) × (List (Int × (List Int))) × Int × (List (Int × Int × Int)) × Bool)) : ((List (List Int)) × Int × Int × (List (List Int)) × (List (Int × (List Int))) × Int × (List (Int × Int × Int)) × Bool × (List (List Int)) × (List (Int × (List Int))) × Int × (List (Int × Int × Int)) × Bool × (List (List Int))) → Option ((List (List Int)) × (List (Int × (List Int))) × Int × (List (Int × Int × Int)) × Bool)
  | (x0, x1, x2, x3, x4, x5, x6, x7, x8, x9, x10, x11, x12, x13) =>
  bif decide (x2 < x1) then
   bif decide (0 ≤ x2) && decide (x2 < (List.length x0 : Int)) then
    Option.bind (c72 (List.getD x0 (Int.toNat x2) ([] : List Int))) fun r1 =>
     bif decide ((List.length x13 + List.length ([r1] : List (List Int))) * 24 ≤ 140737488355328) then
      L0 (x0, x1, IntKind.wrap IntKind.i64 (x2 + (1 : Int)), x3, x4, x5, x6, x7, x8, x9, x10, x11, x12, x13 ++ ([r1] : List (List Int)))
     else
      none
   else
    none
  else
   B2 (x4, (List.length x4 : Int), (0 : Int), x3, x4, x5, x6, x7, x8, x9, x10, x11, x12, x13, ([] : List (Int × (List Int))))
noncomputable def impl_copyDisk.ll0 : ((List (List Int)) × Int × Int × (List (List Int)) × (List (Int × (List Int))) × Int × (List (Int × Int × Int)) × Bool × (List (List Int)) × (List (Int × (List Int))) × Int × (List (Int × Int × Int)) × Bool × (List (List Int))) → LS
  | (x0, x1, x2, x3, x4, x5, x6, x7, x8, x9, x10, x11, x12, x13) => ⟨[.addr 65 0 [] 0, .addr 129 0 [] 0, .ref 12 0 [] none 0, .cv ⟨.row K2, x0⟩, .cv ⟨.int .i64, x1⟩, .cv ⟨.int .i64, x2⟩], [⟨false, [⟨0, 0, .mk 0 ⟨.row K2, x3⟩⟩, ⟨0, 0, .mk 0 ⟨.row K3, x4⟩⟩, ⟨0, 0, .mk 0 ⟨.int .i64, x5⟩⟩, ⟨0, 0, .mk 0 ⟨.row K0, x6⟩⟩, ⟨0, 0, .mk 0 ⟨.bool, x7⟩⟩]⟩, ⟨false, [⟨0, 0, .mk 9 ⟨.row K2, x8⟩⟩, ⟨0, 0, .mk 9 ⟨.row K3, x9⟩⟩, ⟨0, 0, .mk 0 ⟨.int .i64, x10⟩⟩, ⟨0, 0, .mk 9 ⟨.row K0, x11⟩⟩, ⟨0, 0, .mk 0 ⟨.bool, x12⟩⟩]⟩, ⟨true, [⟨0, 0, .mk 9 ⟨.row K2, x13⟩⟩]⟩]⟩
noncomputable def impl_copyDisk.s2 (c72 : (List Int) → Option (List Int)) (L2 : ((List (Int × (List Int))) × Int × Int × (List (List Int)) × (List (Int × (List Int))) × Int × (List (Int × Int × Int)) × Bool × (List (List Int)) × (List (Int × (List Int))) × Int × (List (Int × Int × Int)) × Bool × (List (List Int)) × (List (Int × (List Int)))) → Option ((List (List Int)) × (List (Int × (List Int))) × Int × (List (Int × Int × Int)) × Bool)) : ((List (Int × (List Int))) × Int × Int × (List (List Int)) × (List (Int × (List Int))) × Int × (List (Int × Int × Int)) × Bool × (List (List Int)) × (List (Int × (List Int))) × Int × (List (Int × Int × Int)) × Bool × (List (List Int)) × (List (Int × (List Int)))) → Option ((List (List Int)) × (List (Int × (List Int))) × Int × (List (Int × Int × Int)) × Bool)
  | (x0, x1, x2, x3, x4, x5, x6, x7, x8, x9, x10, x11, x12, x13, x14) =>
  bif decide (x2 < x1) then
   bif decide (0 ≤ x2) && decide (x2 < (List.length x0 : Int)) then
    Option.bind (c72 ((List.getD x0 (Int.toNat x2) ((0 : Int), ([] : List Int))).2)) fun r2 =>
     bif decide ((List.length x14 + List.length ([((List.getD x0 (Int.toNat x2) ((0 : Int), ([] : List Int))).1, r2)] : List (Int × (List Int)))) * 32 ≤ 140737488355328) then
      L2 (x0, x1, IntKind.wrap IntKind.i64 (x2 + (1 : Int)), x3, x4, x5, x6, x7, x8, x9, x10, x11, x12, x13, x14 ++ ([((List.getD x0 (Int.toNat x2) ((0 : Int), ([] : List Int))).1, r2)] : List (Int × (List Int))))
     else
      none
   else
    none
  else
   bif decide ((List.length ([] : List (Int × Int × Int)) + List.length x6) * 24 ≤ 140737488355328) then
    some (x13, x14, x5, ([] : List (Int × Int × Int)) ++ x6, x7)
   else
    none
noncomputable def impl_copyDisk.ll2 : ((List (Int × (List Int))) × Int × Int × (List (List Int)) × (List (Int × (List Int))) × Int × (List (Int × Int × Int)) × Bool × (List (List Int)) × (List (Int × (List Int))) × Int × (List (Int × Int × Int)) × Bool × (List (List Int)) × (List (Int × (List Int)))) → LS
  | (x0, x1, x2, x3, x4, x5, x6, x7, x8, x9, x10, x11, x12, x13, x14) => ⟨[.addr 65 0 [] 0, .addr 129 0 [] 0, .ref 12 0 [] none 0, .ref 24 0 [] none 0, .cv ⟨.row K3, x0⟩, .cv ⟨.int .i64, x1⟩, .cv ⟨.int .i64, x2⟩], [⟨false, [⟨0, 0, .mk 0 ⟨.row K2, x3⟩⟩, ⟨0, 0, .mk 0 ⟨.row K3, x4⟩⟩, ⟨0, 0, .mk 0 ⟨.int .i64, x5⟩⟩, ⟨0, 0, .mk 0 ⟨.row K0, x6⟩⟩, ⟨0, 0, .mk 0 ⟨.bool, x7⟩⟩]⟩, ⟨false, [⟨0, 0, .mk 9 ⟨.row K2, x8⟩⟩, ⟨0, 0, .mk 9 ⟨.row K3, x9⟩⟩, ⟨0, 0, .mk 0 ⟨.int .i64, x10⟩⟩, ⟨0, 0, .mk 9 ⟨.row K0, x11⟩⟩, ⟨0, 0, .mk 0 ⟨.bool, x12⟩⟩]⟩, ⟨true, [⟨0, 0, .mk 9 ⟨.row K2, x13⟩⟩]⟩, ⟨true, [⟨0, 0, .mk 9 ⟨.row K3, x14⟩⟩]⟩]⟩
noncomputable def impl_copyDisk.m (B0 : ((List (List Int)) × Int × Int × (List (List Int)) × (List (Int × (List Int))) × Int × (List (Int × Int × Int)) × Bool × (List (List Int)) × (List (Int × (List Int))) × Int × (List (Int × Int × Int)) × Bool × (List (List Int))) → Option ((List (List Int)) × (List (Int × (List Int))) × Int × (List (Int × Int × Int)) × Bool)) : ((List (List Int)) × (List (Int × (List Int))) × Int × (List (Int × Int × Int)) × Bool) → Option ((List (List Int)) × (List (Int × (List Int))) × Int × (List (Int × Int × Int)) × Bool)
  | (a0_0, a0_1, a0_2, a0_3, a0_4) =>
  B0 (a0_0, (List.length a0_0 : Int), (0 : Int), a0_0, a0_1, a0_2, a0_3, a0_4, ([] : List (List Int)), ([] : List (Int × (List Int))), (0 : Int), ([] : List (Int × Int × Int)), false, ([] : List (List Int)))
noncomputable def impl_copyDisk.sig : Sig := ⟨[.val true [⟨.row K2, 0, 0, false⟩, ⟨.row K3, 0, 0, false⟩, ⟨.int .i64, 0, 0, false⟩, ⟨.row K0, 0, 0, false⟩, ⟨.bool, 0, 0, false⟩]], [(.agg, [(.row K2, 2), (.row K3, 2), (.int .i64, 0), (.row K0, 1), (.bool, 0)])]⟩
noncomputable def impl_copyDisk.hint : Nat → Hint
  | 0 => ⟨[(1, .keep), (2, .keep), (3, .own 9 K2), (10, .keep), (11, .keep), (12, .keep)], [(65, [0, 0, 0, 0, 0]), (129, [9, 9, 0, 9, 0])]⟩
  | 2 => ⟨[(1, .keep), (2, .keep), (3, .own 9 K2), (6, .own 9 K3), (23, .keep), (24, .keep), (25, .keep)], [(65, [0, 0, 0, 0, 0]), (129, [9, 9, 0, 9, 0])]⟩
  | _ => ⟨[], []⟩
noncomputable def impl_copyDisk.join : Nat → Option Hint
  | _ => none
noncomputable def impl_copyDisk.body : Code := (Try.f78).body.getD .skip
noncomputable def impl_copyDisk.rv : List ResultVar := (Try.f78).results.toList
noncomputable def spec_l12Copy.s0 (B2 : (Int × (List (List Int)) × (List (Int × (List Int))) × Int × (List (Int × Int × Int)) × Bool × (List (List Int)) × (List (Int × (List Int))) × Int × (List (Int × Int × Int)) × Bool × (List (List Int)) × (List (Int × (List Int))) × Int × (List (Int × Int × Int)) × Bool) → Option ((List (List Int)) × (List (Int × (List Int))) × Int × (List (Int × Int × Int)) × Bool)) (L0 : (Int × (List (List Int)) × (List (Int × (List Int))) × Int × (List (Int × Int × Int)) × Bool × (List (List Int)) × (List (Int × (List Int))) × Int × (List (Int × Int × Int)) × Bool × (List (List Int)) × (List (Int × (List Int))) × Int × (List (Int × Int × Int)) × Bool) → Option ((List (List Int)) × (List (Int × (List Int))) × Int × (List (Int × Int × Int)) × Bool)) : (Int × (List (List Int)) × (List (Int × (List Int))) × Int × (List (Int × Int × Int)) × Bool × (List (List Int)) × (List (Int × (List Int))) × Int × (List (Int × Int × Int)) × Bool × (List (List Int)) × (List (Int × (List Int))) × Int × (List (Int × Int × Int)) × Bool) → Option ((List (List Int)) × (List (Int × (List Int))) × Int × (List (Int × Int × Int)) × Bool)
  | (x0, x1, x2, x3, x4, x5, x6, x7, x8, x9, x10, x11, x12, x13, x14, x15) =>
  bif decide (x0 < (List.length x1 : Int)) then
   bif decide (0 ≤ x0) && decide (x0 < (List.length x1 : Int)) then
    bif decide ((List.length ([] : List Int) + List.length (List.getD x1 (Int.toNat x0) ([] : List Int))) * 1 ≤ 140737488355328) then
     bif decide ((List.length x11 + List.length ([([] : List Int) ++ (List.getD x1 (Int.toNat x0) ([] : List Int))] : List (List Int))) * 24 ≤ 140737488355328) then
      L0 (IntKind.wrap IntKind.i64 (x0 + (1 : Int)), x1, x2, x3, x4, x5, x6, x7, x8, x9, x10, x11 ++ ([([] : List Int) ++ (List.getD x1 (Int.toNat x0) ([] : List Int))] : List (List Int)), x12, x13, x14, x15)
     else
      none
    else
     none
   else
    none
  else
   B2 ((0 : Int), x1, x2, x3, x4, x5, x6, x7, x8, x9, x10, x11, x12, x13, x14, x15)
noncomputable def spec_l12Copy.ll0 : (Int × (List (List Int)) × (List (Int × (List Int))) × Int × (List (Int × Int × Int)) × Bool × (List (List Int)) × (List (Int × (List Int))) × Int × (List (Int × Int × Int)) × Bool × (List (List Int)) × (List (Int × (List Int))) × Int × (List (Int × Int × Int)) × Bool) → LS
  | (x0, x1, x2, x3, x4, x5, x6, x7, x8, x9, x10, x11, x12, x13, x14, x15) => ⟨[.addr 65 0 [] 0, .addr 129 0 [] 0, .addr 193 0 [] 0, .cv ⟨.int .i64, x0⟩], [⟨false, [⟨0, 0, .mk 0 ⟨.row K2, x1⟩⟩, ⟨0, 0, .mk 0 ⟨.row K3, x2⟩⟩, ⟨0, 0, .mk 0 ⟨.int .i64, x3⟩⟩, ⟨0, 0, .mk 0 ⟨.row K0, x4⟩⟩, ⟨0, 0, .mk 0 ⟨.bool, x5⟩⟩]⟩, ⟨false, [⟨0, 0, .mk 9 ⟨.row K2, x6⟩⟩, ⟨0, 0, .mk 9 ⟨.row K3, x7⟩⟩, ⟨0, 0, .mk 0 ⟨.int .i64, x8⟩⟩, ⟨0, 0, .mk 9 ⟨.row K0, x9⟩⟩, ⟨0, 0, .mk 0 ⟨.bool, x10⟩⟩]⟩, ⟨false, [⟨0, 0, .mk 9 ⟨.row K2, x11⟩⟩, ⟨0, 0, .mk 9 ⟨.row K3, x12⟩⟩, ⟨0, 0, .mk 0 ⟨.int .i64, x13⟩⟩, ⟨0, 0, .mk 9 ⟨.row K0, x14⟩⟩, ⟨0, 0, .mk 0 ⟨.bool, x15⟩⟩]⟩]⟩
noncomputable def spec_l12Copy.s2 (L2 : (Int × (List (List Int)) × (List (Int × (List Int))) × Int × (List (Int × Int × Int)) × Bool × (List (List Int)) × (List (Int × (List Int))) × Int × (List (Int × Int × Int)) × Bool × (List (List Int)) × (List (Int × (List Int))) × Int × (List (Int × Int × Int)) × Bool) → Option ((List (List Int)) × (List (Int × (List Int))) × Int × (List (Int × Int × Int)) × Bool)) : (Int × (List (List Int)) × (List (Int × (List Int))) × Int × (List (Int × Int × Int)) × Bool × (List (List Int)) × (List (Int × (List Int))) × Int × (List (Int × Int × Int)) × Bool × (List (List Int)) × (List (Int × (List Int))) × Int × (List (Int × Int × Int)) × Bool) → Option ((List (List Int)) × (List (Int × (List Int))) × Int × (List (Int × Int × Int)) × Bool)
  | (x0, x1, x2, x3, x4, x5, x6, x7, x8, x9, x10, x11, x12, x13, x14, x15) =>
  bif decide (x0 < (List.length x2 : Int)) then
   bif decide (0 ≤ x0) && decide (x0 < (List.length x2 : Int)) then
    bif decide (0 ≤ x0) && decide (x0 < (List.length x2 : Int)) then
     bif decide ((List.length ([] : List Int) + List.length ((List.getD x2 (Int.toNat x0) ((0 : Int), ([] : List Int))).2)) * 1 ≤ 140737488355328) then
      bif decide ((List.length x12 + List.length ([((List.getD x2 (Int.toNat x0) ((0 : Int), ([] : List Int))).1, ([] : List Int) ++ ((List.getD x2 (Int.toNat x0) ((0 : Int), ([] : List Int))).2))] : List (Int × (List Int)))) * 32 ≤ 140737488355328) then
       L2 (IntKind.wrap IntKind.i64 (x0 + (1 : Int)), x1, x2, x3, x4, x5, x6, x7, x8, x9, x10, x11, x12 ++ ([((List.getD x2 (Int.toNat x0) ((0 : Int), ([] : List Int))).1, ([] : List Int) ++ ((List.getD x2 (Int.toNat x0) ((0 : Int), ([] : List Int))).2))] : List (Int × (List Int))), x13, x14, x15)
      else
       none
     else
      none
    else
     none
   else
    none
  else
   some (x11, x12, x13, x14, x15)
noncomputable def spec_l12Copy.ll2 : (Int × (List (List Int)) × (List (Int × (List Int))) × Int × (List (Int × Int × Int)) × Bool × (List (List Int)) × (List (Int × (List Int))) × Int × (List (Int × Int × Int)) × Bool × (List (List Int)) × (List (Int × (List Int))) × Int × (List (Int × Int × Int)) × Bool) → LS
  | (x0, x1, x2, x3, x4, x5, x6, x7, x8, x9, x10, x11, x12, x13, x14, x15) => ⟨[.addr 65 0 [] 0, .addr 129 0 [] 0, .addr 193 0 [] 0, .cv ⟨.int .i64, x0⟩], [⟨false, [⟨0, 0, .mk 0 ⟨.row K2, x1⟩⟩, ⟨0, 0, .mk 0 ⟨.row K3, x2⟩⟩, ⟨0, 0, .mk 0 ⟨.int .i64, x3⟩⟩, ⟨0, 0, .mk 0 ⟨.row K0, x4⟩⟩, ⟨0, 0, .mk 0 ⟨.bool, x5⟩⟩]⟩, ⟨false, [⟨0, 0, .mk 9 ⟨.row K2, x6⟩⟩, ⟨0, 0, .mk 9 ⟨.row K3, x7⟩⟩, ⟨0, 0, .mk 0 ⟨.int .i64, x8⟩⟩, ⟨0, 0, .mk 9 ⟨.row K0, x9⟩⟩, ⟨0, 0, .mk 0 ⟨.bool, x10⟩⟩]⟩, ⟨false, [⟨0, 0, .mk 9 ⟨.row K2, x11⟩⟩, ⟨0, 0, .mk 9 ⟨.row K3, x12⟩⟩, ⟨0, 0, .mk 0 ⟨.int .i64, x13⟩⟩, ⟨0, 0, .mk 9 ⟨.row K0, x14⟩⟩, ⟨0, 0, .mk 0 ⟨.bool, x15⟩⟩]⟩]⟩
noncomputable def spec_l12Copy.m (B0 : (Int × (List (List Int)) × (List (Int × (List Int))) × Int × (List (Int × Int × Int)) × Bool × (List (List Int)) × (List (Int × (List Int))) × Int × (List (Int × Int × Int)) × Bool × (List (List Int)) × (List (Int × (List Int))) × Int × (List (Int × Int × Int)) × Bool) → Option ((List (List Int)) × (List (Int × (List Int))) × Int × (List (Int × Int × Int)) × Bool)) : ((List (List Int)) × (List (Int × (List Int))) × Int × (List (Int × Int × Int)) × Bool) → Option ((List (List Int)) × (List (Int × (List Int))) × Int × (List (Int × Int × Int)) × Bool)
  | (a0_0, a0_1, a0_2, a0_3, a0_4) =>
  bif decide ((List.length ([] : List (Int × Int × Int)) + List.length a0_3) * 24 ≤ 140737488355328) then
   B0 ((0 : Int), a0_0, a0_1, a0_2, a0_3, a0_4, ([] : List (List Int)), ([] : List (Int × (List Int))), (0 : Int), ([] : List (Int × Int × Int)), false, ([] : List (List Int)), ([] : List (Int × (List Int))), a0_2, ([] : List (Int × Int × Int)) ++ a0_3, a0_4)
  else
   none
noncomputable def spec_l12Copy.sig : Sig := ⟨[.val true [⟨.row K2, 0, 0, false⟩, ⟨.row K3, 0, 0, false⟩, ⟨.int .i64, 0, 0, false⟩, ⟨.row K0, 0, 0, false⟩, ⟨.bool, 0, 0, false⟩]], [(.agg, [(.row K2, 2), (.row K3, 2), (.int .i64, 0), (.row K0, 1), (.bool, 0)])]⟩
noncomputable def spec_l12Copy.hint : Nat → Hint
  | 0 => ⟨[(1, .keep), (2, .keep), (3, .keep), (4, .keep)], [(65, [0, 0, 0, 0, 0]), (129, [9, 9, 0, 9, 0]), (193, [9, 9, 0, 9, 0])]⟩
  | 2 => ⟨[(1, .keep), (2, .keep), (3, .keep), (5, .keep)], [(65, [0, 0, 0, 0, 0]), (129, [9, 9, 0, 9, 0]), (193, [9, 9, 0, 9, 0])]⟩
  | _ => ⟨[], []⟩
noncomputable def spec_l12Copy.join : Nat → Option Hint
  | _ => none
noncomputable def spec_l12Copy.body : Code := (Try.f80).body.getD .skip
noncomputable def spec_l12Copy.rv : List ResultVar := (Try.f80).results.toList
noncomputable def impl_Disk_fault.s0 (L0 : (Int × Int × (List (List Int)) × (List (Int × (List Int))) × Int × (List (Int × Int × Int)) × Bool × Int × Int × Int) → Option (Int × Int × Int × Bool × (List (List Int)) × (List (Int × (List Int))) × Int × (List (Int × Int × Int)) × Bool)) : (Int × Int × (List (List Int)) × (List (Int × (List Int))) × Int × (List (Int × Int × Int)) × Bool × Int × Int × Int) → Option (Int × Int × Int × Bool × (List (List Int)) × (List (Int × (List Int))) × Int × (List (Int × Int × Int)) × Bool)
  | (x0, x1, x2, x3, x4, x5, x6, x7, x8, x9) =>
  bif decide (x1 < x0) then
   bif decide (0 ≤ x1) && decide (x1 < (List.length x5 : Int)) then
    bif ((List.getD x5 (Int.toNat x1) ((0 : Int), (0 : Int), (0 : Int))).1) == x4 then
     some ((List.getD x5 (Int.toNat x1) ((0 : Int), (0 : Int), (0 : Int))).1, (List.getD x5 (Int.toNat x1) ((0 : Int), (0 : Int), (0 : Int))).2.1, (List.getD x5 (Int.toNat x1) ((0 : Int), (0 : Int), (0 : Int))).2.2, true, x2, x3, x4, x5, x6)
    else
     L0 (x0, IntKind.wrap IntKind.i64 (x1 + (1 : Int)), x2, x3, x4, x5, x6, x7, x8, x9)
   else
    none
  else
   some ((0 : Int), (0 : Int), (0 : Int), false, x2, x3, x4, x5, x6)
noncomputable def impl_Disk_fault.ll0 : (Int × Int × (List (List Int)) × (List (Int × (List Int))) × Int × (List (Int × Int × Int)) × Bool × Int × Int × Int) → LS
  | (x0, x1, x2, x3, x4, x5, x6, x7, x8, x9) => ⟨[.addr 2 0 [] 0, .addr 129 0 [] 0, .ref 2 3 [] none 0, .cv ⟨.int .i64, x0⟩, .cv ⟨.int .i64, x1⟩], [⟨false, [⟨0, 0, .mk 2 ⟨.row K2, x2⟩⟩, ⟨0, 0, .mk 2 ⟨.row K3, x3⟩⟩, ⟨0, 0, .mk 0 ⟨.int .i64, x4⟩⟩, ⟨0, 0, .mk 1 ⟨.row K0, x5⟩⟩, ⟨0, 0, .mk 0 ⟨.bool, x6⟩⟩]⟩, ⟨false, [⟨0, 0, .mk 0 ⟨.int .i64, x7⟩⟩, ⟨0, 0, .mk 0 ⟨.int .i64, x8⟩⟩, ⟨0, 0, .mk 0 ⟨.int .i64, x9⟩⟩]⟩]⟩
noncomputable def impl_Disk_fault.m (B0 : (Int × Int × (List (List Int)) × (List (Int × (List Int))) × Int × (List (Int × Int × Int)) × Bool × Int × Int × Int) → Option (Int × Int × Int × Bool × (List (List Int)) × (List (Int × (List Int))) × Int × (List (Int × Int × Int)) × Bool)) : ((List (List Int)) × (List (Int × (List Int))) × Int × (List (Int × Int × Int)) × Bool) → Option (Int × Int × Int × Bool × (List (List Int)) × (List (Int × (List Int))) × Int × (List (Int × Int × Int)) × Bool)
  | (a0_0, a0_1, a0_2, a0_3, a0_4) =>
  B0 ((List.length a0_3 : Int), (0 : Int), a0_0, a0_1, a0_2, a0_3, a0_4, (0 : Int), (0 : Int), (0 : Int))
noncomputable def impl_Disk_fault.sig : Sig := ⟨[.ptr [⟨.row K2, 2, 2, true⟩, ⟨.row K3, 2, 2, true⟩, ⟨.int .i64, 0, 0, true⟩, ⟨.row K0, 1, 1, true⟩, ⟨.bool, 0, 0, true⟩]], [(.agg, [(.int .i64, 0), (.int .i64, 0), (.int .i64, 0)]), (.one, [(.bool, 0)])]⟩
noncomputable def impl_Disk_fault.hint : Nat → Hint
  | 0 => ⟨[(0, .keep), (2, .keep), (9, .keep), (10, .keep), (11, .keep)], [(2, [2, 2, 0, 1, 0]), (129, [0, 0, 0])]⟩
  | _ => ⟨[], []⟩
noncomputable def impl_Disk_fault.join : Nat → Option Hint
  | _ => none
noncomputable def impl_Disk_fault.body : Code := (Try.f81).body.getD .skip
noncomputable def impl_Disk_fault.rv : List ResultVar := (Try.f81).results.toList
noncomputable def impl_Disk_settle.s0 (c72 : (List Int) → Option (List Int)) (L0 : (Int × Int × (List (List Int)) × (List (Int × (List Int))) × Int × (List (Int × Int × Int)) × Bool) → Option ((List (List Int)) × (List (Int × (List Int))) × Int × (List (Int × Int × Int)) × Bool)) : (Int × Int × (List (List Int)) × (List (Int × (List Int))) × Int × (List (Int × Int × Int)) × Bool) → Option ((List (List Int)) × (List (Int × (List Int))) × Int × (List (Int × Int × Int)) × Bool)
  | (x0, x1, x2, x3, x4, x5, x6) =>
  bif decide (x1 < x0) then
   bif decide (0 ≤ x1) && decide (x1 < (List.length x3 : Int)) then
    Option.bind (c72 ((List.getD x3 (Int.toNat x1) ((0 : Int), ([] : List Int))).2)) fun r1 =>
     bif decide (0 ≤ ((List.getD x3 (Int.toNat x1) ((0 : Int), ([] : List Int))).1)) && decide (((List.getD x3 (Int.toNat x1) ((0 : Int), ([] : List Int))).1) < (List.length x2 : Int)) then
      L0 (x0, IntKind.wrap IntKind.i64 (x1 + (1 : Int)), List.set x2 (Int.toNat ((List.getD x3 (Int.toNat x1) ((0 : Int), ([] : List Int))).1)) r1, x3, x4, x5, x6)
     else
      none
   else
    none
  else
   some (x2, ([] : List (Int × (List Int))), x4, x5, x6)
noncomputable def impl_Disk_settle.ll0 : (Int × Int × (List (List Int)) × (List (Int × (List Int))) × Int × (List (Int × Int × Int)) × Bool) → LS
  | (x0, x1, x2, x3, x4, x5, x6) => ⟨[.addr 2 0 [] 0, .ref 2 1 [] none 0, .cv ⟨.int .i64, x0⟩, .cv ⟨.int .i64, x1⟩], [⟨false, [⟨0, 0, .mk 2 ⟨.row K2, x2⟩⟩, ⟨0, 0, .mk 1 ⟨.row K3, x3⟩⟩, ⟨0, 0, .mk 0 ⟨.int .i64, x4⟩⟩, ⟨0, 0, .mk 1 ⟨.row K0, x5⟩⟩, ⟨0, 0, .mk 0 ⟨.bool, x6⟩⟩]⟩]⟩
noncomputable def impl_Disk_settle.m (B0 : (Int × Int × (List (List Int)) × (List (Int × (List Int))) × Int × (List (Int × Int × Int)) × Bool) → Option ((List (List Int)) × (List (Int × (List Int))) × Int × (List (Int × Int × Int)) × Bool)) : ((List (List Int)) × (List (Int × (List Int))) × Int × (List (Int × Int × Int)) × Bool) → Option ((List (List Int)) × (List (Int × (List Int))) × Int × (List (Int × Int × Int)) × Bool)
  | (a0_0, a0_1, a0_2, a0_3, a0_4) =>
  B0 ((List.length a0_1 : Int), (0 : Int), a0_0, a0_1, a0_2, a0_3, a0_4)
noncomputable def impl_Disk_settle.sig : Sig := ⟨[.ptr [⟨.row K2, 2, 2, true⟩, ⟨.row K3, 1, 2, true⟩, ⟨.int .i64, 0, 0, true⟩, ⟨.row K0, 1, 1, true⟩, ⟨.bool, 0, 0, true⟩]], []⟩
noncomputable def impl_Disk_settle.hint : Nat → Hint
  | 0 => ⟨[(0, .keep), (7, .keep), (8, .keep), (9, .keep)], [(2, [2, 1, 0, 1, 0])]⟩
  | _ => ⟨[], []⟩
noncomputable def impl_Disk_settle.join : Nat → Option Hint
  | _ => none
noncomputable def impl_Disk_settle.body : Code := (Try.f83).body.getD .skip
noncomputable def impl_Disk_settle.rv : List ResultVar := (Try.f83).results.toList
noncomputable def impl_Disk_lose.s0 (c83 : (List (List Int)) × (List (Int × (List Int))) × Int × (List (Int × Int × Int)) × Bool → Option ((List (List Int)) × (List (Int × (List Int))) × Int × (List (Int × Int × Int)) × Bool)) (L0 : (Int × Int × (List (List Int)) × (List (Int × (List Int))) × Int × (List (Int × Int × Int)) × Bool × Int × Int × Int × (List (Int × (List Int)))) → Option ((List (List Int)) × (List (Int × (List Int))) × Int × (List (Int × Int × Int)) × Bool)) : (Int × Int × (List (List Int)) × (List (Int × (List Int))) × Int × (List (Int × Int × Int)) × Bool × Int × Int × Int × (List (Int × (List Int)))) → Option ((List (List Int)) × (List (Int × (List Int))) × Int × (List (Int × Int × Int)) × Bool)
  | (x0, x1, x2, x3, x4, x5, x6, x7, x8, x9, x10) =>
  bif decide (x1 < x0) then
   bif decide (0 ≤ x1) && decide (x1 < (List.length x3 : Int)) then
    bif decide (x1 < (20 : Int)) then
     bif decide (¬ x1 < 0) then
      bif (IntKind.wrap IntKind.i64 ((BitVec.ofInt (IntKind.bits IntKind.i64) (Int.fdiv x8 (2 ^ (min (Int.toNat x1) (IntKind.bits IntKind.i64)))) &&& BitVec.ofInt (IntKind.bits IntKind.i64) (1 : Int)).toNat : Int)) == (1 : Int) then
       bif decide ((List.length x10 + List.length ([((List.getD x3 (Int.toNat x1) ((0 : Int), ([] : List Int))).1, (List.getD x3 (Int.toNat x1) ((0 : Int), ([] : List Int))).2)] : List (Int × (List Int)))) * 32 ≤ 140737488355328) then
        L0 (x0, IntKind.wrap IntKind.i64 (x1 + (1 : Int)), x2, x3, x4, x5, x6, x7, x8, x9, x10 ++ ([((List.getD x3 (Int.toNat x1) ((0 : Int), ([] : List Int))).1, (List.getD x3 (Int.toNat x1) ((0 : Int), ([] : List Int))).2)] : List (Int × (List Int))))
       else
        none
      else
       L0 (x0, IntKind.wrap IntKind.i64 (x1 + (1 : Int)), x2, x3, x4, x5, x6, x7, x8, x9, x10)
     else
      none
    else
     L0 (x0, IntKind.wrap IntKind.i64 (x1 + (1 : Int)), x2, x3, x4, x5, x6, x7, x8, x9, x10)
   else
    none
  else
   bif decide ((List.length x10 : Int) > (0 : Int)) then
    bif decide (0 ≤ (IntKind.wrap IntKind.i64 ((List.length x10 : Int) - (1 : Int)))) && decide ((IntKind.wrap IntKind.i64 ((List.length x10 : Int) - (1 : Int))) < (List.length x10 : Int)) then
     bif decide (0 ≤ (0 : Int)) && decide ((0 : Int) ≤ (bif decide ((List.length ((List.getD x10 (Int.toNat (IntKind.wrap IntKind.i64 ((List.length x10 : Int) - (1 : Int)))) ((0 : Int), ([] : List Int))).2) : Int) < x9) then (List.length ((List.getD x10 (Int.toNat (IntKind.wrap IntKind.i64 ((List.length x10 : Int) - (1 : Int)))) ((0 : Int), ([] : List Int))).2) : Int) else x9)) && decide ((bif decide ((List.length ((List.getD x10 (Int.toNat (IntKind.wrap IntKind.i64 ((List.length x10 : Int) - (1 : Int)))) ((0 : Int), ([] : List Int))).2) : Int) < x9) then (List.length ((List.getD x10 (Int.toNat (IntKind.wrap IntKind.i64 ((List.length x10 : Int) - (1 : Int)))) ((0 : Int), ([] : List Int))).2) : Int) else x9) ≤ (List.length ((List.getD x10 (Int.toNat (IntKind.wrap IntKind.i64 ((List.length x10 : Int) - (1 : Int)))) ((0 : Int), ([] : List Int))).2) : Int)) then
      bif decide (0 ≤ (IntKind.wrap IntKind.i64 ((List.length x10 : Int) - (1 : Int)))) && decide ((IntKind.wrap IntKind.i64 ((List.length x10 : Int) - (1 : Int))) < (List.length x10 : Int)) then
       Option.bind (c83 (x2, List.set x10 (Int.toNat (IntKind.wrap IntKind.i64 ((List.length x10 : Int) - (1 : Int)))) ((List.getD x10 (Int.toNat (IntKind.wrap IntKind.i64 ((List.length x10 : Int) - (1 : Int)))) ((0 : Int), ([] : List Int))).1, List.drop (Int.toNat (0 : Int)) (List.take (Int.toNat (bif decide ((List.length ((List.getD x10 (Int.toNat (IntKind.wrap IntKind.i64 ((List.length x10 : Int) - (1 : Int)))) ((0 : Int), ([] : List Int))).2) : Int) < x9) then (List.length ((List.getD x10 (Int.toNat (IntKind.wrap IntKind.i64 ((List.length x10 : Int) - (1 : Int)))) ((0 : Int), ([] : List Int))).2) : Int) else x9)) ((List.getD x10 (Int.toNat (IntKind.wrap IntKind.i64 ((List.length x10 : Int) - (1 : Int)))) ((0 : Int), ([] : List Int))).2))), x4, x5, x6)) fun r1 =>
        some (r1.1, r1.2.1, r1.2.2.1, r1.2.2.2.1, true)
      else
       none
     else
      none
    else
     none
   else
    Option.bind (c83 (x2, x10, x4, x5, x6)) fun r2 =>
     some (r2.1, r2.2.1, r2.2.2.1, r2.2.2.2.1, true)
noncomputable def impl_Disk_lose.ll0 : (Int × Int × (List (List Int)) × (List (Int × (List Int))) × Int × (List (Int × Int × Int)) × Bool × Int × Int × Int × (List (Int × (List Int)))) → LS
  | (x0, x1, x2, x3, x4, x5, x6, x7, x8, x9, x10) => ⟨[.addr 2 0 [] 0, .addr 193 0 [] 0, .ref 16 0 [] none 0, .ref 2 1 [] none 0, .cv ⟨.int .i64, x0⟩, .cv ⟨.int .i64, x1⟩], [⟨false, [⟨0, 0, .mk 2 ⟨.row K2, x2⟩⟩, ⟨0, 0, .mk 1 ⟨.row K3, x3⟩⟩, ⟨0, 0, .mk 0 ⟨.int .i64, x4⟩⟩, ⟨0, 0, .mk 1 ⟨.row K0, x5⟩⟩, ⟨0, 0, .mk 0 ⟨.bool, x6⟩⟩]⟩, ⟨false, [⟨0, 0, .mk 0 ⟨.int .i64, x7⟩⟩, ⟨0, 0, .mk 0 ⟨.int .i64, x8⟩⟩, ⟨0, 0, .mk 0 ⟨.int .i64, x9⟩⟩]⟩, ⟨true, [⟨0, 0, .mk 1 ⟨.row K3, x10⟩⟩]⟩]⟩
noncomputable def impl_Disk_lose.m (B0 : (Int × Int × (List (List Int)) × (List (Int × (List Int))) × Int × (List (Int × Int × Int)) × Bool × Int × Int × Int × (List (Int × (List Int)))) → Option ((List (List Int)) × (List (Int × (List Int))) × Int × (List (Int × Int × Int)) × Bool)) : ((List (List Int)) × (List (Int × (List Int))) × Int × (List (Int × Int × Int)) × Bool × Int × Int × Int) → Option ((List (List Int)) × (List (Int × (List Int))) × Int × (List (Int × Int × Int)) × Bool)
  | (a0_0, a0_1, a0_2, a0_3, a0_4, a1_0, a1_1, a1_2) =>
  B0 ((List.length a0_1 : Int), (0 : Int), a0_0, a0_1, a0_2, a0_3, a0_4, a1_0, a1_1, a1_2, ([] : List (Int × (List Int))))
noncomputable def impl_Disk_lose.sig : Sig := ⟨[.ptr [⟨.row K2, 2, 2, true⟩, ⟨.row K3, 2, 2, true⟩, ⟨.int .i64, 0, 0, true⟩, ⟨.row K0, 1, 1, true⟩, ⟨.bool, 0, 0, true⟩], .val true [⟨.int .i64, 0, 0, false⟩, ⟨.int .i64, 0, 0, false⟩, ⟨.int .i64, 0, 0, false⟩]], []⟩
noncomputable def impl_Disk_lose.hint : Nat → Hint
  | 0 => ⟨[(0, .keep), (3, .keep), (4, .own 1 K3), (12, .keep), (13, .keep), (14, .keep)], [(2, [2, 1, 0, 1, 0]), (193, [0, 0, 0])]⟩
  | _ => ⟨[], []⟩
noncomputable def impl_Disk_lose.join : Nat → Option Hint
  | _ => none
noncomputable def impl_Disk_lose.body : Code := (Try.f82).body.getD .skip
noncomputable def impl_Disk_lose.rv : List ResultVar := (Try.f82).results.toList
noncomputable def impl_WriteSec.m (c17 : (List (List Int)) × (List (Int × (List Int))) × Int × (List (Int × Int × Int)) × Bool → Option (Bool)) (c62 : Int × Int × Int → Option (Bool)) (c72 : (List Int) → Option (List Int)) (c78 : (List (List Int)) × (List (Int × (List Int))) × Int × (List (Int × Int × Int)) × Bool → Option ((List (List Int)) × (List (Int × (List Int))) × Int × (List (Int × Int × Int)) × Bool)) (c81 : (List (List Int)) × (List (Int × (List Int))) × Int × (List (Int × Int × Int)) × Bool → Option (Int × Int × Int × Bool × (List (List Int)) × (List (Int × (List Int))) × Int × (List (Int × Int × Int)) × Bool)) (c82 : (List (List Int)) × (List (Int × (List Int))) × Int × (List (Int × Int × Int)) × Bool × Int × Int × Int → Option ((List (List Int)) × (List (Int × (List Int))) × Int × (List (Int × Int × Int)) × Bool)) : ((List (List Int)) × (List (Int × (List Int))) × Int × (List (Int × Int × Int)) × Bool × Int × (List Int)) → Option ((List (List Int)) × (List (Int × (List Int))) × Int × (List (Int × Int × Int)) × Bool × Int)
  | (a0_0, a0_1, a0_2, a0_3, a0_4, a1_0, a2_0) =>
  Option.bind (c78 (a0_0, a0_1, a0_2, a0_3, a0_4)) fun r1 =>
   Option.bind (c17 (a0_0, a0_1, a0_2, a0_3, a0_4)) fun r2 =>
    bif !(r2) then
     some (r1.1, r1.2.1, r1.2.2.1, r1.2.2.2.1, r1.2.2.2.2, (1 : Int))
    else
     Option.bind (c62 (a1_0, (0 : Int), IntKind.wrap IntKind.i64 ((List.length a0_0 : Int) - (1 : Int)))) fun r3 =>
      bif !(r3) then
       some (r1.1, r1.2.1, r1.2.2.1, r1.2.2.2.1, r1.2.2.2.2, (1 : Int))
      else
       bif decide ((List.length a2_0 : Int) > (256 : Int)) then
        some (r1.1, r1.2.1, r1.2.2.1, r1.2.2.2.1, r1.2.2.2.2, (1 : Int))
       else
        bif decide ((List.length a0_1 : Int) ≥ (60 : Int)) then
         some (r1.1, r1.2.1, r1.2.2.1, r1.2.2.2.1, r1.2.2.2.2, (1 : Int))
        else
         bif a0_4 then
          some (r1.1, r1.2.1, r1.2.2.1, r1.2.2.2.1, r1.2.2.2.2, (9 : Int))
         else
          bif decide (a0_2 ≥ (100000 : Int)) then
           some (r1.1, r1.2.1, r1.2.2.1, r1.2.2.2.1, r1.2.2.2.2, (9 : Int))
          else
           Option.bind (c81 (r1.1, r1.2.1, r1.2.2.1, r1.2.2.2.1, r1.2.2.2.2)) fun r4 =>
            Option.bind (c72 a2_0) fun r5 =>
             bif decide ((List.length r4.2.2.2.2.2.1 + List.length ([(a1_0, r5)] : List (Int × (List Int)))) * 32 ≤ 140737488355328) then
              bif r4.2.2.2.1 then
               Option.bind (c82 (r4.2.2.2.2.1, r4.2.2.2.2.2.1 ++ ([(a1_0, r5)] : List (Int × (List Int))), IntKind.wrap IntKind.i64 (r4.2.2.2.2.2.2.1 + (1 : Int)), r4.2.2.2.2.2.2.2.1, r4.2.2.2.2.2.2.2.2, r4.1, r4.2.1, r4.2.2.1)) fun r6 =>
                some (r6.1, r6.2.1, r6.2.2.1, r6.2.2.2.1, r6.2.2.2.2, (9 : Int))
              else
               some (r4.2.2.2.2.1, r4.2.2.2.2.2.1 ++ ([(a1_0, r5)] : List (Int × (List Int))), IntKind.wrap IntKind.i64 (r4.2.2.2.2.2.2.1 + (1 : Int)), r4.2.2.2.2.2.2.2.1, r4.2.2.2.2.2.2.2.2, (0 : Int))
             else
              none
noncomputable def impl_WriteSec.sig : Sig := ⟨[.val true [⟨.row K2, 0, 0, false⟩, ⟨.row K3, 0, 0, false⟩, ⟨.int .i64, 0, 0, false⟩, ⟨.row K0, 0, 0, false⟩, ⟨.bool, 0, 0, false⟩], .val false [⟨.int .i64, 0, 0, false⟩], .val false [⟨.row K1, 0, 0, false⟩]], [(.agg, [(.row K2, 2), (.row K3, 2), (.int .i64, 0), (.row K0, 1), (.bool, 0)]), (.one, [(.int .i64, 0)])]⟩
noncomputable def impl_WriteSec.hint : Nat → Hint
  | _ => ⟨[], []⟩
noncomputable def impl_WriteSec.join : Nat → Option Hint
  | _ => none
noncomputable def impl_WriteSec.body : Code := (Try.f46).body.getD .skip
noncomputable def impl_WriteSec.rv : List ResultVar := (Try.f46).results.toList
noncomputable def spec_WriteSec.m (c15 : (List (List Int)) × (List (Int × (List Int))) × Int × (List (Int × Int × Int)) × Bool → Option (Bool)) (c58 : Int × Int × Int → Option (Bool)) (c80 : (List (List Int)) × (List (Int × (List Int))) × Int × (List (Int × Int × Int)) × Bool → Option ((List (List Int)) × (List (Int × (List Int))) × Int × (List (Int × Int × Int)) × Bool)) (c88 : (List (List Int)) × (List (Int × (List Int))) × Int × (List (Int × Int × Int)) × Bool × Int × (List Int) → Option (Int × (List (List Int)) × (List (Int × (List Int))) × Int × (List (Int × Int × Int)) × Bool)) : ((List (List Int)) × (List (Int × (List Int))) × Int × (List (Int × Int × Int)) × Bool × Int × (List Int)) → Option ((List (List Int)) × (List (Int × (List Int))) × Int × (List (Int × Int × Int)) × Bool × Int)
  | (a0_0, a0_1, a0_2, a0_3, a0_4, a1_0, a2_0) =>
  Option.bind (c80 (a0_0, a0_1, a0_2, a0_3, a0_4)) fun r1 =>
   Option.bind (c15 (a0_0, a0_1, a0_2, a0_3, a0_4)) fun r2 =>
    bif !(r2) then
     some (r1.1, r1.2.1, r1.2.2.1, r1.2.2.2.1, r1.2.2.2.2, (1 : Int))
    else
     Option.bind (c58 (a1_0, (0 : Int), IntKind.wrap IntKind.i64 ((List.length a0_0 : Int) - (1 : Int)))) fun r3 =>
      bif !(r3) then
       some (r1.1, r1.2.1, r1.2.2.1, r1.2.2.2.1, r1.2.2.2.2, (1 : Int))
      else
       bif decide ((List.length a2_0 : Int) > (256 : Int)) then
        some (r1.1, r1.2.1, r1.2.2.1, r1.2.2.2.1, r1.2.2.2.2, (1 : Int))
       else
        bif decide ((List.length a0_1 : Int) ≥ (60 : Int)) then
         some (r1.1, r1.2.1, r1.2.2.1, r1.2.2.2.1, r1.2.2.2.2, (1 : Int))
        else
         Option.bind (c88 (r1.1, r1.2.1, r1.2.2.1, r1.2.2.2.1, r1.2.2.2.2, a1_0, a2_0)) fun r4 =>
          some (r4.2.1, r4.2.2.1, r4.2.2.2.1, r4.2.2.2.2.1, r4.2.2.2.2.2, r4.1)
noncomputable def spec_WriteSec.sig : Sig := ⟨[.val true [⟨.row K2, 0, 0, false⟩, ⟨.row K3, 0, 0, false⟩, ⟨.int .i64, 0, 0, false⟩, ⟨.row K0, 0, 0, false⟩, ⟨.bool, 0, 0, false⟩], .val false [⟨.int .i64, 0, 0, false⟩], .val false [⟨.row K1, 0, 0, false⟩]], [(.agg, [(.row K2, 1), (.row K3, 1), (.int .i64, 0), (.row K0, 1), (.bool, 0)]), (.one, [(.int .i64, 0)])]⟩
noncomputable def spec_WriteSec.hint : Nat → Hint
  | _ => ⟨[], []⟩
noncomputable def spec_WriteSec.join : Nat → Option Hint
  | _ => none
noncomputable def spec_WriteSec.body : Code := (Try.f47).body.getD .skip
noncomputable def spec_WriteSec.rv : List ResultVar := (Try.f47).results.toList
noncomputable def laws_FnExactWriteSec.m (c14 : (List (List Int)) × (List (Int × (List Int))) × Int × (List (Int × Int × Int)) × Bool × Int → Option (Int)) (c16 : (List (List Int)) × (List (Int × (List Int))) × Int × (List (Int × Int × Int)) × Bool → Option ((List (List Int)) × (List (Int × (List Int))) × Int × (List (Int × Int × Int)) × Bool)) (c18 : (List (List Int)) × (List (Int × (List Int))) × Int × (List (Int × Int × Int)) × Bool × (List (List Int)) × (List (Int × (List Int))) × Int × (List (Int × Int × Int)) × Bool → Option (Bool)) (c25 : (List (List Int)) × (List (Int × (List Int))) × Int × (List (Int × Int × Int)) × Bool × Int → Option (Int × (List (List Int)) × (List (Int × (List Int))) × (List (Int × Int × Int)))) (c26 : (List (List Int)) × (List (Int × (List Int))) × Int × (List (Int × Int × Int)) × Bool × Int → Option (Int)) (c29 : (List Int) × (List Int) → Option (Bool)) (c30 : (List Int) × Int → Option (Int × (List Int))) (c46 : (List (List Int)) × (List (Int × (List Int))) × Int × (List (Int × Int × Int)) × Bool × Int × (List Int) → Option ((List (List Int)) × (List (Int × (List Int))) × Int × (List (Int × Int × Int)) × Bool × Int)) (c47 : (List (List Int)) × (List (Int × (List Int))) × Int × (List (Int × Int × Int)) × Bool × Int × (List Int) → Option ((List (List Int)) × (List (Int × (List Int))) × Int × (List (Int × Int × Int)) × Bool × Int)) (c55 : (List Int) → Option (List Int)) : ((List (List Int)) × (List (Int × (List Int))) × Int × (List (Int × Int × Int)) × Bool × Int × (List Int)) → Option (Bool)
  | (a0_0, a0_1, a0_2, a0_3, a0_4, a1_0, a2_0) =>
  bif decide ((List.length a2_0 : Int) > (1048576 : Int)) then
   some true
  else
   Option.bind (c14 (a0_0, a0_1, a0_2, a0_3, a0_4, (1048576 : Int))) fun r1 =>
    bif decide (r1 < (0 : Int)) then
     some true
    else
     Option.bind (c16 (a0_0, a0_1, a0_2, a0_3, a0_4)) fun r2 =>
      Option.bind (c55 a2_0) fun r3 =>
       Option.bind (c47 (r2.1, r2.2.1, r2.2.2.1, r2.2.2.2.1, r2.2.2.2.2, a1_0, r3)) fun r4 =>
        Option.bind (c16 (a0_0, a0_1, a0_2, a0_3, a0_4)) fun r5 =>
         Option.bind (c55 a2_0) fun r6 =>
          Option.bind (c46 (r5.1, r5.2.1, r5.2.2.1, r5.2.2.2.1, r5.2.2.2.2, a1_0, r6)) fun r7 =>
           Option.bind (c18 (r7.1, r7.2.1, r7.2.2.1, r7.2.2.2.1, r7.2.2.2.2.1, r4.1, r4.2.1, r4.2.2.1, r4.2.2.2.1, r4.2.2.2.2.1)) fun r8 =>
            bif !(r8) then
             some false
            else
             bif r7.2.2.2.2.2 != r4.2.2.2.2.2 then
              some false
             else
              Option.bind (c16 (a0_0, a0_1, a0_2, a0_3, a0_4)) fun r9 =>
               Option.bind (c18 (r5.1, r5.2.1, r5.2.2.1, r5.2.2.2.1, r5.2.2.2.2, r9.1, r9.2.1, r9.2.2.1, r9.2.2.2.1, r9.2.2.2.2)) fun r10 =>
                bif !(r10) then
                 some false
                else
                 Option.bind (c55 a2_0) fun r11 =>
                  Option.bind (c29 (r6, r11)) fun r12 =>
                   bif !(r12) then
                    some false
                   else
                    Option.bind (c25 (r5.1, r5.2.1, r5.2.2.1, r5.2.2.2.1, r5.2.2.2.2, (1 : Int))) fun r13 =>
                     Option.bind (c30 (r6, r13.1)) fun r14 =>
                      bif decide (r14.1 < (0 : Int)) then
                       some false
                      else
                       Option.bind (c18 (r7.1, r7.2.1, r7.2.2.1, r7.2.2.2.1, r7.2.2.2.2.1, r4.1, r4.2.1, r4.2.2.1, r4.2.2.2.1, r4.2.2.2.2.1)) fun r15 =>
                        bif !(r15) then
                         some false
                        else
                         bif r7.2.2.2.2.2 != r4.2.2.2.2.2 then
                          some false
                         else
                          Option.bind (c25 (r7.1, r7.2.1, r7.2.2.1, r7.2.2.2.1, r7.2.2.2.2.1, (1 : Int))) fun r16 =>
                           Option.bind (c26 (r16.2.1, r16.2.2.1, r7.2.2.1, r16.2.2.2, r7.2.2.2.2.1, (1 : Int))) fun r17 =>
                            bif decide (r17 < (0 : Int)) then
                             some false
                            else
                             bif r17 != r16.1 then
                              some false
                             else
                              Option.bind (c16 (a0_0, a0_1, a0_2, a0_3, a0_4)) fun r18 =>
                               Option.bind (c55 a2_0) fun r19 =>
                                Option.bind (c46 (r18.1, r18.2.1, r18.2.2.1, r18.2.2.2.1, r18.2.2.2.2, a1_0, r19)) fun r20 =>
                                 Option.bind (c18 (r20.1, r20.2.1, r20.2.2.1, r20.2.2.2.1, r20.2.2.2.2.1, r4.1, r4.2.1, r4.2.2.1, r4.2.2.2.1, r4.2.2.2.2.1)) fun r21 =>
                                  bif !(r21) then
                                   some false
                                  else
                                   bif r20.2.2.2.2.2 != r4.2.2.2.2.2 then
                                    some false
                                   else
                                    Option.bind (c26 (r16.2.1, r16.2.2.1, r7.2.2.1, r16.2.2.2, r7.2.2.2.2.1, (1 : Int))) fun r22 =>
                                     bif decide (r22 < (0 : Int)) then
                                      some false
                                     else
                                      bif r22 != r16.1 then
                                       some false
                                      else
                                       some true
noncomputable def laws_FnExactWriteSec.sig : Sig := ⟨[.val true [⟨.row K2, 0, 0, false⟩, ⟨.row K3, 0, 0, false⟩, ⟨.int .i64, 0, 0, false⟩, ⟨.row K0, 0, 0, false⟩, ⟨.bool, 0, 0, false⟩], .val false [⟨.int .i64, 0, 0, false⟩], .val false [⟨.row K1, 0, 0, false⟩]], [(.one, [(.bool, 0)])]⟩
noncomputable def laws_FnExactWriteSec.hint : Nat → Hint
  | _ => ⟨[], []⟩
noncomputable def laws_FnExactWriteSec.join : Nat → Option Hint
  | _ => none
noncomputable def laws_FnExactWriteSec.body : Code := (Try.f12).body.getD .skip
noncomputable def laws_FnExactWriteSec.rv : List ResultVar := (Try.f12).results.toList
noncomputable def fns : Nat → Fn
  | 19 => ⟨12, laws_szFaultS.sig, laws_szFaultS.rv, laws_szFaultS.body, laws_szFaultS.hint, laws_szFaultS.join⟩
  | 101 => ⟨12, laws_szByteS.sig, laws_szByteS.rv, laws_szByteS.body, laws_szByteS.hint, laws_szByteS.join⟩
  | 56 => ⟨27, laws_szByteSS.sig, laws_szByteSS.rv, laws_szByteSS.body, laws_szByteSS.hint, laws_szByteSS.join⟩
  | 102 => ⟨12, laws_szWrite.sig, laws_szWrite.rv, laws_szWrite.body, laws_szWrite.hint, laws_szWrite.join⟩
  | 57 => ⟨27, laws_szWriteS.sig, laws_szWriteS.rv, laws_szWriteS.body, laws_szWriteS.hint, laws_szWriteS.join⟩
  | 14 => ⟨24, laws_szDisk.sig, laws_szDisk.rv, laws_szDisk.body, laws_szDisk.hint, laws_szDisk.join⟩
  | 58 => ⟨15, spec_l1In.sig, spec_l1In.rv, spec_l1In.body, spec_l1In.hint, spec_l1In.join⟩
  | 59 => ⟨56, spec_l12Faults.sig, spec_l12Faults.rv, spec_l12Faults.body, spec_l12Faults.hint, spec_l12Faults.join⟩
  | 15 => ⟨79, spec_DiskOk.sig, spec_DiskOk.rv, spec_DiskOk.body, spec_DiskOk.hint, spec_DiskOk.join⟩
  | 65 => ⟨14, laws_toFault.sig, laws_toFault.rv, laws_toFault.body, laws_toFault.hint, laws_toFault.join⟩
  | 21 => ⟨23, laws_toFaultS.sig, laws_toFaultS.rv, laws_toFaultS.body, laws_toFaultS.hint, laws_toFaultS.join⟩
  | 55 => ⟨22, laws_toByteS.sig, laws_toByteS.rv, laws_toByteS.body, laws_toByteS.hint, laws_toByteS.join⟩
  | 60 => ⟨23, laws_toByteSS.sig, laws_toByteSS.rv, laws_toByteSS.body, laws_toByteSS.hint, laws_toByteSS.join⟩
  | 103 => ⟨12, laws_toWrite.sig, laws_toWrite.rv, laws_toWrite.body, laws_toWrite.hint, laws_toWrite.join⟩
  | 61 => ⟨23, laws_toWriteS.sig, laws_toWriteS.rv, laws_toWriteS.body, laws_toWriteS.hint, laws_toWriteS.join⟩
  | 16 => ⟨23, laws_toDisk.sig, laws_toDisk.rv, laws_toDisk.body, laws_toDisk.hint, laws_toDisk.join⟩
  | 62 => ⟨15, impl_in.sig, impl_in.rv, impl_in.body, impl_in.hint, impl_in.join⟩
  | 17 => ⟨116, impl_DiskOk.sig, impl_DiskOk.rv, impl_DiskOk.body, impl_DiskOk.hint, impl_DiskOk.join⟩
  | 66 => ⟨20, laws_eqFault.sig, laws_eqFault.rv, laws_eqFault.body, laws_eqFault.hint, laws_eqFault.join⟩
  | 23 => ⟨27, laws_eqFaultS.sig, laws_eqFaultS.rv, laws_eqFaultS.body, laws_eqFaultS.hint, laws_eqFaultS.join⟩
  | 29 => ⟨26, laws_eqByteS.sig, laws_eqByteS.rv, laws_eqByteS.body, laws_eqByteS.hint, laws_eqByteS.join⟩
  | 63 => ⟨27, laws_eqByteSS.sig, laws_eqByteSS.rv, laws_eqByteSS.body, laws_eqByteSS.hint, laws_eqByteSS.join⟩
  | 104 => ⟨16, laws_eqWrite.sig, laws_eqWrite.rv, laws_eqWrite.body, laws_eqWrite.hint, laws_eqWrite.join⟩
  | 64 => ⟨27, laws_eqWriteS.sig, laws_eqWriteS.rv, laws_eqWriteS.body, laws_eqWriteS.hint, laws_eqWriteS.join⟩
  | 18 => ⟨33, laws_eqDisk.sig, laws_eqDisk.rv, laws_eqDisk.body, laws_eqDisk.hint, laws_eqDisk.join⟩
  | 24 => ⟨34, laws_markFaultS.sig, laws_markFaultS.rv, laws_markFaultS.body, laws_markFaultS.hint, laws_markFaultS.join⟩
  | 30 => ⟨20, laws_markByteS.sig, laws_markByteS.rv, laws_markByteS.body, laws_markByteS.hint, laws_markByteS.join⟩
  | 67 => ⟨19, laws_markByteSS.sig, laws_markByteSS.rv, laws_markByteSS.body, laws_markByteSS.hint, laws_markByteSS.join⟩
  | 68 => ⟨27, laws_markWriteS.sig, laws_markWriteS.rv, laws_markWriteS.body, laws_markWriteS.hint, laws_markWriteS.join⟩
  | 25 => ⟨18, laws_markDisk.sig, laws_markDisk.rv, laws_markDisk.body, laws_markDisk.hint, laws_markDisk.join⟩
  | 31 => ⟨22, laws_heldByteS.sig, laws_heldByteS.rv, laws_heldByteS.body, laws_heldByteS.hint, laws_heldByteS.join⟩
  | 69 => ⟨21, laws_heldByteSS.sig, laws_heldByteSS.rv, laws_heldByteSS.body, laws_heldByteSS.hint, laws_heldByteSS.join⟩
  | 70 => ⟨31, laws_heldWriteS.sig, laws_heldWriteS.rv, laws_heldWriteS.body, laws_heldWriteS.hint, laws_heldWriteS.join⟩
  | 71 => ⟨40, laws_heldFaultS.sig, laws_heldFaultS.rv, laws_heldFaultS.body, laws_heldFaultS.hint, laws_heldFaultS.join⟩
  | 26 => ⟨24, laws_heldDisk.sig, laws_heldDisk.rv, laws_heldDisk.body, laws_heldDisk.hint, laws_heldDisk.join⟩
  | 72 => ⟨5, impl_copyBytes.sig, impl_copyBytes.rv, impl_copyBytes.body, impl_copyBytes.hint, impl_copyBytes.join⟩
  | 105 => ⟨27, spec_l12Fault.sig, spec_l12Fault.rv, spec_l12Fault.body, spec_l12Fault.hint, spec_l12Fault.join⟩
  | 106 => ⟨83, spec_l12Lose.sig, spec_l12Lose.rv, spec_l12Lose.body, spec_l12Lose.hint, spec_l12Lose.join⟩
  | 88 => ⟨59, spec_l12Write.sig, spec_l12Write.rv, spec_l12Write.body, spec_l12Write.hint, spec_l12Write.join⟩
  | 78 => ⟨48, impl_copyDisk.sig, impl_copyDisk.rv, impl_copyDisk.body, impl_copyDisk.hint, impl_copyDisk.join⟩
  | 80 => ⟨62, spec_l12Copy.sig, spec_l12Copy.rv, spec_l12Copy.body, spec_l12Copy.hint, spec_l12Copy.join⟩
  | 81 => ⟨25, impl_Disk_fault.sig, impl_Disk_fault.rv, impl_Disk_fault.body, impl_Disk_fault.hint, impl_Disk_fault.join⟩
  | 83 => ⟨27, impl_Disk_settle.sig, impl_Disk_settle.rv, impl_Disk_settle.body, impl_Disk_settle.hint, impl_Disk_settle.join⟩
  | 82 => ⟨66, impl_Disk_lose.sig, impl_Disk_lose.rv, impl_Disk_lose.body, impl_Disk_lose.hint, impl_Disk_lose.join⟩
  | 46 => ⟨67, impl_WriteSec.sig, impl_WriteSec.rv, impl_WriteSec.body, impl_WriteSec.hint, impl_WriteSec.join⟩
  | 47 => ⟨41, spec_WriteSec.sig, spec_WriteSec.rv, spec_WriteSec.body, spec_WriteSec.hint, spec_WriteSec.join⟩
  | 12 => ⟨122, laws_FnExactWriteSec.sig, laws_FnExactWriteSec.rv, laws_FnExactWriteSec.body, laws_FnExactWriteSec.hint, laws_FnExactWriteSec.join⟩
  | _ => ⟨0, ⟨[], []⟩, [], .refuse "", fun _ => ⟨[], []⟩, fun _ => none⟩
noncomputable def sigs (f : Nat) : Sig := (fns f).sig
end
end Go.PV.T
