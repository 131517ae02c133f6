/- Functions of the program by their own lists and numbers. No condition beyond those in each statement. -/
import Derived.Test.YticedidmodmdnaaPvLibD
import Derived.Test.YticedidmodmdnaaProg
import Derived.KernelRfl
set_option linter.unusedVariables false
set_option linter.unusedSimpArgs false
set_option maxRecDepth 100000
set_option linter.unusedVariables false
namespace Go.PV.T
open Go.Proofs
noncomputable section
abbrev K0 : SS := .cons (.int .i64) (.cons (.int .i64) (.one (.int .i64)))
abbrev K1 : SS := .one (.int .u8)
abbrev K2 : SS := .one (.row K1)
abbrev K3 : SS := .cons (.int .i64) (.one (.row K1))
abbrev K4 : SS := .one (.int .i64)
noncomputable def eqts (t : Nat) : Bool := memN t []
noncomputable def tys : Nat → TyI
  | 3 => .cell (.int .i64) 0
  | 4 => .cell (.bool) 0
  | 5 => .cell (.int .u8) 0
  | 9 => .cell (.str) 0
  | 22 => .cell (.row K2) 24
  | 29 => .cell (.row K3) 32
  | 30 => .cell (.row K0) 24
  | 32 => .strct [0, 1, 2, 3, 4] [.row K2, .row K3, .int .i64, .row K0, .bool]
  | 43 => .cell (.row K1) 1
  | 58 => .strct [0, 1] [.int .i64, .row K1]
  | 78 => .strct [0, 1, 2] [.int .i64, .int .i64, .int .i64]
  | 90 => .cell (.row K4) 8
  | 115 => .strct [0, 1, 2] [.row K1, .int .i64, .int .i64]
  | 119 => .cell (.int .u64) 0
  | 122 => .cell (.int .u32) 0
  | _ => .no
noncomputable def spec_l1In.m  : (Int × Int × Int) → Option (Bool)
  | (a0_0, a1_0, a2_0) =>
  bif decide (a0_0 ≥ a1_0) then
   some (decide (a0_0 ≤ a2_0))
  else
   some false
noncomputable def spec_l1In.sig : Sig := ⟨[.val false [⟨.int .i64, 0, 0, false⟩], .val false [⟨.int .i64, 0, 0, false⟩], .val false [⟨.int .i64, 0, 0, false⟩]], [(.one, [(.bool, 0)])]⟩
noncomputable def spec_l1In.hint : Nat → Hint
  | _ => ⟨[], []⟩
noncomputable def spec_l1In.join : Nat → Option Hint
  | _ => none
noncomputable def spec_l1In.body : Code := (Try.f58).body.getD .skip
noncomputable def spec_l1In.rv : List ResultVar := (Try.f58).results.toList
noncomputable def spec_l12Faults.s0 (c58 : Int × Int × Int → Option (Bool)) (L0 : ((List (Int × Int × Int)) × Int) → Option (Bool)) : ((List (Int × Int × Int)) × Int) → Option (Bool)
  | (x0, x1) =>
  bif decide (x1 < (List.length x0 : Int)) then
   bif decide (0 ≤ x1) && decide (x1 < (List.length x0 : Int)) then
    Option.bind (c58 ((List.getD x0 (Int.toNat x1) ((0 : Int), (0 : Int), (0 : Int))).1, (0 : Int), (100000 : Int))) fun r1 =>
     bif !(r1) then
      some false
     else
      bif decide (0 ≤ x1) && decide (x1 < (List.length x0 : Int)) then
       Option.bind (c58 ((List.getD x0 (Int.toNat x1) ((0 : Int), (0 : Int), (0 : Int))).2.1, (0 : Int), (1048575 : Int))) fun r2 =>
        bif !(r2) then
         some false
        else
         bif decide (0 ≤ x1) && decide (x1 < (List.length x0 : Int)) then
          Option.bind (c58 ((List.getD x0 (Int.toNat x1) ((0 : Int), (0 : Int), (0 : Int))).2.2, (0 : Int), (256 : Int))) fun r3 =>
           bif !(r3) then
            some false
           else
            bif decide (x1 > (0 : Int)) then
             bif decide (0 ≤ (IntKind.wrap IntKind.i64 (x1 - (1 : Int)))) && decide ((IntKind.wrap IntKind.i64 (x1 - (1 : Int))) < (List.length x0 : Int)) then
              bif decide (0 ≤ x1) && decide (x1 < (List.length x0 : Int)) then
               bif decide (((List.getD x0 (Int.toNat (IntKind.wrap IntKind.i64 (x1 - (1 : Int)))) ((0 : Int), (0 : Int), (0 : Int))).1) ≥ ((List.getD x0 (Int.toNat x1) ((0 : Int), (0 : Int), (0 : Int))).1)) then
                some false
               else
                L0 (x0, IntKind.wrap IntKind.i64 (x1 + (1 : Int)))
              else
               none
             else
              none
            else
             L0 (x0, IntKind.wrap IntKind.i64 (x1 + (1 : Int)))
         else
          none
      else
       none
   else
    none
  else
   some (decide ((List.length x0 : Int) ≤ (20 : Int)))
noncomputable def spec_l12Faults.ll0 : ((List (Int × Int × Int)) × Int) → LS
  | (x0, x1) => ⟨[.cv ⟨.row K0, x0⟩, .cv ⟨.int .i64, x1⟩], []⟩
noncomputable def spec_l12Faults.m (B0 : ((List (Int × Int × Int)) × Int) → Option (Bool)) : (List (Int × Int × Int)) → Option (Bool)
  | a0_0 =>
  B0 (a0_0, (0 : Int))
noncomputable def spec_l12Faults.sig : Sig := ⟨[.val false [⟨.row K0, 0, 0, false⟩]], [(.one, [(.bool, 0)])]⟩
noncomputable def spec_l12Faults.hint : Nat → Hint
  | 0 => ⟨[(0, .keep), (3, .keep)], []⟩
  | _ => ⟨[], []⟩
noncomputable def spec_l12Faults.join : Nat → Option Hint
  | _ => none
noncomputable def spec_l12Faults.body : Code := (Try.f59).body.getD .skip
noncomputable def spec_l12Faults.rv : List ResultVar := (Try.f59).results.toList
noncomputable def impl_in.m  : (Int × Int × Int) → Option (Bool)
  | (a0_0, a1_0, a2_0) =>
  bif decide (a0_0 ≥ a1_0) then
   some (decide (a0_0 ≤ a2_0))
  else
   some false
noncomputable def impl_in.sig : Sig := ⟨[.val false [⟨.int .i64, 0, 0, false⟩], .val false [⟨.int .i64, 0, 0, false⟩], .val false [⟨.int .i64, 0, 0, false⟩]], [(.one, [(.bool, 0)])]⟩
noncomputable def impl_in.hint : Nat → Hint
  | _ => ⟨[], []⟩
noncomputable def impl_in.join : Nat → Option Hint
  | _ => none
noncomputable def impl_in.body : Code := (Try.f62).body.getD .skip
noncomputable def impl_in.rv : List ResultVar := (Try.f62).results.toList
noncomputable def spec_DiskNew.s0 (L0 : (Int × Int × (List (List Int)) × (List (Int × (List Int))) × Int × (List (Int × Int × Int)) × Bool × (List (List Int)) × (List (Int × (List Int))) × Int × (List (Int × Int × Int)) × Bool) → Option ((List (List Int)) × (List (Int × (List Int))) × Int × (List (Int × Int × Int)) × Bool)) : (Int × Int × (List (List Int)) × (List (Int × (List Int))) × Int × (List (Int × Int × Int)) × Bool × (List (List Int)) × (List (Int × (List Int))) × Int × (List (Int × Int × Int)) × Bool) → Option ((List (List Int)) × (List (Int × (List Int))) × Int × (List (Int × Int × Int)) × Bool)
  | (x0, x1, x2, x3, x4, x5, x6, x7, x8, x9, x10, x11) =>
  bif decide (x1 < x0) then
   bif decide ((List.length x7 + List.length ([([] : List Int)] : List (List Int))) * 24 ≤ 140737488355328) then
    L0 (x0, IntKind.wrap IntKind.i64 (x1 + (1 : Int)), x2, x3, x4, x5, x6, x7 ++ ([([] : List Int)] : List (List Int)), x8, x9, x10, x11)
   else
    none
  else
   some (x7, x8, x9, x10, x11)
noncomputable def spec_DiskNew.ll0 : (Int × Int × (List (List Int)) × (List (Int × (List Int))) × Int × (List (Int × Int × Int)) × Bool × (List (List Int)) × (List (Int × (List Int))) × Int × (List (Int × Int × Int)) × Bool) → LS
  | (x0, x1, x2, x3, x4, x5, x6, x7, x8, x9, x10, x11) => ⟨[.cv ⟨.int .i64, x0⟩, .addr 257 0 [] 0, .addr 321 0 [] 0, .cv ⟨.int .i64, x1⟩], [⟨false, [⟨0, 0, .mk 9 ⟨.row K2, x2⟩⟩, ⟨0, 0, .mk 9 ⟨.row K3, x3⟩⟩, ⟨0, 0, .mk 0 ⟨.int .i64, x4⟩⟩, ⟨0, 0, .mk 9 ⟨.row K0, x5⟩⟩, ⟨0, 0, .mk 0 ⟨.bool, x6⟩⟩]⟩, ⟨false, [⟨0, 0, .mk 9 ⟨.row K2, x7⟩⟩, ⟨0, 0, .mk 9 ⟨.row K3, x8⟩⟩, ⟨0, 0, .mk 0 ⟨.int .i64, x9⟩⟩, ⟨0, 0, .mk 9 ⟨.row K0, x10⟩⟩, ⟨0, 0, .mk 0 ⟨.bool, x11⟩⟩]⟩]⟩
noncomputable def spec_DiskNew.m (c58 : Int × Int × Int → Option (Bool)) (c59 : (List (Int × Int × Int)) → Option (Bool)) (B0 : (Int × Int × (List (List Int)) × (List (Int × (List Int))) × Int × (List (Int × Int × Int)) × Bool × (List (List Int)) × (List (Int × (List Int))) × Int × (List (Int × Int × Int)) × Bool) → Option ((List (List Int)) × (List (Int × (List Int))) × Int × (List (Int × Int × Int)) × Bool)) : (Int × (List (Int × Int × Int))) → Option ((List (List Int)) × (List (Int × (List Int))) × Int × (List (Int × Int × Int)) × Bool)
  | (a0_0, a1_0) =>
  Option.bind (c58 (a0_0, (4 : Int), (48 : Int))) fun r1 =>
   bif !(r1) then
    some (([] : List (List Int)), ([] : List (Int × (List Int))), (0 : Int), ([] : List (Int × Int × Int)), false)
   else
    Option.bind (c59 a1_0) fun r2 =>
     bif !(r2) then
      some (([] : List (List Int)), ([] : List (Int × (List Int))), (0 : Int), ([] : List (Int × Int × Int)), false)
     else
      bif decide ((List.length ([] : List (Int × Int × Int)) + List.length a1_0) * 24 ≤ 140737488355328) then
       B0 (a0_0, (0 : Int), ([] : List (List Int)), ([] : List (Int × (List Int))), (0 : Int), ([] : List (Int × Int × Int)), false, ([] : List (List Int)), ([] : List (Int × (List Int))), (0 : Int), ([] : List (Int × Int × Int)) ++ a1_0, false)
      else
       none
noncomputable def spec_DiskNew.sig : Sig := ⟨[.val false [⟨.int .i64, 0, 0, false⟩], .val false [⟨.row K0, 0, 0, false⟩]], [(.agg, [(.row K2, 2), (.row K3, 2), (.int .i64, 0), (.row K0, 1), (.bool, 0)])]⟩
noncomputable def spec_DiskNew.hint : Nat → Hint
  | 0 => ⟨[(0, .keep), (4, .keep), (5, .keep), (6, .keep)], [(257, [9, 9, 0, 9, 0]), (321, [9, 9, 0, 9, 0])]⟩
  | _ => ⟨[], []⟩
noncomputable def spec_DiskNew.join : Nat → Option Hint
  | _ => none
noncomputable def spec_DiskNew.body : Code := (Try.f20).body.getD .skip
noncomputable def spec_DiskNew.rv : List ResultVar := (Try.f20).results.toList
noncomputable def spec_ReadSec.s0 (L0 : (Int × Int × (List (List Int)) × (List (Int × (List Int))) × Int × (List (Int × Int × Int)) × Bool) → Option ((List Int) × Bool)) : (Int × Int × (List (List Int)) × (List (Int × (List Int))) × Int × (List (Int × Int × Int)) × Bool) → Option ((List Int) × Bool)
  | (x0, x1, x2, x3, x4, x5, x6) =>
  bif decide (x1 ≥ (0 : Int)) then
   bif decide (0 ≤ x1) && decide (x1 < (List.length x3 : Int)) then
    bif ((List.getD x3 (Int.toNat x1) ((0 : Int), ([] : List Int))).1) == x0 then
     bif decide (0 ≤ x1) && decide (x1 < (List.length x3 : Int)) then
      bif decide ((List.length ([] : List Int) + List.length ((List.getD x3 (Int.toNat x1) ((0 : Int), ([] : List Int))).2)) * 1 ≤ 140737488355328) then
       some (([] : List Int) ++ ((List.getD x3 (Int.toNat x1) ((0 : Int), ([] : List Int))).2), true)
      else
       none
     else
      none
    else
     L0 (x0, IntKind.wrap IntKind.i64 (x1 - (1 : Int)), x2, x3, x4, x5, x6)
   else
    none
  else
   bif decide (0 ≤ x0) && decide (x0 < (List.length x2 : Int)) then
    bif decide ((List.length ([] : List Int) + List.length (List.getD x2 (Int.toNat x0) ([] : List Int))) * 1 ≤ 140737488355328) then
     some (([] : List Int) ++ (List.getD x2 (Int.toNat x0) ([] : List Int)), true)
    else
     none
   else
    none
noncomputable def spec_ReadSec.ll0 : (Int × Int × (List (List Int)) × (List (Int × (List Int))) × Int × (List (Int × Int × Int)) × Bool) → LS
  | (x0, x1, x2, x3, x4, x5, x6) => ⟨[.cv ⟨.int .i64, x0⟩, .addr 129 0 [] 0, .cv ⟨.int .i64, x1⟩], [⟨false, [⟨0, 0, .mk 0 ⟨.row K2, x2⟩⟩, ⟨0, 0, .mk 0 ⟨.row K3, x3⟩⟩, ⟨0, 0, .mk 0 ⟨.int .i64, x4⟩⟩, ⟨0, 0, .mk 0 ⟨.row K0, x5⟩⟩, ⟨0, 0, .mk 0 ⟨.bool, x6⟩⟩]⟩]⟩
noncomputable def spec_ReadSec.m (c58 : Int × Int × Int → Option (Bool)) (B0 : (Int × Int × (List (List Int)) × (List (Int × (List Int))) × Int × (List (Int × Int × Int)) × Bool) → Option ((List Int) × Bool)) : ((List (List Int)) × (List (Int × (List Int))) × Int × (List (Int × Int × Int)) × Bool × Int) → Option ((List Int) × Bool)
  | (a0_0, a0_1, a0_2, a0_3, a0_4, a1_0) =>
  Option.bind (c58 (a1_0, (0 : Int), IntKind.wrap IntKind.i64 ((List.length a0_0 : Int) - (1 : Int)))) fun r1 =>
   bif !(r1) then
    some (([] : List Int), false)
   else
    B0 (a1_0, IntKind.wrap IntKind.i64 ((List.length a0_1 : Int) - (1 : Int)), a0_0, a0_1, a0_2, a0_3, a0_4)
noncomputable def spec_ReadSec.sig : Sig := ⟨[.val true [⟨.row K2, 0, 0, false⟩, ⟨.row K3, 0, 0, false⟩, ⟨.int .i64, 0, 0, false⟩, ⟨.row K0, 0, 0, false⟩, ⟨.bool, 0, 0, false⟩], .val false [⟨.int .i64, 0, 0, false⟩]], [(.one, [(.row K1, 1)]), (.one, [(.bool, 0)])]⟩
noncomputable def spec_ReadSec.hint : Nat → Hint
  | 0 => ⟨[(1, .keep), (2, .keep), (6, .keep)], [(129, [0, 0, 0, 0, 0])]⟩
  | _ => ⟨[], []⟩
noncomputable def spec_ReadSec.join : Nat → Option Hint
  | _ => none
noncomputable def spec_ReadSec.body : Code := (Try.f27).body.getD .skip
noncomputable def spec_ReadSec.rv : List ResultVar := (Try.f27).results.toList
noncomputable def impl_copyBytes.m  : (List Int) → Option (List Int)
  | a0_0 =>
  bif decide ((List.length ([] : List Int) + List.length a0_0) * 1 ≤ 140737488355328) then
   some (([] : List Int) ++ a0_0)
  else
   none
noncomputable def impl_copyBytes.sig : Sig := ⟨[.val false [⟨.row K1, 0, 0, false⟩]], [(.one, [(.row K1, 1)])]⟩
noncomputable def impl_copyBytes.hint : Nat → Hint
  | _ => ⟨[], []⟩
noncomputable def impl_copyBytes.join : Nat → Option Hint
  | _ => none
noncomputable def impl_copyBytes.body : Code := (Try.f72).body.getD .skip
noncomputable def impl_copyBytes.rv : List ResultVar := (Try.f72).results.toList
noncomputable def impl_ReadSec.s0 (c72 : (List Int) → Option (List Int)) (L0 : (Int × Int × (List (List Int)) × (List (Int × (List Int))) × Int × (List (Int × Int × Int)) × Bool) → Option ((List Int) × Bool)) : (Int × Int × (List (List Int)) × (List (Int × (List Int))) × Int × (List (Int × Int × Int)) × Bool) → Option ((List Int) × Bool)
  | (x0, x1, x2, x3, x4, x5, x6) =>
  bif decide (x1 ≥ (0 : Int)) then
   bif decide (0 ≤ x1) && decide (x1 < (List.length x3 : Int)) then
    bif ((List.getD x3 (Int.toNat x1) ((0 : Int), ([] : List Int))).1) == x0 then
     bif decide (0 ≤ x1) && decide (x1 < (List.length x3 : Int)) then
      Option.bind (c72 ((List.getD x3 (Int.toNat x1) ((0 : Int), ([] : List Int))).2)) fun r2 =>
       some (r2, true)
     else
      none
    else
     L0 (x0, IntKind.wrap IntKind.i64 (x1 - (1 : Int)), x2, x3, x4, x5, x6)
   else
    none
  else
   bif decide (0 ≤ x0) && decide (x0 < (List.length x2 : Int)) then
    Option.bind (c72 (List.getD x2 (Int.toNat x0) ([] : List Int))) fun r3 =>
     some (r3, true)
   else
    none
noncomputable def impl_ReadSec.ll0 : (Int × Int × (List (List Int)) × (List (Int × (List Int))) × Int × (List (Int × Int × Int)) × Bool) → LS
  | (x0, x1, x2, x3, x4, x5, x6) => ⟨[.cv ⟨.int .i64, x0⟩, .addr 129 0 [] 0, .cv ⟨.int .i64, x1⟩], [⟨false, [⟨0, 0, .mk 0 ⟨.row K2, x2⟩⟩, ⟨0, 0, .mk 0 ⟨.row K3, x3⟩⟩, ⟨0, 0, .mk 0 ⟨.int .i64, x4⟩⟩, ⟨0, 0, .mk 0 ⟨.row K0, x5⟩⟩, ⟨0, 0, .mk 0 ⟨.bool, x6⟩⟩]⟩]⟩
noncomputable def impl_ReadSec.m (c62 : Int × Int × Int → Option (Bool)) (B0 : (Int × Int × (List (List Int)) × (List (Int × (List Int))) × Int × (List (Int × Int × Int)) × Bool) → Option ((List Int) × Bool)) : ((List (List Int)) × (List (Int × (List Int))) × Int × (List (Int × Int × Int)) × Bool × Int) → Option ((List Int) × Bool)
  | (a0_0, a0_1, a0_2, a0_3, a0_4, a1_0) =>
  Option.bind (c62 (a1_0, (0 : Int), IntKind.wrap IntKind.i64 ((List.length a0_0 : Int) - (1 : Int)))) fun r1 =>
   bif !(r1) then
    some (([] : List Int), false)
   else
    B0 (a1_0, IntKind.wrap IntKind.i64 ((List.length a0_1 : Int) - (1 : Int)), a0_0, a0_1, a0_2, a0_3, a0_4)
noncomputable def impl_ReadSec.sig : Sig := ⟨[.val true [⟨.row K2, 0, 0, false⟩, ⟨.row K3, 0, 0, false⟩, ⟨.int .i64, 0, 0, false⟩, ⟨.row K0, 0, 0, false⟩, ⟨.bool, 0, 0, false⟩], .val false [⟨.int .i64, 0, 0, false⟩]], [(.one, [(.row K1, 1)]), (.one, [(.bool, 0)])]⟩
noncomputable def impl_ReadSec.hint : Nat → Hint
  | 0 => ⟨[(1, .keep), (2, .keep), (6, .keep)], [(129, [0, 0, 0, 0, 0])]⟩
  | _ => ⟨[], []⟩
noncomputable def impl_ReadSec.join : Nat → Option Hint
  | _ => none
noncomputable def impl_ReadSec.body : Code := (Try.f28).body.getD .skip
noncomputable def impl_ReadSec.rv : List ResultVar := (Try.f28).results.toList
noncomputable def laws_big.m  : (List Int) → Option (Bool)
  | a0_0 =>
  some (decide ((List.length a0_0 : Int) > (1048576 : Int)))
noncomputable def laws_big.sig : Sig := ⟨[.val false [⟨.row K1, 0, 0, false⟩]], [(.one, [(.bool, 0)])]⟩
noncomputable def laws_big.hint : Nat → Hint
  | _ => ⟨[], []⟩
noncomputable def laws_big.join : Nat → Option Hint
  | _ => none
noncomputable def laws_big.body : Code := (Try.f32).body.getD .skip
noncomputable def laws_big.rv : List ResultVar := (Try.f32).results.toList
noncomputable def spec_l1New.s0 (L0 : ((List Int) × Int × Int) → Option ((List Int) × Int × Int)) : ((List Int) × Int × Int) → Option ((List Int) × Int × Int)
  | (x0, x1, x2) =>
  bif decide (x2 < (List.length x0 : Int)) then
   bif decide (x2 < (4000 : Int)) then
    bif decide (0 ≤ x2) && decide (x2 < (List.length x0 : Int)) then
     L0 (x0, IntKind.wrap IntKind.i64 ((BitVec.ofInt (IntKind.bits IntKind.i64) (IntKind.wrap IntKind.i64 ((IntKind.wrap IntKind.i64 ((IntKind.wrap IntKind.i64 (x1 * (137 : Int))) + (IntKind.wrap IntKind.i64 (List.getD x0 (Int.toNat x2) (0 : Int))))) + (11 : Int))) &&& BitVec.ofInt (IntKind.bits IntKind.i64) (1073741823 : Int)).toNat : Int), IntKind.wrap IntKind.i64 (x2 + (1 : Int)))
    else
     none
   else
    some (x0, (0 : Int), x1)
  else
   some (x0, (0 : Int), x1)
noncomputable def spec_l1New.ll0 : ((List Int) × Int × Int) → LS
  | (x0, x1, x2) => ⟨[.cv ⟨.row K1, x0⟩, .cv ⟨.int .i64, x1⟩, .cv ⟨.int .i64, x2⟩], []⟩
noncomputable def spec_l1New.m (B0 : ((List Int) × Int × Int) → Option ((List Int) × Int × Int)) : (List Int) → Option ((List Int) × Int × Int)
  | a0_0 =>
  B0 (a0_0, IntKind.wrap IntKind.i64 ((758758 : Int) + (List.length a0_0 : Int)), (0 : Int))
noncomputable def spec_l1New.sig : Sig := ⟨[.val false [⟨.row K1, 0, 0, false⟩]], [(.ptr, [(.row K1, 0), (.int .i64, 0), (.int .i64, 0)])]⟩
noncomputable def spec_l1New.hint : Nat → Hint
  | 0 => ⟨[(0, .keep), (3, .keep), (4, .keep)], []⟩
  | _ => ⟨[], []⟩
noncomputable def spec_l1New.join : Nat → Option Hint
  | _ => none
noncomputable def spec_l1New.body : Code := (Try.f73).body.getD .skip
noncomputable def spec_l1New.rv : List ResultVar := (Try.f73).results.toList
noncomputable def spec_l1Byte.m  : ((List Int) × Int × Int) → Option (Int × Int × Int)
  | (a0_0, a0_1, a0_2) =>
  bif decide (¬ (33 : Int) < 0) then
   bif decide (¬ (47 : Int) < 0) then
    bif decide (a0_1 < (List.length a0_0 : Int)) then
     bif decide (0 ≤ a0_1) && decide (a0_1 < (List.length a0_0 : Int)) then
      some (IntKind.wrap IntKind.i64 ((BitVec.ofInt (IntKind.bits IntKind.i64) (IntKind.wrap IntKind.i64 ((IntKind.wrap IntKind.i64 ((BitVec.ofInt (IntKind.bits IntKind.i64) (IntKind.wrap IntKind.i64 ((BitVec.ofInt (IntKind.bits IntKind.i64) (Int.fdiv (IntKind.wrap IntKind.i64 ((IntKind.wrap IntKind.i64 (a0_2 * (6364136223846793005 : Int))) + (1442695040888963407 : Int))) (2 ^ (min (Int.toNat (33 : Int)) (IntKind.bits IntKind.i64)))) ^^^ BitVec.ofInt (IntKind.bits IntKind.i64) (Int.fdiv (IntKind.wrap IntKind.i64 ((IntKind.wrap IntKind.i64 (a0_2 * (6364136223846793005 : Int))) + (1442695040888963407 : Int))) (2 ^ (min (Int.toNat (47 : Int)) (IntKind.bits IntKind.i64))))).toNat : Int)) &&& BitVec.ofInt (IntKind.bits IntKind.i64) (255 : Int)).toNat : Int)) + (IntKind.wrap IntKind.i64 (List.getD a0_0 (Int.toNat a0_1) (0 : Int))))) &&& BitVec.ofInt (IntKind.bits IntKind.i64) (255 : Int)).toNat : Int), IntKind.wrap IntKind.i64 (a0_1 + (1 : Int)), IntKind.wrap IntKind.i64 ((IntKind.wrap IntKind.i64 (a0_2 * (6364136223846793005 : Int))) + (1442695040888963407 : Int)))
     else
      none
    else
     some (IntKind.wrap IntKind.i64 ((BitVec.ofInt (IntKind.bits IntKind.i64) (IntKind.wrap IntKind.i64 ((BitVec.ofInt (IntKind.bits IntKind.i64) (Int.fdiv (IntKind.wrap IntKind.i64 ((IntKind.wrap IntKind.i64 (a0_2 * (6364136223846793005 : Int))) + (1442695040888963407 : Int))) (2 ^ (min (Int.toNat (33 : Int)) (IntKind.bits IntKind.i64)))) ^^^ BitVec.ofInt (IntKind.bits IntKind.i64) (Int.fdiv (IntKind.wrap IntKind.i64 ((IntKind.wrap IntKind.i64 (a0_2 * (6364136223846793005 : Int))) + (1442695040888963407 : Int))) (2 ^ (min (Int.toNat (47 : Int)) (IntKind.bits IntKind.i64))))).toNat : Int)) &&& BitVec.ofInt (IntKind.bits IntKind.i64) (255 : Int)).toNat : Int), a0_1, IntKind.wrap IntKind.i64 ((IntKind.wrap IntKind.i64 (a0_2 * (6364136223846793005 : Int))) + (1442695040888963407 : Int)))
   else
    none
  else
   none
noncomputable def spec_l1Byte.sig : Sig := ⟨[.ptr [⟨.row K1, 0, 1, false⟩, ⟨.int .i64, 0, 0, true⟩, ⟨.int .i64, 0, 0, true⟩]], [(.one, [(.int .i64, 0)])]⟩
noncomputable def spec_l1Byte.hint : Nat → Hint
  | _ => ⟨[], []⟩
noncomputable def spec_l1Byte.join : Nat → Option Hint
  | _ => none
noncomputable def spec_l1Byte.body : Code := (Try.f108).body.getD .skip
noncomputable def spec_l1Byte.rv : List ResultVar := (Try.f108).results.toList
noncomputable def spec_l1Below.m (c108 : (List Int) × Int × Int → Option (Int × Int × Int)) : ((List Int) × Int × Int × Int) → Option (Int × Int × Int)
  | (a0_0, a0_1, a0_2, a1_0) =>
  bif decide (a1_0 ≤ (0 : Int)) then
   some ((0 : Int), a0_1, a0_2)
  else
   bif decide (a1_0 ≤ (256 : Int)) then
    Option.bind (c108 (a0_0, a0_1, a0_2)) fun r1 =>
     bif decide (¬ a1_0 = 0) then
      some (Int.tmod r1.1 a1_0, r1.2.1, r1.2.2)
     else
      none
   else
    Option.bind (c108 (a0_0, a0_1, a0_2)) fun r2 =>
     Option.bind (c108 (a0_0, r2.2.1, r2.2.2)) fun r3 =>
      Option.bind (c108 (a0_0, r3.2.1, r3.2.2)) fun r4 =>
       bif decide (¬ a1_0 = 0) then
        some (Int.tmod (IntKind.wrap IntKind.i64 ((IntKind.wrap IntKind.i64 ((IntKind.wrap IntKind.i64 (r2.1 * (65536 : Int))) + (IntKind.wrap IntKind.i64 (r3.1 * (256 : Int))))) + r4.1)) a1_0, r4.2.1, r4.2.2)
       else
        none
noncomputable def spec_l1Below.sig : Sig := ⟨[.ptr [⟨.row K1, 0, 1, false⟩, ⟨.int .i64, 0, 0, true⟩, ⟨.int .i64, 0, 0, true⟩], .val false [⟨.int .i64, 0, 0, false⟩]], [(.one, [(.int .i64, 0)])]⟩
noncomputable def spec_l1Below.hint : Nat → Hint
  | _ => ⟨[], []⟩
noncomputable def spec_l1Below.join : Nat → Option Hint
  | _ => none
noncomputable def spec_l1Below.body : Code := (Try.f87).body.getD .skip
noncomputable def spec_l1Below.rv : List ResultVar := (Try.f87).results.toList
noncomputable def spec_l1Int.m (c87 : (List Int) × Int × Int × Int → Option (Int × Int × Int)) : ((List Int) × Int × Int × (List Int)) → Option (Int × Int × Int)
  | (a0_0, a0_1, a0_2, a1_0) =>
  Option.bind (c87 (a0_0, a0_1, a0_2, (List.length a1_0 : Int))) fun r1 =>
   bif decide (0 ≤ r1.1) && decide (r1.1 < (List.length a1_0 : Int)) then
    some ((List.getD a1_0 (Int.toNat r1.1) (0 : Int)), r1.2.1, r1.2.2)
   else
    none
noncomputable def spec_l1Int.sig : Sig := ⟨[.ptr [⟨.row K1, 0, 1, false⟩, ⟨.int .i64, 0, 0, true⟩, ⟨.int .i64, 0, 0, true⟩], .val false [⟨.row K4, 0, 0, false⟩]], [(.one, [(.int .i64, 0)])]⟩
noncomputable def spec_l1Int.hint : Nat → Hint
  | _ => ⟨[], []⟩
noncomputable def spec_l1Int.join : Nat → Option Hint
  | _ => none
noncomputable def spec_l1Int.body : Code := (Try.f76).body.getD .skip
noncomputable def spec_l1Int.rv : List ResultVar := (Try.f76).results.toList
noncomputable def spec_l12FaultList.s0 (c76 : (List Int) × Int × Int × (List Int) → Option (Int × Int × Int)) (c87 : (List Int) × Int × Int × Int → Option (Int × Int × Int)) (L0 : (Int × Int × (List Int) × Int × Int × (List (Int × Int × Int))) → Option ((List (Int × Int × Int)) × Int × Int)) : (Int × Int × (List Int) × Int × Int × (List (Int × Int × Int))) → Option ((List (Int × Int × Int)) × Int × Int)
  | (x0, x1, x2, x3, x4, x5) =>
  bif decide (x1 > (0 : Int)) then
   Option.bind (c87 (x2, x3, x4, (12 : Int))) fun r2 =>
    Option.bind (c87 (x2, r2.2.1, r2.2.2, (64 : Int))) fun r3 =>
     Option.bind (c76 (x2, r3.2.1, r3.2.2, ([(0 : Int), (1 : Int), (2 : Int), (3 : Int), (5 : Int), (7 : Int), (1048575 : Int), r3.1] : List Int))) fun r4 =>
      Option.bind (c76 (x2, r4.2.1, r4.2.2, ([(0 : Int), (1 : Int), (5 : Int), (20 : Int), (256 : Int)] : List Int))) fun r5 =>
       bif decide ((List.length x5 + List.length ([(IntKind.wrap IntKind.i64 (x0 + r2.1), r4.1, r5.1)] : List (Int × Int × Int))) * 24 ≤ 140737488355328) then
        L0 (IntKind.wrap IntKind.i64 ((IntKind.wrap IntKind.i64 (x0 + r2.1)) + (1 : Int)), IntKind.wrap IntKind.i64 (x1 - (1 : Int)), x2, r5.2.1, r5.2.2, x5 ++ ([(IntKind.wrap IntKind.i64 (x0 + r2.1), r4.1, r5.1)] : List (Int × Int × Int)))
       else
        none
  else
   some (x5, x3, x4)
noncomputable def spec_l12FaultList.ll0 : (Int × Int × (List Int) × Int × Int × (List (Int × Int × Int))) → LS
  | (x0, x1, x2, x3, x4, x5) => ⟨[.addr 2 0 [] 0, .ref 12 0 [] none 0, .cv ⟨.int .i64, x0⟩, .cv ⟨.int .i64, x1⟩], [⟨false, [⟨0, 0, .lk ⟨.row K1, x2⟩⟩, ⟨0, 0, .mk 0 ⟨.int .i64, x3⟩⟩, ⟨0, 0, .mk 0 ⟨.int .i64, x4⟩⟩]⟩, ⟨true, [⟨0, 0, .mk 9 ⟨.row K0, x5⟩⟩]⟩]⟩
noncomputable def spec_l12FaultList.m (c87 : (List Int) × Int × Int × Int → Option (Int × Int × Int)) (B0 : (Int × Int × (List Int) × Int × Int × (List (Int × Int × Int))) → Option ((List (Int × Int × Int)) × Int × Int)) : ((List Int) × Int × Int) → Option ((List (Int × Int × Int)) × Int × Int)
  | (a0_0, a0_1, a0_2) =>
  Option.bind (c87 (a0_0, a0_1, a0_2, (4 : Int))) fun r1 =>
   B0 ((0 : Int), r1.1, a0_0, r1.2.1, r1.2.2, ([] : List (Int × Int × Int)))
noncomputable def spec_l12FaultList.sig : Sig := ⟨[.ptr [⟨.row K1, 0, 1, false⟩, ⟨.int .i64, 0, 0, true⟩, ⟨.int .i64, 0, 0, true⟩]], [(.one, [(.row K0, 1)])]⟩
noncomputable def spec_l12FaultList.hint : Nat → Hint
  | 0 => ⟨[(0, .keep), (3, .own 9 K0), (4, .keep), (5, .keep)], [(2, [9, 0, 0])]⟩
  | _ => ⟨[], []⟩
noncomputable def spec_l12FaultList.join : Nat → Option Hint
  | _ => none
noncomputable def spec_l12FaultList.body : Code := (Try.f74).body.getD .skip
noncomputable def spec_l12FaultList.rv : List ResultVar := (Try.f74).results.toList
noncomputable def spec_l1Once.m (c87 : (List Int) × Int × Int × Int → Option (Int × Int × Int)) : ((List Int) × Int × Int × Int) → Option (Bool × Int × Int)
  | (a0_0, a0_1, a0_2, a1_0) =>
  Option.bind (c87 (a0_0, a0_1, a0_2, a1_0)) fun r1 =>
   some (r1.1 == (0 : Int), r1.2.1, r1.2.2)
noncomputable def spec_l1Once.sig : Sig := ⟨[.ptr [⟨.row K1, 0, 1, false⟩, ⟨.int .i64, 0, 0, true⟩, ⟨.int .i64, 0, 0, true⟩], .val false [⟨.int .i64, 0, 0, false⟩]], [(.one, [(.bool, 0)])]⟩
noncomputable def spec_l1Once.hint : Nat → Hint
  | _ => ⟨[], []⟩
noncomputable def spec_l1Once.join : Nat → Option Hint
  | _ => none
noncomputable def spec_l1Once.body : Code := (Try.f75).body.getD .skip
noncomputable def spec_l1Once.rv : List ResultVar := (Try.f75).results.toList
noncomputable def spec_l1Bytes.s0 (c108 : (List Int) × Int × Int → Option (Int × Int × Int)) (L0 : (Int × Int × (List Int) × Int × Int × (List Int)) → Option ((List Int) × Int × Int)) : (Int × Int × (List Int) × Int × Int × (List Int)) → Option ((List Int) × Int × Int)
  | (x0, x1, x2, x3, x4, x5) =>
  bif decide (x1 < x0) then
   Option.bind (c108 (x2, x3, x4)) fun r1 =>
    bif decide ((List.length x5 + List.length ([IntKind.wrap IntKind.u8 r1.1] : List Int)) * 1 ≤ 140737488355328) then
     L0 (x0, IntKind.wrap IntKind.i64 (x1 + (1 : Int)), x2, r1.2.1, r1.2.2, x5 ++ ([IntKind.wrap IntKind.u8 r1.1] : List Int))
    else
     none
  else
   some (x5, x3, x4)
noncomputable def spec_l1Bytes.ll0 : (Int × Int × (List Int) × Int × Int × (List Int)) → LS
  | (x0, x1, x2, x3, x4, x5) => ⟨[.addr 2 0 [] 0, .cv ⟨.int .i64, x0⟩, .ref 20 0 [] none 0, .cv ⟨.int .i64, x1⟩], [⟨false, [⟨0, 0, .lk ⟨.row K1, x2⟩⟩, ⟨0, 0, .mk 0 ⟨.int .i64, x3⟩⟩, ⟨0, 0, .mk 0 ⟨.int .i64, x4⟩⟩]⟩, ⟨true, [⟨0, 0, .mk 9 ⟨.row K1, x5⟩⟩]⟩]⟩
noncomputable def spec_l1Bytes.m (B0 : (Int × Int × (List Int) × Int × Int × (List Int)) → Option ((List Int) × Int × Int)) : ((List Int) × Int × Int × Int) → Option ((List Int) × Int × Int)
  | (a0_0, a0_1, a0_2, a1_0) =>
  B0 (a1_0, (0 : Int), a0_0, a0_1, a0_2, ([] : List Int))
noncomputable def spec_l1Bytes.sig : Sig := ⟨[.ptr [⟨.row K1, 0, 1, false⟩, ⟨.int .i64, 0, 0, true⟩, ⟨.int .i64, 0, 0, true⟩], .val false [⟨.int .i64, 0, 0, false⟩]], [(.one, [(.row K1, 1)])]⟩
noncomputable def spec_l1Bytes.hint : Nat → Hint
  | 0 => ⟨[(0, .keep), (1, .keep), (5, .own 9 K1), (6, .keep)], [(2, [9, 0, 0])]⟩
  | _ => ⟨[], []⟩
noncomputable def spec_l1Bytes.join : Nat → Option Hint
  | _ => none
noncomputable def spec_l1Bytes.body : Code := (Try.f107).body.getD .skip
noncomputable def spec_l1Bytes.rv : List ResultVar := (Try.f107).results.toList
noncomputable def spec_l1Some.m (c76 : (List Int) × Int × Int × (List Int) → Option (Int × Int × Int)) (c107 : (List Int) × Int × Int × Int → Option ((List Int) × Int × Int)) : ((List Int) × Int × Int) → Option ((List Int) × Int × Int)
  | (a0_0, a0_1, a0_2) =>
  Option.bind (c76 (a0_0, a0_1, a0_2, ([(0 : Int), (1 : Int), (2 : Int), (5 : Int), (9 : Int)] : List Int))) fun r1 =>
   Option.bind (c107 (a0_0, r1.2.1, r1.2.2, r1.1)) fun r2 =>
    some (r2.1, r2.2.1, r2.2.2)
noncomputable def spec_l1Some.sig : Sig := ⟨[.ptr [⟨.row K1, 0, 1, false⟩, ⟨.int .i64, 0, 0, true⟩, ⟨.int .i64, 0, 0, true⟩]], [(.one, [(.row K1, 1)])]⟩
noncomputable def spec_l1Some.hint : Nat → Hint
  | _ => ⟨[], []⟩
noncomputable def spec_l1Some.join : Nat → Option Hint
  | _ => none
noncomputable def spec_l1Some.body : Code := (Try.f86).body.getD .skip
noncomputable def spec_l1Some.rv : List ResultVar := (Try.f86).results.toList
noncomputable def spec_l12Fault.s0 (L0 : (Int × (List (List Int)) × (List (Int × (List Int))) × Int × (List (Int × Int × Int)) × Bool × Int × Int × Int) → Option (Int × Int × Int × Bool)) : (Int × (List (List Int)) × (List (Int × (List Int))) × Int × (List (Int × Int × Int)) × Bool × Int × Int × Int) → Option (Int × Int × Int × Bool)
  | (x0, x1, x2, x3, x4, x5, x6, x7, x8) =>
  bif decide (x0 < (List.length x4 : Int)) then
   bif decide (0 ≤ x0) && decide (x0 < (List.length x4 : Int)) then
    bif ((List.getD x4 (Int.toNat x0) ((0 : Int), (0 : Int), (0 : Int))).1) == x3 then
     bif decide (0 ≤ x0) && decide (x0 < (List.length x4 : Int)) then
      some ((List.getD x4 (Int.toNat x0) ((0 : Int), (0 : Int), (0 : Int))).1, (List.getD x4 (Int.toNat x0) ((0 : Int), (0 : Int), (0 : Int))).2.1, (List.getD x4 (Int.toNat x0) ((0 : Int), (0 : Int), (0 : Int))).2.2, true)
     else
      none
    else
     L0 (IntKind.wrap IntKind.i64 (x0 + (1 : Int)), x1, x2, x3, x4, x5, x6, x7, x8)
   else
    none
  else
   some ((0 : Int), (0 : Int), (0 : Int), false)
noncomputable def spec_l12Fault.ll0 : (Int × (List (List Int)) × (List (Int × (List Int))) × Int × (List (Int × Int × Int)) × Bool × Int × Int × Int) → LS
  | (x0, x1, x2, x3, x4, x5, x6, x7, x8) => ⟨[.addr 65 0 [] 0, .addr 129 0 [] 0, .cv ⟨.int .i64, x0⟩], [⟨false, [⟨0, 0, .mk 0 ⟨.row K2, x1⟩⟩, ⟨0, 0, .mk 0 ⟨.row K3, x2⟩⟩, ⟨0, 0, .mk 0 ⟨.int .i64, x3⟩⟩, ⟨0, 0, .mk 0 ⟨.row K0, x4⟩⟩, ⟨0, 0, .mk 0 ⟨.bool, x5⟩⟩]⟩, ⟨false, [⟨0, 0, .mk 0 ⟨.int .i64, x6⟩⟩, ⟨0, 0, .mk 0 ⟨.int .i64, x7⟩⟩, ⟨0, 0, .mk 0 ⟨.int .i64, x8⟩⟩]⟩]⟩
noncomputable def spec_l12Fault.m (B0 : (Int × (List (List Int)) × (List (Int × (List Int))) × Int × (List (Int × Int × Int)) × Bool × Int × Int × Int) → Option (Int × Int × Int × Bool)) : ((List (List Int)) × (List (Int × (List Int))) × Int × (List (Int × Int × Int)) × Bool) → Option (Int × Int × Int × Bool)
  | (a0_0, a0_1, a0_2, a0_3, a0_4) =>
  B0 ((0 : Int), a0_0, a0_1, a0_2, a0_3, a0_4, (0 : Int), (0 : Int), (0 : Int))
noncomputable def spec_l12Fault.sig : Sig := ⟨[.val true [⟨.row K2, 0, 0, false⟩, ⟨.row K3, 0, 0, false⟩, ⟨.int .i64, 0, 0, false⟩, ⟨.row K0, 0, 0, false⟩, ⟨.bool, 0, 0, false⟩]], [(.agg, [(.int .i64, 0), (.int .i64, 0), (.int .i64, 0)]), (.one, [(.bool, 0)])]⟩
noncomputable def spec_l12Fault.hint : Nat → Hint
  | 0 => ⟨[(1, .keep), (2, .keep), (4, .keep)], [(65, [0, 0, 0, 0, 0]), (129, [0, 0, 0])]⟩
  | _ => ⟨[], []⟩
noncomputable def spec_l12Fault.join : Nat → Option Hint
  | _ => none
noncomputable def spec_l12Fault.body : Code := (Try.f105).body.getD .skip
noncomputable def spec_l12Fault.rv : List ResultVar := (Try.f105).results.toList
noncomputable def spec_l12Lose.s0 (B2 : (Int × Int × (List (List Int)) × (List (Int × (List Int))) × Int × (List (Int × Int × Int)) × Bool × Int × Int × Int) → Option ((List (List Int)) × (List (Int × (List Int))) × Int × (List (Int × Int × Int)) × Bool)) (L0 : (Int × Int × (List (List Int)) × (List (Int × (List Int))) × Int × (List (Int × Int × Int)) × Bool × Int × Int × Int) → Option ((List (List Int)) × (List (Int × (List Int))) × Int × (List (Int × Int × Int)) × Bool)) : (Int × Int × (List (List Int)) × (List (Int × (List Int))) × Int × (List (Int × Int × Int)) × Bool × Int × Int × Int) → Option ((List (List Int)) × (List (Int × (List Int))) × Int × (List (Int × Int × Int)) × Bool)
  | (x0, x1, x2, x3, x4, x5, x6, x7, x8, x9) =>
  bif decide (x1 < (List.length x3 : Int)) then
   bif decide (x1 < (20 : Int)) then
    bif decide (¬ (IntKind.wrap IntKind.u64 x1) < 0) then
     bif (IntKind.wrap IntKind.i64 ((BitVec.ofInt (IntKind.bits IntKind.i64) (Int.fdiv x8 (2 ^ (min (Int.toNat (IntKind.wrap IntKind.u64 x1)) (IntKind.bits IntKind.i64)))) &&& BitVec.ofInt (IntKind.bits IntKind.i64) (1 : Int)).toNat : Int)) == (1 : Int) then
      L0 (x1, IntKind.wrap IntKind.i64 (x1 + (1 : Int)), x2, x3, x4, x5, x6, x7, x8, x9)
     else
      L0 (x0, IntKind.wrap IntKind.i64 (x1 + (1 : Int)), x2, x3, x4, x5, x6, x7, x8, x9)
    else
     none
   else
    B2 (x0, (0 : Int), x2, x3, x4, x5, x6, x7, x8, x9)
  else
   B2 (x0, (0 : Int), x2, x3, x4, x5, x6, x7, x8, x9)
noncomputable def spec_l12Lose.ll0 : (Int × Int × (List (List Int)) × (List (Int × (List Int))) × Int × (List (Int × Int × Int)) × Bool × Int × Int × Int) → LS
  | (x0, x1, x2, x3, x4, x5, x6, x7, x8, x9) => ⟨[.addr 2 0 [] 0, .addr 193 0 [] 0, .cv ⟨.int .i64, x0⟩, .cv ⟨.int .i64, x1⟩], [⟨false, [⟨0, 0, .mk 1 ⟨.row K2, x2⟩⟩, ⟨0, 0, .mk 1 ⟨.row K3, x3⟩⟩, ⟨0, 0, .mk 0 ⟨.int .i64, x4⟩⟩, ⟨0, 0, .mk 1 ⟨.row K0, x5⟩⟩, ⟨0, 0, .mk 0 ⟨.bool, x6⟩⟩]⟩, ⟨false, [⟨0, 0, .mk 0 ⟨.int .i64, x7⟩⟩, ⟨0, 0, .mk 0 ⟨.int .i64, x8⟩⟩, ⟨0, 0, .mk 0 ⟨.int .i64, x9⟩⟩]⟩]⟩
noncomputable def spec_l12Lose.s2 (L2 : (Int × Int × (List (List Int)) × (List (Int × (List Int))) × Int × (List (Int × Int × Int)) × Bool × Int × Int × Int) → Option ((List (List Int)) × (List (Int × (List Int))) × Int × (List (Int × Int × Int)) × Bool)) : (Int × Int × (List (List Int)) × (List (Int × (List Int))) × Int × (List (Int × Int × Int)) × Bool × Int × Int × Int) → Option ((List (List Int)) × (List (Int × (List Int))) × Int × (List (Int × Int × Int)) × Bool)
  | (x0, x1, x2, x3, x4, x5, x6, x7, x8, x9) =>
  bif decide (x1 ≤ x0) then
   bif decide (0 ≤ x1) && decide (x1 < (List.length x3 : Int)) then
    bif decide (¬ (IntKind.wrap IntKind.u64 x1) < 0) then
     bif (IntKind.wrap IntKind.i64 ((BitVec.ofInt (IntKind.bits IntKind.i64) (Int.fdiv x8 (2 ^ (min (Int.toNat (IntKind.wrap IntKind.u64 x1)) (IntKind.bits IntKind.i64)))) &&& BitVec.ofInt (IntKind.bits IntKind.i64) (1 : Int)).toNat : Int)) == (0 : Int) then
      L2 (x0, IntKind.wrap IntKind.i64 (x1 + (1 : Int)), x2, x3, x4, x5, x6, x7, x8, x9)
     else
      bif x1 == x0 then
       bif decide (x9 < (List.length ((List.getD x3 (Int.toNat x1) ((0 : Int), ([] : List Int))).2) : Int)) then
        bif decide (0 ≤ (0 : Int)) && decide ((0 : Int) ≤ x9) && decide (x9 ≤ (List.length ((List.getD x3 (Int.toNat x1) ((0 : Int), ([] : List Int))).2) : Int)) then
         bif decide ((List.length ([] : List Int) + List.length (List.drop (Int.toNat (0 : Int)) (List.take (Int.toNat x9) ((List.getD x3 (Int.toNat x1) ((0 : Int), ([] : List Int))).2)))) * 1 ≤ 140737488355328) then
          bif decide (0 ≤ ((List.getD x3 (Int.toNat x1) ((0 : Int), ([] : List Int))).1)) && decide (((List.getD x3 (Int.toNat x1) ((0 : Int), ([] : List Int))).1) < (List.length x2 : Int)) then
           L2 (x0, IntKind.wrap IntKind.i64 (x1 + (1 : Int)), List.set x2 (Int.toNat ((List.getD x3 (Int.toNat x1) ((0 : Int), ([] : List Int))).1)) (([] : List Int) ++ (List.drop (Int.toNat (0 : Int)) (List.take (Int.toNat x9) ((List.getD x3 (Int.toNat x1) ((0 : Int), ([] : List Int))).2)))), x3, x4, x5, x6, x7, x8, x9)
          else
           none
         else
          none
        else
         none
       else
        bif decide ((List.length ([] : List Int) + List.length ((List.getD x3 (Int.toNat x1) ((0 : Int), ([] : List Int))).2)) * 1 ≤ 140737488355328) then
         bif decide (0 ≤ ((List.getD x3 (Int.toNat x1) ((0 : Int), ([] : List Int))).1)) && decide (((List.getD x3 (Int.toNat x1) ((0 : Int), ([] : List Int))).1) < (List.length x2 : Int)) then
          L2 (x0, IntKind.wrap IntKind.i64 (x1 + (1 : Int)), List.set x2 (Int.toNat ((List.getD x3 (Int.toNat x1) ((0 : Int), ([] : List Int))).1)) (([] : List Int) ++ ((List.getD x3 (Int.toNat x1) ((0 : Int), ([] : List Int))).2)), x3, x4, x5, x6, x7, x8, x9)
         else
          none
        else
         none
      else
       bif decide ((List.length ([] : List Int) + List.length ((List.getD x3 (Int.toNat x1) ((0 : Int), ([] : List Int))).2)) * 1 ≤ 140737488355328) then
        bif decide (0 ≤ ((List.getD x3 (Int.toNat x1) ((0 : Int), ([] : List Int))).1)) && decide (((List.getD x3 (Int.toNat x1) ((0 : Int), ([] : List Int))).1) < (List.length x2 : Int)) then
         L2 (x0, IntKind.wrap IntKind.i64 (x1 + (1 : Int)), List.set x2 (Int.toNat ((List.getD x3 (Int.toNat x1) ((0 : Int), ([] : List Int))).1)) (([] : List Int) ++ ((List.getD x3 (Int.toNat x1) ((0 : Int), ([] : List Int))).2)), x3, x4, x5, x6, x7, x8, x9)
        else
         none
       else
        none
    else
     none
   else
    none
  else
   some (x2, ([] : List (Int × (List Int))), x4, x5, true)
noncomputable def spec_l12Lose.ll2 : (Int × Int × (List (List Int)) × (List (Int × (List Int))) × Int × (List (Int × Int × Int)) × Bool × Int × Int × Int) → LS
  | (x0, x1, x2, x3, x4, x5, x6, x7, x8, x9) => ⟨[.addr 2 0 [] 0, .addr 193 0 [] 0, .cv ⟨.int .i64, x0⟩, .cv ⟨.int .i64, x1⟩], [⟨false, [⟨0, 0, .mk 1 ⟨.row K2, x2⟩⟩, ⟨0, 0, .mk 1 ⟨.row K3, x3⟩⟩, ⟨0, 0, .mk 0 ⟨.int .i64, x4⟩⟩, ⟨0, 0, .mk 1 ⟨.row K0, x5⟩⟩, ⟨0, 0, .mk 0 ⟨.bool, x6⟩⟩]⟩, ⟨false, [⟨0, 0, .mk 0 ⟨.int .i64, x7⟩⟩, ⟨0, 0, .mk 0 ⟨.int .i64, x8⟩⟩, ⟨0, 0, .mk 0 ⟨.int .i64, x9⟩⟩]⟩]⟩
noncomputable def spec_l12Lose.m (B0 : (Int × Int × (List (List Int)) × (List (Int × (List Int))) × Int × (List (Int × Int × Int)) × Bool × Int × Int × Int) → Option ((List (List Int)) × (List (Int × (List Int))) × Int × (List (Int × Int × Int)) × Bool)) : ((List (List Int)) × (List (Int × (List Int))) × Int × (List (Int × Int × Int)) × Bool × Int × Int × Int) → Option ((List (List Int)) × (List (Int × (List Int))) × Int × (List (Int × Int × Int)) × Bool)
  | (a0_0, a0_1, a0_2, a0_3, a0_4, a1_0, a1_1, a1_2) =>
  B0 ((-1 : Int), (0 : Int), a0_0, a0_1, a0_2, a0_3, a0_4, a1_0, a1_1, a1_2)
noncomputable def spec_l12Lose.sig : Sig := ⟨[.ptr [⟨.row K2, 1, 1, true⟩, ⟨.row K3, 1, 2, true⟩, ⟨.int .i64, 0, 0, true⟩, ⟨.row K0, 1, 1, true⟩, ⟨.bool, 0, 0, true⟩], .val true [⟨.int .i64, 0, 0, false⟩, ⟨.int .i64, 0, 0, false⟩, ⟨.int .i64, 0, 0, false⟩]], []⟩
noncomputable def spec_l12Lose.hint : Nat → Hint
  | 0 => ⟨[(0, .keep), (3, .keep), (4, .keep), (5, .keep)], [(2, [1, 1, 0, 1, 0]), (193, [0, 0, 0])]⟩
  | 2 => ⟨[(0, .keep), (3, .keep), (4, .keep), (6, .keep)], [(2, [1, 1, 0, 1, 0]), (193, [0, 0, 0])]⟩
  | _ => ⟨[], []⟩
noncomputable def spec_l12Lose.join : Nat → Option Hint
  | _ => none
noncomputable def spec_l12Lose.body : Code := (Try.f106).body.getD .skip
noncomputable def spec_l12Lose.rv : List ResultVar := (Try.f106).results.toList
noncomputable def spec_l12Flush.s0 (L0 : (Int × (List (List Int)) × (List (Int × (List Int))) × Int × (List (Int × Int × Int)) × Bool) → Option (Int × (List (List Int)) × (List (Int × (List Int))) × Int × (List (Int × Int × Int)) × Bool)) : (Int × (List (List Int)) × (List (Int × (List Int))) × Int × (List (Int × Int × Int)) × Bool) → Option (Int × (List (List Int)) × (List (Int × (List Int))) × Int × (List (Int × Int × Int)) × Bool)
  | (x0, x1, x2, x3, x4, x5) =>
  bif decide (x0 < (List.length x2 : Int)) then
   bif decide (0 ≤ x0) && decide (x0 < (List.length x2 : Int)) then
    bif decide (0 ≤ x0) && decide (x0 < (List.length x2 : Int)) then
     bif decide (0 ≤ ((List.getD x2 (Int.toNat x0) ((0 : Int), ([] : List Int))).1)) && decide (((List.getD x2 (Int.toNat x0) ((0 : Int), ([] : List Int))).1) < (List.length x1 : Int)) then
      L0 (IntKind.wrap IntKind.i64 (x0 + (1 : Int)), List.set x1 (Int.toNat ((List.getD x2 (Int.toNat x0) ((0 : Int), ([] : List Int))).1)) ((List.getD x2 (Int.toNat x0) ((0 : Int), ([] : List Int))).2), x2, x3, x4, x5)
     else
      none
    else
     none
   else
    none
  else
   some ((0 : Int), x1, ([] : List (Int × (List Int))), x3, x4, x5)
noncomputable def spec_l12Flush.ll0 : (Int × (List (List Int)) × (List (Int × (List Int))) × Int × (List (Int × Int × Int)) × Bool) → LS
  | (x0, x1, x2, x3, x4, x5) => ⟨[.addr 2 0 [] 0, .cv ⟨.int .i64, x0⟩], [⟨false, [⟨0, 0, .mk 1 ⟨.row K2, x1⟩⟩, ⟨0, 0, .mk 1 ⟨.row K3, x2⟩⟩, ⟨0, 0, .mk 0 ⟨.int .i64, x3⟩⟩, ⟨0, 0, .mk 1 ⟨.row K0, x4⟩⟩, ⟨0, 0, .mk 0 ⟨.bool, x5⟩⟩]⟩]⟩
noncomputable def spec_l12Flush.m (c105 : (List (List Int)) × (List (Int × (List Int))) × Int × (List (Int × Int × Int)) × Bool → Option (Int × Int × Int × Bool)) (c106 : (List (List Int)) × (List (Int × (List Int))) × Int × (List (Int × Int × Int)) × Bool × Int × Int × Int → Option ((List (List Int)) × (List (Int × (List Int))) × Int × (List (Int × Int × Int)) × Bool)) (B0 : (Int × (List (List Int)) × (List (Int × (List Int))) × Int × (List (Int × Int × Int)) × Bool) → Option (Int × (List (List Int)) × (List (Int × (List Int))) × Int × (List (Int × Int × Int)) × Bool)) : ((List (List Int)) × (List (Int × (List Int))) × Int × (List (Int × Int × Int)) × Bool) → Option (Int × (List (List Int)) × (List (Int × (List Int))) × Int × (List (Int × Int × Int)) × Bool)
  | (a0_0, a0_1, a0_2, a0_3, a0_4) =>
  bif a0_4 then
   some ((9 : Int), a0_0, a0_1, a0_2, a0_3, a0_4)
  else
   bif decide (a0_2 ≥ (100000 : Int)) then
    some ((9 : Int), a0_0, a0_1, a0_2, a0_3, a0_4)
   else
    Option.bind (c105 (a0_0, a0_1, a0_2, a0_3, a0_4)) fun r1 =>
     bif r1.2.2.2 then
      Option.bind (c106 (a0_0, a0_1, IntKind.wrap IntKind.i64 (a0_2 + (1 : Int)), a0_3, a0_4, r1.1, r1.2.1, r1.2.2.1)) fun r2 =>
       some ((9 : Int), r2.1, r2.2.1, r2.2.2.1, r2.2.2.2.1, r2.2.2.2.2)
     else
      B0 ((0 : Int), a0_0, a0_1, IntKind.wrap IntKind.i64 (a0_2 + (1 : Int)), a0_3, a0_4)
noncomputable def spec_l12Flush.sig : Sig := ⟨[.ptr [⟨.row K2, 1, 1, true⟩, ⟨.row K3, 1, 1, true⟩, ⟨.int .i64, 0, 0, true⟩, ⟨.row K0, 1, 1, true⟩, ⟨.bool, 0, 0, true⟩]], [(.one, [(.int .i64, 0)])]⟩
noncomputable def spec_l12Flush.hint : Nat → Hint
  | 0 => ⟨[(0, .keep), (5, .keep)], [(2, [1, 1, 0, 1, 0])]⟩
  | _ => ⟨[], []⟩
noncomputable def spec_l12Flush.join : Nat → Option Hint
  | _ => none
noncomputable def spec_l12Flush.body : Code := (Try.f85).body.getD .skip
noncomputable def spec_l12Flush.rv : List ResultVar := (Try.f85).results.toList
noncomputable def spec_l12Write.m (c105 : (List (List Int)) × (List (Int × (List Int))) × Int × (List (Int × Int × Int)) × Bool → Option (Int × Int × Int × Bool)) (c106 : (List (List Int)) × (List (Int × (List Int))) × Int × (List (Int × Int × Int)) × Bool × Int × Int × Int → Option ((List (List Int)) × (List (Int × (List Int))) × Int × (List (Int × Int × Int)) × Bool)) : ((List (List Int)) × (List (Int × (List Int))) × Int × (List (Int × Int × Int)) × Bool × Int × (List Int)) → Option (Int × (List (List Int)) × (List (Int × (List Int))) × Int × (List (Int × Int × Int)) × Bool)
  | (a0_0, a0_1, a0_2, a0_3, a0_4, a1_0, a2_0) =>
  bif a0_4 then
   some ((9 : Int), a0_0, a0_1, a0_2, a0_3, a0_4)
  else
   bif decide (a0_2 ≥ (100000 : Int)) then
    some ((9 : Int), a0_0, a0_1, a0_2, a0_3, a0_4)
   else
    bif decide ((List.length a0_1 : Int) ≥ (60 : Int)) then
     some ((1 : Int), a0_0, a0_1, a0_2, a0_3, a0_4)
    else
     Option.bind (c105 (a0_0, a0_1, a0_2, a0_3, a0_4)) fun r1 =>
      bif decide ((List.length ([] : List Int) + List.length a2_0) * 1 ≤ 140737488355328) then
       bif decide ((List.length a0_1 + List.length ([(a1_0, ([] : List Int) ++ a2_0)] : List (Int × (List Int)))) * 32 ≤ 140737488355328) then
        bif r1.2.2.2 then
         Option.bind (c106 (a0_0, a0_1 ++ ([(a1_0, ([] : List Int) ++ a2_0)] : List (Int × (List Int))), IntKind.wrap IntKind.i64 (a0_2 + (1 : Int)), a0_3, a0_4, r1.1, r1.2.1, r1.2.2.1)) fun r2 =>
          some ((9 : Int), r2.1, r2.2.1, r2.2.2.1, r2.2.2.2.1, r2.2.2.2.2)
        else
         some ((0 : Int), a0_0, a0_1 ++ ([(a1_0, ([] : List Int) ++ a2_0)] : List (Int × (List Int))), IntKind.wrap IntKind.i64 (a0_2 + (1 : Int)), a0_3, a0_4)
       else
        none
      else
       none
noncomputable def spec_l12Write.sig : Sig := ⟨[.ptr [⟨.row K2, 1, 1, true⟩, ⟨.row K3, 1, 1, true⟩, ⟨.int .i64, 0, 0, true⟩, ⟨.row K0, 1, 1, true⟩, ⟨.bool, 0, 0, true⟩], .val false [⟨.int .i64, 0, 0, false⟩], .val false [⟨.row K1, 0, 0, false⟩]], [(.one, [(.int .i64, 0)])]⟩
noncomputable def spec_l12Write.hint : Nat → Hint
  | _ => ⟨[], []⟩
noncomputable def spec_l12Write.join : Nat → Option Hint
  | _ => none
noncomputable def spec_l12Write.body : Code := (Try.f88).body.getD .skip
noncomputable def spec_l12Write.rv : List ResultVar := (Try.f88).results.toList
noncomputable def spec_l12Draw.s0 (c85 : (List (List Int)) × (List (Int × (List Int))) × Int × (List (Int × Int × Int)) × Bool → Option (Int × (List (List Int)) × (List (Int × (List Int))) × Int × (List (Int × Int × Int)) × Bool)) (c86 : (List Int) × Int × Int → Option ((List Int) × Int × Int)) (c87 : (List Int) × Int × Int × Int → Option (Int × Int × Int)) (c88 : (List (List Int)) × (List (Int × (List Int))) × Int × (List (Int × Int × Int)) × Bool × Int × (List Int) → Option (Int × (List (List Int)) × (List (Int × (List Int))) × Int × (List (Int × Int × Int)) × Bool)) (L0 : (Int × (List Int) × Int × Int × (List (List Int)) × (List (Int × (List Int))) × Int × (List (Int × Int × Int)) × Bool × (List (List Int)) × (List (Int × (List Int))) × Int × (List (Int × Int × Int)) × Bool) → Option ((List (List Int)) × (List (Int × (List Int))) × Int × (List (Int × Int × Int)) × Bool × Int × Int)) : (Int × (List Int) × Int × Int × (List (List Int)) × (List (Int × (List Int))) × Int × (List (Int × Int × Int)) × Bool × (List (List Int)) × (List (Int × (List Int))) × Int × (List (Int × Int × Int)) × Bool) → Option ((List (List Int)) × (List (Int × (List Int))) × Int × (List (Int × Int × Int)) × Bool × Int × Int)
  | (x0, x1, x2, x3, x4, x5, x6, x7, x8, x9, x10, x11, x12, x13) =>
  bif decide (x0 > (0 : Int)) then
   Option.bind (c87 (x1, x2, x3, (5 : Int))) fun r5 =>
    bif r5.1 == (0 : Int) then
     Option.bind (c85 (x9, x10, x11, x12, x13)) fun r6 =>
      L0 (IntKind.wrap IntKind.i64 (x0 - (1 : Int)), x1, r5.2.1, r5.2.2, x4, x5, x6, x7, x8, r6.2.1, r6.2.2.1, r6.2.2.2.1, r6.2.2.2.2.1, r6.2.2.2.2.2)
    else
     bif r5.1 == (1 : Int) then
      L0 (IntKind.wrap IntKind.i64 (x0 - (1 : Int)), x1, r5.2.1, r5.2.2, x4, x5, x6, x7, x8, x9, x10, x11, x12, false)
     else
      Option.bind (c87 (x1, r5.2.1, r5.2.2, (List.length x9 : Int))) fun r7 =>
       Option.bind (c86 (x1, r7.2.1, r7.2.2)) fun r8 =>
        Option.bind (c88 (x9, x10, x11, x12, x13, r7.1, r8.1)) fun r9 =>
         L0 (IntKind.wrap IntKind.i64 (x0 - (1 : Int)), x1, r8.2.1, r8.2.2, x4, x5, x6, x7, x8, r9.2.1, r9.2.2.1, r9.2.2.2.1, r9.2.2.2.2.1, r9.2.2.2.2.2)
  else
   some (x9, x10, x11, x12, x13, x2, x3)
noncomputable def spec_l12Draw.ll0 : (Int × (List Int) × Int × Int × (List (List Int)) × (List (Int × (List Int))) × Int × (List (Int × Int × Int)) × Bool × (List (List Int)) × (List (Int × (List Int))) × Int × (List (Int × Int × Int)) × Bool) → LS
  | (x0, x1, x2, x3, x4, x5, x6, x7, x8, x9, x10, x11, x12, x13) => ⟨[.addr 2 0 [] 0, .addr 129 0 [] 0, .addr 193 0 [] 0, .cv ⟨.int .i64, x0⟩], [⟨false, [⟨0, 0, .lk ⟨.row K1, x1⟩⟩, ⟨0, 0, .mk 0 ⟨.int .i64, x2⟩⟩, ⟨0, 0, .mk 0 ⟨.int .i64, x3⟩⟩]⟩, ⟨false, [⟨0, 0, .mk 9 ⟨.row K2, x4⟩⟩, ⟨0, 0, .mk 9 ⟨.row K3, x5⟩⟩, ⟨0, 0, .mk 0 ⟨.int .i64, x6⟩⟩, ⟨0, 0, .mk 9 ⟨.row K0, x7⟩⟩, ⟨0, 0, .mk 0 ⟨.bool, x8⟩⟩]⟩, ⟨false, [⟨0, 0, .mk 1 ⟨.row K2, x9⟩⟩, ⟨0, 0, .mk 1 ⟨.row K3, x10⟩⟩, ⟨0, 0, .mk 0 ⟨.int .i64, x11⟩⟩, ⟨0, 0, .mk 1 ⟨.row K0, x12⟩⟩, ⟨0, 0, .mk 0 ⟨.bool, x13⟩⟩]⟩]⟩
noncomputable def spec_l12Draw.m (c20 : Int × (List (Int × Int × Int)) → Option ((List (List Int)) × (List (Int × (List Int))) × Int × (List (Int × Int × Int)) × Bool)) (c74 : (List Int) × Int × Int → Option ((List (Int × Int × Int)) × Int × Int)) (c87 : (List Int) × Int × Int × Int → Option (Int × Int × Int)) (B0 : (Int × (List Int) × Int × Int × (List (List Int)) × (List (Int × (List Int))) × Int × (List (Int × Int × Int)) × Bool × (List (List Int)) × (List (Int × (List Int))) × Int × (List (Int × Int × Int)) × Bool) → Option ((List (List Int)) × (List (Int × (List Int))) × Int × (List (Int × Int × Int)) × Bool × Int × Int)) : ((List Int) × Int × Int) → Option ((List (List Int)) × (List (Int × (List Int))) × Int × (List (Int × Int × Int)) × Bool × Int × Int)
  | (a0_0, a0_1, a0_2) =>
  Option.bind (c87 (a0_0, a0_1, a0_2, (4 : Int))) fun r1 =>
   Option.bind (c74 (a0_0, r1.2.1, r1.2.2)) fun r2 =>
    Option.bind (c20 (IntKind.wrap IntKind.i64 ((4 : Int) + r1.1), r2.1)) fun r3 =>
     Option.bind (c87 (a0_0, r2.2.1, r2.2.2, (12 : Int))) fun r4 =>
      B0 (r4.1, a0_0, r4.2.1, r4.2.2, ([] : List (List Int)), ([] : List (Int × (List Int))), (0 : Int), ([] : List (Int × Int × Int)), false, r3.1, r3.2.1, r3.2.2.1, r3.2.2.2.1, r3.2.2.2.2)
noncomputable def spec_l12Draw.sig : Sig := ⟨[.ptr [⟨.row K1, 0, 1, false⟩, ⟨.int .i64, 0, 0, true⟩, ⟨.int .i64, 0, 0, true⟩]], [(.agg, [(.row K2, 1), (.row K3, 1), (.int .i64, 0), (.row K0, 1), (.bool, 0)])]⟩
noncomputable def spec_l12Draw.hint : Nat → Hint
  | 0 => ⟨[(0, .keep), (2, .keep), (3, .keep), (4, .keep)], [(2, [9, 0, 0]), (129, [9, 9, 0, 9, 0]), (193, [1, 1, 0, 1, 0])]⟩
  | _ => ⟨[], []⟩
noncomputable def spec_l12Draw.join : Nat → Option Hint
  | _ => none
noncomputable def spec_l12Draw.body : Code := (Try.f97).body.getD .skip
noncomputable def spec_l12Draw.rv : List ResultVar := (Try.f97).results.toList
noncomputable def spec_l12N.m (c76 : (List Int) × Int × Int × (List Int) → Option (Int × Int × Int)) : ((List Int) × Int × Int) → Option (Int × Int × Int)
  | (a0_0, a0_1, a0_2) =>
  Option.bind (c76 (a0_0, a0_1, a0_2, ([(0 : Int), (1 : Int), (2 : Int), (3 : Int), (5 : Int), (-1 : Int), (48 : Int)] : List Int))) fun r1 =>
   some (r1.1, r1.2.1, r1.2.2)
noncomputable def spec_l12N.sig : Sig := ⟨[.ptr [⟨.row K1, 0, 1, false⟩, ⟨.int .i64, 0, 0, true⟩, ⟨.int .i64, 0, 0, true⟩]], [(.one, [(.int .i64, 0)])]⟩
noncomputable def spec_l12N.hint : Nat → Hint
  | _ => ⟨[], []⟩
noncomputable def spec_l12N.join : Nat → Option Hint
  | _ => none
noncomputable def spec_l12N.body : Code := (Try.f79).body.getD .skip
noncomputable def spec_l12N.rv : List ResultVar := (Try.f79).results.toList
noncomputable def laws_sameBytes.s0 (L0 : ((List Int) × (List Int) × Int) → Option (Bool)) : ((List Int) × (List Int) × Int) → Option (Bool)
  | (x0, x1, x2) =>
  bif decide (x2 < (List.length x0 : Int)) then
   bif decide (0 ≤ x2) && decide (x2 < (List.length x0 : Int)) then
    bif decide (0 ≤ x2) && decide (x2 < (List.length x1 : Int)) then
     bif (List.getD x0 (Int.toNat x2) (0 : Int)) != (List.getD x1 (Int.toNat x2) (0 : Int)) then
      some false
     else
      L0 (x0, x1, IntKind.wrap IntKind.i64 (x2 + (1 : Int)))
    else
     none
   else
    none
  else
   some true
noncomputable def laws_sameBytes.ll0 : ((List Int) × (List Int) × Int) → LS
  | (x0, x1, x2) => ⟨[.cv ⟨.row K1, x0⟩, .cv ⟨.row K1, x1⟩, .cv ⟨.int .i64, x2⟩], []⟩
noncomputable def laws_sameBytes.m (B0 : ((List Int) × (List Int) × Int) → Option (Bool)) : ((List Int) × (List Int)) → Option (Bool)
  | (a0_0, a1_0) =>
  bif (List.length a0_0 : Int) != (List.length a1_0 : Int) then
   some false
  else
   B0 (a0_0, a1_0, (0 : Int))
noncomputable def laws_sameBytes.sig : Sig := ⟨[.val false [⟨.row K1, 0, 0, false⟩], .val false [⟨.row K1, 0, 0, false⟩]], [(.one, [(.bool, 0)])]⟩
noncomputable def laws_sameBytes.hint : Nat → Hint
  | 0 => ⟨[(0, .keep), (1, .keep), (5, .keep)], []⟩
  | _ => ⟨[], []⟩
noncomputable def laws_sameBytes.join : Nat → Option Hint
  | _ => none
noncomputable def laws_sameBytes.body : Code := (Try.f38).body.getD .skip
noncomputable def laws_sameBytes.rv : List ResultVar := (Try.f38).results.toList
noncomputable def spec_l1Bend.m (c76 : (List Int) × Int × Int × (List Int) → Option (Int × Int × Int)) (c87 : (List Int) × Int × Int × Int → Option (Int × Int × Int)) : ((List Int) × Int × Int × (List Int)) → Option ((List Int) × Int × Int)
  | (a0_0, a0_1, a0_2, a1_0) =>
  bif (List.length a1_0 : Int) == (0 : Int) then
   some (a1_0, a0_1, a0_2)
  else
   Option.bind (c87 (a0_0, a0_1, a0_2, (5 : Int))) fun r1 =>
    bif r1.1 == (0 : Int) then
     Option.bind (c87 (a0_0, r1.2.1, r1.2.2, (List.length a1_0 : Int))) fun r2 =>
      Option.bind (c76 (a0_0, r2.2.1, r2.2.2, ([(0 : Int), (1 : Int), (2 : Int), (127 : Int), (128 : Int), (255 : Int)] : List Int))) fun r3 =>
       bif decide (0 ≤ r2.1) && decide (r2.1 < (List.length a1_0 : Int)) then
        some (List.set a1_0 (Int.toNat r2.1) (IntKind.wrap IntKind.u8 r3.1), r3.2.1, r3.2.2)
       else
        none
    else
     bif r1.1 == (1 : Int) then
      bif decide ((List.length a1_0 + List.length ([(3 : Int)] : List Int)) * 1 ≤ 140737488355328) then
       some (a1_0 ++ ([(3 : Int)] : List Int), r1.2.1, r1.2.2)
      else
       none
     else
      bif r1.1 == (2 : Int) then
       Option.bind (c87 (a0_0, r1.2.1, r1.2.2, (List.length a1_0 : Int))) fun r4 =>
        bif decide (0 ≤ (0 : Int)) && decide ((0 : Int) ≤ r4.1) && decide (r4.1 ≤ (List.length a1_0 : Int)) then
         some (List.take (Int.toNat r4.1) a1_0, r4.2.1, r4.2.2)
        else
         none
      else
       some (a1_0, r1.2.1, r1.2.2)
noncomputable def spec_l1Bend.sig : Sig := ⟨[.ptr [⟨.row K1, 0, 1, false⟩, ⟨.int .i64, 0, 0, true⟩, ⟨.int .i64, 0, 0, true⟩], .val false [⟨.row K1, 1, 1, false⟩]], [(.one, [(.row K1, 1)])]⟩
noncomputable def spec_l1Bend.hint : Nat → Hint
  | _ => ⟨[], []⟩
noncomputable def spec_l1Bend.join : Nat → Option Hint
  | _ => none
noncomputable def spec_l1Bend.body : Code := (Try.f89).body.getD .skip
noncomputable def spec_l1Bend.rv : List ResultVar := (Try.f89).results.toList
noncomputable def spec_Crc.s0 (B2 : ((List Int) × Int × Int × Int) → Option (Int)) (L0 : ((List Int) × Int × Int) → Option (Int)) : ((List Int) × Int × Int) → Option (Int)
  | (x0, x1, x2) =>
  bif decide (x2 < (List.length x0 : Int)) then
   bif decide (0 ≤ x2) && decide (x2 < (List.length x0 : Int)) then
    B2 (x0, IntKind.wrap IntKind.i64 ((BitVec.ofInt (IntKind.bits IntKind.i64) x1 ^^^ BitVec.ofInt (IntKind.bits IntKind.i64) (IntKind.wrap IntKind.i64 (List.getD x0 (Int.toNat x2) (0 : Int)))).toNat : Int), x2, (0 : Int))
   else
    none
  else
   some (IntKind.wrap IntKind.i64 ((BitVec.ofInt (IntKind.bits IntKind.i64) x1 ^^^ BitVec.ofInt (IntKind.bits IntKind.i64) (4294967295 : Int)).toNat : Int))
noncomputable def spec_Crc.ll0 : ((List Int) × Int × Int) → LS
  | (x0, x1, x2) => ⟨[.cv ⟨.row K1, x0⟩, .cv ⟨.int .i64, x1⟩, .cv ⟨.int .i64, x2⟩], []⟩
noncomputable def spec_Crc.s2 (L0 : ((List Int) × Int × Int) → Option (Int)) (L2 : ((List Int) × Int × Int × Int) → Option (Int)) : ((List Int) × Int × Int × Int) → Option (Int)
  | (x0, x1, x2, x3) =>
  bif decide (x3 < (8 : Int)) then
   bif decide (¬ (1 : Int) < 0) then
    bif (IntKind.wrap IntKind.i64 ((BitVec.ofInt (IntKind.bits IntKind.i64) x1 &&& BitVec.ofInt (IntKind.bits IntKind.i64) (1 : Int)).toNat : Int)) == (1 : Int) then
     L2 (x0, IntKind.wrap IntKind.i64 ((BitVec.ofInt (IntKind.bits IntKind.i64) (Int.fdiv x1 (2 ^ (min (Int.toNat (1 : Int)) (IntKind.bits IntKind.i64)))) ^^^ BitVec.ofInt (IntKind.bits IntKind.i64) (2197175160 : Int)).toNat : Int), x2, IntKind.wrap IntKind.i64 (x3 + (1 : Int)))
    else
     L2 (x0, Int.fdiv x1 (2 ^ (min (Int.toNat (1 : Int)) (IntKind.bits IntKind.i64))), x2, IntKind.wrap IntKind.i64 (x3 + (1 : Int)))
   else
    none
  else
   L0 (x0, x1, IntKind.wrap IntKind.i64 (x2 + (1 : Int)))
noncomputable def spec_Crc.ll2 : ((List Int) × Int × Int × Int) → LS
  | (x0, x1, x2, x3) => ⟨[.cv ⟨.row K1, x0⟩, .cv ⟨.int .i64, x1⟩, .cv ⟨.int .i64, x2⟩, .cv ⟨.int .i64, x3⟩], []⟩
noncomputable def spec_Crc.m (B0 : ((List Int) × Int × Int) → Option (Int)) : (List Int) → Option (Int)
  | a0_0 =>
  B0 (a0_0, (4294967295 : Int), (0 : Int))
noncomputable def spec_Crc.sig : Sig := ⟨[.val false [⟨.row K1, 0, 0, false⟩]], [(.one, [(.int .i64, 0)])]⟩
noncomputable def spec_Crc.hint : Nat → Hint
  | 0 => ⟨[(0, .keep), (3, .keep), (4, .keep)], []⟩
  | 2 => ⟨[(0, .keep), (3, .keep), (4, .keep), (5, .keep)], []⟩
  | _ => ⟨[], []⟩
noncomputable def spec_Crc.join : Nat → Option Hint
  | _ => none
noncomputable def spec_Crc.body : Code := (Try.f113).body.getD .skip
noncomputable def spec_Crc.rv : List ResultVar := (Try.f113).results.toList
noncomputable def spec_PutSum.m (c113 : (List Int) → Option (Int)) : (List Int) → Option (List Int)
  | a0_0 =>
  Option.bind (c113 a0_0) fun r1 =>
   bif decide ((List.length ([] : List Int) + List.length a0_0) * 1 ≤ 140737488355328) then
    bif decide (¬ (24 : Int) < 0) then
     bif decide (¬ (16 : Int) < 0) then
      bif decide (¬ (8 : Int) < 0) then
       bif decide ((List.length (([] : List Int) ++ a0_0) + List.length ([IntKind.wrap IntKind.u8 (Int.fdiv r1 (2 ^ (min (Int.toNat (24 : Int)) (IntKind.bits IntKind.i64)))), IntKind.wrap IntKind.u8 (Int.fdiv r1 (2 ^ (min (Int.toNat (16 : Int)) (IntKind.bits IntKind.i64)))), IntKind.wrap IntKind.u8 (Int.fdiv r1 (2 ^ (min (Int.toNat (8 : Int)) (IntKind.bits IntKind.i64)))), IntKind.wrap IntKind.u8 r1] : List Int)) * 1 ≤ 140737488355328) then
        some ((([] : List Int) ++ a0_0) ++ ([IntKind.wrap IntKind.u8 (Int.fdiv r1 (2 ^ (min (Int.toNat (24 : Int)) (IntKind.bits IntKind.i64)))), IntKind.wrap IntKind.u8 (Int.fdiv r1 (2 ^ (min (Int.toNat (16 : Int)) (IntKind.bits IntKind.i64)))), IntKind.wrap IntKind.u8 (Int.fdiv r1 (2 ^ (min (Int.toNat (8 : Int)) (IntKind.bits IntKind.i64)))), IntKind.wrap IntKind.u8 r1] : List Int))
       else
        none
      else
       none
     else
      none
    else
     none
   else
    none
noncomputable def spec_PutSum.sig : Sig := ⟨[.val false [⟨.row K1, 0, 0, false⟩]], [(.one, [(.row K1, 1)])]⟩
noncomputable def spec_PutSum.hint : Nat → Hint
  | _ => ⟨[], []⟩
noncomputable def spec_PutSum.join : Nat → Option Hint
  | _ => none
noncomputable def spec_PutSum.body : Code := (Try.f109).body.getD .skip
noncomputable def spec_PutSum.rv : List ResultVar := (Try.f109).results.toList
noncomputable def spec_PutU.s0 (L0 : (Int × (List Int)) → Option (List Int)) : (Int × (List Int)) → Option (List Int)
  | (x0, x1) =>
  bif decide (x0 > (127 : Int)) then
   bif decide ((List.length x1 + List.length ([IntKind.wrap IntKind.u8 (IntKind.wrap IntKind.i64 ((BitVec.ofInt (IntKind.bits IntKind.i64) (IntKind.wrap IntKind.i64 ((BitVec.ofInt (IntKind.bits IntKind.i64) x0 &&& BitVec.ofInt (IntKind.bits IntKind.i64) (127 : Int)).toNat : Int)) ||| BitVec.ofInt (IntKind.bits IntKind.i64) (128 : Int)).toNat : Int))] : List Int)) * 1 ≤ 140737488355328) then
    bif decide (¬ (7 : Int) < 0) then
     L0 (Int.fdiv x0 (2 ^ (min (Int.toNat (7 : Int)) (IntKind.bits IntKind.i64))), x1 ++ ([IntKind.wrap IntKind.u8 (IntKind.wrap IntKind.i64 ((BitVec.ofInt (IntKind.bits IntKind.i64) (IntKind.wrap IntKind.i64 ((BitVec.ofInt (IntKind.bits IntKind.i64) x0 &&& BitVec.ofInt (IntKind.bits IntKind.i64) (127 : Int)).toNat : Int)) ||| BitVec.ofInt (IntKind.bits IntKind.i64) (128 : Int)).toNat : Int))] : List Int))
    else
     none
   else
    none
  else
   bif decide ((List.length x1 + List.length ([IntKind.wrap IntKind.u8 x0] : List Int)) * 1 ≤ 140737488355328) then
    some (x1 ++ ([IntKind.wrap IntKind.u8 x0] : List Int))
   else
    none
noncomputable def spec_PutU.ll0 : (Int × (List Int)) → LS
  | (x0, x1) => ⟨[.cv ⟨.int .i64, x0⟩, .ref 20 0 [] none 0], [⟨true, [⟨0, 0, .mk 9 ⟨.row K1, x1⟩⟩]⟩]⟩
noncomputable def spec_PutU.m (B0 : (Int × (List Int)) → Option (List Int)) : ((List Int) × Int) → Option (List Int)
  | (a0_0, a1_0) =>
  bif decide ((List.length ([] : List Int) + List.length a0_0) * 1 ≤ 140737488355328) then
   bif decide (a1_0 > (1000000 : Int)) then
    bif decide ((1000000 : Int) < (0 : Int)) then
     B0 ((0 : Int), ([] : List Int) ++ a0_0)
    else
     B0 ((1000000 : Int), ([] : List Int) ++ a0_0)
   else
    bif decide (a1_0 < (0 : Int)) then
     B0 ((0 : Int), ([] : List Int) ++ a0_0)
    else
     B0 (a1_0, ([] : List Int) ++ a0_0)
  else
   none
noncomputable def spec_PutU.sig : Sig := ⟨[.val false [⟨.row K1, 0, 0, false⟩], .val false [⟨.int .i64, 0, 0, false⟩]], [(.one, [(.row K1, 1)])]⟩
noncomputable def spec_PutU.hint : Nat → Hint
  | 0 => ⟨[(1, .keep), (5, .own 9 K1)], []⟩
  | _ => ⟨[], []⟩
noncomputable def spec_PutU.join : Nat → Option Hint
  | _ => none
noncomputable def spec_PutU.body : Code := (Try.f111).body.getD .skip
noncomputable def spec_PutU.rv : List ResultVar := (Try.f111).results.toList
noncomputable def spec_PutText.m (c111 : (List Int) × Int → Option (List Int)) : ((List Int) × ByteArray) → Option (List Int)
  | (a0_0, a1_0) =>
  Option.bind (c111 (a0_0, (ByteArray.size a1_0 : Int))) fun r1 =>
   bif decide ((List.length r1 + List.length (strNums a1_0)) * 1 ≤ 140737488355328) then
    some (r1 ++ (strNums a1_0))
   else
    none
noncomputable def spec_PutText.sig : Sig := ⟨[.val false [⟨.row K1, 0, 0, false⟩], .val false [⟨.str, 0, 0, false⟩]], [(.one, [(.row K1, 1)])]⟩
noncomputable def spec_PutText.hint : Nat → Hint
  | _ => ⟨[], []⟩
noncomputable def spec_PutText.join : Nat → Option Hint
  | _ => none
noncomputable def spec_PutText.body : Code := (Try.f110).body.getD .skip
noncomputable def spec_PutText.rv : List ResultVar := (Try.f110).results.toList
noncomputable def spec_PutPage.m (c58 : Int × Int × Int → Option (Bool)) (c109 : (List Int) → Option (List Int)) (c110 : (List Int) × ByteArray → Option (List Int)) (c111 : (List Int) × Int → Option (List Int)) : (Int × (List Int)) → Option (List Int)
  | (a0_0, a1_0) =>
  Option.bind (c58 (a0_0, (1 : Int), (2 : Int))) fun r1 =>
   bif !(r1) then
    some ([] : List Int)
   else
    bif decide ((List.length a1_0 : Int) > (240 : Int)) then
     some ([] : List Int)
    else
     Option.bind (c111 (([] : List Int), a0_0)) fun r2 =>
      Option.bind (c110 (r2, numsStr a1_0)) fun r3 =>
       Option.bind (c109 r3) fun r4 =>
        some r4
noncomputable def spec_PutPage.sig : Sig := ⟨[.val false [⟨.int .i64, 0, 0, false⟩], .val false [⟨.row K1, 0, 0, false⟩]], [(.one, [(.row K1, 1)])]⟩
noncomputable def spec_PutPage.hint : Nat → Hint
  | _ => ⟨[], []⟩
noncomputable def spec_PutPage.join : Nat → Option Hint
  | _ => none
noncomputable def spec_PutPage.body : Code := (Try.f90).body.getD .skip
noncomputable def spec_PutPage.rv : List ResultVar := (Try.f90).results.toList
noncomputable def spec_DrawGetPage.m (c73 : (List Int) → Option ((List Int) × Int × Int)) (c86 : (List Int) × Int × Int → Option ((List Int) × Int × Int)) (c87 : (List Int) × Int × Int × Int → Option (Int × Int × Int)) (c89 : (List Int) × Int × Int × (List Int) → Option ((List Int) × Int × Int)) (c90 : Int × (List Int) → Option (List Int)) : (List Int) → Option (List Int)
  | a0_0 =>
  Option.bind (c73 a0_0) fun r1 =>
   Option.bind (c87 (r1.1, r1.2.1, r1.2.2, (2 : Int))) fun r2 =>
    Option.bind (c86 (r1.1, r2.2.1, r2.2.2)) fun r3 =>
     Option.bind (c90 (IntKind.wrap IntKind.i64 ((1 : Int) + r2.1), r3.1)) fun r4 =>
      Option.bind (c89 (r1.1, r3.2.1, r3.2.2, r4)) fun r5 =>
       some r5.1
noncomputable def spec_DrawGetPage.sig : Sig := ⟨[.val false [⟨.row K1, 0, 0, false⟩]], [(.one, [(.row K1, 1)])]⟩
noncomputable def spec_DrawGetPage.hint : Nat → Hint
  | _ => ⟨[], []⟩
noncomputable def spec_DrawGetPage.join : Nat → Option Hint
  | _ => none
noncomputable def spec_DrawGetPage.body : Code := (Try.f48).body.getD .skip
noncomputable def spec_DrawGetPage.rv : List ResultVar := (Try.f48).results.toList
noncomputable def impl_Crc.s0 (B2 : (Int × (List Int) × Int × Int × Int) → Option (Int)) (L0 : (Int × (List Int) × Int × Int) → Option (Int)) : (Int × (List Int) × Int × Int) → Option (Int)
  | (x0, x1, x2, x3) =>
  bif decide (x3 < x2) then
   bif decide (0 ≤ x3) && decide (x3 < (List.length x1 : Int)) then
    B2 (IntKind.wrap IntKind.u32 ((BitVec.ofInt (IntKind.bits IntKind.u32) x0 ^^^ BitVec.ofInt (IntKind.bits IntKind.u32) (IntKind.wrap IntKind.u32 (List.getD x1 (Int.toNat x3) (0 : Int)))).toNat : Int), x1, x2, x3, (0 : Int))
   else
    none
  else
   some (IntKind.wrap IntKind.i64 (IntKind.wrap IntKind.u32 ((BitVec.ofInt (IntKind.bits IntKind.u32) (if IntKind.signed IntKind.u32 then -1 else IntKind.max IntKind.u32) ^^^ BitVec.ofInt (IntKind.bits IntKind.u32) x0).toNat : Int)))
noncomputable def impl_Crc.ll0 : (Int × (List Int) × Int × Int) → LS
  | (x0, x1, x2, x3) => ⟨[.cv ⟨.int .u32, x0⟩, .cv ⟨.row K1, x1⟩, .cv ⟨.int .i64, x2⟩, .cv ⟨.int .i64, x3⟩], []⟩
noncomputable def impl_Crc.s2 (L0 : (Int × (List Int) × Int × Int) → Option (Int)) (L2 : (Int × (List Int) × Int × Int × Int) → Option (Int)) : (Int × (List Int) × Int × Int × Int) → Option (Int)
  | (x0, x1, x2, x3, x4) =>
  bif decide (x4 < (8 : Int)) then
   bif decide (¬ (1 : Int) < 0) then
    bif (IntKind.wrap IntKind.u32 ((BitVec.ofInt (IntKind.bits IntKind.u32) x0 &&& BitVec.ofInt (IntKind.bits IntKind.u32) (1 : Int)).toNat : Int)) == (1 : Int) then
     L2 (IntKind.wrap IntKind.u32 ((BitVec.ofInt (IntKind.bits IntKind.u32) (Int.fdiv x0 (2 ^ (min (Int.toNat (1 : Int)) (IntKind.bits IntKind.u32)))) ^^^ BitVec.ofInt (IntKind.bits IntKind.u32) (2197175160 : Int)).toNat : Int), x1, x2, x3, IntKind.wrap IntKind.i64 (x4 + (1 : Int)))
    else
     L2 (Int.fdiv x0 (2 ^ (min (Int.toNat (1 : Int)) (IntKind.bits IntKind.u32))), x1, x2, x3, IntKind.wrap IntKind.i64 (x4 + (1 : Int)))
   else
    none
  else
   L0 (x0, x1, x2, IntKind.wrap IntKind.i64 (x3 + (1 : Int)))
noncomputable def impl_Crc.ll2 : (Int × (List Int) × Int × Int × Int) → LS
  | (x0, x1, x2, x3, x4) => ⟨[.cv ⟨.int .u32, x0⟩, .cv ⟨.row K1, x1⟩, .cv ⟨.int .i64, x2⟩, .cv ⟨.int .i64, x3⟩, .cv ⟨.int .i64, x4⟩], []⟩
noncomputable def impl_Crc.m (B0 : (Int × (List Int) × Int × Int) → Option (Int)) : (List Int) → Option (Int)
  | a0_0 =>
  B0 ((4294967295 : Int), a0_0, (List.length a0_0 : Int), (0 : Int))
noncomputable def impl_Crc.sig : Sig := ⟨[.val false [⟨.row K1, 0, 0, false⟩]], [(.one, [(.int .i64, 0)])]⟩
noncomputable def impl_Crc.hint : Nat → Hint
  | 0 => ⟨[(3, .keep), (7, .keep), (8, .keep), (9, .keep)], []⟩
  | 2 => ⟨[(3, .keep), (7, .keep), (8, .keep), (9, .keep), (17, .keep)], []⟩
  | _ => ⟨[], []⟩
noncomputable def impl_Crc.join : Nat → Option Hint
  | _ => none
noncomputable def impl_Crc.body : Code := (Try.f114).body.getD .skip
noncomputable def impl_Crc.rv : List ResultVar := (Try.f114).results.toList
noncomputable def impl_addSum.m (c114 : (List Int) → Option (Int)) : (List Int) → Option (List Int)
  | a0_0 =>
  Option.bind (c114 a0_0) fun r1 =>
   bif decide (¬ (24 : Int) < 0) then
    bif decide (¬ (16 : Int) < 0) then
     bif decide (¬ (8 : Int) < 0) then
      bif decide ((List.length a0_0 + List.length ([IntKind.wrap IntKind.u8 (Int.fdiv r1 (2 ^ (min (Int.toNat (24 : Int)) (IntKind.bits IntKind.i64)))), IntKind.wrap IntKind.u8 (Int.fdiv r1 (2 ^ (min (Int.toNat (16 : Int)) (IntKind.bits IntKind.i64)))), IntKind.wrap IntKind.u8 (Int.fdiv r1 (2 ^ (min (Int.toNat (8 : Int)) (IntKind.bits IntKind.i64)))), IntKind.wrap IntKind.u8 r1] : List Int)) * 1 ≤ 140737488355328) then
       some (a0_0 ++ ([IntKind.wrap IntKind.u8 (Int.fdiv r1 (2 ^ (min (Int.toNat (24 : Int)) (IntKind.bits IntKind.i64)))), IntKind.wrap IntKind.u8 (Int.fdiv r1 (2 ^ (min (Int.toNat (16 : Int)) (IntKind.bits IntKind.i64)))), IntKind.wrap IntKind.u8 (Int.fdiv r1 (2 ^ (min (Int.toNat (8 : Int)) (IntKind.bits IntKind.i64)))), IntKind.wrap IntKind.u8 r1] : List Int))
      else
       none
     else
      none
    else
     none
   else
    none
noncomputable def impl_addSum.sig : Sig := ⟨[.val false [⟨.row K1, 1, 1, false⟩]], [(.one, [(.row K1, 1)])]⟩
noncomputable def impl_addSum.hint : Nat → Hint
  | _ => ⟨[], []⟩
noncomputable def impl_addSum.join : Nat → Option Hint
  | _ => none
noncomputable def impl_addSum.body : Code := (Try.f98).body.getD .skip
noncomputable def impl_addSum.rv : List ResultVar := (Try.f98).results.toList
noncomputable def impl_clamp.m  : (Int × Int × Int) → Option (Int)
  | (a0_0, a1_0, a2_0) =>
  some (bif decide ((bif decide (a2_0 < a0_0) then a2_0 else a0_0) > a1_0) then (bif decide (a2_0 < a0_0) then a2_0 else a0_0) else a1_0)
noncomputable def impl_clamp.sig : Sig := ⟨[.val false [⟨.int .i64, 0, 0, false⟩], .val false [⟨.int .i64, 0, 0, false⟩], .val false [⟨.int .i64, 0, 0, false⟩]], [(.one, [(.int .i64, 0)])]⟩
noncomputable def impl_clamp.hint : Nat → Hint
  | _ => ⟨[], []⟩
noncomputable def impl_clamp.join : Nat → Option Hint
  | _ => none
noncomputable def impl_clamp.body : Code := (Try.f115).body.getD .skip
noncomputable def impl_clamp.rv : List ResultVar := (Try.f115).results.toList
noncomputable def impl_addU.s0 (L0 : (Int × (List Int)) → Option (List Int)) : (Int × (List Int)) → Option (List Int)
  | (x0, x1) =>
  bif decide (x0 > (127 : Int)) then
   bif decide (¬ (128 : Int) = 0) then
    bif decide ((List.length x1 + List.length ([IntKind.wrap IntKind.u8 (IntKind.wrap IntKind.i64 ((Int.tmod x0 (128 : Int)) + (128 : Int)))] : List Int)) * 1 ≤ 140737488355328) then
     bif decide (¬ (128 : Int) = 0) then
      L0 (IntKind.wrap IntKind.i64 (Int.tdiv x0 (128 : Int)), x1 ++ ([IntKind.wrap IntKind.u8 (IntKind.wrap IntKind.i64 ((Int.tmod x0 (128 : Int)) + (128 : Int)))] : List Int))
     else
      none
    else
     none
   else
    none
  else
   bif decide ((List.length x1 + List.length ([IntKind.wrap IntKind.u8 x0] : List Int)) * 1 ≤ 140737488355328) then
    some (x1 ++ ([IntKind.wrap IntKind.u8 x0] : List Int))
   else
    none
noncomputable def impl_addU.ll0 : (Int × (List Int)) → LS
  | (x0, x1) => ⟨[.ref 0 0 [] none 0, .cv ⟨.int .i64, x0⟩], [⟨true, [⟨0, 0, .mk 1 ⟨.row K1, x1⟩⟩]⟩]⟩
noncomputable def impl_addU.m (c115 : Int × Int × Int → Option (Int)) (B0 : (Int × (List Int)) → Option (List Int)) : ((List Int) × Int) → Option (List Int)
  | (a0_0, a1_0) =>
  Option.bind (c115 (a1_0, (0 : Int), (1000000 : Int))) fun r1 =>
   B0 (r1, a0_0)
noncomputable def impl_addU.sig : Sig := ⟨[.val false [⟨.row K1, 1, 1, false⟩], .val false [⟨.int .i64, 0, 0, false⟩]], [(.one, [(.row K1, 1)])]⟩
noncomputable def impl_addU.hint : Nat → Hint
  | 0 => ⟨[(0, .own 1 K1), (1, .keep)], []⟩
  | _ => ⟨[], []⟩
noncomputable def impl_addU.join : Nat → Option Hint
  | _ => none
noncomputable def impl_addU.body : Code := (Try.f100).body.getD .skip
noncomputable def impl_addU.rv : List ResultVar := (Try.f100).results.toList
noncomputable def impl_addText.m (c100 : (List Int) × Int → Option (List Int)) : ((List Int) × ByteArray) → Option (List Int)
  | (a0_0, a1_0) =>
  Option.bind (c100 (a0_0, (ByteArray.size a1_0 : Int))) fun r1 =>
   bif decide ((List.length r1 + List.length (strNums a1_0)) * 1 ≤ 140737488355328) then
    some (r1 ++ (strNums a1_0))
   else
    none
noncomputable def impl_addText.sig : Sig := ⟨[.val false [⟨.row K1, 1, 1, false⟩], .val false [⟨.str, 0, 0, false⟩]], [(.one, [(.row K1, 1)])]⟩
noncomputable def impl_addText.hint : Nat → Hint
  | _ => ⟨[], []⟩
noncomputable def impl_addText.join : Nat → Option Hint
  | _ => none
noncomputable def impl_addText.body : Code := (Try.f99).body.getD .skip
noncomputable def impl_addText.rv : List ResultVar := (Try.f99).results.toList
noncomputable def impl_PutPage.m (c62 : Int × Int × Int → Option (Bool)) (c98 : (List Int) → Option (List Int)) (c99 : (List Int) × ByteArray → Option (List Int)) (c100 : (List Int) × Int → Option (List Int)) : (Int × (List Int)) → Option (List Int)
  | (a0_0, a1_0) =>
  Option.bind (c62 (a0_0, (1 : Int), (2 : Int))) fun r1 =>
   bif !(r1) then
    some ([] : List Int)
   else
    bif decide ((List.length a1_0 : Int) > (240 : Int)) then
     some ([] : List Int)
    else
     Option.bind (c100 (([] : List Int), a0_0)) fun r2 =>
      Option.bind (c99 (r2, numsStr a1_0)) fun r3 =>
       Option.bind (c98 r3) fun r4 =>
        some r4
noncomputable def impl_PutPage.sig : Sig := ⟨[.val false [⟨.int .i64, 0, 0, false⟩], .val false [⟨.row K1, 0, 0, false⟩]], [(.one, [(.row K1, 1)])]⟩
noncomputable def impl_PutPage.hint : Nat → Hint
  | _ => ⟨[], []⟩
noncomputable def impl_PutPage.join : Nat → Option Hint
  | _ => none
noncomputable def impl_PutPage.body : Code := (Try.f54).body.getD .skip
noncomputable def impl_PutPage.rv : List ResultVar := (Try.f54).results.toList
noncomputable def impl_PutSum.m (c72 : (List Int) → Option (List Int)) (c98 : (List Int) → Option (List Int)) : (List Int) → Option (List Int)
  | a0_0 =>
  Option.bind (c72 a0_0) fun r1 =>
   Option.bind (c98 r1) fun r2 =>
    some r2
noncomputable def impl_PutSum.sig : Sig := ⟨[.val false [⟨.row K1, 0, 0, false⟩]], [(.one, [(.row K1, 1)])]⟩
noncomputable def impl_PutSum.hint : Nat → Hint
  | _ => ⟨[], []⟩
noncomputable def impl_PutSum.join : Nat → Option Hint
  | _ => none
noncomputable def impl_PutSum.body : Code := (Try.f112).body.getD .skip
noncomputable def impl_PutSum.rv : List ResultVar := (Try.f112).results.toList
noncomputable def impl_GetSum.m (c72 : (List Int) → Option (List Int)) (c112 : (List Int) → Option (List Int)) : (List Int) → Option ((List Int) × Bool)
  | a0_0 =>
  bif decide ((List.length a0_0 : Int) < (4 : Int)) then
   some (([] : List Int), false)
  else
   bif decide (0 ≤ (0 : Int)) && decide ((0 : Int) ≤ (IntKind.wrap IntKind.i64 ((List.length a0_0 : Int) - (4 : Int)))) && decide ((IntKind.wrap IntKind.i64 ((List.length a0_0 : Int) - (4 : Int))) ≤ (List.length a0_0 : Int)) then
    Option.bind (c72 (List.drop (Int.toNat (0 : Int)) (List.take (Int.toNat (IntKind.wrap IntKind.i64 ((List.length a0_0 : Int) - (4 : Int)))) a0_0))) fun r1 =>
     Option.bind (c112 r1) fun r2 =>
      bif !(ByteArray.toList (numsStr r2) == ByteArray.toList (numsStr a0_0)) then
       some (([] : List Int), false)
      else
       some (r1, true)
   else
    none
noncomputable def impl_GetSum.sig : Sig := ⟨[.val false [⟨.row K1, 0, 0, false⟩]], [(.one, [(.row K1, 1)]), (.one, [(.bool, 0)])]⟩
noncomputable def impl_GetSum.hint : Nat → Hint
  | _ => ⟨[], []⟩
noncomputable def impl_GetSum.join : Nat → Option Hint
  | _ => none
noncomputable def impl_GetSum.body : Code := (Try.f91).body.getD .skip
noncomputable def impl_GetSum.rv : List ResultVar := (Try.f91).results.toList
noncomputable def impl_GetU.s0 (L0 : ((List Int) × Int × Int × Int) → Option (Int × Int × Bool)) : ((List Int) × Int × Int × Int) → Option (Int × Int × Bool)
  | (x0, x1, x2, x3) =>
  bif decide (x3 < (3 : Int)) then
   bif decide (x1 ≥ (0 : Int)) then
    bif decide (x1 < (IntKind.wrap IntKind.i64 ((List.length x0 : Int) - x3))) then
     bif decide (0 ≤ (IntKind.wrap IntKind.i64 (x1 + x3))) && decide ((IntKind.wrap IntKind.i64 (x1 + x3)) < (List.length x0 : Int)) then
      bif decide (¬ (128 : Int) = 0) then
       bif decide (¬ (IntKind.wrap IntKind.i64 ((7 : Int) * x3)) < 0) then
        bif decide ((IntKind.wrap IntKind.i64 (List.getD x0 (Int.toNat (IntKind.wrap IntKind.i64 (x1 + x3))) (0 : Int))) ≥ (128 : Int)) then
         L0 (x0, x1, IntKind.wrap IntKind.i64 (x2 + (IntKind.wrap IntKind.i64 ((Int.tmod (IntKind.wrap IntKind.i64 (List.getD x0 (Int.toNat (IntKind.wrap IntKind.i64 (x1 + x3))) (0 : Int))) (128 : Int)) * 2 ^ (min (Int.toNat (IntKind.wrap IntKind.i64 ((7 : Int) * x3))) (IntKind.bits IntKind.i64))))), IntKind.wrap IntKind.i64 (x3 + (1 : Int)))
        else
         bif (IntKind.wrap IntKind.i64 (List.getD x0 (Int.toNat (IntKind.wrap IntKind.i64 (x1 + x3))) (0 : Int))) == (0 : Int) then
          bif decide (x3 > (0 : Int)) then
           some ((0 : Int), (0 : Int), false)
          else
           bif decide ((IntKind.wrap IntKind.i64 (x2 + (IntKind.wrap IntKind.i64 ((Int.tmod (IntKind.wrap IntKind.i64 (List.getD x0 (Int.toNat (IntKind.wrap IntKind.i64 (x1 + x3))) (0 : Int))) (128 : Int)) * 2 ^ (min (Int.toNat (IntKind.wrap IntKind.i64 ((7 : Int) * x3))) (IntKind.bits IntKind.i64)))))) > (1000000 : Int)) then
            some ((0 : Int), (0 : Int), false)
           else
            some (IntKind.wrap IntKind.i64 (x2 + (IntKind.wrap IntKind.i64 ((Int.tmod (IntKind.wrap IntKind.i64 (List.getD x0 (Int.toNat (IntKind.wrap IntKind.i64 (x1 + x3))) (0 : Int))) (128 : Int)) * 2 ^ (min (Int.toNat (IntKind.wrap IntKind.i64 ((7 : Int) * x3))) (IntKind.bits IntKind.i64))))), IntKind.wrap IntKind.i64 ((IntKind.wrap IntKind.i64 (x1 + x3)) + (1 : Int)), true)
         else
          bif decide ((IntKind.wrap IntKind.i64 (x2 + (IntKind.wrap IntKind.i64 ((Int.tmod (IntKind.wrap IntKind.i64 (List.getD x0 (Int.toNat (IntKind.wrap IntKind.i64 (x1 + x3))) (0 : Int))) (128 : Int)) * 2 ^ (min (Int.toNat (IntKind.wrap IntKind.i64 ((7 : Int) * x3))) (IntKind.bits IntKind.i64)))))) > (1000000 : Int)) then
           some ((0 : Int), (0 : Int), false)
          else
           some (IntKind.wrap IntKind.i64 (x2 + (IntKind.wrap IntKind.i64 ((Int.tmod (IntKind.wrap IntKind.i64 (List.getD x0 (Int.toNat (IntKind.wrap IntKind.i64 (x1 + x3))) (0 : Int))) (128 : Int)) * 2 ^ (min (Int.toNat (IntKind.wrap IntKind.i64 ((7 : Int) * x3))) (IntKind.bits IntKind.i64))))), IntKind.wrap IntKind.i64 ((IntKind.wrap IntKind.i64 (x1 + x3)) + (1 : Int)), true)
       else
        none
      else
       none
     else
      none
    else
     some ((0 : Int), (0 : Int), false)
   else
    some ((0 : Int), (0 : Int), false)
  else
   some ((0 : Int), (0 : Int), false)
noncomputable def impl_GetU.ll0 : ((List Int) × Int × Int × Int) → LS
  | (x0, x1, x2, x3) => ⟨[.cv ⟨.row K1, x0⟩, .cv ⟨.int .i64, x1⟩, .cv ⟨.int .i64, x2⟩, .cv ⟨.int .i64, x3⟩], []⟩
noncomputable def impl_GetU.m (B0 : ((List Int) × Int × Int × Int) → Option (Int × Int × Bool)) : ((List Int) × Int) → Option (Int × Int × Bool)
  | (a0_0, a1_0) =>
  B0 (a0_0, a1_0, (0 : Int), (0 : Int))
noncomputable def impl_GetU.sig : Sig := ⟨[.val false [⟨.row K1, 0, 0, false⟩], .val false [⟨.int .i64, 0, 0, false⟩]], [(.one, [(.int .i64, 0)]), (.one, [(.int .i64, 0)]), (.one, [(.bool, 0)])]⟩
noncomputable def impl_GetU.hint : Nat → Hint
  | 0 => ⟨[(0, .keep), (1, .keep), (7, .keep), (8, .keep)], []⟩
  | _ => ⟨[], []⟩
noncomputable def impl_GetU.join : Nat → Option Hint
  | _ => none
noncomputable def impl_GetU.body : Code := (Try.f92).body.getD .skip
noncomputable def impl_GetU.rv : List ResultVar := (Try.f92).results.toList
noncomputable def impl_GetText.m (c92 : (List Int) × Int → Option (Int × Int × Bool)) : ((List Int) × Int) → Option (ByteArray × Int × Bool)
  | (a0_0, a1_0) =>
  Option.bind (c92 (a0_0, a1_0)) fun r1 =>
   bif !(r1.2.2) then
    some (({ data := #[] } : ByteArray), (0 : Int), false)
   else
    bif decide (r1.1 > (IntKind.wrap IntKind.i64 ((List.length a0_0 : Int) - r1.2.1))) then
     some (({ data := #[] } : ByteArray), (0 : Int), false)
    else
     bif decide (0 ≤ r1.2.1) && decide (r1.2.1 ≤ (IntKind.wrap IntKind.i64 (r1.2.1 + r1.1))) && decide ((IntKind.wrap IntKind.i64 (r1.2.1 + r1.1)) ≤ (List.length a0_0 : Int)) then
      some (numsStr (List.drop (Int.toNat r1.2.1) (List.take (Int.toNat (IntKind.wrap IntKind.i64 (r1.2.1 + r1.1))) a0_0)), IntKind.wrap IntKind.i64 (r1.2.1 + r1.1), true)
     else
      none
noncomputable def impl_GetText.sig : Sig := ⟨[.val false [⟨.row K1, 0, 0, false⟩], .val false [⟨.int .i64, 0, 0, false⟩]], [(.one, [(.str, 0)]), (.one, [(.int .i64, 0)]), (.one, [(.bool, 0)])]⟩
noncomputable def impl_GetText.hint : Nat → Hint
  | _ => ⟨[], []⟩
noncomputable def impl_GetText.join : Nat → Option Hint
  | _ => none
noncomputable def impl_GetText.body : Code := (Try.f93).body.getD .skip
noncomputable def impl_GetText.rv : List ResultVar := (Try.f93).results.toList
noncomputable def impl_GetPage.m (c54 : Int × (List Int) → Option (List Int)) (c91 : (List Int) → Option ((List Int) × Bool)) (c92 : (List Int) × Int → Option (Int × Int × Bool)) (c93 : (List Int) × Int → Option (ByteArray × Int × Bool)) : (List Int) → Option (Int × (List Int) × Bool)
  | a0_0 =>
  Option.bind (c91 a0_0) fun r1 =>
   Option.bind (c92 (r1.1, (0 : Int))) fun r2 =>
    Option.bind (c93 (r1.1, r2.2.1)) fun r3 =>
     bif !(r1.2) then
      some ((0 : Int), ([] : List Int), false)
     else
      bif !(r2.2.2) then
       some ((0 : Int), ([] : List Int), false)
      else
       bif !(r3.2.2) then
        some ((0 : Int), ([] : List Int), false)
       else
        bif decide (r2.1 < (1 : Int)) then
         some ((0 : Int), ([] : List Int), false)
        else
         Option.bind (c54 (r2.1, strNums r3.1)) fun r4 =>
          bif !(ByteArray.toList (numsStr r4) == ByteArray.toList (numsStr a0_0)) then
           some ((0 : Int), ([] : List Int), false)
          else
           some (r2.1, strNums r3.1, true)
noncomputable def impl_GetPage.sig : Sig := ⟨[.val false [⟨.row K1, 0, 0, false⟩]], [(.one, [(.int .i64, 0)]), (.one, [(.row K1, 1)]), (.one, [(.bool, 0)])]⟩
noncomputable def impl_GetPage.hint : Nat → Hint
  | _ => ⟨[], []⟩
noncomputable def impl_GetPage.join : Nat → Option Hint
  | _ => none
noncomputable def impl_GetPage.body : Code := (Try.f49).body.getD .skip
noncomputable def impl_GetPage.rv : List ResultVar := (Try.f49).results.toList
noncomputable def spec_GetSum.s0 (c113 : (List Int) → Option (Int)) (L0 : ((List Int) × Int × Int × Int) → Option ((List Int) × Bool)) : ((List Int) × Int × Int × Int) → Option ((List Int) × Bool)
  | (x0, x1, x2, x3) =>
  bif decide (x3 < (List.length x0 : Int)) then
   bif decide (¬ (8 : Int) < 0) then
    bif decide (0 ≤ x3) && decide (x3 < (List.length x0 : Int)) then
     L0 (x0, x1, IntKind.wrap IntKind.i64 ((BitVec.ofInt (IntKind.bits IntKind.i64) (IntKind.wrap IntKind.i64 (x2 * 2 ^ (min (Int.toNat (8 : Int)) (IntKind.bits IntKind.i64)))) ||| BitVec.ofInt (IntKind.bits IntKind.i64) (IntKind.wrap IntKind.i64 (List.getD x0 (Int.toNat x3) (0 : Int)))).toNat : Int), IntKind.wrap IntKind.i64 (x3 + (1 : Int)))
    else
     none
   else
    none
  else
   bif decide (0 ≤ (0 : Int)) && decide ((0 : Int) ≤ x1) && decide (x1 ≤ (List.length x0 : Int)) then
    Option.bind (c113 (List.drop (Int.toNat (0 : Int)) (List.take (Int.toNat x1) x0))) fun r1 =>
     bif x2 != r1 then
      some (([] : List Int), false)
     else
      bif decide (0 ≤ (0 : Int)) && decide ((0 : Int) ≤ x1) && decide (x1 ≤ (List.length x0 : Int)) then
       bif decide ((List.length ([] : List Int) + List.length (List.drop (Int.toNat (0 : Int)) (List.take (Int.toNat x1) x0))) * 1 ≤ 140737488355328) then
        some (([] : List Int) ++ (List.drop (Int.toNat (0 : Int)) (List.take (Int.toNat x1) x0)), true)
       else
        none
      else
       none
   else
    none
noncomputable def spec_GetSum.ll0 : ((List Int) × Int × Int × Int) → LS
  | (x0, x1, x2, x3) => ⟨[.cv ⟨.row K1, x0⟩, .cv ⟨.int .i64, x1⟩, .cv ⟨.int .i64, x2⟩, .cv ⟨.int .i64, x3⟩], []⟩
noncomputable def spec_GetSum.m (B0 : ((List Int) × Int × Int × Int) → Option ((List Int) × Bool)) : (List Int) → Option ((List Int) × Bool)
  | a0_0 =>
  bif decide ((IntKind.wrap IntKind.i64 ((List.length a0_0 : Int) - (4 : Int))) < (0 : Int)) then
   some (([] : List Int), false)
  else
   B0 (a0_0, IntKind.wrap IntKind.i64 ((List.length a0_0 : Int) - (4 : Int)), (0 : Int), IntKind.wrap IntKind.i64 ((List.length a0_0 : Int) - (4 : Int)))
noncomputable def spec_GetSum.sig : Sig := ⟨[.val false [⟨.row K1, 0, 0, false⟩]], [(.one, [(.row K1, 1)]), (.one, [(.bool, 0)])]⟩
noncomputable def spec_GetSum.hint : Nat → Hint
  | 0 => ⟨[(0, .keep), (4, .keep), (5, .keep), (6, .keep)], []⟩
  | _ => ⟨[], []⟩
noncomputable def spec_GetSum.join : Nat → Option Hint
  | _ => none
noncomputable def spec_GetSum.body : Code := (Try.f94).body.getD .skip
noncomputable def spec_GetSum.rv : List ResultVar := (Try.f94).results.toList
noncomputable def spec_GetU.s0 (L0 : ((List Int) × Int × Int × Int) → Option (Int × Int × Bool)) : ((List Int) × Int × Int × Int) → Option (Int × Int × Bool)
  | (x0, x1, x2, x3) =>
  bif decide (x3 < (3 : Int)) then
   bif decide (x1 ≥ (0 : Int)) then
    bif decide (x1 < (List.length x0 : Int)) then
     bif decide ((IntKind.wrap IntKind.i64 (x1 + x3)) < (List.length x0 : Int)) then
      bif decide (0 ≤ (IntKind.wrap IntKind.i64 (x1 + x3))) && decide ((IntKind.wrap IntKind.i64 (x1 + x3)) < (List.length x0 : Int)) then
       bif decide (¬ (IntKind.wrap IntKind.u64 (IntKind.wrap IntKind.i64 ((7 : Int) * x3))) < 0) then
        bif decide ((IntKind.wrap IntKind.i64 (List.getD x0 (Int.toNat (IntKind.wrap IntKind.i64 (x1 + x3))) (0 : Int))) > (127 : Int)) then
         L0 (x0, x1, IntKind.wrap IntKind.i64 ((BitVec.ofInt (IntKind.bits IntKind.i64) x2 ||| BitVec.ofInt (IntKind.bits IntKind.i64) (IntKind.wrap IntKind.i64 ((IntKind.wrap IntKind.i64 ((BitVec.ofInt (IntKind.bits IntKind.i64) (IntKind.wrap IntKind.i64 (List.getD x0 (Int.toNat (IntKind.wrap IntKind.i64 (x1 + x3))) (0 : Int))) &&& BitVec.ofInt (IntKind.bits IntKind.i64) (127 : Int)).toNat : Int)) * 2 ^ (min (Int.toNat (IntKind.wrap IntKind.u64 (IntKind.wrap IntKind.i64 ((7 : Int) * x3)))) (IntKind.bits IntKind.i64))))).toNat : Int), IntKind.wrap IntKind.i64 (x3 + (1 : Int)))
        else
         bif decide (x3 > (0 : Int)) then
          bif (IntKind.wrap IntKind.i64 (List.getD x0 (Int.toNat (IntKind.wrap IntKind.i64 (x1 + x3))) (0 : Int))) == (0 : Int) then
           some ((0 : Int), (0 : Int), false)
          else
           bif decide ((IntKind.wrap IntKind.i64 ((BitVec.ofInt (IntKind.bits IntKind.i64) x2 ||| BitVec.ofInt (IntKind.bits IntKind.i64) (IntKind.wrap IntKind.i64 ((IntKind.wrap IntKind.i64 ((BitVec.ofInt (IntKind.bits IntKind.i64) (IntKind.wrap IntKind.i64 (List.getD x0 (Int.toNat (IntKind.wrap IntKind.i64 (x1 + x3))) (0 : Int))) &&& BitVec.ofInt (IntKind.bits IntKind.i64) (127 : Int)).toNat : Int)) * 2 ^ (min (Int.toNat (IntKind.wrap IntKind.u64 (IntKind.wrap IntKind.i64 ((7 : Int) * x3)))) (IntKind.bits IntKind.i64))))).toNat : Int)) > (1000000 : Int)) then
            some ((0 : Int), (0 : Int), false)
           else
            some (IntKind.wrap IntKind.i64 ((BitVec.ofInt (IntKind.bits IntKind.i64) x2 ||| BitVec.ofInt (IntKind.bits IntKind.i64) (IntKind.wrap IntKind.i64 ((IntKind.wrap IntKind.i64 ((BitVec.ofInt (IntKind.bits IntKind.i64) (IntKind.wrap IntKind.i64 (List.getD x0 (Int.toNat (IntKind.wrap IntKind.i64 (x1 + x3))) (0 : Int))) &&& BitVec.ofInt (IntKind.bits IntKind.i64) (127 : Int)).toNat : Int)) * 2 ^ (min (Int.toNat (IntKind.wrap IntKind.u64 (IntKind.wrap IntKind.i64 ((7 : Int) * x3)))) (IntKind.bits IntKind.i64))))).toNat : Int), IntKind.wrap IntKind.i64 ((IntKind.wrap IntKind.i64 (x1 + x3)) + (1 : Int)), true)
         else
          bif decide ((IntKind.wrap IntKind.i64 ((BitVec.ofInt (IntKind.bits IntKind.i64) x2 ||| BitVec.ofInt (IntKind.bits IntKind.i64) (IntKind.wrap IntKind.i64 ((IntKind.wrap IntKind.i64 ((BitVec.ofInt (IntKind.bits IntKind.i64) (IntKind.wrap IntKind.i64 (List.getD x0 (Int.toNat (IntKind.wrap IntKind.i64 (x1 + x3))) (0 : Int))) &&& BitVec.ofInt (IntKind.bits IntKind.i64) (127 : Int)).toNat : Int)) * 2 ^ (min (Int.toNat (IntKind.wrap IntKind.u64 (IntKind.wrap IntKind.i64 ((7 : Int) * x3)))) (IntKind.bits IntKind.i64))))).toNat : Int)) > (1000000 : Int)) then
           some ((0 : Int), (0 : Int), false)
          else
           some (IntKind.wrap IntKind.i64 ((BitVec.ofInt (IntKind.bits IntKind.i64) x2 ||| BitVec.ofInt (IntKind.bits IntKind.i64) (IntKind.wrap IntKind.i64 ((IntKind.wrap IntKind.i64 ((BitVec.ofInt (IntKind.bits IntKind.i64) (IntKind.wrap IntKind.i64 (List.getD x0 (Int.toNat (IntKind.wrap IntKind.i64 (x1 + x3))) (0 : Int))) &&& BitVec.ofInt (IntKind.bits IntKind.i64) (127 : Int)).toNat : Int)) * 2 ^ (min (Int.toNat (IntKind.wrap IntKind.u64 (IntKind.wrap IntKind.i64 ((7 : Int) * x3)))) (IntKind.bits IntKind.i64))))).toNat : Int), IntKind.wrap IntKind.i64 ((IntKind.wrap IntKind.i64 (x1 + x3)) + (1 : Int)), true)
       else
        none
      else
       none
     else
      some ((0 : Int), (0 : Int), false)
    else
     some ((0 : Int), (0 : Int), false)
   else
    some ((0 : Int), (0 : Int), false)
  else
   some ((0 : Int), (0 : Int), false)
noncomputable def spec_GetU.ll0 : ((List Int) × Int × Int × Int) → LS
  | (x0, x1, x2, x3) => ⟨[.cv ⟨.row K1, x0⟩, .cv ⟨.int .i64, x1⟩, .cv ⟨.int .i64, x2⟩, .cv ⟨.int .i64, x3⟩], []⟩
noncomputable def spec_GetU.m (B0 : ((List Int) × Int × Int × Int) → Option (Int × Int × Bool)) : ((List Int) × Int) → Option (Int × Int × Bool)
  | (a0_0, a1_0) =>
  B0 (a0_0, a1_0, (0 : Int), (0 : Int))
noncomputable def spec_GetU.sig : Sig := ⟨[.val false [⟨.row K1, 0, 0, false⟩], .val false [⟨.int .i64, 0, 0, false⟩]], [(.one, [(.int .i64, 0)]), (.one, [(.int .i64, 0)]), (.one, [(.bool, 0)])]⟩
noncomputable def spec_GetU.hint : Nat → Hint
  | 0 => ⟨[(0, .keep), (1, .keep), (7, .keep), (8, .keep)], []⟩
  | _ => ⟨[], []⟩
noncomputable def spec_GetU.join : Nat → Option Hint
  | _ => none
noncomputable def spec_GetU.body : Code := (Try.f95).body.getD .skip
noncomputable def spec_GetU.rv : List ResultVar := (Try.f95).results.toList
noncomputable def spec_GetText.m (c95 : (List Int) × Int → Option (Int × Int × Bool)) : ((List Int) × Int) → Option (ByteArray × Int × Bool)
  | (a0_0, a1_0) =>
  Option.bind (c95 (a0_0, a1_0)) fun r1 =>
   bif !(r1.2.2) then
    some (({ data := #[] } : ByteArray), (0 : Int), false)
   else
    bif decide (r1.1 > (IntKind.wrap IntKind.i64 ((List.length a0_0 : Int) - r1.2.1))) then
     some (({ data := #[] } : ByteArray), (0 : Int), false)
    else
     bif decide (0 ≤ r1.2.1) && decide (r1.2.1 ≤ (IntKind.wrap IntKind.i64 (r1.2.1 + r1.1))) && decide ((IntKind.wrap IntKind.i64 (r1.2.1 + r1.1)) ≤ (List.length a0_0 : Int)) then
      some (numsStr (List.drop (Int.toNat r1.2.1) (List.take (Int.toNat (IntKind.wrap IntKind.i64 (r1.2.1 + r1.1))) a0_0)), IntKind.wrap IntKind.i64 (r1.2.1 + r1.1), true)
     else
      none
noncomputable def spec_GetText.sig : Sig := ⟨[.val false [⟨.row K1, 0, 0, false⟩], .val false [⟨.int .i64, 0, 0, false⟩]], [(.one, [(.str, 0)]), (.one, [(.int .i64, 0)]), (.one, [(.bool, 0)])]⟩
noncomputable def spec_GetText.hint : Nat → Hint
  | _ => ⟨[], []⟩
noncomputable def spec_GetText.join : Nat → Option Hint
  | _ => none
noncomputable def spec_GetText.body : Code := (Try.f96).body.getD .skip
noncomputable def spec_GetText.rv : List ResultVar := (Try.f96).results.toList
noncomputable def spec_GetPage.m (c58 : Int × Int × Int → Option (Bool)) (c94 : (List Int) → Option ((List Int) × Bool)) (c95 : (List Int) × Int → Option (Int × Int × Bool)) (c96 : (List Int) × Int → Option (ByteArray × Int × Bool)) : (List Int) → Option (Int × (List Int) × Bool)
  | a0_0 =>
  Option.bind (c94 a0_0) fun r1 =>
   Option.bind (c95 (r1.1, (0 : Int))) fun r2 =>
    Option.bind (c96 (r1.1, r2.2.1)) fun r3 =>
     bif !(r1.2) then
      some ((0 : Int), ([] : List Int), false)
     else
      bif !(r2.2.2) then
       some ((0 : Int), ([] : List Int), false)
      else
       bif !(r3.2.2) then
        some ((0 : Int), ([] : List Int), false)
       else
        bif r3.2.1 != (List.length r1.1 : Int) then
         some ((0 : Int), ([] : List Int), false)
        else
         Option.bind (c58 (r2.1, (1 : Int), (2 : Int))) fun r4 =>
          bif !(r4) then
           some ((0 : Int), ([] : List Int), false)
          else
           bif decide ((ByteArray.size r3.1 : Int) > (240 : Int)) then
            some ((0 : Int), ([] : List Int), false)
           else
            some (r2.1, strNums r3.1, true)
noncomputable def spec_GetPage.sig : Sig := ⟨[.val false [⟨.row K1, 0, 0, false⟩]], [(.one, [(.int .i64, 0)]), (.one, [(.row K1, 1)]), (.one, [(.bool, 0)])]⟩
noncomputable def spec_GetPage.hint : Nat → Hint
  | _ => ⟨[], []⟩
noncomputable def spec_GetPage.join : Nat → Option Hint
  | _ => none
noncomputable def spec_GetPage.body : Code := (Try.f50).body.getD .skip
noncomputable def spec_GetPage.rv : List ResultVar := (Try.f50).results.toList
noncomputable def spec_DrawPageAt.m (c73 : (List Int) → Option ((List Int) × Int × Int)) (c75 : (List Int) × Int × Int × Int → Option (Bool × Int × Int)) (c79 : (List Int) × Int × Int → Option (Int × Int × Int)) (c86 : (List Int) × Int × Int → Option ((List Int) × Int × Int)) (c87 : (List Int) × Int × Int × Int → Option (Int × Int × Int)) (c89 : (List Int) × Int × Int × (List Int) → Option ((List Int) × Int × Int)) (c90 : Int × (List Int) → Option (List Int)) (c97 : (List Int) × Int × Int → Option ((List (List Int)) × (List (Int × (List Int))) × Int × (List (Int × Int × Int)) × Bool × Int × Int)) : (List Int) → Option ((List (List Int)) × (List (Int × (List Int))) × Int × (List (Int × Int × Int)) × Bool × Int × Int)
  | a0_0 =>
  Option.bind (c73 a0_0) fun r1 =>
   Option.bind (c97 (r1.1, r1.2.1, r1.2.2)) fun r2 =>
    Option.bind (c87 (r1.1, r2.2.2.2.2.2.1, r2.2.2.2.2.2.2, (List.length r2.1 : Int))) fun r3 =>
     Option.bind (c87 (r1.1, r3.2.1, r3.2.2, (2 : Int))) fun r4 =>
      Option.bind (c86 (r1.1, r4.2.1, r4.2.2)) fun r5 =>
       Option.bind (c90 (IntKind.wrap IntKind.i64 ((1 : Int) + r4.1), r5.1)) fun r6 =>
        Option.bind (c89 (r1.1, r5.2.1, r5.2.2, r6)) fun r7 =>
         bif decide (0 ≤ r3.1) && decide (r3.1 < (List.length r2.1 : Int)) then
          Option.bind (c75 (r1.1, r7.2.1, r7.2.2, (4 : Int))) fun r8 =>
           bif r8.1 then
            Option.bind (c79 (r1.1, r8.2.1, r8.2.2)) fun r9 =>
             Option.bind (c87 (r1.1, r9.2.1, r9.2.2, (2 : Int))) fun r10 =>
              some (List.set r2.1 (Int.toNat r3.1) r7.1, r2.2.1, r2.2.2.1, r2.2.2.2.1, r2.2.2.2.2.1, r9.1, IntKind.wrap IntKind.i64 ((1 : Int) + r10.1))
           else
            Option.bind (c87 (r1.1, r8.2.1, r8.2.2, (2 : Int))) fun r11 =>
             some (List.set r2.1 (Int.toNat r3.1) r7.1, r2.2.1, r2.2.2.1, r2.2.2.2.1, r2.2.2.2.2.1, r3.1, IntKind.wrap IntKind.i64 ((1 : Int) + r11.1))
         else
          none
noncomputable def spec_DrawPageAt.sig : Sig := ⟨[.val false [⟨.row K1, 0, 0, false⟩]], [(.agg, [(.row K2, 1), (.row K3, 1), (.int .i64, 0), (.row K0, 1), (.bool, 0)]), (.one, [(.int .i64, 0)]), (.one, [(.int .i64, 0)])]⟩
noncomputable def spec_DrawPageAt.hint : Nat → Hint
  | _ => ⟨[], []⟩
noncomputable def spec_DrawPageAt.join : Nat → Option Hint
  | _ => none
noncomputable def spec_DrawPageAt.body : Code := (Try.f51).body.getD .skip
noncomputable def spec_DrawPageAt.rv : List ResultVar := (Try.f51).results.toList
noncomputable def impl_PageAt.m (c28 : (List (List Int)) × (List (Int × (List Int))) × Int × (List (Int × Int × Int)) × Bool × Int → Option ((List Int) × Bool)) (c49 : (List Int) → Option (Int × (List Int) × Bool)) : ((List (List Int)) × (List (Int × (List Int))) × Int × (List (Int × Int × Int)) × Bool × Int × Int) → Option ((List Int) × Bool)
  | (a0_0, a0_1, a0_2, a0_3, a0_4, a1_0, a2_0) =>
  Option.bind (c28 (a0_0, a0_1, a0_2, a0_3, a0_4, a1_0)) fun r1 =>
   Option.bind (c49 r1.1) fun r2 =>
    bif !(r1.2) then
     some (([] : List Int), false)
    else
     bif !(r2.2.2) then
      some (([] : List Int), false)
     else
      bif r2.1 != a2_0 then
       some (([] : List Int), false)
      else
       some (r2.2.1, true)
noncomputable def impl_PageAt.sig : Sig := ⟨[.val true [⟨.row K2, 0, 0, false⟩, ⟨.row K3, 0, 0, false⟩, ⟨.int .i64, 0, 0, false⟩, ⟨.row K0, 0, 0, false⟩, ⟨.bool, 0, 0, false⟩], .val false [⟨.int .i64, 0, 0, false⟩], .val false [⟨.int .i64, 0, 0, false⟩]], [(.one, [(.row K1, 1)]), (.one, [(.bool, 0)])]⟩
noncomputable def impl_PageAt.hint : Nat → Hint
  | _ => ⟨[], []⟩
noncomputable def impl_PageAt.join : Nat → Option Hint
  | _ => none
noncomputable def impl_PageAt.body : Code := (Try.f52).body.getD .skip
noncomputable def impl_PageAt.rv : List ResultVar := (Try.f52).results.toList
noncomputable def spec_PageAt.m (c27 : (List (List Int)) × (List (Int × (List Int))) × Int × (List (Int × Int × Int)) × Bool × Int → Option ((List Int) × Bool)) (c50 : (List Int) → Option (Int × (List Int) × Bool)) : ((List (List Int)) × (List (Int × (List Int))) × Int × (List (Int × Int × Int)) × Bool × Int × Int) → Option ((List Int) × Bool)
  | (a0_0, a0_1, a0_2, a0_3, a0_4, a1_0, a2_0) =>
  Option.bind (c27 (a0_0, a0_1, a0_2, a0_3, a0_4, a1_0)) fun r1 =>
   Option.bind (c50 r1.1) fun r2 =>
    bif !(r1.2) then
     some (([] : List Int), false)
    else
     bif !(r2.2.2) then
      some (([] : List Int), false)
     else
      bif r2.1 != a2_0 then
       some (([] : List Int), false)
      else
       some (r2.2.1, true)
noncomputable def spec_PageAt.sig : Sig := ⟨[.val true [⟨.row K2, 0, 0, false⟩, ⟨.row K3, 0, 0, false⟩, ⟨.int .i64, 0, 0, false⟩, ⟨.row K0, 0, 0, false⟩, ⟨.bool, 0, 0, false⟩], .val false [⟨.int .i64, 0, 0, false⟩], .val false [⟨.int .i64, 0, 0, false⟩]], [(.one, [(.row K1, 1)]), (.one, [(.bool, 0)])]⟩
noncomputable def spec_PageAt.hint : Nat → Hint
  | _ => ⟨[], []⟩
noncomputable def spec_PageAt.join : Nat → Option Hint
  | _ => none
noncomputable def spec_PageAt.body : Code := (Try.f53).body.getD .skip
noncomputable def spec_PageAt.rv : List ResultVar := (Try.f53).results.toList
noncomputable def laws_FnPagesRead.m (c32 : (List Int) → Option (Bool)) (c38 : (List Int) × (List Int) → Option (Bool)) (c48 : (List Int) → Option (List Int)) (c49 : (List Int) → Option (Int × (List Int) × Bool)) (c50 : (List Int) → Option (Int × (List Int) × Bool)) (c51 : (List Int) → Option ((List (List Int)) × (List (Int × (List Int))) × Int × (List (Int × Int × Int)) × Bool × Int × Int)) (c52 : (List (List Int)) × (List (Int × (List Int))) × Int × (List (Int × Int × Int)) × Bool × Int × Int → Option ((List Int) × Bool)) (c53 : (List (List Int)) × (List (Int × (List Int))) × Int × (List (Int × Int × Int)) × Bool × Int × Int → Option ((List Int) × Bool)) (c54 : Int × (List Int) → Option (List Int)) : (List Int) → Option (Bool)
  | a0_0 =>
  Option.bind (c32 a0_0) fun r1 =>
   bif r1 then
    some true
   else
    Option.bind (c48 a0_0) fun r2 =>
     Option.bind (c49 r2) fun r3 =>
      Option.bind (c50 r2) fun r4 =>
       Option.bind (c51 a0_0) fun r5 =>
        Option.bind (c52 (r5.1, r5.2.1, r5.2.2.1, r5.2.2.2.1, r5.2.2.2.2.1, r5.2.2.2.2.2.1, r5.2.2.2.2.2.2)) fun r6 =>
         Option.bind (c53 (r5.1, r5.2.1, r5.2.2.1, r5.2.2.2.1, r5.2.2.2.2.1, r5.2.2.2.2.2.1, r5.2.2.2.2.2.2)) fun r7 =>
          bif r3.2.2 == r4.2.2 then
           bif r6.2 == r7.2 then
            Option.bind (c38 (r6.1, r7.1)) fun r8 =>
             bif r8 then
              bif !(r3.2.2) then
               bif r3.1 == (0 : Int) then
                bif (List.length r3.2.1 : Int) == (0 : Int) then
                 some true
                else
                 bif r3.2.2 then
                  Option.bind (c54 (r3.1, r3.2.1)) fun r9 =>
                   Option.bind (c38 (r9, r2)) fun r10 =>
                    some r10
                 else
                  some false
               else
                bif r3.2.2 then
                 Option.bind (c54 (r3.1, r3.2.1)) fun r11 =>
                  Option.bind (c38 (r11, r2)) fun r12 =>
                   some r12
                else
                 some false
              else
               bif r3.2.2 then
                Option.bind (c54 (r3.1, r3.2.1)) fun r13 =>
                 Option.bind (c38 (r13, r2)) fun r14 =>
                  some r14
               else
                some false
             else
              some false
           else
            some false
          else
           some false
noncomputable def laws_FnPagesRead.sig : Sig := ⟨[.val false [⟨.row K1, 0, 0, false⟩]], [(.one, [(.bool, 0)])]⟩
noncomputable def laws_FnPagesRead.hint : Nat → Hint
  | _ => ⟨[], []⟩
noncomputable def laws_FnPagesRead.join : Nat → Option Hint
  | _ => none
noncomputable def laws_FnPagesRead.body : Code := (Try.f10).body.getD .skip
noncomputable def laws_FnPagesRead.rv : List ResultVar := (Try.f10).results.toList
noncomputable def fns : Nat → Fn
  | 58 => ⟨15, spec_l1In.sig, spec_l1In.rv, spec_l1In.body, spec_l1In.hint, spec_l1In.join⟩
  | 59 => ⟨56, spec_l12Faults.sig, spec_l12Faults.rv, spec_l12Faults.body, spec_l12Faults.hint, spec_l12Faults.join⟩
  | 62 => ⟨15, impl_in.sig, impl_in.rv, impl_in.body, impl_in.hint, impl_in.join⟩
  | 20 => ⟨32, spec_DiskNew.sig, spec_DiskNew.rv, spec_DiskNew.body, spec_DiskNew.hint, spec_DiskNew.join⟩
  | 27 => ⟨46, spec_ReadSec.sig, spec_ReadSec.rv, spec_ReadSec.body, spec_ReadSec.hint, spec_ReadSec.join⟩
  | 72 => ⟨5, impl_copyBytes.sig, impl_copyBytes.rv, impl_copyBytes.body, impl_copyBytes.hint, impl_copyBytes.join⟩
  | 28 => ⟨43, impl_ReadSec.sig, impl_ReadSec.rv, impl_ReadSec.body, impl_ReadSec.hint, impl_ReadSec.join⟩
  | 32 => ⟨6, laws_big.sig, laws_big.rv, laws_big.body, laws_big.hint, laws_big.join⟩
  | 73 => ⟨32, spec_l1New.sig, spec_l1New.rv, spec_l1New.body, spec_l1New.hint, spec_l1New.join⟩
  | 108 => ⟨58, spec_l1Byte.sig, spec_l1Byte.rv, spec_l1Byte.body, spec_l1Byte.hint, spec_l1Byte.join⟩
  | 87 => ⟨31, spec_l1Below.sig, spec_l1Below.rv, spec_l1Below.body, spec_l1Below.hint, spec_l1Below.join⟩
  | 76 => ⟨12, spec_l1Int.sig, spec_l1Int.rv, spec_l1Int.body, spec_l1Int.hint, spec_l1Int.join⟩
  | 74 => ⟨33, spec_l12FaultList.sig, spec_l12FaultList.rv, spec_l12FaultList.body, spec_l12FaultList.hint, spec_l12FaultList.join⟩
  | 75 => ⟨9, spec_l1Once.sig, spec_l1Once.rv, spec_l1Once.body, spec_l1Once.hint, spec_l1Once.join⟩
  | 107 => ⟨20, spec_l1Bytes.sig, spec_l1Bytes.rv, spec_l1Bytes.body, spec_l1Bytes.hint, spec_l1Bytes.join⟩
  | 86 => ⟨8, spec_l1Some.sig, spec_l1Some.rv, spec_l1Some.body, spec_l1Some.hint, spec_l1Some.join⟩
  | 105 => ⟨27, spec_l12Fault.sig, spec_l12Fault.rv, spec_l12Fault.body, spec_l12Fault.hint, spec_l12Fault.join⟩
  | 106 => ⟨83, spec_l12Lose.sig, spec_l12Lose.rv, spec_l12Lose.body, spec_l12Lose.hint, spec_l12Lose.join⟩
  | 85 => ⟨70, spec_l12Flush.sig, spec_l12Flush.rv, spec_l12Flush.body, spec_l12Flush.hint, spec_l12Flush.join⟩
  | 88 => ⟨59, spec_l12Write.sig, spec_l12Write.rv, spec_l12Write.body, spec_l12Write.hint, spec_l12Write.join⟩
  | 97 => ⟨34, spec_l12Draw.sig, spec_l12Draw.rv, spec_l12Draw.body, spec_l12Draw.hint, spec_l12Draw.join⟩
  | 79 => ⟨6, spec_l12N.sig, spec_l12N.rv, spec_l12N.body, spec_l12N.hint, spec_l12N.join⟩
  | 38 => ⟨26, laws_sameBytes.sig, laws_sameBytes.rv, laws_sameBytes.body, laws_sameBytes.hint, laws_sameBytes.join⟩
  | 89 => ⟨37, spec_l1Bend.sig, spec_l1Bend.rv, spec_l1Bend.body, spec_l1Bend.hint, spec_l1Bend.join⟩
  | 113 => ⟨34, spec_Crc.sig, spec_Crc.rv, spec_Crc.body, spec_Crc.hint, spec_Crc.join⟩
  | 109 => ⟨22, spec_PutSum.sig, spec_PutSum.rv, spec_PutSum.body, spec_PutSum.hint, spec_PutSum.join⟩
  | 111 => ⟨29, spec_PutU.sig, spec_PutU.rv, spec_PutU.body, spec_PutU.hint, spec_PutU.join⟩
  | 110 => ⟨11, spec_PutText.sig, spec_PutText.rv, spec_PutText.body, spec_PutText.hint, spec_PutText.join⟩
  | 90 => ⟨21, spec_PutPage.sig, spec_PutPage.rv, spec_PutPage.body, spec_PutPage.hint, spec_PutPage.join⟩
  | 48 => ⟨14, spec_DrawGetPage.sig, spec_DrawGetPage.rv, spec_DrawGetPage.body, spec_DrawGetPage.hint, spec_DrawGetPage.join⟩
  | 114 => ⟨32, impl_Crc.sig, impl_Crc.rv, impl_Crc.body, impl_Crc.hint, impl_Crc.join⟩
  | 98 => ⟨20, impl_addSum.sig, impl_addSum.rv, impl_addSum.body, impl_addSum.hint, impl_addSum.join⟩
  | 115 => ⟨12, impl_clamp.sig, impl_clamp.rv, impl_clamp.body, impl_clamp.hint, impl_clamp.join⟩
  | 100 => ⟨23, impl_addU.sig, impl_addU.rv, impl_addU.body, impl_addU.hint, impl_addU.join⟩
  | 99 => ⟨11, impl_addText.sig, impl_addText.rv, impl_addText.body, impl_addText.hint, impl_addText.join⟩
  | 54 => ⟨19, impl_PutPage.sig, impl_PutPage.rv, impl_PutPage.body, impl_PutPage.hint, impl_PutPage.join⟩
  | 112 => ⟨6, impl_PutSum.sig, impl_PutSum.rv, impl_PutSum.body, impl_PutSum.hint, impl_PutSum.join⟩
  | 91 => ⟨21, impl_GetSum.sig, impl_GetSum.rv, impl_GetSum.body, impl_GetSum.hint, impl_GetSum.join⟩
  | 92 => ⟨57, impl_GetU.sig, impl_GetU.rv, impl_GetU.body, impl_GetU.hint, impl_GetU.join⟩
  | 93 => ⟨37, impl_GetText.sig, impl_GetText.rv, impl_GetText.body, impl_GetText.hint, impl_GetText.join⟩
  | 49 => ⟨58, impl_GetPage.sig, impl_GetPage.rv, impl_GetPage.body, impl_GetPage.hint, impl_GetPage.join⟩
  | 94 => ⟨40, spec_GetSum.sig, spec_GetSum.rv, spec_GetSum.body, spec_GetSum.hint, spec_GetSum.join⟩
  | 95 => ⟨64, spec_GetU.sig, spec_GetU.rv, spec_GetU.body, spec_GetU.hint, spec_GetU.join⟩
  | 96 => ⟨37, spec_GetText.sig, spec_GetText.rv, spec_GetText.body, spec_GetText.hint, spec_GetText.join⟩
  | 50 => ⟨61, spec_GetPage.sig, spec_GetPage.rv, spec_GetPage.body, spec_GetPage.hint, spec_GetPage.join⟩
  | 51 => ⟨38, spec_DrawPageAt.sig, spec_DrawPageAt.rv, spec_DrawPageAt.body, spec_DrawPageAt.hint, spec_DrawPageAt.join⟩
  | 52 => ⟨37, impl_PageAt.sig, impl_PageAt.rv, impl_PageAt.body, impl_PageAt.hint, impl_PageAt.join⟩
  | 53 => ⟨38, spec_PageAt.sig, spec_PageAt.rv, spec_PageAt.body, spec_PageAt.hint, spec_PageAt.join⟩
  | 10 => ⟨89, laws_FnPagesRead.sig, laws_FnPagesRead.rv, laws_FnPagesRead.body, laws_FnPagesRead.hint, laws_FnPagesRead.join⟩
  | _ => ⟨0, ⟨[], []⟩, [], .refuse "", fun _ => ⟨[], []⟩, fun _ => none⟩
noncomputable def sigs (f : Nat) : Sig := (fns f).sig
end
end Go.PV.T
