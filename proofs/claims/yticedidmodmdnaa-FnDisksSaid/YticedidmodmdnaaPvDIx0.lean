/- Functions of the program by their own lists and numbers. No condition beyond those in each statement. -/
import Derived.Test.YticedidmodmdnaaPvLibD
import Derived.Test.YticedidmodmdnaaProg
import Derived.KernelRfl
set_option linter.unusedVariables false
set_option linter.unusedSimpArgs false
set_option maxRecDepth 100000
set_option linter.unusedVariables false
namespace Go.PV.T
open Go.Proofs
noncomputable section
abbrev K0 : SS := .cons (.int .i64) (.cons (.int .i64) (.one (.int .i64)))
abbrev K1 : SS := .one (.int .u8)
abbrev K2 : SS := .one (.row K1)
abbrev K3 : SS := .cons (.int .i64) (.one (.row K1))
abbrev K4 : SS := .one (.int .i64)
noncomputable def eqts (t : Nat) : Bool := memN t []
noncomputable def tys : Nat → TyI
  | 3 => .cell (.int .i64) 0
  | 4 => .cell (.bool) 0
  | 5 => .cell (.int .u8) 0
  | 22 => .cell (.row K2) 24
  | 29 => .cell (.row K3) 32
  | 30 => .cell (.row K0) 24
  | 32 => .strct [0, 1, 2, 3, 4] [.row K2, .row K3, .int .i64, .row K0, .bool]
  | 43 => .cell (.row K1) 1
  | 58 => .strct [0, 1] [.int .i64, .row K1]
  | 78 => .strct [0, 1, 2] [.int .i64, .int .i64, .int .i64]
  | 90 => .cell (.row K4) 8
  | 115 => .strct [0, 1, 2] [.row K1, .int .i64, .int .i64]
  | 119 => .cell (.int .u64) 0
  | _ => .no
noncomputable def spec_l1In.m  : (Int × Int × Int) → Option (Bool)
  | (a0_0, a1_0, a2_0) =>
  bif decide (a0_0 ≥ a1_0) then
   some (decide (a0_0 ≤ a2_0))
  else
   some false
noncomputable def spec_l1In.sig : Sig := ⟨[.val false [⟨.int .i64, 0, 0, false⟩], .val false [⟨.int .i64, 0, 0, false⟩], .val false [⟨.int .i64, 0, 0, false⟩]], [(.one, [(.bool, 0)])]⟩
noncomputable def spec_l1In.hint : Nat → Hint
  | _ => ⟨[], []⟩
noncomputable def spec_l1In.join : Nat → Option Hint
  | _ => none
noncomputable def spec_l1In.body : Code := (Try.f58).body.getD .skip
noncomputable def spec_l1In.rv : List ResultVar := (Try.f58).results.toList
noncomputable def spec_l12Faults.s0 (c58 : Int × Int × Int → Option (Bool)) (L0 : ((List (Int × Int × Int)) × Int) → Option (Bool)) : ((List (Int × Int × Int)) × Int) → Option (Bool)
  | (x0, x1) =>
  bif decide (x1 < (List.length x0 : Int)) then
   bif decide (0 ≤ x1) && decide (x1 < (List.length x0 : Int)) then
    Option.bind (c58 ((List.getD x0 (Int.toNat x1) ((0 : Int), (0 : Int), (0 : Int))).1, (0 : Int), (100000 : Int))) fun r1 =>
     bif !(r1) then
      some false
     else
      bif decide (0 ≤ x1) && decide (x1 < (List.length x0 : Int)) then
       Option.bind (c58 ((List.getD x0 (Int.toNat x1) ((0 : Int), (0 : Int), (0 : Int))).2.1, (0 : Int), (1048575 : Int))) fun r2 =>
        bif !(r2) then
         some false
        else
         bif decide (0 ≤ x1) && decide (x1 < (List.length x0 : Int)) then
          Option.bind (c58 ((List.getD x0 (Int.toNat x1) ((0 : Int), (0 : Int), (0 : Int))).2.2, (0 : Int), (256 : Int))) fun r3 =>
           bif !(r3) then
            some false
           else
            bif decide (x1 > (0 : Int)) then
             bif decide (0 ≤ (IntKind.wrap IntKind.i64 (x1 - (1 : Int)))) && decide ((IntKind.wrap IntKind.i64 (x1 - (1 : Int))) < (List.length x0 : Int)) then
              bif decide (0 ≤ x1) && decide (x1 < (List.length x0 : Int)) then
               bif decide (((List.getD x0 (Int.toNat (IntKind.wrap IntKind.i64 (x1 - (1 : Int)))) ((0 : Int), (0 : Int), (0 : Int))).1) ≥ ((List.getD x0 (Int.toNat x1) ((0 : Int), (0 : Int), (0 : Int))).1)) then
                some false
               else
                L0 (x0, IntKind.wrap IntKind.i64 (x1 + (1 : Int)))
              else
               none
             else
              none
            else
             L0 (x0, IntKind.wrap IntKind.i64 (x1 + (1 : Int)))
         else
          none
      else
       none
   else
    none
  else
   some (decide ((List.length x0 : Int) ≤ (20 : Int)))
noncomputable def spec_l12Faults.ll0 : ((List (Int × Int × Int)) × Int) → LS
  | (x0, x1) => ⟨[.cv ⟨.row K0, x0⟩, .cv ⟨.int .i64, x1⟩], []⟩
noncomputable def spec_l12Faults.m (B0 : ((List (Int × Int × Int)) × Int) → Option (Bool)) : (List (Int × Int × Int)) → Option (Bool)
  | a0_0 =>
  B0 (a0_0, (0 : Int))
noncomputable def spec_l12Faults.sig : Sig := ⟨[.val false [⟨.row K0, 0, 0, false⟩]], [(.one, [(.bool, 0)])]⟩
noncomputable def spec_l12Faults.hint : Nat → Hint
  | 0 => ⟨[(0, .keep), (3, .keep)], []⟩
  | _ => ⟨[], []⟩
noncomputable def spec_l12Faults.join : Nat → Option Hint
  | _ => none
noncomputable def spec_l12Faults.body : Code := (Try.f59).body.getD .skip
noncomputable def spec_l12Faults.rv : List ResultVar := (Try.f59).results.toList
noncomputable def spec_DiskOk.s0 (B2 : (Int × (List (List Int)) × (List (Int × (List Int))) × Int × (List (Int × Int × Int)) × Bool) → Option (Bool)) (L0 : (Int × (List (List Int)) × (List (Int × (List Int))) × Int × (List (Int × Int × Int)) × Bool) → Option (Bool)) : (Int × (List (List Int)) × (List (Int × (List Int))) × Int × (List (Int × Int × Int)) × Bool) → Option (Bool)
  | (x0, x1, x2, x3, x4, x5) =>
  bif decide (x0 < (List.length x1 : Int)) then
   bif decide (0 ≤ x0) && decide (x0 < (List.length x1 : Int)) then
    bif decide ((List.length (List.getD x1 (Int.toNat x0) ([] : List Int)) : Int) > (256 : Int)) then
     some false
    else
     L0 (IntKind.wrap IntKind.i64 (x0 + (1 : Int)), x1, x2, x3, x4, x5)
   else
    none
  else
   B2 ((0 : Int), x1, x2, x3, x4, x5)
noncomputable def spec_DiskOk.ll0 : (Int × (List (List Int)) × (List (Int × (List Int))) × Int × (List (Int × Int × Int)) × Bool) → LS
  | (x0, x1, x2, x3, x4, x5) => ⟨[.addr 65 0 [] 0, .cv ⟨.int .i64, x0⟩], [⟨false, [⟨0, 0, .mk 0 ⟨.row K2, x1⟩⟩, ⟨0, 0, .mk 0 ⟨.row K3, x2⟩⟩, ⟨0, 0, .mk 0 ⟨.int .i64, x3⟩⟩, ⟨0, 0, .mk 0 ⟨.row K0, x4⟩⟩, ⟨0, 0, .mk 0 ⟨.bool, x5⟩⟩]⟩]⟩
noncomputable def spec_DiskOk.s2 (c58 : Int × Int × Int → Option (Bool)) (c59 : (List (Int × Int × Int)) → Option (Bool)) (L2 : (Int × (List (List Int)) × (List (Int × (List Int))) × Int × (List (Int × Int × Int)) × Bool) → Option (Bool)) : (Int × (List (List Int)) × (List (Int × (List Int))) × Int × (List (Int × Int × Int)) × Bool) → Option (Bool)
  | (x0, x1, x2, x3, x4, x5) =>
  bif decide (x0 < (List.length x2 : Int)) then
   bif decide (0 ≤ x0) && decide (x0 < (List.length x2 : Int)) then
    Option.bind (c58 ((List.getD x2 (Int.toNat x0) ((0 : Int), ([] : List Int))).1, (0 : Int), IntKind.wrap IntKind.i64 ((List.length x1 : Int) - (1 : Int)))) fun r1 =>
     bif !(r1) then
      some false
     else
      bif decide (0 ≤ x0) && decide (x0 < (List.length x2 : Int)) then
       bif decide ((List.length ((List.getD x2 (Int.toNat x0) ((0 : Int), ([] : List Int))).2) : Int) > (256 : Int)) then
        some false
       else
        L2 (IntKind.wrap IntKind.i64 (x0 + (1 : Int)), x1, x2, x3, x4, x5)
      else
       none
   else
    none
  else
   Option.bind (c58 ((List.length x1 : Int), (4 : Int), (48 : Int))) fun r2 =>
    bif r2 then
     bif decide ((List.length x2 : Int) ≤ (60 : Int)) then
      Option.bind (c58 (x3, (0 : Int), (100000 : Int))) fun r3 =>
       bif r3 then
        Option.bind (c59 x4) fun r4 =>
         bif r4 then
          bif !(x5) then
           some true
          else
           some ((List.length x2 : Int) == (0 : Int))
         else
          some false
       else
        some false
     else
      some false
    else
     some false
noncomputable def spec_DiskOk.ll2 : (Int × (List (List Int)) × (List (Int × (List Int))) × Int × (List (Int × Int × Int)) × Bool) → LS
  | (x0, x1, x2, x3, x4, x5) => ⟨[.addr 65 0 [] 0, .cv ⟨.int .i64, x0⟩], [⟨false, [⟨0, 0, .mk 0 ⟨.row K2, x1⟩⟩, ⟨0, 0, .mk 0 ⟨.row K3, x2⟩⟩, ⟨0, 0, .mk 0 ⟨.int .i64, x3⟩⟩, ⟨0, 0, .mk 0 ⟨.row K0, x4⟩⟩, ⟨0, 0, .mk 0 ⟨.bool, x5⟩⟩]⟩]⟩
noncomputable def spec_DiskOk.m (B0 : (Int × (List (List Int)) × (List (Int × (List Int))) × Int × (List (Int × Int × Int)) × Bool) → Option (Bool)) : ((List (List Int)) × (List (Int × (List Int))) × Int × (List (Int × Int × Int)) × Bool) → Option (Bool)
  | (a0_0, a0_1, a0_2, a0_3, a0_4) =>
  B0 ((0 : Int), a0_0, a0_1, a0_2, a0_3, a0_4)
noncomputable def spec_DiskOk.sig : Sig := ⟨[.val true [⟨.row K2, 0, 0, false⟩, ⟨.row K3, 0, 0, false⟩, ⟨.int .i64, 0, 0, false⟩, ⟨.row K0, 0, 0, false⟩, ⟨.bool, 0, 0, false⟩]], [(.one, [(.bool, 0)])]⟩
noncomputable def spec_DiskOk.hint : Nat → Hint
  | 0 => ⟨[(1, .keep), (3, .keep)], [(65, [0, 0, 0, 0, 0])]⟩
  | 2 => ⟨[(1, .keep), (4, .keep)], [(65, [0, 0, 0, 0, 0])]⟩
  | _ => ⟨[], []⟩
noncomputable def spec_DiskOk.join : Nat → Option Hint
  | _ => none
noncomputable def spec_DiskOk.body : Code := (Try.f15).body.getD .skip
noncomputable def spec_DiskOk.rv : List ResultVar := (Try.f15).results.toList
noncomputable def impl_in.m  : (Int × Int × Int) → Option (Bool)
  | (a0_0, a1_0, a2_0) =>
  bif decide (a0_0 ≥ a1_0) then
   some (decide (a0_0 ≤ a2_0))
  else
   some false
noncomputable def impl_in.sig : Sig := ⟨[.val false [⟨.int .i64, 0, 0, false⟩], .val false [⟨.int .i64, 0, 0, false⟩], .val false [⟨.int .i64, 0, 0, false⟩]], [(.one, [(.bool, 0)])]⟩
noncomputable def impl_in.hint : Nat → Hint
  | _ => ⟨[], []⟩
noncomputable def impl_in.join : Nat → Option Hint
  | _ => none
noncomputable def impl_in.body : Code := (Try.f62).body.getD .skip
noncomputable def impl_in.rv : List ResultVar := (Try.f62).results.toList
noncomputable def impl_DiskOk.s0 (B2 : ((List (Int × (List Int))) × Int × Int × (List (List Int)) × (List (Int × (List Int))) × Int × (List (Int × Int × Int)) × Bool) → Option (Bool)) (L0 : ((List (List Int)) × Int × Int × (List (List Int)) × (List (Int × (List Int))) × Int × (List (Int × Int × Int)) × Bool) → Option (Bool)) : ((List (List Int)) × Int × Int × (List (List Int)) × (List (Int × (List Int))) × Int × (List (Int × Int × Int)) × Bool) → Option (Bool)
  | (x0, x1, x2, x3, x4, x5, x6, x7) =>
  bif decide (x2 < x1) then
   bif decide (0 ≤ x2) && decide (x2 < (List.length x0 : Int)) then
    bif decide ((List.length (List.getD x0 (Int.toNat x2) ([] : List Int)) : Int) > (256 : Int)) then
     some false
    else
     L0 (x0, x1, IntKind.wrap IntKind.i64 (x2 + (1 : Int)), x3, x4, x5, x6, x7)
   else
    none
  else
   B2 (x4, (List.length x4 : Int), (0 : Int), x3, x4, x5, x6, x7)
noncomputable def impl_DiskOk.ll0 : ((List (List Int)) × Int × Int × (List (List Int)) × (List (Int × (List Int))) × Int × (List (Int × Int × Int)) × Bool) → LS
  | (x0, x1, x2, x3, x4, x5, x6, x7) => ⟨[.addr 65 0 [] 0, .cv ⟨.row K2, x0⟩, .cv ⟨.int .i64, x1⟩, .cv ⟨.int .i64, x2⟩], [⟨false, [⟨0, 0, .mk 0 ⟨.row K2, x3⟩⟩, ⟨0, 0, .mk 0 ⟨.row K3, x4⟩⟩, ⟨0, 0, .mk 0 ⟨.int .i64, x5⟩⟩, ⟨0, 0, .mk 0 ⟨.row K0, x6⟩⟩, ⟨0, 0, .mk 0 ⟨.bool, x7⟩⟩]⟩]⟩
noncomputable def impl_DiskOk.s2 (c62 : Int × Int × Int → Option (Bool)) (B4 : ((List (Int × Int × Int)) × Int × Int × (List (List Int)) × (List (Int × (List Int))) × Int × (List (Int × Int × Int)) × Bool) → Option (Bool)) (L2 : ((List (Int × (List Int))) × Int × Int × (List (List Int)) × (List (Int × (List Int))) × Int × (List (Int × Int × Int)) × Bool) → Option (Bool)) : ((List (Int × (List Int))) × Int × Int × (List (List Int)) × (List (Int × (List Int))) × Int × (List (Int × Int × Int)) × Bool) → Option (Bool)
  | (x0, x1, x2, x3, x4, x5, x6, x7) =>
  bif decide (x2 < x1) then
   bif decide (0 ≤ x2) && decide (x2 < (List.length x0 : Int)) then
    Option.bind (c62 ((List.getD x0 (Int.toNat x2) ((0 : Int), ([] : List Int))).1, (0 : Int), IntKind.wrap IntKind.i64 ((List.length x3 : Int) - (1 : Int)))) fun r3 =>
     bif !(r3) then
      some false
     else
      bif decide ((List.length ((List.getD x0 (Int.toNat x2) ((0 : Int), ([] : List Int))).2) : Int) > (256 : Int)) then
       some false
      else
       L2 (x0, x1, IntKind.wrap IntKind.i64 (x2 + (1 : Int)), x3, x4, x5, x6, x7)
   else
    none
  else
   B4 (x6, (List.length x6 : Int), (0 : Int), x3, x4, x5, x6, x7)
noncomputable def impl_DiskOk.ll2 : ((List (Int × (List Int))) × Int × Int × (List (List Int)) × (List (Int × (List Int))) × Int × (List (Int × Int × Int)) × Bool) → LS
  | (x0, x1, x2, x3, x4, x5, x6, x7) => ⟨[.addr 65 0 [] 0, .cv ⟨.row K3, x0⟩, .cv ⟨.int .i64, x1⟩, .cv ⟨.int .i64, x2⟩], [⟨false, [⟨0, 0, .mk 0 ⟨.row K2, x3⟩⟩, ⟨0, 0, .mk 0 ⟨.row K3, x4⟩⟩, ⟨0, 0, .mk 0 ⟨.int .i64, x5⟩⟩, ⟨0, 0, .mk 0 ⟨.row K0, x6⟩⟩, ⟨0, 0, .mk 0 ⟨.bool, x7⟩⟩]⟩]⟩
noncomputable def impl_DiskOk.s4 (c62 : Int × Int × Int → Option (Bool)) (L4 : ((List (Int × Int × Int)) × Int × Int × (List (List Int)) × (List (Int × (List Int))) × Int × (List (Int × Int × Int)) × Bool) → Option (Bool)) : ((List (Int × Int × Int)) × Int × Int × (List (List Int)) × (List (Int × (List Int))) × Int × (List (Int × Int × Int)) × Bool) → Option (Bool)
  | (x0, x1, x2, x3, x4, x5, x6, x7) =>
  bif decide (x2 < x1) then
   bif decide (0 ≤ x2) && decide (x2 < (List.length x0 : Int)) then
    Option.bind (c62 ((List.getD x0 (Int.toNat x2) ((0 : Int), (0 : Int), (0 : Int))).1, (0 : Int), (100000 : Int))) fun r4 =>
     bif !(r4) then
      some false
     else
      Option.bind (c62 ((List.getD x0 (Int.toNat x2) ((0 : Int), (0 : Int), (0 : Int))).2.1, (0 : Int), (1048575 : Int))) fun r5 =>
       bif !(r5) then
        some false
       else
        Option.bind (c62 ((List.getD x0 (Int.toNat x2) ((0 : Int), (0 : Int), (0 : Int))).2.2, (0 : Int), (256 : Int))) fun r6 =>
         bif !(r6) then
          some false
         else
          bif decide (x2 > (0 : Int)) then
           bif decide (0 ≤ (IntKind.wrap IntKind.i64 (x2 - (1 : Int)))) && decide ((IntKind.wrap IntKind.i64 (x2 - (1 : Int))) < (List.length x6 : Int)) then
            bif decide (((List.getD x6 (Int.toNat (IntKind.wrap IntKind.i64 (x2 - (1 : Int)))) ((0 : Int), (0 : Int), (0 : Int))).1) ≥ ((List.getD x0 (Int.toNat x2) ((0 : Int), (0 : Int), (0 : Int))).1)) then
             some false
            else
             L4 (x0, x1, IntKind.wrap IntKind.i64 (x2 + (1 : Int)), x3, x4, x5, x6, x7)
           else
            none
          else
           L4 (x0, x1, IntKind.wrap IntKind.i64 (x2 + (1 : Int)), x3, x4, x5, x6, x7)
   else
    none
  else
   some true
noncomputable def impl_DiskOk.ll4 : ((List (Int × Int × Int)) × Int × Int × (List (List Int)) × (List (Int × (List Int))) × Int × (List (Int × Int × Int)) × Bool) → LS
  | (x0, x1, x2, x3, x4, x5, x6, x7) => ⟨[.addr 65 0 [] 0, .cv ⟨.row K0, x0⟩, .cv ⟨.int .i64, x1⟩, .cv ⟨.int .i64, x2⟩], [⟨false, [⟨0, 0, .mk 0 ⟨.row K2, x3⟩⟩, ⟨0, 0, .mk 0 ⟨.row K3, x4⟩⟩, ⟨0, 0, .mk 0 ⟨.int .i64, x5⟩⟩, ⟨0, 0, .mk 0 ⟨.row K0, x6⟩⟩, ⟨0, 0, .mk 0 ⟨.bool, x7⟩⟩]⟩]⟩
noncomputable def impl_DiskOk.m (c62 : Int × Int × Int → Option (Bool)) (B0 : ((List (List Int)) × Int × Int × (List (List Int)) × (List (Int × (List Int))) × Int × (List (Int × Int × Int)) × Bool) → Option (Bool)) : ((List (List Int)) × (List (Int × (List Int))) × Int × (List (Int × Int × Int)) × Bool) → Option (Bool)
  | (a0_0, a0_1, a0_2, a0_3, a0_4) =>
  Option.bind (c62 ((List.length a0_0 : Int), (4 : Int), (48 : Int))) fun r1 =>
   bif !(r1) then
    some false
   else
    bif decide ((List.length a0_1 : Int) > (60 : Int)) then
     some false
    else
     Option.bind (c62 (a0_2, (0 : Int), (100000 : Int))) fun r2 =>
      bif !(r2) then
       some false
      else
       bif decide ((List.length a0_3 : Int) > (20 : Int)) then
        some false
       else
        bif a0_4 then
         bif decide ((List.length a0_1 : Int) > (0 : Int)) then
          some false
         else
          B0 (a0_0, (List.length a0_0 : Int), (0 : Int), a0_0, a0_1, a0_2, a0_3, a0_4)
        else
         B0 (a0_0, (List.length a0_0 : Int), (0 : Int), a0_0, a0_1, a0_2, a0_3, a0_4)
noncomputable def impl_DiskOk.sig : Sig := ⟨[.val true [⟨.row K2, 0, 0, false⟩, ⟨.row K3, 0, 0, false⟩, ⟨.int .i64, 0, 0, false⟩, ⟨.row K0, 0, 0, false⟩, ⟨.bool, 0, 0, false⟩]], [(.one, [(.bool, 0)])]⟩
noncomputable def impl_DiskOk.hint : Nat → Hint
  | 0 => ⟨[(1, .keep), (43, .keep), (44, .keep), (45, .keep)], [(65, [0, 0, 0, 0, 0])]⟩
  | 2 => ⟨[(1, .keep), (54, .keep), (55, .keep), (56, .keep)], [(65, [0, 0, 0, 0, 0])]⟩
  | 4 => ⟨[(1, .keep), (76, .keep), (77, .keep), (78, .keep)], [(65, [0, 0, 0, 0, 0])]⟩
  | _ => ⟨[], []⟩
noncomputable def impl_DiskOk.join : Nat → Option Hint
  | _ => none
noncomputable def impl_DiskOk.body : Code := (Try.f17).body.getD .skip
noncomputable def impl_DiskOk.rv : List ResultVar := (Try.f17).results.toList
noncomputable def spec_DiskNew.s0 (L0 : (Int × Int × (List (List Int)) × (List (Int × (List Int))) × Int × (List (Int × Int × Int)) × Bool × (List (List Int)) × (List (Int × (List Int))) × Int × (List (Int × Int × Int)) × Bool) → Option ((List (List Int)) × (List (Int × (List Int))) × Int × (List (Int × Int × Int)) × Bool)) : (Int × Int × (List (List Int)) × (List (Int × (List Int))) × Int × (List (Int × Int × Int)) × Bool × (List (List Int)) × (List (Int × (List Int))) × Int × (List (Int × Int × Int)) × Bool) → Option ((List (List Int)) × (List (Int × (List Int))) × Int × (List (Int × Int × Int)) × Bool)
  | (x0, x1, x2, x3, x4, x5, x6, x7, x8, x9, x10, x11) =>
  bif decide (x1 < x0) then
   bif decide ((List.length x7 + List.length ([([] : List Int)] : List (List Int))) * 24 ≤ 140737488355328) then
    L0 (x0, IntKind.wrap IntKind.i64 (x1 + (1 : Int)), x2, x3, x4, x5, x6, x7 ++ ([([] : List Int)] : List (List Int)), x8, x9, x10, x11)
   else
    none
  else
   some (x7, x8, x9, x10, x11)
noncomputable def spec_DiskNew.ll0 : (Int × Int × (List (List Int)) × (List (Int × (List Int))) × Int × (List (Int × Int × Int)) × Bool × (List (List Int)) × (List (Int × (List Int))) × Int × (List (Int × Int × Int)) × Bool) → LS
  | (x0, x1, x2, x3, x4, x5, x6, x7, x8, x9, x10, x11) => ⟨[.cv ⟨.int .i64, x0⟩, .addr 257 0 [] 0, .addr 321 0 [] 0, .cv ⟨.int .i64, x1⟩], [⟨false, [⟨0, 0, .mk 9 ⟨.row K2, x2⟩⟩, ⟨0, 0, .mk 9 ⟨.row K3, x3⟩⟩, ⟨0, 0, .mk 0 ⟨.int .i64, x4⟩⟩, ⟨0, 0, .mk 9 ⟨.row K0, x5⟩⟩, ⟨0, 0, .mk 0 ⟨.bool, x6⟩⟩]⟩, ⟨false, [⟨0, 0, .mk 9 ⟨.row K2, x7⟩⟩, ⟨0, 0, .mk 9 ⟨.row K3, x8⟩⟩, ⟨0, 0, .mk 0 ⟨.int .i64, x9⟩⟩, ⟨0, 0, .mk 9 ⟨.row K0, x10⟩⟩, ⟨0, 0, .mk 0 ⟨.bool, x11⟩⟩]⟩]⟩
noncomputable def spec_DiskNew.m (c58 : Int × Int × Int → Option (Bool)) (c59 : (List (Int × Int × Int)) → Option (Bool)) (B0 : (Int × Int × (List (List Int)) × (List (Int × (List Int))) × Int × (List (Int × Int × Int)) × Bool × (List (List Int)) × (List (Int × (List Int))) × Int × (List (Int × Int × Int)) × Bool) → Option ((List (List Int)) × (List (Int × (List Int))) × Int × (List (Int × Int × Int)) × Bool)) : (Int × (List (Int × Int × Int))) → Option ((List (List Int)) × (List (Int × (List Int))) × Int × (List (Int × Int × Int)) × Bool)
  | (a0_0, a1_0) =>
  Option.bind (c58 (a0_0, (4 : Int), (48 : Int))) fun r1 =>
   bif !(r1) then
    some (([] : List (List Int)), ([] : List (Int × (List Int))), (0 : Int), ([] : List (Int × Int × Int)), false)
   else
    Option.bind (c59 a1_0) fun r2 =>
     bif !(r2) then
      some (([] : List (List Int)), ([] : List (Int × (List Int))), (0 : Int), ([] : List (Int × Int × Int)), false)
     else
      bif decide ((List.length ([] : List (Int × Int × Int)) + List.length a1_0) * 24 ≤ 140737488355328) then
       B0 (a0_0, (0 : Int), ([] : List (List Int)), ([] : List (Int × (List Int))), (0 : Int), ([] : List (Int × Int × Int)), false, ([] : List (List Int)), ([] : List (Int × (List Int))), (0 : Int), ([] : List (Int × Int × Int)) ++ a1_0, false)
      else
       none
noncomputable def spec_DiskNew.sig : Sig := ⟨[.val false [⟨.int .i64, 0, 0, false⟩], .val false [⟨.row K0, 0, 0, false⟩]], [(.agg, [(.row K2, 2), (.row K3, 2), (.int .i64, 0), (.row K0, 1), (.bool, 0)])]⟩
noncomputable def spec_DiskNew.hint : Nat → Hint
  | 0 => ⟨[(0, .keep), (4, .keep), (5, .keep), (6, .keep)], [(257, [9, 9, 0, 9, 0]), (321, [9, 9, 0, 9, 0])]⟩
  | _ => ⟨[], []⟩
noncomputable def spec_DiskNew.join : Nat → Option Hint
  | _ => none
noncomputable def spec_DiskNew.body : Code := (Try.f20).body.getD .skip
noncomputable def spec_DiskNew.rv : List ResultVar := (Try.f20).results.toList
noncomputable def impl_copyBytes.m  : (List Int) → Option (List Int)
  | a0_0 =>
  bif decide ((List.length ([] : List Int) + List.length a0_0) * 1 ≤ 140737488355328) then
   some (([] : List Int) ++ a0_0)
  else
   none
noncomputable def impl_copyBytes.sig : Sig := ⟨[.val false [⟨.row K1, 0, 0, false⟩]], [(.one, [(.row K1, 1)])]⟩
noncomputable def impl_copyBytes.hint : Nat → Hint
  | _ => ⟨[], []⟩
noncomputable def impl_copyBytes.join : Nat → Option Hint
  | _ => none
noncomputable def impl_copyBytes.body : Code := (Try.f72).body.getD .skip
noncomputable def impl_copyBytes.rv : List ResultVar := (Try.f72).results.toList
noncomputable def impl_ReadSec.s0 (c72 : (List Int) → Option (List Int)) (L0 : (Int × Int × (List (List Int)) × (List (Int × (List Int))) × Int × (List (Int × Int × Int)) × Bool) → Option ((List Int) × Bool)) : (Int × Int × (List (List Int)) × (List (Int × (List Int))) × Int × (List (Int × Int × Int)) × Bool) → Option ((List Int) × Bool)
  | (x0, x1, x2, x3, x4, x5, x6) =>
  bif decide (x1 ≥ (0 : Int)) then
   bif decide (0 ≤ x1) && decide (x1 < (List.length x3 : Int)) then
    bif ((List.getD x3 (Int.toNat x1) ((0 : Int), ([] : List Int))).1) == x0 then
     bif decide (0 ≤ x1) && decide (x1 < (List.length x3 : Int)) then
      Option.bind (c72 ((List.getD x3 (Int.toNat x1) ((0 : Int), ([] : List Int))).2)) fun r2 =>
       some (r2, true)
     else
      none
    else
     L0 (x0, IntKind.wrap IntKind.i64 (x1 - (1 : Int)), x2, x3, x4, x5, x6)
   else
    none
  else
   bif decide (0 ≤ x0) && decide (x0 < (List.length x2 : Int)) then
    Option.bind (c72 (List.getD x2 (Int.toNat x0) ([] : List Int))) fun r3 =>
     some (r3, true)
   else
    none
noncomputable def impl_ReadSec.ll0 : (Int × Int × (List (List Int)) × (List (Int × (List Int))) × Int × (List (Int × Int × Int)) × Bool) → LS
  | (x0, x1, x2, x3, x4, x5, x6) => ⟨[.cv ⟨.int .i64, x0⟩, .addr 129 0 [] 0, .cv ⟨.int .i64, x1⟩], [⟨false, [⟨0, 0, .mk 0 ⟨.row K2, x2⟩⟩, ⟨0, 0, .mk 0 ⟨.row K3, x3⟩⟩, ⟨0, 0, .mk 0 ⟨.int .i64, x4⟩⟩, ⟨0, 0, .mk 0 ⟨.row K0, x5⟩⟩, ⟨0, 0, .mk 0 ⟨.bool, x6⟩⟩]⟩]⟩
noncomputable def impl_ReadSec.m (c62 : Int × Int × Int → Option (Bool)) (B0 : (Int × Int × (List (List Int)) × (List (Int × (List Int))) × Int × (List (Int × Int × Int)) × Bool) → Option ((List Int) × Bool)) : ((List (List Int)) × (List (Int × (List Int))) × Int × (List (Int × Int × Int)) × Bool × Int) → Option ((List Int) × Bool)
  | (a0_0, a0_1, a0_2, a0_3, a0_4, a1_0) =>
  Option.bind (c62 (a1_0, (0 : Int), IntKind.wrap IntKind.i64 ((List.length a0_0 : Int) - (1 : Int)))) fun r1 =>
   bif !(r1) then
    some (([] : List Int), false)
   else
    B0 (a1_0, IntKind.wrap IntKind.i64 ((List.length a0_1 : Int) - (1 : Int)), a0_0, a0_1, a0_2, a0_3, a0_4)
noncomputable def impl_ReadSec.sig : Sig := ⟨[.val true [⟨.row K2, 0, 0, false⟩, ⟨.row K3, 0, 0, false⟩, ⟨.int .i64, 0, 0, false⟩, ⟨.row K0, 0, 0, false⟩, ⟨.bool, 0, 0, false⟩], .val false [⟨.int .i64, 0, 0, false⟩]], [(.one, [(.row K1, 1)]), (.one, [(.bool, 0)])]⟩
noncomputable def impl_ReadSec.hint : Nat → Hint
  | 0 => ⟨[(1, .keep), (2, .keep), (6, .keep)], [(129, [0, 0, 0, 0, 0])]⟩
  | _ => ⟨[], []⟩
noncomputable def impl_ReadSec.join : Nat → Option Hint
  | _ => none
noncomputable def impl_ReadSec.body : Code := (Try.f28).body.getD .skip
noncomputable def impl_ReadSec.rv : List ResultVar := (Try.f28).results.toList
noncomputable def laws_big.m  : (List Int) → Option (Bool)
  | a0_0 =>
  some (decide ((List.length a0_0 : Int) > (1048576 : Int)))
noncomputable def laws_big.sig : Sig := ⟨[.val false [⟨.row K1, 0, 0, false⟩]], [(.one, [(.bool, 0)])]⟩
noncomputable def laws_big.hint : Nat → Hint
  | _ => ⟨[], []⟩
noncomputable def laws_big.join : Nat → Option Hint
  | _ => none
noncomputable def laws_big.body : Code := (Try.f32).body.getD .skip
noncomputable def laws_big.rv : List ResultVar := (Try.f32).results.toList
noncomputable def spec_l1New.s0 (L0 : ((List Int) × Int × Int) → Option ((List Int) × Int × Int)) : ((List Int) × Int × Int) → Option ((List Int) × Int × Int)
  | (x0, x1, x2) =>
  bif decide (x2 < (List.length x0 : Int)) then
   bif decide (x2 < (4000 : Int)) then
    bif decide (0 ≤ x2) && decide (x2 < (List.length x0 : Int)) then
     L0 (x0, IntKind.wrap IntKind.i64 ((BitVec.ofInt (IntKind.bits IntKind.i64) (IntKind.wrap IntKind.i64 ((IntKind.wrap IntKind.i64 ((IntKind.wrap IntKind.i64 (x1 * (137 : Int))) + (IntKind.wrap IntKind.i64 (List.getD x0 (Int.toNat x2) (0 : Int))))) + (11 : Int))) &&& BitVec.ofInt (IntKind.bits IntKind.i64) (1073741823 : Int)).toNat : Int), IntKind.wrap IntKind.i64 (x2 + (1 : Int)))
    else
     none
   else
    some (x0, (0 : Int), x1)
  else
   some (x0, (0 : Int), x1)
noncomputable def spec_l1New.ll0 : ((List Int) × Int × Int) → LS
  | (x0, x1, x2) => ⟨[.cv ⟨.row K1, x0⟩, .cv ⟨.int .i64, x1⟩, .cv ⟨.int .i64, x2⟩], []⟩
noncomputable def spec_l1New.m (B0 : ((List Int) × Int × Int) → Option ((List Int) × Int × Int)) : (List Int) → Option ((List Int) × Int × Int)
  | a0_0 =>
  B0 (a0_0, IntKind.wrap IntKind.i64 ((758758 : Int) + (List.length a0_0 : Int)), (0 : Int))
noncomputable def spec_l1New.sig : Sig := ⟨[.val false [⟨.row K1, 0, 0, false⟩]], [(.ptr, [(.row K1, 0), (.int .i64, 0), (.int .i64, 0)])]⟩
noncomputable def spec_l1New.hint : Nat → Hint
  | 0 => ⟨[(0, .keep), (3, .keep), (4, .keep)], []⟩
  | _ => ⟨[], []⟩
noncomputable def spec_l1New.join : Nat → Option Hint
  | _ => none
noncomputable def spec_l1New.body : Code := (Try.f73).body.getD .skip
noncomputable def spec_l1New.rv : List ResultVar := (Try.f73).results.toList
noncomputable def spec_l1Byte.m  : ((List Int) × Int × Int) → Option (Int × Int × Int)
  | (a0_0, a0_1, a0_2) =>
  bif decide (¬ (33 : Int) < 0) then
   bif decide (¬ (47 : Int) < 0) then
    bif decide (a0_1 < (List.length a0_0 : Int)) then
     bif decide (0 ≤ a0_1) && decide (a0_1 < (List.length a0_0 : Int)) then
      some (IntKind.wrap IntKind.i64 ((BitVec.ofInt (IntKind.bits IntKind.i64) (IntKind.wrap IntKind.i64 ((IntKind.wrap IntKind.i64 ((BitVec.ofInt (IntKind.bits IntKind.i64) (IntKind.wrap IntKind.i64 ((BitVec.ofInt (IntKind.bits IntKind.i64) (Int.fdiv (IntKind.wrap IntKind.i64 ((IntKind.wrap IntKind.i64 (a0_2 * (6364136223846793005 : Int))) + (1442695040888963407 : Int))) (2 ^ (min (Int.toNat (33 : Int)) (IntKind.bits IntKind.i64)))) ^^^ BitVec.ofInt (IntKind.bits IntKind.i64) (Int.fdiv (IntKind.wrap IntKind.i64 ((IntKind.wrap IntKind.i64 (a0_2 * (6364136223846793005 : Int))) + (1442695040888963407 : Int))) (2 ^ (min (Int.toNat (47 : Int)) (IntKind.bits IntKind.i64))))).toNat : Int)) &&& BitVec.ofInt (IntKind.bits IntKind.i64) (255 : Int)).toNat : Int)) + (IntKind.wrap IntKind.i64 (List.getD a0_0 (Int.toNat a0_1) (0 : Int))))) &&& BitVec.ofInt (IntKind.bits IntKind.i64) (255 : Int)).toNat : Int), IntKind.wrap IntKind.i64 (a0_1 + (1 : Int)), IntKind.wrap IntKind.i64 ((IntKind.wrap IntKind.i64 (a0_2 * (6364136223846793005 : Int))) + (1442695040888963407 : Int)))
     else
      none
    else
     some (IntKind.wrap IntKind.i64 ((BitVec.ofInt (IntKind.bits IntKind.i64) (IntKind.wrap IntKind.i64 ((BitVec.ofInt (IntKind.bits IntKind.i64) (Int.fdiv (IntKind.wrap IntKind.i64 ((IntKind.wrap IntKind.i64 (a0_2 * (6364136223846793005 : Int))) + (1442695040888963407 : Int))) (2 ^ (min (Int.toNat (33 : Int)) (IntKind.bits IntKind.i64)))) ^^^ BitVec.ofInt (IntKind.bits IntKind.i64) (Int.fdiv (IntKind.wrap IntKind.i64 ((IntKind.wrap IntKind.i64 (a0_2 * (6364136223846793005 : Int))) + (1442695040888963407 : Int))) (2 ^ (min (Int.toNat (47 : Int)) (IntKind.bits IntKind.i64))))).toNat : Int)) &&& BitVec.ofInt (IntKind.bits IntKind.i64) (255 : Int)).toNat : Int), a0_1, IntKind.wrap IntKind.i64 ((IntKind.wrap IntKind.i64 (a0_2 * (6364136223846793005 : Int))) + (1442695040888963407 : Int)))
   else
    none
  else
   none
noncomputable def spec_l1Byte.sig : Sig := ⟨[.ptr [⟨.row K1, 0, 1, false⟩, ⟨.int .i64, 0, 0, true⟩, ⟨.int .i64, 0, 0, true⟩]], [(.one, [(.int .i64, 0)])]⟩
noncomputable def spec_l1Byte.hint : Nat → Hint
  | _ => ⟨[], []⟩
noncomputable def spec_l1Byte.join : Nat → Option Hint
  | _ => none
noncomputable def spec_l1Byte.body : Code := (Try.f108).body.getD .skip
noncomputable def spec_l1Byte.rv : List ResultVar := (Try.f108).results.toList
noncomputable def spec_l1Below.m (c108 : (List Int) × Int × Int → Option (Int × Int × Int)) : ((List Int) × Int × Int × Int) → Option (Int × Int × Int)
  | (a0_0, a0_1, a0_2, a1_0) =>
  bif decide (a1_0 ≤ (0 : Int)) then
   some ((0 : Int), a0_1, a0_2)
  else
   bif decide (a1_0 ≤ (256 : Int)) then
    Option.bind (c108 (a0_0, a0_1, a0_2)) fun r1 =>
     bif decide (¬ a1_0 = 0) then
      some (Int.tmod r1.1 a1_0, r1.2.1, r1.2.2)
     else
      none
   else
    Option.bind (c108 (a0_0, a0_1, a0_2)) fun r2 =>
     Option.bind (c108 (a0_0, r2.2.1, r2.2.2)) fun r3 =>
      Option.bind (c108 (a0_0, r3.2.1, r3.2.2)) fun r4 =>
       bif decide (¬ a1_0 = 0) then
        some (Int.tmod (IntKind.wrap IntKind.i64 ((IntKind.wrap IntKind.i64 ((IntKind.wrap IntKind.i64 (r2.1 * (65536 : Int))) + (IntKind.wrap IntKind.i64 (r3.1 * (256 : Int))))) + r4.1)) a1_0, r4.2.1, r4.2.2)
       else
        none
noncomputable def spec_l1Below.sig : Sig := ⟨[.ptr [⟨.row K1, 0, 1, false⟩, ⟨.int .i64, 0, 0, true⟩, ⟨.int .i64, 0, 0, true⟩], .val false [⟨.int .i64, 0, 0, false⟩]], [(.one, [(.int .i64, 0)])]⟩
noncomputable def spec_l1Below.hint : Nat → Hint
  | _ => ⟨[], []⟩
noncomputable def spec_l1Below.join : Nat → Option Hint
  | _ => none
noncomputable def spec_l1Below.body : Code := (Try.f87).body.getD .skip
noncomputable def spec_l1Below.rv : List ResultVar := (Try.f87).results.toList
noncomputable def spec_l1Int.m (c87 : (List Int) × Int × Int × Int → Option (Int × Int × Int)) : ((List Int) × Int × Int × (List Int)) → Option (Int × Int × Int)
  | (a0_0, a0_1, a0_2, a1_0) =>
  Option.bind (c87 (a0_0, a0_1, a0_2, (List.length a1_0 : Int))) fun r1 =>
   bif decide (0 ≤ r1.1) && decide (r1.1 < (List.length a1_0 : Int)) then
    some ((List.getD a1_0 (Int.toNat r1.1) (0 : Int)), r1.2.1, r1.2.2)
   else
    none
noncomputable def spec_l1Int.sig : Sig := ⟨[.ptr [⟨.row K1, 0, 1, false⟩, ⟨.int .i64, 0, 0, true⟩, ⟨.int .i64, 0, 0, true⟩], .val false [⟨.row K4, 0, 0, false⟩]], [(.one, [(.int .i64, 0)])]⟩
noncomputable def spec_l1Int.hint : Nat → Hint
  | _ => ⟨[], []⟩
noncomputable def spec_l1Int.join : Nat → Option Hint
  | _ => none
noncomputable def spec_l1Int.body : Code := (Try.f76).body.getD .skip
noncomputable def spec_l1Int.rv : List ResultVar := (Try.f76).results.toList
noncomputable def spec_l12FaultList.s0 (c76 : (List Int) × Int × Int × (List Int) → Option (Int × Int × Int)) (c87 : (List Int) × Int × Int × Int → Option (Int × Int × Int)) (L0 : (Int × Int × (List Int) × Int × Int × (List (Int × Int × Int))) → Option ((List (Int × Int × Int)) × Int × Int)) : (Int × Int × (List Int) × Int × Int × (List (Int × Int × Int))) → Option ((List (Int × Int × Int)) × Int × Int)
  | (x0, x1, x2, x3, x4, x5) =>
  bif decide (x1 > (0 : Int)) then
   Option.bind (c87 (x2, x3, x4, (12 : Int))) fun r2 =>
    Option.bind (c87 (x2, r2.2.1, r2.2.2, (64 : Int))) fun r3 =>
     Option.bind (c76 (x2, r3.2.1, r3.2.2, ([(0 : Int), (1 : Int), (2 : Int), (3 : Int), (5 : Int), (7 : Int), (1048575 : Int), r3.1] : List Int))) fun r4 =>
      Option.bind (c76 (x2, r4.2.1, r4.2.2, ([(0 : Int), (1 : Int), (5 : Int), (20 : Int), (256 : Int)] : List Int))) fun r5 =>
       bif decide ((List.length x5 + List.length ([(IntKind.wrap IntKind.i64 (x0 + r2.1), r4.1, r5.1)] : List (Int × Int × Int))) * 24 ≤ 140737488355328) then
        L0 (IntKind.wrap IntKind.i64 ((IntKind.wrap IntKind.i64 (x0 + r2.1)) + (1 : Int)), IntKind.wrap IntKind.i64 (x1 - (1 : Int)), x2, r5.2.1, r5.2.2, x5 ++ ([(IntKind.wrap IntKind.i64 (x0 + r2.1), r4.1, r5.1)] : List (Int × Int × Int)))
       else
        none
  else
   some (x5, x3, x4)
noncomputable def spec_l12FaultList.ll0 : (Int × Int × (List Int) × Int × Int × (List (Int × Int × Int))) → LS
  | (x0, x1, x2, x3, x4, x5) => ⟨[.addr 2 0 [] 0, .ref 12 0 [] none 0, .cv ⟨.int .i64, x0⟩, .cv ⟨.int .i64, x1⟩], [⟨false, [⟨0, 0, .lk ⟨.row K1, x2⟩⟩, ⟨0, 0, .mk 0 ⟨.int .i64, x3⟩⟩, ⟨0, 0, .mk 0 ⟨.int .i64, x4⟩⟩]⟩, ⟨true, [⟨0, 0, .mk 9 ⟨.row K0, x5⟩⟩]⟩]⟩
noncomputable def spec_l12FaultList.m (c87 : (List Int) × Int × Int × Int → Option (Int × Int × Int)) (B0 : (Int × Int × (List Int) × Int × Int × (List (Int × Int × Int))) → Option ((List (Int × Int × Int)) × Int × Int)) : ((List Int) × Int × Int) → Option ((List (Int × Int × Int)) × Int × Int)
  | (a0_0, a0_1, a0_2) =>
  Option.bind (c87 (a0_0, a0_1, a0_2, (4 : Int))) fun r1 =>
   B0 ((0 : Int), r1.1, a0_0, r1.2.1, r1.2.2, ([] : List (Int × Int × Int)))
noncomputable def spec_l12FaultList.sig : Sig := ⟨[.ptr [⟨.row K1, 0, 1, false⟩, ⟨.int .i64, 0, 0, true⟩, ⟨.int .i64, 0, 0, true⟩]], [(.one, [(.row K0, 1)])]⟩
noncomputable def spec_l12FaultList.hint : Nat → Hint
  | 0 => ⟨[(0, .keep), (3, .own 9 K0), (4, .keep), (5, .keep)], [(2, [9, 0, 0])]⟩
  | _ => ⟨[], []⟩
noncomputable def spec_l12FaultList.join : Nat → Option Hint
  | _ => none
noncomputable def spec_l12FaultList.body : Code := (Try.f74).body.getD .skip
noncomputable def spec_l12FaultList.rv : List ResultVar := (Try.f74).results.toList
noncomputable def spec_l1Once.m (c87 : (List Int) × Int × Int × Int → Option (Int × Int × Int)) : ((List Int) × Int × Int × Int) → Option (Bool × Int × Int)
  | (a0_0, a0_1, a0_2, a1_0) =>
  Option.bind (c87 (a0_0, a0_1, a0_2, a1_0)) fun r1 =>
   some (r1.1 == (0 : Int), r1.2.1, r1.2.2)
noncomputable def spec_l1Once.sig : Sig := ⟨[.ptr [⟨.row K1, 0, 1, false⟩, ⟨.int .i64, 0, 0, true⟩, ⟨.int .i64, 0, 0, true⟩], .val false [⟨.int .i64, 0, 0, false⟩]], [(.one, [(.bool, 0)])]⟩
noncomputable def spec_l1Once.hint : Nat → Hint
  | _ => ⟨[], []⟩
noncomputable def spec_l1Once.join : Nat → Option Hint
  | _ => none
noncomputable def spec_l1Once.body : Code := (Try.f75).body.getD .skip
noncomputable def spec_l1Once.rv : List ResultVar := (Try.f75).results.toList
noncomputable def spec_l1Bytes.s0 (c108 : (List Int) × Int × Int → Option (Int × Int × Int)) (L0 : (Int × Int × (List Int) × Int × Int × (List Int)) → Option ((List Int) × Int × Int)) : (Int × Int × (List Int) × Int × Int × (List Int)) → Option ((List Int) × Int × Int)
  | (x0, x1, x2, x3, x4, x5) =>
  bif decide (x1 < x0) then
   Option.bind (c108 (x2, x3, x4)) fun r1 =>
    bif decide ((List.length x5 + List.length ([IntKind.wrap IntKind.u8 r1.1] : List Int)) * 1 ≤ 140737488355328) then
     L0 (x0, IntKind.wrap IntKind.i64 (x1 + (1 : Int)), x2, r1.2.1, r1.2.2, x5 ++ ([IntKind.wrap IntKind.u8 r1.1] : List Int))
    else
     none
  else
   some (x5, x3, x4)
noncomputable def spec_l1Bytes.ll0 : (Int × Int × (List Int) × Int × Int × (List Int)) → LS
  | (x0, x1, x2, x3, x4, x5) => ⟨[.addr 2 0 [] 0, .cv ⟨.int .i64, x0⟩, .ref 20 0 [] none 0, .cv ⟨.int .i64, x1⟩], [⟨false, [⟨0, 0, .lk ⟨.row K1, x2⟩⟩, ⟨0, 0, .mk 0 ⟨.int .i64, x3⟩⟩, ⟨0, 0, .mk 0 ⟨.int .i64, x4⟩⟩]⟩, ⟨true, [⟨0, 0, .mk 9 ⟨.row K1, x5⟩⟩]⟩]⟩
noncomputable def spec_l1Bytes.m (B0 : (Int × Int × (List Int) × Int × Int × (List Int)) → Option ((List Int) × Int × Int)) : ((List Int) × Int × Int × Int) → Option ((List Int) × Int × Int)
  | (a0_0, a0_1, a0_2, a1_0) =>
  B0 (a1_0, (0 : Int), a0_0, a0_1, a0_2, ([] : List Int))
noncomputable def spec_l1Bytes.sig : Sig := ⟨[.ptr [⟨.row K1, 0, 1, false⟩, ⟨.int .i64, 0, 0, true⟩, ⟨.int .i64, 0, 0, true⟩], .val false [⟨.int .i64, 0, 0, false⟩]], [(.one, [(.row K1, 1)])]⟩
noncomputable def spec_l1Bytes.hint : Nat → Hint
  | 0 => ⟨[(0, .keep), (1, .keep), (5, .own 9 K1), (6, .keep)], [(2, [9, 0, 0])]⟩
  | _ => ⟨[], []⟩
noncomputable def spec_l1Bytes.join : Nat → Option Hint
  | _ => none
noncomputable def spec_l1Bytes.body : Code := (Try.f107).body.getD .skip
noncomputable def spec_l1Bytes.rv : List ResultVar := (Try.f107).results.toList
noncomputable def spec_l1Some.m (c76 : (List Int) × Int × Int × (List Int) → Option (Int × Int × Int)) (c107 : (List Int) × Int × Int × Int → Option ((List Int) × Int × Int)) : ((List Int) × Int × Int) → Option ((List Int) × Int × Int)
  | (a0_0, a0_1, a0_2) =>
  Option.bind (c76 (a0_0, a0_1, a0_2, ([(0 : Int), (1 : Int), (2 : Int), (5 : Int), (9 : Int)] : List Int))) fun r1 =>
   Option.bind (c107 (a0_0, r1.2.1, r1.2.2, r1.1)) fun r2 =>
    some (r2.1, r2.2.1, r2.2.2)
noncomputable def spec_l1Some.sig : Sig := ⟨[.ptr [⟨.row K1, 0, 1, false⟩, ⟨.int .i64, 0, 0, true⟩, ⟨.int .i64, 0, 0, true⟩]], [(.one, [(.row K1, 1)])]⟩
noncomputable def spec_l1Some.hint : Nat → Hint
  | _ => ⟨[], []⟩
noncomputable def spec_l1Some.join : Nat → Option Hint
  | _ => none
noncomputable def spec_l1Some.body : Code := (Try.f86).body.getD .skip
noncomputable def spec_l1Some.rv : List ResultVar := (Try.f86).results.toList
noncomputable def spec_l12Fault.s0 (L0 : (Int × (List (List Int)) × (List (Int × (List Int))) × Int × (List (Int × Int × Int)) × Bool × Int × Int × Int) → Option (Int × Int × Int × Bool)) : (Int × (List (List Int)) × (List (Int × (List Int))) × Int × (List (Int × Int × Int)) × Bool × Int × Int × Int) → Option (Int × Int × Int × Bool)
  | (x0, x1, x2, x3, x4, x5, x6, x7, x8) =>
  bif decide (x0 < (List.length x4 : Int)) then
   bif decide (0 ≤ x0) && decide (x0 < (List.length x4 : Int)) then
    bif ((List.getD x4 (Int.toNat x0) ((0 : Int), (0 : Int), (0 : Int))).1) == x3 then
     bif decide (0 ≤ x0) && decide (x0 < (List.length x4 : Int)) then
      some ((List.getD x4 (Int.toNat x0) ((0 : Int), (0 : Int), (0 : Int))).1, (List.getD x4 (Int.toNat x0) ((0 : Int), (0 : Int), (0 : Int))).2.1, (List.getD x4 (Int.toNat x0) ((0 : Int), (0 : Int), (0 : Int))).2.2, true)
     else
      none
    else
     L0 (IntKind.wrap IntKind.i64 (x0 + (1 : Int)), x1, x2, x3, x4, x5, x6, x7, x8)
   else
    none
  else
   some ((0 : Int), (0 : Int), (0 : Int), false)
noncomputable def spec_l12Fault.ll0 : (Int × (List (List Int)) × (List (Int × (List Int))) × Int × (List (Int × Int × Int)) × Bool × Int × Int × Int) → LS
  | (x0, x1, x2, x3, x4, x5, x6, x7, x8) => ⟨[.addr 65 0 [] 0, .addr 129 0 [] 0, .cv ⟨.int .i64, x0⟩], [⟨false, [⟨0, 0, .mk 0 ⟨.row K2, x1⟩⟩, ⟨0, 0, .mk 0 ⟨.row K3, x2⟩⟩, ⟨0, 0, .mk 0 ⟨.int .i64, x3⟩⟩, ⟨0, 0, .mk 0 ⟨.row K0, x4⟩⟩, ⟨0, 0, .mk 0 ⟨.bool, x5⟩⟩]⟩, ⟨false, [⟨0, 0, .mk 0 ⟨.int .i64, x6⟩⟩, ⟨0, 0, .mk 0 ⟨.int .i64, x7⟩⟩, ⟨0, 0, .mk 0 ⟨.int .i64, x8⟩⟩]⟩]⟩
noncomputable def spec_l12Fault.m (B0 : (Int × (List (List Int)) × (List (Int × (List Int))) × Int × (List (Int × Int × Int)) × Bool × Int × Int × Int) → Option (Int × Int × Int × Bool)) : ((List (List Int)) × (List (Int × (List Int))) × Int × (List (Int × Int × Int)) × Bool) → Option (Int × Int × Int × Bool)
  | (a0_0, a0_1, a0_2, a0_3, a0_4) =>
  B0 ((0 : Int), a0_0, a0_1, a0_2, a0_3, a0_4, (0 : Int), (0 : Int), (0 : Int))
noncomputable def spec_l12Fault.sig : Sig := ⟨[.val true [⟨.row K2, 0, 0, false⟩, ⟨.row K3, 0, 0, false⟩, ⟨.int .i64, 0, 0, false⟩, ⟨.row K0, 0, 0, false⟩, ⟨.bool, 0, 0, false⟩]], [(.agg, [(.int .i64, 0), (.int .i64, 0), (.int .i64, 0)]), (.one, [(.bool, 0)])]⟩
noncomputable def spec_l12Fault.hint : Nat → Hint
  | 0 => ⟨[(1, .keep), (2, .keep), (4, .keep)], [(65, [0, 0, 0, 0, 0]), (129, [0, 0, 0])]⟩
  | _ => ⟨[], []⟩
noncomputable def spec_l12Fault.join : Nat → Option Hint
  | _ => none
noncomputable def spec_l12Fault.body : Code := (Try.f105).body.getD .skip
noncomputable def spec_l12Fault.rv : List ResultVar := (Try.f105).results.toList
noncomputable def spec_l12Lose.s0 (B2 : (Int × Int × (List (List Int)) × (List (Int × (List Int))) × Int × (List (Int × Int × Int)) × Bool × Int × Int × Int) → Option ((List (List Int)) × (List (Int × (List Int))) × Int × (List (Int × Int × Int)) × Bool)) (L0 : (Int × Int × (List (List Int)) × (List (Int × (List Int))) × Int × (List (Int × Int × Int)) × Bool × Int × Int × Int) → Option ((List (List Int)) × (List (Int × (List Int))) × Int × (List (Int × Int × Int)) × Bool)) : (Int × Int × (List (List Int)) × (List (Int × (List Int))) × Int × (List (Int × Int × Int)) × Bool × Int × Int × Int) → Option ((List (List Int)) × (List (Int × (List Int))) × Int × (List (Int × Int × Int)) × Bool)
  | (x0, x1, x2, x3, x4, x5, x6, x7, x8, x9) =>
  bif decide (x1 < (List.length x3 : Int)) then
   bif decide (x1 < (20 : Int)) then
    bif decide (¬ (IntKind.wrap IntKind.u64 x1) < 0) then
     bif (IntKind.wrap IntKind.i64 ((BitVec.ofInt (IntKind.bits IntKind.i64) (Int.fdiv x8 (2 ^ (min (Int.toNat (IntKind.wrap IntKind.u64 x1)) (IntKind.bits IntKind.i64)))) &&& BitVec.ofInt (IntKind.bits IntKind.i64) (1 : Int)).toNat : Int)) == (1 : Int) then
      L0 (x1, IntKind.wrap IntKind.i64 (x1 + (1 : Int)), x2, x3, x4, x5, x6, x7, x8, x9)
     else
      L0 (x0, IntKind.wrap IntKind.i64 (x1 + (1 : Int)), x2, x3, x4, x5, x6, x7, x8, x9)
    else
     none
   else
    B2 (x0, (0 : Int), x2, x3, x4, x5, x6, x7, x8, x9)
  else
   B2 (x0, (0 : Int), x2, x3, x4, x5, x6, x7, x8, x9)
noncomputable def spec_l12Lose.ll0 : (Int × Int × (List (List Int)) × (List (Int × (List Int))) × Int × (List (Int × Int × Int)) × Bool × Int × Int × Int) → LS
  | (x0, x1, x2, x3, x4, x5, x6, x7, x8, x9) => ⟨[.addr 2 0 [] 0, .addr 193 0 [] 0, .cv ⟨.int .i64, x0⟩, .cv ⟨.int .i64, x1⟩], [⟨false, [⟨0, 0, .mk 1 ⟨.row K2, x2⟩⟩, ⟨0, 0, .mk 1 ⟨.row K3, x3⟩⟩, ⟨0, 0, .mk 0 ⟨.int .i64, x4⟩⟩, ⟨0, 0, .mk 1 ⟨.row K0, x5⟩⟩, ⟨0, 0, .mk 0 ⟨.bool, x6⟩⟩]⟩, ⟨false, [⟨0, 0, .mk 0 ⟨.int .i64, x7⟩⟩, ⟨0, 0, .mk 0 ⟨.int .i64, x8⟩⟩, ⟨0, 0, .mk 0 ⟨.int .i64, x9⟩⟩]⟩]⟩
noncomputable def spec_l12Lose.s2 (L2 : (Int × Int × (List (List Int)) × (List (Int × (List Int))) × Int × (List (Int × Int × Int)) × Bool × Int × Int × Int) → Option ((List (List Int)) × (List (Int × (List Int))) × Int × (List (Int × Int × Int)) × Bool)) : (Int × Int × (List (List Int)) × (List (Int × (List Int))) × Int × (List (Int × Int × Int)) × Bool × Int × Int × Int) → Option ((List (List Int)) × (List (Int × (List Int))) × Int × (List (Int × Int × Int)) × Bool)
  | (x0, x1, x2, x3, x4, x5, x6, x7, x8, x9) =>
  bif decide (x1 ≤ x0) then
   bif decide (0 ≤ x1) && decide (x1 < (List.length x3 : Int)) then
    bif decide (¬ (IntKind.wrap IntKind.u64 x1) < 0) then
     bif (IntKind.wrap IntKind.i64 ((BitVec.ofInt (IntKind.bits IntKind.i64) (Int.fdiv x8 (2 ^ (min (Int.toNat (IntKind.wrap IntKind.u64 x1)) (IntKind.bits IntKind.i64)))) &&& BitVec.ofInt (IntKind.bits IntKind.i64) (1 : Int)).toNat : Int)) == (0 : Int) then
      L2 (x0, IntKind.wrap IntKind.i64 (x1 + (1 : Int)), x2, x3, x4, x5, x6, x7, x8, x9)
     else
      bif x1 == x0 then
       bif decide (x9 < (List.length ((List.getD x3 (Int.toNat x1) ((0 : Int), ([] : List Int))).2) : Int)) then
        bif decide (0 ≤ (0 : Int)) && decide ((0 : Int) ≤ x9) && decide (x9 ≤ (List.length ((List.getD x3 (Int.toNat x1) ((0 : Int), ([] : List Int))).2) : Int)) then
         bif decide ((List.length ([] : List Int) + List.length (List.drop (Int.toNat (0 : Int)) (List.take (Int.toNat x9) ((List.getD x3 (Int.toNat x1) ((0 : Int), ([] : List Int))).2)))) * 1 ≤ 140737488355328) then
          bif decide (0 ≤ ((List.getD x3 (Int.toNat x1) ((0 : Int), ([] : List Int))).1)) && decide (((List.getD x3 (Int.toNat x1) ((0 : Int), ([] : List Int))).1) < (List.length x2 : Int)) then
           L2 (x0, IntKind.wrap IntKind.i64 (x1 + (1 : Int)), List.set x2 (Int.toNat ((List.getD x3 (Int.toNat x1) ((0 : Int), ([] : List Int))).1)) (([] : List Int) ++ (List.drop (Int.toNat (0 : Int)) (List.take (Int.toNat x9) ((List.getD x3 (Int.toNat x1) ((0 : Int), ([] : List Int))).2)))), x3, x4, x5, x6, x7, x8, x9)
          else
           none
         else
          none
        else
         none
       else
        bif decide ((List.length ([] : List Int) + List.length ((List.getD x3 (Int.toNat x1) ((0 : Int), ([] : List Int))).2)) * 1 ≤ 140737488355328) then
         bif decide (0 ≤ ((List.getD x3 (Int.toNat x1) ((0 : Int), ([] : List Int))).1)) && decide (((List.getD x3 (Int.toNat x1) ((0 : Int), ([] : List Int))).1) < (List.length x2 : Int)) then
          L2 (x0, IntKind.wrap IntKind.i64 (x1 + (1 : Int)), List.set x2 (Int.toNat ((List.getD x3 (Int.toNat x1) ((0 : Int), ([] : List Int))).1)) (([] : List Int) ++ ((List.getD x3 (Int.toNat x1) ((0 : Int), ([] : List Int))).2)), x3, x4, x5, x6, x7, x8, x9)
         else
          none
        else
         none
      else
       bif decide ((List.length ([] : List Int) + List.length ((List.getD x3 (Int.toNat x1) ((0 : Int), ([] : List Int))).2)) * 1 ≤ 140737488355328) then
        bif decide (0 ≤ ((List.getD x3 (Int.toNat x1) ((0 : Int), ([] : List Int))).1)) && decide (((List.getD x3 (Int.toNat x1) ((0 : Int), ([] : List Int))).1) < (List.length x2 : Int)) then
         L2 (x0, IntKind.wrap IntKind.i64 (x1 + (1 : Int)), List.set x2 (Int.toNat ((List.getD x3 (Int.toNat x1) ((0 : Int), ([] : List Int))).1)) (([] : List Int) ++ ((List.getD x3 (Int.toNat x1) ((0 : Int), ([] : List Int))).2)), x3, x4, x5, x6, x7, x8, x9)
        else
         none
       else
        none
    else
     none
   else
    none
  else
   some (x2, ([] : List (Int × (List Int))), x4, x5, true)
noncomputable def spec_l12Lose.ll2 : (Int × Int × (List (List Int)) × (List (Int × (List Int))) × Int × (List (Int × Int × Int)) × Bool × Int × Int × Int) → LS
  | (x0, x1, x2, x3, x4, x5, x6, x7, x8, x9) => ⟨[.addr 2 0 [] 0, .addr 193 0 [] 0, .cv ⟨.int .i64, x0⟩, .cv ⟨.int .i64, x1⟩], [⟨false, [⟨0, 0, .mk 1 ⟨.row K2, x2⟩⟩, ⟨0, 0, .mk 1 ⟨.row K3, x3⟩⟩, ⟨0, 0, .mk 0 ⟨.int .i64, x4⟩⟩, ⟨0, 0, .mk 1 ⟨.row K0, x5⟩⟩, ⟨0, 0, .mk 0 ⟨.bool, x6⟩⟩]⟩, ⟨false, [⟨0, 0, .mk 0 ⟨.int .i64, x7⟩⟩, ⟨0, 0, .mk 0 ⟨.int .i64, x8⟩⟩, ⟨0, 0, .mk 0 ⟨.int .i64, x9⟩⟩]⟩]⟩
noncomputable def spec_l12Lose.m (B0 : (Int × Int × (List (List Int)) × (List (Int × (List Int))) × Int × (List (Int × Int × Int)) × Bool × Int × Int × Int) → Option ((List (List Int)) × (List (Int × (List Int))) × Int × (List (Int × Int × Int)) × Bool)) : ((List (List Int)) × (List (Int × (List Int))) × Int × (List (Int × Int × Int)) × Bool × Int × Int × Int) → Option ((List (List Int)) × (List (Int × (List Int))) × Int × (List (Int × Int × Int)) × Bool)
  | (a0_0, a0_1, a0_2, a0_3, a0_4, a1_0, a1_1, a1_2) =>
  B0 ((-1 : Int), (0 : Int), a0_0, a0_1, a0_2, a0_3, a0_4, a1_0, a1_1, a1_2)
noncomputable def spec_l12Lose.sig : Sig := ⟨[.ptr [⟨.row K2, 1, 1, true⟩, ⟨.row K3, 1, 2, true⟩, ⟨.int .i64, 0, 0, true⟩, ⟨.row K0, 1, 1, true⟩, ⟨.bool, 0, 0, true⟩], .val true [⟨.int .i64, 0, 0, false⟩, ⟨.int .i64, 0, 0, false⟩, ⟨.int .i64, 0, 0, false⟩]], []⟩
noncomputable def spec_l12Lose.hint : Nat → Hint
  | 0 => ⟨[(0, .keep), (3, .keep), (4, .keep), (5, .keep)], [(2, [1, 1, 0, 1, 0]), (193, [0, 0, 0])]⟩
  | 2 => ⟨[(0, .keep), (3, .keep), (4, .keep), (6, .keep)], [(2, [1, 1, 0, 1, 0]), (193, [0, 0, 0])]⟩
  | _ => ⟨[], []⟩
noncomputable def spec_l12Lose.join : Nat → Option Hint
  | _ => none
noncomputable def spec_l12Lose.body : Code := (Try.f106).body.getD .skip
noncomputable def spec_l12Lose.rv : List ResultVar := (Try.f106).results.toList
noncomputable def spec_l12Flush.s0 (L0 : (Int × (List (List Int)) × (List (Int × (List Int))) × Int × (List (Int × Int × Int)) × Bool) → Option (Int × (List (List Int)) × (List (Int × (List Int))) × Int × (List (Int × Int × Int)) × Bool)) : (Int × (List (List Int)) × (List (Int × (List Int))) × Int × (List (Int × Int × Int)) × Bool) → Option (Int × (List (List Int)) × (List (Int × (List Int))) × Int × (List (Int × Int × Int)) × Bool)
  | (x0, x1, x2, x3, x4, x5) =>
  bif decide (x0 < (List.length x2 : Int)) then
   bif decide (0 ≤ x0) && decide (x0 < (List.length x2 : Int)) then
    bif decide (0 ≤ x0) && decide (x0 < (List.length x2 : Int)) then
     bif decide (0 ≤ ((List.getD x2 (Int.toNat x0) ((0 : Int), ([] : List Int))).1)) && decide (((List.getD x2 (Int.toNat x0) ((0 : Int), ([] : List Int))).1) < (List.length x1 : Int)) then
      L0 (IntKind.wrap IntKind.i64 (x0 + (1 : Int)), List.set x1 (Int.toNat ((List.getD x2 (Int.toNat x0) ((0 : Int), ([] : List Int))).1)) ((List.getD x2 (Int.toNat x0) ((0 : Int), ([] : List Int))).2), x2, x3, x4, x5)
     else
      none
    else
     none
   else
    none
  else
   some ((0 : Int), x1, ([] : List (Int × (List Int))), x3, x4, x5)
noncomputable def spec_l12Flush.ll0 : (Int × (List (List Int)) × (List (Int × (List Int))) × Int × (List (Int × Int × Int)) × Bool) → LS
  | (x0, x1, x2, x3, x4, x5) => ⟨[.addr 2 0 [] 0, .cv ⟨.int .i64, x0⟩], [⟨false, [⟨0, 0, .mk 1 ⟨.row K2, x1⟩⟩, ⟨0, 0, .mk 1 ⟨.row K3, x2⟩⟩, ⟨0, 0, .mk 0 ⟨.int .i64, x3⟩⟩, ⟨0, 0, .mk 1 ⟨.row K0, x4⟩⟩, ⟨0, 0, .mk 0 ⟨.bool, x5⟩⟩]⟩]⟩
noncomputable def spec_l12Flush.m (c105 : (List (List Int)) × (List (Int × (List Int))) × Int × (List (Int × Int × Int)) × Bool → Option (Int × Int × Int × Bool)) (c106 : (List (List Int)) × (List (Int × (List Int))) × Int × (List (Int × Int × Int)) × Bool × Int × Int × Int → Option ((List (List Int)) × (List (Int × (List Int))) × Int × (List (Int × Int × Int)) × Bool)) (B0 : (Int × (List (List Int)) × (List (Int × (List Int))) × Int × (List (Int × Int × Int)) × Bool) → Option (Int × (List (List Int)) × (List (Int × (List Int))) × Int × (List (Int × Int × Int)) × Bool)) : ((List (List Int)) × (List (Int × (List Int))) × Int × (List (Int × Int × Int)) × Bool) → Option (Int × (List (List Int)) × (List (Int × (List Int))) × Int × (List (Int × Int × Int)) × Bool)
  | (a0_0, a0_1, a0_2, a0_3, a0_4) =>
  bif a0_4 then
   some ((9 : Int), a0_0, a0_1, a0_2, a0_3, a0_4)
  else
   bif decide (a0_2 ≥ (100000 : Int)) then
    some ((9 : Int), a0_0, a0_1, a0_2, a0_3, a0_4)
   else
    Option.bind (c105 (a0_0, a0_1, a0_2, a0_3, a0_4)) fun r1 =>
     bif r1.2.2.2 then
      Option.bind (c106 (a0_0, a0_1, IntKind.wrap IntKind.i64 (a0_2 + (1 : Int)), a0_3, a0_4, r1.1, r1.2.1, r1.2.2.1)) fun r2 =>
       some ((9 : Int), r2.1, r2.2.1, r2.2.2.1, r2.2.2.2.1, r2.2.2.2.2)
     else
      B0 ((0 : Int), a0_0, a0_1, IntKind.wrap IntKind.i64 (a0_2 + (1 : Int)), a0_3, a0_4)
noncomputable def spec_l12Flush.sig : Sig := ⟨[.ptr [⟨.row K2, 1, 1, true⟩, ⟨.row K3, 1, 1, true⟩, ⟨.int .i64, 0, 0, true⟩, ⟨.row K0, 1, 1, true⟩, ⟨.bool, 0, 0, true⟩]], [(.one, [(.int .i64, 0)])]⟩
noncomputable def spec_l12Flush.hint : Nat → Hint
  | 0 => ⟨[(0, .keep), (5, .keep)], [(2, [1, 1, 0, 1, 0])]⟩
  | _ => ⟨[], []⟩
noncomputable def spec_l12Flush.join : Nat → Option Hint
  | _ => none
noncomputable def spec_l12Flush.body : Code := (Try.f85).body.getD .skip
noncomputable def spec_l12Flush.rv : List ResultVar := (Try.f85).results.toList
noncomputable def spec_l12Write.m (c105 : (List (List Int)) × (List (Int × (List Int))) × Int × (List (Int × Int × Int)) × Bool → Option (Int × Int × Int × Bool)) (c106 : (List (List Int)) × (List (Int × (List Int))) × Int × (List (Int × Int × Int)) × Bool × Int × Int × Int → Option ((List (List Int)) × (List (Int × (List Int))) × Int × (List (Int × Int × Int)) × Bool)) : ((List (List Int)) × (List (Int × (List Int))) × Int × (List (Int × Int × Int)) × Bool × Int × (List Int)) → Option (Int × (List (List Int)) × (List (Int × (List Int))) × Int × (List (Int × Int × Int)) × Bool)
  | (a0_0, a0_1, a0_2, a0_3, a0_4, a1_0, a2_0) =>
  bif a0_4 then
   some ((9 : Int), a0_0, a0_1, a0_2, a0_3, a0_4)
  else
   bif decide (a0_2 ≥ (100000 : Int)) then
    some ((9 : Int), a0_0, a0_1, a0_2, a0_3, a0_4)
   else
    bif decide ((List.length a0_1 : Int) ≥ (60 : Int)) then
     some ((1 : Int), a0_0, a0_1, a0_2, a0_3, a0_4)
    else
     Option.bind (c105 (a0_0, a0_1, a0_2, a0_3, a0_4)) fun r1 =>
      bif decide ((List.length ([] : List Int) + List.length a2_0) * 1 ≤ 140737488355328) then
       bif decide ((List.length a0_1 + List.length ([(a1_0, ([] : List Int) ++ a2_0)] : List (Int × (List Int)))) * 32 ≤ 140737488355328) then
        bif r1.2.2.2 then
         Option.bind (c106 (a0_0, a0_1 ++ ([(a1_0, ([] : List Int) ++ a2_0)] : List (Int × (List Int))), IntKind.wrap IntKind.i64 (a0_2 + (1 : Int)), a0_3, a0_4, r1.1, r1.2.1, r1.2.2.1)) fun r2 =>
          some ((9 : Int), r2.1, r2.2.1, r2.2.2.1, r2.2.2.2.1, r2.2.2.2.2)
        else
         some ((0 : Int), a0_0, a0_1 ++ ([(a1_0, ([] : List Int) ++ a2_0)] : List (Int × (List Int))), IntKind.wrap IntKind.i64 (a0_2 + (1 : Int)), a0_3, a0_4)
       else
        none
      else
       none
noncomputable def spec_l12Write.sig : Sig := ⟨[.ptr [⟨.row K2, 1, 1, true⟩, ⟨.row K3, 1, 1, true⟩, ⟨.int .i64, 0, 0, true⟩, ⟨.row K0, 1, 1, true⟩, ⟨.bool, 0, 0, true⟩], .val false [⟨.int .i64, 0, 0, false⟩], .val false [⟨.row K1, 0, 0, false⟩]], [(.one, [(.int .i64, 0)])]⟩
noncomputable def spec_l12Write.hint : Nat → Hint
  | _ => ⟨[], []⟩
noncomputable def spec_l12Write.join : Nat → Option Hint
  | _ => none
noncomputable def spec_l12Write.body : Code := (Try.f88).body.getD .skip
noncomputable def spec_l12Write.rv : List ResultVar := (Try.f88).results.toList
noncomputable def spec_l12Draw.s0 (c85 : (List (List Int)) × (List (Int × (List Int))) × Int × (List (Int × Int × Int)) × Bool → Option (Int × (List (List Int)) × (List (Int × (List Int))) × Int × (List (Int × Int × Int)) × Bool)) (c86 : (List Int) × Int × Int → Option ((List Int) × Int × Int)) (c87 : (List Int) × Int × Int × Int → Option (Int × Int × Int)) (c88 : (List (List Int)) × (List (Int × (List Int))) × Int × (List (Int × Int × Int)) × Bool × Int × (List Int) → Option (Int × (List (List Int)) × (List (Int × (List Int))) × Int × (List (Int × Int × Int)) × Bool)) (L0 : (Int × (List Int) × Int × Int × (List (List Int)) × (List (Int × (List Int))) × Int × (List (Int × Int × Int)) × Bool × (List (List Int)) × (List (Int × (List Int))) × Int × (List (Int × Int × Int)) × Bool) → Option ((List (List Int)) × (List (Int × (List Int))) × Int × (List (Int × Int × Int)) × Bool × Int × Int)) : (Int × (List Int) × Int × Int × (List (List Int)) × (List (Int × (List Int))) × Int × (List (Int × Int × Int)) × Bool × (List (List Int)) × (List (Int × (List Int))) × Int × (List (Int × Int × Int)) × Bool) → Option ((List (List Int)) × (List (Int × (List Int))) × Int × (List (Int × Int × Int)) × Bool × Int × Int)
  | (x0, x1, x2, x3, x4, x5, x6, x7, x8, x9, x10, x11, x12, x13) =>
  bif decide (x0 > (0 : Int)) then
   Option.bind (c87 (x1, x2, x3, (5 : Int))) fun r5 =>
    bif r5.1 == (0 : Int) then
     Option.bind (c85 (x9, x10, x11, x12, x13)) fun r6 =>
      L0 (IntKind.wrap IntKind.i64 (x0 - (1 : Int)), x1, r5.2.1, r5.2.2, x4, x5, x6, x7, x8, r6.2.1, r6.2.2.1, r6.2.2.2.1, r6.2.2.2.2.1, r6.2.2.2.2.2)
    else
     bif r5.1 == (1 : Int) then
      L0 (IntKind.wrap IntKind.i64 (x0 - (1 : Int)), x1, r5.2.1, r5.2.2, x4, x5, x6, x7, x8, x9, x10, x11, x12, false)
     else
      Option.bind (c87 (x1, r5.2.1, r5.2.2, (List.length x9 : Int))) fun r7 =>
       Option.bind (c86 (x1, r7.2.1, r7.2.2)) fun r8 =>
        Option.bind (c88 (x9, x10, x11, x12, x13, r7.1, r8.1)) fun r9 =>
         L0 (IntKind.wrap IntKind.i64 (x0 - (1 : Int)), x1, r8.2.1, r8.2.2, x4, x5, x6, x7, x8, r9.2.1, r9.2.2.1, r9.2.2.2.1, r9.2.2.2.2.1, r9.2.2.2.2.2)
  else
   some (x9, x10, x11, x12, x13, x2, x3)
noncomputable def spec_l12Draw.ll0 : (Int × (List Int) × Int × Int × (List (List Int)) × (List (Int × (List Int))) × Int × (List (Int × Int × Int)) × Bool × (List (List Int)) × (List (Int × (List Int))) × Int × (List (Int × Int × Int)) × Bool) → LS
  | (x0, x1, x2, x3, x4, x5, x6, x7, x8, x9, x10, x11, x12, x13) => ⟨[.addr 2 0 [] 0, .addr 129 0 [] 0, .addr 193 0 [] 0, .cv ⟨.int .i64, x0⟩], [⟨false, [⟨0, 0, .lk ⟨.row K1, x1⟩⟩, ⟨0, 0, .mk 0 ⟨.int .i64, x2⟩⟩, ⟨0, 0, .mk 0 ⟨.int .i64, x3⟩⟩]⟩, ⟨false, [⟨0, 0, .mk 9 ⟨.row K2, x4⟩⟩, ⟨0, 0, .mk 9 ⟨.row K3, x5⟩⟩, ⟨0, 0, .mk 0 ⟨.int .i64, x6⟩⟩, ⟨0, 0, .mk 9 ⟨.row K0, x7⟩⟩, ⟨0, 0, .mk 0 ⟨.bool, x8⟩⟩]⟩, ⟨false, [⟨0, 0, .mk 1 ⟨.row K2, x9⟩⟩, ⟨0, 0, .mk 1 ⟨.row K3, x10⟩⟩, ⟨0, 0, .mk 0 ⟨.int .i64, x11⟩⟩, ⟨0, 0, .mk 1 ⟨.row K0, x12⟩⟩, ⟨0, 0, .mk 0 ⟨.bool, x13⟩⟩]⟩]⟩
noncomputable def spec_l12Draw.m (c20 : Int × (List (Int × Int × Int)) → Option ((List (List Int)) × (List (Int × (List Int))) × Int × (List (Int × Int × Int)) × Bool)) (c74 : (List Int) × Int × Int → Option ((List (Int × Int × Int)) × Int × Int)) (c87 : (List Int) × Int × Int × Int → Option (Int × Int × Int)) (B0 : (Int × (List Int) × Int × Int × (List (List Int)) × (List (Int × (List Int))) × Int × (List (Int × Int × Int)) × Bool × (List (List Int)) × (List (Int × (List Int))) × Int × (List (Int × Int × Int)) × Bool) → Option ((List (List Int)) × (List (Int × (List Int))) × Int × (List (Int × Int × Int)) × Bool × Int × Int)) : ((List Int) × Int × Int) → Option ((List (List Int)) × (List (Int × (List Int))) × Int × (List (Int × Int × Int)) × Bool × Int × Int)
  | (a0_0, a0_1, a0_2) =>
  Option.bind (c87 (a0_0, a0_1, a0_2, (4 : Int))) fun r1 =>
   Option.bind (c74 (a0_0, r1.2.1, r1.2.2)) fun r2 =>
    Option.bind (c20 (IntKind.wrap IntKind.i64 ((4 : Int) + r1.1), r2.1)) fun r3 =>
     Option.bind (c87 (a0_0, r2.2.1, r2.2.2, (12 : Int))) fun r4 =>
      B0 (r4.1, a0_0, r4.2.1, r4.2.2, ([] : List (List Int)), ([] : List (Int × (List Int))), (0 : Int), ([] : List (Int × Int × Int)), false, r3.1, r3.2.1, r3.2.2.1, r3.2.2.2.1, r3.2.2.2.2)
noncomputable def spec_l12Draw.sig : Sig := ⟨[.ptr [⟨.row K1, 0, 1, false⟩, ⟨.int .i64, 0, 0, true⟩, ⟨.int .i64, 0, 0, true⟩]], [(.agg, [(.row K2, 1), (.row K3, 1), (.int .i64, 0), (.row K0, 1), (.bool, 0)])]⟩
noncomputable def spec_l12Draw.hint : Nat → Hint
  | 0 => ⟨[(0, .keep), (2, .keep), (3, .keep), (4, .keep)], [(2, [9, 0, 0]), (129, [9, 9, 0, 9, 0]), (193, [1, 1, 0, 1, 0])]⟩
  | _ => ⟨[], []⟩
noncomputable def spec_l12Draw.join : Nat → Option Hint
  | _ => none
noncomputable def spec_l12Draw.body : Code := (Try.f97).body.getD .skip
noncomputable def spec_l12Draw.rv : List ResultVar := (Try.f97).results.toList
noncomputable def spec_l12Any.s1 (c87 : (List Int) × Int × Int × Int → Option (Int × Int × Int)) (L1 : ((List Int) × Int × Int × (List (List Int)) × (List (Int × (List Int))) × Int × (List (Int × Int × Int)) × Bool × (List (List Int)) × (List (Int × (List Int))) × Int × (List (Int × Int × Int)) × Bool) → Option ((List (List Int)) × (List (Int × (List Int))) × Int × (List (Int × Int × Int)) × Bool × Int × Int)) : ((List Int) × Int × Int × (List (List Int)) × (List (Int × (List Int))) × Int × (List (Int × Int × Int)) × Bool × (List (List Int)) × (List (Int × (List Int))) × Int × (List (Int × Int × Int)) × Bool) → Option ((List (List Int)) × (List (Int × (List Int))) × Int × (List (Int × Int × Int)) × Bool × Int × Int)
  | (x0, x1, x2, x3, x4, x5, x6, x7, x8, x9, x10, x11, x12) =>
  Option.bind (c87 (x0, x1, x2, (2 : Int))) fun r9 =>
   bif decide ((List.length x9 : Int) < (IntKind.wrap IntKind.i64 ((59 : Int) + r9.1))) then
    bif decide ((List.length x9 + List.length ([((1 : Int), ([(1 : Int)] : List Int))] : List (Int × (List Int)))) * 32 ≤ 140737488355328) then
     L1 (x0, r9.2.1, r9.2.2, x3, x4, x5, x6, x7, x8, x9 ++ ([((1 : Int), ([(1 : Int)] : List Int))] : List (Int × (List Int))), x10, x11, x12)
    else
     none
   else
    some (x8, x9, x10, x11, x12, r9.2.1, r9.2.2)
noncomputable def spec_l12Any.ll1 : ((List Int) × Int × Int × (List (List Int)) × (List (Int × (List Int))) × Int × (List (Int × Int × Int)) × Bool × (List (List Int)) × (List (Int × (List Int))) × Int × (List (Int × Int × Int)) × Bool) → LS
  | (x0, x1, x2, x3, x4, x5, x6, x7, x8, x9, x10, x11, x12) => ⟨[.addr 2 0 [] 0, .addr 129 0 [] 0, .addr 193 0 [] 0], [⟨false, [⟨0, 0, .lk ⟨.row K1, x0⟩⟩, ⟨0, 0, .mk 0 ⟨.int .i64, x1⟩⟩, ⟨0, 0, .mk 0 ⟨.int .i64, x2⟩⟩]⟩, ⟨false, [⟨0, 0, .mk 9 ⟨.row K2, x3⟩⟩, ⟨0, 0, .mk 9 ⟨.row K3, x4⟩⟩, ⟨0, 0, .mk 0 ⟨.int .i64, x5⟩⟩, ⟨0, 0, .mk 9 ⟨.row K0, x6⟩⟩, ⟨0, 0, .mk 0 ⟨.bool, x7⟩⟩]⟩, ⟨false, [⟨0, 0, .mk 1 ⟨.row K2, x8⟩⟩, ⟨0, 0, .mk 1 ⟨.row K3, x9⟩⟩, ⟨0, 0, .mk 0 ⟨.int .i64, x10⟩⟩, ⟨0, 0, .mk 1 ⟨.row K0, x11⟩⟩, ⟨0, 0, .mk 0 ⟨.bool, x12⟩⟩]⟩]⟩
noncomputable def spec_l12Any.m (c76 : (List Int) × Int × Int × (List Int) → Option (Int × Int × Int)) (c86 : (List Int) × Int × Int → Option ((List Int) × Int × Int)) (c87 : (List Int) × Int × Int × Int → Option (Int × Int × Int)) (c97 : (List Int) × Int × Int → Option ((List (List Int)) × (List (Int × (List Int))) × Int × (List (Int × Int × Int)) × Bool × Int × Int)) (B1 : ((List Int) × Int × Int × (List (List Int)) × (List (Int × (List Int))) × Int × (List (Int × Int × Int)) × Bool × (List (List Int)) × (List (Int × (List Int))) × Int × (List (Int × Int × Int)) × Bool) → Option ((List (List Int)) × (List (Int × (List Int))) × Int × (List (Int × Int × Int)) × Bool × Int × Int)) : ((List Int) × Int × Int) → Option ((List (List Int)) × (List (Int × (List Int))) × Int × (List (Int × Int × Int)) × Bool × Int × Int)
  | (a0_0, a0_1, a0_2) =>
  Option.bind (c97 (a0_0, a0_1, a0_2)) fun r1 =>
   Option.bind (c87 (a0_0, r1.2.2.2.2.2.1, r1.2.2.2.2.2.2, (20 : Int))) fun r2 =>
    bif r2.1 == (0 : Int) then
     Option.bind (c76 (a0_0, r2.2.1, r2.2.2, ([(-1 : Int), (100000 : Int), (100001 : Int)] : List Int))) fun r3 =>
      some (r1.1, r1.2.1, r3.1, r1.2.2.2.1, r1.2.2.2.2.1, r3.2.1, r3.2.2)
    else
     bif r2.1 == (1 : Int) then
      Option.bind (c76 (a0_0, r2.2.1, r2.2.2, ([(0 : Int), (100001 : Int), (50 : Int)] : List Int))) fun r4 =>
       Option.bind (c76 (a0_0, r4.2.1, r4.2.2, ([(-1 : Int), (1048576 : Int), (0 : Int)] : List Int))) fun r5 =>
        bif decide ((List.length r1.2.2.2.1 + List.length ([(r4.1, r5.1, (0 : Int))] : List (Int × Int × Int))) * 24 ≤ 140737488355328) then
         some (r1.1, r1.2.1, r1.2.2.1, r1.2.2.2.1 ++ ([(r4.1, r5.1, (0 : Int))] : List (Int × Int × Int)), r1.2.2.2.2.1, r5.2.1, r5.2.2)
        else
         none
     else
      bif r2.1 == (2 : Int) then
       Option.bind (c76 (a0_0, r2.2.1, r2.2.2, ([(-1 : Int), (0 : Int), (48 : Int)] : List Int))) fun r6 =>
        Option.bind (c86 (a0_0, r6.2.1, r6.2.2)) fun r7 =>
         bif decide ((List.length r1.2.1 + List.length ([(r6.1, r7.1)] : List (Int × (List Int)))) * 32 ≤ 140737488355328) then
          some (r1.1, r1.2.1 ++ ([(r6.1, r7.1)] : List (Int × (List Int))), r1.2.2.1, r1.2.2.2.1, r1.2.2.2.2.1, r7.2.1, r7.2.2)
         else
          none
      else
       bif r2.1 == (3 : Int) then
        Option.bind (c87 (a0_0, r2.2.1, r2.2.2, (2 : Int))) fun r8 =>
         bif decide (0 ≤ (IntKind.wrap IntKind.i64 ((256 : Int) + r8.1))) && decide ((IntKind.wrap IntKind.i64 ((256 : Int) + r8.1)) ≤ (IntKind.wrap IntKind.i64 ((256 : Int) + r8.1))) && decide ((IntKind.wrap IntKind.i64 ((256 : Int) + r8.1)) * 1 ≤ 140737488355328) then
          bif decide (0 ≤ (0 : Int)) && decide ((0 : Int) < (List.length r1.1 : Int)) then
           some (List.set r1.1 (Int.toNat (0 : Int)) (List.replicate (Int.toNat (IntKind.wrap IntKind.i64 ((256 : Int) + r8.1))) (0 : Int)), r1.2.1, r1.2.2.1, r1.2.2.2.1, r1.2.2.2.2.1, r8.2.1, r8.2.2)
          else
           none
         else
          none
       else
        bif r2.1 == (4 : Int) then
         bif decide (0 ≤ (0 : Int)) && decide ((0 : Int) ≤ (3 : Int)) && decide ((3 : Int) ≤ (List.length r1.1 : Int)) then
          some (List.take (Int.toNat (3 : Int)) r1.1, r1.2.1, r1.2.2.1, r1.2.2.2.1, r1.2.2.2.2.1, r2.2.1, r2.2.2)
         else
          none
        else
         bif r2.1 == (5 : Int) then
          B1 (a0_0, r2.2.1, r2.2.2, ([] : List (List Int)), ([] : List (Int × (List Int))), (0 : Int), ([] : List (Int × Int × Int)), false, r1.1, r1.2.1, r1.2.2.1, r1.2.2.2.1, r1.2.2.2.2.1)
         else
          some (r1.1, r1.2.1, r1.2.2.1, r1.2.2.2.1, r1.2.2.2.2.1, r2.2.1, r2.2.2)
noncomputable def spec_l12Any.sig : Sig := ⟨[.ptr [⟨.row K1, 0, 1, false⟩, ⟨.int .i64, 0, 0, true⟩, ⟨.int .i64, 0, 0, true⟩]], [(.agg, [(.row K2, 1), (.row K3, 1), (.int .i64, 0), (.row K0, 1), (.bool, 0)])]⟩
noncomputable def spec_l12Any.hint : Nat → Hint
  | 1 => ⟨[(0, .keep), (2, .keep), (3, .keep)], [(2, [9, 0, 0]), (129, [9, 9, 0, 9, 0]), (193, [1, 1, 0, 1, 0])]⟩
  | _ => ⟨[], []⟩
noncomputable def spec_l12Any.join : Nat → Option Hint
  | _ => none
noncomputable def spec_l12Any.body : Code := (Try.f77).body.getD .skip
noncomputable def spec_l12Any.rv : List ResultVar := (Try.f77).results.toList
noncomputable def impl_copyDisk.s0 (c72 : (List Int) → Option (List Int)) (B2 : ((List (Int × (List Int))) × Int × Int × (List (List Int)) × (List (Int × (List Int))) × Int × (List (Int × Int × Int)) × Bool × (List (List Int)) × (List (Int × (List Int))) × Int × (List (Int × Int × Int)) × Bool × (List (List Int)) × (List (Int × (List Int)))) → Option ((List (List Int)) × (List (Int × (List Int))) × Int × (List (Int × Int × Int)) × Bool)) (L0 : ((List (List Int)) × Int × Int × (List (List Int)) × (List (Int × (List Int))) × Int × (List (Int × Int × Int)) × Bool × (List (List Int)) × (List (Int × (List Int))) × Int × (List (Int × Int × Int)) × Bool × (List (List Int))) → Option ((List (List Int)) × (List (Int × (List Int))) × Int × (List (Int × Int × Int)) × Bool)) : ((List (List Int)) × Int × Int × (List (List Int)) × (List (Int × (List Int))) × Int × (List (Int × Int × Int)) × Bool × (List (List Int)) × (List (Int × (List Int))) × Int × (List (Int × Int × Int)) × Bool × (List (List Int))) → Option ((List (List Int)) × (List (Int × (List Int))) × Int × (List (Int × Int × Int)) × Bool)
  | (x0, x1, x2, x3, x4, x5, x6, x7, x8, x9, x10, x11, x12, x13) =>
  bif decide (x2 < x1) then
   bif decide (0 ≤ x2) && decide (x2 < (List.length x0 : Int)) then
    Option.bind (c72 (List.getD x0 (Int.toNat x2) ([] : List Int))) fun r1 =>
     bif decide ((List.length x13 + List.length ([r1] : List (List Int))) * 24 ≤ 140737488355328) then
      L0 (x0, x1, IntKind.wrap IntKind.i64 (x2 + (1 : Int)), x3, x4, x5, x6, x7, x8, x9, x10, x11, x12, x13 ++ ([r1] : List (List Int)))
     else
      none
   else
    none
  else
   B2 (x4, (List.length x4 : Int), (0 : Int), x3, x4, x5, x6, x7, x8, x9, x10, x11, x12, x13, ([] : List (Int × (List Int))))
noncomputable def impl_copyDisk.ll0 : ((List (List Int)) × Int × Int × (List (List Int)) × (List (Int × (List Int))) × Int × (List (Int × Int × Int)) × Bool × (List (List Int)) × (List (Int × (List Int))) × Int × (List (Int × Int × Int)) × Bool × (List (List Int))) → LS
  | (x0, x1, x2, x3, x4, x5, x6, x7, x8, x9, x10, x11, x12, x13) => ⟨[.addr 65 0 [] 0, .addr 129 0 [] 0, .ref 12 0 [] none 0, .cv ⟨.row K2, x0⟩, .cv ⟨.int .i64, x1⟩, .cv ⟨.int .i64, x2⟩], [⟨false, [⟨0, 0, .mk 0 ⟨.row K2, x3⟩⟩, ⟨0, 0, .mk 0 ⟨.row K3, x4⟩⟩, ⟨0, 0, .mk 0 ⟨.int .i64, x5⟩⟩, ⟨0, 0, .mk 0 ⟨.row K0, x6⟩⟩, ⟨0, 0, .mk 0 ⟨.bool, x7⟩⟩]⟩, ⟨false, [⟨0, 0, .mk 9 ⟨.row K2, x8⟩⟩, ⟨0, 0, .mk 9 ⟨.row K3, x9⟩⟩, ⟨0, 0, .mk 0 ⟨.int .i64, x10⟩⟩, ⟨0, 0, .mk 9 ⟨.row K0, x11⟩⟩, ⟨0, 0, .mk 0 ⟨.bool, x12⟩⟩]⟩, ⟨true, [⟨0, 0, .mk 9 ⟨.row K2, x13⟩⟩]⟩]⟩
noncomputable def impl_copyDisk.s2 (c72 : (List Int) → Option (List Int)) (L2 : ((List (Int × (List Int))) × Int × Int × (List (List Int)) × (List (Int × (List Int))) × Int × (List (Int × Int × Int)) × Bool × (List (List Int)) × (List (Int × (List Int))) × Int × (List (Int × Int × Int)) × Bool × (List (List Int)) × (List (Int × (List Int)))) → Option ((List (List Int)) × (List (Int × (List Int))) × Int × (List (Int × Int × Int)) × Bool)) : ((List (Int × (List Int))) × Int × Int × (List (List Int)) × (List (Int × (List Int))) × Int × (List (Int × Int × Int)) × Bool × (List (List Int)) × (List (Int × (List Int))) × Int × (List (Int × Int × Int)) × Bool × (List (List Int)) × (List (Int × (List Int)))) → Option ((List (List Int)) × (List (Int × (List Int))) × Int × (List (Int × Int × Int)) × Bool)
  | (x0, x1, x2, x3, x4, x5, x6, x7, x8, x9, x10, x11, x12, x13, x14) =>
  bif decide (x2 < x1) then
   bif decide (0 ≤ x2) && decide (x2 < (List.length x0 : Int)) then
    Option.bind (c72 ((List.getD x0 (Int.toNat x2) ((0 : Int), ([] : List Int))).2)) fun r2 =>
     bif decide ((List.length x14 + List.length ([((List.getD x0 (Int.toNat x2) ((0 : Int), ([] : List Int))).1, r2)] : List (Int × (List Int)))) * 32 ≤ 140737488355328) then
      L2 (x0, x1, IntKind.wrap IntKind.i64 (x2 + (1 : Int)), x3, x4, x5, x6, x7, x8, x9, x10, x11, x12, x13, x14 ++ ([((List.getD x0 (Int.toNat x2) ((0 : Int), ([] : List Int))).1, r2)] : List (Int × (List Int))))
     else
      none
   else
    none
  else
   bif decide ((List.length ([] : List (Int × Int × Int)) + List.length x6) * 24 ≤ 140737488355328) then
    some (x13, x14, x5, ([] : List (Int × Int × Int)) ++ x6, x7)
   else
    none
noncomputable def impl_copyDisk.ll2 : ((List (Int × (List Int))) × Int × Int × (List (List Int)) × (List (Int × (List Int))) × Int × (List (Int × Int × Int)) × Bool × (List (List Int)) × (List (Int × (List Int))) × Int × (List (Int × Int × Int)) × Bool × (List (List Int)) × (List (Int × (List Int)))) → LS
  | (x0, x1, x2, x3, x4, x5, x6, x7, x8, x9, x10, x11, x12, x13, x14) => ⟨[.addr 65 0 [] 0, .addr 129 0 [] 0, .ref 12 0 [] none 0, .ref 24 0 [] none 0, .cv ⟨.row K3, x0⟩, .cv ⟨.int .i64, x1⟩, .cv ⟨.int .i64, x2⟩], [⟨false, [⟨0, 0, .mk 0 ⟨.row K2, x3⟩⟩, ⟨0, 0, .mk 0 ⟨.row K3, x4⟩⟩, ⟨0, 0, .mk 0 ⟨.int .i64, x5⟩⟩, ⟨0, 0, .mk 0 ⟨.row K0, x6⟩⟩, ⟨0, 0, .mk 0 ⟨.bool, x7⟩⟩]⟩, ⟨false, [⟨0, 0, .mk 9 ⟨.row K2, x8⟩⟩, ⟨0, 0, .mk 9 ⟨.row K3, x9⟩⟩, ⟨0, 0, .mk 0 ⟨.int .i64, x10⟩⟩, ⟨0, 0, .mk 9 ⟨.row K0, x11⟩⟩, ⟨0, 0, .mk 0 ⟨.bool, x12⟩⟩]⟩, ⟨true, [⟨0, 0, .mk 9 ⟨.row K2, x13⟩⟩]⟩, ⟨true, [⟨0, 0, .mk 9 ⟨.row K3, x14⟩⟩]⟩]⟩
noncomputable def impl_copyDisk.m (B0 : ((List (List Int)) × Int × Int × (List (List Int)) × (List (Int × (List Int))) × Int × (List (Int × Int × Int)) × Bool × (List (List Int)) × (List (Int × (List Int))) × Int × (List (Int × Int × Int)) × Bool × (List (List Int))) → Option ((List (List Int)) × (List (Int × (List Int))) × Int × (List (Int × Int × Int)) × Bool)) : ((List (List Int)) × (List (Int × (List Int))) × Int × (List (Int × Int × Int)) × Bool) → Option ((List (List Int)) × (List (Int × (List Int))) × Int × (List (Int × Int × Int)) × Bool)
  | (a0_0, a0_1, a0_2, a0_3, a0_4) =>
  B0 (a0_0, (List.length a0_0 : Int), (0 : Int), a0_0, a0_1, a0_2, a0_3, a0_4, ([] : List (List Int)), ([] : List (Int × (List Int))), (0 : Int), ([] : List (Int × Int × Int)), false, ([] : List (List Int)))
noncomputable def impl_copyDisk.sig : Sig := ⟨[.val true [⟨.row K2, 0, 0, false⟩, ⟨.row K3, 0, 0, false⟩, ⟨.int .i64, 0, 0, false⟩, ⟨.row K0, 0, 0, false⟩, ⟨.bool, 0, 0, false⟩]], [(.agg, [(.row K2, 2), (.row K3, 2), (.int .i64, 0), (.row K0, 1), (.bool, 0)])]⟩
noncomputable def impl_copyDisk.hint : Nat → Hint
  | 0 => ⟨[(1, .keep), (2, .keep), (3, .own 9 K2), (10, .keep), (11, .keep), (12, .keep)], [(65, [0, 0, 0, 0, 0]), (129, [9, 9, 0, 9, 0])]⟩
  | 2 => ⟨[(1, .keep), (2, .keep), (3, .own 9 K2), (6, .own 9 K3), (23, .keep), (24, .keep), (25, .keep)], [(65, [0, 0, 0, 0, 0]), (129, [9, 9, 0, 9, 0])]⟩
  | _ => ⟨[], []⟩
noncomputable def impl_copyDisk.join : Nat → Option Hint
  | _ => none
noncomputable def impl_copyDisk.body : Code := (Try.f78).body.getD .skip
noncomputable def impl_copyDisk.rv : List ResultVar := (Try.f78).results.toList
noncomputable def spec_l12N.m (c76 : (List Int) × Int × Int × (List Int) → Option (Int × Int × Int)) : ((List Int) × Int × Int) → Option (Int × Int × Int)
  | (a0_0, a0_1, a0_2) =>
  Option.bind (c76 (a0_0, a0_1, a0_2, ([(0 : Int), (1 : Int), (2 : Int), (3 : Int), (5 : Int), (-1 : Int), (48 : Int)] : List Int))) fun r1 =>
   some (r1.1, r1.2.1, r1.2.2)
noncomputable def spec_l12N.sig : Sig := ⟨[.ptr [⟨.row K1, 0, 1, false⟩, ⟨.int .i64, 0, 0, true⟩, ⟨.int .i64, 0, 0, true⟩]], [(.one, [(.int .i64, 0)])]⟩
noncomputable def spec_l12N.hint : Nat → Hint
  | _ => ⟨[], []⟩
noncomputable def spec_l12N.join : Nat → Option Hint
  | _ => none
noncomputable def spec_l12N.body : Code := (Try.f79).body.getD .skip
noncomputable def spec_l12N.rv : List ResultVar := (Try.f79).results.toList
noncomputable def laws_sameBytes.s0 (L0 : ((List Int) × (List Int) × Int) → Option (Bool)) : ((List Int) × (List Int) × Int) → Option (Bool)
  | (x0, x1, x2) =>
  bif decide (x2 < (List.length x0 : Int)) then
   bif decide (0 ≤ x2) && decide (x2 < (List.length x0 : Int)) then
    bif decide (0 ≤ x2) && decide (x2 < (List.length x1 : Int)) then
     bif (List.getD x0 (Int.toNat x2) (0 : Int)) != (List.getD x1 (Int.toNat x2) (0 : Int)) then
      some false
     else
      L0 (x0, x1, IntKind.wrap IntKind.i64 (x2 + (1 : Int)))
    else
     none
   else
    none
  else
   some true
noncomputable def laws_sameBytes.ll0 : ((List Int) × (List Int) × Int) → LS
  | (x0, x1, x2) => ⟨[.cv ⟨.row K1, x0⟩, .cv ⟨.row K1, x1⟩, .cv ⟨.int .i64, x2⟩], []⟩
noncomputable def laws_sameBytes.m (B0 : ((List Int) × (List Int) × Int) → Option (Bool)) : ((List Int) × (List Int)) → Option (Bool)
  | (a0_0, a1_0) =>
  bif (List.length a0_0 : Int) != (List.length a1_0 : Int) then
   some false
  else
   B0 (a0_0, a1_0, (0 : Int))
noncomputable def laws_sameBytes.sig : Sig := ⟨[.val false [⟨.row K1, 0, 0, false⟩], .val false [⟨.row K1, 0, 0, false⟩]], [(.one, [(.bool, 0)])]⟩
noncomputable def laws_sameBytes.hint : Nat → Hint
  | 0 => ⟨[(0, .keep), (1, .keep), (5, .keep)], []⟩
  | _ => ⟨[], []⟩
noncomputable def laws_sameBytes.join : Nat → Option Hint
  | _ => none
noncomputable def laws_sameBytes.body : Code := (Try.f38).body.getD .skip
noncomputable def laws_sameBytes.rv : List ResultVar := (Try.f38).results.toList
noncomputable def spec_l12Copy.s0 (B2 : (Int × (List (List Int)) × (List (Int × (List Int))) × Int × (List (Int × Int × Int)) × Bool × (List (List Int)) × (List (Int × (List Int))) × Int × (List (Int × Int × Int)) × Bool × (List (List Int)) × (List (Int × (List Int))) × Int × (List (Int × Int × Int)) × Bool) → Option ((List (List Int)) × (List (Int × (List Int))) × Int × (List (Int × Int × Int)) × Bool)) (L0 : (Int × (List (List Int)) × (List (Int × (List Int))) × Int × (List (Int × Int × Int)) × Bool × (List (List Int)) × (List (Int × (List Int))) × Int × (List (Int × Int × Int)) × Bool × (List (List Int)) × (List (Int × (List Int))) × Int × (List (Int × Int × Int)) × Bool) → Option ((List (List Int)) × (List (Int × (List Int))) × Int × (List (Int × Int × Int)) × Bool)) : (Int × (List (List Int)) × (List (Int × (List Int))) × Int × (List (Int × Int × Int)) × Bool × (List (List Int)) × (List (Int × (List Int))) × Int × (List (Int × Int × Int)) × Bool × (List (List Int)) × (List (Int × (List Int))) × Int × (List (Int × Int × Int)) × Bool) → Option ((List (List Int)) × (List (Int × (List Int))) × Int × (List (Int × Int × Int)) × Bool)
  | (x0, x1, x2, x3, x4, x5, x6, x7, x8, x9, x10, x11, x12, x13, x14, x15) =>
  bif decide (x0 < (List.length x1 : Int)) then
   bif decide (0 ≤ x0) && decide (x0 < (List.length x1 : Int)) then
    bif decide ((List.length ([] : List Int) + List.length (List.getD x1 (Int.toNat x0) ([] : List Int))) * 1 ≤ 140737488355328) then
     bif decide ((List.length x11 + List.length ([([] : List Int) ++ (List.getD x1 (Int.toNat x0) ([] : List Int))] : List (List Int))) * 24 ≤ 140737488355328) then
      L0 (IntKind.wrap IntKind.i64 (x0 + (1 : Int)), x1, x2, x3, x4, x5, x6, x7, x8, x9, x10, x11 ++ ([([] : List Int) ++ (List.getD x1 (Int.toNat x0) ([] : List Int))] : List (List Int)), x12, x13, x14, x15)
     else
      none
    else
     none
   else
    none
  else
   B2 ((0 : Int), x1, x2, x3, x4, x5, x6, x7, x8, x9, x10, x11, x12, x13, x14, x15)
noncomputable def spec_l12Copy.ll0 : (Int × (List (List Int)) × (List (Int × (List Int))) × Int × (List (Int × Int × Int)) × Bool × (List (List Int)) × (List (Int × (List Int))) × Int × (List (Int × Int × Int)) × Bool × (List (List Int)) × (List (Int × (List Int))) × Int × (List (Int × Int × Int)) × Bool) → LS
  | (x0, x1, x2, x3, x4, x5, x6, x7, x8, x9, x10, x11, x12, x13, x14, x15) => ⟨[.addr 65 0 [] 0, .addr 129 0 [] 0, .addr 193 0 [] 0, .cv ⟨.int .i64, x0⟩], [⟨false, [⟨0, 0, .mk 0 ⟨.row K2, x1⟩⟩, ⟨0, 0, .mk 0 ⟨.row K3, x2⟩⟩, ⟨0, 0, .mk 0 ⟨.int .i64, x3⟩⟩, ⟨0, 0, .mk 0 ⟨.row K0, x4⟩⟩, ⟨0, 0, .mk 0 ⟨.bool, x5⟩⟩]⟩, ⟨false, [⟨0, 0, .mk 9 ⟨.row K2, x6⟩⟩, ⟨0, 0, .mk 9 ⟨.row K3, x7⟩⟩, ⟨0, 0, .mk 0 ⟨.int .i64, x8⟩⟩, ⟨0, 0, .mk 9 ⟨.row K0, x9⟩⟩, ⟨0, 0, .mk 0 ⟨.bool, x10⟩⟩]⟩, ⟨false, [⟨0, 0, .mk 9 ⟨.row K2, x11⟩⟩, ⟨0, 0, .mk 9 ⟨.row K3, x12⟩⟩, ⟨0, 0, .mk 0 ⟨.int .i64, x13⟩⟩, ⟨0, 0, .mk 9 ⟨.row K0, x14⟩⟩, ⟨0, 0, .mk 0 ⟨.bool, x15⟩⟩]⟩]⟩
noncomputable def spec_l12Copy.s2 (L2 : (Int × (List (List Int)) × (List (Int × (List Int))) × Int × (List (Int × Int × Int)) × Bool × (List (List Int)) × (List (Int × (List Int))) × Int × (List (Int × Int × Int)) × Bool × (List (List Int)) × (List (Int × (List Int))) × Int × (List (Int × Int × Int)) × Bool) → Option ((List (List Int)) × (List (Int × (List Int))) × Int × (List (Int × Int × Int)) × Bool)) : (Int × (List (List Int)) × (List (Int × (List Int))) × Int × (List (Int × Int × Int)) × Bool × (List (List Int)) × (List (Int × (List Int))) × Int × (List (Int × Int × Int)) × Bool × (List (List Int)) × (List (Int × (List Int))) × Int × (List (Int × Int × Int)) × Bool) → Option ((List (List Int)) × (List (Int × (List Int))) × Int × (List (Int × Int × Int)) × Bool)
  | (x0, x1, x2, x3, x4, x5, x6, x7, x8, x9, x10, x11, x12, x13, x14, x15) =>
  bif decide (x0 < (List.length x2 : Int)) then
   bif decide (0 ≤ x0) && decide (x0 < (List.length x2 : Int)) then
    bif decide (0 ≤ x0) && decide (x0 < (List.length x2 : Int)) then
     bif decide ((List.length ([] : List Int) + List.length ((List.getD x2 (Int.toNat x0) ((0 : Int), ([] : List Int))).2)) * 1 ≤ 140737488355328) then
      bif decide ((List.length x12 + List.length ([((List.getD x2 (Int.toNat x0) ((0 : Int), ([] : List Int))).1, ([] : List Int) ++ ((List.getD x2 (Int.toNat x0) ((0 : Int), ([] : List Int))).2))] : List (Int × (List Int)))) * 32 ≤ 140737488355328) then
       L2 (IntKind.wrap IntKind.i64 (x0 + (1 : Int)), x1, x2, x3, x4, x5, x6, x7, x8, x9, x10, x11, x12 ++ ([((List.getD x2 (Int.toNat x0) ((0 : Int), ([] : List Int))).1, ([] : List Int) ++ ((List.getD x2 (Int.toNat x0) ((0 : Int), ([] : List Int))).2))] : List (Int × (List Int))), x13, x14, x15)
      else
       none
     else
      none
    else
     none
   else
    none
  else
   some (x11, x12, x13, x14, x15)
noncomputable def spec_l12Copy.ll2 : (Int × (List (List Int)) × (List (Int × (List Int))) × Int × (List (Int × Int × Int)) × Bool × (List (List Int)) × (List (Int × (List Int))) × Int × (List (Int × Int × Int)) × Bool × (List (List Int)) × (List (Int × (List Int))) × Int × (List (Int × Int × Int)) × Bool) → LS
  | (x0, x1, x2, x3, x4, x5, x6, x7, x8, x9, x10, x11, x12, x13, x14, x15) => ⟨[.addr 65 0 [] 0, .addr 129 0 [] 0, .addr 193 0 [] 0, .cv ⟨.int .i64, x0⟩], [⟨false, [⟨0, 0, .mk 0 ⟨.row K2, x1⟩⟩, ⟨0, 0, .mk 0 ⟨.row K3, x2⟩⟩, ⟨0, 0, .mk 0 ⟨.int .i64, x3⟩⟩, ⟨0, 0, .mk 0 ⟨.row K0, x4⟩⟩, ⟨0, 0, .mk 0 ⟨.bool, x5⟩⟩]⟩, ⟨false, [⟨0, 0, .mk 9 ⟨.row K2, x6⟩⟩, ⟨0, 0, .mk 9 ⟨.row K3, x7⟩⟩, ⟨0, 0, .mk 0 ⟨.int .i64, x8⟩⟩, ⟨0, 0, .mk 9 ⟨.row K0, x9⟩⟩, ⟨0, 0, .mk 0 ⟨.bool, x10⟩⟩]⟩, ⟨false, [⟨0, 0, .mk 9 ⟨.row K2, x11⟩⟩, ⟨0, 0, .mk 9 ⟨.row K3, x12⟩⟩, ⟨0, 0, .mk 0 ⟨.int .i64, x13⟩⟩, ⟨0, 0, .mk 9 ⟨.row K0, x14⟩⟩, ⟨0, 0, .mk 0 ⟨.bool, x15⟩⟩]⟩]⟩
noncomputable def spec_l12Copy.m (B0 : (Int × (List (List Int)) × (List (Int × (List Int))) × Int × (List (Int × Int × Int)) × Bool × (List (List Int)) × (List (Int × (List Int))) × Int × (List (Int × Int × Int)) × Bool × (List (List Int)) × (List (Int × (List Int))) × Int × (List (Int × Int × Int)) × Bool) → Option ((List (List Int)) × (List (Int × (List Int))) × Int × (List (Int × Int × Int)) × Bool)) : ((List (List Int)) × (List (Int × (List Int))) × Int × (List (Int × Int × Int)) × Bool) → Option ((List (List Int)) × (List (Int × (List Int))) × Int × (List (Int × Int × Int)) × Bool)
  | (a0_0, a0_1, a0_2, a0_3, a0_4) =>
  bif decide ((List.length ([] : List (Int × Int × Int)) + List.length a0_3) * 24 ≤ 140737488355328) then
   B0 ((0 : Int), a0_0, a0_1, a0_2, a0_3, a0_4, ([] : List (List Int)), ([] : List (Int × (List Int))), (0 : Int), ([] : List (Int × Int × Int)), false, ([] : List (List Int)), ([] : List (Int × (List Int))), a0_2, ([] : List (Int × Int × Int)) ++ a0_3, a0_4)
  else
   none
noncomputable def spec_l12Copy.sig : Sig := ⟨[.val true [⟨.row K2, 0, 0, false⟩, ⟨.row K3, 0, 0, false⟩, ⟨.int .i64, 0, 0, false⟩, ⟨.row K0, 0, 0, false⟩, ⟨.bool, 0, 0, false⟩]], [(.agg, [(.row K2, 2), (.row K3, 2), (.int .i64, 0), (.row K0, 1), (.bool, 0)])]⟩
noncomputable def spec_l12Copy.hint : Nat → Hint
  | 0 => ⟨[(1, .keep), (2, .keep), (3, .keep), (4, .keep)], [(65, [0, 0, 0, 0, 0]), (129, [9, 9, 0, 9, 0]), (193, [9, 9, 0, 9, 0])]⟩
  | 2 => ⟨[(1, .keep), (2, .keep), (3, .keep), (5, .keep)], [(65, [0, 0, 0, 0, 0]), (129, [9, 9, 0, 9, 0]), (193, [9, 9, 0, 9, 0])]⟩
  | _ => ⟨[], []⟩
noncomputable def spec_l12Copy.join : Nat → Option Hint
  | _ => none
noncomputable def spec_l12Copy.body : Code := (Try.f80).body.getD .skip
noncomputable def spec_l12Copy.rv : List ResultVar := (Try.f80).results.toList
noncomputable def spec_DrawWriteSec.m (c73 : (List Int) → Option ((List Int) × Int × Int)) (c75 : (List Int) × Int × Int × Int → Option (Bool × Int × Int)) (c77 : (List Int) × Int × Int → Option ((List (List Int)) × (List (Int × (List Int))) × Int × (List (Int × Int × Int)) × Bool × Int × Int)) (c79 : (List Int) × Int × Int → Option (Int × Int × Int)) (c86 : (List Int) × Int × Int → Option ((List Int) × Int × Int)) (c87 : (List Int) × Int × Int × Int → Option (Int × Int × Int)) : (List Int) → Option ((List (List Int)) × (List (Int × (List Int))) × Int × (List (Int × Int × Int)) × Bool × Int × (List Int))
  | a0_0 =>
  Option.bind (c73 a0_0) fun r1 =>
   Option.bind (c86 (r1.1, r1.2.1, r1.2.2)) fun r2 =>
    Option.bind (c75 (r1.1, r2.2.1, r2.2.2, (10 : Int))) fun r3 =>
     bif r3.1 then
      Option.bind (c87 (r1.1, r3.2.1, r3.2.2, (2 : Int))) fun r4 =>
       bif decide (0 ≤ (IntKind.wrap IntKind.i64 ((256 : Int) + r4.1))) && decide ((IntKind.wrap IntKind.i64 ((256 : Int) + r4.1)) ≤ (IntKind.wrap IntKind.i64 ((256 : Int) + r4.1))) && decide ((IntKind.wrap IntKind.i64 ((256 : Int) + r4.1)) * 1 ≤ 140737488355328) then
        Option.bind (c77 (r1.1, r4.2.1, r4.2.2)) fun r5 =>
         Option.bind (c75 (r1.1, r5.2.2.2.2.2.1, r5.2.2.2.2.2.2, (3 : Int))) fun r6 =>
          bif r6.1 then
           Option.bind (c87 (r1.1, r6.2.1, r6.2.2, (64 : Int))) fun r7 =>
            Option.bind (c87 (r1.1, r7.2.1, r7.2.2, (6 : Int))) fun r8 =>
             Option.bind (c79 (r1.1, r8.2.1, r8.2.2)) fun r9 =>
              some (r5.1, r5.2.1, r5.2.2.1, ([(r5.2.2.1, r7.1, r8.1)] : List (Int × Int × Int)), r5.2.2.2.2.1, r9.1, List.replicate (Int.toNat (IntKind.wrap IntKind.i64 ((256 : Int) + r4.1))) (0 : Int))
          else
           Option.bind (c79 (r1.1, r6.2.1, r6.2.2)) fun r10 =>
            some (r5.1, r5.2.1, r5.2.2.1, r5.2.2.2.1, r5.2.2.2.2.1, r10.1, List.replicate (Int.toNat (IntKind.wrap IntKind.i64 ((256 : Int) + r4.1))) (0 : Int))
       else
        none
     else
      Option.bind (c77 (r1.1, r3.2.1, r3.2.2)) fun r11 =>
       Option.bind (c75 (r1.1, r11.2.2.2.2.2.1, r11.2.2.2.2.2.2, (3 : Int))) fun r12 =>
        bif r12.1 then
         Option.bind (c87 (r1.1, r12.2.1, r12.2.2, (64 : Int))) fun r13 =>
          Option.bind (c87 (r1.1, r13.2.1, r13.2.2, (6 : Int))) fun r14 =>
           Option.bind (c79 (r1.1, r14.2.1, r14.2.2)) fun r15 =>
            some (r11.1, r11.2.1, r11.2.2.1, ([(r11.2.2.1, r13.1, r14.1)] : List (Int × Int × Int)), r11.2.2.2.2.1, r15.1, r2.1)
        else
         Option.bind (c79 (r1.1, r12.2.1, r12.2.2)) fun r16 =>
          some (r11.1, r11.2.1, r11.2.2.1, r11.2.2.2.1, r11.2.2.2.2.1, r16.1, r2.1)
noncomputable def spec_DrawWriteSec.sig : Sig := ⟨[.val false [⟨.row K1, 0, 0, false⟩]], [(.agg, [(.row K2, 1), (.row K3, 1), (.int .i64, 0), (.row K0, 1), (.bool, 0)]), (.one, [(.int .i64, 0)]), (.one, [(.row K1, 1)])]⟩
noncomputable def spec_DrawWriteSec.hint : Nat → Hint
  | _ => ⟨[], []⟩
noncomputable def spec_DrawWriteSec.join : Nat → Option Hint
  | _ => none
noncomputable def spec_DrawWriteSec.body : Code := (Try.f45).body.getD .skip
noncomputable def spec_DrawWriteSec.rv : List ResultVar := (Try.f45).results.toList
noncomputable def impl_Disk_fault.s0 (L0 : (Int × Int × (List (List Int)) × (List (Int × (List Int))) × Int × (List (Int × Int × Int)) × Bool × Int × Int × Int) → Option (Int × Int × Int × Bool × (List (List Int)) × (List (Int × (List Int))) × Int × (List (Int × Int × Int)) × Bool)) : (Int × Int × (List (List Int)) × (List (Int × (List Int))) × Int × (List (Int × Int × Int)) × Bool × Int × Int × Int) → Option (Int × Int × Int × Bool × (List (List Int)) × (List (Int × (List Int))) × Int × (List (Int × Int × Int)) × Bool)
  | (x0, x1, x2, x3, x4, x5, x6, x7, x8, x9) =>
  bif decide (x1 < x0) then
   bif decide (0 ≤ x1) && decide (x1 < (List.length x5 : Int)) then
    bif ((List.getD x5 (Int.toNat x1) ((0 : Int), (0 : Int), (0 : Int))).1) == x4 then
     some ((List.getD x5 (Int.toNat x1) ((0 : Int), (0 : Int), (0 : Int))).1, (List.getD x5 (Int.toNat x1) ((0 : Int), (0 : Int), (0 : Int))).2.1, (List.getD x5 (Int.toNat x1) ((0 : Int), (0 : Int), (0 : Int))).2.2, true, x2, x3, x4, x5, x6)
    else
     L0 (x0, IntKind.wrap IntKind.i64 (x1 + (1 : Int)), x2, x3, x4, x5, x6, x7, x8, x9)
   else
    none
  else
   some ((0 : Int), (0 : Int), (0 : Int), false, x2, x3, x4, x5, x6)
noncomputable def impl_Disk_fault.ll0 : (Int × Int × (List (List Int)) × (List (Int × (List Int))) × Int × (List (Int × Int × Int)) × Bool × Int × Int × Int) → LS
  | (x0, x1, x2, x3, x4, x5, x6, x7, x8, x9) => ⟨[.addr 2 0 [] 0, .addr 129 0 [] 0, .ref 2 3 [] none 0, .cv ⟨.int .i64, x0⟩, .cv ⟨.int .i64, x1⟩], [⟨false, [⟨0, 0, .mk 2 ⟨.row K2, x2⟩⟩, ⟨0, 0, .mk 2 ⟨.row K3, x3⟩⟩, ⟨0, 0, .mk 0 ⟨.int .i64, x4⟩⟩, ⟨0, 0, .mk 1 ⟨.row K0, x5⟩⟩, ⟨0, 0, .mk 0 ⟨.bool, x6⟩⟩]⟩, ⟨false, [⟨0, 0, .mk 0 ⟨.int .i64, x7⟩⟩, ⟨0, 0, .mk 0 ⟨.int .i64, x8⟩⟩, ⟨0, 0, .mk 0 ⟨.int .i64, x9⟩⟩]⟩]⟩
noncomputable def impl_Disk_fault.m (B0 : (Int × Int × (List (List Int)) × (List (Int × (List Int))) × Int × (List (Int × Int × Int)) × Bool × Int × Int × Int) → Option (Int × Int × Int × Bool × (List (List Int)) × (List (Int × (List Int))) × Int × (List (Int × Int × Int)) × Bool)) : ((List (List Int)) × (List (Int × (List Int))) × Int × (List (Int × Int × Int)) × Bool) → Option (Int × Int × Int × Bool × (List (List Int)) × (List (Int × (List Int))) × Int × (List (Int × Int × Int)) × Bool)
  | (a0_0, a0_1, a0_2, a0_3, a0_4) =>
  B0 ((List.length a0_3 : Int), (0 : Int), a0_0, a0_1, a0_2, a0_3, a0_4, (0 : Int), (0 : Int), (0 : Int))
noncomputable def impl_Disk_fault.sig : Sig := ⟨[.ptr [⟨.row K2, 2, 2, true⟩, ⟨.row K3, 2, 2, true⟩, ⟨.int .i64, 0, 0, true⟩, ⟨.row K0, 1, 1, true⟩, ⟨.bool, 0, 0, true⟩]], [(.agg, [(.int .i64, 0), (.int .i64, 0), (.int .i64, 0)]), (.one, [(.bool, 0)])]⟩
noncomputable def impl_Disk_fault.hint : Nat → Hint
  | 0 => ⟨[(0, .keep), (2, .keep), (9, .keep), (10, .keep), (11, .keep)], [(2, [2, 2, 0, 1, 0]), (129, [0, 0, 0])]⟩
  | _ => ⟨[], []⟩
noncomputable def impl_Disk_fault.join : Nat → Option Hint
  | _ => none
noncomputable def impl_Disk_fault.body : Code := (Try.f81).body.getD .skip
noncomputable def impl_Disk_fault.rv : List ResultVar := (Try.f81).results.toList
noncomputable def impl_Disk_settle.s0 (c72 : (List Int) → Option (List Int)) (L0 : (Int × Int × (List (List Int)) × (List (Int × (List Int))) × Int × (List (Int × Int × Int)) × Bool) → Option ((List (List Int)) × (List (Int × (List Int))) × Int × (List (Int × Int × Int)) × Bool)) : (Int × Int × (List (List Int)) × (List (Int × (List Int))) × Int × (List (Int × Int × Int)) × Bool) → Option ((List (List Int)) × (List (Int × (List Int))) × Int × (List (Int × Int × Int)) × Bool)
  | (x0, x1, x2, x3, x4, x5, x6) =>
  bif decide (x1 < x0) then
   bif decide (0 ≤ x1) && decide (x1 < (List.length x3 : Int)) then
    Option.bind (c72 ((List.getD x3 (Int.toNat x1) ((0 : Int), ([] : List Int))).2)) fun r1 =>
     bif decide (0 ≤ ((List.getD x3 (Int.toNat x1) ((0 : Int), ([] : List Int))).1)) && decide (((List.getD x3 (Int.toNat x1) ((0 : Int), ([] : List Int))).1) < (List.length x2 : Int)) then
      L0 (x0, IntKind.wrap IntKind.i64 (x1 + (1 : Int)), List.set x2 (Int.toNat ((List.getD x3 (Int.toNat x1) ((0 : Int), ([] : List Int))).1)) r1, x3, x4, x5, x6)
     else
      none
   else
    none
  else
   some (x2, ([] : List (Int × (List Int))), x4, x5, x6)
noncomputable def impl_Disk_settle.ll0 : (Int × Int × (List (List Int)) × (List (Int × (List Int))) × Int × (List (Int × Int × Int)) × Bool) → LS
  | (x0, x1, x2, x3, x4, x5, x6) => ⟨[.addr 2 0 [] 0, .ref 2 1 [] none 0, .cv ⟨.int .i64, x0⟩, .cv ⟨.int .i64, x1⟩], [⟨false, [⟨0, 0, .mk 2 ⟨.row K2, x2⟩⟩, ⟨0, 0, .mk 1 ⟨.row K3, x3⟩⟩, ⟨0, 0, .mk 0 ⟨.int .i64, x4⟩⟩, ⟨0, 0, .mk 1 ⟨.row K0, x5⟩⟩, ⟨0, 0, .mk 0 ⟨.bool, x6⟩⟩]⟩]⟩
noncomputable def impl_Disk_settle.m (B0 : (Int × Int × (List (List Int)) × (List (Int × (List Int))) × Int × (List (Int × Int × Int)) × Bool) → Option ((List (List Int)) × (List (Int × (List Int))) × Int × (List (Int × Int × Int)) × Bool)) : ((List (List Int)) × (List (Int × (List Int))) × Int × (List (Int × Int × Int)) × Bool) → Option ((List (List Int)) × (List (Int × (List Int))) × Int × (List (Int × Int × Int)) × Bool)
  | (a0_0, a0_1, a0_2, a0_3, a0_4) =>
  B0 ((List.length a0_1 : Int), (0 : Int), a0_0, a0_1, a0_2, a0_3, a0_4)
noncomputable def impl_Disk_settle.sig : Sig := ⟨[.ptr [⟨.row K2, 2, 2, true⟩, ⟨.row K3, 1, 2, true⟩, ⟨.int .i64, 0, 0, true⟩, ⟨.row K0, 1, 1, true⟩, ⟨.bool, 0, 0, true⟩]], []⟩
noncomputable def impl_Disk_settle.hint : Nat → Hint
  | 0 => ⟨[(0, .keep), (7, .keep), (8, .keep), (9, .keep)], [(2, [2, 1, 0, 1, 0])]⟩
  | _ => ⟨[], []⟩
noncomputable def impl_Disk_settle.join : Nat → Option Hint
  | _ => none
noncomputable def impl_Disk_settle.body : Code := (Try.f83).body.getD .skip
noncomputable def impl_Disk_settle.rv : List ResultVar := (Try.f83).results.toList
noncomputable def impl_Disk_lose.s0 (c83 : (List (List Int)) × (List (Int × (List Int))) × Int × (List (Int × Int × Int)) × Bool → Option ((List (List Int)) × (List (Int × (List Int))) × Int × (List (Int × Int × Int)) × Bool)) (L0 : (Int × Int × (List (List Int)) × (List (Int × (List Int))) × Int × (List (Int × Int × Int)) × Bool × Int × Int × Int × (List (Int × (List Int)))) → Option ((List (List Int)) × (List (Int × (List Int))) × Int × (List (Int × Int × Int)) × Bool)) : (Int × Int × (List (List Int)) × (List (Int × (List Int))) × Int × (List (Int × Int × Int)) × Bool × Int × Int × Int × (List (Int × (List Int)))) → Option ((List (List Int)) × (List (Int × (List Int))) × Int × (List (Int × Int × Int)) × Bool)
  | (x0, x1, x2, x3, x4, x5, x6, x7, x8, x9, x10) =>
  bif decide (x1 < x0) then
   bif decide (0 ≤ x1) && decide (x1 < (List.length x3 : Int)) then
    bif decide (x1 < (20 : Int)) then
     bif decide (¬ x1 < 0) then
      bif (IntKind.wrap IntKind.i64 ((BitVec.ofInt (IntKind.bits IntKind.i64) (Int.fdiv x8 (2 ^ (min (Int.toNat x1) (IntKind.bits IntKind.i64)))) &&& BitVec.ofInt (IntKind.bits IntKind.i64) (1 : Int)).toNat : Int)) == (1 : Int) then
       bif decide ((List.length x10 + List.length ([((List.getD x3 (Int.toNat x1) ((0 : Int), ([] : List Int))).1, (List.getD x3 (Int.toNat x1) ((0 : Int), ([] : List Int))).2)] : List (Int × (List Int)))) * 32 ≤ 140737488355328) then
        L0 (x0, IntKind.wrap IntKind.i64 (x1 + (1 : Int)), x2, x3, x4, x5, x6, x7, x8, x9, x10 ++ ([((List.getD x3 (Int.toNat x1) ((0 : Int), ([] : List Int))).1, (List.getD x3 (Int.toNat x1) ((0 : Int), ([] : List Int))).2)] : List (Int × (List Int))))
       else
        none
      else
       L0 (x0, IntKind.wrap IntKind.i64 (x1 + (1 : Int)), x2, x3, x4, x5, x6, x7, x8, x9, x10)
     else
      none
    else
     L0 (x0, IntKind.wrap IntKind.i64 (x1 + (1 : Int)), x2, x3, x4, x5, x6, x7, x8, x9, x10)
   else
    none
  else
   bif decide ((List.length x10 : Int) > (0 : Int)) then
    bif decide (0 ≤ (IntKind.wrap IntKind.i64 ((List.length x10 : Int) - (1 : Int)))) && decide ((IntKind.wrap IntKind.i64 ((List.length x10 : Int) - (1 : Int))) < (List.length x10 : Int)) then
     bif decide (0 ≤ (0 : Int)) && decide ((0 : Int) ≤ (bif decide ((List.length ((List.getD x10 (Int.toNat (IntKind.wrap IntKind.i64 ((List.length x10 : Int) - (1 : Int)))) ((0 : Int), ([] : List Int))).2) : Int) < x9) then (List.length ((List.getD x10 (Int.toNat (IntKind.wrap IntKind.i64 ((List.length x10 : Int) - (1 : Int)))) ((0 : Int), ([] : List Int))).2) : Int) else x9)) && decide ((bif decide ((List.length ((List.getD x10 (Int.toNat (IntKind.wrap IntKind.i64 ((List.length x10 : Int) - (1 : Int)))) ((0 : Int), ([] : List Int))).2) : Int) < x9) then (List.length ((List.getD x10 (Int.toNat (IntKind.wrap IntKind.i64 ((List.length x10 : Int) - (1 : Int)))) ((0 : Int), ([] : List Int))).2) : Int) else x9) ≤ (List.length ((List.getD x10 (Int.toNat (IntKind.wrap IntKind.i64 ((List.length x10 : Int) - (1 : Int)))) ((0 : Int), ([] : List Int))).2) : Int)) then
      bif decide (0 ≤ (IntKind.wrap IntKind.i64 ((List.length x10 : Int) - (1 : Int)))) && decide ((IntKind.wrap IntKind.i64 ((List.length x10 : Int) - (1 : Int))) < (List.length x10 : Int)) then
       Option.bind (c83 (x2, List.set x10 (Int.toNat (IntKind.wrap IntKind.i64 ((List.length x10 : Int) - (1 : Int)))) ((List.getD x10 (Int.toNat (IntKind.wrap IntKind.i64 ((List.length x10 : Int) - (1 : Int)))) ((0 : Int), ([] : List Int))).1, List.drop (Int.toNat (0 : Int)) (List.take (Int.toNat (bif decide ((List.length ((List.getD x10 (Int.toNat (IntKind.wrap IntKind.i64 ((List.length x10 : Int) - (1 : Int)))) ((0 : Int), ([] : List Int))).2) : Int) < x9) then (List.length ((List.getD x10 (Int.toNat (IntKind.wrap IntKind.i64 ((List.length x10 : Int) - (1 : Int)))) ((0 : Int), ([] : List Int))).2) : Int) else x9)) ((List.getD x10 (Int.toNat (IntKind.wrap IntKind.i64 ((List.length x10 : Int) - (1 : Int)))) ((0 : Int), ([] : List Int))).2))), x4, x5, x6)) fun r1 =>
        some (r1.1, r1.2.1, r1.2.2.1, r1.2.2.2.1, true)
      else
       none
     else
      none
    else
     none
   else
    Option.bind (c83 (x2, x10, x4, x5, x6)) fun r2 =>
     some (r2.1, r2.2.1, r2.2.2.1, r2.2.2.2.1, true)
noncomputable def impl_Disk_lose.ll0 : (Int × Int × (List (List Int)) × (List (Int × (List Int))) × Int × (List (Int × Int × Int)) × Bool × Int × Int × Int × (List (Int × (List Int)))) → LS
  | (x0, x1, x2, x3, x4, x5, x6, x7, x8, x9, x10) => ⟨[.addr 2 0 [] 0, .addr 193 0 [] 0, .ref 16 0 [] none 0, .ref 2 1 [] none 0, .cv ⟨.int .i64, x0⟩, .cv ⟨.int .i64, x1⟩], [⟨false, [⟨0, 0, .mk 2 ⟨.row K2, x2⟩⟩, ⟨0, 0, .mk 1 ⟨.row K3, x3⟩⟩, ⟨0, 0, .mk 0 ⟨.int .i64, x4⟩⟩, ⟨0, 0, .mk 1 ⟨.row K0, x5⟩⟩, ⟨0, 0, .mk 0 ⟨.bool, x6⟩⟩]⟩, ⟨false, [⟨0, 0, .mk 0 ⟨.int .i64, x7⟩⟩, ⟨0, 0, .mk 0 ⟨.int .i64, x8⟩⟩, ⟨0, 0, .mk 0 ⟨.int .i64, x9⟩⟩]⟩, ⟨true, [⟨0, 0, .mk 1 ⟨.row K3, x10⟩⟩]⟩]⟩
noncomputable def impl_Disk_lose.m (B0 : (Int × Int × (List (List Int)) × (List (Int × (List Int))) × Int × (List (Int × Int × Int)) × Bool × Int × Int × Int × (List (Int × (List Int)))) → Option ((List (List Int)) × (List (Int × (List Int))) × Int × (List (Int × Int × Int)) × Bool)) : ((List (List Int)) × (List (Int × (List Int))) × Int × (List (Int × Int × Int)) × Bool × Int × Int × Int) → Option ((List (List Int)) × (List (Int × (List Int))) × Int × (List (Int × Int × Int)) × Bool)
  | (a0_0, a0_1, a0_2, a0_3, a0_4, a1_0, a1_1, a1_2) =>
  B0 ((List.length a0_1 : Int), (0 : Int), a0_0, a0_1, a0_2, a0_3, a0_4, a1_0, a1_1, a1_2, ([] : List (Int × (List Int))))
noncomputable def impl_Disk_lose.sig : Sig := ⟨[.ptr [⟨.row K2, 2, 2, true⟩, ⟨.row K3, 2, 2, true⟩, ⟨.int .i64, 0, 0, true⟩, ⟨.row K0, 1, 1, true⟩, ⟨.bool, 0, 0, true⟩], .val true [⟨.int .i64, 0, 0, false⟩, ⟨.int .i64, 0, 0, false⟩, ⟨.int .i64, 0, 0, false⟩]], []⟩
noncomputable def impl_Disk_lose.hint : Nat → Hint
  | 0 => ⟨[(0, .keep), (3, .keep), (4, .own 1 K3), (12, .keep), (13, .keep), (14, .keep)], [(2, [2, 1, 0, 1, 0]), (193, [0, 0, 0])]⟩
  | _ => ⟨[], []⟩
noncomputable def impl_Disk_lose.join : Nat → Option Hint
  | _ => none
noncomputable def impl_Disk_lose.body : Code := (Try.f82).body.getD .skip
noncomputable def impl_Disk_lose.rv : List ResultVar := (Try.f82).results.toList
noncomputable def impl_Flush.m (c17 : (List (List Int)) × (List (Int × (List Int))) × Int × (List (Int × Int × Int)) × Bool → Option (Bool)) (c78 : (List (List Int)) × (List (Int × (List Int))) × Int × (List (Int × Int × Int)) × Bool → Option ((List (List Int)) × (List (Int × (List Int))) × Int × (List (Int × Int × Int)) × Bool)) (c81 : (List (List Int)) × (List (Int × (List Int))) × Int × (List (Int × Int × Int)) × Bool → Option (Int × Int × Int × Bool × (List (List Int)) × (List (Int × (List Int))) × Int × (List (Int × Int × Int)) × Bool)) (c82 : (List (List Int)) × (List (Int × (List Int))) × Int × (List (Int × Int × Int)) × Bool × Int × Int × Int → Option ((List (List Int)) × (List (Int × (List Int))) × Int × (List (Int × Int × Int)) × Bool)) (c83 : (List (List Int)) × (List (Int × (List Int))) × Int × (List (Int × Int × Int)) × Bool → Option ((List (List Int)) × (List (Int × (List Int))) × Int × (List (Int × Int × Int)) × Bool)) : ((List (List Int)) × (List (Int × (List Int))) × Int × (List (Int × Int × Int)) × Bool) → Option ((List (List Int)) × (List (Int × (List Int))) × Int × (List (Int × Int × Int)) × Bool × Int)
  | (a0_0, a0_1, a0_2, a0_3, a0_4) =>
  Option.bind (c78 (a0_0, a0_1, a0_2, a0_3, a0_4)) fun r1 =>
   Option.bind (c17 (a0_0, a0_1, a0_2, a0_3, a0_4)) fun r2 =>
    bif !(r2) then
     some (r1.1, r1.2.1, r1.2.2.1, r1.2.2.2.1, r1.2.2.2.2, (1 : Int))
    else
     bif a0_4 then
      some (r1.1, r1.2.1, r1.2.2.1, r1.2.2.2.1, r1.2.2.2.2, (9 : Int))
     else
      bif decide (a0_2 ≥ (100000 : Int)) then
       some (r1.1, r1.2.1, r1.2.2.1, r1.2.2.2.1, r1.2.2.2.2, (9 : Int))
      else
       Option.bind (c81 (r1.1, r1.2.1, r1.2.2.1, r1.2.2.2.1, r1.2.2.2.2)) fun r3 =>
        bif r3.2.2.2.1 then
         Option.bind (c82 (r3.2.2.2.2.1, r3.2.2.2.2.2.1, IntKind.wrap IntKind.i64 (r3.2.2.2.2.2.2.1 + (1 : Int)), r3.2.2.2.2.2.2.2.1, r3.2.2.2.2.2.2.2.2, r3.1, r3.2.1, r3.2.2.1)) fun r4 =>
          some (r4.1, r4.2.1, r4.2.2.1, r4.2.2.2.1, r4.2.2.2.2, (9 : Int))
        else
         Option.bind (c83 (r3.2.2.2.2.1, r3.2.2.2.2.2.1, IntKind.wrap IntKind.i64 (r3.2.2.2.2.2.2.1 + (1 : Int)), r3.2.2.2.2.2.2.2.1, r3.2.2.2.2.2.2.2.2)) fun r5 =>
          some (r5.1, r5.2.1, r5.2.2.1, r5.2.2.2.1, r5.2.2.2.2, (0 : Int))
noncomputable def impl_Flush.sig : Sig := ⟨[.val true [⟨.row K2, 0, 0, false⟩, ⟨.row K3, 0, 0, false⟩, ⟨.int .i64, 0, 0, false⟩, ⟨.row K0, 0, 0, false⟩, ⟨.bool, 0, 0, false⟩]], [(.agg, [(.row K2, 2), (.row K3, 2), (.int .i64, 0), (.row K0, 1), (.bool, 0)]), (.one, [(.int .i64, 0)])]⟩
noncomputable def impl_Flush.hint : Nat → Hint
  | _ => ⟨[], []⟩
noncomputable def impl_Flush.join : Nat → Option Hint
  | _ => none
noncomputable def impl_Flush.body : Code := (Try.f41).body.getD .skip
noncomputable def impl_Flush.rv : List ResultVar := (Try.f41).results.toList
noncomputable def laws_sameDisk.s0 (c38 : (List Int) × (List Int) → Option (Bool)) (B2 : (Int × (List (List Int)) × (List (Int × (List Int))) × Int × (List (Int × Int × Int)) × Bool × (List (List Int)) × (List (Int × (List Int))) × Int × (List (Int × Int × Int)) × Bool) → Option (Bool)) (L0 : (Int × (List (List Int)) × (List (Int × (List Int))) × Int × (List (Int × Int × Int)) × Bool × (List (List Int)) × (List (Int × (List Int))) × Int × (List (Int × Int × Int)) × Bool) → Option (Bool)) : (Int × (List (List Int)) × (List (Int × (List Int))) × Int × (List (Int × Int × Int)) × Bool × (List (List Int)) × (List (Int × (List Int))) × Int × (List (Int × Int × Int)) × Bool) → Option (Bool)
  | (x0, x1, x2, x3, x4, x5, x6, x7, x8, x9, x10) =>
  bif decide (x0 < (List.length x1 : Int)) then
   bif decide (0 ≤ x0) && decide (x0 < (List.length x1 : Int)) then
    bif decide (0 ≤ x0) && decide (x0 < (List.length x6 : Int)) then
     Option.bind (c38 ((List.getD x1 (Int.toNat x0) ([] : List Int)), (List.getD x6 (Int.toNat x0) ([] : List Int)))) fun r1 =>
      bif !(r1) then
       some false
      else
       L0 (IntKind.wrap IntKind.i64 (x0 + (1 : Int)), x1, x2, x3, x4, x5, x6, x7, x8, x9, x10)
    else
     none
   else
    none
  else
   B2 ((0 : Int), x1, x2, x3, x4, x5, x6, x7, x8, x9, x10)
noncomputable def laws_sameDisk.ll0 : (Int × (List (List Int)) × (List (Int × (List Int))) × Int × (List (Int × Int × Int)) × Bool × (List (List Int)) × (List (Int × (List Int))) × Int × (List (Int × Int × Int)) × Bool) → LS
  | (x0, x1, x2, x3, x4, x5, x6, x7, x8, x9, x10) => ⟨[.addr 129 0 [] 0, .addr 193 0 [] 0, .cv ⟨.int .i64, x0⟩], [⟨false, [⟨0, 0, .mk 0 ⟨.row K2, x1⟩⟩, ⟨0, 0, .mk 0 ⟨.row K3, x2⟩⟩, ⟨0, 0, .mk 0 ⟨.int .i64, x3⟩⟩, ⟨0, 0, .mk 0 ⟨.row K0, x4⟩⟩, ⟨0, 0, .mk 0 ⟨.bool, x5⟩⟩]⟩, ⟨false, [⟨0, 0, .mk 0 ⟨.row K2, x6⟩⟩, ⟨0, 0, .mk 0 ⟨.row K3, x7⟩⟩, ⟨0, 0, .mk 0 ⟨.int .i64, x8⟩⟩, ⟨0, 0, .mk 0 ⟨.row K0, x9⟩⟩, ⟨0, 0, .mk 0 ⟨.bool, x10⟩⟩]⟩]⟩
noncomputable def laws_sameDisk.s2 (c38 : (List Int) × (List Int) → Option (Bool)) (L2 : (Int × (List (List Int)) × (List (Int × (List Int))) × Int × (List (Int × Int × Int)) × Bool × (List (List Int)) × (List (Int × (List Int))) × Int × (List (Int × Int × Int)) × Bool) → Option (Bool)) : (Int × (List (List Int)) × (List (Int × (List Int))) × Int × (List (Int × Int × Int)) × Bool × (List (List Int)) × (List (Int × (List Int))) × Int × (List (Int × Int × Int)) × Bool) → Option (Bool)
  | (x0, x1, x2, x3, x4, x5, x6, x7, x8, x9, x10) =>
  bif decide (x0 < (List.length x2 : Int)) then
   bif decide (0 ≤ x0) && decide (x0 < (List.length x2 : Int)) then
    bif decide (0 ≤ x0) && decide (x0 < (List.length x7 : Int)) then
     bif ((List.getD x2 (Int.toNat x0) ((0 : Int), ([] : List Int))).1) != ((List.getD x7 (Int.toNat x0) ((0 : Int), ([] : List Int))).1) then
      some false
     else
      bif decide (0 ≤ x0) && decide (x0 < (List.length x2 : Int)) then
       bif decide (0 ≤ x0) && decide (x0 < (List.length x7 : Int)) then
        Option.bind (c38 ((List.getD x2 (Int.toNat x0) ((0 : Int), ([] : List Int))).2, (List.getD x7 (Int.toNat x0) ((0 : Int), ([] : List Int))).2)) fun r2 =>
         bif !(r2) then
          some false
         else
          L2 (IntKind.wrap IntKind.i64 (x0 + (1 : Int)), x1, x2, x3, x4, x5, x6, x7, x8, x9, x10)
       else
        none
      else
       none
    else
     none
   else
    none
  else
   some true
noncomputable def laws_sameDisk.ll2 : (Int × (List (List Int)) × (List (Int × (List Int))) × Int × (List (Int × Int × Int)) × Bool × (List (List Int)) × (List (Int × (List Int))) × Int × (List (Int × Int × Int)) × Bool) → LS
  | (x0, x1, x2, x3, x4, x5, x6, x7, x8, x9, x10) => ⟨[.addr 129 0 [] 0, .addr 193 0 [] 0, .cv ⟨.int .i64, x0⟩], [⟨false, [⟨0, 0, .mk 0 ⟨.row K2, x1⟩⟩, ⟨0, 0, .mk 0 ⟨.row K3, x2⟩⟩, ⟨0, 0, .mk 0 ⟨.int .i64, x3⟩⟩, ⟨0, 0, .mk 0 ⟨.row K0, x4⟩⟩, ⟨0, 0, .mk 0 ⟨.bool, x5⟩⟩]⟩, ⟨false, [⟨0, 0, .mk 0 ⟨.row K2, x6⟩⟩, ⟨0, 0, .mk 0 ⟨.row K3, x7⟩⟩, ⟨0, 0, .mk 0 ⟨.int .i64, x8⟩⟩, ⟨0, 0, .mk 0 ⟨.row K0, x9⟩⟩, ⟨0, 0, .mk 0 ⟨.bool, x10⟩⟩]⟩]⟩
noncomputable def laws_sameDisk.m (B0 : (Int × (List (List Int)) × (List (Int × (List Int))) × Int × (List (Int × Int × Int)) × Bool × (List (List Int)) × (List (Int × (List Int))) × Int × (List (Int × Int × Int)) × Bool) → Option (Bool)) : ((List (List Int)) × (List (Int × (List Int))) × Int × (List (Int × Int × Int)) × Bool × (List (List Int)) × (List (Int × (List Int))) × Int × (List (Int × Int × Int)) × Bool) → Option (Bool)
  | (a0_0, a0_1, a0_2, a0_3, a0_4, a1_0, a1_1, a1_2, a1_3, a1_4) =>
  bif (List.length a0_0 : Int) != (List.length a1_0 : Int) then
   some false
  else
   bif (List.length a0_1 : Int) != (List.length a1_1 : Int) then
    some false
   else
    bif a0_2 != a1_2 then
     some false
    else
     bif !(a0_4 == a1_4) then
      some false
     else
      B0 ((0 : Int), a0_0, a0_1, a0_2, a0_3, a0_4, a1_0, a1_1, a1_2, a1_3, a1_4)
noncomputable def laws_sameDisk.sig : Sig := ⟨[.val true [⟨.row K2, 0, 0, false⟩, ⟨.row K3, 0, 0, false⟩, ⟨.int .i64, 0, 0, false⟩, ⟨.row K0, 0, 0, false⟩, ⟨.bool, 0, 0, false⟩], .val true [⟨.row K2, 0, 0, false⟩, ⟨.row K3, 0, 0, false⟩, ⟨.int .i64, 0, 0, false⟩, ⟨.row K0, 0, 0, false⟩, ⟨.bool, 0, 0, false⟩]], [(.one, [(.bool, 0)])]⟩
noncomputable def laws_sameDisk.hint : Nat → Hint
  | 0 => ⟨[(2, .keep), (3, .keep), (5, .keep)], [(129, [0, 0, 0, 0, 0]), (193, [0, 0, 0, 0, 0])]⟩
  | 2 => ⟨[(2, .keep), (3, .keep), (6, .keep)], [(129, [0, 0, 0, 0, 0]), (193, [0, 0, 0, 0, 0])]⟩
  | _ => ⟨[], []⟩
noncomputable def laws_sameDisk.join : Nat → Option Hint
  | _ => none
noncomputable def laws_sameDisk.body : Code := (Try.f43).body.getD .skip
noncomputable def laws_sameDisk.rv : List ResultVar := (Try.f43).results.toList
noncomputable def impl_WriteSec.m (c17 : (List (List Int)) × (List (Int × (List Int))) × Int × (List (Int × Int × Int)) × Bool → Option (Bool)) (c62 : Int × Int × Int → Option (Bool)) (c72 : (List Int) → Option (List Int)) (c78 : (List (List Int)) × (List (Int × (List Int))) × Int × (List (Int × Int × Int)) × Bool → Option ((List (List Int)) × (List (Int × (List Int))) × Int × (List (Int × Int × Int)) × Bool)) (c81 : (List (List Int)) × (List (Int × (List Int))) × Int × (List (Int × Int × Int)) × Bool → Option (Int × Int × Int × Bool × (List (List Int)) × (List (Int × (List Int))) × Int × (List (Int × Int × Int)) × Bool)) (c82 : (List (List Int)) × (List (Int × (List Int))) × Int × (List (Int × Int × Int)) × Bool × Int × Int × Int → Option ((List (List Int)) × (List (Int × (List Int))) × Int × (List (Int × Int × Int)) × Bool)) : ((List (List Int)) × (List (Int × (List Int))) × Int × (List (Int × Int × Int)) × Bool × Int × (List Int)) → Option ((List (List Int)) × (List (Int × (List Int))) × Int × (List (Int × Int × Int)) × Bool × Int)
  | (a0_0, a0_1, a0_2, a0_3, a0_4, a1_0, a2_0) =>
  Option.bind (c78 (a0_0, a0_1, a0_2, a0_3, a0_4)) fun r1 =>
   Option.bind (c17 (a0_0, a0_1, a0_2, a0_3, a0_4)) fun r2 =>
    bif !(r2) then
     some (r1.1, r1.2.1, r1.2.2.1, r1.2.2.2.1, r1.2.2.2.2, (1 : Int))
    else
     Option.bind (c62 (a1_0, (0 : Int), IntKind.wrap IntKind.i64 ((List.length a0_0 : Int) - (1 : Int)))) fun r3 =>
      bif !(r3) then
       some (r1.1, r1.2.1, r1.2.2.1, r1.2.2.2.1, r1.2.2.2.2, (1 : Int))
      else
       bif decide ((List.length a2_0 : Int) > (256 : Int)) then
        some (r1.1, r1.2.1, r1.2.2.1, r1.2.2.2.1, r1.2.2.2.2, (1 : Int))
       else
        bif decide ((List.length a0_1 : Int) ≥ (60 : Int)) then
         some (r1.1, r1.2.1, r1.2.2.1, r1.2.2.2.1, r1.2.2.2.2, (1 : Int))
        else
         bif a0_4 then
          some (r1.1, r1.2.1, r1.2.2.1, r1.2.2.2.1, r1.2.2.2.2, (9 : Int))
         else
          bif decide (a0_2 ≥ (100000 : Int)) then
           some (r1.1, r1.2.1, r1.2.2.1, r1.2.2.2.1, r1.2.2.2.2, (9 : Int))
          else
           Option.bind (c81 (r1.1, r1.2.1, r1.2.2.1, r1.2.2.2.1, r1.2.2.2.2)) fun r4 =>
            Option.bind (c72 a2_0) fun r5 =>
             bif decide ((List.length r4.2.2.2.2.2.1 + List.length ([(a1_0, r5)] : List (Int × (List Int)))) * 32 ≤ 140737488355328) then
              bif r4.2.2.2.1 then
               Option.bind (c82 (r4.2.2.2.2.1, r4.2.2.2.2.2.1 ++ ([(a1_0, r5)] : List (Int × (List Int))), IntKind.wrap IntKind.i64 (r4.2.2.2.2.2.2.1 + (1 : Int)), r4.2.2.2.2.2.2.2.1, r4.2.2.2.2.2.2.2.2, r4.1, r4.2.1, r4.2.2.1)) fun r6 =>
                some (r6.1, r6.2.1, r6.2.2.1, r6.2.2.2.1, r6.2.2.2.2, (9 : Int))
              else
               some (r4.2.2.2.2.1, r4.2.2.2.2.2.1 ++ ([(a1_0, r5)] : List (Int × (List Int))), IntKind.wrap IntKind.i64 (r4.2.2.2.2.2.2.1 + (1 : Int)), r4.2.2.2.2.2.2.2.1, r4.2.2.2.2.2.2.2.2, (0 : Int))
             else
              none
noncomputable def impl_WriteSec.sig : Sig := ⟨[.val true [⟨.row K2, 0, 0, false⟩, ⟨.row K3, 0, 0, false⟩, ⟨.int .i64, 0, 0, false⟩, ⟨.row K0, 0, 0, false⟩, ⟨.bool, 0, 0, false⟩], .val false [⟨.int .i64, 0, 0, false⟩], .val false [⟨.row K1, 0, 0, false⟩]], [(.agg, [(.row K2, 2), (.row K3, 2), (.int .i64, 0), (.row K0, 1), (.bool, 0)]), (.one, [(.int .i64, 0)])]⟩
noncomputable def impl_WriteSec.hint : Nat → Hint
  | _ => ⟨[], []⟩
noncomputable def impl_WriteSec.join : Nat → Option Hint
  | _ => none
noncomputable def impl_WriteSec.body : Code := (Try.f46).body.getD .skip
noncomputable def impl_WriteSec.rv : List ResultVar := (Try.f46).results.toList
noncomputable def spec_WriteSec.m (c15 : (List (List Int)) × (List (Int × (List Int))) × Int × (List (Int × Int × Int)) × Bool → Option (Bool)) (c58 : Int × Int × Int → Option (Bool)) (c80 : (List (List Int)) × (List (Int × (List Int))) × Int × (List (Int × Int × Int)) × Bool → Option ((List (List Int)) × (List (Int × (List Int))) × Int × (List (Int × Int × Int)) × Bool)) (c88 : (List (List Int)) × (List (Int × (List Int))) × Int × (List (Int × Int × Int)) × Bool × Int × (List Int) → Option (Int × (List (List Int)) × (List (Int × (List Int))) × Int × (List (Int × Int × Int)) × Bool)) : ((List (List Int)) × (List (Int × (List Int))) × Int × (List (Int × Int × Int)) × Bool × Int × (List Int)) → Option ((List (List Int)) × (List (Int × (List Int))) × Int × (List (Int × Int × Int)) × Bool × Int)
  | (a0_0, a0_1, a0_2, a0_3, a0_4, a1_0, a2_0) =>
  Option.bind (c80 (a0_0, a0_1, a0_2, a0_3, a0_4)) fun r1 =>
   Option.bind (c15 (a0_0, a0_1, a0_2, a0_3, a0_4)) fun r2 =>
    bif !(r2) then
     some (r1.1, r1.2.1, r1.2.2.1, r1.2.2.2.1, r1.2.2.2.2, (1 : Int))
    else
     Option.bind (c58 (a1_0, (0 : Int), IntKind.wrap IntKind.i64 ((List.length a0_0 : Int) - (1 : Int)))) fun r3 =>
      bif !(r3) then
       some (r1.1, r1.2.1, r1.2.2.1, r1.2.2.2.1, r1.2.2.2.2, (1 : Int))
      else
       bif decide ((List.length a2_0 : Int) > (256 : Int)) then
        some (r1.1, r1.2.1, r1.2.2.1, r1.2.2.2.1, r1.2.2.2.2, (1 : Int))
       else
        bif decide ((List.length a0_1 : Int) ≥ (60 : Int)) then
         some (r1.1, r1.2.1, r1.2.2.1, r1.2.2.2.1, r1.2.2.2.2, (1 : Int))
        else
         Option.bind (c88 (r1.1, r1.2.1, r1.2.2.1, r1.2.2.2.1, r1.2.2.2.2, a1_0, a2_0)) fun r4 =>
          some (r4.2.1, r4.2.2.1, r4.2.2.2.1, r4.2.2.2.2.1, r4.2.2.2.2.2, r4.1)
noncomputable def spec_WriteSec.sig : Sig := ⟨[.val true [⟨.row K2, 0, 0, false⟩, ⟨.row K3, 0, 0, false⟩, ⟨.int .i64, 0, 0, false⟩, ⟨.row K0, 0, 0, false⟩, ⟨.bool, 0, 0, false⟩], .val false [⟨.int .i64, 0, 0, false⟩], .val false [⟨.row K1, 0, 0, false⟩]], [(.agg, [(.row K2, 1), (.row K3, 1), (.int .i64, 0), (.row K0, 1), (.bool, 0)]), (.one, [(.int .i64, 0)])]⟩
noncomputable def spec_WriteSec.hint : Nat → Hint
  | _ => ⟨[], []⟩
noncomputable def spec_WriteSec.join : Nat → Option Hint
  | _ => none
noncomputable def spec_WriteSec.body : Code := (Try.f47).body.getD .skip
noncomputable def spec_WriteSec.rv : List ResultVar := (Try.f47).results.toList
noncomputable def laws_FnDisks.s0 (c17 : (List (List Int)) × (List (Int × (List Int))) × Int × (List (Int × Int × Int)) × Bool → Option (Bool)) (c28 : (List (List Int)) × (List (Int × (List Int))) × Int × (List (Int × Int × Int)) × Bool × Int → Option ((List Int) × Bool)) (c38 : (List Int) × (List Int) → Option (Bool)) (L0 : (Int × Bool × Int × Int × (List (List Int)) × (List (Int × (List Int))) × Int × (List (Int × Int × Int)) × Bool × (List (List Int)) × (List (Int × (List Int))) × Int × (List (Int × Int × Int)) × Bool × (List (List Int)) × (List (Int × (List Int))) × Int × (List (Int × Int × Int)) × Bool × (List Int) × (List Int)) → Option (Bool)) : (Int × Bool × Int × Int × (List (List Int)) × (List (Int × (List Int))) × Int × (List (Int × Int × Int)) × Bool × (List (List Int)) × (List (Int × (List Int))) × Int × (List (Int × Int × Int)) × Bool × (List (List Int)) × (List (Int × (List Int))) × Int × (List (Int × Int × Int)) × Bool × (List Int) × (List Int)) → Option (Bool)
  | (x0, x1, x2, x3, x4, x5, x6, x7, x8, x9, x10, x11, x12, x13, x14, x15, x16, x17, x18, x19, x20) =>
  bif decide (x3 < (List.length x4 : Int)) then
   Option.bind (c28 (x4, x5, x6, x7, x8, x3)) fun r10 =>
    Option.bind (c28 (x9, x10, x11, x12, x13, x3)) fun r11 =>
     Option.bind (c28 (x14, x15, x16, x17, x18, x3)) fun r12 =>
      bif x3 != x0 then
       Option.bind (c38 (r10.1, r11.1)) fun r13 =>
        bif !(r13) then
         some false
        else
         Option.bind (c38 (r11.1, r12.1)) fun r14 =>
          bif !(r14) then
           some false
          else
           L0 (x0, x1, x2, IntKind.wrap IntKind.i64 (x3 + (1 : Int)), x4, x5, x6, x7, x8, x9, x10, x11, x12, x13, x14, x15, x16, x17, x18, x19, x20)
      else
       Option.bind (c38 (r11.1, r12.1)) fun r15 =>
        bif !(r15) then
         some false
        else
         L0 (x0, x1, x2, IntKind.wrap IntKind.i64 (x3 + (1 : Int)), x4, x5, x6, x7, x8, x9, x10, x11, x12, x13, x14, x15, x16, x17, x18, x19, x20)
  else
   bif x1 then
    Option.bind (c38 (x20, x19)) fun r16 =>
     bif r16 then
      Option.bind (c17 (x9, x10, x11, x12, x13)) fun r17 =>
       bif r17 then
        bif x2 == (0 : Int) then
         bif (List.length x15 : Int) == (0 : Int) then
          bif decide (0 ≤ x0) && decide (x0 < (List.length x14 : Int)) then
           Option.bind (c38 ((List.getD x14 (Int.toNat x0) ([] : List Int)), x19)) fun r18 =>
            bif r18 then
             some true
            else
             some (x2 == (9 : Int))
          else
           none
         else
          some (x2 == (9 : Int))
        else
         some (x2 == (9 : Int))
       else
        some false
     else
      some false
   else
    some false
noncomputable def laws_FnDisks.ll0 : (Int × Bool × Int × Int × (List (List Int)) × (List (Int × (List Int))) × Int × (List (Int × Int × Int)) × Bool × (List (List Int)) × (List (Int × (List Int))) × Int × (List (Int × Int × Int)) × Bool × (List (List Int)) × (List (Int × (List Int))) × Int × (List (Int × Int × Int)) × Bool × (List Int) × (List Int)) → LS
  | (x0, x1, x2, x3, x4, x5, x6, x7, x8, x9, x10, x11, x12, x13, x14, x15, x16, x17, x18, x19, x20) => ⟨[.addr 193 0 [] 0, .cv ⟨.int .i64, x0⟩, .ref 20 0 [] none 0, .addr 385 0 [] 0, .ref 40 0 [] none 0, .cv ⟨.bool, x1⟩, .addr 769 0 [] 0, .cv ⟨.int .i64, x2⟩, .cv ⟨.int .i64, x3⟩], [⟨false, [⟨0, 0, .mk 0 ⟨.row K2, x4⟩⟩, ⟨0, 0, .mk 0 ⟨.row K3, x5⟩⟩, ⟨0, 0, .mk 0 ⟨.int .i64, x6⟩⟩, ⟨0, 0, .mk 0 ⟨.row K0, x7⟩⟩, ⟨0, 0, .mk 0 ⟨.bool, x8⟩⟩]⟩, ⟨false, [⟨0, 0, .mk 2 ⟨.row K2, x9⟩⟩, ⟨0, 0, .mk 2 ⟨.row K3, x10⟩⟩, ⟨0, 0, .mk 0 ⟨.int .i64, x11⟩⟩, ⟨0, 0, .mk 9 ⟨.row K0, x12⟩⟩, ⟨0, 0, .mk 0 ⟨.bool, x13⟩⟩]⟩, ⟨false, [⟨0, 0, .mk 2 ⟨.row K2, x14⟩⟩, ⟨0, 0, .mk 2 ⟨.row K3, x15⟩⟩, ⟨0, 0, .mk 0 ⟨.int .i64, x16⟩⟩, ⟨0, 0, .mk 1 ⟨.row K0, x17⟩⟩, ⟨0, 0, .mk 0 ⟨.bool, x18⟩⟩]⟩, ⟨true, [⟨0, 0, .mk 0 ⟨.row K1, x19⟩⟩]⟩, ⟨true, [⟨0, 0, .mk 1 ⟨.row K1, x20⟩⟩]⟩]⟩
noncomputable def laws_FnDisks.m (c17 : (List (List Int)) × (List (Int × (List Int))) × Int × (List (Int × Int × Int)) × Bool → Option (Bool)) (c28 : (List (List Int)) × (List (Int × (List Int))) × Int × (List (Int × Int × Int)) × Bool × Int → Option ((List Int) × Bool)) (c32 : (List Int) → Option (Bool)) (c41 : (List (List Int)) × (List (Int × (List Int))) × Int × (List (Int × Int × Int)) × Bool → Option ((List (List Int)) × (List (Int × (List Int))) × Int × (List (Int × Int × Int)) × Bool × Int)) (c43 : (List (List Int)) × (List (Int × (List Int))) × Int × (List (Int × Int × Int)) × Bool × (List (List Int)) × (List (Int × (List Int))) × Int × (List (Int × Int × Int)) × Bool → Option (Bool)) (c45 : (List Int) → Option ((List (List Int)) × (List (Int × (List Int))) × Int × (List (Int × Int × Int)) × Bool × Int × (List Int))) (c46 : (List (List Int)) × (List (Int × (List Int))) × Int × (List (Int × Int × Int)) × Bool × Int × (List Int) → Option ((List (List Int)) × (List (Int × (List Int))) × Int × (List (Int × Int × Int)) × Bool × Int)) (c47 : (List (List Int)) × (List (Int × (List Int))) × Int × (List (Int × Int × Int)) × Bool × Int × (List Int) → Option ((List (List Int)) × (List (Int × (List Int))) × Int × (List (Int × Int × Int)) × Bool × Int)) (B0 : (Int × Bool × Int × Int × (List (List Int)) × (List (Int × (List Int))) × Int × (List (Int × Int × Int)) × Bool × (List (List Int)) × (List (Int × (List Int))) × Int × (List (Int × Int × Int)) × Bool × (List (List Int)) × (List (Int × (List Int))) × Int × (List (Int × Int × Int)) × Bool × (List Int) × (List Int)) → Option (Bool)) : (List Int) → Option (Bool)
  | a0_0 =>
  Option.bind (c32 a0_0) fun r1 =>
   bif r1 then
    some true
   else
    Option.bind (c45 a0_0) fun r2 =>
     Option.bind (c46 (r2.1, r2.2.1, r2.2.2.1, r2.2.2.2.1, r2.2.2.2.2.1, r2.2.2.2.2.2.1, r2.2.2.2.2.2.2)) fun r3 =>
      Option.bind (c47 (r2.1, r2.2.1, r2.2.2.1, r2.2.2.2.1, r2.2.2.2.2.1, r2.2.2.2.2.2.1, r2.2.2.2.2.2.2)) fun r4 =>
       bif r3.2.2.2.2.2 != r4.2.2.2.2.2 then
        some false
       else
        Option.bind (c43 (r3.1, r3.2.1, r3.2.2.1, r3.2.2.2.1, r3.2.2.2.2.1, r4.1, r4.2.1, r4.2.2.1, r4.2.2.2.1, r4.2.2.2.2.1)) fun r5 =>
         bif !(r5) then
          some false
         else
          bif r3.2.2.1 == r2.2.2.1 then
           Option.bind (c43 (r3.1, r3.2.1, r3.2.2.1, r3.2.2.2.1, r3.2.2.2.2.1, r2.1, r2.2.1, r2.2.2.1, r2.2.2.2.1, r2.2.2.2.2.1)) fun r6 =>
            bif r6 then
             some (r3.2.2.2.2.2 != (0 : Int))
            else
             some false
          else
           bif r3.2.2.2.2.2 != (0 : Int) then
            bif r3.2.2.2.2.2 == (9 : Int) then
             bif r3.2.2.2.2.1 then
              bif (List.length r3.2.1 : Int) == (0 : Int) then
               Option.bind (c17 (r3.1, r3.2.1, r3.2.2.1, r3.2.2.2.1, r3.2.2.2.2.1)) fun r7 =>
                some r7
              else
               some false
             else
              some false
            else
             some false
           else
            Option.bind (c28 (r3.1, r3.2.1, r3.2.2.1, r3.2.2.2.1, r3.2.2.2.2.1, r2.2.2.2.2.2.1)) fun r8 =>
             Option.bind (c41 (r3.1, r3.2.1, r3.2.2.1, ([] : List (Int × Int × Int)), r3.2.2.2.2.1)) fun r9 =>
              B0 (r2.2.2.2.2.2.1, r8.2, r9.2.2.2.2.2, (0 : Int), r2.1, r2.2.1, r2.2.2.1, r2.2.2.2.1, r2.2.2.2.2.1, r3.1, r3.2.1, r3.2.2.1, ([] : List (Int × Int × Int)), r3.2.2.2.2.1, r9.1, r9.2.1, r9.2.2.1, r9.2.2.2.1, r9.2.2.2.2.1, r2.2.2.2.2.2.2, r8.1)
noncomputable def laws_FnDisks.sig : Sig := ⟨[.val false [⟨.row K1, 0, 0, false⟩]], [(.one, [(.bool, 0)])]⟩
noncomputable def laws_FnDisks.hint : Nat → Hint
  | 0 => ⟨[(3, .keep), (4, .keep), (5, .own 0 K1), (6, .keep), (10, .own 1 K1), (11, .keep), (12, .keep), (13, .keep), (14, .keep)], [(193, [0, 0, 0, 0, 0]), (385, [2, 2, 0, 9, 0]), (769, [2, 2, 0, 1, 0])]⟩
  | _ => ⟨[], []⟩
noncomputable def laws_FnDisks.join : Nat → Option Hint
  | _ => none
noncomputable def laws_FnDisks.body : Code := (Try.f9).body.getD .skip
noncomputable def laws_FnDisks.rv : List ResultVar := (Try.f9).results.toList
noncomputable def fns : Nat → Fn
  | 58 => ⟨15, spec_l1In.sig, spec_l1In.rv, spec_l1In.body, spec_l1In.hint, spec_l1In.join⟩
  | 59 => ⟨56, spec_l12Faults.sig, spec_l12Faults.rv, spec_l12Faults.body, spec_l12Faults.hint, spec_l12Faults.join⟩
  | 15 => ⟨79, spec_DiskOk.sig, spec_DiskOk.rv, spec_DiskOk.body, spec_DiskOk.hint, spec_DiskOk.join⟩
  | 62 => ⟨15, impl_in.sig, impl_in.rv, impl_in.body, impl_in.hint, impl_in.join⟩
  | 17 => ⟨116, impl_DiskOk.sig, impl_DiskOk.rv, impl_DiskOk.body, impl_DiskOk.hint, impl_DiskOk.join⟩
  | 20 => ⟨32, spec_DiskNew.sig, spec_DiskNew.rv, spec_DiskNew.body, spec_DiskNew.hint, spec_DiskNew.join⟩
  | 72 => ⟨5, impl_copyBytes.sig, impl_copyBytes.rv, impl_copyBytes.body, impl_copyBytes.hint, impl_copyBytes.join⟩
  | 28 => ⟨43, impl_ReadSec.sig, impl_ReadSec.rv, impl_ReadSec.body, impl_ReadSec.hint, impl_ReadSec.join⟩
  | 32 => ⟨6, laws_big.sig, laws_big.rv, laws_big.body, laws_big.hint, laws_big.join⟩
  | 73 => ⟨32, spec_l1New.sig, spec_l1New.rv, spec_l1New.body, spec_l1New.hint, spec_l1New.join⟩
  | 108 => ⟨58, spec_l1Byte.sig, spec_l1Byte.rv, spec_l1Byte.body, spec_l1Byte.hint, spec_l1Byte.join⟩
  | 87 => ⟨31, spec_l1Below.sig, spec_l1Below.rv, spec_l1Below.body, spec_l1Below.hint, spec_l1Below.join⟩
  | 76 => ⟨12, spec_l1Int.sig, spec_l1Int.rv, spec_l1Int.body, spec_l1Int.hint, spec_l1Int.join⟩
  | 74 => ⟨33, spec_l12FaultList.sig, spec_l12FaultList.rv, spec_l12FaultList.body, spec_l12FaultList.hint, spec_l12FaultList.join⟩
  | 75 => ⟨9, spec_l1Once.sig, spec_l1Once.rv, spec_l1Once.body, spec_l1Once.hint, spec_l1Once.join⟩
  | 107 => ⟨20, spec_l1Bytes.sig, spec_l1Bytes.rv, spec_l1Bytes.body, spec_l1Bytes.hint, spec_l1Bytes.join⟩
  | 86 => ⟨8, spec_l1Some.sig, spec_l1Some.rv, spec_l1Some.body, spec_l1Some.hint, spec_l1Some.join⟩
  | 105 => ⟨27, spec_l12Fault.sig, spec_l12Fault.rv, spec_l12Fault.body, spec_l12Fault.hint, spec_l12Fault.join⟩
  | 106 => ⟨83, spec_l12Lose.sig, spec_l12Lose.rv, spec_l12Lose.body, spec_l12Lose.hint, spec_l12Lose.join⟩
  | 85 => ⟨70, spec_l12Flush.sig, spec_l12Flush.rv, spec_l12Flush.body, spec_l12Flush.hint, spec_l12Flush.join⟩
  | 88 => ⟨59, spec_l12Write.sig, spec_l12Write.rv, spec_l12Write.body, spec_l12Write.hint, spec_l12Write.join⟩
  | 97 => ⟨34, spec_l12Draw.sig, spec_l12Draw.rv, spec_l12Draw.body, spec_l12Draw.hint, spec_l12Draw.join⟩
  | 77 => ⟨73, spec_l12Any.sig, spec_l12Any.rv, spec_l12Any.body, spec_l12Any.hint, spec_l12Any.join⟩
  | 78 => ⟨48, impl_copyDisk.sig, impl_copyDisk.rv, impl_copyDisk.body, impl_copyDisk.hint, impl_copyDisk.join⟩
  | 79 => ⟨6, spec_l12N.sig, spec_l12N.rv, spec_l12N.body, spec_l12N.hint, spec_l12N.join⟩
  | 38 => ⟨26, laws_sameBytes.sig, laws_sameBytes.rv, laws_sameBytes.body, laws_sameBytes.hint, laws_sameBytes.join⟩
  | 80 => ⟨62, spec_l12Copy.sig, spec_l12Copy.rv, spec_l12Copy.body, spec_l12Copy.hint, spec_l12Copy.join⟩
  | 45 => ⟨35, spec_DrawWriteSec.sig, spec_DrawWriteSec.rv, spec_DrawWriteSec.body, spec_DrawWriteSec.hint, spec_DrawWriteSec.join⟩
  | 81 => ⟨25, impl_Disk_fault.sig, impl_Disk_fault.rv, impl_Disk_fault.body, impl_Disk_fault.hint, impl_Disk_fault.join⟩
  | 83 => ⟨27, impl_Disk_settle.sig, impl_Disk_settle.rv, impl_Disk_settle.body, impl_Disk_settle.hint, impl_Disk_settle.join⟩
  | 82 => ⟨66, impl_Disk_lose.sig, impl_Disk_lose.rv, impl_Disk_lose.body, impl_Disk_lose.hint, impl_Disk_lose.join⟩
  | 41 => ⟨35, impl_Flush.sig, impl_Flush.rv, impl_Flush.body, impl_Flush.hint, impl_Flush.join⟩
  | 43 => ⟨92, laws_sameDisk.sig, laws_sameDisk.rv, laws_sameDisk.body, laws_sameDisk.hint, laws_sameDisk.join⟩
  | 46 => ⟨67, impl_WriteSec.sig, impl_WriteSec.rv, impl_WriteSec.body, impl_WriteSec.hint, impl_WriteSec.join⟩
  | 47 => ⟨41, spec_WriteSec.sig, spec_WriteSec.rv, spec_WriteSec.body, spec_WriteSec.hint, spec_WriteSec.join⟩
  | 9 => ⟨168, laws_FnDisks.sig, laws_FnDisks.rv, laws_FnDisks.body, laws_FnDisks.hint, laws_FnDisks.join⟩
  | _ => ⟨0, ⟨[], []⟩, [], .refuse "", fun _ => ⟨[], []⟩, fun _ => none⟩
noncomputable def sigs (f : Nat) : Sig := (fns f).sig
end
end Go.PV.T
