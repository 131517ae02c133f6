/- Functions of the program by their own lists and numbers. No condition beyond those in each statement. -/
import Derived.Test.YthpiinnmmdaloaaPvLibD
import Derived.Test.YthpiinnmmdaloaaProg
import Derived.KernelRfl
set_option maxRecDepth 100000
set_option linter.unusedVariables false
namespace Go.PV.T
open Go.Proofs
noncomputable section
abbrev K0 : SS := .one (.int .u8)
noncomputable def eqts (t : Nat) : Bool := memN t []
noncomputable def tys : Nat → TyI
  | 3 => .cell (.int .i64) 0
  | 4 => .cell (.bool) 0
  | 5 => .cell (.int .u8) 0
  | 9 => .cell (.str) 0
  | 29 => .cell (.row K0) 1
  | 57 => .cell (.int .u64) 0
  | 143 => .cell (.int .u32) 0
  | _ => .no
noncomputable def spec_l1In.m  : (Int × Int × Int) → Option (Bool)
  | (a0_0, a1_0, a2_0) =>
  bif decide (a0_0 ≥ a1_0) then
   some (decide (a0_0 ≤ a2_0))
  else
   some false
noncomputable def spec_l1In.sig : Sig := ⟨[.val false [⟨.int .i64, 0, 0, false⟩], .val false [⟨.int .i64, 0, 0, false⟩], .val false [⟨.int .i64, 0, 0, false⟩]], [(.one, [(.bool, 0)])]⟩
noncomputable def spec_l1In.hint : Nat → Hint
  | _ => ⟨[], []⟩
noncomputable def spec_l1In.join : Nat → Option Hint
  | _ => none
noncomputable def spec_l1In.body : Code := (Try.f65).body.getD .skip
noncomputable def spec_l1In.rv : List ResultVar := (Try.f65).results.toList
noncomputable def impl_in.m  : (Int × Int × Int) → Option (Bool)
  | (a0_0, a1_0, a2_0) =>
  bif decide (a0_0 ≥ a1_0) then
   some (decide (a0_0 ≤ a2_0))
  else
   some false
noncomputable def impl_in.sig : Sig := ⟨[.val false [⟨.int .i64, 0, 0, false⟩], .val false [⟨.int .i64, 0, 0, false⟩], .val false [⟨.int .i64, 0, 0, false⟩]], [(.one, [(.bool, 0)])]⟩
noncomputable def impl_in.hint : Nat → Hint
  | _ => ⟨[], []⟩
noncomputable def impl_in.join : Nat → Option Hint
  | _ => none
noncomputable def impl_in.body : Code := (Try.f69).body.getD .skip
noncomputable def impl_in.rv : List ResultVar := (Try.f69).results.toList
noncomputable def spec_Crc.s0 (B2 : ((List Int) × Int × Int × Int) → Option (Int)) (L0 : ((List Int) × Int × Int) → Option (Int)) : ((List Int) × Int × Int) → Option (Int)
  | (x0, x1, x2) =>
  bif decide (x2 < (List.length x0 : Int)) then
   bif decide (0 ≤ x2) && decide (x2 < (List.length x0 : Int)) then
    B2 (x0, IntKind.wrap IntKind.i64 ((BitVec.ofInt (IntKind.bits IntKind.i64) x1 ^^^ BitVec.ofInt (IntKind.bits IntKind.i64) (IntKind.wrap IntKind.i64 (List.getD x0 (Int.toNat x2) (0 : Int)))).toNat : Int), x2, (0 : Int))
   else
    none
  else
   some (IntKind.wrap IntKind.i64 ((BitVec.ofInt (IntKind.bits IntKind.i64) x1 ^^^ BitVec.ofInt (IntKind.bits IntKind.i64) (4294967295 : Int)).toNat : Int))
noncomputable def spec_Crc.ll0 : ((List Int) × Int × Int) → LS
  | (x0, x1, x2) => ⟨[.cv ⟨.row K0, x0⟩, .cv ⟨.int .i64, x1⟩, .cv ⟨.int .i64, x2⟩], []⟩
noncomputable def spec_Crc.s2 (L0 : ((List Int) × Int × Int) → Option (Int)) (L2 : ((List Int) × Int × Int × Int) → Option (Int)) : ((List Int) × Int × Int × Int) → Option (Int)
  | (x0, x1, x2, x3) =>
  bif decide (x3 < (8 : Int)) then
   bif decide (¬ (1 : Int) < 0) then
    bif (IntKind.wrap IntKind.i64 ((BitVec.ofInt (IntKind.bits IntKind.i64) x1 &&& BitVec.ofInt (IntKind.bits IntKind.i64) (1 : Int)).toNat : Int)) == (1 : Int) then
     L2 (x0, IntKind.wrap IntKind.i64 ((BitVec.ofInt (IntKind.bits IntKind.i64) (Int.fdiv x1 (2 ^ (min (Int.toNat (1 : Int)) (IntKind.bits IntKind.i64)))) ^^^ BitVec.ofInt (IntKind.bits IntKind.i64) (2197175160 : Int)).toNat : Int), x2, IntKind.wrap IntKind.i64 (x3 + (1 : Int)))
    else
     L2 (x0, Int.fdiv x1 (2 ^ (min (Int.toNat (1 : Int)) (IntKind.bits IntKind.i64))), x2, IntKind.wrap IntKind.i64 (x3 + (1 : Int)))
   else
    none
  else
   L0 (x0, x1, IntKind.wrap IntKind.i64 (x2 + (1 : Int)))
noncomputable def spec_Crc.ll2 : ((List Int) × Int × Int × Int) → LS
  | (x0, x1, x2, x3) => ⟨[.cv ⟨.row K0, x0⟩, .cv ⟨.int .i64, x1⟩, .cv ⟨.int .i64, x2⟩, .cv ⟨.int .i64, x3⟩], []⟩
noncomputable def spec_Crc.m (B0 : ((List Int) × Int × Int) → Option (Int)) : (List Int) → Option (Int)
  | a0_0 =>
  B0 (a0_0, (4294967295 : Int), (0 : Int))
noncomputable def spec_Crc.sig : Sig := ⟨[.val false [⟨.row K0, 0, 0, false⟩]], [(.one, [(.int .i64, 0)])]⟩
noncomputable def spec_Crc.hint : Nat → Hint
  | 0 => ⟨[(0, .keep), (3, .keep), (4, .keep)], []⟩
  | 2 => ⟨[(0, .keep), (3, .keep), (4, .keep), (5, .keep)], []⟩
  | _ => ⟨[], []⟩
noncomputable def spec_Crc.join : Nat → Option Hint
  | _ => none
noncomputable def spec_Crc.body : Code := (Try.f117).body.getD .skip
noncomputable def spec_Crc.rv : List ResultVar := (Try.f117).results.toList
noncomputable def laws_toByteS.s0 (L0 : ((List Int) × Int × (List Int)) → Option (List Int)) : ((List Int) × Int × (List Int)) → Option (List Int)
  | (x0, x1, x2) =>
  bif decide (x1 < (List.length x0 : Int)) then
   bif decide (0 ≤ x1) && decide (x1 < (List.length x0 : Int)) then
    bif decide (0 ≤ x1) && decide (x1 < (List.length x2 : Int)) then
     L0 (x0, IntKind.wrap IntKind.i64 (x1 + (1 : Int)), List.set x2 (Int.toNat x1) (List.getD x0 (Int.toNat x1) (0 : Int)))
    else
     none
   else
    none
  else
   some x2
noncomputable def laws_toByteS.ll0 : ((List Int) × Int × (List Int)) → LS
  | (x0, x1, x2) => ⟨[.cv ⟨.row K0, x0⟩, .ref 12 0 [] none 0, .cv ⟨.int .i64, x1⟩], [⟨true, [⟨0, 0, .mk 9 ⟨.row K0, x2⟩⟩]⟩]⟩
noncomputable def laws_toByteS.m (B0 : ((List Int) × Int × (List Int)) → Option (List Int)) : (List Int) → Option (List Int)
  | a0_0 =>
  bif decide (0 ≤ (List.length a0_0 : Int)) && decide ((List.length a0_0 : Int) ≤ (List.length a0_0 : Int)) && decide ((List.length a0_0 : Int) * 1 ≤ 140737488355328) then
   B0 (a0_0, (0 : Int), List.replicate (Int.toNat (List.length a0_0 : Int)) (0 : Int))
  else
   none
noncomputable def laws_toByteS.sig : Sig := ⟨[.val false [⟨.row K0, 0, 0, false⟩]], [(.one, [(.row K0, 1)])]⟩
noncomputable def laws_toByteS.hint : Nat → Hint
  | 0 => ⟨[(0, .keep), (3, .own 9 K0), (4, .keep)], []⟩
  | _ => ⟨[], []⟩
noncomputable def laws_toByteS.join : Nat → Option Hint
  | _ => none
noncomputable def laws_toByteS.body : Code := (Try.f20).body.getD .skip
noncomputable def laws_toByteS.rv : List ResultVar := (Try.f20).results.toList
noncomputable def impl_Crc.s0 (B2 : (Int × (List Int) × Int × Int × Int) → Option (Int)) (L0 : (Int × (List Int) × Int × Int) → Option (Int)) : (Int × (List Int) × Int × Int) → Option (Int)
  | (x0, x1, x2, x3) =>
  bif decide (x3 < x2) then
   bif decide (0 ≤ x3) && decide (x3 < (List.length x1 : Int)) then
    B2 (IntKind.wrap IntKind.u32 ((BitVec.ofInt (IntKind.bits IntKind.u32) x0 ^^^ BitVec.ofInt (IntKind.bits IntKind.u32) (IntKind.wrap IntKind.u32 (List.getD x1 (Int.toNat x3) (0 : Int)))).toNat : Int), x1, x2, x3, (0 : Int))
   else
    none
  else
   some (IntKind.wrap IntKind.i64 (IntKind.wrap IntKind.u32 ((BitVec.ofInt (IntKind.bits IntKind.u32) (if IntKind.signed IntKind.u32 then -1 else IntKind.max IntKind.u32) ^^^ BitVec.ofInt (IntKind.bits IntKind.u32) x0).toNat : Int)))
noncomputable def impl_Crc.ll0 : (Int × (List Int) × Int × Int) → LS
  | (x0, x1, x2, x3) => ⟨[.cv ⟨.int .u32, x0⟩, .cv ⟨.row K0, x1⟩, .cv ⟨.int .i64, x2⟩, .cv ⟨.int .i64, x3⟩], []⟩
noncomputable def impl_Crc.s2 (L0 : (Int × (List Int) × Int × Int) → Option (Int)) (L2 : (Int × (List Int) × Int × Int × Int) → Option (Int)) : (Int × (List Int) × Int × Int × Int) → Option (Int)
  | (x0, x1, x2, x3, x4) =>
  bif decide (x4 < (8 : Int)) then
   bif decide (¬ (1 : Int) < 0) then
    bif (IntKind.wrap IntKind.u32 ((BitVec.ofInt (IntKind.bits IntKind.u32) x0 &&& BitVec.ofInt (IntKind.bits IntKind.u32) (1 : Int)).toNat : Int)) == (1 : Int) then
     L2 (IntKind.wrap IntKind.u32 ((BitVec.ofInt (IntKind.bits IntKind.u32) (Int.fdiv x0 (2 ^ (min (Int.toNat (1 : Int)) (IntKind.bits IntKind.u32)))) ^^^ BitVec.ofInt (IntKind.bits IntKind.u32) (2197175160 : Int)).toNat : Int), x1, x2, x3, IntKind.wrap IntKind.i64 (x4 + (1 : Int)))
    else
     L2 (Int.fdiv x0 (2 ^ (min (Int.toNat (1 : Int)) (IntKind.bits IntKind.u32))), x1, x2, x3, IntKind.wrap IntKind.i64 (x4 + (1 : Int)))
   else
    none
  else
   L0 (x0, x1, x2, IntKind.wrap IntKind.i64 (x3 + (1 : Int)))
noncomputable def impl_Crc.ll2 : (Int × (List Int) × Int × Int × Int) → LS
  | (x0, x1, x2, x3, x4) => ⟨[.cv ⟨.int .u32, x0⟩, .cv ⟨.row K0, x1⟩, .cv ⟨.int .i64, x2⟩, .cv ⟨.int .i64, x3⟩, .cv ⟨.int .i64, x4⟩], []⟩
noncomputable def impl_Crc.m (B0 : (Int × (List Int) × Int × Int) → Option (Int)) : (List Int) → Option (Int)
  | a0_0 =>
  B0 ((4294967295 : Int), a0_0, (List.length a0_0 : Int), (0 : Int))
noncomputable def impl_Crc.sig : Sig := ⟨[.val false [⟨.row K0, 0, 0, false⟩]], [(.one, [(.int .i64, 0)])]⟩
noncomputable def impl_Crc.hint : Nat → Hint
  | 0 => ⟨[(3, .keep), (7, .keep), (8, .keep), (9, .keep)], []⟩
  | 2 => ⟨[(3, .keep), (7, .keep), (8, .keep), (9, .keep), (17, .keep)], []⟩
  | _ => ⟨[], []⟩
noncomputable def impl_Crc.join : Nat → Option Hint
  | _ => none
noncomputable def impl_Crc.body : Code := (Try.f118).body.getD .skip
noncomputable def impl_Crc.rv : List ResultVar := (Try.f118).results.toList
noncomputable def impl_addSum.m (c118 : (List Int) → Option (Int)) : (List Int) → Option (List Int)
  | a0_0 =>
  Option.bind (c118 a0_0) fun r1 =>
   bif decide (¬ (24 : Int) < 0) then
    bif decide (¬ (16 : Int) < 0) then
     bif decide (¬ (8 : Int) < 0) then
      bif decide ((List.length a0_0 + List.length ([IntKind.wrap IntKind.u8 (Int.fdiv r1 (2 ^ (min (Int.toNat (24 : Int)) (IntKind.bits IntKind.i64)))), IntKind.wrap IntKind.u8 (Int.fdiv r1 (2 ^ (min (Int.toNat (16 : Int)) (IntKind.bits IntKind.i64)))), IntKind.wrap IntKind.u8 (Int.fdiv r1 (2 ^ (min (Int.toNat (8 : Int)) (IntKind.bits IntKind.i64)))), IntKind.wrap IntKind.u8 r1] : List Int)) * 1 ≤ 140737488355328) then
       some (a0_0 ++ ([IntKind.wrap IntKind.u8 (Int.fdiv r1 (2 ^ (min (Int.toNat (24 : Int)) (IntKind.bits IntKind.i64)))), IntKind.wrap IntKind.u8 (Int.fdiv r1 (2 ^ (min (Int.toNat (16 : Int)) (IntKind.bits IntKind.i64)))), IntKind.wrap IntKind.u8 (Int.fdiv r1 (2 ^ (min (Int.toNat (8 : Int)) (IntKind.bits IntKind.i64)))), IntKind.wrap IntKind.u8 r1] : List Int))
      else
       none
     else
      none
    else
     none
   else
    none
noncomputable def impl_addSum.sig : Sig := ⟨[.val false [⟨.row K0, 1, 1, false⟩]], [(.one, [(.row K0, 1)])]⟩
noncomputable def impl_addSum.hint : Nat → Hint
  | _ => ⟨[], []⟩
noncomputable def impl_addSum.join : Nat → Option Hint
  | _ => none
noncomputable def impl_addSum.body : Code := (Try.f70).body.getD .skip
noncomputable def impl_addSum.rv : List ResultVar := (Try.f70).results.toList
noncomputable def impl_clamp.m  : (Int × Int × Int) → Option (Int)
  | (a0_0, a1_0, a2_0) =>
  some (bif decide ((bif decide (a2_0 < a0_0) then a2_0 else a0_0) > a1_0) then (bif decide (a2_0 < a0_0) then a2_0 else a0_0) else a1_0)
noncomputable def impl_clamp.sig : Sig := ⟨[.val false [⟨.int .i64, 0, 0, false⟩], .val false [⟨.int .i64, 0, 0, false⟩], .val false [⟨.int .i64, 0, 0, false⟩]], [(.one, [(.int .i64, 0)])]⟩
noncomputable def impl_clamp.hint : Nat → Hint
  | _ => ⟨[], []⟩
noncomputable def impl_clamp.join : Nat → Option Hint
  | _ => none
noncomputable def impl_clamp.body : Code := (Try.f119).body.getD .skip
noncomputable def impl_clamp.rv : List ResultVar := (Try.f119).results.toList
noncomputable def impl_addU.s0 (L0 : (Int × (List Int)) → Option (List Int)) : (Int × (List Int)) → Option (List Int)
  | (x0, x1) =>
  bif decide (x0 > (127 : Int)) then
   bif decide (¬ (128 : Int) = 0) then
    bif decide ((List.length x1 + List.length ([IntKind.wrap IntKind.u8 (IntKind.wrap IntKind.i64 ((Int.tmod x0 (128 : Int)) + (128 : Int)))] : List Int)) * 1 ≤ 140737488355328) then
     bif decide (¬ (128 : Int) = 0) then
      L0 (IntKind.wrap IntKind.i64 (Int.tdiv x0 (128 : Int)), x1 ++ ([IntKind.wrap IntKind.u8 (IntKind.wrap IntKind.i64 ((Int.tmod x0 (128 : Int)) + (128 : Int)))] : List Int))
     else
      none
    else
     none
   else
    none
  else
   bif decide ((List.length x1 + List.length ([IntKind.wrap IntKind.u8 x0] : List Int)) * 1 ≤ 140737488355328) then
    some (x1 ++ ([IntKind.wrap IntKind.u8 x0] : List Int))
   else
    none
noncomputable def impl_addU.ll0 : (Int × (List Int)) → LS
  | (x0, x1) => ⟨[.ref 0 0 [] none 0, .cv ⟨.int .i64, x0⟩], [⟨true, [⟨0, 0, .mk 1 ⟨.row K0, x1⟩⟩]⟩]⟩
noncomputable def impl_addU.m (c119 : Int × Int × Int → Option (Int)) (B0 : (Int × (List Int)) → Option (List Int)) : ((List Int) × Int) → Option (List Int)
  | (a0_0, a1_0) =>
  Option.bind (c119 (a1_0, (0 : Int), (1000000 : Int))) fun r1 =>
   B0 (r1, a0_0)
noncomputable def impl_addU.sig : Sig := ⟨[.val false [⟨.row K0, 1, 1, false⟩], .val false [⟨.int .i64, 0, 0, false⟩]], [(.one, [(.row K0, 1)])]⟩
noncomputable def impl_addU.hint : Nat → Hint
  | 0 => ⟨[(0, .own 1 K0), (1, .keep)], []⟩
  | _ => ⟨[], []⟩
noncomputable def impl_addU.join : Nat → Option Hint
  | _ => none
noncomputable def impl_addU.body : Code := (Try.f72).body.getD .skip
noncomputable def impl_addU.rv : List ResultVar := (Try.f72).results.toList
noncomputable def impl_addText.m (c72 : (List Int) × Int → Option (List Int)) : ((List Int) × ByteArray) → Option (List Int)
  | (a0_0, a1_0) =>
  Option.bind (c72 (a0_0, (ByteArray.size a1_0 : Int))) fun r1 =>
   bif decide ((List.length r1 + List.length (strNums a1_0)) * 1 ≤ 140737488355328) then
    some (r1 ++ (strNums a1_0))
   else
    none
noncomputable def impl_addText.sig : Sig := ⟨[.val false [⟨.row K0, 1, 1, false⟩], .val false [⟨.str, 0, 0, false⟩]], [(.one, [(.row K0, 1)])]⟩
noncomputable def impl_addText.hint : Nat → Hint
  | _ => ⟨[], []⟩
noncomputable def impl_addText.join : Nat → Option Hint
  | _ => none
noncomputable def impl_addText.body : Code := (Try.f71).body.getD .skip
noncomputable def impl_addText.rv : List ResultVar := (Try.f71).results.toList
noncomputable def impl_PutPage.m (c69 : Int × Int × Int → Option (Bool)) (c70 : (List Int) → Option (List Int)) (c71 : (List Int) × ByteArray → Option (List Int)) (c72 : (List Int) × Int → Option (List Int)) : (Int × (List Int)) → Option (List Int)
  | (a0_0, a1_0) =>
  Option.bind (c69 (a0_0, (1 : Int), (2 : Int))) fun r1 =>
   bif !(r1) then
    some ([] : List Int)
   else
    bif decide ((List.length a1_0 : Int) > (240 : Int)) then
     some ([] : List Int)
    else
     Option.bind (c72 (([] : List Int), a0_0)) fun r2 =>
      Option.bind (c71 (r2, numsStr a1_0)) fun r3 =>
       Option.bind (c70 r3) fun r4 =>
        some r4
noncomputable def impl_PutPage.sig : Sig := ⟨[.val false [⟨.int .i64, 0, 0, false⟩], .val false [⟨.row K0, 0, 0, false⟩]], [(.one, [(.row K0, 1)])]⟩
noncomputable def impl_PutPage.hint : Nat → Hint
  | _ => ⟨[], []⟩
noncomputable def impl_PutPage.join : Nat → Option Hint
  | _ => none
noncomputable def impl_PutPage.body : Code := (Try.f21).body.getD .skip
noncomputable def impl_PutPage.rv : List ResultVar := (Try.f21).results.toList
noncomputable def laws_eqByteS.s0 (L0 : ((List Int) × (List Int) × Int) → Option (Bool)) : ((List Int) × (List Int) × Int) → Option (Bool)
  | (x0, x1, x2) =>
  bif decide (x2 < (List.length x0 : Int)) then
   bif decide (0 ≤ x2) && decide (x2 < (List.length x0 : Int)) then
    bif decide (0 ≤ x2) && decide (x2 < (List.length x1 : Int)) then
     bif (List.getD x0 (Int.toNat x2) (0 : Int)) != (List.getD x1 (Int.toNat x2) (0 : Int)) then
      some false
     else
      L0 (x0, x1, IntKind.wrap IntKind.i64 (x2 + (1 : Int)))
    else
     none
   else
    none
  else
   some true
noncomputable def laws_eqByteS.ll0 : ((List Int) × (List Int) × Int) → LS
  | (x0, x1, x2) => ⟨[.cv ⟨.row K0, x0⟩, .cv ⟨.row K0, x1⟩, .cv ⟨.int .i64, x2⟩], []⟩
noncomputable def laws_eqByteS.m (B0 : ((List Int) × (List Int) × Int) → Option (Bool)) : ((List Int) × (List Int)) → Option (Bool)
  | (a0_0, a1_0) =>
  bif (List.length a0_0 : Int) != (List.length a1_0 : Int) then
   some false
  else
   B0 (a0_0, a1_0, (0 : Int))
noncomputable def laws_eqByteS.sig : Sig := ⟨[.val false [⟨.row K0, 0, 0, false⟩], .val false [⟨.row K0, 0, 0, false⟩]], [(.one, [(.bool, 0)])]⟩
noncomputable def laws_eqByteS.hint : Nat → Hint
  | 0 => ⟨[(0, .keep), (1, .keep), (5, .keep)], []⟩
  | _ => ⟨[], []⟩
noncomputable def laws_eqByteS.join : Nat → Option Hint
  | _ => none
noncomputable def laws_eqByteS.body : Code := (Try.f22).body.getD .skip
noncomputable def laws_eqByteS.rv : List ResultVar := (Try.f22).results.toList
noncomputable def laws_markByteS.s0 (L0 : (Int × Int × (List Int)) → Option (Int × (List Int))) : (Int × Int × (List Int)) → Option (Int × (List Int))
  | (x0, x1, x2) =>
  bif decide (x1 < (List.length x2 : Int)) then
   bif decide (0 ≤ x1) && decide (x1 < (List.length x2 : Int)) then
    L0 (IntKind.wrap IntKind.i64 (x0 + (1 : Int)), IntKind.wrap IntKind.i64 (x1 + (1 : Int)), List.set x2 (Int.toNat x1) (IntKind.wrap IntKind.u8 x0))
   else
    none
  else
   some (x0, x2)
noncomputable def laws_markByteS.ll0 : (Int × Int × (List Int)) → LS
  | (x0, x1, x2) => ⟨[.ref 2 0 [] none 0, .cv ⟨.int .i64, x0⟩, .cv ⟨.int .i64, x1⟩], [⟨true, [⟨0, 0, .mk 1 ⟨.row K0, x2⟩⟩]⟩]⟩
noncomputable def laws_markByteS.m (B0 : (Int × Int × (List Int)) → Option (Int × (List Int))) : ((List Int) × Int) → Option (Int × (List Int))
  | (a0_0, a1_0) =>
  B0 (a1_0, (0 : Int), a0_0)
noncomputable def laws_markByteS.sig : Sig := ⟨[.val false [⟨.row K0, 1, 1, true⟩], .val false [⟨.int .i64, 0, 0, false⟩]], [(.one, [(.int .i64, 0)])]⟩
noncomputable def laws_markByteS.hint : Nat → Hint
  | 0 => ⟨[(0, .keep), (1, .keep), (5, .keep)], [(2, [1])]⟩
  | _ => ⟨[], []⟩
noncomputable def laws_markByteS.join : Nat → Option Hint
  | _ => none
noncomputable def laws_markByteS.body : Code := (Try.f23).body.getD .skip
noncomputable def laws_markByteS.rv : List ResultVar := (Try.f23).results.toList
noncomputable def laws_heldByteS.s0 (L0 : ((List Int) × Int × Int) → Option (Int)) : ((List Int) × Int × Int) → Option (Int)
  | (x0, x1, x2) =>
  bif decide (x2 < (List.length x0 : Int)) then
   bif decide (0 ≤ x2) && decide (x2 < (List.length x0 : Int)) then
    bif (List.getD x0 (Int.toNat x2) (0 : Int)) != (IntKind.wrap IntKind.u8 x1) then
     some (-1 : Int)
    else
     L0 (x0, IntKind.wrap IntKind.i64 (x1 + (1 : Int)), IntKind.wrap IntKind.i64 (x2 + (1 : Int)))
   else
    none
  else
   some x1
noncomputable def laws_heldByteS.ll0 : ((List Int) × Int × Int) → LS
  | (x0, x1, x2) => ⟨[.cv ⟨.row K0, x0⟩, .cv ⟨.int .i64, x1⟩, .cv ⟨.int .i64, x2⟩], []⟩
noncomputable def laws_heldByteS.m (B0 : ((List Int) × Int × Int) → Option (Int)) : ((List Int) × Int) → Option (Int)
  | (a0_0, a1_0) =>
  B0 (a0_0, a1_0, (0 : Int))
noncomputable def laws_heldByteS.sig : Sig := ⟨[.val false [⟨.row K0, 0, 0, false⟩], .val false [⟨.int .i64, 0, 0, false⟩]], [(.one, [(.int .i64, 0)])]⟩
noncomputable def laws_heldByteS.hint : Nat → Hint
  | 0 => ⟨[(0, .keep), (1, .keep), (5, .keep)], []⟩
  | _ => ⟨[], []⟩
noncomputable def laws_heldByteS.join : Nat → Option Hint
  | _ => none
noncomputable def laws_heldByteS.body : Code := (Try.f24).body.getD .skip
noncomputable def laws_heldByteS.rv : List ResultVar := (Try.f24).results.toList
noncomputable def impl_copyBytes.m  : (List Int) → Option (List Int)
  | a0_0 =>
  bif decide ((List.length ([] : List Int) + List.length a0_0) * 1 ≤ 140737488355328) then
   some (([] : List Int) ++ a0_0)
  else
   none
noncomputable def impl_copyBytes.sig : Sig := ⟨[.val false [⟨.row K0, 0, 0, false⟩]], [(.one, [(.row K0, 1)])]⟩
noncomputable def impl_copyBytes.hint : Nat → Hint
  | _ => ⟨[], []⟩
noncomputable def impl_copyBytes.join : Nat → Option Hint
  | _ => none
noncomputable def impl_copyBytes.body : Code := (Try.f125).body.getD .skip
noncomputable def impl_copyBytes.rv : List ResultVar := (Try.f125).results.toList
noncomputable def impl_PutSum.m (c70 : (List Int) → Option (List Int)) (c125 : (List Int) → Option (List Int)) : (List Int) → Option (List Int)
  | a0_0 =>
  Option.bind (c125 a0_0) fun r1 =>
   Option.bind (c70 r1) fun r2 =>
    some r2
noncomputable def impl_PutSum.sig : Sig := ⟨[.val false [⟨.row K0, 0, 0, false⟩]], [(.one, [(.row K0, 1)])]⟩
noncomputable def impl_PutSum.hint : Nat → Hint
  | _ => ⟨[], []⟩
noncomputable def impl_PutSum.join : Nat → Option Hint
  | _ => none
noncomputable def impl_PutSum.body : Code := (Try.f126).body.getD .skip
noncomputable def impl_PutSum.rv : List ResultVar := (Try.f126).results.toList
noncomputable def impl_GetSum.m (c125 : (List Int) → Option (List Int)) (c126 : (List Int) → Option (List Int)) : (List Int) → Option ((List Int) × Bool)
  | a0_0 =>
  bif decide ((List.length a0_0 : Int) < (4 : Int)) then
   some (([] : List Int), false)
  else
   bif decide (0 ≤ (0 : Int)) && decide ((0 : Int) ≤ (IntKind.wrap IntKind.i64 ((List.length a0_0 : Int) - (4 : Int)))) && decide ((IntKind.wrap IntKind.i64 ((List.length a0_0 : Int) - (4 : Int))) ≤ (List.length a0_0 : Int)) then
    Option.bind (c125 (List.drop (Int.toNat (0 : Int)) (List.take (Int.toNat (IntKind.wrap IntKind.i64 ((List.length a0_0 : Int) - (4 : Int)))) a0_0))) fun r1 =>
     Option.bind (c126 r1) fun r2 =>
      bif !(ByteArray.toList (numsStr r2) == ByteArray.toList (numsStr a0_0)) then
       some (([] : List Int), false)
      else
       some (r1, true)
   else
    none
noncomputable def impl_GetSum.sig : Sig := ⟨[.val false [⟨.row K0, 0, 0, false⟩]], [(.one, [(.row K0, 1)]), (.one, [(.bool, 0)])]⟩
noncomputable def impl_GetSum.hint : Nat → Hint
  | _ => ⟨[], []⟩
noncomputable def impl_GetSum.join : Nat → Option Hint
  | _ => none
noncomputable def impl_GetSum.body : Code := (Try.f86).body.getD .skip
noncomputable def impl_GetSum.rv : List ResultVar := (Try.f86).results.toList
noncomputable def impl_GetU.s0 (L0 : ((List Int) × Int × Int × Int) → Option (Int × Int × Bool)) : ((List Int) × Int × Int × Int) → Option (Int × Int × Bool)
  | (x0, x1, x2, x3) =>
  bif decide (x3 < (3 : Int)) then
   bif decide (x1 ≥ (0 : Int)) then
    bif decide (x1 < (IntKind.wrap IntKind.i64 ((List.length x0 : Int) - x3))) then
     bif decide (0 ≤ (IntKind.wrap IntKind.i64 (x1 + x3))) && decide ((IntKind.wrap IntKind.i64 (x1 + x3)) < (List.length x0 : Int)) then
      bif decide (¬ (128 : Int) = 0) then
       bif decide (¬ (IntKind.wrap IntKind.i64 ((7 : Int) * x3)) < 0) then
        bif decide ((IntKind.wrap IntKind.i64 (List.getD x0 (Int.toNat (IntKind.wrap IntKind.i64 (x1 + x3))) (0 : Int))) ≥ (128 : Int)) then
         L0 (x0, x1, IntKind.wrap IntKind.i64 (x2 + (IntKind.wrap IntKind.i64 ((Int.tmod (IntKind.wrap IntKind.i64 (List.getD x0 (Int.toNat (IntKind.wrap IntKind.i64 (x1 + x3))) (0 : Int))) (128 : Int)) * 2 ^ (min (Int.toNat (IntKind.wrap IntKind.i64 ((7 : Int) * x3))) (IntKind.bits IntKind.i64))))), IntKind.wrap IntKind.i64 (x3 + (1 : Int)))
        else
         bif (IntKind.wrap IntKind.i64 (List.getD x0 (Int.toNat (IntKind.wrap IntKind.i64 (x1 + x3))) (0 : Int))) == (0 : Int) then
          bif decide (x3 > (0 : Int)) then
           some ((0 : Int), (0 : Int), false)
          else
           bif decide ((IntKind.wrap IntKind.i64 (x2 + (IntKind.wrap IntKind.i64 ((Int.tmod (IntKind.wrap IntKind.i64 (List.getD x0 (Int.toNat (IntKind.wrap IntKind.i64 (x1 + x3))) (0 : Int))) (128 : Int)) * 2 ^ (min (Int.toNat (IntKind.wrap IntKind.i64 ((7 : Int) * x3))) (IntKind.bits IntKind.i64)))))) > (1000000 : Int)) then
            some ((0 : Int), (0 : Int), false)
           else
            some (IntKind.wrap IntKind.i64 (x2 + (IntKind.wrap IntKind.i64 ((Int.tmod (IntKind.wrap IntKind.i64 (List.getD x0 (Int.toNat (IntKind.wrap IntKind.i64 (x1 + x3))) (0 : Int))) (128 : Int)) * 2 ^ (min (Int.toNat (IntKind.wrap IntKind.i64 ((7 : Int) * x3))) (IntKind.bits IntKind.i64))))), IntKind.wrap IntKind.i64 ((IntKind.wrap IntKind.i64 (x1 + x3)) + (1 : Int)), true)
         else
          bif decide ((IntKind.wrap IntKind.i64 (x2 + (IntKind.wrap IntKind.i64 ((Int.tmod (IntKind.wrap IntKind.i64 (List.getD x0 (Int.toNat (IntKind.wrap IntKind.i64 (x1 + x3))) (0 : Int))) (128 : Int)) * 2 ^ (min (Int.toNat (IntKind.wrap IntKind.i64 ((7 : Int) * x3))) (IntKind.bits IntKind.i64)))))) > (1000000 : Int)) then
           some ((0 : Int), (0 : Int), false)
          else
           some (IntKind.wrap IntKind.i64 (x2 + (IntKind.wrap IntKind.i64 ((Int.tmod (IntKind.wrap IntKind.i64 (List.getD x0 (Int.toNat (IntKind.wrap IntKind.i64 (x1 + x3))) (0 : Int))) (128 : Int)) * 2 ^ (min (Int.toNat (IntKind.wrap IntKind.i64 ((7 : Int) * x3))) (IntKind.bits IntKind.i64))))), IntKind.wrap IntKind.i64 ((IntKind.wrap IntKind.i64 (x1 + x3)) + (1 : Int)), true)
       else
        none
      else
       none
     else
      none
    else
     some ((0 : Int), (0 : Int), false)
   else
    some ((0 : Int), (0 : Int), false)
  else
   some ((0 : Int), (0 : Int), false)
noncomputable def impl_GetU.ll0 : ((List Int) × Int × Int × Int) → LS
  | (x0, x1, x2, x3) => ⟨[.cv ⟨.row K0, x0⟩, .cv ⟨.int .i64, x1⟩, .cv ⟨.int .i64, x2⟩, .cv ⟨.int .i64, x3⟩], []⟩
noncomputable def impl_GetU.m (B0 : ((List Int) × Int × Int × Int) → Option (Int × Int × Bool)) : ((List Int) × Int) → Option (Int × Int × Bool)
  | (a0_0, a1_0) =>
  B0 (a0_0, a1_0, (0 : Int), (0 : Int))
noncomputable def impl_GetU.sig : Sig := ⟨[.val false [⟨.row K0, 0, 0, false⟩], .val false [⟨.int .i64, 0, 0, false⟩]], [(.one, [(.int .i64, 0)]), (.one, [(.int .i64, 0)]), (.one, [(.bool, 0)])]⟩
noncomputable def impl_GetU.hint : Nat → Hint
  | 0 => ⟨[(0, .keep), (1, .keep), (7, .keep), (8, .keep)], []⟩
  | _ => ⟨[], []⟩
noncomputable def impl_GetU.join : Nat → Option Hint
  | _ => none
noncomputable def impl_GetU.body : Code := (Try.f87).body.getD .skip
noncomputable def impl_GetU.rv : List ResultVar := (Try.f87).results.toList
noncomputable def impl_GetText.m (c87 : (List Int) × Int → Option (Int × Int × Bool)) : ((List Int) × Int) → Option (ByteArray × Int × Bool)
  | (a0_0, a1_0) =>
  Option.bind (c87 (a0_0, a1_0)) fun r1 =>
   bif !(r1.2.2) then
    some (({ data := #[] } : ByteArray), (0 : Int), false)
   else
    bif decide (r1.1 > (IntKind.wrap IntKind.i64 ((List.length a0_0 : Int) - r1.2.1))) then
     some (({ data := #[] } : ByteArray), (0 : Int), false)
    else
     bif decide (0 ≤ r1.2.1) && decide (r1.2.1 ≤ (IntKind.wrap IntKind.i64 (r1.2.1 + r1.1))) && decide ((IntKind.wrap IntKind.i64 (r1.2.1 + r1.1)) ≤ (List.length a0_0 : Int)) then
      some (numsStr (List.drop (Int.toNat r1.2.1) (List.take (Int.toNat (IntKind.wrap IntKind.i64 (r1.2.1 + r1.1))) a0_0)), IntKind.wrap IntKind.i64 (r1.2.1 + r1.1), true)
     else
      none
noncomputable def impl_GetText.sig : Sig := ⟨[.val false [⟨.row K0, 0, 0, false⟩], .val false [⟨.int .i64, 0, 0, false⟩]], [(.one, [(.str, 0)]), (.one, [(.int .i64, 0)]), (.one, [(.bool, 0)])]⟩
noncomputable def impl_GetText.hint : Nat → Hint
  | _ => ⟨[], []⟩
noncomputable def impl_GetText.join : Nat → Option Hint
  | _ => none
noncomputable def impl_GetText.body : Code := (Try.f88).body.getD .skip
noncomputable def impl_GetText.rv : List ResultVar := (Try.f88).results.toList
noncomputable def impl_GetPage.m (c21 : Int × (List Int) → Option (List Int)) (c86 : (List Int) → Option ((List Int) × Bool)) (c87 : (List Int) × Int → Option (Int × Int × Bool)) (c88 : (List Int) × Int → Option (ByteArray × Int × Bool)) : (List Int) → Option (Int × (List Int) × Bool)
  | a0_0 =>
  Option.bind (c86 a0_0) fun r1 =>
   Option.bind (c87 (r1.1, (0 : Int))) fun r2 =>
    Option.bind (c88 (r1.1, r2.2.1)) fun r3 =>
     bif !(r1.2) then
      some ((0 : Int), ([] : List Int), false)
     else
      bif !(r2.2.2) then
       some ((0 : Int), ([] : List Int), false)
      else
       bif !(r3.2.2) then
        some ((0 : Int), ([] : List Int), false)
       else
        bif decide (r2.1 < (1 : Int)) then
         some ((0 : Int), ([] : List Int), false)
        else
         Option.bind (c21 (r2.1, strNums r3.1)) fun r4 =>
          bif !(ByteArray.toList (numsStr r4) == ByteArray.toList (numsStr a0_0)) then
           some ((0 : Int), ([] : List Int), false)
          else
           some (r2.1, strNums r3.1, true)
noncomputable def impl_GetPage.sig : Sig := ⟨[.val false [⟨.row K0, 0, 0, false⟩]], [(.one, [(.int .i64, 0)]), (.one, [(.row K0, 1)]), (.one, [(.bool, 0)])]⟩
noncomputable def impl_GetPage.hint : Nat → Hint
  | _ => ⟨[], []⟩
noncomputable def impl_GetPage.join : Nat → Option Hint
  | _ => none
noncomputable def impl_GetPage.body : Code := (Try.f37).body.getD .skip
noncomputable def impl_GetPage.rv : List ResultVar := (Try.f37).results.toList
noncomputable def spec_GetSum.s0 (c117 : (List Int) → Option (Int)) (L0 : ((List Int) × Int × Int × Int) → Option ((List Int) × Bool)) : ((List Int) × Int × Int × Int) → Option ((List Int) × Bool)
  | (x0, x1, x2, x3) =>
  bif decide (x3 < (List.length x0 : Int)) then
   bif decide (¬ (8 : Int) < 0) then
    bif decide (0 ≤ x3) && decide (x3 < (List.length x0 : Int)) then
     L0 (x0, x1, IntKind.wrap IntKind.i64 ((BitVec.ofInt (IntKind.bits IntKind.i64) (IntKind.wrap IntKind.i64 (x2 * 2 ^ (min (Int.toNat (8 : Int)) (IntKind.bits IntKind.i64)))) ||| BitVec.ofInt (IntKind.bits IntKind.i64) (IntKind.wrap IntKind.i64 (List.getD x0 (Int.toNat x3) (0 : Int)))).toNat : Int), IntKind.wrap IntKind.i64 (x3 + (1 : Int)))
    else
     none
   else
    none
  else
   bif decide (0 ≤ (0 : Int)) && decide ((0 : Int) ≤ x1) && decide (x1 ≤ (List.length x0 : Int)) then
    Option.bind (c117 (List.drop (Int.toNat (0 : Int)) (List.take (Int.toNat x1) x0))) fun r1 =>
     bif x2 != r1 then
      some (([] : List Int), false)
     else
      bif decide (0 ≤ (0 : Int)) && decide ((0 : Int) ≤ x1) && decide (x1 ≤ (List.length x0 : Int)) then
       bif decide ((List.length ([] : List Int) + List.length (List.drop (Int.toNat (0 : Int)) (List.take (Int.toNat x1) x0))) * 1 ≤ 140737488355328) then
        some (([] : List Int) ++ (List.drop (Int.toNat (0 : Int)) (List.take (Int.toNat x1) x0)), true)
       else
        none
      else
       none
   else
    none
noncomputable def spec_GetSum.ll0 : ((List Int) × Int × Int × Int) → LS
  | (x0, x1, x2, x3) => ⟨[.cv ⟨.row K0, x0⟩, .cv ⟨.int .i64, x1⟩, .cv ⟨.int .i64, x2⟩, .cv ⟨.int .i64, x3⟩], []⟩
noncomputable def spec_GetSum.m (B0 : ((List Int) × Int × Int × Int) → Option ((List Int) × Bool)) : (List Int) → Option ((List Int) × Bool)
  | a0_0 =>
  bif decide ((IntKind.wrap IntKind.i64 ((List.length a0_0 : Int) - (4 : Int))) < (0 : Int)) then
   some (([] : List Int), false)
  else
   B0 (a0_0, IntKind.wrap IntKind.i64 ((List.length a0_0 : Int) - (4 : Int)), (0 : Int), IntKind.wrap IntKind.i64 ((List.length a0_0 : Int) - (4 : Int)))
noncomputable def spec_GetSum.sig : Sig := ⟨[.val false [⟨.row K0, 0, 0, false⟩]], [(.one, [(.row K0, 1)]), (.one, [(.bool, 0)])]⟩
noncomputable def spec_GetSum.hint : Nat → Hint
  | 0 => ⟨[(0, .keep), (4, .keep), (5, .keep), (6, .keep)], []⟩
  | _ => ⟨[], []⟩
noncomputable def spec_GetSum.join : Nat → Option Hint
  | _ => none
noncomputable def spec_GetSum.body : Code := (Try.f100).body.getD .skip
noncomputable def spec_GetSum.rv : List ResultVar := (Try.f100).results.toList
noncomputable def spec_GetU.s0 (L0 : ((List Int) × Int × Int × Int) → Option (Int × Int × Bool)) : ((List Int) × Int × Int × Int) → Option (Int × Int × Bool)
  | (x0, x1, x2, x3) =>
  bif decide (x3 < (3 : Int)) then
   bif decide (x1 ≥ (0 : Int)) then
    bif decide (x1 < (List.length x0 : Int)) then
     bif decide ((IntKind.wrap IntKind.i64 (x1 + x3)) < (List.length x0 : Int)) then
      bif decide (0 ≤ (IntKind.wrap IntKind.i64 (x1 + x3))) && decide ((IntKind.wrap IntKind.i64 (x1 + x3)) < (List.length x0 : Int)) then
       bif decide (¬ (IntKind.wrap IntKind.u64 (IntKind.wrap IntKind.i64 ((7 : Int) * x3))) < 0) then
        bif decide ((IntKind.wrap IntKind.i64 (List.getD x0 (Int.toNat (IntKind.wrap IntKind.i64 (x1 + x3))) (0 : Int))) > (127 : Int)) then
         L0 (x0, x1, IntKind.wrap IntKind.i64 ((BitVec.ofInt (IntKind.bits IntKind.i64) x2 ||| BitVec.ofInt (IntKind.bits IntKind.i64) (IntKind.wrap IntKind.i64 ((IntKind.wrap IntKind.i64 ((BitVec.ofInt (IntKind.bits IntKind.i64) (IntKind.wrap IntKind.i64 (List.getD x0 (Int.toNat (IntKind.wrap IntKind.i64 (x1 + x3))) (0 : Int))) &&& BitVec.ofInt (IntKind.bits IntKind.i64) (127 : Int)).toNat : Int)) * 2 ^ (min (Int.toNat (IntKind.wrap IntKind.u64 (IntKind.wrap IntKind.i64 ((7 : Int) * x3)))) (IntKind.bits IntKind.i64))))).toNat : Int), IntKind.wrap IntKind.i64 (x3 + (1 : Int)))
        else
         bif decide (x3 > (0 : Int)) then
          bif (IntKind.wrap IntKind.i64 (List.getD x0 (Int.toNat (IntKind.wrap IntKind.i64 (x1 + x3))) (0 : Int))) == (0 : Int) then
           some ((0 : Int), (0 : Int), false)
          else
           bif decide ((IntKind.wrap IntKind.i64 ((BitVec.ofInt (IntKind.bits IntKind.i64) x2 ||| BitVec.ofInt (IntKind.bits IntKind.i64) (IntKind.wrap IntKind.i64 ((IntKind.wrap IntKind.i64 ((BitVec.ofInt (IntKind.bits IntKind.i64) (IntKind.wrap IntKind.i64 (List.getD x0 (Int.toNat (IntKind.wrap IntKind.i64 (x1 + x3))) (0 : Int))) &&& BitVec.ofInt (IntKind.bits IntKind.i64) (127 : Int)).toNat : Int)) * 2 ^ (min (Int.toNat (IntKind.wrap IntKind.u64 (IntKind.wrap IntKind.i64 ((7 : Int) * x3)))) (IntKind.bits IntKind.i64))))).toNat : Int)) > (1000000 : Int)) then
            some ((0 : Int), (0 : Int), false)
           else
            some (IntKind.wrap IntKind.i64 ((BitVec.ofInt (IntKind.bits IntKind.i64) x2 ||| BitVec.ofInt (IntKind.bits IntKind.i64) (IntKind.wrap IntKind.i64 ((IntKind.wrap IntKind.i64 ((BitVec.ofInt (IntKind.bits IntKind.i64) (IntKind.wrap IntKind.i64 (List.getD x0 (Int.toNat (IntKind.wrap IntKind.i64 (x1 + x3))) (0 : Int))) &&& BitVec.ofInt (IntKind.bits IntKind.i64) (127 : Int)).toNat : Int)) * 2 ^ (min (Int.toNat (IntKind.wrap IntKind.u64 (IntKind.wrap IntKind.i64 ((7 : Int) * x3)))) (IntKind.bits IntKind.i64))))).toNat : Int), IntKind.wrap IntKind.i64 ((IntKind.wrap IntKind.i64 (x1 + x3)) + (1 : Int)), true)
         else
          bif decide ((IntKind.wrap IntKind.i64 ((BitVec.ofInt (IntKind.bits IntKind.i64) x2 ||| BitVec.ofInt (IntKind.bits IntKind.i64) (IntKind.wrap IntKind.i64 ((IntKind.wrap IntKind.i64 ((BitVec.ofInt (IntKind.bits IntKind.i64) (IntKind.wrap IntKind.i64 (List.getD x0 (Int.toNat (IntKind.wrap IntKind.i64 (x1 + x3))) (0 : Int))) &&& BitVec.ofInt (IntKind.bits IntKind.i64) (127 : Int)).toNat : Int)) * 2 ^ (min (Int.toNat (IntKind.wrap IntKind.u64 (IntKind.wrap IntKind.i64 ((7 : Int) * x3)))) (IntKind.bits IntKind.i64))))).toNat : Int)) > (1000000 : Int)) then
           some ((0 : Int), (0 : Int), false)
          else
           some (IntKind.wrap IntKind.i64 ((BitVec.ofInt (IntKind.bits IntKind.i64) x2 ||| BitVec.ofInt (IntKind.bits IntKind.i64) (IntKind.wrap IntKind.i64 ((IntKind.wrap IntKind.i64 ((BitVec.ofInt (IntKind.bits IntKind.i64) (IntKind.wrap IntKind.i64 (List.getD x0 (Int.toNat (IntKind.wrap IntKind.i64 (x1 + x3))) (0 : Int))) &&& BitVec.ofInt (IntKind.bits IntKind.i64) (127 : Int)).toNat : Int)) * 2 ^ (min (Int.toNat (IntKind.wrap IntKind.u64 (IntKind.wrap IntKind.i64 ((7 : Int) * x3)))) (IntKind.bits IntKind.i64))))).toNat : Int), IntKind.wrap IntKind.i64 ((IntKind.wrap IntKind.i64 (x1 + x3)) + (1 : Int)), true)
       else
        none
      else
       none
     else
      some ((0 : Int), (0 : Int), false)
    else
     some ((0 : Int), (0 : Int), false)
   else
    some ((0 : Int), (0 : Int), false)
  else
   some ((0 : Int), (0 : Int), false)
noncomputable def spec_GetU.ll0 : ((List Int) × Int × Int × Int) → LS
  | (x0, x1, x2, x3) => ⟨[.cv ⟨.row K0, x0⟩, .cv ⟨.int .i64, x1⟩, .cv ⟨.int .i64, x2⟩, .cv ⟨.int .i64, x3⟩], []⟩
noncomputable def spec_GetU.m (B0 : ((List Int) × Int × Int × Int) → Option (Int × Int × Bool)) : ((List Int) × Int) → Option (Int × Int × Bool)
  | (a0_0, a1_0) =>
  B0 (a0_0, a1_0, (0 : Int), (0 : Int))
noncomputable def spec_GetU.sig : Sig := ⟨[.val false [⟨.row K0, 0, 0, false⟩], .val false [⟨.int .i64, 0, 0, false⟩]], [(.one, [(.int .i64, 0)]), (.one, [(.int .i64, 0)]), (.one, [(.bool, 0)])]⟩
noncomputable def spec_GetU.hint : Nat → Hint
  | 0 => ⟨[(0, .keep), (1, .keep), (7, .keep), (8, .keep)], []⟩
  | _ => ⟨[], []⟩
noncomputable def spec_GetU.join : Nat → Option Hint
  | _ => none
noncomputable def spec_GetU.body : Code := (Try.f101).body.getD .skip
noncomputable def spec_GetU.rv : List ResultVar := (Try.f101).results.toList
noncomputable def spec_GetText.m (c101 : (List Int) × Int → Option (Int × Int × Bool)) : ((List Int) × Int) → Option (ByteArray × Int × Bool)
  | (a0_0, a1_0) =>
  Option.bind (c101 (a0_0, a1_0)) fun r1 =>
   bif !(r1.2.2) then
    some (({ data := #[] } : ByteArray), (0 : Int), false)
   else
    bif decide (r1.1 > (IntKind.wrap IntKind.i64 ((List.length a0_0 : Int) - r1.2.1))) then
     some (({ data := #[] } : ByteArray), (0 : Int), false)
    else
     bif decide (0 ≤ r1.2.1) && decide (r1.2.1 ≤ (IntKind.wrap IntKind.i64 (r1.2.1 + r1.1))) && decide ((IntKind.wrap IntKind.i64 (r1.2.1 + r1.1)) ≤ (List.length a0_0 : Int)) then
      some (numsStr (List.drop (Int.toNat r1.2.1) (List.take (Int.toNat (IntKind.wrap IntKind.i64 (r1.2.1 + r1.1))) a0_0)), IntKind.wrap IntKind.i64 (r1.2.1 + r1.1), true)
     else
      none
noncomputable def spec_GetText.sig : Sig := ⟨[.val false [⟨.row K0, 0, 0, false⟩], .val false [⟨.int .i64, 0, 0, false⟩]], [(.one, [(.str, 0)]), (.one, [(.int .i64, 0)]), (.one, [(.bool, 0)])]⟩
noncomputable def spec_GetText.hint : Nat → Hint
  | _ => ⟨[], []⟩
noncomputable def spec_GetText.join : Nat → Option Hint
  | _ => none
noncomputable def spec_GetText.body : Code := (Try.f102).body.getD .skip
noncomputable def spec_GetText.rv : List ResultVar := (Try.f102).results.toList
noncomputable def spec_GetPage.m (c65 : Int × Int × Int → Option (Bool)) (c100 : (List Int) → Option ((List Int) × Bool)) (c101 : (List Int) × Int → Option (Int × Int × Bool)) (c102 : (List Int) × Int → Option (ByteArray × Int × Bool)) : (List Int) → Option (Int × (List Int) × Bool)
  | a0_0 =>
  Option.bind (c100 a0_0) fun r1 =>
   Option.bind (c101 (r1.1, (0 : Int))) fun r2 =>
    Option.bind (c102 (r1.1, r2.2.1)) fun r3 =>
     bif !(r1.2) then
      some ((0 : Int), ([] : List Int), false)
     else
      bif !(r2.2.2) then
       some ((0 : Int), ([] : List Int), false)
      else
       bif !(r3.2.2) then
        some ((0 : Int), ([] : List Int), false)
       else
        bif r3.2.1 != (List.length r1.1 : Int) then
         some ((0 : Int), ([] : List Int), false)
        else
         Option.bind (c65 (r2.1, (1 : Int), (2 : Int))) fun r4 =>
          bif !(r4) then
           some ((0 : Int), ([] : List Int), false)
          else
           bif decide ((ByteArray.size r3.1 : Int) > (240 : Int)) then
            some ((0 : Int), ([] : List Int), false)
           else
            some (r2.1, strNums r3.1, true)
noncomputable def spec_GetPage.sig : Sig := ⟨[.val false [⟨.row K0, 0, 0, false⟩]], [(.one, [(.int .i64, 0)]), (.one, [(.row K0, 1)]), (.one, [(.bool, 0)])]⟩
noncomputable def spec_GetPage.hint : Nat → Hint
  | _ => ⟨[], []⟩
noncomputable def spec_GetPage.join : Nat → Option Hint
  | _ => none
noncomputable def spec_GetPage.body : Code := (Try.f48).body.getD .skip
noncomputable def spec_GetPage.rv : List ResultVar := (Try.f48).results.toList
noncomputable def laws_FnExactGetPage.m (c20 : (List Int) → Option (List Int)) (c22 : (List Int) × (List Int) → Option (Bool)) (c23 : (List Int) × Int → Option (Int × (List Int))) (c24 : (List Int) × Int → Option (Int)) (c37 : (List Int) → Option (Int × (List Int) × Bool)) (c48 : (List Int) → Option (Int × (List Int) × Bool)) : (List Int) → Option (Bool)
  | a0_0 =>
  bif decide ((List.length a0_0 : Int) > (1048576 : Int)) then
   some true
  else
   Option.bind (c20 a0_0) fun r1 =>
    Option.bind (c48 r1) fun r2 =>
     Option.bind (c20 a0_0) fun r3 =>
      Option.bind (c37 r3) fun r4 =>
       bif r4.1 != r2.1 then
        some false
       else
        Option.bind (c22 (r4.2.1, r2.2.1)) fun r5 =>
         bif !(r5) then
          some false
         else
          bif !(r4.2.2 == r2.2.2) then
           some false
          else
           Option.bind (c20 a0_0) fun r6 =>
            Option.bind (c22 (r3, r6)) fun r7 =>
             bif !(r7) then
              some false
             else
              Option.bind (c23 (r3, (1 : Int))) fun r8 =>
               bif decide (r8.1 < (0 : Int)) then
                some false
               else
                bif r4.1 != r2.1 then
                 some false
                else
                 Option.bind (c22 (r4.2.1, r2.2.1)) fun r9 =>
                  bif !(r9) then
                   some false
                  else
                   bif !(r4.2.2 == r2.2.2) then
                    some false
                   else
                    Option.bind (c23 (r4.2.1, (1 : Int))) fun r10 =>
                     Option.bind (c24 (r10.2, (1 : Int))) fun r11 =>
                      bif decide (r11 < (0 : Int)) then
                       some false
                      else
                       bif r11 != r10.1 then
                        some false
                       else
                        Option.bind (c20 a0_0) fun r12 =>
                         Option.bind (c37 r12) fun r13 =>
                          bif r13.1 != r2.1 then
                           some false
                          else
                           Option.bind (c22 (r13.2.1, r2.2.1)) fun r14 =>
                            bif !(r14) then
                             some false
                            else
                             bif !(r13.2.2 == r2.2.2) then
                              some false
                             else
                              Option.bind (c24 (r10.2, (1 : Int))) fun r15 =>
                               bif decide (r15 < (0 : Int)) then
                                some false
                               else
                                bif r15 != r10.1 then
                                 some false
                                else
                                 some true
noncomputable def laws_FnExactGetPage.sig : Sig := ⟨[.val false [⟨.row K0, 0, 0, false⟩]], [(.one, [(.bool, 0)])]⟩
noncomputable def laws_FnExactGetPage.hint : Nat → Hint
  | _ => ⟨[], []⟩
noncomputable def laws_FnExactGetPage.join : Nat → Option Hint
  | _ => none
noncomputable def laws_FnExactGetPage.body : Code := (Try.f11).body.getD .skip
noncomputable def laws_FnExactGetPage.rv : List ResultVar := (Try.f11).results.toList
noncomputable def fns : Nat → Fn
  | 65 => ⟨15, spec_l1In.sig, spec_l1In.rv, spec_l1In.body, spec_l1In.hint, spec_l1In.join⟩
  | 69 => ⟨15, impl_in.sig, impl_in.rv, impl_in.body, impl_in.hint, impl_in.join⟩
  | 117 => ⟨34, spec_Crc.sig, spec_Crc.rv, spec_Crc.body, spec_Crc.hint, spec_Crc.join⟩
  | 20 => ⟨22, laws_toByteS.sig, laws_toByteS.rv, laws_toByteS.body, laws_toByteS.hint, laws_toByteS.join⟩
  | 118 => ⟨32, impl_Crc.sig, impl_Crc.rv, impl_Crc.body, impl_Crc.hint, impl_Crc.join⟩
  | 70 => ⟨20, impl_addSum.sig, impl_addSum.rv, impl_addSum.body, impl_addSum.hint, impl_addSum.join⟩
  | 119 => ⟨12, impl_clamp.sig, impl_clamp.rv, impl_clamp.body, impl_clamp.hint, impl_clamp.join⟩
  | 72 => ⟨23, impl_addU.sig, impl_addU.rv, impl_addU.body, impl_addU.hint, impl_addU.join⟩
  | 71 => ⟨11, impl_addText.sig, impl_addText.rv, impl_addText.body, impl_addText.hint, impl_addText.join⟩
  | 21 => ⟨19, impl_PutPage.sig, impl_PutPage.rv, impl_PutPage.body, impl_PutPage.hint, impl_PutPage.join⟩
  | 22 => ⟨26, laws_eqByteS.sig, laws_eqByteS.rv, laws_eqByteS.body, laws_eqByteS.hint, laws_eqByteS.join⟩
  | 23 => ⟨20, laws_markByteS.sig, laws_markByteS.rv, laws_markByteS.body, laws_markByteS.hint, laws_markByteS.join⟩
  | 24 => ⟨22, laws_heldByteS.sig, laws_heldByteS.rv, laws_heldByteS.body, laws_heldByteS.hint, laws_heldByteS.join⟩
  | 125 => ⟨5, impl_copyBytes.sig, impl_copyBytes.rv, impl_copyBytes.body, impl_copyBytes.hint, impl_copyBytes.join⟩
  | 126 => ⟨6, impl_PutSum.sig, impl_PutSum.rv, impl_PutSum.body, impl_PutSum.hint, impl_PutSum.join⟩
  | 86 => ⟨21, impl_GetSum.sig, impl_GetSum.rv, impl_GetSum.body, impl_GetSum.hint, impl_GetSum.join⟩
  | 87 => ⟨57, impl_GetU.sig, impl_GetU.rv, impl_GetU.body, impl_GetU.hint, impl_GetU.join⟩
  | 88 => ⟨37, impl_GetText.sig, impl_GetText.rv, impl_GetText.body, impl_GetText.hint, impl_GetText.join⟩
  | 37 => ⟨58, impl_GetPage.sig, impl_GetPage.rv, impl_GetPage.body, impl_GetPage.hint, impl_GetPage.join⟩
  | 100 => ⟨40, spec_GetSum.sig, spec_GetSum.rv, spec_GetSum.body, spec_GetSum.hint, spec_GetSum.join⟩
  | 101 => ⟨64, spec_GetU.sig, spec_GetU.rv, spec_GetU.body, spec_GetU.hint, spec_GetU.join⟩
  | 102 => ⟨37, spec_GetText.sig, spec_GetText.rv, spec_GetText.body, spec_GetText.hint, spec_GetText.join⟩
  | 48 => ⟨61, spec_GetPage.sig, spec_GetPage.rv, spec_GetPage.body, spec_GetPage.hint, spec_GetPage.join⟩
  | 11 => ⟨114, laws_FnExactGetPage.sig, laws_FnExactGetPage.rv, laws_FnExactGetPage.body, laws_FnExactGetPage.hint, laws_FnExactGetPage.join⟩
  | _ => ⟨0, ⟨[], []⟩, [], .refuse "", fun _ => ⟨[], []⟩, fun _ => none⟩
noncomputable def sigs (f : Nat) : Sig := (fns f).sig
end
end Go.PV.T
