/- Functions of the program by their own lists and numbers. No condition beyond those in each statement. -/
import Derived.Test.YthpiinnmmdaloaaPvLibD
import Derived.Test.YthpiinnmmdaloaaProg
import Derived.KernelRfl
set_option maxRecDepth 100000
set_option linter.unusedVariables false
namespace Go.PV.T
open Go.Proofs
noncomputable section
abbrev K0 : SS := .one (.int .u8)
abbrev K1 : SS := .one (.int .i64)
noncomputable def eqts (t : Nat) : Bool := memN t []
noncomputable def tys : Nat → TyI
  | 3 => .cell (.int .i64) 0
  | 5 => .cell (.int .u8) 0
  | 9 => .cell (.str) 0
  | 29 => .cell (.row K0) 1
  | 36 => .cell (.row K1) 8
  | 57 => .cell (.int .u64) 0
  | 137 => .strct [0, 1, 2] [.row K0, .int .i64, .int .i64]
  | 143 => .cell (.int .u32) 0
  | _ => .no
noncomputable def impl_in.m  : (Int × Int × Int) → Option (Bool)
  | (a0_0, a1_0, a2_0) =>
  bif decide (a0_0 ≥ a1_0) then
   some (decide (a0_0 ≤ a2_0))
  else
   some false
noncomputable def impl_in.sig : Sig := ⟨[.val false [⟨.int .i64, 0, 0, false⟩], .val false [⟨.int .i64, 0, 0, false⟩], .val false [⟨.int .i64, 0, 0, false⟩]], [(.one, [(.bool, 0)])]⟩
noncomputable def impl_in.hint : Nat → Hint
  | _ => ⟨[], []⟩
noncomputable def impl_in.join : Nat → Option Hint
  | _ => none
noncomputable def impl_in.body : Code := (Try.f69).body.getD .skip
noncomputable def impl_in.rv : List ResultVar := (Try.f69).results.toList
noncomputable def impl_Crc.s0 (B2 : (Int × (List Int) × Int × Int × Int) → Option (Int)) (L0 : (Int × (List Int) × Int × Int) → Option (Int)) : (Int × (List Int) × Int × Int) → Option (Int)
  | (x0, x1, x2, x3) =>
  bif decide (x3 < x2) then
   bif decide (0 ≤ x3) && decide (x3 < (List.length x1 : Int)) then
    B2 (IntKind.wrap IntKind.u32 ((BitVec.ofInt (IntKind.bits IntKind.u32) x0 ^^^ BitVec.ofInt (IntKind.bits IntKind.u32) (IntKind.wrap IntKind.u32 (List.getD x1 (Int.toNat x3) (0 : Int)))).toNat : Int), x1, x2, x3, (0 : Int))
   else
    none
  else
   some (IntKind.wrap IntKind.i64 (IntKind.wrap IntKind.u32 ((BitVec.ofInt (IntKind.bits IntKind.u32) (if IntKind.signed IntKind.u32 then -1 else IntKind.max IntKind.u32) ^^^ BitVec.ofInt (IntKind.bits IntKind.u32) x0).toNat : Int)))
noncomputable def impl_Crc.ll0 : (Int × (List Int) × Int × Int) → LS
  | (x0, x1, x2, x3) => ⟨[.cv ⟨.int .u32, x0⟩, .cv ⟨.row K0, x1⟩, .cv ⟨.int .i64, x2⟩, .cv ⟨.int .i64, x3⟩], []⟩
noncomputable def impl_Crc.s2 (L0 : (Int × (List Int) × Int × Int) → Option (Int)) (L2 : (Int × (List Int) × Int × Int × Int) → Option (Int)) : (Int × (List Int) × Int × Int × Int) → Option (Int)
  | (x0, x1, x2, x3, x4) =>
  bif decide (x4 < (8 : Int)) then
   bif decide (¬ (1 : Int) < 0) then
    bif (IntKind.wrap IntKind.u32 ((BitVec.ofInt (IntKind.bits IntKind.u32) x0 &&& BitVec.ofInt (IntKind.bits IntKind.u32) (1 : Int)).toNat : Int)) == (1 : Int) then
     L2 (IntKind.wrap IntKind.u32 ((BitVec.ofInt (IntKind.bits IntKind.u32) (Int.fdiv x0 (2 ^ (min (Int.toNat (1 : Int)) (IntKind.bits IntKind.u32)))) ^^^ BitVec.ofInt (IntKind.bits IntKind.u32) (2197175160 : Int)).toNat : Int), x1, x2, x3, IntKind.wrap IntKind.i64 (x4 + (1 : Int)))
    else
     L2 (Int.fdiv x0 (2 ^ (min (Int.toNat (1 : Int)) (IntKind.bits IntKind.u32))), x1, x2, x3, IntKind.wrap IntKind.i64 (x4 + (1 : Int)))
   else
    none
  else
   L0 (x0, x1, x2, IntKind.wrap IntKind.i64 (x3 + (1 : Int)))
noncomputable def impl_Crc.ll2 : (Int × (List Int) × Int × Int × Int) → LS
  | (x0, x1, x2, x3, x4) => ⟨[.cv ⟨.int .u32, x0⟩, .cv ⟨.row K0, x1⟩, .cv ⟨.int .i64, x2⟩, .cv ⟨.int .i64, x3⟩, .cv ⟨.int .i64, x4⟩], []⟩
noncomputable def impl_Crc.m (B0 : (Int × (List Int) × Int × Int) → Option (Int)) : (List Int) → Option (Int)
  | a0_0 =>
  B0 ((4294967295 : Int), a0_0, (List.length a0_0 : Int), (0 : Int))
noncomputable def impl_Crc.sig : Sig := ⟨[.val false [⟨.row K0, 0, 0, false⟩]], [(.one, [(.int .i64, 0)])]⟩
noncomputable def impl_Crc.hint : Nat → Hint
  | 0 => ⟨[(3, .keep), (7, .keep), (8, .keep), (9, .keep)], []⟩
  | 2 => ⟨[(3, .keep), (7, .keep), (8, .keep), (9, .keep), (17, .keep)], []⟩
  | _ => ⟨[], []⟩
noncomputable def impl_Crc.join : Nat → Option Hint
  | _ => none
noncomputable def impl_Crc.body : Code := (Try.f118).body.getD .skip
noncomputable def impl_Crc.rv : List ResultVar := (Try.f118).results.toList
noncomputable def impl_addSum.m (c118 : (List Int) → Option (Int)) : (List Int) → Option (List Int)
  | a0_0 =>
  Option.bind (c118 a0_0) fun r1 =>
   bif decide (¬ (24 : Int) < 0) then
    bif decide (¬ (16 : Int) < 0) then
     bif decide (¬ (8 : Int) < 0) then
      bif decide ((List.length a0_0 + List.length ([IntKind.wrap IntKind.u8 (Int.fdiv r1 (2 ^ (min (Int.toNat (24 : Int)) (IntKind.bits IntKind.i64)))), IntKind.wrap IntKind.u8 (Int.fdiv r1 (2 ^ (min (Int.toNat (16 : Int)) (IntKind.bits IntKind.i64)))), IntKind.wrap IntKind.u8 (Int.fdiv r1 (2 ^ (min (Int.toNat (8 : Int)) (IntKind.bits IntKind.i64)))), IntKind.wrap IntKind.u8 r1] : List Int)) * 1 ≤ 140737488355328) then
       some (a0_0 ++ ([IntKind.wrap IntKind.u8 (Int.fdiv r1 (2 ^ (min (Int.toNat (24 : Int)) (IntKind.bits IntKind.i64)))), IntKind.wrap IntKind.u8 (Int.fdiv r1 (2 ^ (min (Int.toNat (16 : Int)) (IntKind.bits IntKind.i64)))), IntKind.wrap IntKind.u8 (Int.fdiv r1 (2 ^ (min (Int.toNat (8 : Int)) (IntKind.bits IntKind.i64)))), IntKind.wrap IntKind.u8 r1] : List Int))
      else
       none
     else
      none
    else
     none
   else
    none
noncomputable def impl_addSum.sig : Sig := ⟨[.val false [⟨.row K0, 1, 1, false⟩]], [(.one, [(.row K0, 1)])]⟩
noncomputable def impl_addSum.hint : Nat → Hint
  | _ => ⟨[], []⟩
noncomputable def impl_addSum.join : Nat → Option Hint
  | _ => none
noncomputable def impl_addSum.body : Code := (Try.f70).body.getD .skip
noncomputable def impl_addSum.rv : List ResultVar := (Try.f70).results.toList
noncomputable def impl_clamp.m  : (Int × Int × Int) → Option (Int)
  | (a0_0, a1_0, a2_0) =>
  some (bif decide ((bif decide (a2_0 < a0_0) then a2_0 else a0_0) > a1_0) then (bif decide (a2_0 < a0_0) then a2_0 else a0_0) else a1_0)
noncomputable def impl_clamp.sig : Sig := ⟨[.val false [⟨.int .i64, 0, 0, false⟩], .val false [⟨.int .i64, 0, 0, false⟩], .val false [⟨.int .i64, 0, 0, false⟩]], [(.one, [(.int .i64, 0)])]⟩
noncomputable def impl_clamp.hint : Nat → Hint
  | _ => ⟨[], []⟩
noncomputable def impl_clamp.join : Nat → Option Hint
  | _ => none
noncomputable def impl_clamp.body : Code := (Try.f119).body.getD .skip
noncomputable def impl_clamp.rv : List ResultVar := (Try.f119).results.toList
noncomputable def impl_addU.s0 (L0 : (Int × (List Int)) → Option (List Int)) : (Int × (List Int)) → Option (List Int)
  | (x0, x1) =>
  bif decide (x0 > (127 : Int)) then
   bif decide (¬ (128 : Int) = 0) then
    bif decide ((List.length x1 + List.length ([IntKind.wrap IntKind.u8 (IntKind.wrap IntKind.i64 ((Int.tmod x0 (128 : Int)) + (128 : Int)))] : List Int)) * 1 ≤ 140737488355328) then
     bif decide (¬ (128 : Int) = 0) then
      L0 (IntKind.wrap IntKind.i64 (Int.tdiv x0 (128 : Int)), x1 ++ ([IntKind.wrap IntKind.u8 (IntKind.wrap IntKind.i64 ((Int.tmod x0 (128 : Int)) + (128 : Int)))] : List Int))
     else
      none
    else
     none
   else
    none
  else
   bif decide ((List.length x1 + List.length ([IntKind.wrap IntKind.u8 x0] : List Int)) * 1 ≤ 140737488355328) then
    some (x1 ++ ([IntKind.wrap IntKind.u8 x0] : List Int))
   else
    none
noncomputable def impl_addU.ll0 : (Int × (List Int)) → LS
  | (x0, x1) => ⟨[.ref 0 0 [] none 0, .cv ⟨.int .i64, x0⟩], [⟨true, [⟨0, 0, .mk 1 ⟨.row K0, x1⟩⟩]⟩]⟩
noncomputable def impl_addU.m (c119 : Int × Int × Int → Option (Int)) (B0 : (Int × (List Int)) → Option (List Int)) : ((List Int) × Int) → Option (List Int)
  | (a0_0, a1_0) =>
  Option.bind (c119 (a1_0, (0 : Int), (1000000 : Int))) fun r1 =>
   B0 (r1, a0_0)
noncomputable def impl_addU.sig : Sig := ⟨[.val false [⟨.row K0, 1, 1, false⟩], .val false [⟨.int .i64, 0, 0, false⟩]], [(.one, [(.row K0, 1)])]⟩
noncomputable def impl_addU.hint : Nat → Hint
  | 0 => ⟨[(0, .own 1 K0), (1, .keep)], []⟩
  | _ => ⟨[], []⟩
noncomputable def impl_addU.join : Nat → Option Hint
  | _ => none
noncomputable def impl_addU.body : Code := (Try.f72).body.getD .skip
noncomputable def impl_addU.rv : List ResultVar := (Try.f72).results.toList
noncomputable def impl_addText.m (c72 : (List Int) × Int → Option (List Int)) : ((List Int) × ByteArray) → Option (List Int)
  | (a0_0, a1_0) =>
  Option.bind (c72 (a0_0, (ByteArray.size a1_0 : Int))) fun r1 =>
   bif decide ((List.length r1 + List.length (strNums a1_0)) * 1 ≤ 140737488355328) then
    some (r1 ++ (strNums a1_0))
   else
    none
noncomputable def impl_addText.sig : Sig := ⟨[.val false [⟨.row K0, 1, 1, false⟩], .val false [⟨.str, 0, 0, false⟩]], [(.one, [(.row K0, 1)])]⟩
noncomputable def impl_addText.hint : Nat → Hint
  | _ => ⟨[], []⟩
noncomputable def impl_addText.join : Nat → Option Hint
  | _ => none
noncomputable def impl_addText.body : Code := (Try.f71).body.getD .skip
noncomputable def impl_addText.rv : List ResultVar := (Try.f71).results.toList
noncomputable def impl_PutPage.m (c69 : Int × Int × Int → Option (Bool)) (c70 : (List Int) → Option (List Int)) (c71 : (List Int) × ByteArray → Option (List Int)) (c72 : (List Int) × Int → Option (List Int)) : (Int × (List Int)) → Option (List Int)
  | (a0_0, a1_0) =>
  Option.bind (c69 (a0_0, (1 : Int), (2 : Int))) fun r1 =>
   bif !(r1) then
    some ([] : List Int)
   else
    bif decide ((List.length a1_0 : Int) > (240 : Int)) then
     some ([] : List Int)
    else
     Option.bind (c72 (([] : List Int), a0_0)) fun r2 =>
      Option.bind (c71 (r2, numsStr a1_0)) fun r3 =>
       Option.bind (c70 r3) fun r4 =>
        some r4
noncomputable def impl_PutPage.sig : Sig := ⟨[.val false [⟨.int .i64, 0, 0, false⟩], .val false [⟨.row K0, 0, 0, false⟩]], [(.one, [(.row K0, 1)])]⟩
noncomputable def impl_PutPage.hint : Nat → Hint
  | _ => ⟨[], []⟩
noncomputable def impl_PutPage.join : Nat → Option Hint
  | _ => none
noncomputable def impl_PutPage.body : Code := (Try.f21).body.getD .skip
noncomputable def impl_PutPage.rv : List ResultVar := (Try.f21).results.toList
noncomputable def laws_big.m  : (List Int) → Option (Bool)
  | a0_0 =>
  some (decide ((List.length a0_0 : Int) > (1048576 : Int)))
noncomputable def laws_big.sig : Sig := ⟨[.val false [⟨.row K0, 0, 0, false⟩]], [(.one, [(.bool, 0)])]⟩
noncomputable def laws_big.hint : Nat → Hint
  | _ => ⟨[], []⟩
noncomputable def laws_big.join : Nat → Option Hint
  | _ => none
noncomputable def laws_big.body : Code := (Try.f35).body.getD .skip
noncomputable def laws_big.rv : List ResultVar := (Try.f35).results.toList
noncomputable def spec_l1New.s0 (L0 : ((List Int) × Int × Int) → Option ((List Int) × Int × Int)) : ((List Int) × Int × Int) → Option ((List Int) × Int × Int)
  | (x0, x1, x2) =>
  bif decide (x2 < (List.length x0 : Int)) then
   bif decide (x2 < (4000 : Int)) then
    bif decide (0 ≤ x2) && decide (x2 < (List.length x0 : Int)) then
     L0 (x0, IntKind.wrap IntKind.i64 ((BitVec.ofInt (IntKind.bits IntKind.i64) (IntKind.wrap IntKind.i64 ((IntKind.wrap IntKind.i64 ((IntKind.wrap IntKind.i64 (x1 * (137 : Int))) + (IntKind.wrap IntKind.i64 (List.getD x0 (Int.toNat x2) (0 : Int))))) + (11 : Int))) &&& BitVec.ofInt (IntKind.bits IntKind.i64) (1073741823 : Int)).toNat : Int), IntKind.wrap IntKind.i64 (x2 + (1 : Int)))
    else
     none
   else
    some (x0, (0 : Int), x1)
  else
   some (x0, (0 : Int), x1)
noncomputable def spec_l1New.ll0 : ((List Int) × Int × Int) → LS
  | (x0, x1, x2) => ⟨[.cv ⟨.row K0, x0⟩, .cv ⟨.int .i64, x1⟩, .cv ⟨.int .i64, x2⟩], []⟩
noncomputable def spec_l1New.m (B0 : ((List Int) × Int × Int) → Option ((List Int) × Int × Int)) : (List Int) → Option ((List Int) × Int × Int)
  | a0_0 =>
  B0 (a0_0, IntKind.wrap IntKind.i64 ((758758 : Int) + (List.length a0_0 : Int)), (0 : Int))
noncomputable def spec_l1New.sig : Sig := ⟨[.val false [⟨.row K0, 0, 0, false⟩]], [(.ptr, [(.row K0, 0), (.int .i64, 0), (.int .i64, 0)])]⟩
noncomputable def spec_l1New.hint : Nat → Hint
  | 0 => ⟨[(0, .keep), (3, .keep), (4, .keep)], []⟩
  | _ => ⟨[], []⟩
noncomputable def spec_l1New.join : Nat → Option Hint
  | _ => none
noncomputable def spec_l1New.body : Code := (Try.f81).body.getD .skip
noncomputable def spec_l1New.rv : List ResultVar := (Try.f81).results.toList
noncomputable def spec_l1Byte.m  : ((List Int) × Int × Int) → Option (Int × Int × Int)
  | (a0_0, a0_1, a0_2) =>
  bif decide (¬ (33 : Int) < 0) then
   bif decide (¬ (47 : Int) < 0) then
    bif decide (a0_1 < (List.length a0_0 : Int)) then
     bif decide (0 ≤ a0_1) && decide (a0_1 < (List.length a0_0 : Int)) then
      some (IntKind.wrap IntKind.i64 ((BitVec.ofInt (IntKind.bits IntKind.i64) (IntKind.wrap IntKind.i64 ((IntKind.wrap IntKind.i64 ((BitVec.ofInt (IntKind.bits IntKind.i64) (IntKind.wrap IntKind.i64 ((BitVec.ofInt (IntKind.bits IntKind.i64) (Int.fdiv (IntKind.wrap IntKind.i64 ((IntKind.wrap IntKind.i64 (a0_2 * (6364136223846793005 : Int))) + (1442695040888963407 : Int))) (2 ^ (min (Int.toNat (33 : Int)) (IntKind.bits IntKind.i64)))) ^^^ BitVec.ofInt (IntKind.bits IntKind.i64) (Int.fdiv (IntKind.wrap IntKind.i64 ((IntKind.wrap IntKind.i64 (a0_2 * (6364136223846793005 : Int))) + (1442695040888963407 : Int))) (2 ^ (min (Int.toNat (47 : Int)) (IntKind.bits IntKind.i64))))).toNat : Int)) &&& BitVec.ofInt (IntKind.bits IntKind.i64) (255 : Int)).toNat : Int)) + (IntKind.wrap IntKind.i64 (List.getD a0_0 (Int.toNat a0_1) (0 : Int))))) &&& BitVec.ofInt (IntKind.bits IntKind.i64) (255 : Int)).toNat : Int), IntKind.wrap IntKind.i64 (a0_1 + (1 : Int)), IntKind.wrap IntKind.i64 ((IntKind.wrap IntKind.i64 (a0_2 * (6364136223846793005 : Int))) + (1442695040888963407 : Int)))
     else
      none
    else
     some (IntKind.wrap IntKind.i64 ((BitVec.ofInt (IntKind.bits IntKind.i64) (IntKind.wrap IntKind.i64 ((BitVec.ofInt (IntKind.bits IntKind.i64) (Int.fdiv (IntKind.wrap IntKind.i64 ((IntKind.wrap IntKind.i64 (a0_2 * (6364136223846793005 : Int))) + (1442695040888963407 : Int))) (2 ^ (min (Int.toNat (33 : Int)) (IntKind.bits IntKind.i64)))) ^^^ BitVec.ofInt (IntKind.bits IntKind.i64) (Int.fdiv (IntKind.wrap IntKind.i64 ((IntKind.wrap IntKind.i64 (a0_2 * (6364136223846793005 : Int))) + (1442695040888963407 : Int))) (2 ^ (min (Int.toNat (47 : Int)) (IntKind.bits IntKind.i64))))).toNat : Int)) &&& BitVec.ofInt (IntKind.bits IntKind.i64) (255 : Int)).toNat : Int), a0_1, IntKind.wrap IntKind.i64 ((IntKind.wrap IntKind.i64 (a0_2 * (6364136223846793005 : Int))) + (1442695040888963407 : Int)))
   else
    none
  else
   none
noncomputable def spec_l1Byte.sig : Sig := ⟨[.ptr [⟨.row K0, 0, 1, false⟩, ⟨.int .i64, 0, 0, true⟩, ⟨.int .i64, 0, 0, true⟩]], [(.one, [(.int .i64, 0)])]⟩
noncomputable def spec_l1Byte.hint : Nat → Hint
  | _ => ⟨[], []⟩
noncomputable def spec_l1Byte.join : Nat → Option Hint
  | _ => none
noncomputable def spec_l1Byte.body : Code := (Try.f124).body.getD .skip
noncomputable def spec_l1Byte.rv : List ResultVar := (Try.f124).results.toList
noncomputable def spec_l1Below.m (c124 : (List Int) × Int × Int → Option (Int × Int × Int)) : ((List Int) × Int × Int × Int) → Option (Int × Int × Int)
  | (a0_0, a0_1, a0_2, a1_0) =>
  bif decide (a1_0 ≤ (0 : Int)) then
   some ((0 : Int), a0_1, a0_2)
  else
   bif decide (a1_0 ≤ (256 : Int)) then
    Option.bind (c124 (a0_0, a0_1, a0_2)) fun r1 =>
     bif decide (¬ a1_0 = 0) then
      some (Int.tmod r1.1 a1_0, r1.2.1, r1.2.2)
     else
      none
   else
    Option.bind (c124 (a0_0, a0_1, a0_2)) fun r2 =>
     Option.bind (c124 (a0_0, r2.2.1, r2.2.2)) fun r3 =>
      Option.bind (c124 (a0_0, r3.2.1, r3.2.2)) fun r4 =>
       bif decide (¬ a1_0 = 0) then
        some (Int.tmod (IntKind.wrap IntKind.i64 ((IntKind.wrap IntKind.i64 ((IntKind.wrap IntKind.i64 (r2.1 * (65536 : Int))) + (IntKind.wrap IntKind.i64 (r3.1 * (256 : Int))))) + r4.1)) a1_0, r4.2.1, r4.2.2)
       else
        none
noncomputable def spec_l1Below.sig : Sig := ⟨[.ptr [⟨.row K0, 0, 1, false⟩, ⟨.int .i64, 0, 0, true⟩, ⟨.int .i64, 0, 0, true⟩], .val false [⟨.int .i64, 0, 0, false⟩]], [(.one, [(.int .i64, 0)])]⟩
noncomputable def spec_l1Below.hint : Nat → Hint
  | _ => ⟨[], []⟩
noncomputable def spec_l1Below.join : Nat → Option Hint
  | _ => none
noncomputable def spec_l1Below.body : Code := (Try.f84).body.getD .skip
noncomputable def spec_l1Below.rv : List ResultVar := (Try.f84).results.toList
noncomputable def spec_l1Int.m (c84 : (List Int) × Int × Int × Int → Option (Int × Int × Int)) : ((List Int) × Int × Int × (List Int)) → Option (Int × Int × Int)
  | (a0_0, a0_1, a0_2, a1_0) =>
  Option.bind (c84 (a0_0, a0_1, a0_2, (List.length a1_0 : Int))) fun r1 =>
   bif decide (0 ≤ r1.1) && decide (r1.1 < (List.length a1_0 : Int)) then
    some ((List.getD a1_0 (Int.toNat r1.1) (0 : Int)), r1.2.1, r1.2.2)
   else
    none
noncomputable def spec_l1Int.sig : Sig := ⟨[.ptr [⟨.row K0, 0, 1, false⟩, ⟨.int .i64, 0, 0, true⟩, ⟨.int .i64, 0, 0, true⟩], .val false [⟨.row K1, 0, 0, false⟩]], [(.one, [(.int .i64, 0)])]⟩
noncomputable def spec_l1Int.hint : Nat → Hint
  | _ => ⟨[], []⟩
noncomputable def spec_l1Int.join : Nat → Option Hint
  | _ => none
noncomputable def spec_l1Int.body : Code := (Try.f85).body.getD .skip
noncomputable def spec_l1Int.rv : List ResultVar := (Try.f85).results.toList
noncomputable def spec_l1Bytes.s0 (c124 : (List Int) × Int × Int → Option (Int × Int × Int)) (L0 : (Int × Int × (List Int) × Int × Int × (List Int)) → Option ((List Int) × Int × Int)) : (Int × Int × (List Int) × Int × Int × (List Int)) → Option ((List Int) × Int × Int)
  | (x0, x1, x2, x3, x4, x5) =>
  bif decide (x1 < x0) then
   Option.bind (c124 (x2, x3, x4)) fun r1 =>
    bif decide ((List.length x5 + List.length ([IntKind.wrap IntKind.u8 r1.1] : List Int)) * 1 ≤ 140737488355328) then
     L0 (x0, IntKind.wrap IntKind.i64 (x1 + (1 : Int)), x2, r1.2.1, r1.2.2, x5 ++ ([IntKind.wrap IntKind.u8 r1.1] : List Int))
    else
     none
  else
   some (x5, x3, x4)
noncomputable def spec_l1Bytes.ll0 : (Int × Int × (List Int) × Int × Int × (List Int)) → LS
  | (x0, x1, x2, x3, x4, x5) => ⟨[.addr 2 0 [] 0, .cv ⟨.int .i64, x0⟩, .ref 20 0 [] none 0, .cv ⟨.int .i64, x1⟩], [⟨false, [⟨0, 0, .lk ⟨.row K0, x2⟩⟩, ⟨0, 0, .mk 0 ⟨.int .i64, x3⟩⟩, ⟨0, 0, .mk 0 ⟨.int .i64, x4⟩⟩]⟩, ⟨true, [⟨0, 0, .mk 9 ⟨.row K0, x5⟩⟩]⟩]⟩
noncomputable def spec_l1Bytes.m (B0 : (Int × Int × (List Int) × Int × Int × (List Int)) → Option ((List Int) × Int × Int)) : ((List Int) × Int × Int × Int) → Option ((List Int) × Int × Int)
  | (a0_0, a0_1, a0_2, a1_0) =>
  B0 (a1_0, (0 : Int), a0_0, a0_1, a0_2, ([] : List Int))
noncomputable def spec_l1Bytes.sig : Sig := ⟨[.ptr [⟨.row K0, 0, 1, false⟩, ⟨.int .i64, 0, 0, true⟩, ⟨.int .i64, 0, 0, true⟩], .val false [⟨.int .i64, 0, 0, false⟩]], [(.one, [(.row K0, 1)])]⟩
noncomputable def spec_l1Bytes.hint : Nat → Hint
  | 0 => ⟨[(0, .keep), (1, .keep), (5, .own 9 K0), (6, .keep)], [(2, [9, 0, 0])]⟩
  | _ => ⟨[], []⟩
noncomputable def spec_l1Bytes.join : Nat → Option Hint
  | _ => none
noncomputable def spec_l1Bytes.body : Code := (Try.f123).body.getD .skip
noncomputable def spec_l1Bytes.rv : List ResultVar := (Try.f123).results.toList
noncomputable def spec_l1Some.m (c85 : (List Int) × Int × Int × (List Int) → Option (Int × Int × Int)) (c123 : (List Int) × Int × Int × Int → Option ((List Int) × Int × Int)) : ((List Int) × Int × Int) → Option ((List Int) × Int × Int)
  | (a0_0, a0_1, a0_2) =>
  Option.bind (c85 (a0_0, a0_1, a0_2, ([(0 : Int), (1 : Int), (2 : Int), (5 : Int), (9 : Int)] : List Int))) fun r1 =>
   Option.bind (c123 (a0_0, r1.2.1, r1.2.2, r1.1)) fun r2 =>
    some (r2.1, r2.2.1, r2.2.2)
noncomputable def spec_l1Some.sig : Sig := ⟨[.ptr [⟨.row K0, 0, 1, false⟩, ⟨.int .i64, 0, 0, true⟩, ⟨.int .i64, 0, 0, true⟩]], [(.one, [(.row K0, 1)])]⟩
noncomputable def spec_l1Some.hint : Nat → Hint
  | _ => ⟨[], []⟩
noncomputable def spec_l1Some.join : Nat → Option Hint
  | _ => none
noncomputable def spec_l1Some.body : Code := (Try.f82).body.getD .skip
noncomputable def spec_l1Some.rv : List ResultVar := (Try.f82).results.toList
noncomputable def spec_l1Once.m (c84 : (List Int) × Int × Int × Int → Option (Int × Int × Int)) : ((List Int) × Int × Int × Int) → Option (Bool × Int × Int)
  | (a0_0, a0_1, a0_2, a1_0) =>
  Option.bind (c84 (a0_0, a0_1, a0_2, a1_0)) fun r1 =>
   some (r1.1 == (0 : Int), r1.2.1, r1.2.2)
noncomputable def spec_l1Once.sig : Sig := ⟨[.ptr [⟨.row K0, 0, 1, false⟩, ⟨.int .i64, 0, 0, true⟩, ⟨.int .i64, 0, 0, true⟩], .val false [⟨.int .i64, 0, 0, false⟩]], [(.one, [(.bool, 0)])]⟩
noncomputable def spec_l1Once.hint : Nat → Hint
  | _ => ⟨[], []⟩
noncomputable def spec_l1Once.join : Nat → Option Hint
  | _ => none
noncomputable def spec_l1Once.body : Code := (Try.f83).body.getD .skip
noncomputable def spec_l1Once.rv : List ResultVar := (Try.f83).results.toList
noncomputable def spec_DrawPutPage.m (c81 : (List Int) → Option ((List Int) × Int × Int)) (c82 : (List Int) × Int × Int → Option ((List Int) × Int × Int)) (c83 : (List Int) × Int × Int × Int → Option (Bool × Int × Int)) (c84 : (List Int) × Int × Int × Int → Option (Int × Int × Int)) (c85 : (List Int) × Int × Int × (List Int) → Option (Int × Int × Int)) : (List Int) → Option (Int × (List Int))
  | a0_0 =>
  Option.bind (c81 a0_0) fun r1 =>
   Option.bind (c82 (r1.1, r1.2.1, r1.2.2)) fun r2 =>
    Option.bind (c83 (r1.1, r2.2.1, r2.2.2, (10 : Int))) fun r3 =>
     bif r3.1 then
      Option.bind (c84 (r1.1, r3.2.1, r3.2.2, (2 : Int))) fun r4 =>
       bif decide (0 ≤ (IntKind.wrap IntKind.i64 ((240 : Int) + r4.1))) && decide ((IntKind.wrap IntKind.i64 ((240 : Int) + r4.1)) ≤ (IntKind.wrap IntKind.i64 ((240 : Int) + r4.1))) && decide ((IntKind.wrap IntKind.i64 ((240 : Int) + r4.1)) * 1 ≤ 140737488355328) then
        Option.bind (c85 (r1.1, r4.2.1, r4.2.2, ([(1 : Int), (2 : Int), (1 : Int), (2 : Int), (0 : Int), (3 : Int)] : List Int))) fun r5 =>
         some (r5.1, List.replicate (Int.toNat (IntKind.wrap IntKind.i64 ((240 : Int) + r4.1))) (0 : Int))
       else
        none
     else
      Option.bind (c85 (r1.1, r3.2.1, r3.2.2, ([(1 : Int), (2 : Int), (1 : Int), (2 : Int), (0 : Int), (3 : Int)] : List Int))) fun r6 =>
       some (r6.1, r2.1)
noncomputable def spec_DrawPutPage.sig : Sig := ⟨[.val false [⟨.row K0, 0, 0, false⟩]], [(.one, [(.int .i64, 0)]), (.one, [(.row K0, 1)])]⟩
noncomputable def spec_DrawPutPage.hint : Nat → Hint
  | _ => ⟨[], []⟩
noncomputable def spec_DrawPutPage.join : Nat → Option Hint
  | _ => none
noncomputable def spec_DrawPutPage.body : Code := (Try.f36).body.getD .skip
noncomputable def spec_DrawPutPage.rv : List ResultVar := (Try.f36).results.toList
noncomputable def impl_copyBytes.m  : (List Int) → Option (List Int)
  | a0_0 =>
  bif decide ((List.length ([] : List Int) + List.length a0_0) * 1 ≤ 140737488355328) then
   some (([] : List Int) ++ a0_0)
  else
   none
noncomputable def impl_copyBytes.sig : Sig := ⟨[.val false [⟨.row K0, 0, 0, false⟩]], [(.one, [(.row K0, 1)])]⟩
noncomputable def impl_copyBytes.hint : Nat → Hint
  | _ => ⟨[], []⟩
noncomputable def impl_copyBytes.join : Nat → Option Hint
  | _ => none
noncomputable def impl_copyBytes.body : Code := (Try.f125).body.getD .skip
noncomputable def impl_copyBytes.rv : List ResultVar := (Try.f125).results.toList
noncomputable def impl_PutSum.m (c70 : (List Int) → Option (List Int)) (c125 : (List Int) → Option (List Int)) : (List Int) → Option (List Int)
  | a0_0 =>
  Option.bind (c125 a0_0) fun r1 =>
   Option.bind (c70 r1) fun r2 =>
    some r2
noncomputable def impl_PutSum.sig : Sig := ⟨[.val false [⟨.row K0, 0, 0, false⟩]], [(.one, [(.row K0, 1)])]⟩
noncomputable def impl_PutSum.hint : Nat → Hint
  | _ => ⟨[], []⟩
noncomputable def impl_PutSum.join : Nat → Option Hint
  | _ => none
noncomputable def impl_PutSum.body : Code := (Try.f126).body.getD .skip
noncomputable def impl_PutSum.rv : List ResultVar := (Try.f126).results.toList
noncomputable def impl_GetSum.m (c125 : (List Int) → Option (List Int)) (c126 : (List Int) → Option (List Int)) : (List Int) → Option ((List Int) × Bool)
  | a0_0 =>
  bif decide ((List.length a0_0 : Int) < (4 : Int)) then
   some (([] : List Int), false)
  else
   bif decide (0 ≤ (0 : Int)) && decide ((0 : Int) ≤ (IntKind.wrap IntKind.i64 ((List.length a0_0 : Int) - (4 : Int)))) && decide ((IntKind.wrap IntKind.i64 ((List.length a0_0 : Int) - (4 : Int))) ≤ (List.length a0_0 : Int)) then
    Option.bind (c125 (List.drop (Int.toNat (0 : Int)) (List.take (Int.toNat (IntKind.wrap IntKind.i64 ((List.length a0_0 : Int) - (4 : Int)))) a0_0))) fun r1 =>
     Option.bind (c126 r1) fun r2 =>
      bif !(ByteArray.toList (numsStr r2) == ByteArray.toList (numsStr a0_0)) then
       some (([] : List Int), false)
      else
       some (r1, true)
   else
    none
noncomputable def impl_GetSum.sig : Sig := ⟨[.val false [⟨.row K0, 0, 0, false⟩]], [(.one, [(.row K0, 1)]), (.one, [(.bool, 0)])]⟩
noncomputable def impl_GetSum.hint : Nat → Hint
  | _ => ⟨[], []⟩
noncomputable def impl_GetSum.join : Nat → Option Hint
  | _ => none
noncomputable def impl_GetSum.body : Code := (Try.f86).body.getD .skip
noncomputable def impl_GetSum.rv : List ResultVar := (Try.f86).results.toList
noncomputable def impl_GetU.s0 (L0 : ((List Int) × Int × Int × Int) → Option (Int × Int × Bool)) : ((List Int) × Int × Int × Int) → Option (Int × Int × Bool)
  | (x0, x1, x2, x3) =>
  bif decide (x3 < (3 : Int)) then
   bif decide (x1 ≥ (0 : Int)) then
    bif decide (x1 < (IntKind.wrap IntKind.i64 ((List.length x0 : Int) - x3))) then
     bif decide (0 ≤ (IntKind.wrap IntKind.i64 (x1 + x3))) && decide ((IntKind.wrap IntKind.i64 (x1 + x3)) < (List.length x0 : Int)) then
      bif decide (¬ (128 : Int) = 0) then
       bif decide (¬ (IntKind.wrap IntKind.i64 ((7 : Int) * x3)) < 0) then
        bif decide ((IntKind.wrap IntKind.i64 (List.getD x0 (Int.toNat (IntKind.wrap IntKind.i64 (x1 + x3))) (0 : Int))) ≥ (128 : Int)) then
         L0 (x0, x1, IntKind.wrap IntKind.i64 (x2 + (IntKind.wrap IntKind.i64 ((Int.tmod (IntKind.wrap IntKind.i64 (List.getD x0 (Int.toNat (IntKind.wrap IntKind.i64 (x1 + x3))) (0 : Int))) (128 : Int)) * 2 ^ (min (Int.toNat (IntKind.wrap IntKind.i64 ((7 : Int) * x3))) (IntKind.bits IntKind.i64))))), IntKind.wrap IntKind.i64 (x3 + (1 : Int)))
        else
         bif (IntKind.wrap IntKind.i64 (List.getD x0 (Int.toNat (IntKind.wrap IntKind.i64 (x1 + x3))) (0 : Int))) == (0 : Int) then
          bif decide (x3 > (0 : Int)) then
           some ((0 : Int), (0 : Int), false)
          else
           bif decide ((IntKind.wrap IntKind.i64 (x2 + (IntKind.wrap IntKind.i64 ((Int.tmod (IntKind.wrap IntKind.i64 (List.getD x0 (Int.toNat (IntKind.wrap IntKind.i64 (x1 + x3))) (0 : Int))) (128 : Int)) * 2 ^ (min (Int.toNat (IntKind.wrap IntKind.i64 ((7 : Int) * x3))) (IntKind.bits IntKind.i64)))))) > (1000000 : Int)) then
            some ((0 : Int), (0 : Int), false)
           else
            some (IntKind.wrap IntKind.i64 (x2 + (IntKind.wrap IntKind.i64 ((Int.tmod (IntKind.wrap IntKind.i64 (List.getD x0 (Int.toNat (IntKind.wrap IntKind.i64 (x1 + x3))) (0 : Int))) (128 : Int)) * 2 ^ (min (Int.toNat (IntKind.wrap IntKind.i64 ((7 : Int) * x3))) (IntKind.bits IntKind.i64))))), IntKind.wrap IntKind.i64 ((IntKind.wrap IntKind.i64 (x1 + x3)) + (1 : Int)), true)
         else
          bif decide ((IntKind.wrap IntKind.i64 (x2 + (IntKind.wrap IntKind.i64 ((Int.tmod (IntKind.wrap IntKind.i64 (List.getD x0 (Int.toNat (IntKind.wrap IntKind.i64 (x1 + x3))) (0 : Int))) (128 : Int)) * 2 ^ (min (Int.toNat (IntKind.wrap IntKind.i64 ((7 : Int) * x3))) (IntKind.bits IntKind.i64)))))) > (1000000 : Int)) then
           some ((0 : Int), (0 : Int), false)
          else
           some (IntKind.wrap IntKind.i64 (x2 + (IntKind.wrap IntKind.i64 ((Int.tmod (IntKind.wrap IntKind.i64 (List.getD x0 (Int.toNat (IntKind.wrap IntKind.i64 (x1 + x3))) (0 : Int))) (128 : Int)) * 2 ^ (min (Int.toNat (IntKind.wrap IntKind.i64 ((7 : Int) * x3))) (IntKind.bits IntKind.i64))))), IntKind.wrap IntKind.i64 ((IntKind.wrap IntKind.i64 (x1 + x3)) + (1 : Int)), true)
       else
        none
      else
       none
     else
      none
    else
     some ((0 : Int), (0 : Int), false)
   else
    some ((0 : Int), (0 : Int), false)
  else
   some ((0 : Int), (0 : Int), false)
noncomputable def impl_GetU.ll0 : ((List Int) × Int × Int × Int) → LS
  | (x0, x1, x2, x3) => ⟨[.cv ⟨.row K0, x0⟩, .cv ⟨.int .i64, x1⟩, .cv ⟨.int .i64, x2⟩, .cv ⟨.int .i64, x3⟩], []⟩
noncomputable def impl_GetU.m (B0 : ((List Int) × Int × Int × Int) → Option (Int × Int × Bool)) : ((List Int) × Int) → Option (Int × Int × Bool)
  | (a0_0, a1_0) =>
  B0 (a0_0, a1_0, (0 : Int), (0 : Int))
noncomputable def impl_GetU.sig : Sig := ⟨[.val false [⟨.row K0, 0, 0, false⟩], .val false [⟨.int .i64, 0, 0, false⟩]], [(.one, [(.int .i64, 0)]), (.one, [(.int .i64, 0)]), (.one, [(.bool, 0)])]⟩
noncomputable def impl_GetU.hint : Nat → Hint
  | 0 => ⟨[(0, .keep), (1, .keep), (7, .keep), (8, .keep)], []⟩
  | _ => ⟨[], []⟩
noncomputable def impl_GetU.join : Nat → Option Hint
  | _ => none
noncomputable def impl_GetU.body : Code := (Try.f87).body.getD .skip
noncomputable def impl_GetU.rv : List ResultVar := (Try.f87).results.toList
noncomputable def impl_GetText.m (c87 : (List Int) × Int → Option (Int × Int × Bool)) : ((List Int) × Int) → Option (ByteArray × Int × Bool)
  | (a0_0, a1_0) =>
  Option.bind (c87 (a0_0, a1_0)) fun r1 =>
   bif !(r1.2.2) then
    some (({ data := #[] } : ByteArray), (0 : Int), false)
   else
    bif decide (r1.1 > (IntKind.wrap IntKind.i64 ((List.length a0_0 : Int) - r1.2.1))) then
     some (({ data := #[] } : ByteArray), (0 : Int), false)
    else
     bif decide (0 ≤ r1.2.1) && decide (r1.2.1 ≤ (IntKind.wrap IntKind.i64 (r1.2.1 + r1.1))) && decide ((IntKind.wrap IntKind.i64 (r1.2.1 + r1.1)) ≤ (List.length a0_0 : Int)) then
      some (numsStr (List.drop (Int.toNat r1.2.1) (List.take (Int.toNat (IntKind.wrap IntKind.i64 (r1.2.1 + r1.1))) a0_0)), IntKind.wrap IntKind.i64 (r1.2.1 + r1.1), true)
     else
      none
noncomputable def impl_GetText.sig : Sig := ⟨[.val false [⟨.row K0, 0, 0, false⟩], .val false [⟨.int .i64, 0, 0, false⟩]], [(.one, [(.str, 0)]), (.one, [(.int .i64, 0)]), (.one, [(.bool, 0)])]⟩
noncomputable def impl_GetText.hint : Nat → Hint
  | _ => ⟨[], []⟩
noncomputable def impl_GetText.join : Nat → Option Hint
  | _ => none
noncomputable def impl_GetText.body : Code := (Try.f88).body.getD .skip
noncomputable def impl_GetText.rv : List ResultVar := (Try.f88).results.toList
noncomputable def impl_GetPage.m (c21 : Int × (List Int) → Option (List Int)) (c86 : (List Int) → Option ((List Int) × Bool)) (c87 : (List Int) × Int → Option (Int × Int × Bool)) (c88 : (List Int) × Int → Option (ByteArray × Int × Bool)) : (List Int) → Option (Int × (List Int) × Bool)
  | a0_0 =>
  Option.bind (c86 a0_0) fun r1 =>
   Option.bind (c87 (r1.1, (0 : Int))) fun r2 =>
    Option.bind (c88 (r1.1, r2.2.1)) fun r3 =>
     bif !(r1.2) then
      some ((0 : Int), ([] : List Int), false)
     else
      bif !(r2.2.2) then
       some ((0 : Int), ([] : List Int), false)
      else
       bif !(r3.2.2) then
        some ((0 : Int), ([] : List Int), false)
       else
        bif decide (r2.1 < (1 : Int)) then
         some ((0 : Int), ([] : List Int), false)
        else
         Option.bind (c21 (r2.1, strNums r3.1)) fun r4 =>
          bif !(ByteArray.toList (numsStr r4) == ByteArray.toList (numsStr a0_0)) then
           some ((0 : Int), ([] : List Int), false)
          else
           some (r2.1, strNums r3.1, true)
noncomputable def impl_GetPage.sig : Sig := ⟨[.val false [⟨.row K0, 0, 0, false⟩]], [(.one, [(.int .i64, 0)]), (.one, [(.row K0, 1)]), (.one, [(.bool, 0)])]⟩
noncomputable def impl_GetPage.hint : Nat → Hint
  | _ => ⟨[], []⟩
noncomputable def impl_GetPage.join : Nat → Option Hint
  | _ => none
noncomputable def impl_GetPage.body : Code := (Try.f37).body.getD .skip
noncomputable def impl_GetPage.rv : List ResultVar := (Try.f37).results.toList
noncomputable def laws_at.m  : ((List Int) × Int) → Option (Int)
  | (a0_0, a1_0) =>
  bif decide (a1_0 < (List.length a0_0 : Int)) then
   bif decide (0 ≤ a1_0) && decide (a1_0 < (List.length a0_0 : Int)) then
    some (IntKind.wrap IntKind.i64 (List.getD a0_0 (Int.toNat a1_0) (0 : Int)))
   else
    none
  else
   bif decide (¬ (256 : Int) = 0) then
    some (Int.tmod (IntKind.wrap IntKind.i64 ((IntKind.wrap IntKind.i64 (a1_0 * (31 : Int))) + (IntKind.wrap IntKind.i64 ((List.length a0_0 : Int) * (7 : Int))))) (256 : Int))
   else
    none
noncomputable def laws_at.sig : Sig := ⟨[.val false [⟨.row K0, 0, 0, false⟩], .val false [⟨.int .i64, 0, 0, false⟩]], [(.one, [(.int .i64, 0)])]⟩
noncomputable def laws_at.hint : Nat → Hint
  | _ => ⟨[], []⟩
noncomputable def laws_at.join : Nat → Option Hint
  | _ => none
noncomputable def laws_at.body : Code := (Try.f38).body.getD .skip
noncomputable def laws_at.rv : List ResultVar := (Try.f38).results.toList
noncomputable def laws_sameBytes.s0 (L0 : ((List Int) × (List Int) × Int) → Option (Bool)) : ((List Int) × (List Int) × Int) → Option (Bool)
  | (x0, x1, x2) =>
  bif decide (x2 < (List.length x0 : Int)) then
   bif decide (0 ≤ x2) && decide (x2 < (List.length x0 : Int)) then
    bif decide (0 ≤ x2) && decide (x2 < (List.length x1 : Int)) then
     bif (List.getD x0 (Int.toNat x2) (0 : Int)) != (List.getD x1 (Int.toNat x2) (0 : Int)) then
      some false
     else
      L0 (x0, x1, IntKind.wrap IntKind.i64 (x2 + (1 : Int)))
    else
     none
   else
    none
  else
   some true
noncomputable def laws_sameBytes.ll0 : ((List Int) × (List Int) × Int) → LS
  | (x0, x1, x2) => ⟨[.cv ⟨.row K0, x0⟩, .cv ⟨.row K0, x1⟩, .cv ⟨.int .i64, x2⟩], []⟩
noncomputable def laws_sameBytes.m (B0 : ((List Int) × (List Int) × Int) → Option (Bool)) : ((List Int) × (List Int)) → Option (Bool)
  | (a0_0, a1_0) =>
  bif (List.length a0_0 : Int) != (List.length a1_0 : Int) then
   some false
  else
   B0 (a0_0, a1_0, (0 : Int))
noncomputable def laws_sameBytes.sig : Sig := ⟨[.val false [⟨.row K0, 0, 0, false⟩], .val false [⟨.row K0, 0, 0, false⟩]], [(.one, [(.bool, 0)])]⟩
noncomputable def laws_sameBytes.hint : Nat → Hint
  | 0 => ⟨[(0, .keep), (1, .keep), (5, .keep)], []⟩
  | _ => ⟨[], []⟩
noncomputable def laws_sameBytes.join : Nat → Option Hint
  | _ => none
noncomputable def laws_sameBytes.body : Code := (Try.f39).body.getD .skip
noncomputable def laws_sameBytes.rv : List ResultVar := (Try.f39).results.toList
noncomputable def laws_FnPages.m (c21 : Int × (List Int) → Option (List Int)) (c35 : (List Int) → Option (Bool)) (c36 : (List Int) → Option (Int × (List Int))) (c37 : (List Int) → Option (Int × (List Int) × Bool)) (c38 : (List Int) × Int → Option (Int)) (c39 : (List Int) × (List Int) → Option (Bool)) : (List Int) → Option (Bool)
  | a0_0 =>
  Option.bind (c35 a0_0) fun r1 =>
   bif r1 then
    some true
   else
    Option.bind (c36 a0_0) fun r2 =>
     Option.bind (c21 (r2.1, r2.2)) fun r3 =>
      bif decide (r2.1 < (1 : Int)) then
       some ((List.length r3 : Int) == (0 : Int))
      else
       bif decide (r2.1 > (2 : Int)) then
        some ((List.length r3 : Int) == (0 : Int))
       else
        bif decide ((List.length r2.2 : Int) > (240 : Int)) then
         some ((List.length r3 : Int) == (0 : Int))
        else
         Option.bind (c37 r3) fun r4 =>
          bif (List.length r3 : Int) == (0 : Int) then
           some false
          else
           bif decide ((List.length r3 : Int) > (256 : Int)) then
            some false
           else
            Option.bind (c38 (a0_0, (2 : Int))) fun r5 =>
             bif decide (¬ (List.length r3 : Int) = 0) then
              bif decide (0 ≤ (0 : Int)) && decide ((0 : Int) ≤ (Int.tmod r5 (List.length r3 : Int))) && decide ((Int.tmod r5 (List.length r3 : Int)) ≤ (List.length r3 : Int)) then
               Option.bind (c37 (List.take (Int.toNat (Int.tmod r5 (List.length r3 : Int))) r3)) fun r6 =>
                Option.bind (c38 (a0_0, (3 : Int))) fun r7 =>
                 bif decide (¬ (List.length r3 : Int) = 0) then
                  bif decide (0 ≤ (Int.tmod r7 (List.length r3 : Int))) && decide ((Int.tmod r7 (List.length r3 : Int)) < (List.length r3 : Int)) then
                   Option.bind (c38 (a0_0, (4 : Int))) fun r8 =>
                    bif decide (¬ (8 : Int) = 0) then
                     bif decide (¬ (IntKind.wrap IntKind.u64 (Int.tmod r8 (8 : Int))) < 0) then
                      bif decide (0 ≤ (Int.tmod r7 (List.length r3 : Int))) && decide ((Int.tmod r7 (List.length r3 : Int)) < (List.length r3 : Int)) then
                       Option.bind (c37 (List.set r3 (Int.toNat (Int.tmod r7 (List.length r3 : Int))) (IntKind.wrap IntKind.u8 ((BitVec.ofInt (IntKind.bits IntKind.u8) (List.getD r3 (Int.toNat (Int.tmod r7 (List.length r3 : Int))) (0 : Int)) ^^^ BitVec.ofInt (IntKind.bits IntKind.u8) (IntKind.wrap IntKind.u8 ((1 : Int) * 2 ^ (min (Int.toNat (IntKind.wrap IntKind.u64 (Int.tmod r8 (8 : Int)))) (IntKind.bits IntKind.u8))))).toNat : Int)))) fun r9 =>
                        bif r4.2.2 then
                         bif r4.1 == r2.1 then
                          Option.bind (c39 (r4.2.1, r2.2)) fun r10 =>
                           bif r10 then
                            bif !(r6.2.2) then
                             some (!(r9.2.2))
                            else
                             some false
                           else
                            some false
                         else
                          some false
                        else
                         some false
                      else
                       none
                     else
                      none
                    else
                     none
                  else
                   none
                 else
                  none
              else
               none
             else
              none
noncomputable def laws_FnPages.sig : Sig := ⟨[.val false [⟨.row K0, 0, 0, false⟩]], [(.one, [(.bool, 0)])]⟩
noncomputable def laws_FnPages.hint : Nat → Hint
  | _ => ⟨[], []⟩
noncomputable def laws_FnPages.join : Nat → Option Hint
  | _ => none
noncomputable def laws_FnPages.body : Code := (Try.f7).body.getD .skip
noncomputable def laws_FnPages.rv : List ResultVar := (Try.f7).results.toList
noncomputable def fns : Nat → Fn
  | 69 => ⟨15, impl_in.sig, impl_in.rv, impl_in.body, impl_in.hint, impl_in.join⟩
  | 118 => ⟨32, impl_Crc.sig, impl_Crc.rv, impl_Crc.body, impl_Crc.hint, impl_Crc.join⟩
  | 70 => ⟨20, impl_addSum.sig, impl_addSum.rv, impl_addSum.body, impl_addSum.hint, impl_addSum.join⟩
  | 119 => ⟨12, impl_clamp.sig, impl_clamp.rv, impl_clamp.body, impl_clamp.hint, impl_clamp.join⟩
  | 72 => ⟨23, impl_addU.sig, impl_addU.rv, impl_addU.body, impl_addU.hint, impl_addU.join⟩
  | 71 => ⟨11, impl_addText.sig, impl_addText.rv, impl_addText.body, impl_addText.hint, impl_addText.join⟩
  | 21 => ⟨19, impl_PutPage.sig, impl_PutPage.rv, impl_PutPage.body, impl_PutPage.hint, impl_PutPage.join⟩
  | 35 => ⟨6, laws_big.sig, laws_big.rv, laws_big.body, laws_big.hint, laws_big.join⟩
  | 81 => ⟨32, spec_l1New.sig, spec_l1New.rv, spec_l1New.body, spec_l1New.hint, spec_l1New.join⟩
  | 124 => ⟨58, spec_l1Byte.sig, spec_l1Byte.rv, spec_l1Byte.body, spec_l1Byte.hint, spec_l1Byte.join⟩
  | 84 => ⟨31, spec_l1Below.sig, spec_l1Below.rv, spec_l1Below.body, spec_l1Below.hint, spec_l1Below.join⟩
  | 85 => ⟨12, spec_l1Int.sig, spec_l1Int.rv, spec_l1Int.body, spec_l1Int.hint, spec_l1Int.join⟩
  | 123 => ⟨20, spec_l1Bytes.sig, spec_l1Bytes.rv, spec_l1Bytes.body, spec_l1Bytes.hint, spec_l1Bytes.join⟩
  | 82 => ⟨8, spec_l1Some.sig, spec_l1Some.rv, spec_l1Some.body, spec_l1Some.hint, spec_l1Some.join⟩
  | 83 => ⟨9, spec_l1Once.sig, spec_l1Once.rv, spec_l1Once.body, spec_l1Once.hint, spec_l1Once.join⟩
  | 36 => ⟨20, spec_DrawPutPage.sig, spec_DrawPutPage.rv, spec_DrawPutPage.body, spec_DrawPutPage.hint, spec_DrawPutPage.join⟩
  | 125 => ⟨5, impl_copyBytes.sig, impl_copyBytes.rv, impl_copyBytes.body, impl_copyBytes.hint, impl_copyBytes.join⟩
  | 126 => ⟨6, impl_PutSum.sig, impl_PutSum.rv, impl_PutSum.body, impl_PutSum.hint, impl_PutSum.join⟩
  | 86 => ⟨21, impl_GetSum.sig, impl_GetSum.rv, impl_GetSum.body, impl_GetSum.hint, impl_GetSum.join⟩
  | 87 => ⟨57, impl_GetU.sig, impl_GetU.rv, impl_GetU.body, impl_GetU.hint, impl_GetU.join⟩
  | 88 => ⟨37, impl_GetText.sig, impl_GetText.rv, impl_GetText.body, impl_GetText.hint, impl_GetText.join⟩
  | 37 => ⟨58, impl_GetPage.sig, impl_GetPage.rv, impl_GetPage.body, impl_GetPage.hint, impl_GetPage.join⟩
  | 38 => ⟨21, laws_at.sig, laws_at.rv, laws_at.body, laws_at.hint, laws_at.join⟩
  | 39 => ⟨26, laws_sameBytes.sig, laws_sameBytes.rv, laws_sameBytes.body, laws_sameBytes.hint, laws_sameBytes.join⟩
  | 7 => ⟨105, laws_FnPages.sig, laws_FnPages.rv, laws_FnPages.body, laws_FnPages.hint, laws_FnPages.join⟩
  | _ => ⟨0, ⟨[], []⟩, [], .refuse "", fun _ => ⟨[], []⟩, fun _ => none⟩
noncomputable def sigs (f : Nat) : Sig := (fns f).sig
end
end Go.PV.T
