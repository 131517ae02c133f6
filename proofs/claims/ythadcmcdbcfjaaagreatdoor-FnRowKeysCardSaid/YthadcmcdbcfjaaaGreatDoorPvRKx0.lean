/- Functions of the program by their own lists and numbers. No condition beyond those in each statement. -/
import Derived.Test.YthadcmcdbcfjaaaGreatDoorPvLcC
import Derived.Test.YthadcmcdbcfjaaaGreatDoorProg
import Derived.KernelRfl
set_option linter.unusedVariables false
set_option linter.unusedSimpArgs false
set_option maxRecDepth 100000
set_option linter.unusedVariables false
namespace Go.PV.T
open Go.Proofs
noncomputable section
open IntKind (wrap i64)
open Int (toNat)
open List (getD)
abbrev K0 : SS := .one (.str)
abbrev K1 : SS := .one (.int .u8)
abbrev K2 : SS := .one (.int .i64)
abbrev K3 : SS := .cons (.int .i64) (.one (.bool))
abbrev K4 : SS := .cons (.str) (.cons (.int .i64) (.one (.bool)))
abbrev K5 : SS := .cons (.str) (.cons (.bool) (.one (.row K3)))
abbrev K6 : SS := .cons (.str) (.cons (.row K4) (.cons (.row K3) (.one (.row K5))))
abbrev K7 : SS := .cons (.int .i64) (.cons (.int .i64) (.one (.str)))
abbrev K8 : SS := .cons (.int .i64) (.cons (.int .i64) (.cons (.bool) (.one (.bool))))
abbrev Y0 := ByteArray × Bool × (List (Int × Bool))
abbrev Y1 := ByteArray × (List (ByteArray × Int × Bool)) × (List (Int × Bool)) × (List (ByteArray × Bool × (List (Int × Bool))))
abbrev Y2 := (List Int) × Int × Int × Int
abbrev Y3 := (List Int) × Int × Int × (List Int)
abbrev Y4 := (List Int) × Int × Int × (List ByteArray)
abbrev Y5 := (List (Int × Bool)) × Int × Int
abbrev Y6 := (List Int) × Int × Int × ByteArray
abbrev Y7 := ByteArray × (List (ByteArray × Int × Bool)) × (List (Int × Bool)) × (List (ByteArray × Bool × (List (Int × Bool)))) × Int × Int
abbrev Y8 := Int × (List Int) × Int × Int × ByteArray × (List (ByteArray × Int × Bool)) × (List (Int × Bool)) × (List (ByteArray × Bool × (List (Int × Bool)))) × ByteArray × (List (ByteArray × Int × Bool)) × (List (Int × Bool)) × (List (ByteArray × Bool × (List (Int × Bool)))) × (List ByteArray)
abbrev Y9 := (List (ByteArray × (List (ByteArray × Int × Bool)) × (List (Int × Bool)) × (List (ByteArray × Bool × (List (Int × Bool)))))) × Int × Int
abbrev Y10 := (List Int) × Int × Int × ByteArray × Int × Bool
abbrev Y11 := Int × Int × ByteArray × Int × Int
abbrev Y12 := (List Int) × Int × Int × ByteArray × (List (ByteArray × Int × Bool)) × (List (Int × Bool)) × (List (ByteArray × Bool × (List (Int × Bool))))
abbrev Y13 := (List (Int × Int × ByteArray)) × Int × Int
abbrev Y14 := Int × (List Int) × Int × Int × ByteArray × (List (ByteArray × Int × Bool)) × (List (Int × Bool)) × (List (ByteArray × Bool × (List (Int × Bool)))) × (List (Int × Int × ByteArray))
abbrev Y15 := (List Int) × (List Int) × Int
abbrev Y16 := ByteArray × Int × Int × (List ByteArray)
abbrev Y17 := (List (ByteArray × Bool × (List (Int × Bool)))) × Int × Int × ByteArray × (List (ByteArray × Int × Bool)) × (List (Int × Bool)) × (List (ByteArray × Bool × (List (Int × Bool))))
abbrev Y18 := (List (ByteArray × Int × Bool)) × Int × Int × ByteArray × (List (ByteArray × Int × Bool)) × (List (Int × Bool)) × (List (ByteArray × Bool × (List (Int × Bool))))
abbrev Y19 := (List (ByteArray × Int × Bool)) × Int × Int × (List (ByteArray × Int × Bool)) × Int × Int × ByteArray × (List (ByteArray × Int × Bool)) × (List (Int × Bool)) × (List (ByteArray × Bool × (List (Int × Bool)))) × ByteArray × Int × Bool
abbrev Y20 := (List (ByteArray × Bool × (List (Int × Bool)))) × Int × Int × (List (ByteArray × Bool × (List (Int × Bool)))) × Int × Int × ByteArray × (List (ByteArray × Int × Bool)) × (List (Int × Bool)) × (List (ByteArray × Bool × (List (Int × Bool)))) × ByteArray × Bool × (List (Int × Bool))
abbrev Y21 := ByteArray × (List (ByteArray × Int × Bool)) × (List (Int × Bool)) × (List (ByteArray × Bool × (List (Int × Bool)))) × (List (Int × Bool))
abbrev Y22 := (List (Int × Bool)) × (List (Int × Bool)) × Int × Int × (List (Int × Bool)) × Int × Int × ByteArray × (List (ByteArray × Int × Bool)) × (List (Int × Bool)) × (List (ByteArray × Bool × (List (Int × Bool)))) × Int × Bool
abbrev Y23 := (List (Int × Bool)) × (List (Int × Bool)) × Int × Int × ByteArray × (List (ByteArray × Int × Bool)) × (List (Int × Bool)) × (List (ByteArray × Bool × (List (Int × Bool))))
abbrev Y24 := (List (Int × Bool)) × Int × Int × ByteArray × (List (ByteArray × Int × Bool)) × (List (Int × Bool)) × (List (ByteArray × Bool × (List (Int × Bool))))
abbrev Y25 := (List (ByteArray × (List (ByteArray × Int × Bool)) × (List (Int × Bool)) × (List (ByteArray × Bool × (List (Int × Bool))))))
abbrev Y26 := (List (ByteArray × (List (ByteArray × Int × Bool)) × (List (Int × Bool)) × (List (ByteArray × Bool × (List (Int × Bool)))))) × Int × (List (ByteArray × (List (ByteArray × Int × Bool)) × (List (Int × Bool)) × (List (ByteArray × Bool × (List (Int × Bool)))))) × Int × Int × ByteArray × (List (ByteArray × Int × Bool)) × (List (Int × Bool)) × (List (ByteArray × Bool × (List (Int × Bool)))) × Int × Bool × (List (ByteArray × (List (ByteArray × Int × Bool)) × (List (Int × Bool)) × (List (ByteArray × Bool × (List (Int × Bool)))))) × Int × Int × ByteArray × (List (ByteArray × Int × Bool)) × (List (Int × Bool)) × (List (ByteArray × Bool × (List (Int × Bool))))
abbrev Y27 := (List (ByteArray × (List (ByteArray × Int × Bool)) × (List (Int × Bool)) × (List (ByteArray × Bool × (List (Int × Bool)))))) × (List (ByteArray × (List (ByteArray × Int × Bool)) × (List (Int × Bool)) × (List (ByteArray × Bool × (List (Int × Bool)))))) × Int × Int
abbrev Y28 := (List (Int × Int × Bool × Bool))
abbrev Y29 := (List (Int × Int × Bool × Bool)) × Int × Int
abbrev Y30 := Int × Int × Bool × Bool × Int × Int × ByteArray
abbrev Y31 := (List (Int × Int × Bool × Bool)) × (List (Int × Int × ByteArray))
abbrev Y32 := (List (Int × Int × Bool × Bool)) × (List (Int × Int × ByteArray)) × Int × Int
abbrev Y33 := (List (ByteArray × Int × Bool)) × Int × Int × (List (Int × Int × Bool × Bool))
abbrev Y34 := (List (Int × Int × ByteArray))
abbrev Y35 := (List (Int × Int × ByteArray)) × (List (Int × Int × Bool × Bool)) × Int × Int × (List (Int × Int × ByteArray))
abbrev Y36 := (List (Int × Bool)) × Int × Int × ByteArray × (List (ByteArray × Int × Bool)) × (List (Int × Bool)) × (List (ByteArray × Bool × (List (Int × Bool)))) × (List (Int × Int × Bool × Bool))
abbrev Y37 := ByteArray × (List (ByteArray × Int × Bool)) × (List (Int × Bool)) × (List (ByteArray × Bool × (List (Int × Bool)))) × Int
abbrev Y38 := Int × Int × Int × (List Int)
abbrev Y39 := ByteArray × Int × (List Int)
abbrev Y40 := (List Int) × Int × Int × Bool × Bool × Int × Int × ByteArray
abbrev Y41 := (List (Int × Int × Bool × Bool)) × (List (Int × Int × ByteArray)) × Int × Int × (List Int)
abbrev Y42 := (List (ByteArray × (List (ByteArray × Int × Bool)) × (List (Int × Bool)) × (List (ByteArray × Bool × (List (Int × Bool)))))) × Int × Int × (List (Int × Int × ByteArray))
abbrev Y43 := (List ByteArray) × ByteArray
abbrev Y44 := (List ByteArray) × ByteArray × Int
abbrev Y45 := Int × ByteArray × (List (ByteArray × Int × Bool)) × (List (Int × Bool)) × (List (ByteArray × Bool × (List (Int × Bool))))
abbrev Y46 := ByteArray × (List (ByteArray × Int × Bool)) × (List (Int × Bool)) × (List (ByteArray × Bool × (List (Int × Bool)))) × ByteArray
abbrev Y47 := ByteArray × Int × ByteArray × (List (ByteArray × Int × Bool)) × (List (Int × Bool)) × (List (ByteArray × Bool × (List (Int × Bool))))
abbrev Y48 := Int × Int × ByteArray × (List (ByteArray × Int × Bool)) × (List (Int × Bool)) × (List (ByteArray × Bool × (List (Int × Bool))))
abbrev Y49 := (List (Int × Bool)) × Int × ByteArray × (List (ByteArray × Int × Bool)) × (List (Int × Bool)) × (List (ByteArray × Bool × (List (Int × Bool))))
abbrev Y50 := (List (ByteArray × (List (ByteArray × Int × Bool)) × (List (Int × Bool)) × (List (ByteArray × Bool × (List (Int × Bool)))))) × Int × Int × Int × Bool
abbrev Y51 := (List (ByteArray × (List (ByteArray × Int × Bool)) × (List (Int × Bool)) × (List (ByteArray × Bool × (List (Int × Bool)))))) × Int
abbrev Y52 := (List (Int × Int × Bool × Bool)) × Int
abbrev Y53 := (List (Int × Int × Bool × Bool)) × (List (Int × Int × ByteArray)) × Int
abbrev Y54 := ByteArray × (List (ByteArray × Int × Bool)) × (List (Int × Bool)) × (List (ByteArray × Bool × (List (Int × Bool)))) × Int × Bool
abbrev Y55 := Int × ByteArray × (List (ByteArray × Int × Bool)) × (List (Int × Bool)) × (List (ByteArray × Bool × (List (Int × Bool)))) × (List (Int × Int × Bool × Bool))
abbrev Y56 := (List (Int × Bool)) × Int × ByteArray × (List (ByteArray × Int × Bool)) × (List (Int × Bool)) × (List (ByteArray × Bool × (List (Int × Bool)))) × (List (Int × Int × Bool × Bool))
abbrev Y57 := (List (Int × Int × Bool × Bool)) × (List (Int × Int × ByteArray)) × Int × (List Int)
abbrev Y58 := (List (Int × Int × Bool × Bool)) × (List (Int × Int × ByteArray)) × Int × (List (Int × Int × ByteArray))
abbrev Y59 := Int × (List Int) × Int × Int × Int
abbrev Y60 := Int × (List Int) × Int × Int
abbrev Y61 := (List (Int × Int × ByteArray)) × Int × Int × (List Int)
abbrev Y62 := (List (ByteArray × (List (ByteArray × Int × Bool)) × (List (Int × Bool)) × (List (ByteArray × Bool × (List (Int × Bool)))))) × Int × (List (Int × Int × ByteArray))
abbrev Y63 := (List (ByteArray × (List (ByteArray × Int × Bool)) × (List (Int × Bool)) × (List (ByteArray × Bool × (List (Int × Bool)))))) × Int × (List (Int × Int × ByteArray)) × Int
abbrev Y64 := (List (Int × Int × ByteArray)) × Int × (List Int)
abbrev Y65 := (List (ByteArray × (List (ByteArray × Int × Bool)) × (List (Int × Bool)) × (List (ByteArray × Bool × (List (Int × Bool)))))) × Int × (List (Int × Int × ByteArray)) × (List (Int × Int × ByteArray))
abbrev Y66 := (List (Int × Int × ByteArray)) × (List (Int × Int × ByteArray))
abbrev Y67 := (List (Int × Int × ByteArray)) × (List (Int × Int × ByteArray)) × Int × Int
abbrev Y68 := Int × Int × ByteArray × Int × Int × ByteArray
abbrev Y69 := Int × Int × Bool × Bool × Int × Int × ByteArray × Int × Int × ByteArray
abbrev Y70 := (List (Int × Int × Bool × Bool)) × (List (Int × Int × ByteArray)) × (List (Int × Int × ByteArray))
abbrev Y71 := (List (Int × Int × Bool × Bool)) × (List (Int × Int × ByteArray)) × (List (Int × Int × ByteArray)) × Int
abbrev Y72 := Int × Bool × Int × (List (ByteArray × (List (ByteArray × Int × Bool)) × (List (Int × Bool)) × (List (ByteArray × Bool × (List (Int × Bool)))))) × (List (Int × Int × ByteArray)) × (List (Int × Int × ByteArray))
abbrev Z5 : Int × Bool := ((0 : Int), false)
abbrev Z4 : ByteArray × Int × Bool := (ByteArray.empty, (0 : Int), false)
abbrev Z3 : Int × Int × Bool × Bool := ((0 : Int), (0 : Int), false, false)
abbrev Z2 : Int × Int × ByteArray := ((0 : Int), (0 : Int), ByteArray.empty)
abbrev Z1 : Y0 := (ByteArray.empty, false, ([] : List (Int × Bool)))
abbrev Z0 : Y1 := (ByteArray.empty, ([] : List (ByteArray × Int × Bool)), ([] : List (Int × Bool)), ([] : List (ByteArray × Bool × (List (Int × Bool)))))
noncomputable def eqts (t : Nat) : Bool := memN t [80]
noncomputable def tys : Nat → TyI
 | 3 => .cell (.int .i64) 0
 | 4 => .cell (.bool) 0
 | 5 => .cell (.int .u8) 0
 | 9 => .cell (.str) 0
 | 22 => .cell (.row K1) 1
 | 24 => .cell (.row K6) 88
 | 25 => .cell (.row K7) 32
 | 52 => .cell (.row K8) 24
 | 54 => .cell (.row K4) 32
 | 55 => .cell (.row K3) 16
 | 56 => .cell (.row K5) 48
 | 58 => .strct [0, 1, 2, 3] [.str, .row K4, .row K3, .row K5]
 | 65 => .cell (.row K2) 8
 | 80 => .strct [0, 1, 2] [.int .i64, .int .i64, .str]
 | 91 => .strct [0, 1, 2, 3] [.int .i64, .int .i64, .bool, .bool]
 | 96 => .strct [0, 1, 2] [.str, .bool, .row K3]
 | 99 => .strct [0, 1, 2] [.row K1, .int .i64, .int .i64]
 | 104 => .strct [0, 1, 2] [.str, .int .i64, .bool]
 | 121 => .strct [0, 1] [.int .i64, .bool]
 | 128 => .cell (.row K0) 16
 | 157 => .cell (.int .u32) 0
 | _ => .no
noncomputable def strings_Split.sig : Sig := ⟨[.val false [⟨.str, 0, 0, false⟩], .val false [⟨.str, 0, 0, false⟩]], [(.one, [(.row K0, 1)])]⟩
namespace laws_big
noncomputable def m  : ((List Int)) → Option Bool
 | a0_0 => some (decide ((List.length a0_0 : Int) > 1048576))
noncomputable def sig : Sig := ⟨[.val false [⟨.row K1, 0, 0, false⟩]], [(.one, [(.bool, 0)])]⟩
noncomputable def hint (_ : Nat) : Hint := ⟨[], []⟩
noncomputable def join (_ : Nat) : Option Hint := none
noncomputable def body : Code := (Tryz.f7).body.getD .skip
noncomputable def rv : List ResultVar := (Tryz.f7).results.toList
noncomputable def fn : Fn := ⟨6, sig, rv, body, hint, join⟩
end laws_big
namespace spec_l1New
noncomputable def s0 (L0 : ((List Int) × Int × Int) → Option ((List Int) × Int × Int)) : ((List Int) × Int × Int) → Option ((List Int) × Int × Int)
 | (x0, x1, x2) => bif decide (x2 < (List.length x0 : Int)) then bif decide (x2 < 4000) then bif decide (0 ≤ x2) && decide (x2 < (List.length x0 : Int)) then L0 (x0, wrap i64 ((BitVec.ofInt (IntKind.bits IntKind.i64) (wrap i64 ((wrap i64 ((wrap i64 (x1 * 137)) + (wrap i64 (getD x0 (toNat x2) (0 : Int))))) + 11)) &&& BitVec.ofInt (IntKind.bits IntKind.i64) (1073741823 : Int)).toNat : Int), wrap i64 (x2 + 1)) else none else some (x0, (0 : Int), x1) else some (x0, (0 : Int), x1)
noncomputable def ll0 : ((List Int) × Int × Int) → LS
 | (x0, x1, x2) => ⟨[.cv ⟨.row K1, x0⟩, .cv ⟨.int .i64, x1⟩, .cv ⟨.int .i64, x2⟩], []⟩
noncomputable def m (B0 : ((List Int) × Int × Int) → Option ((List Int) × Int × Int)) : ((List Int)) → Option ((List Int) × Int × Int)
 | a0_0 => B0 (a0_0, wrap i64 ((758758 : Int) + (List.length a0_0 : Int)), (0 : Int))
noncomputable def sig : Sig := ⟨[.val false [⟨.row K1, 0, 0, false⟩]], [(.ptr, [(.row K1, 0), (.int .i64, 0), (.int .i64, 0)])]⟩
noncomputable def hint : Nat → Hint
 | 0 => ⟨[(0, .keep), (3, .keep), (4, .keep)], []⟩
 | _ => ⟨[], []⟩
noncomputable def join (_ : Nat) : Option Hint := none
noncomputable def body : Code := (Tryz.f37).body.getD .skip
noncomputable def rv : List ResultVar := (Tryz.f37).results.toList
noncomputable def fn : Fn := ⟨32, sig, rv, body, hint, join⟩
end spec_l1New
namespace spec_l1Byte
noncomputable def m  : ((List Int) × Int × Int) → Option (Int × Int × Int)
 | (a0_0, a0_1, a0_2) => bif decide (¬ (33 : Int) < 0) then bif decide (¬ (47 : Int) < 0) then bif decide (a0_1 < (List.length a0_0 : Int)) then bif decide (0 ≤ a0_1) && decide (a0_1 < (List.length a0_0 : Int)) then some (wrap i64 ((BitVec.ofInt (IntKind.bits IntKind.i64) (wrap i64 ((wrap i64 ((BitVec.ofInt (IntKind.bits IntKind.i64) (wrap i64 ((BitVec.ofInt (IntKind.bits IntKind.i64) (Int.fdiv (wrap i64 ((wrap i64 (a0_2 * 6364136223846793005)) + 1442695040888963407)) (2 ^ (min (toNat (33 : Int)) (IntKind.bits IntKind.i64)))) ^^^ BitVec.ofInt (IntKind.bits IntKind.i64) (Int.fdiv (wrap i64 ((wrap i64 (a0_2 * 6364136223846793005)) + 1442695040888963407)) (2 ^ (min (toNat (47 : Int)) (IntKind.bits IntKind.i64))))).toNat : Int)) &&& BitVec.ofInt (IntKind.bits IntKind.i64) (255 : Int)).toNat : Int)) + (wrap i64 (getD a0_0 (toNat a0_1) (0 : Int))))) &&& BitVec.ofInt (IntKind.bits IntKind.i64) (255 : Int)).toNat : Int), wrap i64 (a0_1 + 1), wrap i64 ((wrap i64 (a0_2 * 6364136223846793005)) + 1442695040888963407)) else none else some (wrap i64 ((BitVec.ofInt (IntKind.bits IntKind.i64) (wrap i64 ((BitVec.ofInt (IntKind.bits IntKind.i64) (Int.fdiv (wrap i64 ((wrap i64 (a0_2 * 6364136223846793005)) + 1442695040888963407)) (2 ^ (min (toNat (33 : Int)) (IntKind.bits IntKind.i64)))) ^^^ BitVec.ofInt (IntKind.bits IntKind.i64) (Int.fdiv (wrap i64 ((wrap i64 (a0_2 * 6364136223846793005)) + 1442695040888963407)) (2 ^ (min (toNat (47 : Int)) (IntKind.bits IntKind.i64))))).toNat : Int)) &&& BitVec.ofInt (IntKind.bits IntKind.i64) (255 : Int)).toNat : Int), a0_1, wrap i64 ((wrap i64 (a0_2 * 6364136223846793005)) + 1442695040888963407)) else none else none
noncomputable def sig : Sig := ⟨[.ptr [⟨.row K1, 0, 1, false⟩, ⟨.int .i64, 0, 0, true⟩, ⟨.int .i64, 0, 0, true⟩]], [(.one, [(.int .i64, 0)])]⟩
noncomputable def hint (_ : Nat) : Hint := ⟨[], []⟩
noncomputable def join (_ : Nat) : Option Hint := none
noncomputable def body : Code := (Tryz.f104).body.getD .skip
noncomputable def rv : List ResultVar := (Tryz.f104).results.toList
noncomputable def fn : Fn := ⟨58, sig, rv, body, hint, join⟩
end spec_l1Byte
namespace spec_l1Below
noncomputable def m (c104 : ((List Int) × Int × Int) → Option (Int × Int × Int)) : Y2 → Option (Int × Int × Int)
 | (a0_0, a0_1, a0_2, a1_0) => bif decide (a1_0 ≤ 0) then some ((0 : Int), a0_1, a0_2) else bif decide (a1_0 ≤ 256) then Option.bind (c104 (a0_0, a0_1, a0_2)) fun r1 => bif decide (¬ a1_0 = 0) then some (Int.tmod r1.1 a1_0, r1.2.1, r1.2.2) else none else Option.bind (c104 (a0_0, a0_1, a0_2)) fun r2 => Option.bind (c104 (a0_0, r2.2.1, r2.2.2)) fun r3 => Option.bind (c104 (a0_0, r3.2.1, r3.2.2)) fun r4 => bif decide (¬ a1_0 = 0) then some (Int.tmod (wrap i64 ((wrap i64 ((wrap i64 (r2.1 * 65536)) + (wrap i64 (r3.1 * 256)))) + r4.1)) a1_0, r4.2.1, r4.2.2) else none
noncomputable def sig : Sig := ⟨[.ptr [⟨.row K1, 0, 1, false⟩, ⟨.int .i64, 0, 0, true⟩, ⟨.int .i64, 0, 0, true⟩], .val false [⟨.int .i64, 0, 0, false⟩]], [(.one, [(.int .i64, 0)])]⟩
noncomputable def hint (_ : Nat) : Hint := ⟨[], []⟩
noncomputable def join (_ : Nat) : Option Hint := none
noncomputable def body : Code := (Tryz.f62).body.getD .skip
noncomputable def rv : List ResultVar := (Tryz.f62).results.toList
noncomputable def fn : Fn := ⟨31, sig, rv, body, hint, join⟩
end spec_l1Below
namespace spec_l1Int
noncomputable def m (c62 : Y2 → Option (Int × Int × Int)) : Y3 → Option (Int × Int × Int)
 | (a0_0, a0_1, a0_2, a1_0) => Option.bind (c62 (a0_0, a0_1, a0_2, (List.length a1_0 : Int))) fun r1 => bif decide (0 ≤ r1.1) && decide (r1.1 < (List.length a1_0 : Int)) then some ((getD a1_0 (toNat r1.1) (0 : Int)), r1.2.1, r1.2.2) else none
noncomputable def sig : Sig := ⟨[.ptr [⟨.row K1, 0, 1, false⟩, ⟨.int .i64, 0, 0, true⟩, ⟨.int .i64, 0, 0, true⟩], .val false [⟨.row K2, 0, 0, false⟩]], [(.one, [(.int .i64, 0)])]⟩
noncomputable def hint (_ : Nat) : Hint := ⟨[], []⟩
noncomputable def join (_ : Nat) : Option Hint := none
noncomputable def body : Code := (Tryz.f39).body.getD .skip
noncomputable def rv : List ResultVar := (Tryz.f39).results.toList
noncomputable def fn : Fn := ⟨12, sig, rv, body, hint, join⟩
end spec_l1Int
namespace spec_l1Once
noncomputable def m (c62 : Y2 → Option (Int × Int × Int)) : Y2 → Option (Bool × Int × Int)
 | (a0_0, a0_1, a0_2, a1_0) => Option.bind (c62 (a0_0, a0_1, a0_2, a1_0)) fun r1 => some (r1.1 == 0, r1.2.1, r1.2.2)
noncomputable def sig : Sig := ⟨[.ptr [⟨.row K1, 0, 1, false⟩, ⟨.int .i64, 0, 0, true⟩, ⟨.int .i64, 0, 0, true⟩], .val false [⟨.int .i64, 0, 0, false⟩]], [(.one, [(.bool, 0)])]⟩
noncomputable def hint (_ : Nat) : Hint := ⟨[], []⟩
noncomputable def join (_ : Nat) : Option Hint := none
noncomputable def body : Code := (Tryz.f103).body.getD .skip
noncomputable def rv : List ResultVar := (Tryz.f103).results.toList
noncomputable def fn : Fn := ⟨9, sig, rv, body, hint, join⟩
end spec_l1Once
namespace spec_l1Str
noncomputable def m (c62 : Y2 → Option (Int × Int × Int)) : Y4 → Option (ByteArray × Int × Int)
 | (a0_0, a0_1, a0_2, a1_0) => Option.bind (c62 (a0_0, a0_1, a0_2, (List.length a1_0 : Int))) fun r1 => bif decide (0 ≤ r1.1) && decide (r1.1 < (List.length a1_0 : Int)) then some ((getD a1_0 (toNat r1.1) ByteArray.empty), r1.2.1, r1.2.2) else none
noncomputable def sig : Sig := ⟨[.ptr [⟨.row K1, 0, 1, false⟩, ⟨.int .i64, 0, 0, true⟩, ⟨.int .i64, 0, 0, true⟩], .val false [⟨.row K0, 0, 0, false⟩]], [(.one, [(.str, 0)])]⟩
noncomputable def hint (_ : Nat) : Hint := ⟨[], []⟩
noncomputable def join (_ : Nat) : Option Hint := none
noncomputable def body : Code := (Tryz.f110).body.getD .skip
noncomputable def rv : List ResultVar := (Tryz.f110).results.toList
noncomputable def fn : Fn := ⟨12, sig, rv, body, hint, join⟩
end spec_l1Str
namespace spec_l9Draw2
noncomputable def m (c62 : Y2 → Option (Int × Int × Int)) (c103 : Y2 → Option (Bool × Int × Int)) : Y2 → Option Y5
 | (a0_0, a0_1, a0_2, a1_0) => Option.bind (c62 (a0_0, a0_1, a0_2, a1_0)) fun r1 => Option.bind (c103 (a0_0, r1.2.1, r1.2.2, (2 : Int))) fun r2 => bif decide (a1_0 > 1) then Option.bind (c103 (a0_0, r2.2.1, r2.2.2, (3 : Int))) fun r3 => bif r3.1 then bif decide (¬ a1_0 = 0) then Option.bind (c103 (a0_0, r3.2.1, r3.2.2, (2 : Int))) fun r4 => bif decide ((List.length ([(r1.1, r2.1)] : List (Int × Bool)) + List.length ([(Int.tmod (wrap i64 (r1.1 + 1)) a1_0, r4.1)] : List (Int × Bool))) * 16 ≤ 140737488355328) then some (([(r1.1, r2.1)] : List (Int × Bool)) ++ ([(Int.tmod (wrap i64 (r1.1 + 1)) a1_0, r4.1)] : List (Int × Bool)), r4.2.1, r4.2.2) else none else none else some (([(r1.1, r2.1)] : List (Int × Bool)), r3.2.1, r3.2.2) else some (([(r1.1, r2.1)] : List (Int × Bool)), r2.2.1, r2.2.2)
noncomputable def sig : Sig := ⟨[.ptr [⟨.row K1, 0, 1, false⟩, ⟨.int .i64, 0, 0, true⟩, ⟨.int .i64, 0, 0, true⟩], .val false [⟨.int .i64, 0, 0, false⟩]], [(.one, [(.row K3, 1)])]⟩
noncomputable def hint (_ : Nat) : Hint := ⟨[], []⟩
noncomputable def join (_ : Nat) : Option Hint := none
noncomputable def body : Code := (Tryz.f111).body.getD .skip
noncomputable def rv : List ResultVar := (Tryz.f111).results.toList
noncomputable def fn : Fn := ⟨32, sig, rv, body, hint, join⟩
end spec_l9Draw2
namespace spec_l9Draw
noncomputable def s0 (c62 : Y2 → Option (Int × Int × Int)) (c103 : Y2 → Option (Bool × Int × Int)) (B2 L0 : Y8 → Option Y7) : Y8 → Option Y7
 | (x0, x1, x2, x3, x4, x5, x6, x7, x8, x9, x10, x11, x12) => Option.bind (c62 (x1, x2, x3, (3 : Int))) fun r2 => bif decide (x0 < (wrap i64 ((1 : Int) + r2.1))) then bif decide (x0 < 3) then bif decide (0 ≤ x0) && decide (x0 < (List.length x12 : Int)) then Option.bind (c62 (x1, r2.2.1, r2.2.2, (4 : Int))) fun r3 => Option.bind (c103 (x1, r3.2.1, r3.2.2, (2 : Int))) fun r4 => bif decide ((List.length x9 + List.length ([((getD x12 (toNat x0) ByteArray.empty), wrap i64 ((1 : Int) + r3.1), r4.1)] : List (ByteArray × Int × Bool))) * 32 ≤ 140737488355328) then L0 (wrap i64 (x0 + 1), x1, r4.2.1, r4.2.2, x4, x5, x6, x7, x8, x9 ++ ([((getD x12 (toNat x0) ByteArray.empty), wrap i64 ((1 : Int) + r3.1), r4.1)] : List (ByteArray × Int × Bool)), x10, x11, x12) else none else none else Option.bind (c103 (x1, r2.2.1, r2.2.2, (3 : Int))) fun r5 => bif decide (0 ≤ 1) && decide ((1 : Int) < (List.length x9 : Int)) then bif !((getD x9 (toNat (1 : Int)) Z4).2.2) then Option.bind (c103 (x1, r5.2.1, r5.2.2, (2 : Int))) fun r6 => bif r6.1 then Option.bind (c103 (x1, r6.2.1, r6.2.2, (2 : Int))) fun r7 => bif decide ((List.length ([((0 : Int), r5.1)] : List (Int × Bool)) + List.length ([((1 : Int), r7.1)] : List (Int × Bool))) * 16 ≤ 140737488355328) then Option.bind (c62 (x1, r7.2.1, r7.2.2, (3 : Int))) fun r8 => B2 (r8.1, x1, r8.2.1, r8.2.2, x4, x5, x6, x7, x8, x9, ([((0 : Int), r5.1)] : List (Int × Bool)) ++ ([((1 : Int), r7.1)] : List (Int × Bool)), x11, x12) else none else Option.bind (c62 (x1, r6.2.1, r6.2.2, (3 : Int))) fun r12 => B2 (r12.1, x1, r12.2.1, r12.2.2, x4, x5, x6, x7, x8, x9, ([((0 : Int), r5.1)] : List (Int × Bool)), x11, x12) else Option.bind (c62 (x1, r5.2.1, r5.2.2, (3 : Int))) fun r13 => B2 (r13.1, x1, r13.2.1, r13.2.2, x4, x5, x6, x7, x8, x9, ([((0 : Int), r5.1)] : List (Int × Bool)), x11, x12) else none else Option.bind (c103 (x1, r2.2.1, r2.2.2, (3 : Int))) fun r14 => bif decide (0 ≤ 1) && decide ((1 : Int) < (List.length x9 : Int)) then bif !((getD x9 (toNat (1 : Int)) Z4).2.2) then Option.bind (c103 (x1, r14.2.1, r14.2.2, (2 : Int))) fun r15 => bif r15.1 then Option.bind (c103 (x1, r15.2.1, r15.2.2, (2 : Int))) fun r16 => bif decide ((List.length ([((0 : Int), r14.1)] : List (Int × Bool)) + List.length ([((1 : Int), r16.1)] : List (Int × Bool))) * 16 ≤ 140737488355328) then Option.bind (c62 (x1, r16.2.1, r16.2.2, (3 : Int))) fun r17 => B2 (r17.1, x1, r17.2.1, r17.2.2, x4, x5, x6, x7, x8, x9, ([((0 : Int), r14.1)] : List (Int × Bool)) ++ ([((1 : Int), r16.1)] : List (Int × Bool)), x11, x12) else none else Option.bind (c62 (x1, r15.2.1, r15.2.2, (3 : Int))) fun r18 => B2 (r18.1, x1, r18.2.1, r18.2.2, x4, x5, x6, x7, x8, x9, ([((0 : Int), r14.1)] : List (Int × Bool)), x11, x12) else Option.bind (c62 (x1, r14.2.1, r14.2.2, (3 : Int))) fun r19 => B2 (r19.1, x1, r19.2.1, r19.2.2, x4, x5, x6, x7, x8, x9, ([((0 : Int), r14.1)] : List (Int × Bool)), x11, x12) else none
noncomputable def ll0 : Y8 → LS
 | (x0, x1, x2, x3, x4, x5, x6, x7, x8, x9, x10, x11, x12) => ⟨[.addr 2 0 [] 0, .addr 257 0 [] 0, .addr 321 0 [] 0, .ref 24 0 [] none 0, .cv ⟨.int .i64, x0⟩], [⟨false, [⟨0, 0, .lk ⟨.row K1, x1⟩⟩, ⟨0, 0, .mk 0 ⟨.int .i64, x2⟩⟩, ⟨0, 0, .mk 0 ⟨.int .i64, x3⟩⟩]⟩, ⟨false, [⟨0, 0, .mk 0 ⟨.str, x4⟩⟩, ⟨0, 0, .mk 9 ⟨.row K4, x5⟩⟩, ⟨0, 0, .mk 9 ⟨.row K3, x6⟩⟩, ⟨0, 0, .mk 9 ⟨.row K5, x7⟩⟩]⟩, ⟨false, [⟨0, 0, .mk 0 ⟨.str, x8⟩⟩, ⟨0, 0, .mk 9 ⟨.row K4, x9⟩⟩, ⟨0, 0, .mk 9 ⟨.row K3, x10⟩⟩, ⟨0, 0, .mk 9 ⟨.row K5, x11⟩⟩]⟩, ⟨true, [⟨0, 0, .mk 9 ⟨.row K0, x12⟩⟩]⟩]⟩
noncomputable def s2 (c103 : Y2 → Option (Bool × Int × Int)) (c110 : Y4 → Option (ByteArray × Int × Int)) (c111 : Y2 → Option Y5) (L2 : Y8 → Option Y7) : Y8 → Option Y7
 | (x0, x1, x2, x3, x4, x5, x6, x7, x8, x9, x10, x11, x12) => bif decide (x0 > 0) then Option.bind (c110 (x1, x2, x3, ([({ data := #[117] } : ByteArray), ({ data := #[118] } : ByteArray)] : List ByteArray))) fun r9 => bif decide (0 ≤ x0) && decide (x0 < (List.length x12 : Int)) then bif decide (¬ ((ByteArray.size r9.1 + ByteArray.size (getD x12 (toNat x0) ByteArray.empty) : Nat) : Int) > IntKind.max i64) then Option.bind (c103 (x1, r9.2.1, r9.2.2, (2 : Int))) fun r10 => Option.bind (c111 (x1, r10.2.1, r10.2.2, (List.length x9 : Int))) fun r11 => bif decide ((List.length x11 + List.length ([(ByteArray.append r9.1 (getD x12 (toNat x0) ByteArray.empty), r10.1, r11.1)] : List (ByteArray × Bool × (List (Int × Bool))))) * 48 ≤ 140737488355328) then L2 (wrap i64 (x0 - 1), x1, r11.2.1, r11.2.2, x4, x5, x6, x7, x8, x9, x10, x11 ++ ([(ByteArray.append r9.1 (getD x12 (toNat x0) ByteArray.empty), r10.1, r11.1)] : List (ByteArray × Bool × (List (Int × Bool)))), x12) else none else none else none else some (x8, x9, x10, x11, x2, x3)
noncomputable def ll2 : Y8 → LS
 | (x0, x1, x2, x3, x4, x5, x6, x7, x8, x9, x10, x11, x12) => ⟨[.addr 2 0 [] 0, .addr 257 0 [] 0, .addr 321 0 [] 0, .ref 24 0 [] none 0, .cv ⟨.int .i64, x0⟩], [⟨false, [⟨0, 0, .lk ⟨.row K1, x1⟩⟩, ⟨0, 0, .mk 0 ⟨.int .i64, x2⟩⟩, ⟨0, 0, .mk 0 ⟨.int .i64, x3⟩⟩]⟩, ⟨false, [⟨0, 0, .mk 0 ⟨.str, x4⟩⟩, ⟨0, 0, .mk 9 ⟨.row K4, x5⟩⟩, ⟨0, 0, .mk 9 ⟨.row K3, x6⟩⟩, ⟨0, 0, .mk 9 ⟨.row K5, x7⟩⟩]⟩, ⟨false, [⟨0, 0, .mk 0 ⟨.str, x8⟩⟩, ⟨0, 0, .mk 9 ⟨.row K4, x9⟩⟩, ⟨0, 0, .mk 9 ⟨.row K3, x10⟩⟩, ⟨0, 0, .mk 9 ⟨.row K5, x11⟩⟩]⟩, ⟨true, [⟨0, 0, .mk 9 ⟨.row K0, x12⟩⟩]⟩]⟩
noncomputable def m (c39 : Y3 → Option (Int × Int × Int)) (B0 : Y8 → Option Y7) : Y6 → Option Y7
 | (a0_0, a0_1, a0_2, a1_0) => Option.bind (c39 (a0_0, a0_1, a0_2, ([(1 : Int), (1 : Int), (3 : Int), (2 : Int)] : List Int))) fun r1 => B0 ((0 : Int), a0_0, r1.2.1, r1.2.2, ByteArray.empty, ([] : List (ByteArray × Int × Bool)), ([] : List (Int × Bool)), ([] : List (ByteArray × Bool × (List (Int × Bool)))), a1_0, ([(({ data := #[105, 100] } : ByteArray), r1.1, false)] : List (ByteArray × Int × Bool)), ([] : List (Int × Bool)), ([] : List (ByteArray × Bool × (List (Int × Bool)))), ([({ data := #[97] } : ByteArray), ({ data := #[98] } : ByteArray), ({ data := #[99] } : ByteArray)] : List ByteArray))
noncomputable def sig : Sig := ⟨[.ptr [⟨.row K1, 0, 1, false⟩, ⟨.int .i64, 0, 0, true⟩, ⟨.int .i64, 0, 0, true⟩], .val false [⟨.str, 0, 0, false⟩]], [(.agg, [(.str, 0), (.row K4, 1), (.row K3, 1), (.row K5, 2)])]⟩
noncomputable def hint : Nat → Hint
 | 0 => ⟨[(0, .keep), (4, .keep), (5, .keep), (6, .own 9 K0), (7, .keep)], [(2, [9, 0, 0]), (257, [0, 9, 9, 9]), (321, [0, 9, 9, 9])]⟩
 | 2 => ⟨[(0, .keep), (4, .keep), (5, .keep), (6, .own 9 K0), (8, .keep)], [(2, [9, 0, 0]), (257, [0, 9, 9, 9]), (321, [0, 9, 9, 9])]⟩
 | _ => ⟨[], []⟩
noncomputable def join (_ : Nat) : Option Hint := none
noncomputable def body : Code := (Tryz.f69).body.getD .skip
noncomputable def rv : List ResultVar := (Tryz.f69).results.toList
noncomputable def fn : Fn := ⟨94, sig, rv, body, hint, join⟩
end spec_l9Draw
namespace spec_l10Draw
noncomputable def m (c69 : Y6 → Option Y7) (c103 : Y2 → Option (Bool × Int × Int)) : ((List Int) × Int × Int) → Option Y9
 | (a0_0, a0_1, a0_2) => Option.bind (c69 (a0_0, a0_1, a0_2, ({ data := #[116] } : ByteArray))) fun r1 => Option.bind (c103 (a0_0, r1.2.2.2.2.1, r1.2.2.2.2.2, (3 : Int))) fun r2 => bif r2.1 then Option.bind (c69 (a0_0, r2.2.1, r2.2.2, ({ data := #[117] } : ByteArray))) fun r3 => bif decide ((List.length ([(r1.1, r1.2.1, r1.2.2.1, r1.2.2.2.1)] : List (ByteArray × (List (ByteArray × Int × Bool)) × (List (Int × Bool)) × (List (ByteArray × Bool × (List (Int × Bool)))))) + List.length ([(r3.1, r3.2.1, r3.2.2.1, r3.2.2.2.1)] : List (ByteArray × (List (ByteArray × Int × Bool)) × (List (Int × Bool)) × (List (ByteArray × Bool × (List (Int × Bool))))))) * 88 ≤ 140737488355328) then some (([(r1.1, r1.2.1, r1.2.2.1, r1.2.2.2.1)] : List (ByteArray × (List (ByteArray × Int × Bool)) × (List (Int × Bool)) × (List (ByteArray × Bool × (List (Int × Bool)))))) ++ ([(r3.1, r3.2.1, r3.2.2.1, r3.2.2.2.1)] : List (ByteArray × (List (ByteArray × Int × Bool)) × (List (Int × Bool)) × (List (ByteArray × Bool × (List (Int × Bool)))))), r3.2.2.2.2.1, r3.2.2.2.2.2) else none else some (([(r1.1, r1.2.1, r1.2.2.1, r1.2.2.2.1)] : List (ByteArray × (List (ByteArray × Int × Bool)) × (List (Int × Bool)) × (List (ByteArray × Bool × (List (Int × Bool)))))), r2.2.1, r2.2.2)
noncomputable def sig : Sig := ⟨[.ptr [⟨.row K1, 0, 1, false⟩, ⟨.int .i64, 0, 0, true⟩, ⟨.int .i64, 0, 0, true⟩]], [(.one, [(.row K6, 3)])]⟩
noncomputable def hint (_ : Nat) : Hint := ⟨[], []⟩
noncomputable def join (_ : Nat) : Option Hint := none
noncomputable def body : Code := (Tryz.f61).body.getD .skip
noncomputable def rv : List ResultVar := (Tryz.f61).results.toList
noncomputable def fn : Fn := ⟨15, sig, rv, body, hint, join⟩
end spec_l10Draw
namespace spec_l11Short
noncomputable def m (c39 : Y3 → Option (Int × Int × Int)) (c62 : Y2 → Option (Int × Int × Int)) (c103 : Y2 → Option (Bool × Int × Int)) (c110 : Y4 → Option (ByteArray × Int × Int)) : Y10 → Option Y11
 | (a0_0, a0_1, a0_2, a1_0, a1_1, a1_2) => bif a1_2 then Option.bind (c103 (a0_0, a0_1, a0_2, (4 : Int))) fun r1 => bif r1.1 then some ((0 : Int), (0 : Int), ByteArray.empty, r1.2.1, r1.2.2) else bif a1_1 == 3 then Option.bind (c110 (a0_0, r1.2.1, r1.2.2, ([({ data := #[] } : ByteArray), ({ data := #[97] } : ByteArray), ({ data := #[98] } : ByteArray), ({ data := #[97, 98] } : ByteArray), ({ data := #[0] } : ByteArray)] : List ByteArray))) fun r2 => some (a1_1, (0 : Int), r2.1, r2.2.1, r2.2.2) else bif a1_1 == 4 then Option.bind (c62 (a0_0, r1.2.1, r1.2.2, (2 : Int))) fun r3 => some (a1_1, r3.1, ByteArray.empty, r3.2.1, r3.2.2) else Option.bind (c39 (a0_0, r1.2.1, r1.2.2, ([(0 : Int), (1 : Int), (2 : Int), (3 : Int), (4 : Int), (5 : Int), (-1 : Int)] : List Int))) fun r4 => some (a1_1, r4.1, ByteArray.empty, r4.2.1, r4.2.2) else bif a1_1 == 3 then Option.bind (c110 (a0_0, a0_1, a0_2, ([({ data := #[] } : ByteArray), ({ data := #[97] } : ByteArray), ({ data := #[98] } : ByteArray), ({ data := #[97, 98] } : ByteArray), ({ data := #[0] } : ByteArray)] : List ByteArray))) fun r5 => some (a1_1, (0 : Int), r5.1, r5.2.1, r5.2.2) else bif a1_1 == 4 then Option.bind (c62 (a0_0, a0_1, a0_2, (2 : Int))) fun r6 => some (a1_1, r6.1, ByteArray.empty, r6.2.1, r6.2.2) else Option.bind (c39 (a0_0, a0_1, a0_2, ([(0 : Int), (1 : Int), (2 : Int), (3 : Int), (4 : Int), (5 : Int), (-1 : Int)] : List Int))) fun r7 => some (a1_1, r7.1, ByteArray.empty, r7.2.1, r7.2.2)
noncomputable def sig : Sig := ⟨[.ptr [⟨.row K1, 0, 1, false⟩, ⟨.int .i64, 0, 0, true⟩, ⟨.int .i64, 0, 0, true⟩], .val true [⟨.str, 0, 0, false⟩, ⟨.int .i64, 0, 0, false⟩, ⟨.bool, 0, 0, false⟩]], [(.agg, [(.int .i64, 0), (.int .i64, 0), (.str, 0)])]⟩
noncomputable def hint (_ : Nat) : Hint := ⟨[], []⟩
noncomputable def join (_ : Nat) : Option Hint := none
noncomputable def body : Code := (Tryz.f105).body.getD .skip
noncomputable def rv : List ResultVar := (Tryz.f105).results.toList
noncomputable def fn : Fn := ⟨34, sig, rv, body, hint, join⟩
end spec_l11Short
namespace spec_l11Row
noncomputable def s0 (c105 : Y10 → Option Y11) (L0 : Y14 → Option Y13) : Y14 → Option Y13
 | (x0, x1, x2, x3, x4, x5, x6, x7, x8) => bif decide (x0 < (List.length x5 : Int)) then bif decide (0 ≤ x0) && decide (x0 < (List.length x5 : Int)) then Option.bind (c105 (x1, x2, x3, (getD x5 (toNat x0) Z4).1, (getD x5 (toNat x0) Z4).2.1, (getD x5 (toNat x0) Z4).2.2)) fun r1 => bif decide ((List.length x8 + List.length ([(r1.1, r1.2.1, r1.2.2.1)] : List (Int × Int × ByteArray))) * 32 ≤ 140737488355328) then L0 (wrap i64 (x0 + 1), x1, r1.2.2.2.1, r1.2.2.2.2, x4, x5, x6, x7, x8 ++ ([(r1.1, r1.2.1, r1.2.2.1)] : List (Int × Int × ByteArray))) else none else none else some (x8, x2, x3)
noncomputable def ll0 : Y14 → LS
 | (x0, x1, x2, x3, x4, x5, x6, x7, x8) => ⟨[.addr 2 0 [] 0, .addr 193 0 [] 0, .ref 20 0 [] none 0, .cv ⟨.int .i64, x0⟩], [⟨false, [⟨0, 0, .lk ⟨.row K1, x1⟩⟩, ⟨0, 0, .mk 0 ⟨.int .i64, x2⟩⟩, ⟨0, 0, .mk 0 ⟨.int .i64, x3⟩⟩]⟩, ⟨false, [⟨0, 0, .mk 0 ⟨.str, x4⟩⟩, ⟨0, 0, .mk 0 ⟨.row K4, x5⟩⟩, ⟨0, 0, .mk 0 ⟨.row K3, x6⟩⟩, ⟨0, 0, .mk 0 ⟨.row K5, x7⟩⟩]⟩, ⟨true, [⟨0, 0, .mk 9 ⟨.row K7, x8⟩⟩]⟩]⟩
noncomputable def m (B0 : Y14 → Option Y13) : Y12 → Option Y13
 | (a0_0, a0_1, a0_2, a1_0, a1_1, a1_2, a1_3) => B0 ((0 : Int), a0_0, a0_1, a0_2, a1_0, a1_1, a1_2, a1_3, ([] : List (Int × Int × ByteArray)))
noncomputable def sig : Sig := ⟨[.ptr [⟨.row K1, 0, 1, false⟩, ⟨.int .i64, 0, 0, true⟩, ⟨.int .i64, 0, 0, true⟩], .val true [⟨.str, 0, 0, false⟩, ⟨.row K4, 0, 0, false⟩, ⟨.row K3, 0, 0, false⟩, ⟨.row K5, 0, 0, false⟩]], [(.one, [(.row K7, 1)])]⟩
noncomputable def hint : Nat → Hint
 | 0 => ⟨[(0, .keep), (3, .keep), (5, .own 9 K7), (6, .keep)], [(2, [9, 0, 0]), (193, [0, 0, 0, 0])]⟩
 | _ => ⟨[], []⟩
noncomputable def join (_ : Nat) : Option Hint := none
noncomputable def body : Code := (Tryz.f63).body.getD .skip
noncomputable def rv : List ResultVar := (Tryz.f63).results.toList
noncomputable def fn : Fn := ⟨26, sig, rv, body, hint, join⟩
end spec_l11Row
namespace laws_sameBytes
noncomputable def s0 (L0 : Y15 → Option Bool) : Y15 → Option Bool
 | (x0, x1, x2) => bif decide (x2 < (List.length x0 : Int)) then bif decide (0 ≤ x2) && decide (x2 < (List.length x0 : Int)) then bif decide (0 ≤ x2) && decide (x2 < (List.length x1 : Int)) then bif (getD x0 (toNat x2) (0 : Int)) != (getD x1 (toNat x2) (0 : Int)) then some false else L0 (x0, x1, wrap i64 (x2 + 1)) else none else none else some true
noncomputable def ll0 : Y15 → LS
 | (x0, x1, x2) => ⟨[.cv ⟨.row K1, x0⟩, .cv ⟨.row K1, x1⟩, .cv ⟨.int .i64, x2⟩], []⟩
noncomputable def m (B0 : Y15 → Option Bool) : ((List Int) × (List Int)) → Option Bool
 | (a0_0, a1_0) => bif (List.length a0_0 : Int) != (List.length a1_0 : Int) then some false else B0 (a0_0, a1_0, (0 : Int))
noncomputable def sig : Sig := ⟨[.val false [⟨.row K1, 0, 0, false⟩], .val false [⟨.row K1, 0, 0, false⟩]], [(.one, [(.bool, 0)])]⟩
noncomputable def hint : Nat → Hint
 | 0 => ⟨[(0, .keep), (1, .keep), (5, .keep)], []⟩
 | _ => ⟨[], []⟩
noncomputable def join (_ : Nat) : Option Hint := none
noncomputable def body : Code := (Tryz.f11).body.getD .skip
noncomputable def rv : List ResultVar := (Tryz.f11).results.toList
noncomputable def fn : Fn := ⟨26, sig, rv, body, hint, join⟩
end laws_sameBytes
namespace impl_in
noncomputable def m  : (Int × Int × Int) → Option Bool
 | (a0_0, a1_0, a2_0) => bif decide (a0_0 ≥ a1_0) then some (decide (a0_0 ≤ a2_0)) else some false
noncomputable def sig : Sig := ⟨[.val false [⟨.int .i64, 0, 0, false⟩], .val false [⟨.int .i64, 0, 0, false⟩], .val false [⟨.int .i64, 0, 0, false⟩]], [(.one, [(.bool, 0)])]⟩
noncomputable def hint (_ : Nat) : Hint := ⟨[], []⟩
noncomputable def join (_ : Nat) : Option Hint := none
noncomputable def body : Code := (Tryz.f64).body.getD .skip
noncomputable def rv : List ResultVar := (Tryz.f64).results.toList
noncomputable def fn : Fn := ⟨15, sig, rv, body, hint, join⟩
end impl_in
namespace impl_isLetter
noncomputable def m  : Int → Option Bool
 | a0_0 => bif decide (a0_0 ≥ 97) then some (decide (a0_0 ≤ 122)) else some false
noncomputable def sig : Sig := ⟨[.val false [⟨.int .u8, 0, 0, false⟩]], [(.one, [(.bool, 0)])]⟩
noncomputable def hint (_ : Nat) : Hint := ⟨[], []⟩
noncomputable def join (_ : Nat) : Option Hint := none
noncomputable def body : Code := (Tryz.f162).body.getD .skip
noncomputable def rv : List ResultVar := (Tryz.f162).results.toList
noncomputable def fn : Fn := ⟨9, sig, rv, body, hint, join⟩
end impl_isLetter
namespace impl_isDigit
noncomputable def m  : Int → Option Bool
 | a0_0 => bif decide (a0_0 ≥ 48) then some (decide (a0_0 ≤ 57)) else some false
noncomputable def sig : Sig := ⟨[.val false [⟨.int .u8, 0, 0, false⟩]], [(.one, [(.bool, 0)])]⟩
noncomputable def hint (_ : Nat) : Hint := ⟨[], []⟩
noncomputable def join (_ : Nat) : Option Hint := none
noncomputable def body : Code := (Tryz.f163).body.getD .skip
noncomputable def rv : List ResultVar := (Tryz.f163).results.toList
noncomputable def fn : Fn := ⟨9, sig, rv, body, hint, join⟩
end impl_isDigit
namespace impl_nameOk
noncomputable def s0 (c64 : (Int × Int × Int) → Option Bool) (c162 c163 : Int → Option Bool) (L0 : (ByteArray × Int) → Option Bool) : (ByteArray × Int) → Option Bool
 | (x0, x1) => bif decide (x1 < (ByteArray.size x0 : Int)) then bif decide (0 ≤ x1) && decide (x1 < (ByteArray.size x0 : Int)) then Option.bind (c162 ((ByteArray.get! x0 (toNat x1)).toNat : Int)) fun r1 => bif !(r1) then bif x1 == 0 then some false else bif decide (0 ≤ x1) && decide (x1 < (ByteArray.size x0 : Int)) then Option.bind (c163 ((ByteArray.get! x0 (toNat x1)).toNat : Int)) fun r2 => bif !(r2) then some false else L0 (x0, wrap i64 (x1 + 1)) else none else L0 (x0, wrap i64 (x1 + 1)) else none else Option.bind (c64 ((ByteArray.size x0 : Int), (1 : Int), (8 : Int))) fun r3 => some r3
noncomputable def ll0 : (ByteArray × Int) → LS
 | (x0, x1) => ⟨[.cv ⟨.str, x0⟩, .cv ⟨.int .i64, x1⟩], []⟩
noncomputable def m (B0 : (ByteArray × Int) → Option Bool) : ByteArray → Option Bool
 | a0_0 => B0 (a0_0, (0 : Int))
noncomputable def sig : Sig := ⟨[.val false [⟨.str, 0, 0, false⟩]], [(.one, [(.bool, 0)])]⟩
noncomputable def hint : Nat → Hint
 | 0 => ⟨[(0, .keep), (3, .keep)], []⟩
 | _ => ⟨[], []⟩
noncomputable def join (_ : Nat) : Option Hint := none
noncomputable def body : Code := (Tryz.f155).body.getD .skip
noncomputable def rv : List ResultVar := (Tryz.f155).results.toList
noncomputable def fn : Fn := ⟨29, sig, rv, body, hint, join⟩
end impl_nameOk
namespace impl_isFree
noncomputable def s0 (c155 : ByteArray → Option Bool) (L0 : Y16 → Option Bool) : Y16 → Option Bool
 | (x0, x1, x2, x3) => bif decide (x2 < x1) then bif decide (0 ≤ x2) && decide (x2 < (List.length x3 : Int)) then bif ByteArray.toList (getD x3 (toNat x2) ByteArray.empty) == ByteArray.toList x0 then some false else L0 (x0, x1, wrap i64 (x2 + 1), x3) else none else Option.bind (c155 x0) fun r2 => some r2
noncomputable def ll0 : Y16 → LS
 | (x0, x1, x2, x3) => ⟨[.cv ⟨.str, x0⟩, .ref 20 0 [] none 0, .cv ⟨.int .i64, x1⟩, .cv ⟨.int .i64, x2⟩], [⟨true, [⟨0, 0, .mk 1 ⟨.row K0, x3⟩⟩]⟩]⟩
noncomputable def m (c154 : (ByteArray × ByteArray) → Option ((List ByteArray))) (B0 : Y16 → Option Bool) : ByteArray → Option Bool
 | a0_0 => Option.bind (c154 (({ data := #[116, 97, 98, 108, 101, 32, 112, 114, 105, 109, 97, 114, 121, 32, 117, 110, 105, 113, 117, 101, 32, 105, 110, 100, 101, 120, 32, 110, 117, 108, 108, 32, 100, 101, 115, 99, 32, 105, 110, 116, 32, 110, 117, 109, 32, 116, 101, 120, 116, 32, 98, 111, 111, 108] } : ByteArray), ({ data := #[32] } : ByteArray))) fun r1 => B0 (a0_0, (List.length r1 : Int), (0 : Int), r1)
noncomputable def sig : Sig := ⟨[.val false [⟨.str, 0, 0, false⟩]], [(.one, [(.bool, 0)])]⟩
noncomputable def hint : Nat → Hint
 | 0 => ⟨[(0, .keep), (5, .own 1 K0), (6, .keep), (7, .keep)], []⟩
 | _ => ⟨[], []⟩
noncomputable def join (_ : Nat) : Option Hint := none
noncomputable def body : Code := (Tryz.f142).body.getD .skip
noncomputable def rv : List ResultVar := (Tryz.f142).results.toList
noncomputable def fn : Fn := ⟨17, sig, rv, body, hint, join⟩
end impl_isFree
namespace impl_namesOk
noncomputable def s0 (c142 : ByteArray → Option Bool) (B2 : Y17 → Option Bool) (L0 : Y18 → Option Bool) : Y18 → Option Bool
 | (x0, x1, x2, x3, x4, x5, x6) => bif decide (x2 < x1) then bif decide (0 ≤ x2) && decide (x2 < (List.length x0 : Int)) then Option.bind (c142 ((getD x0 (toNat x2) Z4).1)) fun r1 => bif !(r1) then some false else L0 (x0, x1, wrap i64 (x2 + 1), x3, x4, x5, x6) else none else B2 (x6, (List.length x6 : Int), (0 : Int), x3, x4, x5, x6)
noncomputable def ll0 : Y18 → LS
 | (x0, x1, x2, x3, x4, x5, x6) => ⟨[.addr 65 0 [] 0, .cv ⟨.row K4, x0⟩, .cv ⟨.int .i64, x1⟩, .cv ⟨.int .i64, x2⟩], [⟨false, [⟨0, 0, .mk 0 ⟨.str, x3⟩⟩, ⟨0, 0, .mk 0 ⟨.row K4, x4⟩⟩, ⟨0, 0, .mk 0 ⟨.row K3, x5⟩⟩, ⟨0, 0, .mk 0 ⟨.row K5, x6⟩⟩]⟩]⟩
noncomputable def s2 (c142 : ByteArray → Option Bool) (L2 : Y17 → Option Bool) : Y17 → Option Bool
 | (x0, x1, x2, x3, x4, x5, x6) => bif decide (x2 < x1) then bif decide (0 ≤ x2) && decide (x2 < (List.length x0 : Int)) then Option.bind (c142 ((getD x0 (toNat x2) Z1).1)) fun r2 => bif !(r2) then some false else L2 (x0, x1, wrap i64 (x2 + 1), x3, x4, x5, x6) else none else Option.bind (c142 x3) fun r3 => some r3
noncomputable def ll2 : Y17 → LS
 | (x0, x1, x2, x3, x4, x5, x6) => ⟨[.addr 65 0 [] 0, .cv ⟨.row K5, x0⟩, .cv ⟨.int .i64, x1⟩, .cv ⟨.int .i64, x2⟩], [⟨false, [⟨0, 0, .mk 0 ⟨.str, x3⟩⟩, ⟨0, 0, .mk 0 ⟨.row K4, x4⟩⟩, ⟨0, 0, .mk 0 ⟨.row K3, x5⟩⟩, ⟨0, 0, .mk 0 ⟨.row K5, x6⟩⟩]⟩]⟩
noncomputable def m (B0 : Y18 → Option Bool) : Y1 → Option Bool
 | (a0_0, a0_1, a0_2, a0_3) => B0 (a0_1, (List.length a0_1 : Int), (0 : Int), a0_0, a0_1, a0_2, a0_3)
noncomputable def sig : Sig := ⟨[.val true [⟨.str, 0, 0, false⟩, ⟨.row K4, 0, 0, false⟩, ⟨.row K3, 0, 0, false⟩, ⟨.row K5, 0, 0, false⟩]], [(.one, [(.bool, 0)])]⟩
noncomputable def hint : Nat → Hint
 | 0 => ⟨[(1, .keep), (8, .keep), (9, .keep), (10, .keep)], [(65, [0, 0, 0, 0])]⟩
 | 2 => ⟨[(1, .keep), (20, .keep), (21, .keep), (22, .keep)], [(65, [0, 0, 0, 0])]⟩
 | _ => ⟨[], []⟩
noncomputable def join (_ : Nat) : Option Hint := none
noncomputable def body : Code := (Tryz.f106).body.getD .skip
noncomputable def rv : List ResultVar := (Tryz.f106).results.toList
noncomputable def fn : Fn := ⟨34, sig, rv, body, hint, join⟩
end impl_namesOk
namespace impl_twice
noncomputable def s0 (B2 : Y19 → Option Bool) (B4 : Y17 → Option Bool) (L0 : Y18 → Option Bool) : Y18 → Option Bool
 | (x0, x1, x2, x3, x4, x5, x6) => bif decide (x2 < x1) then bif decide (0 ≤ x2) && decide (x2 < (List.length x0 : Int)) then bif decide (0 ≤ 0) && decide ((0 : Int) ≤ x2) && decide (x2 ≤ (List.length x4 : Int)) then B2 (x0, x1, x2, List.drop (toNat (0 : Int)) (List.take (toNat x2) x4), (List.length (List.drop (toNat (0 : Int)) (List.take (toNat x2) x4)) : Int), (0 : Int), x3, x4, x5, x6, (getD x0 (toNat x2) Z4).1, (getD x0 (toNat x2) Z4).2.1, (getD x0 (toNat x2) Z4).2.2) else none else none else B4 (x6, (List.length x6 : Int), (0 : Int), x3, x4, x5, x6)
noncomputable def ll0 : Y18 → LS
 | (x0, x1, x2, x3, x4, x5, x6) => ⟨[.addr 65 0 [] 0, .cv ⟨.row K4, x0⟩, .cv ⟨.int .i64, x1⟩, .cv ⟨.int .i64, x2⟩], [⟨false, [⟨0, 0, .mk 0 ⟨.str, x3⟩⟩, ⟨0, 0, .mk 0 ⟨.row K4, x4⟩⟩, ⟨0, 0, .mk 0 ⟨.row K3, x5⟩⟩, ⟨0, 0, .mk 0 ⟨.row K5, x6⟩⟩]⟩]⟩
noncomputable def s2 (L0 : Y18 → Option Bool) (L2 : Y19 → Option Bool) : Y19 → Option Bool
 | (x0, x1, x2, x3, x4, x5, x6, x7, x8, x9, x10, x11, x12) => bif decide (x5 < x4) then bif decide (0 ≤ x5) && decide (x5 < (List.length x3 : Int)) then bif ByteArray.toList ((getD x3 (toNat x5) Z4).1) == ByteArray.toList x10 then some true else L2 (x0, x1, x2, x3, x4, wrap i64 (x5 + 1), x6, x7, x8, x9, x10, x11, x12) else none else L0 (x0, x1, wrap i64 (x2 + 1), x6, x7, x8, x9)
noncomputable def ll2 : Y19 → LS
 | (x0, x1, x2, x3, x4, x5, x6, x7, x8, x9, x10, x11, x12) => ⟨[.addr 65 0 [] 0, .addr 257 0 [] 0, .cv ⟨.row K4, x0⟩, .cv ⟨.int .i64, x1⟩, .cv ⟨.int .i64, x2⟩, .cv ⟨.row K4, x3⟩, .cv ⟨.int .i64, x4⟩, .cv ⟨.int .i64, x5⟩], [⟨false, [⟨0, 0, .mk 0 ⟨.str, x6⟩⟩, ⟨0, 0, .mk 0 ⟨.row K4, x7⟩⟩, ⟨0, 0, .mk 0 ⟨.row K3, x8⟩⟩, ⟨0, 0, .mk 0 ⟨.row K5, x9⟩⟩]⟩, ⟨false, [⟨0, 0, .mk 0 ⟨.str, x10⟩⟩, ⟨0, 0, .mk 0 ⟨.int .i64, x11⟩⟩, ⟨0, 0, .mk 0 ⟨.bool, x12⟩⟩]⟩]⟩
noncomputable def s4 (B6 : Y20 → Option Bool) (L4 : Y17 → Option Bool) : Y17 → Option Bool
 | (x0, x1, x2, x3, x4, x5, x6) => bif decide (x2 < x1) then bif decide (0 ≤ x2) && decide (x2 < (List.length x0 : Int)) then bif decide (0 ≤ 0) && decide ((0 : Int) ≤ x2) && decide (x2 ≤ (List.length x6 : Int)) then B6 (x0, x1, x2, List.drop (toNat (0 : Int)) (List.take (toNat x2) x6), (List.length (List.drop (toNat (0 : Int)) (List.take (toNat x2) x6)) : Int), (0 : Int), x3, x4, x5, x6, (getD x0 (toNat x2) Z1).1, (getD x0 (toNat x2) Z1).2.1, (getD x0 (toNat x2) Z1).2.2) else none else none else some false
noncomputable def ll4 : Y17 → LS
 | (x0, x1, x2, x3, x4, x5, x6) => ⟨[.addr 65 0 [] 0, .cv ⟨.row K5, x0⟩, .cv ⟨.int .i64, x1⟩, .cv ⟨.int .i64, x2⟩], [⟨false, [⟨0, 0, .mk 0 ⟨.str, x3⟩⟩, ⟨0, 0, .mk 0 ⟨.row K4, x4⟩⟩, ⟨0, 0, .mk 0 ⟨.row K3, x5⟩⟩, ⟨0, 0, .mk 0 ⟨.row K5, x6⟩⟩]⟩]⟩
noncomputable def s6 (L4 : Y17 → Option Bool) (L6 : Y20 → Option Bool) : Y20 → Option Bool
 | (x0, x1, x2, x3, x4, x5, x6, x7, x8, x9, x10, x11, x12) => bif decide (x5 < x4) then bif decide (0 ≤ x5) && decide (x5 < (List.length x3 : Int)) then bif ByteArray.toList ((getD x3 (toNat x5) Z1).1) == ByteArray.toList x10 then some true else L6 (x0, x1, x2, x3, x4, wrap i64 (x5 + 1), x6, x7, x8, x9, x10, x11, x12) else none else L4 (x0, x1, wrap i64 (x2 + 1), x6, x7, x8, x9)
noncomputable def ll6 : Y20 → LS
 | (x0, x1, x2, x3, x4, x5, x6, x7, x8, x9, x10, x11, x12) => ⟨[.addr 65 0 [] 0, .addr 513 0 [] 0, .cv ⟨.row K5, x0⟩, .cv ⟨.int .i64, x1⟩, .cv ⟨.int .i64, x2⟩, .cv ⟨.row K5, x3⟩, .cv ⟨.int .i64, x4⟩, .cv ⟨.int .i64, x5⟩], [⟨false, [⟨0, 0, .mk 0 ⟨.str, x6⟩⟩, ⟨0, 0, .mk 0 ⟨.row K4, x7⟩⟩, ⟨0, 0, .mk 0 ⟨.row K3, x8⟩⟩, ⟨0, 0, .mk 0 ⟨.row K5, x9⟩⟩]⟩, ⟨false, [⟨0, 0, .mk 0 ⟨.str, x10⟩⟩, ⟨0, 0, .mk 0 ⟨.bool, x11⟩⟩, ⟨0, 0, .mk 0 ⟨.row K3, x12⟩⟩]⟩]⟩
noncomputable def m (B0 : Y18 → Option Bool) : Y1 → Option Bool
 | (a0_0, a0_1, a0_2, a0_3) => B0 (a0_1, (List.length a0_1 : Int), (0 : Int), a0_0, a0_1, a0_2, a0_3)
noncomputable def sig : Sig := ⟨[.val true [⟨.str, 0, 0, false⟩, ⟨.row K4, 0, 0, false⟩, ⟨.row K3, 0, 0, false⟩, ⟨.row K5, 0, 0, false⟩]], [(.one, [(.bool, 0)])]⟩
noncomputable def hint : Nat → Hint
 | 0 => ⟨[(1, .keep), (12, .keep), (13, .keep), (14, .keep)], [(65, [0, 0, 0, 0])]⟩
 | 2 => ⟨[(1, .keep), (4, .keep), (12, .keep), (13, .keep), (14, .keep), (22, .keep), (23, .keep), (24, .keep)], [(65, [0, 0, 0, 0]), (257, [0, 0, 0])]⟩
 | 4 => ⟨[(1, .keep), (36, .keep), (37, .keep), (38, .keep)], [(65, [0, 0, 0, 0])]⟩
 | 6 => ⟨[(1, .keep), (8, .keep), (36, .keep), (37, .keep), (38, .keep), (46, .keep), (47, .keep), (48, .keep)], [(65, [0, 0, 0, 0]), (513, [0, 0, 0])]⟩
 | _ => ⟨[], []⟩
noncomputable def join (_ : Nat) : Option Hint := none
noncomputable def body : Code := (Tryz.f107).body.getD .skip
noncomputable def rv : List ResultVar := (Tryz.f107).results.toList
noncomputable def fn : Fn := ⟨59, sig, rv, body, hint, join⟩
end impl_twice
namespace impl_partsOk
noncomputable def s0 (c64 : (Int × Int × Int) → Option Bool) (B2 : Y22 → Option Bool) (L0 : Y23 → Option Bool) : Y23 → Option Bool
 | (x0, x1, x2, x3, x4, x5, x6, x7) => bif decide (x3 < x2) then bif decide (0 ≤ x3) && decide (x3 < (List.length x1 : Int)) then Option.bind (c64 ((getD x1 (toNat x3) Z5).1, (0 : Int), wrap i64 ((List.length x5 : Int) - 1))) fun r1 => bif !(r1) then some false else bif decide (0 ≤ 0) && decide ((0 : Int) ≤ x3) && decide (x3 ≤ (List.length x0 : Int)) then B2 (x0, x1, x2, x3, List.drop (toNat (0 : Int)) (List.take (toNat x3) x0), (List.length (List.drop (toNat (0 : Int)) (List.take (toNat x3) x0)) : Int), (0 : Int), x4, x5, x6, x7, (getD x1 (toNat x3) Z5).1, (getD x1 (toNat x3) Z5).2) else none else none else Option.bind (c64 ((List.length x0 : Int), (1 : Int), (2 : Int))) fun r2 => some r2
noncomputable def ll0 : Y23 → LS
 | (x0, x1, x2, x3, x4, x5, x6, x7) => ⟨[.cv ⟨.row K3, x0⟩, .addr 129 0 [] 0, .cv ⟨.row K3, x1⟩, .cv ⟨.int .i64, x2⟩, .cv ⟨.int .i64, x3⟩], [⟨false, [⟨0, 0, .mk 0 ⟨.str, x4⟩⟩, ⟨0, 0, .mk 0 ⟨.row K4, x5⟩⟩, ⟨0, 0, .mk 0 ⟨.row K3, x6⟩⟩, ⟨0, 0, .mk 0 ⟨.row K5, x7⟩⟩]⟩]⟩
noncomputable def s2 (L0 : Y23 → Option Bool) (L2 : Y22 → Option Bool) : Y22 → Option Bool
 | (x0, x1, x2, x3, x4, x5, x6, x7, x8, x9, x10, x11, x12) => bif decide (x6 < x5) then bif decide (0 ≤ x6) && decide (x6 < (List.length x4 : Int)) then bif ((getD x4 (toNat x6) Z5).1) == x11 then some false else L2 (x0, x1, x2, x3, x4, x5, wrap i64 (x6 + 1), x7, x8, x9, x10, x11, x12) else none else L0 (x0, x1, x2, wrap i64 (x3 + 1), x7, x8, x9, x10)
noncomputable def ll2 : Y22 → LS
 | (x0, x1, x2, x3, x4, x5, x6, x7, x8, x9, x10, x11, x12) => ⟨[.cv ⟨.row K3, x0⟩, .addr 129 0 [] 0, .addr 385 0 [] 0, .cv ⟨.row K3, x1⟩, .cv ⟨.int .i64, x2⟩, .cv ⟨.int .i64, x3⟩, .cv ⟨.row K3, x4⟩, .cv ⟨.int .i64, x5⟩, .cv ⟨.int .i64, x6⟩], [⟨false, [⟨0, 0, .mk 0 ⟨.str, x7⟩⟩, ⟨0, 0, .mk 0 ⟨.row K4, x8⟩⟩, ⟨0, 0, .mk 0 ⟨.row K3, x9⟩⟩, ⟨0, 0, .mk 0 ⟨.row K5, x10⟩⟩]⟩, ⟨false, [⟨0, 0, .mk 0 ⟨.int .i64, x11⟩⟩, ⟨0, 0, .mk 0 ⟨.bool, x12⟩⟩]⟩]⟩
noncomputable def m (B0 : Y23 → Option Bool) : Y21 → Option Bool
 | (a0_0, a0_1, a0_2, a0_3, a1_0) => B0 (a1_0, a1_0, (List.length a1_0 : Int), (0 : Int), a0_0, a0_1, a0_2, a0_3)
noncomputable def sig : Sig := ⟨[.val true [⟨.str, 0, 0, false⟩, ⟨.row K4, 0, 0, false⟩, ⟨.row K3, 0, 0, false⟩, ⟨.row K5, 0, 0, false⟩], .val false [⟨.row K3, 0, 0, false⟩]], [(.one, [(.bool, 0)])]⟩
noncomputable def hint : Nat → Hint
 | 0 => ⟨[(1, .keep), (2, .keep), (9, .keep), (10, .keep), (11, .keep)], [(129, [0, 0, 0, 0])]⟩
 | 2 => ⟨[(1, .keep), (2, .keep), (6, .keep), (9, .keep), (10, .keep), (11, .keep), (26, .keep), (27, .keep), (28, .keep)], [(129, [0, 0, 0, 0]), (385, [0, 0])]⟩
 | _ => ⟨[], []⟩
noncomputable def join (_ : Nat) : Option Hint := none
noncomputable def body : Code := (Tryz.f108).body.getD .skip
noncomputable def rv : List ResultVar := (Tryz.f108).results.toList
noncomputable def fn : Fn := ⟨42, sig, rv, body, hint, join⟩
end impl_partsOk
namespace impl_CheckDef
noncomputable def s0 (c64 : (Int × Int × Int) → Option Bool) (c107 : Y1 → Option Bool) (B2 : Y17 → Option Int) (L0 : Y18 → Option Int) : Y18 → Option Int
 | (x0, x1, x2, x3, x4, x5, x6) => bif decide (x2 < x1) then bif decide (0 ≤ x2) && decide (x2 < (List.length x0 : Int)) then Option.bind (c64 ((getD x0 (toNat x2) Z4).2.1, (1 : Int), (4 : Int))) fun r3 => bif !(r3) then some (2 : Int) else L0 (x0, x1, wrap i64 (x2 + 1), x3, x4, x5, x6) else none else Option.bind (c107 (x3, x4, x5, x6)) fun r4 => bif r4 then some (3 : Int) else bif decide ((List.length x6 : Int) > 2) then some (6 : Int) else B2 (x6, (List.length x6 : Int), (0 : Int), x3, x4, x5, x6)
noncomputable def ll0 : Y18 → LS
 | (x0, x1, x2, x3, x4, x5, x6) => ⟨[.addr 65 0 [] 0, .cv ⟨.row K4, x0⟩, .cv ⟨.int .i64, x1⟩, .cv ⟨.int .i64, x2⟩], [⟨false, [⟨0, 0, .mk 0 ⟨.str, x3⟩⟩, ⟨0, 0, .mk 0 ⟨.row K4, x4⟩⟩, ⟨0, 0, .mk 0 ⟨.row K3, x5⟩⟩, ⟨0, 0, .mk 0 ⟨.row K5, x6⟩⟩]⟩]⟩
noncomputable def s2 (c108 : Y21 → Option Bool) (B4 : Y24 → Option Int) (L2 : Y17 → Option Int) : Y17 → Option Int
 | (x0, x1, x2, x3, x4, x5, x6) => bif decide (x2 < x1) then bif decide (0 ≤ x2) && decide (x2 < (List.length x0 : Int)) then Option.bind (c108 (x3, x4, x5, x6, (getD x0 (toNat x2) Z1).2.2)) fun r5 => bif !(r5) then some (5 : Int) else L2 (x0, x1, wrap i64 (x2 + 1), x3, x4, x5, x6) else none else Option.bind (c108 (x3, x4, x5, x6, x5)) fun r6 => bif !(r6) then some (5 : Int) else B4 (x5, (List.length x5 : Int), (0 : Int), x3, x4, x5, x6)
noncomputable def ll2 : Y17 → LS
 | (x0, x1, x2, x3, x4, x5, x6) => ⟨[.addr 65 0 [] 0, .cv ⟨.row K5, x0⟩, .cv ⟨.int .i64, x1⟩, .cv ⟨.int .i64, x2⟩], [⟨false, [⟨0, 0, .mk 0 ⟨.str, x3⟩⟩, ⟨0, 0, .mk 0 ⟨.row K4, x4⟩⟩, ⟨0, 0, .mk 0 ⟨.row K3, x5⟩⟩, ⟨0, 0, .mk 0 ⟨.row K5, x6⟩⟩]⟩]⟩
noncomputable def s4 (L4 : Y24 → Option Int) : Y24 → Option Int
 | (x0, x1, x2, x3, x4, x5, x6) => bif decide (x2 < x1) then bif decide (0 ≤ x2) && decide (x2 < (List.length x0 : Int)) then bif decide (0 ≤ ((getD x0 (toNat x2) Z5).1)) && decide (((getD x0 (toNat x2) Z5).1) < (List.length x4 : Int)) then bif (getD x4 (toNat ((getD x0 (toNat x2) Z5).1)) Z4).2.2 then some (4 : Int) else L4 (x0, x1, wrap i64 (x2 + 1), x3, x4, x5, x6) else none else none else some (0 : Int)
noncomputable def ll4 : Y24 → LS
 | (x0, x1, x2, x3, x4, x5, x6) => ⟨[.addr 65 0 [] 0, .cv ⟨.row K3, x0⟩, .cv ⟨.int .i64, x1⟩, .cv ⟨.int .i64, x2⟩], [⟨false, [⟨0, 0, .mk 0 ⟨.str, x3⟩⟩, ⟨0, 0, .mk 0 ⟨.row K4, x4⟩⟩, ⟨0, 0, .mk 0 ⟨.row K3, x5⟩⟩, ⟨0, 0, .mk 0 ⟨.row K5, x6⟩⟩]⟩]⟩
noncomputable def m (c64 : (Int × Int × Int) → Option Bool) (c106 : Y1 → Option Bool) (B0 : Y18 → Option Int) : Y1 → Option Int
 | (a0_0, a0_1, a0_2, a0_3) => Option.bind (c106 (a0_0, a0_1, a0_2, a0_3)) fun r1 => bif !(r1) then some (1 : Int) else Option.bind (c64 ((List.length a0_1 : Int), (1 : Int), (6 : Int))) fun r2 => bif !(r2) then some (2 : Int) else B0 (a0_1, (List.length a0_1 : Int), (0 : Int), a0_0, a0_1, a0_2, a0_3)
noncomputable def sig : Sig := ⟨[.val true [⟨.str, 0, 0, false⟩, ⟨.row K4, 0, 0, false⟩, ⟨.row K3, 0, 0, false⟩, ⟨.row K5, 0, 0, false⟩]], [(.one, [(.int .i64, 0)])]⟩
noncomputable def hint : Nat → Hint
 | 0 => ⟨[(1, .keep), (18, .keep), (19, .keep), (20, .keep)], [(65, [0, 0, 0, 0])]⟩
 | 2 => ⟨[(1, .keep), (36, .keep), (37, .keep), (38, .keep)], [(65, [0, 0, 0, 0])]⟩
 | 4 => ⟨[(1, .keep), (54, .keep), (55, .keep), (56, .keep)], [(65, [0, 0, 0, 0])]⟩
 | _ => ⟨[], []⟩
noncomputable def join (_ : Nat) : Option Hint := none
noncomputable def body : Code := (Tryz.f65).body.getD .skip
noncomputable def rv : List ResultVar := (Tryz.f65).results.toList
noncomputable def fn : Fn := ⟨68, sig, rv, body, hint, join⟩
end impl_CheckDef
namespace impl_FirstBad
noncomputable def s0 (c65 : Y1 → Option Int) (B2 : Y26 → Option Int) (L0 : Y27 → Option Int) : Y27 → Option Int
 | (x0, x1, x2, x3) => bif decide (x3 < x2) then bif decide (0 ≤ x3) && decide (x3 < (List.length x1 : Int)) then bif decide (x3 ≥ 3) then some x3 else Option.bind (c65 ((getD x1 (toNat x3) Z0).1, (getD x1 (toNat x3) Z0).2.1, (getD x1 (toNat x3) Z0).2.2.1, (getD x1 (toNat x3) Z0).2.2.2)) fun r1 => bif r1 != 0 then some x3 else bif decide (0 ≤ 0) && decide ((0 : Int) ≤ x3) && decide (x3 ≤ (List.length x0 : Int)) then B2 (x0, x3, x1, x2, x3, (getD x1 (toNat x3) Z0).1, (getD x1 (toNat x3) Z0).2.1, (getD x1 (toNat x3) Z0).2.2.1, (getD x1 (toNat x3) Z0).2.2.2, r1, r1 != 0, List.drop (toNat (0 : Int)) (List.take (toNat x3) x0), (List.length (List.drop (toNat (0 : Int)) (List.take (toNat x3) x0)) : Int), (0 : Int), (getD x1 (toNat x3) Z0).1, (getD x1 (toNat x3) Z0).2.1, (getD x1 (toNat x3) Z0).2.2.1, (getD x1 (toNat x3) Z0).2.2.2) else none else none else some (-1 : Int)
noncomputable def ll0 : Y27 → LS
 | (x0, x1, x2, x3) => ⟨[.cv ⟨.row K6, x0⟩, .cv ⟨.row K6, x1⟩, .cv ⟨.int .i64, x2⟩, .cv ⟨.int .i64, x3⟩], []⟩
noncomputable def s2 (L0 : Y27 → Option Int) (L2 : Y26 → Option Int) : Y26 → Option Int
 | (x0, x1, x2, x3, x4, x5, x6, x7, x8, x9, x10, x11, x12, x13, x14, x15, x16, x17) => bif decide (x13 < x12) then bif decide (0 ≤ x13) && decide (x13 < (List.length x11 : Int)) then bif ByteArray.toList ((getD x11 (toNat x13) Z0).1) == ByteArray.toList x14 then some x1 else L2 (x0, x1, x2, x3, x4, x5, x6, x7, x8, x9, x10, x11, x12, wrap i64 (x13 + 1), x14, x15, x16, x17) else none else L0 (x0, x2, x3, wrap i64 (x4 + 1))
noncomputable def ll2 : Y26 → LS
 | (x0, x1, x2, x3, x4, x5, x6, x7, x8, x9, x10, x11, x12, x13, x14, x15, x16, x17) => ⟨[.cv ⟨.row K6, x0⟩, .cv ⟨.int .i64, x1⟩, .addr 257 0 [] 0, .cv ⟨.row K6, x2⟩, .cv ⟨.int .i64, x3⟩, .cv ⟨.int .i64, x4⟩, .agg [.cv ⟨.str, x5⟩, .cv ⟨.row K4, x6⟩, .cv ⟨.row K3, x7⟩, .cv ⟨.row K5, x8⟩], .cv ⟨.int .i64, x9⟩, .cv ⟨.bool, x10⟩, .cv ⟨.row K6, x11⟩, .cv ⟨.int .i64, x12⟩, .cv ⟨.int .i64, x13⟩], [⟨false, [⟨0, 0, .mk 0 ⟨.str, x14⟩⟩, ⟨0, 0, .mk 0 ⟨.row K4, x15⟩⟩, ⟨0, 0, .mk 0 ⟨.row K3, x16⟩⟩, ⟨0, 0, .mk 0 ⟨.row K5, x17⟩⟩]⟩]⟩
noncomputable def m (B0 : Y27 → Option Int) : Y25 → Option Int
 | a0_0 => B0 (a0_0, a0_0, (List.length a0_0 : Int), (0 : Int))
noncomputable def sig : Sig := ⟨[.val false [⟨.row K6, 0, 0, false⟩]], [(.one, [(.int .i64, 0)])]⟩
noncomputable def hint : Nat → Hint
 | 0 => ⟨[(0, .keep), (7, .keep), (8, .keep), (9, .keep)], []⟩
 | 2 => ⟨[(0, .keep), (3, .keep), (4, .keep), (7, .keep), (8, .keep), (9, .keep), (17, .keep), (18, .keep), (19, .keep), (24, .keep), (25, .keep), (26, .keep)], [(257, [0, 0, 0, 0])]⟩
 | _ => ⟨[], []⟩
noncomputable def join (_ : Nat) : Option Hint := none
noncomputable def body : Code := (Tryz.f72).body.getD .skip
noncomputable def rv : List ResultVar := (Tryz.f72).results.toList
noncomputable def fn : Fn := ⟨38, sig, rv, body, hint, join⟩
end impl_FirstBad
namespace impl_hasIndex
noncomputable def m (c64 : (Int × Int × Int) → Option Bool) (c72 : Y25 → Option Int) : Y9 → Option Bool
 | (a0_0, a1_0, a2_0) => Option.bind (c72 a0_0) fun r1 => bif r1 == (-1) then Option.bind (c64 (a1_0, (0 : Int), wrap i64 ((List.length a0_0 : Int) - 1))) fun r2 => bif r2 then bif decide (0 ≤ a1_0) && decide (a1_0 < (List.length a0_0 : Int)) then Option.bind (c64 (a2_0, (-1 : Int), wrap i64 ((List.length ((getD a0_0 (toNat a1_0) Z0).2.2.2) : Int) - 1))) fun r3 => some r3 else none else some false else some false
noncomputable def sig : Sig := ⟨[.val false [⟨.row K6, 0, 0, false⟩], .val false [⟨.int .i64, 0, 0, false⟩], .val false [⟨.int .i64, 0, 0, false⟩]], [(.one, [(.bool, 0)])]⟩
noncomputable def hint (_ : Nat) : Hint := ⟨[], []⟩
noncomputable def join (_ : Nat) : Option Hint := none
noncomputable def body : Code := (Tryz.f41).body.getD .skip
noncomputable def rv : List ResultVar := (Tryz.f41).results.toList
noncomputable def fn : Fn := ⟨28, sig, rv, body, hint, join⟩
end impl_hasIndex
namespace impl_PartOk
noncomputable def m (c64 : (Int × Int × Int) → Option Bool) : (Int × Int × Bool × Bool) → Option Bool
 | (a0_0, a0_1, a0_2, a0_3) => Option.bind (c64 (a0_0, (0 : Int), (9 : Int))) fun r1 => bif r1 then Option.bind (c64 (a0_1, (1 : Int), (4 : Int))) fun r2 => some r2 else some false
noncomputable def sig : Sig := ⟨[.val true [⟨.int .i64, 0, 0, false⟩, ⟨.int .i64, 0, 0, false⟩, ⟨.bool, 0, 0, false⟩, ⟨.bool, 0, 0, false⟩]], [(.one, [(.bool, 0)])]⟩
noncomputable def hint (_ : Nat) : Hint := ⟨[], []⟩
noncomputable def join (_ : Nat) : Option Hint := none
noncomputable def body : Code := (Tryz.f115).body.getD .skip
noncomputable def rv : List ResultVar := (Tryz.f115).results.toList
noncomputable def fn : Fn := ⟨11, sig, rv, body, hint, join⟩
end impl_PartOk
namespace impl_PlanOk
noncomputable def s0 (c115 : (Int × Int × Bool × Bool) → Option Bool) (L0 : Y29 → Option Bool) : Y29 → Option Bool
 | (x0, x1, x2) => bif decide (x2 < x1) then bif decide (0 ≤ x2) && decide (x2 < (List.length x0 : Int)) then bif decide (x2 ≥ 6) then some false else Option.bind (c115 ((getD x0 (toNat x2) Z3).1, (getD x0 (toNat x2) Z3).2.1, (getD x0 (toNat x2) Z3).2.2.1, (getD x0 (toNat x2) Z3).2.2.2)) fun r1 => bif !(r1) then some false else L0 (x0, x1, wrap i64 (x2 + 1)) else none else some true
noncomputable def ll0 : Y29 → LS
 | (x0, x1, x2) => ⟨[.cv ⟨.row K8, x0⟩, .cv ⟨.int .i64, x1⟩, .cv ⟨.int .i64, x2⟩], []⟩
noncomputable def m (B0 : Y29 → Option Bool) : Y28 → Option Bool
 | a0_0 => B0 (a0_0, (List.length a0_0 : Int), (0 : Int))
noncomputable def sig : Sig := ⟨[.val false [⟨.row K8, 0, 0, false⟩]], [(.one, [(.bool, 0)])]⟩
noncomputable def hint : Nat → Hint
 | 0 => ⟨[(5, .keep), (6, .keep), (7, .keep)], []⟩
 | _ => ⟨[], []⟩
noncomputable def join (_ : Nat) : Option Hint := none
noncomputable def body : Code := (Tryz.f73).body.getD .skip
noncomputable def rv : List ResultVar := (Tryz.f73).results.toList
noncomputable def fn : Fn := ⟨20, sig, rv, body, hint, join⟩
end impl_PlanOk
namespace impl_ValOk
noncomputable def m (c64 : (Int × Int × Int) → Option Bool) : (Int × Int × ByteArray) → Option Bool
 | (a0_0, a0_1, a0_2) => bif a0_0 == 0 then bif a0_1 == 0 then some (ByteArray.toList a0_2 == ByteArray.toList ({ data := #[] } : ByteArray)) else some false else bif a0_0 == 1 then Option.bind (c64 (a0_1, (-2147483648 : Int), (2147483647 : Int))) fun r1 => bif r1 then some (ByteArray.toList a0_2 == ByteArray.toList ({ data := #[] } : ByteArray)) else some false else bif a0_0 == 2 then Option.bind (c64 (a0_1, (-1000000000000000 : Int), (1000000000000000 : Int))) fun r2 => bif r2 then some (ByteArray.toList a0_2 == ByteArray.toList ({ data := #[] } : ByteArray)) else some false else bif a0_0 == 3 then bif a0_1 == 0 then some (decide ((ByteArray.size a0_2 : Int) ≤ 30)) else some false else bif a0_0 == 4 then Option.bind (c64 (a0_1, (0 : Int), (1 : Int))) fun r3 => bif r3 then some (ByteArray.toList a0_2 == ByteArray.toList ({ data := #[] } : ByteArray)) else some false else some false
noncomputable def sig : Sig := ⟨[.val true [⟨.int .i64, 0, 0, false⟩, ⟨.int .i64, 0, 0, false⟩, ⟨.str, 0, 0, false⟩]], [(.one, [(.bool, 0)])]⟩
noncomputable def hint (_ : Nat) : Hint := ⟨[], []⟩
noncomputable def join (_ : Nat) : Option Hint := none
noncomputable def body : Code := (Tryz.f144).body.getD .skip
noncomputable def rv : List ResultVar := (Tryz.f144).results.toList
noncomputable def fn : Fn := ⟨56, sig, rv, body, hint, join⟩
end impl_ValOk
namespace impl_Fits
noncomputable def m (c144 : (Int × Int × ByteArray) → Option Bool) : Y30 → Option Bool
 | (a0_0, a0_1, a0_2, a0_3, a1_0, a1_1, a1_2) => Option.bind (c144 (a1_0, a1_1, a1_2)) fun r1 => bif r1 then bif a1_0 == a0_1 then bif a1_0 != 0 then some true else bif a1_0 == 0 then some a0_2 else some false else bif a1_0 == 0 then some a0_2 else some false else some false
noncomputable def sig : Sig := ⟨[.val true [⟨.int .i64, 0, 0, false⟩, ⟨.int .i64, 0, 0, false⟩, ⟨.bool, 0, 0, false⟩, ⟨.bool, 0, 0, false⟩], .val true [⟨.int .i64, 0, 0, false⟩, ⟨.int .i64, 0, 0, false⟩, ⟨.str, 0, 0, false⟩]], [(.one, [(.bool, 0)])]⟩
noncomputable def hint (_ : Nat) : Hint := ⟨[], []⟩
noncomputable def join (_ : Nat) : Option Hint := none
noncomputable def body : Code := (Tryz.f116).body.getD .skip
noncomputable def rv : List ResultVar := (Tryz.f116).results.toList
noncomputable def fn : Fn := ⟨28, sig, rv, body, hint, join⟩
end impl_Fits
namespace impl_FitsAll
noncomputable def s0 (c116 : Y30 → Option Bool) (L0 : Y32 → Option Bool) : Y32 → Option Bool
 | (x0, x1, x2, x3) => bif decide (x3 < x2) then bif decide (0 ≤ x3) && decide (x3 < (List.length x1 : Int)) then bif decide (0 ≤ x3) && decide (x3 < (List.length x0 : Int)) then Option.bind (c116 ((getD x0 (toNat x3) Z3).1, (getD x0 (toNat x3) Z3).2.1, (getD x0 (toNat x3) Z3).2.2.1, (getD x0 (toNat x3) Z3).2.2.2, (getD x1 (toNat x3) Z2).1, (getD x1 (toNat x3) Z2).2.1, (getD x1 (toNat x3) Z2).2.2)) fun r1 => bif !(r1) then some false else L0 (x0, x1, x2, wrap i64 (x3 + 1)) else none else none else some true
noncomputable def ll0 : Y32 → LS
 | (x0, x1, x2, x3) => ⟨[.cv ⟨.row K8, x0⟩, .cv ⟨.row K7, x1⟩, .cv ⟨.int .i64, x2⟩, .cv ⟨.int .i64, x3⟩], []⟩
noncomputable def m (B0 : Y32 → Option Bool) : Y31 → Option Bool
 | (a0_0, a1_0) => bif decide ((List.length a1_0 : Int) > (List.length a0_0 : Int)) then some false else B0 (a0_0, a1_0, (List.length a1_0 : Int), (0 : Int))
noncomputable def sig : Sig := ⟨[.val false [⟨.row K8, 0, 0, false⟩], .val false [⟨.row K7, 0, 0, false⟩]], [(.one, [(.bool, 0)])]⟩
noncomputable def hint : Nat → Hint
 | 0 => ⟨[(0, .keep), (12, .keep), (13, .keep), (14, .keep)], []⟩
 | _ => ⟨[], []⟩
noncomputable def join (_ : Nat) : Option Hint := none
noncomputable def body : Code := (Tryz.f74).body.getD .skip
noncomputable def rv : List ResultVar := (Tryz.f74).results.toList
noncomputable def fn : Fn := ⟨27, sig, rv, body, hint, join⟩
end impl_FitsAll
namespace impl_RowOk
noncomputable def m (c73 : Y28 → Option Bool) (c74 : Y31 → Option Bool) : Y31 → Option Bool
 | (a0_0, a1_0) => Option.bind (c73 a0_0) fun r1 => bif r1 then bif (List.length a1_0 : Int) == (List.length a0_0 : Int) then Option.bind (c74 (a0_0, a1_0)) fun r2 => some r2 else some false else some false
noncomputable def sig : Sig := ⟨[.val false [⟨.row K8, 0, 0, false⟩], .val false [⟨.row K7, 0, 0, false⟩]], [(.one, [(.bool, 0)])]⟩
noncomputable def hint (_ : Nat) : Hint := ⟨[], []⟩
noncomputable def join (_ : Nat) : Option Hint := none
noncomputable def body : Code := (Tryz.f42).body.getD .skip
noncomputable def rv : List ResultVar := (Tryz.f42).results.toList
noncomputable def fn : Fn := ⟨19, sig, rv, body, hint, join⟩
end impl_RowOk
namespace impl_RowPlan
noncomputable def s0 (L0 : Y33 → Option Y28) : Y33 → Option Y28
 | (x0, x1, x2, x3) => bif decide (x2 < x1) then bif decide (0 ≤ x2) && decide (x2 < (List.length x0 : Int)) then bif decide ((List.length x3 + List.length ([(x2, (getD x0 (toNat x2) Z4).2.1, (getD x0 (toNat x2) Z4).2.2, false)] : List (Int × Int × Bool × Bool))) * 24 ≤ 140737488355328) then L0 (x0, x1, wrap i64 (x2 + 1), x3 ++ ([(x2, (getD x0 (toNat x2) Z4).2.1, (getD x0 (toNat x2) Z4).2.2, false)] : List (Int × Int × Bool × Bool))) else none else none else some x3
noncomputable def ll0 : Y33 → LS
 | (x0, x1, x2, x3) => ⟨[.ref 12 0 [] none 0, .cv ⟨.row K4, x0⟩, .cv ⟨.int .i64, x1⟩, .cv ⟨.int .i64, x2⟩], [⟨true, [⟨0, 0, .mk 9 ⟨.row K8, x3⟩⟩]⟩]⟩
noncomputable def m (c65 : Y1 → Option Int) (B0 : Y33 → Option Y28) : Y1 → Option Y28
 | (a0_0, a0_1, a0_2, a0_3) => Option.bind (c65 (a0_0, a0_1, a0_2, a0_3)) fun r1 => bif r1 != 0 then some ([] : List (Int × Int × Bool × Bool)) else B0 (a0_1, (List.length a0_1 : Int), (0 : Int), ([] : List (Int × Int × Bool × Bool)))
noncomputable def sig : Sig := ⟨[.val true [⟨.str, 0, 0, false⟩, ⟨.row K4, 0, 0, false⟩, ⟨.row K3, 0, 0, false⟩, ⟨.row K5, 0, 0, false⟩]], [(.one, [(.row K8, 1)])]⟩
noncomputable def hint : Nat → Hint
 | 0 => ⟨[(3, .own 9 K8), (10, .keep), (11, .keep), (12, .keep)], []⟩
 | _ => ⟨[], []⟩
noncomputable def join (_ : Nat) : Option Hint := none
noncomputable def body : Code := (Tryz.f43).body.getD .skip
noncomputable def rv : List ResultVar := (Tryz.f43).results.toList
noncomputable def fn : Fn := ⟨28, sig, rv, body, hint, join⟩
end impl_RowPlan
namespace impl_HeadOf
noncomputable def m (c41 : Y9 → Option Bool) : Y9 → Option ((List Int))
 | (a0_0, a1_0, a2_0) => Option.bind (c41 (a0_0, a1_0, a2_0)) fun r1 => bif !(r1) then some ([] : List Int) else some ([wrap .u8 (wrap i64 (a1_0 + 1)), wrap .u8 (wrap i64 (a2_0 + 1))] : List Int)
noncomputable def sig : Sig := ⟨[.val false [⟨.row K6, 0, 0, false⟩], .val false [⟨.int .i64, 0, 0, false⟩], .val false [⟨.int .i64, 0, 0, false⟩]], [(.one, [(.row K1, 1)])]⟩
noncomputable def hint (_ : Nat) : Hint := ⟨[], []⟩
noncomputable def join (_ : Nat) : Option Hint := none
noncomputable def body : Code := (Tryz.f14).body.getD .skip
noncomputable def rv : List ResultVar := (Tryz.f14).results.toList
noncomputable def fn : Fn := ⟨19, sig, rv, body, hint, join⟩
end impl_HeadOf
namespace impl_Pick
noncomputable def s0 (c64 : (Int × Int × Int) → Option Bool) (L0 : Y35 → Option Y34) : Y35 → Option Y34
 | (x0, x1, x2, x3, x4) => bif decide (x3 < x2) then bif decide (0 ≤ x3) && decide (x3 < (List.length x1 : Int)) then Option.bind (c64 ((getD x1 (toNat x3) Z3).1, (0 : Int), wrap i64 ((List.length x0 : Int) - 1))) fun r1 => bif r1 then bif decide (0 ≤ ((getD x1 (toNat x3) Z3).1)) && decide (((getD x1 (toNat x3) Z3).1) < (List.length x0 : Int)) then bif decide ((List.length x4 + List.length ([((getD x0 (toNat ((getD x1 (toNat x3) Z3).1)) Z2).1, (getD x0 (toNat ((getD x1 (toNat x3) Z3).1)) Z2).2.1, (getD x0 (toNat ((getD x1 (toNat x3) Z3).1)) Z2).2.2)] : List (Int × Int × ByteArray))) * 32 ≤ 140737488355328) then L0 (x0, x1, x2, wrap i64 (x3 + 1), x4 ++ ([((getD x0 (toNat ((getD x1 (toNat x3) Z3).1)) Z2).1, (getD x0 (toNat ((getD x1 (toNat x3) Z3).1)) Z2).2.1, (getD x0 (toNat ((getD x1 (toNat x3) Z3).1)) Z2).2.2)] : List (Int × Int × ByteArray))) else none else none else bif decide ((List.length x4 + List.length ([Z2] : List (Int × Int × ByteArray))) * 32 ≤ 140737488355328) then L0 (x0, x1, x2, wrap i64 (x3 + 1), x4 ++ ([Z2] : List (Int × Int × ByteArray))) else none else none else some x4
noncomputable def ll0 : Y35 → LS
 | (x0, x1, x2, x3, x4) => ⟨[.cv ⟨.row K7, x0⟩, .ref 20 0 [] none 0, .cv ⟨.row K8, x1⟩, .cv ⟨.int .i64, x2⟩, .cv ⟨.int .i64, x3⟩], [⟨true, [⟨0, 0, .mk 9 ⟨.row K7, x4⟩⟩]⟩]⟩
noncomputable def m (B0 : Y35 → Option Y34) : Y31 → Option Y34
 | (a0_0, a1_0) => B0 (a1_0, a0_0, (List.length a0_0 : Int), (0 : Int), ([] : List (Int × Int × ByteArray)))
noncomputable def sig : Sig := ⟨[.val false [⟨.row K8, 0, 0, false⟩], .val false [⟨.row K7, 0, 0, false⟩]], [(.one, [(.row K7, 1)])]⟩
noncomputable def hint : Nat → Hint
 | 0 => ⟨[(1, .keep), (5, .own 9 K7), (9, .keep), (10, .keep), (11, .keep)], []⟩
 | _ => ⟨[], []⟩
noncomputable def join (_ : Nat) : Option Hint := none
noncomputable def body : Code := (Tryz.f31).body.getD .skip
noncomputable def rv : List ResultVar := (Tryz.f31).results.toList
noncomputable def fn : Fn := ⟨32, sig, rv, body, hint, join⟩
end impl_Pick
namespace impl_partsOf
noncomputable def s0 (L0 : Y36 → Option Y28) : Y36 → Option Y28
 | (x0, x1, x2, x3, x4, x5, x6, x7) => bif decide (x2 < x1) then bif decide (0 ≤ x2) && decide (x2 < (List.length x0 : Int)) then bif decide (0 ≤ ((getD x0 (toNat x2) Z5).1)) && decide (((getD x0 (toNat x2) Z5).1) < (List.length x4 : Int)) then bif decide ((List.length x7 + List.length ([((getD x0 (toNat x2) Z5).1, (getD x4 (toNat ((getD x0 (toNat x2) Z5).1)) Z4).2.1, (getD x4 (toNat ((getD x0 (toNat x2) Z5).1)) Z4).2.2, (getD x0 (toNat x2) Z5).2)] : List (Int × Int × Bool × Bool))) * 24 ≤ 140737488355328) then L0 (x0, x1, wrap i64 (x2 + 1), x3, x4, x5, x6, x7 ++ ([((getD x0 (toNat x2) Z5).1, (getD x4 (toNat ((getD x0 (toNat x2) Z5).1)) Z4).2.1, (getD x4 (toNat ((getD x0 (toNat x2) Z5).1)) Z4).2.2, (getD x0 (toNat x2) Z5).2)] : List (Int × Int × Bool × Bool))) else none else none else none else some x7
noncomputable def ll0 : Y36 → LS
 | (x0, x1, x2, x3, x4, x5, x6, x7) => ⟨[.addr 129 0 [] 0, .ref 20 0 [] none 0, .cv ⟨.row K3, x0⟩, .cv ⟨.int .i64, x1⟩, .cv ⟨.int .i64, x2⟩], [⟨false, [⟨0, 0, .mk 0 ⟨.str, x3⟩⟩, ⟨0, 0, .mk 0 ⟨.row K4, x4⟩⟩, ⟨0, 0, .mk 0 ⟨.row K3, x5⟩⟩, ⟨0, 0, .mk 0 ⟨.row K5, x6⟩⟩]⟩, ⟨true, [⟨0, 0, .mk 9 ⟨.row K8, x7⟩⟩]⟩]⟩
noncomputable def m (B0 : Y36 → Option Y28) : Y21 → Option Y28
 | (a0_0, a0_1, a0_2, a0_3, a1_0) => B0 (a1_0, (List.length a1_0 : Int), (0 : Int), a0_0, a0_1, a0_2, a0_3, ([] : List (Int × Int × Bool × Bool)))
noncomputable def sig : Sig := ⟨[.val true [⟨.str, 0, 0, false⟩, ⟨.row K4, 0, 0, false⟩, ⟨.row K3, 0, 0, false⟩, ⟨.row K5, 0, 0, false⟩], .val false [⟨.row K3, 0, 0, false⟩]], [(.one, [(.row K8, 1)])]⟩
noncomputable def hint : Nat → Hint
 | 0 => ⟨[(2, .keep), (5, .own 9 K8), (9, .keep), (10, .keep), (11, .keep)], [(129, [0, 0, 0, 0])]⟩
 | _ => ⟨[], []⟩
noncomputable def join (_ : Nat) : Option Hint := none
noncomputable def body : Code := (Tryz.f66).body.getD .skip
noncomputable def rv : List ResultVar := (Tryz.f66).results.toList
noncomputable def fn : Fn := ⟨35, sig, rv, body, hint, join⟩
end impl_partsOf
namespace impl_PrimaryPlan
noncomputable def m (c65 : Y1 → Option Int) (c66 : Y21 → Option Y28) : Y1 → Option Y28
 | (a0_0, a0_1, a0_2, a0_3) => Option.bind (c65 (a0_0, a0_1, a0_2, a0_3)) fun r1 => bif r1 != 0 then some ([] : List (Int × Int × Bool × Bool)) else Option.bind (c66 (a0_0, a0_1, a0_2, a0_3, a0_2)) fun r2 => some r2
noncomputable def sig : Sig := ⟨[.val true [⟨.str, 0, 0, false⟩, ⟨.row K4, 0, 0, false⟩, ⟨.row K3, 0, 0, false⟩, ⟨.row K5, 0, 0, false⟩]], [(.one, [(.row K8, 1)])]⟩
noncomputable def hint (_ : Nat) : Hint := ⟨[], []⟩
noncomputable def join (_ : Nat) : Option Hint := none
noncomputable def body : Code := (Tryz.f32).body.getD .skip
noncomputable def rv : List ResultVar := (Tryz.f32).results.toList
noncomputable def fn : Fn := ⟨10, sig, rv, body, hint, join⟩
end impl_PrimaryPlan
namespace impl_IndexPlan
noncomputable def m (c64 : (Int × Int × Int) → Option Bool) (c65 : Y1 → Option Int) (c66 : Y21 → Option Y28) : Y37 → Option Y28
 | (a0_0, a0_1, a0_2, a0_3, a1_0) => Option.bind (c65 (a0_0, a0_1, a0_2, a0_3)) fun r1 => bif r1 != 0 then some ([] : List (Int × Int × Bool × Bool)) else Option.bind (c64 (a1_0, (0 : Int), wrap i64 ((List.length a0_3 : Int) - 1))) fun r2 => bif !(r2) then some ([] : List (Int × Int × Bool × Bool)) else bif decide (0 ≤ a1_0) && decide (a1_0 < (List.length a0_3 : Int)) then Option.bind (c66 (a0_0, a0_1, a0_2, a0_3, (getD a0_3 (toNat a1_0) Z1).2.2)) fun r3 => Option.bind (c66 (a0_0, a0_1, a0_2, a0_3, a0_2)) fun r4 => bif decide ((List.length r3 + List.length r4) * 24 ≤ 140737488355328) then some (r3 ++ r4) else none else none
noncomputable def sig : Sig := ⟨[.val true [⟨.str, 0, 0, false⟩, ⟨.row K4, 0, 0, false⟩, ⟨.row K3, 0, 0, false⟩, ⟨.row K5, 0, 0, false⟩], .val false [⟨.int .i64, 0, 0, false⟩]], [(.one, [(.row K8, 1)])]⟩
noncomputable def hint (_ : Nat) : Hint := ⟨[], []⟩
noncomputable def join (_ : Nat) : Option Hint := none
noncomputable def body : Code := (Tryz.f33).body.getD .skip
noncomputable def rv : List ResultVar := (Tryz.f33).results.toList
noncomputable def fn : Fn := ⟨30, sig, rv, body, hint, join⟩
end impl_IndexPlan
namespace impl_planOf
noncomputable def m (c32 : Y1 → Option Y28) (c33 : Y37 → Option Y28) : Y37 → Option Y28
 | (a0_0, a0_1, a0_2, a0_3, a1_0) => bif decide (a1_0 < 0) then Option.bind (c32 (a0_0, a0_1, a0_2, a0_3)) fun r1 => some r1 else Option.bind (c33 (a0_0, a0_1, a0_2, a0_3, a1_0)) fun r2 => some r2
noncomputable def sig : Sig := ⟨[.val true [⟨.str, 0, 0, false⟩, ⟨.row K4, 0, 0, false⟩, ⟨.row K3, 0, 0, false⟩, ⟨.row K5, 0, 0, false⟩], .val false [⟨.int .i64, 0, 0, false⟩]], [(.one, [(.row K8, 1)])]⟩
noncomputable def hint (_ : Nat) : Hint := ⟨[], []⟩
noncomputable def join (_ : Nat) : Option Hint := none
noncomputable def body : Code := (Tryz.f75).body.getD .skip
noncomputable def rv : List ResultVar := (Tryz.f75).results.toList
noncomputable def fn : Fn := ⟨12, sig, rv, body, hint, join⟩
end impl_planOf
namespace impl_clamp
noncomputable def m  : (Int × Int × Int) → Option Int
 | (a0_0, a1_0, a2_0) => some (bif decide ((bif decide (a2_0 < a0_0) then a2_0 else a0_0) > a1_0) then (bif decide (a2_0 < a0_0) then a2_0 else a0_0) else a1_0)
noncomputable def sig : Sig := ⟨[.val false [⟨.int .i64, 0, 0, false⟩], .val false [⟨.int .i64, 0, 0, false⟩], .val false [⟨.int .i64, 0, 0, false⟩]], [(.one, [(.int .i64, 0)])]⟩
noncomputable def hint (_ : Nat) : Hint := ⟨[], []⟩
noncomputable def join (_ : Nat) : Option Hint := none
noncomputable def body : Code := (Tryz.f127).body.getD .skip
noncomputable def rv : List ResultVar := (Tryz.f127).results.toList
noncomputable def fn : Fn := ⟨12, sig, rv, body, hint, join⟩
end impl_clamp
namespace impl_bytesOf
noncomputable def s0 (L0 : (Int × Int) → Option Int) : (Int × Int) → Option Int
 | (x0, x1) => bif decide (x0 > 0) then bif decide (¬ (8 : Int) < 0) then L0 (Int.fdiv x0 (2 ^ (min (toNat (8 : Int)) (IntKind.bits IntKind.i64))), wrap i64 (x1 + 1)) else none else some x1
noncomputable def ll0 : (Int × Int) → LS
 | (x0, x1) => ⟨[.cv ⟨.int .i64, x0⟩, .cv ⟨.int .i64, x1⟩], []⟩
noncomputable def m (B0 : (Int × Int) → Option Int) : Int → Option Int
 | a0_0 => B0 (a0_0, (0 : Int))
noncomputable def sig : Sig := ⟨[.val false [⟨.int .i64, 0, 0, false⟩]], [(.one, [(.int .i64, 0)])]⟩
noncomputable def hint : Nat → Hint
 | 0 => ⟨[(0, .keep), (3, .keep)], []⟩
 | _ => ⟨[], []⟩
noncomputable def join (_ : Nat) : Option Hint := none
noncomputable def body : Code := (Tryz.f128).body.getD .skip
noncomputable def rv : List ResultVar := (Tryz.f128).results.toList
noncomputable def fn : Fn := ⟨11, sig, rv, body, hint, join⟩
end impl_bytesOf
namespace impl_addBytes
noncomputable def s0 (L0 : Y38 → Option ((List Int))) : Y38 → Option ((List Int))
 | (x0, x1, x2, x3) => bif decide (x2 ≥ 0) then bif decide (¬ (wrap i64 ((8 : Int) * x2)) < 0) then bif decide ((List.length x3 + List.length ([wrap .u8 ((BitVec.ofInt (IntKind.bits IntKind.u8) (wrap .u8 (Int.fdiv x0 (2 ^ (min (toNat (wrap i64 ((8 : Int) * x2))) (IntKind.bits IntKind.i64))))) ^^^ BitVec.ofInt (IntKind.bits IntKind.u8) x1).toNat : Int)] : List Int)) * 1 ≤ 140737488355328) then L0 (x0, x1, wrap i64 (x2 - 1), x3 ++ ([wrap .u8 ((BitVec.ofInt (IntKind.bits IntKind.u8) (wrap .u8 (Int.fdiv x0 (2 ^ (min (toNat (wrap i64 ((8 : Int) * x2))) (IntKind.bits IntKind.i64))))) ^^^ BitVec.ofInt (IntKind.bits IntKind.u8) x1).toNat : Int)] : List Int)) else none else none else some x3
noncomputable def ll0 : Y38 → LS
 | (x0, x1, x2, x3) => ⟨[.ref 0 0 [] none 0, .cv ⟨.int .i64, x0⟩, .cv ⟨.int .u8, x1⟩, .cv ⟨.int .i64, x2⟩], [⟨true, [⟨0, 0, .mk 1 ⟨.row K1, x3⟩⟩]⟩]⟩
noncomputable def m (B0 : Y38 → Option ((List Int))) : Y2 → Option ((List Int))
 | (a0_0, a1_0, a2_0, a3_0) => B0 (a1_0, a3_0, wrap i64 (a2_0 - 1), a0_0)
noncomputable def sig : Sig := ⟨[.val false [⟨.row K1, 1, 1, false⟩], .val false [⟨.int .i64, 0, 0, false⟩], .val false [⟨.int .i64, 0, 0, false⟩], .val false [⟨.int .u8, 0, 0, false⟩]], [(.one, [(.row K1, 1)])]⟩
noncomputable def hint : Nat → Hint
 | 0 => ⟨[(0, .own 1 K1), (1, .keep), (3, .keep), (9, .keep)], []⟩
 | _ => ⟨[], []⟩
noncomputable def join (_ : Nat) : Option Hint := none
noncomputable def body : Code := (Tryz.f129).body.getD .skip
noncomputable def rv : List ResultVar := (Tryz.f129).results.toList
noncomputable def fn : Fn := ⟨27, sig, rv, body, hint, join⟩
end impl_addBytes
namespace impl_addVar
noncomputable def m (c127 : (Int × Int × Int) → Option Int) (c128 : Int → Option Int) (c129 : Y2 → Option ((List Int))) : ((List Int) × Int) → Option ((List Int))
 | (a0_0, a1_0) => Option.bind (c127 (a1_0, (-1000000000000000 : Int), (1000000000000000 : Int))) fun r1 => bif decide (r1 ≥ 0) then Option.bind (c128 r1) fun r2 => bif decide ((List.length a0_0 + List.length ([wrap .u8 (wrap i64 ((128 : Int) + r2))] : List Int)) * 1 ≤ 140737488355328) then Option.bind (c129 (a0_0 ++ ([wrap .u8 (wrap i64 ((128 : Int) + r2))] : List Int), r1, r2, (0 : Int))) fun r3 => some r3 else none else Option.bind (c128 (wrap i64 ((-1 : Int) - r1))) fun r4 => bif decide ((List.length a0_0 + List.length ([wrap .u8 (wrap i64 ((127 : Int) - r4))] : List Int)) * 1 ≤ 140737488355328) then Option.bind (c129 (a0_0 ++ ([wrap .u8 (wrap i64 ((127 : Int) - r4))] : List Int), wrap i64 ((-1 : Int) - r1), r4, (255 : Int))) fun r5 => some r5 else none
noncomputable def sig : Sig := ⟨[.val false [⟨.row K1, 1, 1, false⟩], .val false [⟨.int .i64, 0, 0, false⟩]], [(.one, [(.row K1, 1)])]⟩
noncomputable def hint (_ : Nat) : Hint := ⟨[], []⟩
noncomputable def join (_ : Nat) : Option Hint := none
noncomputable def body : Code := (Tryz.f87).body.getD .skip
noncomputable def rv : List ResultVar := (Tryz.f87).results.toList
noncomputable def fn : Fn := ⟨35, sig, rv, body, hint, join⟩
end impl_addVar
namespace impl_addFix
noncomputable def m (c127 : (Int × Int × Int) → Option Int) (c129 : Y2 → Option ((List Int))) : ((List Int) × Int) → Option ((List Int))
 | (a0_0, a1_0) => Option.bind (c127 (a1_0, (-2147483648 : Int), (2147483647 : Int))) fun r1 => Option.bind (c129 (a0_0, wrap i64 (r1 + 2147483648), (4 : Int), (0 : Int))) fun r2 => some r2
noncomputable def sig : Sig := ⟨[.val false [⟨.row K1, 1, 1, false⟩], .val false [⟨.int .i64, 0, 0, false⟩]], [(.one, [(.row K1, 1)])]⟩
noncomputable def hint (_ : Nat) : Hint := ⟨[], []⟩
noncomputable def join (_ : Nat) : Option Hint := none
noncomputable def body : Code := (Tryz.f145).body.getD .skip
noncomputable def rv : List ResultVar := (Tryz.f145).results.toList
noncomputable def fn : Fn := ⟨10, sig, rv, body, hint, join⟩
end impl_addFix
namespace impl_addEsc
noncomputable def s0 (L0 : Y39 → Option ((List Int))) : Y39 → Option ((List Int))
 | (x0, x1, x2) => bif decide (x1 < (ByteArray.size x0 : Int)) then bif decide (0 ≤ x1) && decide (x1 < (ByteArray.size x0 : Int)) then bif decide ((List.length x2 + List.length ([((ByteArray.get! x0 (toNat x1)).toNat : Int)] : List Int)) * 1 ≤ 140737488355328) then bif decide (0 ≤ x1) && decide (x1 < (ByteArray.size x0 : Int)) then bif ((ByteArray.get! x0 (toNat x1)).toNat : Int) == 0 then bif decide ((List.length (x2 ++ ([((ByteArray.get! x0 (toNat x1)).toNat : Int)] : List Int)) + List.length ([(255 : Int)] : List Int)) * 1 ≤ 140737488355328) then L0 (x0, wrap i64 (x1 + 1), (x2 ++ ([((ByteArray.get! x0 (toNat x1)).toNat : Int)] : List Int)) ++ ([(255 : Int)] : List Int)) else none else L0 (x0, wrap i64 (x1 + 1), x2 ++ ([((ByteArray.get! x0 (toNat x1)).toNat : Int)] : List Int)) else none else none else none else bif decide ((List.length x2 + List.length ([(0 : Int), (1 : Int)] : List Int)) * 1 ≤ 140737488355328) then some (x2 ++ ([(0 : Int), (1 : Int)] : List Int)) else none
noncomputable def ll0 : Y39 → LS
 | (x0, x1, x2) => ⟨[.ref 0 0 [] none 0, .cv ⟨.str, x0⟩, .cv ⟨.int .i64, x1⟩], [⟨true, [⟨0, 0, .mk 1 ⟨.row K1, x2⟩⟩]⟩]⟩
noncomputable def m (B0 : Y39 → Option ((List Int))) : ((List Int) × ByteArray) → Option ((List Int))
 | (a0_0, a1_0) => B0 (a1_0, (0 : Int), a0_0)
noncomputable def sig : Sig := ⟨[.val false [⟨.row K1, 1, 1, false⟩], .val false [⟨.str, 0, 0, false⟩]], [(.one, [(.row K1, 1)])]⟩
noncomputable def hint : Nat → Hint
 | 0 => ⟨[(0, .own 1 K1), (1, .keep), (5, .keep)], []⟩
 | _ => ⟨[], []⟩
noncomputable def join (_ : Nat) : Option Hint := none
noncomputable def body : Code := (Tryz.f146).body.getD .skip
noncomputable def rv : List ResultVar := (Tryz.f146).results.toList
noncomputable def fn : Fn := ⟨28, sig, rv, body, hint, join⟩
end impl_addEsc
namespace impl_copyBytes
noncomputable def m  : ((List Int)) → Option ((List Int))
 | a0_0 => bif decide ((List.length ([] : List Int) + List.length a0_0) * 1 ≤ 140737488355328) then some (([] : List Int) ++ a0_0) else none
noncomputable def sig : Sig := ⟨[.val false [⟨.row K1, 0, 0, false⟩]], [(.one, [(.row K1, 1)])]⟩
noncomputable def hint (_ : Nat) : Hint := ⟨[], []⟩
noncomputable def join (_ : Nat) : Option Hint := none
noncomputable def body : Code := (Tryz.f156).body.getD .skip
noncomputable def rv : List ResultVar := (Tryz.f156).results.toList
noncomputable def fn : Fn := ⟨5, sig, rv, body, hint, join⟩
end impl_copyBytes
namespace impl_Flip
noncomputable def s0 (L0 : (Int × (List Int)) → Option ((List Int))) : (Int × (List Int)) → Option ((List Int))
 | (x0, x1) => bif decide (x0 < (List.length x1 : Int)) then bif decide (0 ≤ x0) && decide (x0 < (List.length x1 : Int)) then bif decide (0 ≤ x0) && decide (x0 < (List.length x1 : Int)) then L0 (wrap i64 (x0 + 1), List.set x1 (toNat x0) (wrap .u8 ((BitVec.ofInt (IntKind.bits IntKind.u8) (if IntKind.signed IntKind.u8 then -1 else IntKind.max IntKind.u8) ^^^ BitVec.ofInt (IntKind.bits IntKind.u8) (getD x1 (toNat x0) (0 : Int))).toNat : Int))) else none else none else some x1
noncomputable def ll0 : (Int × (List Int)) → LS
 | (x0, x1) => ⟨[.ref 20 0 [] none 0, .cv ⟨.int .i64, x0⟩], [⟨true, [⟨0, 0, .mk 1 ⟨.row K1, x1⟩⟩]⟩]⟩
noncomputable def m (c156 : ((List Int)) → Option ((List Int))) (B0 : (Int × (List Int)) → Option ((List Int))) : ((List Int) × Int) → Option ((List Int))
 | (a0_0, a1_0) => Option.bind (c156 a0_0) fun r1 => B0 (bif decide ((0 : Int) > a1_0) then (0 : Int) else a1_0, r1)
noncomputable def sig : Sig := ⟨[.val false [⟨.row K1, 0, 0, false⟩], .val false [⟨.int .i64, 0, 0, false⟩]], [(.one, [(.row K1, 1)])]⟩
noncomputable def hint : Nat → Hint
 | 0 => ⟨[(5, .own 1 K1), (6, .keep)], []⟩
 | _ => ⟨[], []⟩
noncomputable def join (_ : Nat) : Option Hint := none
noncomputable def body : Code := (Tryz.f147).body.getD .skip
noncomputable def rv : List ResultVar := (Tryz.f147).results.toList
noncomputable def fn : Fn := ⟨26, sig, rv, body, hint, join⟩
end impl_Flip
namespace impl_addPart
noncomputable def m (c87 : ((List Int) × Int) → Option ((List Int))) (c115 : (Int × Int × Bool × Bool) → Option Bool) (c116 : Y30 → Option Bool) (c145 : ((List Int) × Int) → Option ((List Int))) (c146 : ((List Int) × ByteArray) → Option ((List Int))) (c147 : ((List Int) × Int) → Option ((List Int))) : Y40 → Option ((List Int))
 | (a0_0, a1_0, a1_1, a1_2, a1_3, a2_0, a2_1, a2_2) => Option.bind (c115 (a1_0, a1_1, a1_2, a1_3)) fun r1 => bif !(r1) then some a0_0 else Option.bind (c116 (a1_0, a1_1, a1_2, a1_3, a2_0, a2_1, a2_2)) fun r2 => bif !(r2) then some a0_0 else bif a1_2 then bif a2_0 == 0 then bif decide ((List.length a0_0 + List.length ([(0 : Int)] : List Int)) * 1 ≤ 140737488355328) then bif a2_0 == 1 then Option.bind (c145 (a0_0 ++ ([(0 : Int)] : List Int), a2_1)) fun r3 => bif a1_3 then Option.bind (c147 (r3, (List.length a0_0 : Int))) fun r4 => some r4 else some r3 else bif a2_0 == 2 then Option.bind (c87 (a0_0 ++ ([(0 : Int)] : List Int), a2_1)) fun r5 => bif a1_3 then Option.bind (c147 (r5, (List.length a0_0 : Int))) fun r6 => some r6 else some r5 else bif a2_0 == 3 then Option.bind (c146 (a0_0 ++ ([(0 : Int)] : List Int), a2_2)) fun r7 => bif a1_3 then Option.bind (c147 (r7, (List.length a0_0 : Int))) fun r8 => some r8 else some r7 else bif a2_0 == 4 then bif decide ((List.length (a0_0 ++ ([(0 : Int)] : List Int)) + List.length ([wrap .u8 a2_1] : List Int)) * 1 ≤ 140737488355328) then bif a1_3 then Option.bind (c147 ((a0_0 ++ ([(0 : Int)] : List Int)) ++ ([wrap .u8 a2_1] : List Int), (List.length a0_0 : Int))) fun r9 => some r9 else some ((a0_0 ++ ([(0 : Int)] : List Int)) ++ ([wrap .u8 a2_1] : List Int)) else none else bif a1_3 then Option.bind (c147 (a0_0 ++ ([(0 : Int)] : List Int), (List.length a0_0 : Int))) fun r10 => some r10 else some (a0_0 ++ ([(0 : Int)] : List Int)) else none else bif a1_2 then bif decide ((List.length a0_0 + List.length ([(1 : Int)] : List Int)) * 1 ≤ 140737488355328) then bif a2_0 == 1 then Option.bind (c145 (a0_0 ++ ([(1 : Int)] : List Int), a2_1)) fun r11 => bif a1_3 then Option.bind (c147 (r11, (List.length a0_0 : Int))) fun r12 => some r12 else some r11 else bif a2_0 == 2 then Option.bind (c87 (a0_0 ++ ([(1 : Int)] : List Int), a2_1)) fun r13 => bif a1_3 then Option.bind (c147 (r13, (List.length a0_0 : Int))) fun r14 => some r14 else some r13 else bif a2_0 == 3 then Option.bind (c146 (a0_0 ++ ([(1 : Int)] : List Int), a2_2)) fun r15 => bif a1_3 then Option.bind (c147 (r15, (List.length a0_0 : Int))) fun r16 => some r16 else some r15 else bif a2_0 == 4 then bif decide ((List.length (a0_0 ++ ([(1 : Int)] : List Int)) + List.length ([wrap .u8 a2_1] : List Int)) * 1 ≤ 140737488355328) then bif a1_3 then Option.bind (c147 ((a0_0 ++ ([(1 : Int)] : List Int)) ++ ([wrap .u8 a2_1] : List Int), (List.length a0_0 : Int))) fun r17 => some r17 else some ((a0_0 ++ ([(1 : Int)] : List Int)) ++ ([wrap .u8 a2_1] : List Int)) else none else bif a1_3 then Option.bind (c147 (a0_0 ++ ([(1 : Int)] : List Int), (List.length a0_0 : Int))) fun r18 => some r18 else some (a0_0 ++ ([(1 : Int)] : List Int)) else none else bif a2_0 == 1 then Option.bind (c145 (a0_0, a2_1)) fun r19 => bif a1_3 then Option.bind (c147 (r19, (List.length a0_0 : Int))) fun r20 => some r20 else some r19 else bif a2_0 == 2 then Option.bind (c87 (a0_0, a2_1)) fun r21 => bif a1_3 then Option.bind (c147 (r21, (List.length a0_0 : Int))) fun r22 => some r22 else some r21 else bif a2_0 == 3 then Option.bind (c146 (a0_0, a2_2)) fun r23 => bif a1_3 then Option.bind (c147 (r23, (List.length a0_0 : Int))) fun r24 => some r24 else some r23 else bif a2_0 == 4 then bif decide ((List.length a0_0 + List.length ([wrap .u8 a2_1] : List Int)) * 1 ≤ 140737488355328) then bif a1_3 then Option.bind (c147 (a0_0 ++ ([wrap .u8 a2_1] : List Int), (List.length a0_0 : Int))) fun r25 => some r25 else some (a0_0 ++ ([wrap .u8 a2_1] : List Int)) else none else bif a1_3 then Option.bind (c147 (a0_0, (List.length a0_0 : Int))) fun r26 => some r26 else some a0_0 else bif a1_2 then bif decide ((List.length a0_0 + List.length ([(1 : Int)] : List Int)) * 1 ≤ 140737488355328) then bif a2_0 == 1 then Option.bind (c145 (a0_0 ++ ([(1 : Int)] : List Int), a2_1)) fun r27 => bif a1_3 then Option.bind (c147 (r27, (List.length a0_0 : Int))) fun r28 => some r28 else some r27 else bif a2_0 == 2 then Option.bind (c87 (a0_0 ++ ([(1 : Int)] : List Int), a2_1)) fun r29 => bif a1_3 then Option.bind (c147 (r29, (List.length a0_0 : Int))) fun r30 => some r30 else some r29 else bif a2_0 == 3 then Option.bind (c146 (a0_0 ++ ([(1 : Int)] : List Int), a2_2)) fun r31 => bif a1_3 then Option.bind (c147 (r31, (List.length a0_0 : Int))) fun r32 => some r32 else some r31 else bif a2_0 == 4 then bif decide ((List.length (a0_0 ++ ([(1 : Int)] : List Int)) + List.length ([wrap .u8 a2_1] : List Int)) * 1 ≤ 140737488355328) then bif a1_3 then Option.bind (c147 ((a0_0 ++ ([(1 : Int)] : List Int)) ++ ([wrap .u8 a2_1] : List Int), (List.length a0_0 : Int))) fun r33 => some r33 else some ((a0_0 ++ ([(1 : Int)] : List Int)) ++ ([wrap .u8 a2_1] : List Int)) else none else bif a1_3 then Option.bind (c147 (a0_0 ++ ([(1 : Int)] : List Int), (List.length a0_0 : Int))) fun r34 => some r34 else some (a0_0 ++ ([(1 : Int)] : List Int)) else none else bif a2_0 == 1 then Option.bind (c145 (a0_0, a2_1)) fun r35 => bif a1_3 then Option.bind (c147 (r35, (List.length a0_0 : Int))) fun r36 => some r36 else some r35 else bif a2_0 == 2 then Option.bind (c87 (a0_0, a2_1)) fun r37 => bif a1_3 then Option.bind (c147 (r37, (List.length a0_0 : Int))) fun r38 => some r38 else some r37 else bif a2_0 == 3 then Option.bind (c146 (a0_0, a2_2)) fun r39 => bif a1_3 then Option.bind (c147 (r39, (List.length a0_0 : Int))) fun r40 => some r40 else some r39 else bif a2_0 == 4 then bif decide ((List.length a0_0 + List.length ([wrap .u8 a2_1] : List Int)) * 1 ≤ 140737488355328) then bif a1_3 then Option.bind (c147 (a0_0 ++ ([wrap .u8 a2_1] : List Int), (List.length a0_0 : Int))) fun r41 => some r41 else some (a0_0 ++ ([wrap .u8 a2_1] : List Int)) else none else bif a1_3 then Option.bind (c147 (a0_0, (List.length a0_0 : Int))) fun r42 => some r42 else some a0_0
noncomputable def sig : Sig := ⟨[.val false [⟨.row K1, 1, 1, false⟩], .val true [⟨.int .i64, 0, 0, false⟩, ⟨.int .i64, 0, 0, false⟩, ⟨.bool, 0, 0, false⟩, ⟨.bool, 0, 0, false⟩], .val true [⟨.int .i64, 0, 0, false⟩, ⟨.int .i64, 0, 0, false⟩, ⟨.str, 0, 0, false⟩]], [(.one, [(.row K1, 1)])]⟩
noncomputable def hint (_ : Nat) : Hint := ⟨[], []⟩
noncomputable def join (_ : Nat) : Option Hint := none
noncomputable def body : Code := (Tryz.f117).body.getD .skip
noncomputable def rv : List ResultVar := (Tryz.f117).results.toList
noncomputable def fn : Fn := ⟨69, sig, rv, body, hint, join⟩
end impl_addPart
namespace impl_EncodeKey
noncomputable def s0 (c117 : Y40 → Option ((List Int))) (L0 : Y41 → Option ((List Int))) : Y41 → Option ((List Int))
 | (x0, x1, x2, x3, x4) => bif decide (x3 < x2) then bif decide (0 ≤ x3) && decide (x3 < (List.length x1 : Int)) then bif decide (0 ≤ x3) && decide (x3 < (List.length x0 : Int)) then Option.bind (c117 (x4, (getD x0 (toNat x3) Z3).1, (getD x0 (toNat x3) Z3).2.1, (getD x0 (toNat x3) Z3).2.2.1, (getD x0 (toNat x3) Z3).2.2.2, (getD x1 (toNat x3) Z2).1, (getD x1 (toNat x3) Z2).2.1, (getD x1 (toNat x3) Z2).2.2)) fun r3 => L0 (x0, x1, x2, wrap i64 (x3 + 1), r3) else none else none else some x4
noncomputable def ll0 : Y41 → LS
 | (x0, x1, x2, x3, x4) => ⟨[.cv ⟨.row K8, x0⟩, .ref 20 0 [] none 0, .cv ⟨.row K7, x1⟩, .cv ⟨.int .i64, x2⟩, .cv ⟨.int .i64, x3⟩], [⟨true, [⟨0, 0, .mk 1 ⟨.row K1, x4⟩⟩]⟩]⟩
noncomputable def m (c73 : Y28 → Option Bool) (c74 : Y31 → Option Bool) (B0 : Y41 → Option ((List Int))) : Y31 → Option ((List Int))
 | (a0_0, a1_0) => Option.bind (c73 a0_0) fun r1 => bif !(r1) then some ([] : List Int) else Option.bind (c74 (a0_0, a1_0)) fun r2 => bif !(r2) then some ([] : List Int) else B0 (a0_0, a1_0, (List.length a1_0 : Int), (0 : Int), ([] : List Int))
noncomputable def sig : Sig := ⟨[.val false [⟨.row K8, 0, 0, false⟩], .val false [⟨.row K7, 0, 0, false⟩]], [(.one, [(.row K1, 1)])]⟩
noncomputable def hint : Nat → Hint
 | 0 => ⟨[(0, .keep), (5, .own 1 K1), (17, .keep), (18, .keep), (19, .keep)], []⟩
 | _ => ⟨[], []⟩
noncomputable def join (_ : Nat) : Option Hint := none
noncomputable def body : Code := (Tryz.f76).body.getD .skip
noncomputable def rv : List ResultVar := (Tryz.f76).results.toList
noncomputable def fn : Fn := ⟨33, sig, rv, body, hint, join⟩
end impl_EncodeKey
namespace impl_keyOf
noncomputable def m (c14 : Y9 → Option ((List Int))) (c31 : Y31 → Option Y34) (c75 : Y37 → Option Y28) (c76 : Y31 → Option ((List Int))) : Y42 → Option ((List Int))
 | (a0_0, a1_0, a2_0, a3_0) => bif decide (0 ≤ a1_0) && decide (a1_0 < (List.length a0_0 : Int)) then Option.bind (c75 ((getD a0_0 (toNat a1_0) Z0).1, (getD a0_0 (toNat a1_0) Z0).2.1, (getD a0_0 (toNat a1_0) Z0).2.2.1, (getD a0_0 (toNat a1_0) Z0).2.2.2, a2_0)) fun r1 => Option.bind (c14 (a0_0, a1_0, a2_0)) fun r2 => Option.bind (c31 (r1, a3_0)) fun r3 => Option.bind (c76 (r1, r3)) fun r4 => bif decide ((List.length r2 + List.length r4) * 1 ≤ 140737488355328) then some (r2 ++ r4) else none else none
noncomputable def sig : Sig := ⟨[.val false [⟨.row K6, 0, 0, false⟩], .val false [⟨.int .i64, 0, 0, false⟩], .val false [⟨.int .i64, 0, 0, false⟩], .val false [⟨.row K7, 0, 0, false⟩]], [(.one, [(.row K1, 1)])]⟩
noncomputable def hint (_ : Nat) : Hint := ⟨[], []⟩
noncomputable def join (_ : Nat) : Option Hint := none
noncomputable def body : Code := (Tryz.f44).body.getD .skip
noncomputable def rv : List ResultVar := (Tryz.f44).results.toList
noncomputable def fn : Fn := ⟨26, sig, rv, body, hint, join⟩
end impl_keyOf
namespace impl_KeyOf
noncomputable def m (c41 : Y9 → Option Bool) (c42 : Y31 → Option Bool) (c43 : Y1 → Option Y28) (c44 : Y42 → Option ((List Int))) : Y42 → Option ((List Int))
 | (a0_0, a1_0, a2_0, a3_0) => Option.bind (c41 (a0_0, a1_0, a2_0)) fun r1 => bif !(r1) then some ([] : List Int) else bif decide (0 ≤ a1_0) && decide (a1_0 < (List.length a0_0 : Int)) then Option.bind (c43 ((getD a0_0 (toNat a1_0) Z0).1, (getD a0_0 (toNat a1_0) Z0).2.1, (getD a0_0 (toNat a1_0) Z0).2.2.1, (getD a0_0 (toNat a1_0) Z0).2.2.2)) fun r2 => Option.bind (c42 (r2, a3_0)) fun r3 => bif !(r3) then some ([] : List Int) else Option.bind (c44 (a0_0, a1_0, a2_0, a3_0)) fun r4 => some r4 else none
noncomputable def sig : Sig := ⟨[.val false [⟨.row K6, 0, 0, false⟩], .val false [⟨.int .i64, 0, 0, false⟩], .val false [⟨.int .i64, 0, 0, false⟩], .val false [⟨.row K7, 0, 0, false⟩]], [(.one, [(.row K1, 1)])]⟩
noncomputable def hint (_ : Nat) : Hint := ⟨[], []⟩
noncomputable def join (_ : Nat) : Option Hint := none
noncomputable def body : Code := (Tryz.f12).body.getD .skip
noncomputable def rv : List ResultVar := (Tryz.f12).results.toList
noncomputable def fn : Fn := ⟨29, sig, rv, body, hint, join⟩
end impl_KeyOf
namespace spec_l1In
noncomputable def m  : (Int × Int × Int) → Option Bool
 | (a0_0, a1_0, a2_0) => bif decide (a0_0 ≥ a1_0) then some (decide (a0_0 ≤ a2_0)) else some false
noncomputable def sig : Sig := ⟨[.val false [⟨.int .i64, 0, 0, false⟩], .val false [⟨.int .i64, 0, 0, false⟩], .val false [⟨.int .i64, 0, 0, false⟩]], [(.one, [(.bool, 0)])]⟩
noncomputable def hint (_ : Nat) : Hint := ⟨[], []⟩
noncomputable def join (_ : Nat) : Option Hint := none
noncomputable def body : Code := (Tryz.f78).body.getD .skip
noncomputable def rv : List ResultVar := (Tryz.f78).results.toList
noncomputable def fn : Fn := ⟨15, sig, rv, body, hint, join⟩
end spec_l1In
namespace spec_l8Small
noncomputable def m (c78 : (Int × Int × Int) → Option Bool) : Int → Option Bool
 | a0_0 => Option.bind (c78 (wrap i64 a0_0, (97 : Int), (122 : Int))) fun r1 => some r1
noncomputable def sig : Sig := ⟨[.val false [⟨.int .u8, 0, 0, false⟩]], [(.one, [(.bool, 0)])]⟩
noncomputable def hint (_ : Nat) : Hint := ⟨[], []⟩
noncomputable def join (_ : Nat) : Option Hint := none
noncomputable def body : Code := (Tryz.f164).body.getD .skip
noncomputable def rv : List ResultVar := (Tryz.f164).results.toList
noncomputable def fn : Fn := ⟨6, sig, rv, body, hint, join⟩
end spec_l8Small
namespace spec_l2Digit
noncomputable def m (c78 : (Int × Int × Int) → Option Bool) : Int → Option Bool
 | a0_0 => Option.bind (c78 (wrap i64 a0_0, (48 : Int), (57 : Int))) fun r1 => some r1
noncomputable def sig : Sig := ⟨[.val false [⟨.int .u8, 0, 0, false⟩]], [(.one, [(.bool, 0)])]⟩
noncomputable def hint (_ : Nat) : Hint := ⟨[], []⟩
noncomputable def join (_ : Nat) : Option Hint := none
noncomputable def body : Code := (Tryz.f165).body.getD .skip
noncomputable def rv : List ResultVar := (Tryz.f165).results.toList
noncomputable def fn : Fn := ⟨6, sig, rv, body, hint, join⟩
end spec_l2Digit
namespace spec_l8Name
noncomputable def s0 (c78 : (Int × Int × Int) → Option Bool) (c164 c165 : Int → Option Bool) (L0 : (ByteArray × Int) → Option Bool) : (ByteArray × Int) → Option Bool
 | (x0, x1) => bif decide (x1 < (ByteArray.size x0 : Int)) then bif decide (0 ≤ x1) && decide (x1 < (ByteArray.size x0 : Int)) then Option.bind (c164 ((ByteArray.get! x0 (toNat x1)).toNat : Int)) fun r1 => bif !(r1) then bif x1 == 0 then some false else bif decide (0 ≤ x1) && decide (x1 < (ByteArray.size x0 : Int)) then Option.bind (c165 ((ByteArray.get! x0 (toNat x1)).toNat : Int)) fun r2 => bif !(r2) then some false else L0 (x0, wrap i64 (x1 + 1)) else none else L0 (x0, wrap i64 (x1 + 1)) else none else Option.bind (c78 ((ByteArray.size x0 : Int), (1 : Int), (8 : Int))) fun r3 => some r3
noncomputable def ll0 : (ByteArray × Int) → LS
 | (x0, x1) => ⟨[.cv ⟨.str, x0⟩, .cv ⟨.int .i64, x1⟩], []⟩
noncomputable def m (B0 : (ByteArray × Int) → Option Bool) : ByteArray → Option Bool
 | a0_0 => B0 (a0_0, (0 : Int))
noncomputable def sig : Sig := ⟨[.val false [⟨.str, 0, 0, false⟩]], [(.one, [(.bool, 0)])]⟩
noncomputable def hint : Nat → Hint
 | 0 => ⟨[(0, .keep), (3, .keep)], []⟩
 | _ => ⟨[], []⟩
noncomputable def join (_ : Nat) : Option Hint := none
noncomputable def body : Code := (Tryz.f157).body.getD .skip
noncomputable def rv : List ResultVar := (Tryz.f157).results.toList
noncomputable def fn : Fn := ⟨29, sig, rv, body, hint, join⟩
end spec_l8Name
namespace spec_l9Has
noncomputable def s0 (L0 : Y44 → Option Bool) : Y44 → Option Bool
 | (x0, x1, x2) => bif decide (x2 < (List.length x0 : Int)) then bif decide (0 ≤ x2) && decide (x2 < (List.length x0 : Int)) then bif ByteArray.toList (getD x0 (toNat x2) ByteArray.empty) == ByteArray.toList x1 then some true else L0 (x0, x1, wrap i64 (x2 + 1)) else none else some false
noncomputable def ll0 : Y44 → LS
 | (x0, x1, x2) => ⟨[.cv ⟨.row K0, x0⟩, .cv ⟨.str, x1⟩, .cv ⟨.int .i64, x2⟩], []⟩
noncomputable def m (B0 : Y44 → Option Bool) : Y43 → Option Bool
 | (a0_0, a1_0) => B0 (a0_0, a1_0, (0 : Int))
noncomputable def sig : Sig := ⟨[.val false [⟨.row K0, 0, 0, false⟩], .val false [⟨.str, 0, 0, false⟩]], [(.one, [(.bool, 0)])]⟩
noncomputable def hint : Nat → Hint
 | 0 => ⟨[(0, .keep), (1, .keep), (5, .keep)], []⟩
 | _ => ⟨[], []⟩
noncomputable def join (_ : Nat) : Option Hint := none
noncomputable def body : Code := (Tryz.f158).body.getD .skip
noncomputable def rv : List ResultVar := (Tryz.f158).results.toList
noncomputable def fn : Fn := ⟨18, sig, rv, body, hint, join⟩
end spec_l9Has
namespace spec_l9Word
noncomputable def m (c157 : ByteArray → Option Bool) (c158 : Y43 → Option Bool) : ByteArray → Option Bool
 | a0_0 => Option.bind (c157 a0_0) fun r1 => bif r1 then Option.bind (c158 (([({ data := #[116, 97, 98, 108, 101] } : ByteArray), ({ data := #[112, 114, 105, 109, 97, 114, 121] } : ByteArray), ({ data := #[117, 110, 105, 113, 117, 101] } : ByteArray), ({ data := #[105, 110, 100, 101, 120] } : ByteArray), ({ data := #[110, 117, 108, 108] } : ByteArray), ({ data := #[100, 101, 115, 99] } : ByteArray), ({ data := #[105, 110, 116] } : ByteArray), ({ data := #[110, 117, 109] } : ByteArray), ({ data := #[116, 101, 120, 116] } : ByteArray), ({ data := #[98, 111, 111, 108] } : ByteArray)] : List ByteArray), a0_0)) fun r2 => some (!(r2)) else some false
noncomputable def sig : Sig := ⟨[.val false [⟨.str, 0, 0, false⟩]], [(.one, [(.bool, 0)])]⟩
noncomputable def hint (_ : Nat) : Hint := ⟨[], []⟩
noncomputable def join (_ : Nat) : Option Hint := none
noncomputable def body : Code := (Tryz.f149).body.getD .skip
noncomputable def rv : List ResultVar := (Tryz.f149).results.toList
noncomputable def fn : Fn := ⟨11, sig, rv, body, hint, join⟩
end spec_l9Word
namespace spec_l9Names
noncomputable def s0 (c149 : ByteArray → Option Bool) (B2 L0 : Y45 → Option Bool) : Y45 → Option Bool
 | (x0, x1, x2, x3, x4) => bif decide (x0 < (List.length x2 : Int)) then bif decide (0 ≤ x0) && decide (x0 < (List.length x2 : Int)) then Option.bind (c149 ((getD x2 (toNat x0) Z4).1)) fun r1 => bif !(r1) then some false else L0 (wrap i64 (x0 + 1), x1, x2, x3, x4) else none else B2 ((0 : Int), x1, x2, x3, x4)
noncomputable def ll0 : Y45 → LS
 | (x0, x1, x2, x3, x4) => ⟨[.addr 65 0 [] 0, .cv ⟨.int .i64, x0⟩], [⟨false, [⟨0, 0, .mk 0 ⟨.str, x1⟩⟩, ⟨0, 0, .mk 0 ⟨.row K4, x2⟩⟩, ⟨0, 0, .mk 0 ⟨.row K3, x3⟩⟩, ⟨0, 0, .mk 0 ⟨.row K5, x4⟩⟩]⟩]⟩
noncomputable def s2 (c149 : ByteArray → Option Bool) (L2 : Y45 → Option Bool) : Y45 → Option Bool
 | (x0, x1, x2, x3, x4) => bif decide (x0 < (List.length x4 : Int)) then bif decide (0 ≤ x0) && decide (x0 < (List.length x4 : Int)) then Option.bind (c149 ((getD x4 (toNat x0) Z1).1)) fun r2 => bif !(r2) then some false else L2 (wrap i64 (x0 + 1), x1, x2, x3, x4) else none else Option.bind (c149 x1) fun r3 => some r3
noncomputable def ll2 : Y45 → LS
 | (x0, x1, x2, x3, x4) => ⟨[.addr 65 0 [] 0, .cv ⟨.int .i64, x0⟩], [⟨false, [⟨0, 0, .mk 0 ⟨.str, x1⟩⟩, ⟨0, 0, .mk 0 ⟨.row K4, x2⟩⟩, ⟨0, 0, .mk 0 ⟨.row K3, x3⟩⟩, ⟨0, 0, .mk 0 ⟨.row K5, x4⟩⟩]⟩]⟩
noncomputable def m (B0 : Y45 → Option Bool) : Y1 → Option Bool
 | (a0_0, a0_1, a0_2, a0_3) => B0 ((0 : Int), a0_0, a0_1, a0_2, a0_3)
noncomputable def sig : Sig := ⟨[.val true [⟨.str, 0, 0, false⟩, ⟨.row K4, 0, 0, false⟩, ⟨.row K3, 0, 0, false⟩, ⟨.row K5, 0, 0, false⟩]], [(.one, [(.bool, 0)])]⟩
noncomputable def hint : Nat → Hint
 | 0 => ⟨[(1, .keep), (3, .keep)], [(65, [0, 0, 0, 0])]⟩
 | 2 => ⟨[(1, .keep), (4, .keep)], [(65, [0, 0, 0, 0])]⟩
 | _ => ⟨[], []⟩
noncomputable def join (_ : Nat) : Option Hint := none
noncomputable def body : Code := (Tryz.f120).body.getD .skip
noncomputable def rv : List ResultVar := (Tryz.f120).results.toList
noncomputable def fn : Fn := ⟨38, sig, rv, body, hint, join⟩
end spec_l9Names
namespace spec_l9Types
noncomputable def s0 (c78 : (Int × Int × Int) → Option Bool) (L0 : Y45 → Option Bool) : Y45 → Option Bool
 | (x0, x1, x2, x3, x4) => bif decide (x0 < (List.length x2 : Int)) then bif decide (0 ≤ x0) && decide (x0 < (List.length x2 : Int)) then Option.bind (c78 ((getD x2 (toNat x0) Z4).2.1, (1 : Int), (4 : Int))) fun r1 => bif !(r1) then some false else L0 (wrap i64 (x0 + 1), x1, x2, x3, x4) else none else Option.bind (c78 ((List.length x2 : Int), (1 : Int), (6 : Int))) fun r2 => some r2
noncomputable def ll0 : Y45 → LS
 | (x0, x1, x2, x3, x4) => ⟨[.addr 65 0 [] 0, .cv ⟨.int .i64, x0⟩], [⟨false, [⟨0, 0, .mk 0 ⟨.str, x1⟩⟩, ⟨0, 0, .mk 0 ⟨.row K4, x2⟩⟩, ⟨0, 0, .mk 0 ⟨.row K3, x3⟩⟩, ⟨0, 0, .mk 0 ⟨.row K5, x4⟩⟩]⟩]⟩
noncomputable def m (B0 : Y45 → Option Bool) : Y1 → Option Bool
 | (a0_0, a0_1, a0_2, a0_3) => B0 ((0 : Int), a0_0, a0_1, a0_2, a0_3)
noncomputable def sig : Sig := ⟨[.val true [⟨.str, 0, 0, false⟩, ⟨.row K4, 0, 0, false⟩, ⟨.row K3, 0, 0, false⟩, ⟨.row K5, 0, 0, false⟩]], [(.one, [(.bool, 0)])]⟩
noncomputable def hint : Nat → Hint
 | 0 => ⟨[(1, .keep), (3, .keep)], [(65, [0, 0, 0, 0])]⟩
 | _ => ⟨[], []⟩
noncomputable def join (_ : Nat) : Option Hint := none
noncomputable def body : Code := (Tryz.f121).body.getD .skip
noncomputable def rv : List ResultVar := (Tryz.f121).results.toList
noncomputable def fn : Fn := ⟨23, sig, rv, body, hint, join⟩
end spec_l9Types
namespace spec_l9Col
noncomputable def s0 (L0 : Y47 → Option Int) : Y47 → Option Int
 | (x0, x1, x2, x3, x4, x5) => bif decide (x1 < (List.length x3 : Int)) then bif decide (0 ≤ x1) && decide (x1 < (List.length x3 : Int)) then bif ByteArray.toList ((getD x3 (toNat x1) Z4).1) == ByteArray.toList x0 then some x1 else L0 (x0, wrap i64 (x1 + 1), x2, x3, x4, x5) else none else some (-1 : Int)
noncomputable def ll0 : Y47 → LS
 | (x0, x1, x2, x3, x4, x5) => ⟨[.cv ⟨.str, x0⟩, .addr 129 0 [] 0, .cv ⟨.int .i64, x1⟩], [⟨false, [⟨0, 0, .mk 0 ⟨.str, x2⟩⟩, ⟨0, 0, .mk 0 ⟨.row K4, x3⟩⟩, ⟨0, 0, .mk 0 ⟨.row K3, x4⟩⟩, ⟨0, 0, .mk 0 ⟨.row K5, x5⟩⟩]⟩]⟩
noncomputable def m (B0 : Y47 → Option Int) : Y46 → Option Int
 | (a0_0, a0_1, a0_2, a0_3, a1_0) => B0 (a1_0, (0 : Int), a0_0, a0_1, a0_2, a0_3)
noncomputable def sig : Sig := ⟨[.val true [⟨.str, 0, 0, false⟩, ⟨.row K4, 0, 0, false⟩, ⟨.row K3, 0, 0, false⟩, ⟨.row K5, 0, 0, false⟩], .val false [⟨.str, 0, 0, false⟩]], [(.one, [(.int .i64, 0)])]⟩
noncomputable def hint : Nat → Hint
 | 0 => ⟨[(1, .keep), (2, .keep), (5, .keep)], [(129, [0, 0, 0, 0])]⟩
 | _ => ⟨[], []⟩
noncomputable def join (_ : Nat) : Option Hint := none
noncomputable def body : Code := (Tryz.f150).body.getD .skip
noncomputable def rv : List ResultVar := (Tryz.f150).results.toList
noncomputable def fn : Fn := ⟨22, sig, rv, body, hint, join⟩
end spec_l9Col
namespace spec_l9Once
noncomputable def s0 (c150 : Y46 → Option Int) (B2 L0 : Y45 → Option Bool) : Y45 → Option Bool
 | (x0, x1, x2, x3, x4) => bif decide (x0 < (List.length x2 : Int)) then bif decide (0 ≤ x0) && decide (x0 < (List.length x2 : Int)) then Option.bind (c150 (x1, x2, x3, x4, (getD x2 (toNat x0) Z4).1)) fun r1 => bif r1 != x0 then some false else L0 (wrap i64 (x0 + 1), x1, x2, x3, x4) else none else B2 ((0 : Int), x1, x2, x3, x4)
noncomputable def ll0 : Y45 → LS
 | (x0, x1, x2, x3, x4) => ⟨[.addr 65 0 [] 0, .cv ⟨.int .i64, x0⟩], [⟨false, [⟨0, 0, .mk 0 ⟨.str, x1⟩⟩, ⟨0, 0, .mk 0 ⟨.row K4, x2⟩⟩, ⟨0, 0, .mk 0 ⟨.row K3, x3⟩⟩, ⟨0, 0, .mk 0 ⟨.row K5, x4⟩⟩]⟩]⟩
noncomputable def s2 (B4 : Y48 → Option Bool) (L2 : Y45 → Option Bool) : Y45 → Option Bool
 | (x0, x1, x2, x3, x4) => bif decide (x0 < (List.length x4 : Int)) then B4 (x0, (0 : Int), x1, x2, x3, x4) else some true
noncomputable def ll2 : Y45 → LS
 | (x0, x1, x2, x3, x4) => ⟨[.addr 65 0 [] 0, .cv ⟨.int .i64, x0⟩], [⟨false, [⟨0, 0, .mk 0 ⟨.str, x1⟩⟩, ⟨0, 0, .mk 0 ⟨.row K4, x2⟩⟩, ⟨0, 0, .mk 0 ⟨.row K3, x3⟩⟩, ⟨0, 0, .mk 0 ⟨.row K5, x4⟩⟩]⟩]⟩
noncomputable def s4 (L2 : Y45 → Option Bool) (L4 : Y48 → Option Bool) : Y48 → Option Bool
 | (x0, x1, x2, x3, x4, x5) => bif decide (x1 < x0) then bif decide (0 ≤ x1) && decide (x1 < (List.length x5 : Int)) then bif decide (0 ≤ x0) && decide (x0 < (List.length x5 : Int)) then bif ByteArray.toList ((getD x5 (toNat x1) Z1).1) == ByteArray.toList ((getD x5 (toNat x0) Z1).1) then some false else L4 (x0, wrap i64 (x1 + 1), x2, x3, x4, x5) else none else none else L2 (wrap i64 (x0 + 1), x2, x3, x4, x5)
noncomputable def ll4 : Y48 → LS
 | (x0, x1, x2, x3, x4, x5) => ⟨[.addr 65 0 [] 0, .cv ⟨.int .i64, x0⟩, .cv ⟨.int .i64, x1⟩], [⟨false, [⟨0, 0, .mk 0 ⟨.str, x2⟩⟩, ⟨0, 0, .mk 0 ⟨.row K4, x3⟩⟩, ⟨0, 0, .mk 0 ⟨.row K3, x4⟩⟩, ⟨0, 0, .mk 0 ⟨.row K5, x5⟩⟩]⟩]⟩
noncomputable def m (B0 : Y45 → Option Bool) : Y1 → Option Bool
 | (a0_0, a0_1, a0_2, a0_3) => B0 ((0 : Int), a0_0, a0_1, a0_2, a0_3)
noncomputable def sig : Sig := ⟨[.val true [⟨.str, 0, 0, false⟩, ⟨.row K4, 0, 0, false⟩, ⟨.row K3, 0, 0, false⟩, ⟨.row K5, 0, 0, false⟩]], [(.one, [(.bool, 0)])]⟩
noncomputable def hint : Nat → Hint
 | 0 => ⟨[(1, .keep), (3, .keep)], [(65, [0, 0, 0, 0])]⟩
 | 2 => ⟨[(1, .keep), (4, .keep)], [(65, [0, 0, 0, 0])]⟩
 | 4 => ⟨[(1, .keep), (4, .keep), (5, .keep)], [(65, [0, 0, 0, 0])]⟩
 | _ => ⟨[], []⟩
noncomputable def join (_ : Nat) : Option Hint := none
noncomputable def body : Code := (Tryz.f122).body.getD .skip
noncomputable def rv : List ResultVar := (Tryz.f122).results.toList
noncomputable def fn : Fn := ⟨48, sig, rv, body, hint, join⟩
end spec_l9Once
namespace spec_l9Parts
noncomputable def s0 (c78 : (Int × Int × Int) → Option Bool) (L0 : Y49 → Option Bool) : Y49 → Option Bool
 | (x0, x1, x2, x3, x4, x5) => bif decide (x1 < (List.length x0 : Int)) then bif decide (0 ≤ x1) && decide (x1 < (List.length x0 : Int)) then Option.bind (c78 ((getD x0 (toNat x1) Z5).1, (0 : Int), wrap i64 ((List.length x3 : Int) - 1))) fun r1 => bif !(r1) then some false else bif decide (x1 > 0) then bif decide (0 ≤ 0) && decide ((0 : Int) < (List.length x0 : Int)) then bif decide (0 ≤ x1) && decide (x1 < (List.length x0 : Int)) then bif ((getD x0 (toNat (0 : Int)) Z5).1) == ((getD x0 (toNat x1) Z5).1) then some false else L0 (x0, wrap i64 (x1 + 1), x2, x3, x4, x5) else none else none else L0 (x0, wrap i64 (x1 + 1), x2, x3, x4, x5) else none else Option.bind (c78 ((List.length x0 : Int), (1 : Int), (2 : Int))) fun r2 => some r2
noncomputable def ll0 : Y49 → LS
 | (x0, x1, x2, x3, x4, x5) => ⟨[.cv ⟨.row K3, x0⟩, .addr 129 0 [] 0, .cv ⟨.int .i64, x1⟩], [⟨false, [⟨0, 0, .mk 0 ⟨.str, x2⟩⟩, ⟨0, 0, .mk 0 ⟨.row K4, x3⟩⟩, ⟨0, 0, .mk 0 ⟨.row K3, x4⟩⟩, ⟨0, 0, .mk 0 ⟨.row K5, x5⟩⟩]⟩]⟩
noncomputable def m (B0 : Y49 → Option Bool) : Y21 → Option Bool
 | (a0_0, a0_1, a0_2, a0_3, a1_0) => B0 (a1_0, (0 : Int), a0_0, a0_1, a0_2, a0_3)
noncomputable def sig : Sig := ⟨[.val true [⟨.str, 0, 0, false⟩, ⟨.row K4, 0, 0, false⟩, ⟨.row K3, 0, 0, false⟩, ⟨.row K5, 0, 0, false⟩], .val false [⟨.row K3, 0, 0, false⟩]], [(.one, [(.bool, 0)])]⟩
noncomputable def hint : Nat → Hint
 | 0 => ⟨[(1, .keep), (2, .keep), (5, .keep)], [(129, [0, 0, 0, 0])]⟩
 | _ => ⟨[], []⟩
noncomputable def join (_ : Nat) : Option Hint := none
noncomputable def body : Code := (Tryz.f151).body.getD .skip
noncomputable def rv : List ResultVar := (Tryz.f151).results.toList
noncomputable def fn : Fn := ⟨42, sig, rv, body, hint, join⟩
end spec_l9Parts
namespace spec_l9AllParts
noncomputable def s0 (c151 : Y21 → Option Bool) (L0 : Y45 → Option Bool) : Y45 → Option Bool
 | (x0, x1, x2, x3, x4) => bif decide (x0 < (List.length x4 : Int)) then bif decide (0 ≤ x0) && decide (x0 < (List.length x4 : Int)) then Option.bind (c151 (x1, x2, x3, x4, (getD x4 (toNat x0) Z1).2.2)) fun r1 => bif !(r1) then some false else L0 (wrap i64 (x0 + 1), x1, x2, x3, x4) else none else Option.bind (c151 (x1, x2, x3, x4, x3)) fun r2 => some r2
noncomputable def ll0 : Y45 → LS
 | (x0, x1, x2, x3, x4) => ⟨[.addr 65 0 [] 0, .cv ⟨.int .i64, x0⟩], [⟨false, [⟨0, 0, .mk 0 ⟨.str, x1⟩⟩, ⟨0, 0, .mk 0 ⟨.row K4, x2⟩⟩, ⟨0, 0, .mk 0 ⟨.row K3, x3⟩⟩, ⟨0, 0, .mk 0 ⟨.row K5, x4⟩⟩]⟩]⟩
noncomputable def m (B0 : Y45 → Option Bool) : Y1 → Option Bool
 | (a0_0, a0_1, a0_2, a0_3) => B0 ((0 : Int), a0_0, a0_1, a0_2, a0_3)
noncomputable def sig : Sig := ⟨[.val true [⟨.str, 0, 0, false⟩, ⟨.row K4, 0, 0, false⟩, ⟨.row K3, 0, 0, false⟩, ⟨.row K5, 0, 0, false⟩]], [(.one, [(.bool, 0)])]⟩
noncomputable def hint : Nat → Hint
 | 0 => ⟨[(1, .keep), (3, .keep)], [(65, [0, 0, 0, 0])]⟩
 | _ => ⟨[], []⟩
noncomputable def join (_ : Nat) : Option Hint := none
noncomputable def body : Code := (Tryz.f123).body.getD .skip
noncomputable def rv : List ResultVar := (Tryz.f123).results.toList
noncomputable def fn : Fn := ⟨24, sig, rv, body, hint, join⟩
end spec_l9AllParts
namespace spec_CheckDef
noncomputable def s1 (L1 : Y45 → Option Int) : Y45 → Option Int
 | (x0, x1, x2, x3, x4) => bif decide (x0 < (List.length x3 : Int)) then bif decide (0 ≤ x0) && decide (x0 < (List.length x3 : Int)) then bif decide (0 ≤ ((getD x3 (toNat x0) Z5).1)) && decide (((getD x3 (toNat x0) Z5).1) < (List.length x2 : Int)) then bif (getD x2 (toNat ((getD x3 (toNat x0) Z5).1)) Z4).2.2 then some (4 : Int) else L1 (wrap i64 (x0 + 1), x1, x2, x3, x4) else none else none else some (0 : Int)
noncomputable def ll1 : Y45 → LS
 | (x0, x1, x2, x3, x4) => ⟨[.addr 65 0 [] 0, .cv ⟨.int .i64, x0⟩], [⟨false, [⟨0, 0, .mk 0 ⟨.str, x1⟩⟩, ⟨0, 0, .mk 0 ⟨.row K4, x2⟩⟩, ⟨0, 0, .mk 0 ⟨.row K3, x3⟩⟩, ⟨0, 0, .mk 0 ⟨.row K5, x4⟩⟩]⟩]⟩
noncomputable def m (c120 c121 c122 c123 : Y1 → Option Bool) (B1 : Y45 → Option Int) : Y1 → Option Int
 | (a0_0, a0_1, a0_2, a0_3) => Option.bind (c120 (a0_0, a0_1, a0_2, a0_3)) fun r1 => bif !(r1) then some (1 : Int) else Option.bind (c121 (a0_0, a0_1, a0_2, a0_3)) fun r2 => bif !(r2) then some (2 : Int) else Option.bind (c122 (a0_0, a0_1, a0_2, a0_3)) fun r3 => bif !(r3) then some (3 : Int) else bif decide ((List.length a0_3 : Int) > 2) then some (6 : Int) else Option.bind (c123 (a0_0, a0_1, a0_2, a0_3)) fun r4 => bif !(r4) then some (5 : Int) else B1 ((0 : Int), a0_0, a0_1, a0_2, a0_3)
noncomputable def sig : Sig := ⟨[.val true [⟨.str, 0, 0, false⟩, ⟨.row K4, 0, 0, false⟩, ⟨.row K3, 0, 0, false⟩, ⟨.row K5, 0, 0, false⟩]], [(.one, [(.int .i64, 0)])]⟩
noncomputable def hint : Nat → Hint
 | 1 => ⟨[(1, .keep), (3, .keep)], [(65, [0, 0, 0, 0])]⟩
 | _ => ⟨[], []⟩
noncomputable def join (_ : Nat) : Option Hint := none
noncomputable def body : Code := (Tryz.f81).body.getD .skip
noncomputable def rv : List ResultVar := (Tryz.f81).results.toList
noncomputable def fn : Fn := ⟨43, sig, rv, body, hint, join⟩
end spec_CheckDef
namespace spec_FirstBad
noncomputable def s0 (c81 : Y1 → Option Int) (B2 : Y50 → Option Int) (L0 : Y51 → Option Int) : Y51 → Option Int
 | (x0, x1) => bif decide (x1 < (List.length x0 : Int)) then bif decide (0 ≤ x1) && decide (x1 < (List.length x0 : Int)) then Option.bind (c81 ((getD x0 (toNat x1) Z0).1, (getD x0 (toNat x1) Z0).2.1, (getD x0 (toNat x1) Z0).2.2.1, (getD x0 (toNat x1) Z0).2.2.2)) fun r1 => bif r1 != 0 then some x1 else bif decide (x1 > 2) then some x1 else B2 (x0, x1, (0 : Int), x1, decide (x1 > 2)) else none else some (-1 : Int)
noncomputable def ll0 : Y51 → LS
 | (x0, x1) => ⟨[.cv ⟨.row K6, x0⟩, .cv ⟨.int .i64, x1⟩], []⟩
noncomputable def s2 (L0 : Y51 → Option Int) (L2 : Y50 → Option Int) : Y50 → Option Int
 | (x0, x1, x2, x3, x4) => bif decide (x2 < x1) then bif decide (0 ≤ x2) && decide (x2 < (List.length x0 : Int)) then bif decide (0 ≤ x1) && decide (x1 < (List.length x0 : Int)) then bif ByteArray.toList ((getD x0 (toNat x2) Z0).1) == ByteArray.toList ((getD x0 (toNat x1) Z0).1) then some x1 else L2 (x0, x1, wrap i64 (x2 + 1), x3, x4) else none else none else L0 (x0, wrap i64 (x1 + 1))
noncomputable def ll2 : Y50 → LS
 | (x0, x1, x2, x3, x4) => ⟨[.cv ⟨.row K6, x0⟩, .cv ⟨.int .i64, x1⟩, .cv ⟨.int .i64, x2⟩, .cv ⟨.int .i64, x3⟩, .cv ⟨.bool, x4⟩], []⟩
noncomputable def m (B0 : Y51 → Option Int) : Y25 → Option Int
 | a0_0 => B0 (a0_0, (0 : Int))
noncomputable def sig : Sig := ⟨[.val false [⟨.row K6, 0, 0, false⟩]], [(.one, [(.int .i64, 0)])]⟩
noncomputable def hint : Nat → Hint
 | 0 => ⟨[(0, .keep), (3, .keep)], []⟩
 | 2 => ⟨[(0, .keep), (3, .keep), (4, .keep), (18, .keep), (19, .keep)], []⟩
 | _ => ⟨[], []⟩
noncomputable def join (_ : Nat) : Option Hint := none
noncomputable def body : Code := (Tryz.f77).body.getD .skip
noncomputable def rv : List ResultVar := (Tryz.f77).results.toList
noncomputable def fn : Fn := ⟨39, sig, rv, body, hint, join⟩
end spec_FirstBad
namespace spec_l11There
noncomputable def m (c77 : Y25 → Option Int) (c78 : (Int × Int × Int) → Option Bool) : Y9 → Option Bool
 | (a0_0, a1_0, a2_0) => Option.bind (c77 a0_0) fun r1 => bif r1 == (-1) then Option.bind (c78 (a1_0, (0 : Int), wrap i64 ((List.length a0_0 : Int) - 1))) fun r2 => bif r2 then bif decide (0 ≤ a1_0) && decide (a1_0 < (List.length a0_0 : Int)) then Option.bind (c78 (a2_0, (-1 : Int), wrap i64 ((List.length ((getD a0_0 (toNat a1_0) Z0).2.2.2) : Int) - 1))) fun r3 => some r3 else none else some false else some false
noncomputable def sig : Sig := ⟨[.val false [⟨.row K6, 0, 0, false⟩], .val false [⟨.int .i64, 0, 0, false⟩], .val false [⟨.int .i64, 0, 0, false⟩]], [(.one, [(.bool, 0)])]⟩
noncomputable def hint (_ : Nat) : Hint := ⟨[], []⟩
noncomputable def join (_ : Nat) : Option Hint := none
noncomputable def body : Code := (Tryz.f45).body.getD .skip
noncomputable def rv : List ResultVar := (Tryz.f45).results.toList
noncomputable def fn : Fn := ⟨28, sig, rv, body, hint, join⟩
end spec_l11There
namespace spec_PartOk
noncomputable def m (c78 : (Int × Int × Int) → Option Bool) : (Int × Int × Bool × Bool) → Option Bool
 | (a0_0, a0_1, a0_2, a0_3) => Option.bind (c78 (a0_0, (0 : Int), (9 : Int))) fun r1 => bif r1 then Option.bind (c78 (a0_1, (1 : Int), (4 : Int))) fun r2 => some r2 else some false
noncomputable def sig : Sig := ⟨[.val true [⟨.int .i64, 0, 0, false⟩, ⟨.int .i64, 0, 0, false⟩, ⟨.bool, 0, 0, false⟩, ⟨.bool, 0, 0, false⟩]], [(.one, [(.bool, 0)])]⟩
noncomputable def hint (_ : Nat) : Hint := ⟨[], []⟩
noncomputable def join (_ : Nat) : Option Hint := none
noncomputable def body : Code := (Tryz.f118).body.getD .skip
noncomputable def rv : List ResultVar := (Tryz.f118).results.toList
noncomputable def fn : Fn := ⟨11, sig, rv, body, hint, join⟩
end spec_PartOk
namespace spec_PlanOk
noncomputable def s0 (c118 : (Int × Int × Bool × Bool) → Option Bool) (L0 : Y52 → Option Bool) : Y52 → Option Bool
 | (x0, x1) => bif decide (x1 < (List.length x0 : Int)) then bif decide (0 ≤ x1) && decide (x1 < (List.length x0 : Int)) then Option.bind (c118 ((getD x0 (toNat x1) Z3).1, (getD x0 (toNat x1) Z3).2.1, (getD x0 (toNat x1) Z3).2.2.1, (getD x0 (toNat x1) Z3).2.2.2)) fun r1 => bif !(r1) then some false else L0 (x0, wrap i64 (x1 + 1)) else none else some (decide ((List.length x0 : Int) ≤ 6))
noncomputable def ll0 : Y52 → LS
 | (x0, x1) => ⟨[.cv ⟨.row K8, x0⟩, .cv ⟨.int .i64, x1⟩], []⟩
noncomputable def m (B0 : Y52 → Option Bool) : Y28 → Option Bool
 | a0_0 => B0 (a0_0, (0 : Int))
noncomputable def sig : Sig := ⟨[.val false [⟨.row K8, 0, 0, false⟩]], [(.one, [(.bool, 0)])]⟩
noncomputable def hint : Nat → Hint
 | 0 => ⟨[(0, .keep), (3, .keep)], []⟩
 | _ => ⟨[], []⟩
noncomputable def join (_ : Nat) : Option Hint := none
noncomputable def body : Code := (Tryz.f79).body.getD .skip
noncomputable def rv : List ResultVar := (Tryz.f79).results.toList
noncomputable def fn : Fn := ⟨19, sig, rv, body, hint, join⟩
end spec_PlanOk
namespace spec_ValOk
noncomputable def m (c78 : (Int × Int × Int) → Option Bool) : (Int × Int × ByteArray) → Option Bool
 | (a0_0, a0_1, a0_2) => bif a0_0 == 0 then bif a0_1 == 0 then some (ByteArray.toList a0_2 == ByteArray.toList ({ data := #[] } : ByteArray)) else some false else bif a0_0 == 1 then Option.bind (c78 (a0_1, (-2147483648 : Int), (2147483647 : Int))) fun r1 => bif r1 then some (ByteArray.toList a0_2 == ByteArray.toList ({ data := #[] } : ByteArray)) else some false else bif a0_0 == 2 then Option.bind (c78 (a0_1, (-1000000000000000 : Int), (1000000000000000 : Int))) fun r2 => bif r2 then some (ByteArray.toList a0_2 == ByteArray.toList ({ data := #[] } : ByteArray)) else some false else bif a0_0 == 3 then bif decide ((ByteArray.size a0_2 : Int) ≤ 30) then some (a0_1 == 0) else some false else bif a0_0 == 4 then Option.bind (c78 (a0_1, (0 : Int), (1 : Int))) fun r3 => bif r3 then some (ByteArray.toList a0_2 == ByteArray.toList ({ data := #[] } : ByteArray)) else some false else some false
noncomputable def sig : Sig := ⟨[.val true [⟨.int .i64, 0, 0, false⟩, ⟨.int .i64, 0, 0, false⟩, ⟨.str, 0, 0, false⟩]], [(.one, [(.bool, 0)])]⟩
noncomputable def hint (_ : Nat) : Hint := ⟨[], []⟩
noncomputable def join (_ : Nat) : Option Hint := none
noncomputable def body : Code := (Tryz.f148).body.getD .skip
noncomputable def rv : List ResultVar := (Tryz.f148).results.toList
noncomputable def fn : Fn := ⟨56, sig, rv, body, hint, join⟩
end spec_ValOk
namespace spec_Fits
noncomputable def m (c148 : (Int × Int × ByteArray) → Option Bool) : Y30 → Option Bool
 | (a0_0, a0_1, a0_2, a0_3, a1_0, a1_1, a1_2) => Option.bind (c148 (a1_0, a1_1, a1_2)) fun r1 => bif r1 then bif a1_0 == a0_1 then bif a1_0 != 0 then some true else bif a1_0 == 0 then some a0_2 else some false else bif a1_0 == 0 then some a0_2 else some false else some false
noncomputable def sig : Sig := ⟨[.val true [⟨.int .i64, 0, 0, false⟩, ⟨.int .i64, 0, 0, false⟩, ⟨.bool, 0, 0, false⟩, ⟨.bool, 0, 0, false⟩], .val true [⟨.int .i64, 0, 0, false⟩, ⟨.int .i64, 0, 0, false⟩, ⟨.str, 0, 0, false⟩]], [(.one, [(.bool, 0)])]⟩
noncomputable def hint (_ : Nat) : Hint := ⟨[], []⟩
noncomputable def join (_ : Nat) : Option Hint := none
noncomputable def body : Code := (Tryz.f119).body.getD .skip
noncomputable def rv : List ResultVar := (Tryz.f119).results.toList
noncomputable def fn : Fn := ⟨28, sig, rv, body, hint, join⟩
end spec_Fits
namespace spec_FitsAll
noncomputable def s0 (c119 : Y30 → Option Bool) (L0 : Y53 → Option Bool) : Y53 → Option Bool
 | (x0, x1, x2) => bif decide (x2 < (List.length x1 : Int)) then bif decide (0 ≤ x2) && decide (x2 < (List.length x0 : Int)) then bif decide (0 ≤ x2) && decide (x2 < (List.length x1 : Int)) then Option.bind (c119 ((getD x0 (toNat x2) Z3).1, (getD x0 (toNat x2) Z3).2.1, (getD x0 (toNat x2) Z3).2.2.1, (getD x0 (toNat x2) Z3).2.2.2, (getD x1 (toNat x2) Z2).1, (getD x1 (toNat x2) Z2).2.1, (getD x1 (toNat x2) Z2).2.2)) fun r1 => bif !(r1) then some false else L0 (x0, x1, wrap i64 (x2 + 1)) else none else none else some true
noncomputable def ll0 : Y53 → LS
 | (x0, x1, x2) => ⟨[.cv ⟨.row K8, x0⟩, .cv ⟨.row K7, x1⟩, .cv ⟨.int .i64, x2⟩], []⟩
noncomputable def m (B0 : Y53 → Option Bool) : Y31 → Option Bool
 | (a0_0, a1_0) => bif decide ((List.length a1_0 : Int) > (List.length a0_0 : Int)) then some false else B0 (a0_0, a1_0, (0 : Int))
noncomputable def sig : Sig := ⟨[.val false [⟨.row K8, 0, 0, false⟩], .val false [⟨.row K7, 0, 0, false⟩]], [(.one, [(.bool, 0)])]⟩
noncomputable def hint : Nat → Hint
 | 0 => ⟨[(0, .keep), (1, .keep), (5, .keep)], []⟩
 | _ => ⟨[], []⟩
noncomputable def join (_ : Nat) : Option Hint := none
noncomputable def body : Code := (Tryz.f80).body.getD .skip
noncomputable def rv : List ResultVar := (Tryz.f80).results.toList
noncomputable def fn : Fn := ⟨27, sig, rv, body, hint, join⟩
end spec_FitsAll
namespace spec_RowOk
noncomputable def m (c79 : Y28 → Option Bool) (c80 : Y31 → Option Bool) : Y31 → Option Bool
 | (a0_0, a1_0) => Option.bind (c79 a0_0) fun r1 => bif r1 then bif (List.length a1_0 : Int) == (List.length a0_0 : Int) then Option.bind (c80 (a0_0, a1_0)) fun r2 => some r2 else some false else some false
noncomputable def sig : Sig := ⟨[.val false [⟨.row K8, 0, 0, false⟩], .val false [⟨.row K7, 0, 0, false⟩]], [(.one, [(.bool, 0)])]⟩
noncomputable def hint (_ : Nat) : Hint := ⟨[], []⟩
noncomputable def join (_ : Nat) : Option Hint := none
noncomputable def body : Code := (Tryz.f46).body.getD .skip
noncomputable def rv : List ResultVar := (Tryz.f46).results.toList
noncomputable def fn : Fn := ⟨19, sig, rv, body, hint, join⟩
end spec_RowOk
namespace spec_l11Part
noncomputable def m  : Y54 → Option (Int × Int × Bool × Bool)
 | (a0_0, a0_1, a0_2, a0_3, a1_0, a2_0) => bif decide (0 ≤ a1_0) && decide (a1_0 < (List.length a0_1 : Int)) then bif decide (0 ≤ a1_0) && decide (a1_0 < (List.length a0_1 : Int)) then some (a1_0, (getD a0_1 (toNat a1_0) Z4).2.1, (getD a0_1 (toNat a1_0) Z4).2.2, a2_0) else none else none
noncomputable def sig : Sig := ⟨[.val true [⟨.str, 0, 0, false⟩, ⟨.row K4, 0, 0, false⟩, ⟨.row K3, 0, 0, false⟩, ⟨.row K5, 0, 0, false⟩], .val false [⟨.int .i64, 0, 0, false⟩], .val false [⟨.bool, 0, 0, false⟩]], [(.agg, [(.int .i64, 0), (.int .i64, 0), (.bool, 0), (.bool, 0)])]⟩
noncomputable def hint (_ : Nat) : Hint := ⟨[], []⟩
noncomputable def join (_ : Nat) : Option Hint := none
noncomputable def body : Code := (Tryz.f82).body.getD .skip
noncomputable def rv : List ResultVar := (Tryz.f82).results.toList
noncomputable def fn : Fn := ⟨22, sig, rv, body, hint, join⟩
end spec_l11Part
namespace spec_RowPlan
noncomputable def s0 (c81 : Y1 → Option Int) (c82 : Y54 → Option (Int × Int × Bool × Bool)) (L0 : Y55 → Option Y28) : Y55 → Option Y28
 | (x0, x1, x2, x3, x4, x5) => bif decide (x0 < (List.length x2 : Int)) then Option.bind (c81 (x1, x2, x3, x4)) fun r1 => bif r1 == 0 then Option.bind (c82 (x1, x2, x3, x4, x0, false)) fun r2 => bif decide ((List.length x5 + List.length ([(r2.1, r2.2.1, r2.2.2.1, r2.2.2.2)] : List (Int × Int × Bool × Bool))) * 24 ≤ 140737488355328) then L0 (wrap i64 (x0 + 1), x1, x2, x3, x4, x5 ++ ([(r2.1, r2.2.1, r2.2.2.1, r2.2.2.2)] : List (Int × Int × Bool × Bool))) else none else some x5 else some x5
noncomputable def ll0 : Y55 → LS
 | (x0, x1, x2, x3, x4, x5) => ⟨[.addr 65 0 [] 0, .ref 12 0 [] none 0, .cv ⟨.int .i64, x0⟩], [⟨false, [⟨0, 0, .mk 0 ⟨.str, x1⟩⟩, ⟨0, 0, .mk 0 ⟨.row K4, x2⟩⟩, ⟨0, 0, .mk 0 ⟨.row K3, x3⟩⟩, ⟨0, 0, .mk 0 ⟨.row K5, x4⟩⟩]⟩, ⟨true, [⟨0, 0, .mk 9 ⟨.row K8, x5⟩⟩]⟩]⟩
noncomputable def m (B0 : Y55 → Option Y28) : Y1 → Option Y28
 | (a0_0, a0_1, a0_2, a0_3) => B0 ((0 : Int), a0_0, a0_1, a0_2, a0_3, ([] : List (Int × Int × Bool × Bool)))
noncomputable def sig : Sig := ⟨[.val true [⟨.str, 0, 0, false⟩, ⟨.row K4, 0, 0, false⟩, ⟨.row K3, 0, 0, false⟩, ⟨.row K5, 0, 0, false⟩]], [(.one, [(.row K8, 1)])]⟩
noncomputable def hint : Nat → Hint
 | 0 => ⟨[(1, .keep), (3, .own 9 K8), (4, .keep)], [(65, [0, 0, 0, 0])]⟩
 | _ => ⟨[], []⟩
noncomputable def join (_ : Nat) : Option Hint := none
noncomputable def body : Code := (Tryz.f47).body.getD .skip
noncomputable def rv : List ResultVar := (Tryz.f47).results.toList
noncomputable def fn : Fn := ⟨25, sig, rv, body, hint, join⟩
end spec_RowPlan
namespace spec_HeadOf
noncomputable def m (c45 : Y9 → Option Bool) : Y9 → Option ((List Int))
 | (a0_0, a1_0, a2_0) => Option.bind (c45 (a0_0, a1_0, a2_0)) fun r1 => bif !(r1) then some ([] : List Int) else some ([wrap .u8 (wrap i64 (a1_0 + 1)), wrap .u8 (wrap i64 (a2_0 + 1))] : List Int)
noncomputable def sig : Sig := ⟨[.val false [⟨.row K6, 0, 0, false⟩], .val false [⟨.int .i64, 0, 0, false⟩], .val false [⟨.int .i64, 0, 0, false⟩]], [(.one, [(.row K1, 1)])]⟩
noncomputable def hint (_ : Nat) : Hint := ⟨[], []⟩
noncomputable def join (_ : Nat) : Option Hint := none
noncomputable def body : Code := (Tryz.f15).body.getD .skip
noncomputable def rv : List ResultVar := (Tryz.f15).results.toList
noncomputable def fn : Fn := ⟨20, sig, rv, body, hint, join⟩
end spec_HeadOf
namespace spec_l11Parts
noncomputable def s0 (c82 : Y54 → Option (Int × Int × Bool × Bool)) (L0 : Y56 → Option Y28) : Y56 → Option Y28
 | (x0, x1, x2, x3, x4, x5, x6) => bif decide (x1 < (List.length x0 : Int)) then bif decide (0 ≤ x1) && decide (x1 < (List.length x0 : Int)) then bif decide (0 ≤ x1) && decide (x1 < (List.length x0 : Int)) then Option.bind (c82 (x2, x3, x4, x5, (getD x0 (toNat x1) Z5).1, (getD x0 (toNat x1) Z5).2)) fun r1 => bif decide ((List.length x6 + List.length ([(r1.1, r1.2.1, r1.2.2.1, r1.2.2.2)] : List (Int × Int × Bool × Bool))) * 24 ≤ 140737488355328) then L0 (x0, wrap i64 (x1 + 1), x2, x3, x4, x5, x6 ++ ([(r1.1, r1.2.1, r1.2.2.1, r1.2.2.2)] : List (Int × Int × Bool × Bool))) else none else none else none else some x6
noncomputable def ll0 : Y56 → LS
 | (x0, x1, x2, x3, x4, x5, x6) => ⟨[.cv ⟨.row K3, x0⟩, .addr 129 0 [] 0, .ref 20 0 [] none 0, .cv ⟨.int .i64, x1⟩], [⟨false, [⟨0, 0, .mk 0 ⟨.str, x2⟩⟩, ⟨0, 0, .mk 0 ⟨.row K4, x3⟩⟩, ⟨0, 0, .mk 0 ⟨.row K3, x4⟩⟩, ⟨0, 0, .mk 0 ⟨.row K5, x5⟩⟩]⟩, ⟨true, [⟨0, 0, .mk 9 ⟨.row K8, x6⟩⟩]⟩]⟩
noncomputable def m (B0 : Y56 → Option Y28) : Y21 → Option Y28
 | (a0_0, a0_1, a0_2, a0_3, a1_0) => B0 (a1_0, (0 : Int), a0_0, a0_1, a0_2, a0_3, ([] : List (Int × Int × Bool × Bool)))
noncomputable def sig : Sig := ⟨[.val true [⟨.str, 0, 0, false⟩, ⟨.row K4, 0, 0, false⟩, ⟨.row K3, 0, 0, false⟩, ⟨.row K5, 0, 0, false⟩], .val false [⟨.row K3, 0, 0, false⟩]], [(.one, [(.row K8, 1)])]⟩
noncomputable def hint : Nat → Hint
 | 0 => ⟨[(1, .keep), (2, .keep), (5, .own 9 K8), (6, .keep)], [(129, [0, 0, 0, 0])]⟩
 | _ => ⟨[], []⟩
noncomputable def join (_ : Nat) : Option Hint := none
noncomputable def body : Code := (Tryz.f152).body.getD .skip
noncomputable def rv : List ResultVar := (Tryz.f152).results.toList
noncomputable def fn : Fn := ⟨30, sig, rv, body, hint, join⟩
end spec_l11Parts
namespace spec_PrimaryPlan
noncomputable def m (c81 : Y1 → Option Int) (c152 : Y21 → Option Y28) : Y1 → Option Y28
 | (a0_0, a0_1, a0_2, a0_3) => Option.bind (c81 (a0_0, a0_1, a0_2, a0_3)) fun r1 => bif r1 != 0 then some ([] : List (Int × Int × Bool × Bool)) else Option.bind (c152 (a0_0, a0_1, a0_2, a0_3, a0_2)) fun r2 => some r2
noncomputable def sig : Sig := ⟨[.val true [⟨.str, 0, 0, false⟩, ⟨.row K4, 0, 0, false⟩, ⟨.row K3, 0, 0, false⟩, ⟨.row K5, 0, 0, false⟩]], [(.one, [(.row K8, 1)])]⟩
noncomputable def hint (_ : Nat) : Hint := ⟨[], []⟩
noncomputable def join (_ : Nat) : Option Hint := none
noncomputable def body : Code := (Tryz.f124).body.getD .skip
noncomputable def rv : List ResultVar := (Tryz.f124).results.toList
noncomputable def fn : Fn := ⟨11, sig, rv, body, hint, join⟩
end spec_PrimaryPlan
namespace spec_IndexPlan
noncomputable def m (c78 : (Int × Int × Int) → Option Bool) (c81 : Y1 → Option Int) (c152 : Y21 → Option Y28) : Y37 → Option Y28
 | (a0_0, a0_1, a0_2, a0_3, a1_0) => Option.bind (c81 (a0_0, a0_1, a0_2, a0_3)) fun r1 => bif r1 != 0 then some ([] : List (Int × Int × Bool × Bool)) else Option.bind (c78 (a1_0, (0 : Int), wrap i64 ((List.length a0_3 : Int) - 1))) fun r2 => bif !(r2) then some ([] : List (Int × Int × Bool × Bool)) else bif decide (0 ≤ a1_0) && decide (a1_0 < (List.length a0_3 : Int)) then Option.bind (c152 (a0_0, a0_1, a0_2, a0_3, (getD a0_3 (toNat a1_0) Z1).2.2)) fun r3 => Option.bind (c152 (a0_0, a0_1, a0_2, a0_3, a0_2)) fun r4 => bif decide ((List.length r3 + List.length r4) * 24 ≤ 140737488355328) then some (r3 ++ r4) else none else none
noncomputable def sig : Sig := ⟨[.val true [⟨.str, 0, 0, false⟩, ⟨.row K4, 0, 0, false⟩, ⟨.row K3, 0, 0, false⟩, ⟨.row K5, 0, 0, false⟩], .val false [⟨.int .i64, 0, 0, false⟩]], [(.one, [(.row K8, 1)])]⟩
noncomputable def hint (_ : Nat) : Hint := ⟨[], []⟩
noncomputable def join (_ : Nat) : Option Hint := none
noncomputable def body : Code := (Tryz.f125).body.getD .skip
noncomputable def rv : List ResultVar := (Tryz.f125).results.toList
noncomputable def fn : Fn := ⟨31, sig, rv, body, hint, join⟩
end spec_IndexPlan
namespace spec_l11Plan
noncomputable def m (c124 : Y1 → Option Y28) (c125 : Y37 → Option Y28) : Y37 → Option Y28
 | (a0_0, a0_1, a0_2, a0_3, a1_0) => bif a1_0 == (-1) then Option.bind (c124 (a0_0, a0_1, a0_2, a0_3)) fun r1 => some r1 else Option.bind (c125 (a0_0, a0_1, a0_2, a0_3, a1_0)) fun r2 => some r2
noncomputable def sig : Sig := ⟨[.val true [⟨.str, 0, 0, false⟩, ⟨.row K4, 0, 0, false⟩, ⟨.row K3, 0, 0, false⟩, ⟨.row K5, 0, 0, false⟩], .val false [⟨.int .i64, 0, 0, false⟩]], [(.one, [(.row K8, 1)])]⟩
noncomputable def hint (_ : Nat) : Hint := ⟨[], []⟩
noncomputable def join (_ : Nat) : Option Hint := none
noncomputable def body : Code := (Tryz.f83).body.getD .skip
noncomputable def rv : List ResultVar := (Tryz.f83).results.toList
noncomputable def fn : Fn := ⟨12, sig, rv, body, hint, join⟩
end spec_l11Plan
namespace spec_Flip
noncomputable def s0 (L0 : (Int × Int × (List Int)) → Option ((List Int))) : (Int × Int × (List Int)) → Option ((List Int))
 | (x0, x1, x2) => bif decide (x1 < (List.length x2 : Int)) then bif decide (x1 ≥ x0) then bif decide (0 ≤ x1) && decide (x1 < (List.length x2 : Int)) then bif decide (0 ≤ x1) && decide (x1 < (List.length x2 : Int)) then L0 (x0, wrap i64 (x1 + 1), List.set x2 (toNat x1) (wrap .u8 ((BitVec.ofInt (IntKind.bits IntKind.u8) (if IntKind.signed IntKind.u8 then -1 else IntKind.max IntKind.u8) ^^^ BitVec.ofInt (IntKind.bits IntKind.u8) (getD x2 (toNat x1) (0 : Int))).toNat : Int))) else none else none else L0 (x0, wrap i64 (x1 + 1), x2) else some x2
noncomputable def ll0 : (Int × Int × (List Int)) → LS
 | (x0, x1, x2) => ⟨[.cv ⟨.int .i64, x0⟩, .ref 20 0 [] none 0, .cv ⟨.int .i64, x1⟩], [⟨true, [⟨0, 0, .mk 9 ⟨.row K1, x2⟩⟩]⟩]⟩
noncomputable def m (B0 : (Int × Int × (List Int)) → Option ((List Int))) : ((List Int) × Int) → Option ((List Int))
 | (a0_0, a1_0) => bif decide ((List.length ([] : List Int) + List.length a0_0) * 1 ≤ 140737488355328) then B0 (a1_0, (0 : Int), ([] : List Int) ++ a0_0) else none
noncomputable def sig : Sig := ⟨[.val false [⟨.row K1, 0, 0, false⟩], .val false [⟨.int .i64, 0, 0, false⟩]], [(.one, [(.row K1, 1)])]⟩
noncomputable def hint : Nat → Hint
 | 0 => ⟨[(1, .keep), (5, .own 9 K1), (6, .keep)], []⟩
 | _ => ⟨[], []⟩
noncomputable def join (_ : Nat) : Option Hint := none
noncomputable def body : Code := (Tryz.f132).body.getD .skip
noncomputable def rv : List ResultVar := (Tryz.f132).results.toList
noncomputable def fn : Fn := ⟨28, sig, rv, body, hint, join⟩
end spec_Flip
namespace spec_l4Bytes
noncomputable def s0 (L0 : (Int × (List Int)) → Option ((List Int))) : (Int × (List Int)) → Option ((List Int))
 | (x0, x1) => bif decide (x0 > 0) then bif decide ((List.length ([wrap .u8 x0] : List Int) + List.length x1) * 1 ≤ 140737488355328) then bif decide (¬ (8 : Int) < 0) then L0 (Int.fdiv x0 (2 ^ (min (toNat (8 : Int)) (IntKind.bits IntKind.i64))), ([wrap .u8 x0] : List Int) ++ x1) else none else none else some x1
noncomputable def ll0 : (Int × (List Int)) → LS
 | (x0, x1) => ⟨[.cv ⟨.int .i64, x0⟩, .ref 12 0 [] none 0], [⟨true, [⟨0, 0, .mk 9 ⟨.row K1, x1⟩⟩]⟩]⟩
noncomputable def m (B0 : (Int × (List Int)) → Option ((List Int))) : Int → Option ((List Int))
 | a0_0 => B0 (a0_0, ([] : List Int))
noncomputable def sig : Sig := ⟨[.val false [⟨.int .i64, 0, 0, false⟩]], [(.one, [(.row K1, 1)])]⟩
noncomputable def hint : Nat → Hint
 | 0 => ⟨[(0, .keep), (3, .own 9 K1)], []⟩
 | _ => ⟨[], []⟩
noncomputable def join (_ : Nat) : Option Hint := none
noncomputable def body : Code := (Tryz.f131).body.getD .skip
noncomputable def rv : List ResultVar := (Tryz.f131).results.toList
noncomputable def fn : Fn := ⟨15, sig, rv, body, hint, join⟩
end spec_l4Bytes
namespace spec_PutVar
noncomputable def m (c131 : Int → Option ((List Int))) (c132 : ((List Int) × Int) → Option ((List Int))) : ((List Int) × Int) → Option ((List Int))
 | (a0_0, a1_0) => bif decide (a1_0 > 1000000000000000) then bif decide ((1000000000000000 : Int) < (-1000000000000000)) then bif decide ((-1000000000000000 : Int) ≥ 0) then Option.bind (c131 (-1000000000000000 : Int)) fun r1 => bif decide ((List.length ([] : List Int) + List.length a0_0) * 1 ≤ 140737488355328) then bif decide ((List.length (([] : List Int) ++ a0_0) + List.length ([wrap .u8 (wrap i64 ((128 : Int) + (List.length r1 : Int)))] : List Int)) * 1 ≤ 140737488355328) then bif decide ((List.length ((([] : List Int) ++ a0_0) ++ ([wrap .u8 (wrap i64 ((128 : Int) + (List.length r1 : Int)))] : List Int)) + List.length r1) * 1 ≤ 140737488355328) then some (((([] : List Int) ++ a0_0) ++ ([wrap .u8 (wrap i64 ((128 : Int) + (List.length r1 : Int)))] : List Int)) ++ r1) else none else none else none else Option.bind (c131 (wrap i64 ((-1 : Int) - (-1000000000000000)))) fun r2 => bif decide ((List.length ([] : List Int) + List.length a0_0) * 1 ≤ 140737488355328) then bif decide ((List.length (([] : List Int) ++ a0_0) + List.length ([wrap .u8 (wrap i64 ((127 : Int) - (List.length r2 : Int)))] : List Int)) * 1 ≤ 140737488355328) then Option.bind (c132 (r2, (0 : Int))) fun r3 => bif decide ((List.length ((([] : List Int) ++ a0_0) ++ ([wrap .u8 (wrap i64 ((127 : Int) - (List.length r2 : Int)))] : List Int)) + List.length r3) * 1 ≤ 140737488355328) then some (((([] : List Int) ++ a0_0) ++ ([wrap .u8 (wrap i64 ((127 : Int) - (List.length r2 : Int)))] : List Int)) ++ r3) else none else none else none else bif decide ((1000000000000000 : Int) ≥ 0) then Option.bind (c131 (1000000000000000 : Int)) fun r4 => bif decide ((List.length ([] : List Int) + List.length a0_0) * 1 ≤ 140737488355328) then bif decide ((List.length (([] : List Int) ++ a0_0) + List.length ([wrap .u8 (wrap i64 ((128 : Int) + (List.length r4 : Int)))] : List Int)) * 1 ≤ 140737488355328) then bif decide ((List.length ((([] : List Int) ++ a0_0) ++ ([wrap .u8 (wrap i64 ((128 : Int) + (List.length r4 : Int)))] : List Int)) + List.length r4) * 1 ≤ 140737488355328) then some (((([] : List Int) ++ a0_0) ++ ([wrap .u8 (wrap i64 ((128 : Int) + (List.length r4 : Int)))] : List Int)) ++ r4) else none else none else none else Option.bind (c131 (wrap i64 ((-1 : Int) - 1000000000000000))) fun r5 => bif decide ((List.length ([] : List Int) + List.length a0_0) * 1 ≤ 140737488355328) then bif decide ((List.length (([] : List Int) ++ a0_0) + List.length ([wrap .u8 (wrap i64 ((127 : Int) - (List.length r5 : Int)))] : List Int)) * 1 ≤ 140737488355328) then Option.bind (c132 (r5, (0 : Int))) fun r6 => bif decide ((List.length ((([] : List Int) ++ a0_0) ++ ([wrap .u8 (wrap i64 ((127 : Int) - (List.length r5 : Int)))] : List Int)) + List.length r6) * 1 ≤ 140737488355328) then some (((([] : List Int) ++ a0_0) ++ ([wrap .u8 (wrap i64 ((127 : Int) - (List.length r5 : Int)))] : List Int)) ++ r6) else none else none else none else bif decide (a1_0 < (-1000000000000000)) then bif decide ((-1000000000000000 : Int) ≥ 0) then Option.bind (c131 (-1000000000000000 : Int)) fun r7 => bif decide ((List.length ([] : List Int) + List.length a0_0) * 1 ≤ 140737488355328) then bif decide ((List.length (([] : List Int) ++ a0_0) + List.length ([wrap .u8 (wrap i64 ((128 : Int) + (List.length r7 : Int)))] : List Int)) * 1 ≤ 140737488355328) then bif decide ((List.length ((([] : List Int) ++ a0_0) ++ ([wrap .u8 (wrap i64 ((128 : Int) + (List.length r7 : Int)))] : List Int)) + List.length r7) * 1 ≤ 140737488355328) then some (((([] : List Int) ++ a0_0) ++ ([wrap .u8 (wrap i64 ((128 : Int) + (List.length r7 : Int)))] : List Int)) ++ r7) else none else none else none else Option.bind (c131 (wrap i64 ((-1 : Int) - (-1000000000000000)))) fun r8 => bif decide ((List.length ([] : List Int) + List.length a0_0) * 1 ≤ 140737488355328) then bif decide ((List.length (([] : List Int) ++ a0_0) + List.length ([wrap .u8 (wrap i64 ((127 : Int) - (List.length r8 : Int)))] : List Int)) * 1 ≤ 140737488355328) then Option.bind (c132 (r8, (0 : Int))) fun r9 => bif decide ((List.length ((([] : List Int) ++ a0_0) ++ ([wrap .u8 (wrap i64 ((127 : Int) - (List.length r8 : Int)))] : List Int)) + List.length r9) * 1 ≤ 140737488355328) then some (((([] : List Int) ++ a0_0) ++ ([wrap .u8 (wrap i64 ((127 : Int) - (List.length r8 : Int)))] : List Int)) ++ r9) else none else none else none else bif decide (a1_0 ≥ 0) then Option.bind (c131 a1_0) fun r10 => bif decide ((List.length ([] : List Int) + List.length a0_0) * 1 ≤ 140737488355328) then bif decide ((List.length (([] : List Int) ++ a0_0) + List.length ([wrap .u8 (wrap i64 ((128 : Int) + (List.length r10 : Int)))] : List Int)) * 1 ≤ 140737488355328) then bif decide ((List.length ((([] : List Int) ++ a0_0) ++ ([wrap .u8 (wrap i64 ((128 : Int) + (List.length r10 : Int)))] : List Int)) + List.length r10) * 1 ≤ 140737488355328) then some (((([] : List Int) ++ a0_0) ++ ([wrap .u8 (wrap i64 ((128 : Int) + (List.length r10 : Int)))] : List Int)) ++ r10) else none else none else none else Option.bind (c131 (wrap i64 ((-1 : Int) - a1_0))) fun r11 => bif decide ((List.length ([] : List Int) + List.length a0_0) * 1 ≤ 140737488355328) then bif decide ((List.length (([] : List Int) ++ a0_0) + List.length ([wrap .u8 (wrap i64 ((127 : Int) - (List.length r11 : Int)))] : List Int)) * 1 ≤ 140737488355328) then Option.bind (c132 (r11, (0 : Int))) fun r12 => bif decide ((List.length ((([] : List Int) ++ a0_0) ++ ([wrap .u8 (wrap i64 ((127 : Int) - (List.length r11 : Int)))] : List Int)) + List.length r12) * 1 ≤ 140737488355328) then some (((([] : List Int) ++ a0_0) ++ ([wrap .u8 (wrap i64 ((127 : Int) - (List.length r11 : Int)))] : List Int)) ++ r12) else none else none else none
noncomputable def sig : Sig := ⟨[.val false [⟨.row K1, 0, 0, false⟩], .val false [⟨.int .i64, 0, 0, false⟩]], [(.one, [(.row K1, 1)])]⟩
noncomputable def hint (_ : Nat) : Hint := ⟨[], []⟩
noncomputable def join (_ : Nat) : Option Hint := none
noncomputable def body : Code := (Tryz.f91).body.getD .skip
noncomputable def rv : List ResultVar := (Tryz.f91).results.toList
noncomputable def fn : Fn := ⟨41, sig, rv, body, hint, join⟩
end spec_PutVar
namespace spec_PutFix
noncomputable def m  : ((List Int) × Int) → Option ((List Int))
 | (a0_0, a1_0) => bif decide (a1_0 > 2147483647) then bif decide ((2147483647 : Int) < (-2147483648)) then bif decide ((List.length ([] : List Int) + List.length a0_0) * 1 ≤ 140737488355328) then bif decide (¬ (24 : Int) < 0) then bif decide (¬ (16 : Int) < 0) then bif decide (¬ (8 : Int) < 0) then bif decide ((List.length (([] : List Int) ++ a0_0) + List.length ([wrap .u8 (Int.fdiv (wrap i64 ((-2147483648 : Int) + 2147483648)) (2 ^ (min (toNat (24 : Int)) (IntKind.bits IntKind.i64)))), wrap .u8 (Int.fdiv (wrap i64 ((-2147483648 : Int) + 2147483648)) (2 ^ (min (toNat (16 : Int)) (IntKind.bits IntKind.i64)))), wrap .u8 (Int.fdiv (wrap i64 ((-2147483648 : Int) + 2147483648)) (2 ^ (min (toNat (8 : Int)) (IntKind.bits IntKind.i64)))), wrap .u8 (wrap i64 ((-2147483648 : Int) + 2147483648))] : List Int)) * 1 ≤ 140737488355328) then some ((([] : List Int) ++ a0_0) ++ ([wrap .u8 (Int.fdiv (wrap i64 ((-2147483648 : Int) + 2147483648)) (2 ^ (min (toNat (24 : Int)) (IntKind.bits IntKind.i64)))), wrap .u8 (Int.fdiv (wrap i64 ((-2147483648 : Int) + 2147483648)) (2 ^ (min (toNat (16 : Int)) (IntKind.bits IntKind.i64)))), wrap .u8 (Int.fdiv (wrap i64 ((-2147483648 : Int) + 2147483648)) (2 ^ (min (toNat (8 : Int)) (IntKind.bits IntKind.i64)))), wrap .u8 (wrap i64 ((-2147483648 : Int) + 2147483648))] : List Int)) else none else none else none else none else none else bif decide ((List.length ([] : List Int) + List.length a0_0) * 1 ≤ 140737488355328) then bif decide (¬ (24 : Int) < 0) then bif decide (¬ (16 : Int) < 0) then bif decide (¬ (8 : Int) < 0) then bif decide ((List.length (([] : List Int) ++ a0_0) + List.length ([wrap .u8 (Int.fdiv (wrap i64 ((2147483647 : Int) + 2147483648)) (2 ^ (min (toNat (24 : Int)) (IntKind.bits IntKind.i64)))), wrap .u8 (Int.fdiv (wrap i64 ((2147483647 : Int) + 2147483648)) (2 ^ (min (toNat (16 : Int)) (IntKind.bits IntKind.i64)))), wrap .u8 (Int.fdiv (wrap i64 ((2147483647 : Int) + 2147483648)) (2 ^ (min (toNat (8 : Int)) (IntKind.bits IntKind.i64)))), wrap .u8 (wrap i64 ((2147483647 : Int) + 2147483648))] : List Int)) * 1 ≤ 140737488355328) then some ((([] : List Int) ++ a0_0) ++ ([wrap .u8 (Int.fdiv (wrap i64 ((2147483647 : Int) + 2147483648)) (2 ^ (min (toNat (24 : Int)) (IntKind.bits IntKind.i64)))), wrap .u8 (Int.fdiv (wrap i64 ((2147483647 : Int) + 2147483648)) (2 ^ (min (toNat (16 : Int)) (IntKind.bits IntKind.i64)))), wrap .u8 (Int.fdiv (wrap i64 ((2147483647 : Int) + 2147483648)) (2 ^ (min (toNat (8 : Int)) (IntKind.bits IntKind.i64)))), wrap .u8 (wrap i64 ((2147483647 : Int) + 2147483648))] : List Int)) else none else none else none else none else none else bif decide (a1_0 < (-2147483648)) then bif decide ((List.length ([] : List Int) + List.length a0_0) * 1 ≤ 140737488355328) then bif decide (¬ (24 : Int) < 0) then bif decide (¬ (16 : Int) < 0) then bif decide (¬ (8 : Int) < 0) then bif decide ((List.length (([] : List Int) ++ a0_0) + List.length ([wrap .u8 (Int.fdiv (wrap i64 ((-2147483648 : Int) + 2147483648)) (2 ^ (min (toNat (24 : Int)) (IntKind.bits IntKind.i64)))), wrap .u8 (Int.fdiv (wrap i64 ((-2147483648 : Int) + 2147483648)) (2 ^ (min (toNat (16 : Int)) (IntKind.bits IntKind.i64)))), wrap .u8 (Int.fdiv (wrap i64 ((-2147483648 : Int) + 2147483648)) (2 ^ (min (toNat (8 : Int)) (IntKind.bits IntKind.i64)))), wrap .u8 (wrap i64 ((-2147483648 : Int) + 2147483648))] : List Int)) * 1 ≤ 140737488355328) then some ((([] : List Int) ++ a0_0) ++ ([wrap .u8 (Int.fdiv (wrap i64 ((-2147483648 : Int) + 2147483648)) (2 ^ (min (toNat (24 : Int)) (IntKind.bits IntKind.i64)))), wrap .u8 (Int.fdiv (wrap i64 ((-2147483648 : Int) + 2147483648)) (2 ^ (min (toNat (16 : Int)) (IntKind.bits IntKind.i64)))), wrap .u8 (Int.fdiv (wrap i64 ((-2147483648 : Int) + 2147483648)) (2 ^ (min (toNat (8 : Int)) (IntKind.bits IntKind.i64)))), wrap .u8 (wrap i64 ((-2147483648 : Int) + 2147483648))] : List Int)) else none else none else none else none else none else bif decide ((List.length ([] : List Int) + List.length a0_0) * 1 ≤ 140737488355328) then bif decide (¬ (24 : Int) < 0) then bif decide (¬ (16 : Int) < 0) then bif decide (¬ (8 : Int) < 0) then bif decide ((List.length (([] : List Int) ++ a0_0) + List.length ([wrap .u8 (Int.fdiv (wrap i64 (a1_0 + 2147483648)) (2 ^ (min (toNat (24 : Int)) (IntKind.bits IntKind.i64)))), wrap .u8 (Int.fdiv (wrap i64 (a1_0 + 2147483648)) (2 ^ (min (toNat (16 : Int)) (IntKind.bits IntKind.i64)))), wrap .u8 (Int.fdiv (wrap i64 (a1_0 + 2147483648)) (2 ^ (min (toNat (8 : Int)) (IntKind.bits IntKind.i64)))), wrap .u8 (wrap i64 (a1_0 + 2147483648))] : List Int)) * 1 ≤ 140737488355328) then some ((([] : List Int) ++ a0_0) ++ ([wrap .u8 (Int.fdiv (wrap i64 (a1_0 + 2147483648)) (2 ^ (min (toNat (24 : Int)) (IntKind.bits IntKind.i64)))), wrap .u8 (Int.fdiv (wrap i64 (a1_0 + 2147483648)) (2 ^ (min (toNat (16 : Int)) (IntKind.bits IntKind.i64)))), wrap .u8 (Int.fdiv (wrap i64 (a1_0 + 2147483648)) (2 ^ (min (toNat (8 : Int)) (IntKind.bits IntKind.i64)))), wrap .u8 (wrap i64 (a1_0 + 2147483648))] : List Int)) else none else none else none else none else none
noncomputable def sig : Sig := ⟨[.val false [⟨.row K1, 0, 0, false⟩], .val false [⟨.int .i64, 0, 0, false⟩]], [(.one, [(.row K1, 1)])]⟩
noncomputable def hint (_ : Nat) : Hint := ⟨[], []⟩
noncomputable def join (_ : Nat) : Option Hint := none
noncomputable def body : Code := (Tryz.f159).body.getD .skip
noncomputable def rv : List ResultVar := (Tryz.f159).results.toList
noncomputable def fn : Fn := ⟨27, sig, rv, body, hint, join⟩
end spec_PutFix
namespace spec_PutEsc
noncomputable def s0 (L0 : Y39 → Option ((List Int))) : Y39 → Option ((List Int))
 | (x0, x1, x2) => bif decide (x1 < (ByteArray.size x0 : Int)) then bif decide (0 ≤ x1) && decide (x1 < (ByteArray.size x0 : Int)) then bif decide ((List.length x2 + List.length ([((ByteArray.get! x0 (toNat x1)).toNat : Int)] : List Int)) * 1 ≤ 140737488355328) then bif decide (0 ≤ x1) && decide (x1 < (ByteArray.size x0 : Int)) then bif ((ByteArray.get! x0 (toNat x1)).toNat : Int) == 0 then bif decide ((List.length (x2 ++ ([((ByteArray.get! x0 (toNat x1)).toNat : Int)] : List Int)) + List.length ([(255 : Int)] : List Int)) * 1 ≤ 140737488355328) then L0 (x0, wrap i64 (x1 + 1), (x2 ++ ([((ByteArray.get! x0 (toNat x1)).toNat : Int)] : List Int)) ++ ([(255 : Int)] : List Int)) else none else L0 (x0, wrap i64 (x1 + 1), x2 ++ ([((ByteArray.get! x0 (toNat x1)).toNat : Int)] : List Int)) else none else none else none else bif decide ((List.length x2 + List.length ([(0 : Int), (1 : Int)] : List Int)) * 1 ≤ 140737488355328) then some (x2 ++ ([(0 : Int), (1 : Int)] : List Int)) else none
noncomputable def ll0 : Y39 → LS
 | (x0, x1, x2) => ⟨[.cv ⟨.str, x0⟩, .ref 20 0 [] none 0, .cv ⟨.int .i64, x1⟩], [⟨true, [⟨0, 0, .mk 9 ⟨.row K1, x2⟩⟩]⟩]⟩
noncomputable def m (B0 : Y39 → Option ((List Int))) : ((List Int) × ByteArray) → Option ((List Int))
 | (a0_0, a1_0) => bif decide ((List.length ([] : List Int) + List.length a0_0) * 1 ≤ 140737488355328) then B0 (a1_0, (0 : Int), ([] : List Int) ++ a0_0) else none
noncomputable def sig : Sig := ⟨[.val false [⟨.row K1, 0, 0, false⟩], .val false [⟨.str, 0, 0, false⟩]], [(.one, [(.row K1, 1)])]⟩
noncomputable def hint : Nat → Hint
 | 0 => ⟨[(1, .keep), (5, .own 9 K1), (6, .keep)], []⟩
 | _ => ⟨[], []⟩
noncomputable def join (_ : Nat) : Option Hint := none
noncomputable def body : Code := (Tryz.f160).body.getD .skip
noncomputable def rv : List ResultVar := (Tryz.f160).results.toList
noncomputable def fn : Fn := ⟨32, sig, rv, body, hint, join⟩
end spec_PutEsc
namespace spec_l5Value
noncomputable def m (c91 c159 : ((List Int) × Int) → Option ((List Int))) (c160 : ((List Int) × ByteArray) → Option ((List Int))) : Y6 → Option ((List Int))
 | (a0_0, a1_0, a1_1, a1_2) => bif a1_0 == 1 then Option.bind (c159 (a0_0, a1_1)) fun r1 => some r1 else bif a1_0 == 2 then Option.bind (c91 (a0_0, a1_1)) fun r2 => some r2 else bif a1_0 == 3 then Option.bind (c160 (a0_0, a1_2)) fun r3 => some r3 else bif decide ((List.length ([] : List Int) + List.length a0_0) * 1 ≤ 140737488355328) then bif decide ((List.length (([] : List Int) ++ a0_0) + List.length ([wrap .u8 a1_1] : List Int)) * 1 ≤ 140737488355328) then some ((([] : List Int) ++ a0_0) ++ ([wrap .u8 a1_1] : List Int)) else none else none
noncomputable def sig : Sig := ⟨[.val false [⟨.row K1, 0, 0, false⟩], .val true [⟨.int .i64, 0, 0, false⟩, ⟨.int .i64, 0, 0, false⟩, ⟨.str, 0, 0, false⟩]], [(.one, [(.row K1, 1)])]⟩
noncomputable def hint (_ : Nat) : Hint := ⟨[], []⟩
noncomputable def join (_ : Nat) : Option Hint := none
noncomputable def body : Code := (Tryz.f153).body.getD .skip
noncomputable def rv : List ResultVar := (Tryz.f153).results.toList
noncomputable def fn : Fn := ⟨33, sig, rv, body, hint, join⟩
end spec_l5Value
namespace spec_PutPart
noncomputable def m (c118 : (Int × Int × Bool × Bool) → Option Bool) (c119 : Y30 → Option Bool) (c132 : ((List Int) × Int) → Option ((List Int))) (c153 : Y6 → Option ((List Int))) : Y40 → Option ((List Int))
 | (a0_0, a1_0, a1_1, a1_2, a1_3, a2_0, a2_1, a2_2) => bif decide ((List.length ([] : List Int) + List.length a0_0) * 1 ≤ 140737488355328) then Option.bind (c118 (a1_0, a1_1, a1_2, a1_3)) fun r1 => bif !(r1) then some (([] : List Int) ++ a0_0) else Option.bind (c119 (a1_0, a1_1, a1_2, a1_3, a2_0, a2_1, a2_2)) fun r2 => bif !(r2) then some (([] : List Int) ++ a0_0) else bif a2_0 == 0 then bif decide ((List.length (([] : List Int) ++ a0_0) + List.length ([(0 : Int)] : List Int)) * 1 ≤ 140737488355328) then bif a1_3 then Option.bind (c132 ((([] : List Int) ++ a0_0) ++ ([(0 : Int)] : List Int), (List.length a0_0 : Int))) fun r3 => some r3 else some ((([] : List Int) ++ a0_0) ++ ([(0 : Int)] : List Int)) else none else bif a1_2 then bif decide ((List.length (([] : List Int) ++ a0_0) + List.length ([(1 : Int)] : List Int)) * 1 ≤ 140737488355328) then Option.bind (c153 ((([] : List Int) ++ a0_0) ++ ([(1 : Int)] : List Int), a2_0, a2_1, a2_2)) fun r4 => bif a1_3 then Option.bind (c132 (r4, (List.length a0_0 : Int))) fun r5 => some r5 else some r4 else none else Option.bind (c153 (([] : List Int) ++ a0_0, a2_0, a2_1, a2_2)) fun r6 => bif a1_3 then Option.bind (c132 (r6, (List.length a0_0 : Int))) fun r7 => some r7 else some r6 else none
noncomputable def sig : Sig := ⟨[.val false [⟨.row K1, 0, 0, false⟩], .val true [⟨.int .i64, 0, 0, false⟩, ⟨.int .i64, 0, 0, false⟩, ⟨.bool, 0, 0, false⟩, ⟨.bool, 0, 0, false⟩], .val true [⟨.int .i64, 0, 0, false⟩, ⟨.int .i64, 0, 0, false⟩, ⟨.str, 0, 0, false⟩]], [(.one, [(.row K1, 1)])]⟩
noncomputable def hint (_ : Nat) : Hint := ⟨[], []⟩
noncomputable def join (_ : Nat) : Option Hint := none
noncomputable def body : Code := (Tryz.f126).body.getD .skip
noncomputable def rv : List ResultVar := (Tryz.f126).results.toList
noncomputable def fn : Fn := ⟨42, sig, rv, body, hint, join⟩
end spec_PutPart
namespace spec_EncodeKey
noncomputable def s0 (c126 : Y40 → Option ((List Int))) (L0 : Y57 → Option ((List Int))) : Y57 → Option ((List Int))
 | (x0, x1, x2, x3) => bif decide (x2 < (List.length x1 : Int)) then bif decide (0 ≤ x2) && decide (x2 < (List.length x0 : Int)) then bif decide (0 ≤ x2) && decide (x2 < (List.length x1 : Int)) then Option.bind (c126 (x3, (getD x0 (toNat x2) Z3).1, (getD x0 (toNat x2) Z3).2.1, (getD x0 (toNat x2) Z3).2.2.1, (getD x0 (toNat x2) Z3).2.2.2, (getD x1 (toNat x2) Z2).1, (getD x1 (toNat x2) Z2).2.1, (getD x1 (toNat x2) Z2).2.2)) fun r3 => L0 (x0, x1, wrap i64 (x2 + 1), r3) else none else none else some x3
noncomputable def ll0 : Y57 → LS
 | (x0, x1, x2, x3) => ⟨[.cv ⟨.row K8, x0⟩, .cv ⟨.row K7, x1⟩, .ref 20 0 [] none 0, .cv ⟨.int .i64, x2⟩], [⟨true, [⟨0, 0, .mk 1 ⟨.row K1, x3⟩⟩]⟩]⟩
noncomputable def m (c79 : Y28 → Option Bool) (c80 : Y31 → Option Bool) (B0 : Y57 → Option ((List Int))) : Y31 → Option ((List Int))
 | (a0_0, a1_0) => Option.bind (c79 a0_0) fun r1 => bif !(r1) then some ([] : List Int) else Option.bind (c80 (a0_0, a1_0)) fun r2 => bif !(r2) then some ([] : List Int) else B0 (a0_0, a1_0, (0 : Int), ([] : List Int))
noncomputable def sig : Sig := ⟨[.val false [⟨.row K8, 0, 0, false⟩], .val false [⟨.row K7, 0, 0, false⟩]], [(.one, [(.row K1, 1)])]⟩
noncomputable def hint : Nat → Hint
 | 0 => ⟨[(0, .keep), (1, .keep), (5, .own 1 K1), (6, .keep)], []⟩
 | _ => ⟨[], []⟩
noncomputable def join (_ : Nat) : Option Hint := none
noncomputable def body : Code := (Tryz.f84).body.getD .skip
noncomputable def rv : List ResultVar := (Tryz.f84).results.toList
noncomputable def fn : Fn := ⟨35, sig, rv, body, hint, join⟩
end spec_EncodeKey
namespace spec_Pick
noncomputable def s0 (c78 : (Int × Int × Int) → Option Bool) (L0 : Y58 → Option Y34) : Y58 → Option Y34
 | (x0, x1, x2, x3) => bif decide (x2 < (List.length x0 : Int)) then bif decide (0 ≤ x2) && decide (x2 < (List.length x0 : Int)) then Option.bind (c78 ((getD x0 (toNat x2) Z3).1, (0 : Int), wrap i64 ((List.length x1 : Int) - 1))) fun r1 => bif r1 then bif decide (0 ≤ x2) && decide (x2 < (List.length x0 : Int)) then bif decide (0 ≤ ((getD x0 (toNat x2) Z3).1)) && decide (((getD x0 (toNat x2) Z3).1) < (List.length x1 : Int)) then bif decide ((List.length x3 + List.length ([((getD x1 (toNat ((getD x0 (toNat x2) Z3).1)) Z2).1, (getD x1 (toNat ((getD x0 (toNat x2) Z3).1)) Z2).2.1, (getD x1 (toNat ((getD x0 (toNat x2) Z3).1)) Z2).2.2)] : List (Int × Int × ByteArray))) * 32 ≤ 140737488355328) then L0 (x0, x1, wrap i64 (x2 + 1), x3 ++ ([((getD x1 (toNat ((getD x0 (toNat x2) Z3).1)) Z2).1, (getD x1 (toNat ((getD x0 (toNat x2) Z3).1)) Z2).2.1, (getD x1 (toNat ((getD x0 (toNat x2) Z3).1)) Z2).2.2)] : List (Int × Int × ByteArray))) else none else none else none else bif decide ((List.length x3 + List.length ([Z2] : List (Int × Int × ByteArray))) * 32 ≤ 140737488355328) then L0 (x0, x1, wrap i64 (x2 + 1), x3 ++ ([Z2] : List (Int × Int × ByteArray))) else none else none else some x3
noncomputable def ll0 : Y58 → LS
 | (x0, x1, x2, x3) => ⟨[.cv ⟨.row K8, x0⟩, .cv ⟨.row K7, x1⟩, .ref 20 0 [] none 0, .cv ⟨.int .i64, x2⟩], [⟨true, [⟨0, 0, .mk 9 ⟨.row K7, x3⟩⟩]⟩]⟩
noncomputable def m (B0 : Y58 → Option Y34) : Y31 → Option Y34
 | (a0_0, a1_0) => B0 (a0_0, a1_0, (0 : Int), ([] : List (Int × Int × ByteArray)))
noncomputable def sig : Sig := ⟨[.val false [⟨.row K8, 0, 0, false⟩], .val false [⟨.row K7, 0, 0, false⟩]], [(.one, [(.row K7, 1)])]⟩
noncomputable def hint : Nat → Hint
 | 0 => ⟨[(0, .keep), (1, .keep), (5, .own 9 K7), (6, .keep)], []⟩
 | _ => ⟨[], []⟩
noncomputable def join (_ : Nat) : Option Hint := none
noncomputable def body : Code := (Tryz.f85).body.getD .skip
noncomputable def rv : List ResultVar := (Tryz.f85).results.toList
noncomputable def fn : Fn := ⟨38, sig, rv, body, hint, join⟩
end spec_Pick
namespace spec_l11Key
noncomputable def m (c15 : Y9 → Option ((List Int))) (c83 : Y37 → Option Y28) (c84 : Y31 → Option ((List Int))) (c85 : Y31 → Option Y34) : Y42 → Option ((List Int))
 | (a0_0, a1_0, a2_0, a3_0) => bif decide (0 ≤ a1_0) && decide (a1_0 < (List.length a0_0 : Int)) then Option.bind (c83 ((getD a0_0 (toNat a1_0) Z0).1, (getD a0_0 (toNat a1_0) Z0).2.1, (getD a0_0 (toNat a1_0) Z0).2.2.1, (getD a0_0 (toNat a1_0) Z0).2.2.2, a2_0)) fun r1 => Option.bind (c15 (a0_0, a1_0, a2_0)) fun r2 => Option.bind (c85 (r1, a3_0)) fun r3 => Option.bind (c84 (r1, r3)) fun r4 => bif decide ((List.length r2 + List.length r4) * 1 ≤ 140737488355328) then some (r2 ++ r4) else none else none
noncomputable def sig : Sig := ⟨[.val false [⟨.row K6, 0, 0, false⟩], .val false [⟨.int .i64, 0, 0, false⟩], .val false [⟨.int .i64, 0, 0, false⟩], .val false [⟨.row K7, 0, 0, false⟩]], [(.one, [(.row K1, 1)])]⟩
noncomputable def hint (_ : Nat) : Hint := ⟨[], []⟩
noncomputable def join (_ : Nat) : Option Hint := none
noncomputable def body : Code := (Tryz.f48).body.getD .skip
noncomputable def rv : List ResultVar := (Tryz.f48).results.toList
noncomputable def fn : Fn := ⟨26, sig, rv, body, hint, join⟩
end spec_l11Key
namespace impl_addU
noncomputable def s0 (L0 : (Int × (List Int)) → Option ((List Int))) : (Int × (List Int)) → Option ((List Int))
 | (x0, x1) => bif decide (x0 > 127) then bif decide (¬ (128 : Int) = 0) then bif decide ((List.length x1 + List.length ([wrap .u8 (wrap i64 ((Int.tmod x0 (128 : Int)) + 128))] : List Int)) * 1 ≤ 140737488355328) then bif decide (¬ (128 : Int) = 0) then L0 (wrap i64 (Int.tdiv x0 (128 : Int)), x1 ++ ([wrap .u8 (wrap i64 ((Int.tmod x0 (128 : Int)) + 128))] : List Int)) else none else none else none else bif decide ((List.length x1 + List.length ([wrap .u8 x0] : List Int)) * 1 ≤ 140737488355328) then some (x1 ++ ([wrap .u8 x0] : List Int)) else none
noncomputable def ll0 : (Int × (List Int)) → LS
 | (x0, x1) => ⟨[.ref 0 0 [] none 0, .cv ⟨.int .i64, x0⟩], [⟨true, [⟨0, 0, .mk 1 ⟨.row K1, x1⟩⟩]⟩]⟩
noncomputable def m (c127 : (Int × Int × Int) → Option Int) (B0 : (Int × (List Int)) → Option ((List Int))) : ((List Int) × Int) → Option ((List Int))
 | (a0_0, a1_0) => Option.bind (c127 (a1_0, (0 : Int), (1000000 : Int))) fun r1 => B0 (r1, a0_0)
noncomputable def sig : Sig := ⟨[.val false [⟨.row K1, 1, 1, false⟩], .val false [⟨.int .i64, 0, 0, false⟩]], [(.one, [(.row K1, 1)])]⟩
noncomputable def hint : Nat → Hint
 | 0 => ⟨[(0, .own 1 K1), (1, .keep)], []⟩
 | _ => ⟨[], []⟩
noncomputable def join (_ : Nat) : Option Hint := none
noncomputable def body : Code := (Tryz.f86).body.getD .skip
noncomputable def rv : List ResultVar := (Tryz.f86).results.toList
noncomputable def fn : Fn := ⟨23, sig, rv, body, hint, join⟩
end impl_addU
namespace impl_addText
noncomputable def m (c86 : ((List Int) × Int) → Option ((List Int))) : ((List Int) × ByteArray) → Option ((List Int))
 | (a0_0, a1_0) => Option.bind (c86 (a0_0, (ByteArray.size a1_0 : Int))) fun r1 => bif decide ((List.length r1 + List.length (strNums a1_0)) * 1 ≤ 140737488355328) then some (r1 ++ (strNums a1_0)) else none
noncomputable def sig : Sig := ⟨[.val false [⟨.row K1, 1, 1, false⟩], .val false [⟨.str, 0, 0, false⟩]], [(.one, [(.row K1, 1)])]⟩
noncomputable def hint (_ : Nat) : Hint := ⟨[], []⟩
noncomputable def join (_ : Nat) : Option Hint := none
noncomputable def body : Code := (Tryz.f88).body.getD .skip
noncomputable def rv : List ResultVar := (Tryz.f88).results.toList
noncomputable def fn : Fn := ⟨11, sig, rv, body, hint, join⟩
end impl_addText
namespace impl_Crc
noncomputable def s0 (B2 : Y59 → Option Int) (L0 : Y60 → Option Int) : Y60 → Option Int
 | (x0, x1, x2, x3) => bif decide (x3 < x2) then bif decide (0 ≤ x3) && decide (x3 < (List.length x1 : Int)) then B2 (wrap .u32 ((BitVec.ofInt (IntKind.bits IntKind.u32) x0 ^^^ BitVec.ofInt (IntKind.bits IntKind.u32) (wrap .u32 (getD x1 (toNat x3) (0 : Int)))).toNat : Int), x1, x2, x3, (0 : Int)) else none else some (wrap i64 (wrap .u32 ((BitVec.ofInt (IntKind.bits IntKind.u32) (if IntKind.signed IntKind.u32 then -1 else IntKind.max IntKind.u32) ^^^ BitVec.ofInt (IntKind.bits IntKind.u32) x0).toNat : Int)))
noncomputable def ll0 : Y60 → LS
 | (x0, x1, x2, x3) => ⟨[.cv ⟨.int .u32, x0⟩, .cv ⟨.row K1, x1⟩, .cv ⟨.int .i64, x2⟩, .cv ⟨.int .i64, x3⟩], []⟩
noncomputable def s2 (L0 : Y60 → Option Int) (L2 : Y59 → Option Int) : Y59 → Option Int
 | (x0, x1, x2, x3, x4) => bif decide (x4 < 8) then bif decide (¬ (1 : Int) < 0) then bif (wrap .u32 ((BitVec.ofInt (IntKind.bits IntKind.u32) x0 &&& BitVec.ofInt (IntKind.bits IntKind.u32) (1 : Int)).toNat : Int)) == 1 then L2 (wrap .u32 ((BitVec.ofInt (IntKind.bits IntKind.u32) (Int.fdiv x0 (2 ^ (min (toNat (1 : Int)) (IntKind.bits IntKind.u32)))) ^^^ BitVec.ofInt (IntKind.bits IntKind.u32) (2197175160 : Int)).toNat : Int), x1, x2, x3, wrap i64 (x4 + 1)) else L2 (Int.fdiv x0 (2 ^ (min (toNat (1 : Int)) (IntKind.bits IntKind.u32))), x1, x2, x3, wrap i64 (x4 + 1)) else none else L0 (x0, x1, x2, wrap i64 (x3 + 1))
noncomputable def ll2 : Y59 → LS
 | (x0, x1, x2, x3, x4) => ⟨[.cv ⟨.int .u32, x0⟩, .cv ⟨.row K1, x1⟩, .cv ⟨.int .i64, x2⟩, .cv ⟨.int .i64, x3⟩, .cv ⟨.int .i64, x4⟩], []⟩
noncomputable def m (B0 : Y60 → Option Int) : ((List Int)) → Option Int
 | a0_0 => B0 ((4294967295 : Int), a0_0, (List.length a0_0 : Int), (0 : Int))
noncomputable def sig : Sig := ⟨[.val false [⟨.row K1, 0, 0, false⟩]], [(.one, [(.int .i64, 0)])]⟩
noncomputable def hint : Nat → Hint
 | 0 => ⟨[(3, .keep), (7, .keep), (8, .keep), (9, .keep)], []⟩
 | 2 => ⟨[(3, .keep), (7, .keep), (8, .keep), (9, .keep), (17, .keep)], []⟩
 | _ => ⟨[], []⟩
noncomputable def join (_ : Nat) : Option Hint := none
noncomputable def body : Code := (Tryz.f130).body.getD .skip
noncomputable def rv : List ResultVar := (Tryz.f130).results.toList
noncomputable def fn : Fn := ⟨32, sig, rv, body, hint, join⟩
end impl_Crc
namespace impl_addSum
noncomputable def m (c130 : ((List Int)) → Option Int) : ((List Int)) → Option ((List Int))
 | a0_0 => Option.bind (c130 a0_0) fun r1 => bif decide (¬ (24 : Int) < 0) then bif decide (¬ (16 : Int) < 0) then bif decide (¬ (8 : Int) < 0) then bif decide ((List.length a0_0 + List.length ([wrap .u8 (Int.fdiv r1 (2 ^ (min (toNat (24 : Int)) (IntKind.bits IntKind.i64)))), wrap .u8 (Int.fdiv r1 (2 ^ (min (toNat (16 : Int)) (IntKind.bits IntKind.i64)))), wrap .u8 (Int.fdiv r1 (2 ^ (min (toNat (8 : Int)) (IntKind.bits IntKind.i64)))), wrap .u8 r1] : List Int)) * 1 ≤ 140737488355328) then some (a0_0 ++ ([wrap .u8 (Int.fdiv r1 (2 ^ (min (toNat (24 : Int)) (IntKind.bits IntKind.i64)))), wrap .u8 (Int.fdiv r1 (2 ^ (min (toNat (16 : Int)) (IntKind.bits IntKind.i64)))), wrap .u8 (Int.fdiv r1 (2 ^ (min (toNat (8 : Int)) (IntKind.bits IntKind.i64)))), wrap .u8 r1] : List Int)) else none else none else none else none
noncomputable def sig : Sig := ⟨[.val false [⟨.row K1, 1, 1, false⟩]], [(.one, [(.row K1, 1)])]⟩
noncomputable def hint (_ : Nat) : Hint := ⟨[], []⟩
noncomputable def join (_ : Nat) : Option Hint := none
noncomputable def body : Code := (Tryz.f89).body.getD .skip
noncomputable def rv : List ResultVar := (Tryz.f89).results.toList
noncomputable def fn : Fn := ⟨20, sig, rv, body, hint, join⟩
end impl_addSum
namespace impl_EncodeRow
noncomputable def s0 (c86 c87 : ((List Int) × Int) → Option ((List Int))) (c88 : ((List Int) × ByteArray) → Option ((List Int))) (c89 : ((List Int)) → Option ((List Int))) (L0 : Y61 → Option ((List Int))) : Y61 → Option ((List Int))
 | (x0, x1, x2, x3) => bif decide (x2 < x1) then bif decide (0 ≤ x2) && decide (x2 < (List.length x0 : Int)) then Option.bind (c86 (x3, (getD x0 (toNat x2) Z2).1)) fun r3 => bif ((getD x0 (toNat x2) Z2).1) == 1 then bif ((getD x0 (toNat x2) Z2).1) == 1 then Option.bind (c87 (r3, (getD x0 (toNat x2) Z2).2.1)) fun r4 => L0 (x0, x1, wrap i64 (x2 + 1), r4) else bif ((getD x0 (toNat x2) Z2).1) == 3 then Option.bind (c88 (r3, (getD x0 (toNat x2) Z2).2.2)) fun r5 => L0 (x0, x1, wrap i64 (x2 + 1), r5) else bif ((getD x0 (toNat x2) Z2).1) == 4 then bif decide ((List.length r3 + List.length ([wrap .u8 ((getD x0 (toNat x2) Z2).2.1)] : List Int)) * 1 ≤ 140737488355328) then L0 (x0, x1, wrap i64 (x2 + 1), r3 ++ ([wrap .u8 ((getD x0 (toNat x2) Z2).2.1)] : List Int)) else none else L0 (x0, x1, wrap i64 (x2 + 1), r3) else bif ((getD x0 (toNat x2) Z2).1) == 2 then Option.bind (c87 (r3, (getD x0 (toNat x2) Z2).2.1)) fun r6 => L0 (x0, x1, wrap i64 (x2 + 1), r6) else bif ((getD x0 (toNat x2) Z2).1) == 3 then Option.bind (c88 (r3, (getD x0 (toNat x2) Z2).2.2)) fun r7 => L0 (x0, x1, wrap i64 (x2 + 1), r7) else bif ((getD x0 (toNat x2) Z2).1) == 4 then bif decide ((List.length r3 + List.length ([wrap .u8 ((getD x0 (toNat x2) Z2).2.1)] : List Int)) * 1 ≤ 140737488355328) then L0 (x0, x1, wrap i64 (x2 + 1), r3 ++ ([wrap .u8 ((getD x0 (toNat x2) Z2).2.1)] : List Int)) else none else L0 (x0, x1, wrap i64 (x2 + 1), r3) else none else Option.bind (c89 x3) fun r8 => some r8
noncomputable def ll0 : Y61 → LS
 | (x0, x1, x2, x3) => ⟨[.ref 20 0 [] none 0, .cv ⟨.row K7, x0⟩, .cv ⟨.int .i64, x1⟩, .cv ⟨.int .i64, x2⟩], [⟨true, [⟨0, 0, .mk 1 ⟨.row K1, x3⟩⟩]⟩]⟩
noncomputable def m (c42 : Y31 → Option Bool) (c86 : ((List Int) × Int) → Option ((List Int))) (B0 : Y61 → Option ((List Int))) : Y31 → Option ((List Int))
 | (a0_0, a1_0) => Option.bind (c42 (a0_0, a1_0)) fun r1 => bif !(r1) then some ([] : List Int) else Option.bind (c86 (([] : List Int), (List.length a1_0 : Int))) fun r2 => B0 (a1_0, (List.length a1_0 : Int), (0 : Int), r2)
noncomputable def sig : Sig := ⟨[.val false [⟨.row K8, 0, 0, false⟩], .val false [⟨.row K7, 0, 0, false⟩]], [(.one, [(.row K1, 1)])]⟩
noncomputable def hint : Nat → Hint
 | 0 => ⟨[(5, .own 1 K1), (15, .keep), (16, .keep), (17, .keep)], []⟩
 | _ => ⟨[], []⟩
noncomputable def join (_ : Nat) : Option Hint := none
noncomputable def body : Code := (Tryz.f49).body.getD .skip
noncomputable def rv : List ResultVar := (Tryz.f49).results.toList
noncomputable def fn : Fn := ⟨51, sig, rv, body, hint, join⟩
end impl_EncodeRow
namespace impl_LongKey
noncomputable def s0 (c12 : Y42 → Option ((List Int))) (c43 : Y1 → Option Y28) (c49 : Y31 → Option ((List Int))) (L0 : Y63 → Option Bool) : Y63 → Option Bool
 | (x0, x1, x2, x3) => bif decide (0 ≤ x1) && decide (x1 < (List.length x0 : Int)) then bif decide (x3 < (List.length ((getD x0 (toNat x1) Z0).2.2.2) : Int)) then Option.bind (c12 (x0, x1, x3, x2)) fun r2 => bif decide ((List.length r2 : Int) > 48) then some true else L0 (x0, x1, x2, wrap i64 (x3 + 1)) else bif decide (0 ≤ x1) && decide (x1 < (List.length x0 : Int)) then Option.bind (c43 ((getD x0 (toNat x1) Z0).1, (getD x0 (toNat x1) Z0).2.1, (getD x0 (toNat x1) Z0).2.2.1, (getD x0 (toNat x1) Z0).2.2.2)) fun r3 => Option.bind (c49 (r3, x2)) fun r4 => some (decide ((List.length r4 : Int) > 60)) else none else none
noncomputable def ll0 : Y63 → LS
 | (x0, x1, x2, x3) => ⟨[.cv ⟨.row K6, x0⟩, .cv ⟨.int .i64, x1⟩, .cv ⟨.row K7, x2⟩, .cv ⟨.int .i64, x3⟩], []⟩
noncomputable def m (c41 : Y9 → Option Bool) (B0 : Y63 → Option Bool) : Y62 → Option Bool
 | (a0_0, a1_0, a2_0) => Option.bind (c41 (a0_0, a1_0, (-1 : Int))) fun r1 => bif !(r1) then some false else B0 (a0_0, a1_0, a2_0, (-1 : Int))
noncomputable def sig : Sig := ⟨[.val false [⟨.row K6, 0, 0, false⟩], .val false [⟨.int .i64, 0, 0, false⟩], .val false [⟨.row K7, 0, 0, false⟩]], [(.one, [(.bool, 0)])]⟩
noncomputable def hint : Nat → Hint
 | 0 => ⟨[(0, .keep), (1, .keep), (2, .keep), (7, .keep)], []⟩
 | _ => ⟨[], []⟩
noncomputable def join (_ : Nat) : Option Hint := none
noncomputable def body : Code := (Tryz.f16).body.getD .skip
noncomputable def rv : List ResultVar := (Tryz.f16).results.toList
noncomputable def fn : Fn := ⟨38, sig, rv, body, hint, join⟩
end impl_LongKey
namespace spec_PutU
noncomputable def s0 (L0 : (Int × (List Int)) → Option ((List Int))) : (Int × (List Int)) → Option ((List Int))
 | (x0, x1) => bif decide (x0 > 127) then bif decide ((List.length x1 + List.length ([wrap .u8 (wrap i64 ((BitVec.ofInt (IntKind.bits IntKind.i64) (wrap i64 ((BitVec.ofInt (IntKind.bits IntKind.i64) x0 &&& BitVec.ofInt (IntKind.bits IntKind.i64) (127 : Int)).toNat : Int)) ||| BitVec.ofInt (IntKind.bits IntKind.i64) (128 : Int)).toNat : Int))] : List Int)) * 1 ≤ 140737488355328) then bif decide (¬ (7 : Int) < 0) then L0 (Int.fdiv x0 (2 ^ (min (toNat (7 : Int)) (IntKind.bits IntKind.i64))), x1 ++ ([wrap .u8 (wrap i64 ((BitVec.ofInt (IntKind.bits IntKind.i64) (wrap i64 ((BitVec.ofInt (IntKind.bits IntKind.i64) x0 &&& BitVec.ofInt (IntKind.bits IntKind.i64) (127 : Int)).toNat : Int)) ||| BitVec.ofInt (IntKind.bits IntKind.i64) (128 : Int)).toNat : Int))] : List Int)) else none else none else bif decide ((List.length x1 + List.length ([wrap .u8 x0] : List Int)) * 1 ≤ 140737488355328) then some (x1 ++ ([wrap .u8 x0] : List Int)) else none
noncomputable def ll0 : (Int × (List Int)) → LS
 | (x0, x1) => ⟨[.cv ⟨.int .i64, x0⟩, .ref 20 0 [] none 0], [⟨true, [⟨0, 0, .mk 9 ⟨.row K1, x1⟩⟩]⟩]⟩
noncomputable def m (B0 : (Int × (List Int)) → Option ((List Int))) : ((List Int) × Int) → Option ((List Int))
 | (a0_0, a1_0) => bif decide ((List.length ([] : List Int) + List.length a0_0) * 1 ≤ 140737488355328) then bif decide (a1_0 > 1000000) then bif decide ((1000000 : Int) < 0) then B0 ((0 : Int), ([] : List Int) ++ a0_0) else B0 ((1000000 : Int), ([] : List Int) ++ a0_0) else bif decide (a1_0 < 0) then B0 ((0 : Int), ([] : List Int) ++ a0_0) else B0 (a1_0, ([] : List Int) ++ a0_0) else none
noncomputable def sig : Sig := ⟨[.val false [⟨.row K1, 0, 0, false⟩], .val false [⟨.int .i64, 0, 0, false⟩]], [(.one, [(.row K1, 1)])]⟩
noncomputable def hint : Nat → Hint
 | 0 => ⟨[(1, .keep), (5, .own 9 K1)], []⟩
 | _ => ⟨[], []⟩
noncomputable def join (_ : Nat) : Option Hint := none
noncomputable def body : Code := (Tryz.f90).body.getD .skip
noncomputable def rv : List ResultVar := (Tryz.f90).results.toList
noncomputable def fn : Fn := ⟨29, sig, rv, body, hint, join⟩
end spec_PutU
namespace spec_PutText
noncomputable def m (c90 : ((List Int) × Int) → Option ((List Int))) : ((List Int) × ByteArray) → Option ((List Int))
 | (a0_0, a1_0) => Option.bind (c90 (a0_0, (ByteArray.size a1_0 : Int))) fun r1 => bif decide ((List.length r1 + List.length (strNums a1_0)) * 1 ≤ 140737488355328) then some (r1 ++ (strNums a1_0)) else none
noncomputable def sig : Sig := ⟨[.val false [⟨.row K1, 0, 0, false⟩], .val false [⟨.str, 0, 0, false⟩]], [(.one, [(.row K1, 1)])]⟩
noncomputable def hint (_ : Nat) : Hint := ⟨[], []⟩
noncomputable def join (_ : Nat) : Option Hint := none
noncomputable def body : Code := (Tryz.f92).body.getD .skip
noncomputable def rv : List ResultVar := (Tryz.f92).results.toList
noncomputable def fn : Fn := ⟨11, sig, rv, body, hint, join⟩
end spec_PutText
namespace spec_Crc
noncomputable def s0 (B2 : Y2 → Option Int) (L0 : ((List Int) × Int × Int) → Option Int) : ((List Int) × Int × Int) → Option Int
 | (x0, x1, x2) => bif decide (x2 < (List.length x0 : Int)) then bif decide (0 ≤ x2) && decide (x2 < (List.length x0 : Int)) then B2 (x0, wrap i64 ((BitVec.ofInt (IntKind.bits IntKind.i64) x1 ^^^ BitVec.ofInt (IntKind.bits IntKind.i64) (wrap i64 (getD x0 (toNat x2) (0 : Int)))).toNat : Int), x2, (0 : Int)) else none else some (wrap i64 ((BitVec.ofInt (IntKind.bits IntKind.i64) x1 ^^^ BitVec.ofInt (IntKind.bits IntKind.i64) (4294967295 : Int)).toNat : Int))
noncomputable def ll0 : ((List Int) × Int × Int) → LS
 | (x0, x1, x2) => ⟨[.cv ⟨.row K1, x0⟩, .cv ⟨.int .i64, x1⟩, .cv ⟨.int .i64, x2⟩], []⟩
noncomputable def s2 (L0 : ((List Int) × Int × Int) → Option Int) (L2 : Y2 → Option Int) : Y2 → Option Int
 | (x0, x1, x2, x3) => bif decide (x3 < 8) then bif decide (¬ (1 : Int) < 0) then bif (wrap i64 ((BitVec.ofInt (IntKind.bits IntKind.i64) x1 &&& BitVec.ofInt (IntKind.bits IntKind.i64) (1 : Int)).toNat : Int)) == 1 then L2 (x0, wrap i64 ((BitVec.ofInt (IntKind.bits IntKind.i64) (Int.fdiv x1 (2 ^ (min (toNat (1 : Int)) (IntKind.bits IntKind.i64)))) ^^^ BitVec.ofInt (IntKind.bits IntKind.i64) (2197175160 : Int)).toNat : Int), x2, wrap i64 (x3 + 1)) else L2 (x0, Int.fdiv x1 (2 ^ (min (toNat (1 : Int)) (IntKind.bits IntKind.i64))), x2, wrap i64 (x3 + 1)) else none else L0 (x0, x1, wrap i64 (x2 + 1))
noncomputable def ll2 : Y2 → LS
 | (x0, x1, x2, x3) => ⟨[.cv ⟨.row K1, x0⟩, .cv ⟨.int .i64, x1⟩, .cv ⟨.int .i64, x2⟩, .cv ⟨.int .i64, x3⟩], []⟩
noncomputable def m (B0 : ((List Int) × Int × Int) → Option Int) : ((List Int)) → Option Int
 | a0_0 => B0 (a0_0, (4294967295 : Int), (0 : Int))
noncomputable def sig : Sig := ⟨[.val false [⟨.row K1, 0, 0, false⟩]], [(.one, [(.int .i64, 0)])]⟩
noncomputable def hint : Nat → Hint
 | 0 => ⟨[(0, .keep), (3, .keep), (4, .keep)], []⟩
 | 2 => ⟨[(0, .keep), (3, .keep), (4, .keep), (5, .keep)], []⟩
 | _ => ⟨[], []⟩
noncomputable def join (_ : Nat) : Option Hint := none
noncomputable def body : Code := (Tryz.f133).body.getD .skip
noncomputable def rv : List ResultVar := (Tryz.f133).results.toList
noncomputable def fn : Fn := ⟨34, sig, rv, body, hint, join⟩
end spec_Crc
namespace spec_PutSum
noncomputable def m (c133 : ((List Int)) → Option Int) : ((List Int)) → Option ((List Int))
 | a0_0 => Option.bind (c133 a0_0) fun r1 => bif decide ((List.length ([] : List Int) + List.length a0_0) * 1 ≤ 140737488355328) then bif decide (¬ (24 : Int) < 0) then bif decide (¬ (16 : Int) < 0) then bif decide (¬ (8 : Int) < 0) then bif decide ((List.length (([] : List Int) ++ a0_0) + List.length ([wrap .u8 (Int.fdiv r1 (2 ^ (min (toNat (24 : Int)) (IntKind.bits IntKind.i64)))), wrap .u8 (Int.fdiv r1 (2 ^ (min (toNat (16 : Int)) (IntKind.bits IntKind.i64)))), wrap .u8 (Int.fdiv r1 (2 ^ (min (toNat (8 : Int)) (IntKind.bits IntKind.i64)))), wrap .u8 r1] : List Int)) * 1 ≤ 140737488355328) then some ((([] : List Int) ++ a0_0) ++ ([wrap .u8 (Int.fdiv r1 (2 ^ (min (toNat (24 : Int)) (IntKind.bits IntKind.i64)))), wrap .u8 (Int.fdiv r1 (2 ^ (min (toNat (16 : Int)) (IntKind.bits IntKind.i64)))), wrap .u8 (Int.fdiv r1 (2 ^ (min (toNat (8 : Int)) (IntKind.bits IntKind.i64)))), wrap .u8 r1] : List Int)) else none else none else none else none else none
noncomputable def sig : Sig := ⟨[.val false [⟨.row K1, 0, 0, false⟩]], [(.one, [(.row K1, 1)])]⟩
noncomputable def hint (_ : Nat) : Hint := ⟨[], []⟩
noncomputable def join (_ : Nat) : Option Hint := none
noncomputable def body : Code := (Tryz.f93).body.getD .skip
noncomputable def rv : List ResultVar := (Tryz.f93).results.toList
noncomputable def fn : Fn := ⟨22, sig, rv, body, hint, join⟩
end spec_PutSum
namespace spec_EncodeRow
noncomputable def s0 (c90 c91 : ((List Int) × Int) → Option ((List Int))) (c92 : ((List Int) × ByteArray) → Option ((List Int))) (c93 : ((List Int)) → Option ((List Int))) (L0 : Y64 → Option ((List Int))) : Y64 → Option ((List Int))
 | (x0, x1, x2) => bif decide (x1 < (List.length x0 : Int)) then bif decide (0 ≤ x1) && decide (x1 < (List.length x0 : Int)) then Option.bind (c90 (x2, (getD x0 (toNat x1) Z2).1)) fun r3 => bif ((getD x0 (toNat x1) Z2).1) == 1 then bif ((getD x0 (toNat x1) Z2).1) == 1 then Option.bind (c91 (r3, (getD x0 (toNat x1) Z2).2.1)) fun r4 => L0 (x0, wrap i64 (x1 + 1), r4) else bif ((getD x0 (toNat x1) Z2).1) == 3 then Option.bind (c92 (r3, (getD x0 (toNat x1) Z2).2.2)) fun r5 => L0 (x0, wrap i64 (x1 + 1), r5) else bif ((getD x0 (toNat x1) Z2).1) == 4 then bif decide ((List.length r3 + List.length ([wrap .u8 ((getD x0 (toNat x1) Z2).2.1)] : List Int)) * 1 ≤ 140737488355328) then L0 (x0, wrap i64 (x1 + 1), r3 ++ ([wrap .u8 ((getD x0 (toNat x1) Z2).2.1)] : List Int)) else none else L0 (x0, wrap i64 (x1 + 1), r3) else bif ((getD x0 (toNat x1) Z2).1) == 2 then Option.bind (c91 (r3, (getD x0 (toNat x1) Z2).2.1)) fun r6 => L0 (x0, wrap i64 (x1 + 1), r6) else bif ((getD x0 (toNat x1) Z2).1) == 3 then Option.bind (c92 (r3, (getD x0 (toNat x1) Z2).2.2)) fun r7 => L0 (x0, wrap i64 (x1 + 1), r7) else bif ((getD x0 (toNat x1) Z2).1) == 4 then bif decide ((List.length r3 + List.length ([wrap .u8 ((getD x0 (toNat x1) Z2).2.1)] : List Int)) * 1 ≤ 140737488355328) then L0 (x0, wrap i64 (x1 + 1), r3 ++ ([wrap .u8 ((getD x0 (toNat x1) Z2).2.1)] : List Int)) else none else L0 (x0, wrap i64 (x1 + 1), r3) else none else Option.bind (c93 x2) fun r8 => some r8
noncomputable def ll0 : Y64 → LS
 | (x0, x1, x2) => ⟨[.cv ⟨.row K7, x0⟩, .ref 20 0 [] none 0, .cv ⟨.int .i64, x1⟩], [⟨true, [⟨0, 0, .mk 1 ⟨.row K1, x2⟩⟩]⟩]⟩
noncomputable def m (c46 : Y31 → Option Bool) (c90 : ((List Int) × Int) → Option ((List Int))) (B0 : Y64 → Option ((List Int))) : Y31 → Option ((List Int))
 | (a0_0, a1_0) => Option.bind (c46 (a0_0, a1_0)) fun r1 => bif !(r1) then some ([] : List Int) else Option.bind (c90 (([] : List Int), (List.length a1_0 : Int))) fun r2 => B0 (a1_0, (0 : Int), r2)
noncomputable def sig : Sig := ⟨[.val false [⟨.row K8, 0, 0, false⟩], .val false [⟨.row K7, 0, 0, false⟩]], [(.one, [(.row K1, 1)])]⟩
noncomputable def hint : Nat → Hint
 | 0 => ⟨[(1, .keep), (5, .own 1 K1), (6, .keep)], []⟩
 | _ => ⟨[], []⟩
noncomputable def join (_ : Nat) : Option Hint := none
noncomputable def body : Code := (Tryz.f50).body.getD .skip
noncomputable def rv : List ResultVar := (Tryz.f50).results.toList
noncomputable def fn : Fn := ⟨56, sig, rv, body, hint, join⟩
end spec_EncodeRow
namespace spec_LongKey
noncomputable def s0 (c47 : Y1 → Option Y28) (c48 : Y42 → Option ((List Int))) (c50 : Y31 → Option ((List Int))) (L0 : Y63 → Option Bool) : Y63 → Option Bool
 | (x0, x1, x2, x3) => bif decide (0 ≤ x1) && decide (x1 < (List.length x0 : Int)) then bif decide (x3 < (List.length ((getD x0 (toNat x1) Z0).2.2.2) : Int)) then Option.bind (c48 (x0, x1, x3, x2)) fun r4 => bif decide ((List.length r4 : Int) > 48) then some true else L0 (x0, x1, x2, wrap i64 (x3 + 1)) else bif decide (0 ≤ x1) && decide (x1 < (List.length x0 : Int)) then Option.bind (c47 ((getD x0 (toNat x1) Z0).1, (getD x0 (toNat x1) Z0).2.1, (getD x0 (toNat x1) Z0).2.2.1, (getD x0 (toNat x1) Z0).2.2.2)) fun r5 => Option.bind (c50 (r5, x2)) fun r6 => some (decide ((List.length r6 : Int) > 60)) else none else none
noncomputable def ll0 : Y63 → LS
 | (x0, x1, x2, x3) => ⟨[.cv ⟨.row K6, x0⟩, .cv ⟨.int .i64, x1⟩, .cv ⟨.row K7, x2⟩, .cv ⟨.int .i64, x3⟩], []⟩
noncomputable def m (c45 : Y9 → Option Bool) (c46 : Y31 → Option Bool) (c47 : Y1 → Option Y28) (B0 : Y63 → Option Bool) : Y62 → Option Bool
 | (a0_0, a1_0, a2_0) => Option.bind (c45 (a0_0, a1_0, (-1 : Int))) fun r1 => bif !(r1) then some false else bif decide (0 ≤ a1_0) && decide (a1_0 < (List.length a0_0 : Int)) then Option.bind (c47 ((getD a0_0 (toNat a1_0) Z0).1, (getD a0_0 (toNat a1_0) Z0).2.1, (getD a0_0 (toNat a1_0) Z0).2.2.1, (getD a0_0 (toNat a1_0) Z0).2.2.2)) fun r2 => Option.bind (c46 (r2, a2_0)) fun r3 => bif !(r3) then some false else B0 (a0_0, a1_0, a2_0, (-1 : Int)) else none
noncomputable def sig : Sig := ⟨[.val false [⟨.row K6, 0, 0, false⟩], .val false [⟨.int .i64, 0, 0, false⟩], .val false [⟨.row K7, 0, 0, false⟩]], [(.one, [(.bool, 0)])]⟩
noncomputable def hint : Nat → Hint
 | 0 => ⟨[(0, .keep), (1, .keep), (2, .keep), (7, .keep)], []⟩
 | _ => ⟨[], []⟩
noncomputable def join (_ : Nat) : Option Hint := none
noncomputable def body : Code := (Tryz.f17).body.getD .skip
noncomputable def rv : List ResultVar := (Tryz.f17).results.toList
noncomputable def fn : Fn := ⟨48, sig, rv, body, hint, join⟩
end spec_LongKey
namespace spec_DrawRows
noncomputable def m (c37 : ((List Int)) → Option ((List Int) × Int × Int)) (c61 : ((List Int) × Int × Int) → Option Y9) (c62 : Y2 → Option (Int × Int × Int)) (c63 : Y12 → Option Y13) : ((List Int)) → Option Y65
 | a0_0 => Option.bind (c37 a0_0) fun r1 => Option.bind (c61 (r1.1, r1.2.1, r1.2.2)) fun r2 => Option.bind (c62 (r1.1, r2.2.1, r2.2.2, (List.length r2.1 : Int))) fun r3 => bif decide (0 ≤ r3.1) && decide (r3.1 < (List.length r2.1 : Int)) then Option.bind (c63 (r1.1, r3.2.1, r3.2.2, (getD r2.1 (toNat r3.1) Z0).1, (getD r2.1 (toNat r3.1) Z0).2.1, (getD r2.1 (toNat r3.1) Z0).2.2.1, (getD r2.1 (toNat r3.1) Z0).2.2.2)) fun r4 => bif decide (0 ≤ r3.1) && decide (r3.1 < (List.length r2.1 : Int)) then Option.bind (c63 (r1.1, r4.2.1, r4.2.2, (getD r2.1 (toNat r3.1) Z0).1, (getD r2.1 (toNat r3.1) Z0).2.1, (getD r2.1 (toNat r3.1) Z0).2.2.1, (getD r2.1 (toNat r3.1) Z0).2.2.2)) fun r5 => some (r2.1, r3.1, r4.1, r5.1) else none else none
noncomputable def sig : Sig := ⟨[.val false [⟨.row K1, 0, 0, false⟩]], [(.one, [(.row K6, 3)]), (.one, [(.int .i64, 0)]), (.one, [(.row K7, 1)]), (.one, [(.row K7, 1)])]⟩
noncomputable def hint (_ : Nat) : Hint := ⟨[], []⟩
noncomputable def join (_ : Nat) : Option Hint := none
noncomputable def body : Code := (Tryz.f29).body.getD .skip
noncomputable def rv : List ResultVar := (Tryz.f29).results.toList
noncomputable def fn : Fn := ⟨31, sig, rv, body, hint, join⟩
end spec_DrawRows
namespace impl_SameRow
noncomputable def s0 (L0 : Y67 → Option Bool) : Y67 → Option Bool
 | (x0, x1, x2, x3) => bif decide (x3 < x2) then bif decide (0 ≤ x3) && decide (x3 < (List.length x0 : Int)) then bif decide (0 ≤ x3) && decide (x3 < (List.length x1 : Int)) then bif !((((getD x0 (toNat x3) Z2).1) == ((getD x1 (toNat x3) Z2).1) && (((getD x0 (toNat x3) Z2).2.1) == ((getD x1 (toNat x3) Z2).2.1) && ByteArray.toList ((getD x0 (toNat x3) Z2).2.2) == ByteArray.toList ((getD x1 (toNat x3) Z2).2.2)))) then some false else L0 (x0, x1, x2, wrap i64 (x3 + 1)) else none else none else some true
noncomputable def ll0 : Y67 → LS
 | (x0, x1, x2, x3) => ⟨[.cv ⟨.row K7, x0⟩, .cv ⟨.row K7, x1⟩, .cv ⟨.int .i64, x2⟩, .cv ⟨.int .i64, x3⟩], []⟩
noncomputable def m (B0 : Y67 → Option Bool) : Y66 → Option Bool
 | (a0_0, a1_0) => bif (List.length a0_0 : Int) != (List.length a1_0 : Int) then some false else B0 (a0_0, a1_0, (List.length a0_0 : Int), (0 : Int))
noncomputable def sig : Sig := ⟨[.val false [⟨.row K7, 0, 0, false⟩], .val false [⟨.row K7, 0, 0, false⟩]], [(.one, [(.bool, 0)])]⟩
noncomputable def hint : Nat → Hint
 | 0 => ⟨[(0, .keep), (1, .keep), (12, .keep), (13, .keep)], []⟩
 | _ => ⟨[], []⟩
noncomputable def join (_ : Nat) : Option Hint := none
noncomputable def body : Code := (Tryz.f30).body.getD .skip
noncomputable def rv : List ResultVar := (Tryz.f30).results.toList
noncomputable def fn : Fn := ⟨26, sig, rv, body, hint, join⟩
end impl_SameRow
namespace laws_begins
noncomputable def m (c11 : ((List Int) × (List Int)) → Option Bool) : ((List Int) × (List Int)) → Option Bool
 | (a0_0, a1_0) => bif decide ((List.length a0_0 : Int) ≥ (List.length a1_0 : Int)) then bif decide (0 ≤ 0) && decide ((0 : Int) ≤ (List.length a1_0 : Int)) && decide ((List.length a1_0 : Int) ≤ (List.length a0_0 : Int)) then Option.bind (c11 (List.drop (toNat (0 : Int)) (List.take (toNat (List.length a1_0 : Int)) a0_0), a1_0)) fun r1 => some r1 else none else some false
noncomputable def sig : Sig := ⟨[.val false [⟨.row K1, 0, 0, false⟩], .val false [⟨.row K1, 0, 0, false⟩]], [(.one, [(.bool, 0)])]⟩
noncomputable def hint (_ : Nat) : Hint := ⟨[], []⟩
noncomputable def join (_ : Nat) : Option Hint := none
noncomputable def body : Code := (Tryz.f34).body.getD .skip
noncomputable def rv : List ResultVar := (Tryz.f34).results.toList
noncomputable def fn : Fn := ⟨18, sig, rv, body, hint, join⟩
end laws_begins
namespace impl_Before
noncomputable def m  : ((List Int) × (List Int)) → Option Bool
 | (a0_0, a1_0) => some (Op.bytesLess (ByteArray.toList (numsStr a0_0)) (ByteArray.toList (numsStr a1_0)))
noncomputable def sig : Sig := ⟨[.val false [⟨.row K1, 0, 0, false⟩], .val false [⟨.row K1, 0, 0, false⟩]], [(.one, [(.bool, 0)])]⟩
noncomputable def hint (_ : Nat) : Hint := ⟨[], []⟩
noncomputable def join (_ : Nat) : Option Hint := none
noncomputable def body : Code := (Tryz.f35).body.getD .skip
noncomputable def rv : List ResultVar := (Tryz.f35).results.toList
noncomputable def fn : Fn := ⟨10, sig, rv, body, hint, join⟩
end impl_Before
namespace impl_LessVal
noncomputable def m  : Y68 → Option Bool
 | (a0_0, a0_1, a0_2, a1_0, a1_1, a1_2) => bif a0_0 != a1_0 then some (decide (a0_0 < a1_0)) else bif a0_1 != a1_1 then some (decide (a0_1 < a1_1)) else some (Op.bytesLess (ByteArray.toList a0_2) (ByteArray.toList a1_2))
noncomputable def sig : Sig := ⟨[.val true [⟨.int .i64, 0, 0, false⟩, ⟨.int .i64, 0, 0, false⟩, ⟨.str, 0, 0, false⟩], .val true [⟨.int .i64, 0, 0, false⟩, ⟨.int .i64, 0, 0, false⟩, ⟨.str, 0, 0, false⟩]], [(.one, [(.bool, 0)])]⟩
noncomputable def hint (_ : Nat) : Hint := ⟨[], []⟩
noncomputable def join (_ : Nat) : Option Hint := none
noncomputable def body : Code := (Tryz.f109).body.getD .skip
noncomputable def rv : List ResultVar := (Tryz.f109).results.toList
noncomputable def fn : Fn := ⟨32, sig, rv, body, hint, join⟩
end impl_LessVal
namespace impl_LessPart
noncomputable def m (c109 : Y68 → Option Bool) : Y69 → Option Bool
 | (a0_0, a0_1, a0_2, a0_3, a1_0, a1_1, a1_2, a2_0, a2_1, a2_2) => bif a0_3 then Option.bind (c109 (a2_0, a2_1, a2_2, a1_0, a1_1, a1_2)) fun r1 => some r1 else Option.bind (c109 (a1_0, a1_1, a1_2, a2_0, a2_1, a2_2)) fun r2 => some r2
noncomputable def sig : Sig := ⟨[.val true [⟨.int .i64, 0, 0, false⟩, ⟨.int .i64, 0, 0, false⟩, ⟨.bool, 0, 0, false⟩, ⟨.bool, 0, 0, false⟩], .val true [⟨.int .i64, 0, 0, false⟩, ⟨.int .i64, 0, 0, false⟩, ⟨.str, 0, 0, false⟩], .val true [⟨.int .i64, 0, 0, false⟩, ⟨.int .i64, 0, 0, false⟩, ⟨.str, 0, 0, false⟩]], [(.one, [(.bool, 0)])]⟩
noncomputable def hint (_ : Nat) : Hint := ⟨[], []⟩
noncomputable def join (_ : Nat) : Option Hint := none
noncomputable def body : Code := (Tryz.f67).body.getD .skip
noncomputable def rv : List ResultVar := (Tryz.f67).results.toList
noncomputable def fn : Fn := ⟨15, sig, rv, body, hint, join⟩
end impl_LessPart
namespace impl_LessKey
noncomputable def s0 (c67 : Y69 → Option Bool) (L0 : Y71 → Option Bool) : Y71 → Option Bool
 | (x0, x1, x2, x3) => bif decide (x3 < (List.length x1 : Int)) then bif decide (x3 < (List.length x2 : Int)) then bif decide (0 ≤ x3) && decide (x3 < (List.length x1 : Int)) then bif decide (0 ≤ x3) && decide (x3 < (List.length x2 : Int)) then bif !((((getD x1 (toNat x3) Z2).1) == ((getD x2 (toNat x3) Z2).1) && (((getD x1 (toNat x3) Z2).2.1) == ((getD x2 (toNat x3) Z2).2.1) && ByteArray.toList ((getD x1 (toNat x3) Z2).2.2) == ByteArray.toList ((getD x2 (toNat x3) Z2).2.2)))) then bif decide (x3 < (List.length x0 : Int)) then bif decide (0 ≤ x3) && decide (x3 < (List.length x0 : Int)) then bif decide (0 ≤ x3) && decide (x3 < (List.length x1 : Int)) then bif decide (0 ≤ x3) && decide (x3 < (List.length x2 : Int)) then Option.bind (c67 ((getD x0 (toNat x3) Z3).1, (getD x0 (toNat x3) Z3).2.1, (getD x0 (toNat x3) Z3).2.2.1, (getD x0 (toNat x3) Z3).2.2.2, (getD x1 (toNat x3) Z2).1, (getD x1 (toNat x3) Z2).2.1, (getD x1 (toNat x3) Z2).2.2, (getD x2 (toNat x3) Z2).1, (getD x2 (toNat x3) Z2).2.1, (getD x2 (toNat x3) Z2).2.2)) fun r1 => some r1 else none else none else none else some false else L0 (x0, x1, x2, wrap i64 (x3 + 1)) else none else none else some (decide ((List.length x1 : Int) < (List.length x2 : Int))) else some (decide ((List.length x1 : Int) < (List.length x2 : Int)))
noncomputable def ll0 : Y71 → LS
 | (x0, x1, x2, x3) => ⟨[.cv ⟨.row K8, x0⟩, .cv ⟨.row K7, x1⟩, .cv ⟨.row K7, x2⟩, .cv ⟨.int .i64, x3⟩], []⟩
noncomputable def m (B0 : Y71 → Option Bool) : Y70 → Option Bool
 | (a0_0, a1_0, a2_0) => B0 (a0_0, a1_0, a2_0, (0 : Int))
noncomputable def sig : Sig := ⟨[.val false [⟨.row K8, 0, 0, false⟩], .val false [⟨.row K7, 0, 0, false⟩], .val false [⟨.row K7, 0, 0, false⟩]], [(.one, [(.bool, 0)])]⟩
noncomputable def hint : Nat → Hint
 | 0 => ⟨[(0, .keep), (1, .keep), (2, .keep), (7, .keep)], []⟩
 | _ => ⟨[], []⟩
noncomputable def join (_ : Nat) : Option Hint := none
noncomputable def body : Code := (Tryz.f36).body.getD .skip
noncomputable def rv : List ResultVar := (Tryz.f36).results.toList
noncomputable def fn : Fn := ⟨53, sig, rv, body, hint, join⟩
end impl_LessKey
namespace laws_FnRowKeys
noncomputable def s0 (c11 : ((List Int) × (List Int)) → Option Bool) (c12 : Y42 → Option ((List Int))) (c14 : Y9 → Option ((List Int))) (c16 c17 : Y62 → Option Bool) (c31 : Y31 → Option Y34) (c32 : Y1 → Option Y28) (c33 : Y37 → Option Y28) (c34 c35 : ((List Int) × (List Int)) → Option Bool) (c36 : Y70 → Option Bool) (L0 : Y72 → Option Bool) : Y72 → Option Bool
 | (x0, x1, x2, x3, x4, x5) => bif decide (0 ≤ x0) && decide (x0 < (List.length x3 : Int)) then bif decide (x2 < (List.length ((getD x3 (toNat x0) Z0).2.2.2) : Int)) then bif decide (0 ≤ x0) && decide (x0 < (List.length x3 : Int)) then Option.bind (c32 ((getD x3 (toNat x0) Z0).1, (getD x3 (toNat x0) Z0).2.1, (getD x3 (toNat x0) Z0).2.2.1, (getD x3 (toNat x0) Z0).2.2.2)) fun r8 => bif decide (x2 ≥ 0) then bif decide (0 ≤ x0) && decide (x0 < (List.length x3 : Int)) then Option.bind (c33 ((getD x3 (toNat x0) Z0).1, (getD x3 (toNat x0) Z0).2.1, (getD x3 (toNat x0) Z0).2.2.1, (getD x3 (toNat x0) Z0).2.2.2, x2)) fun r9 => Option.bind (c12 (x3, x0, x2, x4)) fun r10 => Option.bind (c12 (x3, x0, x2, x5)) fun r11 => Option.bind (c14 (x3, x0, x2)) fun r12 => bif (List.length r12 : Int) != 2 then some false else Option.bind (c34 (r10, r12)) fun r13 => bif !(r13) then some false else Option.bind (c34 (r11, r12)) fun r14 => bif !(r14) then some false else Option.bind (c35 (r10, r11)) fun r15 => Option.bind (c31 (r9, x4)) fun r16 => Option.bind (c31 (r9, x5)) fun r17 => Option.bind (c36 (r9, r16, r17)) fun r18 => bif !(r15 == r18) then some false else bif x2 == (-1) then Option.bind (c11 (r10, r11)) fun r19 => bif !(r19 == x1) then some false else Option.bind (c11 (r10, r11)) fun r20 => bif r20 then bif !(x1) then some false else L0 (x0, x1, wrap i64 (x2 + 1), x3, x4, x5) else L0 (x0, x1, wrap i64 (x2 + 1), x3, x4, x5) else Option.bind (c11 (r10, r11)) fun r21 => bif r21 then bif !(x1) then some false else L0 (x0, x1, wrap i64 (x2 + 1), x3, x4, x5) else L0 (x0, x1, wrap i64 (x2 + 1), x3, x4, x5) else none else Option.bind (c12 (x3, x0, x2, x4)) fun r22 => Option.bind (c12 (x3, x0, x2, x5)) fun r23 => Option.bind (c14 (x3, x0, x2)) fun r24 => bif (List.length r24 : Int) != 2 then some false else Option.bind (c34 (r22, r24)) fun r25 => bif !(r25) then some false else Option.bind (c34 (r23, r24)) fun r26 => bif !(r26) then some false else Option.bind (c35 (r22, r23)) fun r27 => Option.bind (c31 (r8, x4)) fun r28 => Option.bind (c31 (r8, x5)) fun r29 => Option.bind (c36 (r8, r28, r29)) fun r30 => bif !(r27 == r30) then some false else bif x2 == (-1) then Option.bind (c11 (r22, r23)) fun r31 => bif !(r31 == x1) then some false else Option.bind (c11 (r22, r23)) fun r32 => bif r32 then bif !(x1) then some false else L0 (x0, x1, wrap i64 (x2 + 1), x3, x4, x5) else L0 (x0, x1, wrap i64 (x2 + 1), x3, x4, x5) else Option.bind (c11 (r22, r23)) fun r33 => bif r33 then bif !(x1) then some false else L0 (x0, x1, wrap i64 (x2 + 1), x3, x4, x5) else L0 (x0, x1, wrap i64 (x2 + 1), x3, x4, x5) else none else Option.bind (c16 (x3, x0, x4)) fun r34 => Option.bind (c17 (x3, x0, x4)) fun r35 => some ((!(r34)) == (!(r35))) else none
noncomputable def ll0 : Y72 → LS
 | (x0, x1, x2, x3, x4, x5) => ⟨[.ref 12 0 [] none 0, .cv ⟨.int .i64, x0⟩, .ref 20 0 [] none 0, .ref 24 0 [] none 0, .cv ⟨.bool, x1⟩, .cv ⟨.int .i64, x2⟩], [⟨true, [⟨0, 0, .mk 3 ⟨.row K6, x3⟩⟩]⟩, ⟨true, [⟨0, 0, .mk 1 ⟨.row K7, x4⟩⟩]⟩, ⟨true, [⟨0, 0, .mk 1 ⟨.row K7, x5⟩⟩]⟩]⟩
noncomputable def m (c7 : ((List Int)) → Option Bool) (c29 : ((List Int)) → Option Y65) (c30 : Y66 → Option Bool) (c31 : Y31 → Option Y34) (c32 : Y1 → Option Y28) (B0 : Y72 → Option Bool) : ((List Int)) → Option Bool
 | a0_0 => Option.bind (c7 a0_0) fun r1 => bif r1 then some true else Option.bind (c29 a0_0) fun r2 => bif decide (0 ≤ r2.2.1) && decide (r2.2.1 < (List.length r2.1 : Int)) then Option.bind (c32 ((getD r2.1 (toNat r2.2.1) Z0).1, (getD r2.1 (toNat r2.2.1) Z0).2.1, (getD r2.1 (toNat r2.2.1) Z0).2.2.1, (getD r2.1 (toNat r2.2.1) Z0).2.2.2)) fun r3 => Option.bind (c31 (r3, r2.2.2.1)) fun r4 => bif decide (0 ≤ r2.2.1) && decide (r2.2.1 < (List.length r2.1 : Int)) then Option.bind (c32 ((getD r2.1 (toNat r2.2.1) Z0).1, (getD r2.1 (toNat r2.2.1) Z0).2.1, (getD r2.1 (toNat r2.2.1) Z0).2.2.1, (getD r2.1 (toNat r2.2.1) Z0).2.2.2)) fun r5 => Option.bind (c31 (r5, r2.2.2.2)) fun r6 => Option.bind (c30 (r4, r6)) fun r7 => B0 (r2.2.1, r7, (-1 : Int), r2.1, r2.2.2.1, r2.2.2.2) else none else none
noncomputable def sig : Sig := ⟨[.val false [⟨.row K1, 0, 0, false⟩]], [(.one, [(.bool, 0)])]⟩
noncomputable def hint : Nat → Hint
 | 0 => ⟨[(3, .own 3 K6), (4, .keep), (5, .own 1 K7), (6, .own 1 K7), (7, .keep), (8, .keep)], []⟩
 | _ => ⟨[], []⟩
noncomputable def join (_ : Nat) : Option Hint := none
noncomputable def body : Code := (Tryz.f6).body.getD .skip
noncomputable def rv : List ResultVar := (Tryz.f6).results.toList
noncomputable def fn : Fn := ⟨132, sig, rv, body, hint, join⟩
end laws_FnRowKeys
noncomputable def fns : Nat → Fn
 | 7 => laws_big.fn
 | 37 => spec_l1New.fn
 | 104 => spec_l1Byte.fn
 | 62 => spec_l1Below.fn
 | 39 => spec_l1Int.fn
 | 103 => spec_l1Once.fn
 | 110 => spec_l1Str.fn
 | 111 => spec_l9Draw2.fn
 | 69 => spec_l9Draw.fn
 | 61 => spec_l10Draw.fn
 | 105 => spec_l11Short.fn
 | 63 => spec_l11Row.fn
 | 11 => laws_sameBytes.fn
 | 64 => impl_in.fn
 | 162 => impl_isLetter.fn
 | 163 => impl_isDigit.fn
 | 155 => impl_nameOk.fn
 | 142 => impl_isFree.fn
 | 106 => impl_namesOk.fn
 | 107 => impl_twice.fn
 | 108 => impl_partsOk.fn
 | 65 => impl_CheckDef.fn
 | 72 => impl_FirstBad.fn
 | 41 => impl_hasIndex.fn
 | 115 => impl_PartOk.fn
 | 73 => impl_PlanOk.fn
 | 144 => impl_ValOk.fn
 | 116 => impl_Fits.fn
 | 74 => impl_FitsAll.fn
 | 42 => impl_RowOk.fn
 | 43 => impl_RowPlan.fn
 | 14 => impl_HeadOf.fn
 | 31 => impl_Pick.fn
 | 66 => impl_partsOf.fn
 | 32 => impl_PrimaryPlan.fn
 | 33 => impl_IndexPlan.fn
 | 75 => impl_planOf.fn
 | 127 => impl_clamp.fn
 | 128 => impl_bytesOf.fn
 | 129 => impl_addBytes.fn
 | 87 => impl_addVar.fn
 | 145 => impl_addFix.fn
 | 146 => impl_addEsc.fn
 | 156 => impl_copyBytes.fn
 | 147 => impl_Flip.fn
 | 117 => impl_addPart.fn
 | 76 => impl_EncodeKey.fn
 | 44 => impl_keyOf.fn
 | 12 => impl_KeyOf.fn
 | 78 => spec_l1In.fn
 | 164 => spec_l8Small.fn
 | 165 => spec_l2Digit.fn
 | 157 => spec_l8Name.fn
 | 158 => spec_l9Has.fn
 | 149 => spec_l9Word.fn
 | 120 => spec_l9Names.fn
 | 121 => spec_l9Types.fn
 | 150 => spec_l9Col.fn
 | 122 => spec_l9Once.fn
 | 151 => spec_l9Parts.fn
 | 123 => spec_l9AllParts.fn
 | 81 => spec_CheckDef.fn
 | 77 => spec_FirstBad.fn
 | 45 => spec_l11There.fn
 | 118 => spec_PartOk.fn
 | 79 => spec_PlanOk.fn
 | 148 => spec_ValOk.fn
 | 119 => spec_Fits.fn
 | 80 => spec_FitsAll.fn
 | 46 => spec_RowOk.fn
 | 82 => spec_l11Part.fn
 | 47 => spec_RowPlan.fn
 | 15 => spec_HeadOf.fn
 | 152 => spec_l11Parts.fn
 | 124 => spec_PrimaryPlan.fn
 | 125 => spec_IndexPlan.fn
 | 83 => spec_l11Plan.fn
 | 132 => spec_Flip.fn
 | 131 => spec_l4Bytes.fn
 | 91 => spec_PutVar.fn
 | 159 => spec_PutFix.fn
 | 160 => spec_PutEsc.fn
 | 153 => spec_l5Value.fn
 | 126 => spec_PutPart.fn
 | 84 => spec_EncodeKey.fn
 | 85 => spec_Pick.fn
 | 48 => spec_l11Key.fn
 | 86 => impl_addU.fn
 | 88 => impl_addText.fn
 | 130 => impl_Crc.fn
 | 89 => impl_addSum.fn
 | 49 => impl_EncodeRow.fn
 | 16 => impl_LongKey.fn
 | 90 => spec_PutU.fn
 | 92 => spec_PutText.fn
 | 133 => spec_Crc.fn
 | 93 => spec_PutSum.fn
 | 50 => spec_EncodeRow.fn
 | 17 => spec_LongKey.fn
 | 29 => spec_DrawRows.fn
 | 30 => impl_SameRow.fn
 | 34 => laws_begins.fn
 | 35 => impl_Before.fn
 | 109 => impl_LessVal.fn
 | 67 => impl_LessPart.fn
 | 36 => impl_LessKey.fn
 | 6 => laws_FnRowKeys.fn
 | 154 => ⟨0, strings_Split.sig, [], .refuse "", fun _ => ⟨[], []⟩, fun _ => none⟩
 | _ => ⟨0, ⟨[], []⟩, [], .refuse "", fun _ => ⟨[], []⟩, fun _ => none⟩
noncomputable def sigs (f : Nat) : Sig := (fns f).sig
end
end Go.PV.T
