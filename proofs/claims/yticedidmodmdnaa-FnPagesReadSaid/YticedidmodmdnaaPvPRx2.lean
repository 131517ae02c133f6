/- Functions of the program by their own lists and numbers. No condition beyond those in each statement. -/
import Derived.Test.YticedidmodmdnaaPvPRx1
import Derived.Test.YticedidmodmdnaaPvLibD
set_option linter.unusedVariables false
set_option linter.unusedSimpArgs false
set_option maxRecDepth 100000
set_option linter.unusedVariables false
namespace Go.PV.T
open Go.Proofs
noncomputable section
noncomputable def tab : Nat → (f : Nat) → TupT (sigs f).ins → Option (TupT (sigs f).outs) := table tys eqts fns (fun _ => none) rnds
noncomputable def spec_l1In.f (d : Nat) : (Int × Int × Int) → Option (Bool) := tab d 58
noncomputable def spec_l12Faults.f (d : Nat) : (List (Int × Int × Int)) → Option (Bool) := tab d 59
noncomputable def impl_in.f (d : Nat) : (Int × Int × Int) → Option (Bool) := tab d 62
noncomputable def spec_DiskNew.f (d : Nat) : (Int × (List (Int × Int × Int))) → Option ((List (List Int)) × (List (Int × (List Int))) × Int × (List (Int × Int × Int)) × Bool) := tab d 20
noncomputable def spec_ReadSec.f (d : Nat) : ((List (List Int)) × (List (Int × (List Int))) × Int × (List (Int × Int × Int)) × Bool × Int) → Option ((List Int) × Bool) := tab d 27
noncomputable def impl_copyBytes.f (d : Nat) : (List Int) → Option (List Int) := tab d 72
noncomputable def impl_ReadSec.f (d : Nat) : ((List (List Int)) × (List (Int × (List Int))) × Int × (List (Int × Int × Int)) × Bool × Int) → Option ((List Int) × Bool) := tab d 28
noncomputable def laws_big.f (d : Nat) : (List Int) → Option (Bool) := tab d 32
noncomputable def spec_l1New.f (d : Nat) : (List Int) → Option ((List Int) × Int × Int) := tab d 73
noncomputable def spec_l1Byte.f (d : Nat) : ((List Int) × Int × Int) → Option (Int × Int × Int) := tab d 108
noncomputable def spec_l1Below.f (d : Nat) : ((List Int) × Int × Int × Int) → Option (Int × Int × Int) := tab d 87
noncomputable def spec_l1Int.f (d : Nat) : ((List Int) × Int × Int × (List Int)) → Option (Int × Int × Int) := tab d 76
noncomputable def spec_l12FaultList.f (d : Nat) : ((List Int) × Int × Int) → Option ((List (Int × Int × Int)) × Int × Int) := tab d 74
noncomputable def spec_l1Once.f (d : Nat) : ((List Int) × Int × Int × Int) → Option (Bool × Int × Int) := tab d 75
noncomputable def spec_l1Bytes.f (d : Nat) : ((List Int) × Int × Int × Int) → Option ((List Int) × Int × Int) := tab d 107
noncomputable def spec_l1Some.f (d : Nat) : ((List Int) × Int × Int) → Option ((List Int) × Int × Int) := tab d 86
noncomputable def spec_l12Fault.f (d : Nat) : ((List (List Int)) × (List (Int × (List Int))) × Int × (List (Int × Int × Int)) × Bool) → Option (Int × Int × Int × Bool) := tab d 105
noncomputable def spec_l12Lose.f (d : Nat) : ((List (List Int)) × (List (Int × (List Int))) × Int × (List (Int × Int × Int)) × Bool × Int × Int × Int) → Option ((List (List Int)) × (List (Int × (List Int))) × Int × (List (Int × Int × Int)) × Bool) := tab d 106
noncomputable def spec_l12Flush.f (d : Nat) : ((List (List Int)) × (List (Int × (List Int))) × Int × (List (Int × Int × Int)) × Bool) → Option (Int × (List (List Int)) × (List (Int × (List Int))) × Int × (List (Int × Int × Int)) × Bool) := tab d 85
noncomputable def spec_l12Write.f (d : Nat) : ((List (List Int)) × (List (Int × (List Int))) × Int × (List (Int × Int × Int)) × Bool × Int × (List Int)) → Option (Int × (List (List Int)) × (List (Int × (List Int))) × Int × (List (Int × Int × Int)) × Bool) := tab d 88
noncomputable def spec_l12Draw.f (d : Nat) : ((List Int) × Int × Int) → Option ((List (List Int)) × (List (Int × (List Int))) × Int × (List (Int × Int × Int)) × Bool × Int × Int) := tab d 97
noncomputable def spec_l12N.f (d : Nat) : ((List Int) × Int × Int) → Option (Int × Int × Int) := tab d 79
noncomputable def laws_sameBytes.f (d : Nat) : ((List Int) × (List Int)) → Option (Bool) := tab d 38
noncomputable def spec_l1Bend.f (d : Nat) : ((List Int) × Int × Int × (List Int)) → Option ((List Int) × Int × Int) := tab d 89
noncomputable def spec_Crc.f (d : Nat) : (List Int) → Option (Int) := tab d 113
noncomputable def spec_PutSum.f (d : Nat) : (List Int) → Option (List Int) := tab d 109
noncomputable def spec_PutU.f (d : Nat) : ((List Int) × Int) → Option (List Int) := tab d 111
noncomputable def spec_PutText.f (d : Nat) : ((List Int) × ByteArray) → Option (List Int) := tab d 110
noncomputable def spec_PutPage.f (d : Nat) : (Int × (List Int)) → Option (List Int) := tab d 90
noncomputable def spec_DrawGetPage.f (d : Nat) : (List Int) → Option (List Int) := tab d 48
noncomputable def impl_Crc.f (d : Nat) : (List Int) → Option (Int) := tab d 114
noncomputable def impl_addSum.f (d : Nat) : (List Int) → Option (List Int) := tab d 98
noncomputable def impl_clamp.f (d : Nat) : (Int × Int × Int) → Option (Int) := tab d 115
noncomputable def impl_addU.f (d : Nat) : ((List Int) × Int) → Option (List Int) := tab d 100
noncomputable def impl_addText.f (d : Nat) : ((List Int) × ByteArray) → Option (List Int) := tab d 99
noncomputable def impl_PutPage.f (d : Nat) : (Int × (List Int)) → Option (List Int) := tab d 54
noncomputable def impl_PutSum.f (d : Nat) : (List Int) → Option (List Int) := tab d 112
noncomputable def impl_GetSum.f (d : Nat) : (List Int) → Option ((List Int) × Bool) := tab d 91
noncomputable def impl_GetU.f (d : Nat) : ((List Int) × Int) → Option (Int × Int × Bool) := tab d 92
noncomputable def impl_GetText.f (d : Nat) : ((List Int) × Int) → Option (ByteArray × Int × Bool) := tab d 93
noncomputable def impl_GetPage.f (d : Nat) : (List Int) → Option (Int × (List Int) × Bool) := tab d 49
noncomputable def spec_GetSum.f (d : Nat) : (List Int) → Option ((List Int) × Bool) := tab d 94
noncomputable def spec_GetU.f (d : Nat) : ((List Int) × Int) → Option (Int × Int × Bool) := tab d 95
noncomputable def spec_GetText.f (d : Nat) : ((List Int) × Int) → Option (ByteArray × Int × Bool) := tab d 96
noncomputable def spec_GetPage.f (d : Nat) : (List Int) → Option (Int × (List Int) × Bool) := tab d 50
noncomputable def spec_DrawPageAt.f (d : Nat) : (List Int) → Option ((List (List Int)) × (List (Int × (List Int))) × Int × (List (Int × Int × Int)) × Bool × Int × Int) := tab d 51
noncomputable def impl_PageAt.f (d : Nat) : ((List (List Int)) × (List (Int × (List Int))) × Int × (List (Int × Int × Int)) × Bool × Int × Int) → Option ((List Int) × Bool) := tab d 52
noncomputable def spec_PageAt.f (d : Nat) : ((List (List Int)) × (List (Int × (List Int))) × Int × (List (Int × Int × Int)) × Bool × Int × Int) → Option ((List Int) × Bool) := tab d 53
noncomputable def laws_FnPagesRead.f (d : Nat) : (List Int) → Option (Bool) := tab d 10
noncomputable def spec_l12Faults.S0 (d : Nat) (L0 : ((List (Int × Int × Int)) × Int) → Option (Bool)) : ((List (Int × Int × Int)) × Int) → Option (Bool) := spec_l12Faults.s0 (spec_l1In.f d) L0
noncomputable def spec_DiskNew.S0 (d : Nat) (L0 : (Int × Int × (List (List Int)) × (List (Int × (List Int))) × Int × (List (Int × Int × Int)) × Bool × (List (List Int)) × (List (Int × (List Int))) × Int × (List (Int × Int × Int)) × Bool) → Option ((List (List Int)) × (List (Int × (List Int))) × Int × (List (Int × Int × Int)) × Bool)) : (Int × Int × (List (List Int)) × (List (Int × (List Int))) × Int × (List (Int × Int × Int)) × Bool × (List (List Int)) × (List (Int × (List Int))) × Int × (List (Int × Int × Int)) × Bool) → Option ((List (List Int)) × (List (Int × (List Int))) × Int × (List (Int × Int × Int)) × Bool) := spec_DiskNew.s0 L0
noncomputable def spec_ReadSec.S0 (d : Nat) (L0 : (Int × Int × (List (List Int)) × (List (Int × (List Int))) × Int × (List (Int × Int × Int)) × Bool) → Option ((List Int) × Bool)) : (Int × Int × (List (List Int)) × (List (Int × (List Int))) × Int × (List (Int × Int × Int)) × Bool) → Option ((List Int) × Bool) := spec_ReadSec.s0 L0
noncomputable def impl_ReadSec.S0 (d : Nat) (L0 : (Int × Int × (List (List Int)) × (List (Int × (List Int))) × Int × (List (Int × Int × Int)) × Bool) → Option ((List Int) × Bool)) : (Int × Int × (List (List Int)) × (List (Int × (List Int))) × Int × (List (Int × Int × Int)) × Bool) → Option ((List Int) × Bool) := impl_ReadSec.s0 (impl_copyBytes.f d) L0
noncomputable def spec_l1New.S0 (d : Nat) (L0 : ((List Int) × Int × Int) → Option ((List Int) × Int × Int)) : ((List Int) × Int × Int) → Option ((List Int) × Int × Int) := spec_l1New.s0 L0
noncomputable def spec_l12FaultList.S0 (d : Nat) (L0 : (Int × Int × (List Int) × Int × Int × (List (Int × Int × Int))) → Option ((List (Int × Int × Int)) × Int × Int)) : (Int × Int × (List Int) × Int × Int × (List (Int × Int × Int))) → Option ((List (Int × Int × Int)) × Int × Int) := spec_l12FaultList.s0 (spec_l1Int.f d) (spec_l1Below.f d) L0
noncomputable def spec_l1Bytes.S0 (d : Nat) (L0 : (Int × Int × (List Int) × Int × Int × (List Int)) → Option ((List Int) × Int × Int)) : (Int × Int × (List Int) × Int × Int × (List Int)) → Option ((List Int) × Int × Int) := spec_l1Bytes.s0 (spec_l1Byte.f d) L0
noncomputable def spec_l12Fault.S0 (d : Nat) (L0 : (Int × (List (List Int)) × (List (Int × (List Int))) × Int × (List (Int × Int × Int)) × Bool × Int × Int × Int) → Option (Int × Int × Int × Bool)) : (Int × (List (List Int)) × (List (Int × (List Int))) × Int × (List (Int × Int × Int)) × Bool × Int × Int × Int) → Option (Int × Int × Int × Bool) := spec_l12Fault.s0 L0
noncomputable def spec_l12Lose.S2 (d : Nat) (L2 : (Int × Int × (List (List Int)) × (List (Int × (List Int))) × Int × (List (Int × Int × Int)) × Bool × Int × Int × Int) → Option ((List (List Int)) × (List (Int × (List Int))) × Int × (List (Int × Int × Int)) × Bool)) : (Int × Int × (List (List Int)) × (List (Int × (List Int))) × Int × (List (Int × Int × Int)) × Bool × Int × Int × Int) → Option ((List (List Int)) × (List (Int × (List Int))) × Int × (List (Int × Int × Int)) × Bool) := spec_l12Lose.s2 L2
noncomputable def spec_l12Lose.S0 (d : Nat) (L0 : (Int × Int × (List (List Int)) × (List (Int × (List Int))) × Int × (List (Int × Int × Int)) × Bool × Int × Int × Int) → Option ((List (List Int)) × (List (Int × (List Int))) × Int × (List (Int × Int × Int)) × Bool)) : (Int × Int × (List (List Int)) × (List (Int × (List Int))) × Int × (List (Int × Int × Int)) × Bool × Int × Int × Int) → Option ((List (List Int)) × (List (Int × (List Int))) × Int × (List (Int × Int × Int)) × Bool) := spec_l12Lose.s0 (iter (spec_l12Lose.S2 d) rnds) L0
noncomputable def spec_l12Flush.S0 (d : Nat) (L0 : (Int × (List (List Int)) × (List (Int × (List Int))) × Int × (List (Int × Int × Int)) × Bool) → Option (Int × (List (List Int)) × (List (Int × (List Int))) × Int × (List (Int × Int × Int)) × Bool)) : (Int × (List (List Int)) × (List (Int × (List Int))) × Int × (List (Int × Int × Int)) × Bool) → Option (Int × (List (List Int)) × (List (Int × (List Int))) × Int × (List (Int × Int × Int)) × Bool) := spec_l12Flush.s0 L0
noncomputable def spec_l12Draw.S0 (d : Nat) (L0 : (Int × (List Int) × Int × Int × (List (List Int)) × (List (Int × (List Int))) × Int × (List (Int × Int × Int)) × Bool × (List (List Int)) × (List (Int × (List Int))) × Int × (List (Int × Int × Int)) × Bool) → Option ((List (List Int)) × (List (Int × (List Int))) × Int × (List (Int × Int × Int)) × Bool × Int × Int)) : (Int × (List Int) × Int × Int × (List (List Int)) × (List (Int × (List Int))) × Int × (List (Int × Int × Int)) × Bool × (List (List Int)) × (List (Int × (List Int))) × Int × (List (Int × Int × Int)) × Bool) → Option ((List (List Int)) × (List (Int × (List Int))) × Int × (List (Int × Int × Int)) × Bool × Int × Int) := spec_l12Draw.s0 (spec_l12Flush.f d) (spec_l1Some.f d) (spec_l1Below.f d) (spec_l12Write.f d) L0
noncomputable def laws_sameBytes.S0 (d : Nat) (L0 : ((List Int) × (List Int) × Int) → Option (Bool)) : ((List Int) × (List Int) × Int) → Option (Bool) := laws_sameBytes.s0 L0
noncomputable def spec_Crc.S2 (d : Nat) (L0 : ((List Int) × Int × Int) → Option (Int)) (L2 : ((List Int) × Int × Int × Int) → Option (Int)) : ((List Int) × Int × Int × Int) → Option (Int) := spec_Crc.s2 L0 L2
noncomputable def spec_Crc.S0 (d : Nat) (L0 : ((List Int) × Int × Int) → Option (Int)) : ((List Int) × Int × Int) → Option (Int) := spec_Crc.s0 (iter (spec_Crc.S2 d L0) rnds) L0
noncomputable def spec_PutU.S0 (d : Nat) (L0 : (Int × (List Int)) → Option (List Int)) : (Int × (List Int)) → Option (List Int) := spec_PutU.s0 L0
noncomputable def impl_Crc.S2 (d : Nat) (L0 : (Int × (List Int) × Int × Int) → Option (Int)) (L2 : (Int × (List Int) × Int × Int × Int) → Option (Int)) : (Int × (List Int) × Int × Int × Int) → Option (Int) := impl_Crc.s2 L0 L2
noncomputable def impl_Crc.S0 (d : Nat) (L0 : (Int × (List Int) × Int × Int) → Option (Int)) : (Int × (List Int) × Int × Int) → Option (Int) := impl_Crc.s0 (iter (impl_Crc.S2 d L0) rnds) L0
noncomputable def impl_addU.S0 (d : Nat) (L0 : (Int × (List Int)) → Option (List Int)) : (Int × (List Int)) → Option (List Int) := impl_addU.s0 L0
noncomputable def impl_GetU.S0 (d : Nat) (L0 : ((List Int) × Int × Int × Int) → Option (Int × Int × Bool)) : ((List Int) × Int × Int × Int) → Option (Int × Int × Bool) := impl_GetU.s0 L0
noncomputable def spec_GetSum.S0 (d : Nat) (L0 : ((List Int) × Int × Int × Int) → Option ((List Int) × Bool)) : ((List Int) × Int × Int × Int) → Option ((List Int) × Bool) := spec_GetSum.s0 (spec_Crc.f d) L0
noncomputable def spec_GetU.S0 (d : Nat) (L0 : ((List Int) × Int × Int × Int) → Option (Int × Int × Bool)) : ((List Int) × Int × Int × Int) → Option (Int × Int × Bool) := spec_GetU.s0 L0
theorem spec_l1In.t_eq (d : Nat) (a0_0 : Int) (a1_0 : Int) (a2_0 : Int) : spec_l1In.f (d + 1) (a0_0, a1_0, a2_0) = spec_l1In.m  (a0_0, a1_0, a2_0) :=
  Eq.trans (show spec_l1In.f (d + 1) (a0_0, a1_0, a2_0) = run (spec_l1In.cx (tab d) rnds) spec_l1In.sig spec_l1In.rv spec_l1In.body (a0_0, a1_0, a2_0) by kernel_rfl) ((spec_l1In.m_eq (tab d) rnds a0_0 a1_0 a2_0).trans rfl)
theorem spec_l12Faults.S0_eq (d : Nat) : ((fun a => loopK (stp (spec_l12Faults.cx (tab d) rnds) spec_l12Faults.body [1, 0, 1, 0] [] spec_l12Faults.fin) rnds (spec_l12Faults.ll0 a) : ((List (Int × Int × Int)) × Int) → Option (Bool))) = iter (spec_l12Faults.S0 d) rnds :=
  funext (loop_iter spec_l12Faults.ll0 _ (spec_l12Faults.S0 d) (fun (L0 : LS → Option (TupT spec_l12Faults.sig.outs)) a => match a with | (x0, x1) => (spec_l12Faults.s0_eq (tab d) rnds L0 x0 x1).trans rfl) rnds)
theorem spec_l12Faults.t_eq (d : Nat) (a0_0 : List (Int × Int × Int)) : spec_l12Faults.f (d + 1) a0_0 = spec_l12Faults.m (iter (spec_l12Faults.S0 d) rnds) a0_0 :=
  Eq.trans (show spec_l12Faults.f (d + 1) a0_0 = run (spec_l12Faults.cx (tab d) rnds) spec_l12Faults.sig spec_l12Faults.rv spec_l12Faults.body a0_0 by kernel_rfl) ((spec_l12Faults.m_eq (tab d) rnds a0_0).trans (congrArg (fun z => spec_l12Faults.m z a0_0) (spec_l12Faults.S0_eq d)))
theorem impl_in.t_eq (d : Nat) (a0_0 : Int) (a1_0 : Int) (a2_0 : Int) : impl_in.f (d + 1) (a0_0, a1_0, a2_0) = impl_in.m  (a0_0, a1_0, a2_0) :=
  Eq.trans (show impl_in.f (d + 1) (a0_0, a1_0, a2_0) = run (impl_in.cx (tab d) rnds) impl_in.sig impl_in.rv impl_in.body (a0_0, a1_0, a2_0) by kernel_rfl) ((impl_in.m_eq (tab d) rnds a0_0 a1_0 a2_0).trans rfl)
theorem spec_DiskNew.S0_eq (d : Nat) : ((fun a => loopK (stp (spec_DiskNew.cx (tab d) rnds) spec_DiskNew.body [1, 1, 1, 0, 1, 0] [] spec_DiskNew.fin) rnds (spec_DiskNew.ll0 a) : (Int × Int × (List (List Int)) × (List (Int × (List Int))) × Int × (List (Int × Int × Int)) × Bool × (List (List Int)) × (List (Int × (List Int))) × Int × (List (Int × Int × Int)) × Bool) → Option ((List (List Int)) × (List (Int × (List Int))) × Int × (List (Int × Int × Int)) × Bool))) = iter (spec_DiskNew.S0 d) rnds :=
  funext (loop_iter spec_DiskNew.ll0 _ (spec_DiskNew.S0 d) (fun (L0 : LS → Option (TupT spec_DiskNew.sig.outs)) a => match a with | (x0, x1, x2, x3, x4, x5, x6, x7, x8, x9, x10, x11) => (spec_DiskNew.s0_eq (tab d) rnds L0 x0 x1 x2 x3 x4 x5 x6 x7 x8 x9 x10 x11).trans rfl) rnds)
theorem spec_DiskNew.t_eq (d : Nat) (a0_0 : Int) (a1_0 : List (Int × Int × Int)) : spec_DiskNew.f (d + 1) (a0_0, a1_0) = spec_DiskNew.m (spec_l1In.f d) (spec_l12Faults.f d) (iter (spec_DiskNew.S0 d) rnds) (a0_0, a1_0) :=
  Eq.trans (show spec_DiskNew.f (d + 1) (a0_0, a1_0) = run (spec_DiskNew.cx (tab d) rnds) spec_DiskNew.sig spec_DiskNew.rv spec_DiskNew.body (a0_0, a1_0) by kernel_rfl) ((spec_DiskNew.m_eq (tab d) rnds a0_0 a1_0).trans (congrArg (fun z => spec_DiskNew.m (tab d 58) (tab d 59) z (a0_0, a1_0)) (spec_DiskNew.S0_eq d)))
theorem spec_ReadSec.S0_eq (d : Nat) : ((fun a => loopK (stp (spec_ReadSec.cx (tab d) rnds) spec_ReadSec.body [1, 1, 0, 1, 0] [] spec_ReadSec.fin) rnds (spec_ReadSec.ll0 a) : (Int × Int × (List (List Int)) × (List (Int × (List Int))) × Int × (List (Int × Int × Int)) × Bool) → Option ((List Int) × Bool))) = iter (spec_ReadSec.S0 d) rnds :=
  funext (loop_iter spec_ReadSec.ll0 _ (spec_ReadSec.S0 d) (fun (L0 : LS → Option (TupT spec_ReadSec.sig.outs)) a => match a with | (x0, x1, x2, x3, x4, x5, x6) => (spec_ReadSec.s0_eq (tab d) rnds L0 x0 x1 x2 x3 x4 x5 x6).trans rfl) rnds)
theorem spec_ReadSec.t_eq (d : Nat) (a0_0 : List (List Int)) (a0_1 : List (Int × (List Int))) (a0_2 : Int) (a0_3 : List (Int × Int × Int)) (a0_4 : Bool) (a1_0 : Int) : spec_ReadSec.f (d + 1) (a0_0, a0_1, a0_2, a0_3, a0_4, a1_0) = spec_ReadSec.m (spec_l1In.f d) (iter (spec_ReadSec.S0 d) rnds) (a0_0, a0_1, a0_2, a0_3, a0_4, a1_0) :=
  Eq.trans (show spec_ReadSec.f (d + 1) (a0_0, a0_1, a0_2, a0_3, a0_4, a1_0) = run (spec_ReadSec.cx (tab d) rnds) spec_ReadSec.sig spec_ReadSec.rv spec_ReadSec.body (a0_0, a0_1, a0_2, a0_3, a0_4, a1_0) by kernel_rfl) ((spec_ReadSec.m_eq (tab d) rnds a0_0 a0_1 a0_2 a0_3 a0_4 a1_0).trans (congrArg (fun z => spec_ReadSec.m (tab d 58) z (a0_0, a0_1, a0_2, a0_3, a0_4, a1_0)) (spec_ReadSec.S0_eq d)))
theorem impl_copyBytes.t_eq (d : Nat) (a0_0 : List Int) : impl_copyBytes.f (d + 1) a0_0 = impl_copyBytes.m  a0_0 :=
  Eq.trans (show impl_copyBytes.f (d + 1) a0_0 = run (impl_copyBytes.cx (tab d) rnds) impl_copyBytes.sig impl_copyBytes.rv impl_copyBytes.body a0_0 by kernel_rfl) ((impl_copyBytes.m_eq (tab d) rnds a0_0).trans rfl)
theorem impl_ReadSec.S0_eq (d : Nat) : ((fun a => loopK (stp (impl_ReadSec.cx (tab d) rnds) impl_ReadSec.body [1, 1, 0, 1, 0] [] impl_ReadSec.fin) rnds (impl_ReadSec.ll0 a) : (Int × Int × (List (List Int)) × (List (Int × (List Int))) × Int × (List (Int × Int × Int)) × Bool) → Option ((List Int) × Bool))) = iter (impl_ReadSec.S0 d) rnds :=
  funext (loop_iter impl_ReadSec.ll0 _ (impl_ReadSec.S0 d) (fun (L0 : LS → Option (TupT impl_ReadSec.sig.outs)) a => match a with | (x0, x1, x2, x3, x4, x5, x6) => (impl_ReadSec.s0_eq (tab d) rnds L0 x0 x1 x2 x3 x4 x5 x6).trans rfl) rnds)
theorem impl_ReadSec.t_eq (d : Nat) (a0_0 : List (List Int)) (a0_1 : List (Int × (List Int))) (a0_2 : Int) (a0_3 : List (Int × Int × Int)) (a0_4 : Bool) (a1_0 : Int) : impl_ReadSec.f (d + 1) (a0_0, a0_1, a0_2, a0_3, a0_4, a1_0) = impl_ReadSec.m (impl_in.f d) (iter (impl_ReadSec.S0 d) rnds) (a0_0, a0_1, a0_2, a0_3, a0_4, a1_0) :=
  Eq.trans (show impl_ReadSec.f (d + 1) (a0_0, a0_1, a0_2, a0_3, a0_4, a1_0) = run (impl_ReadSec.cx (tab d) rnds) impl_ReadSec.sig impl_ReadSec.rv impl_ReadSec.body (a0_0, a0_1, a0_2, a0_3, a0_4, a1_0) by kernel_rfl) ((impl_ReadSec.m_eq (tab d) rnds a0_0 a0_1 a0_2 a0_3 a0_4 a1_0).trans (congrArg (fun z => impl_ReadSec.m (tab d 62) z (a0_0, a0_1, a0_2, a0_3, a0_4, a1_0)) (impl_ReadSec.S0_eq d)))
theorem laws_big.t_eq (d : Nat) (a0_0 : List Int) : laws_big.f (d + 1) a0_0 = laws_big.m  a0_0 :=
  Eq.trans (show laws_big.f (d + 1) a0_0 = run (laws_big.cx (tab d) rnds) laws_big.sig laws_big.rv laws_big.body a0_0 by kernel_rfl) ((laws_big.m_eq (tab d) rnds a0_0).trans rfl)
theorem spec_l1New.S0_eq (d : Nat) : ((fun a => loopK (stp (spec_l1New.cx (tab d) rnds) spec_l1New.body [1, 1, 0, 1, 0] [] spec_l1New.fin) rnds (spec_l1New.ll0 a) : ((List Int) × Int × Int) → Option ((List Int) × Int × Int))) = iter (spec_l1New.S0 d) rnds :=
  funext (loop_iter spec_l1New.ll0 _ (spec_l1New.S0 d) (fun (L0 : LS → Option (TupT spec_l1New.sig.outs)) a => match a with | (x0, x1, x2) => (spec_l1New.s0_eq (tab d) rnds L0 x0 x1 x2).trans rfl) rnds)
theorem spec_l1New.t_eq (d : Nat) (a0_0 : List Int) : spec_l1New.f (d + 1) a0_0 = spec_l1New.m (iter (spec_l1New.S0 d) rnds) a0_0 :=
  Eq.trans (show spec_l1New.f (d + 1) a0_0 = run (spec_l1New.cx (tab d) rnds) spec_l1New.sig spec_l1New.rv spec_l1New.body a0_0 by kernel_rfl) ((spec_l1New.m_eq (tab d) rnds a0_0).trans (congrArg (fun z => spec_l1New.m z a0_0) (spec_l1New.S0_eq d)))
theorem spec_l1Byte.t_eq (d : Nat) (a0_0 : List Int) (a0_1 : Int) (a0_2 : Int) : spec_l1Byte.f (d + 1) (a0_0, a0_1, a0_2) = spec_l1Byte.m  (a0_0, a0_1, a0_2) :=
  Eq.trans (show spec_l1Byte.f (d + 1) (a0_0, a0_1, a0_2) = run (spec_l1Byte.cx (tab d) rnds) spec_l1Byte.sig spec_l1Byte.rv spec_l1Byte.body (a0_0, a0_1, a0_2) by kernel_rfl) ((spec_l1Byte.m_eq (tab d) rnds a0_0 a0_1 a0_2).trans rfl)
theorem spec_l1Below.t_eq (d : Nat) (a0_0 : List Int) (a0_1 : Int) (a0_2 : Int) (a1_0 : Int) : spec_l1Below.f (d + 1) (a0_0, a0_1, a0_2, a1_0) = spec_l1Below.m (spec_l1Byte.f d) (a0_0, a0_1, a0_2, a1_0) :=
  Eq.trans (show spec_l1Below.f (d + 1) (a0_0, a0_1, a0_2, a1_0) = run (spec_l1Below.cx (tab d) rnds) spec_l1Below.sig spec_l1Below.rv spec_l1Below.body (a0_0, a0_1, a0_2, a1_0) by kernel_rfl) ((spec_l1Below.m_eq (tab d) rnds a0_0 a0_1 a0_2 a1_0).trans rfl)
theorem spec_l1Int.t_eq (d : Nat) (a0_0 : List Int) (a0_1 : Int) (a0_2 : Int) (a1_0 : List Int) : spec_l1Int.f (d + 1) (a0_0, a0_1, a0_2, a1_0) = spec_l1Int.m (spec_l1Below.f d) (a0_0, a0_1, a0_2, a1_0) :=
  Eq.trans (show spec_l1Int.f (d + 1) (a0_0, a0_1, a0_2, a1_0) = run (spec_l1Int.cx (tab d) rnds) spec_l1Int.sig spec_l1Int.rv spec_l1Int.body (a0_0, a0_1, a0_2, a1_0) by kernel_rfl) ((spec_l1Int.m_eq (tab d) rnds a0_0 a0_1 a0_2 a1_0).trans rfl)
theorem spec_l12FaultList.S0_eq (d : Nat) : ((fun a => loopK (stp (spec_l12FaultList.cx (tab d) rnds) spec_l12FaultList.body [1, 1, 1, 0, 1, 0] [] spec_l12FaultList.fin) rnds (spec_l12FaultList.ll0 a) : (Int × Int × (List Int) × Int × Int × (List (Int × Int × Int))) → Option ((List (Int × Int × Int)) × Int × Int))) = iter (spec_l12FaultList.S0 d) rnds :=
  funext (loop_iter spec_l12FaultList.ll0 _ (spec_l12FaultList.S0 d) (fun (L0 : LS → Option (TupT spec_l12FaultList.sig.outs)) a => match a with | (x0, x1, x2, x3, x4, x5) => (spec_l12FaultList.s0_eq (tab d) rnds L0 x0 x1 x2 x3 x4 x5).trans rfl) rnds)
theorem spec_l12FaultList.t_eq (d : Nat) (a0_0 : List Int) (a0_1 : Int) (a0_2 : Int) : spec_l12FaultList.f (d + 1) (a0_0, a0_1, a0_2) = spec_l12FaultList.m (spec_l1Below.f d) (iter (spec_l12FaultList.S0 d) rnds) (a0_0, a0_1, a0_2) :=
  Eq.trans (show spec_l12FaultList.f (d + 1) (a0_0, a0_1, a0_2) = run (spec_l12FaultList.cx (tab d) rnds) spec_l12FaultList.sig spec_l12FaultList.rv spec_l12FaultList.body (a0_0, a0_1, a0_2) by kernel_rfl) ((spec_l12FaultList.m_eq (tab d) rnds a0_0 a0_1 a0_2).trans (congrArg (fun z => spec_l12FaultList.m (tab d 87) z (a0_0, a0_1, a0_2)) (spec_l12FaultList.S0_eq d)))
theorem spec_l1Once.t_eq (d : Nat) (a0_0 : List Int) (a0_1 : Int) (a0_2 : Int) (a1_0 : Int) : spec_l1Once.f (d + 1) (a0_0, a0_1, a0_2, a1_0) = spec_l1Once.m (spec_l1Below.f d) (a0_0, a0_1, a0_2, a1_0) :=
  Eq.trans (show spec_l1Once.f (d + 1) (a0_0, a0_1, a0_2, a1_0) = run (spec_l1Once.cx (tab d) rnds) spec_l1Once.sig spec_l1Once.rv spec_l1Once.body (a0_0, a0_1, a0_2, a1_0) by kernel_rfl) ((spec_l1Once.m_eq (tab d) rnds a0_0 a0_1 a0_2 a1_0).trans rfl)
theorem spec_l1Bytes.S0_eq (d : Nat) : ((fun a => loopK (stp (spec_l1Bytes.cx (tab d) rnds) spec_l1Bytes.body [1, 1, 0, 1, 0] [] spec_l1Bytes.fin) rnds (spec_l1Bytes.ll0 a) : (Int × Int × (List Int) × Int × Int × (List Int)) → Option ((List Int) × Int × Int))) = iter (spec_l1Bytes.S0 d) rnds :=
  funext (loop_iter spec_l1Bytes.ll0 _ (spec_l1Bytes.S0 d) (fun (L0 : LS → Option (TupT spec_l1Bytes.sig.outs)) a => match a with | (x0, x1, x2, x3, x4, x5) => (spec_l1Bytes.s0_eq (tab d) rnds L0 x0 x1 x2 x3 x4 x5).trans rfl) rnds)
theorem spec_l1Bytes.t_eq (d : Nat) (a0_0 : List Int) (a0_1 : Int) (a0_2 : Int) (a1_0 : Int) : spec_l1Bytes.f (d + 1) (a0_0, a0_1, a0_2, a1_0) = spec_l1Bytes.m (iter (spec_l1Bytes.S0 d) rnds) (a0_0, a0_1, a0_2, a1_0) :=
  Eq.trans (show spec_l1Bytes.f (d + 1) (a0_0, a0_1, a0_2, a1_0) = run (spec_l1Bytes.cx (tab d) rnds) spec_l1Bytes.sig spec_l1Bytes.rv spec_l1Bytes.body (a0_0, a0_1, a0_2, a1_0) by kernel_rfl) ((spec_l1Bytes.m_eq (tab d) rnds a0_0 a0_1 a0_2 a1_0).trans (congrArg (fun z => spec_l1Bytes.m z (a0_0, a0_1, a0_2, a1_0)) (spec_l1Bytes.S0_eq d)))
theorem spec_l1Some.t_eq (d : Nat) (a0_0 : List Int) (a0_1 : Int) (a0_2 : Int) : spec_l1Some.f (d + 1) (a0_0, a0_1, a0_2) = spec_l1Some.m (spec_l1Int.f d) (spec_l1Bytes.f d) (a0_0, a0_1, a0_2) :=
  Eq.trans (show spec_l1Some.f (d + 1) (a0_0, a0_1, a0_2) = run (spec_l1Some.cx (tab d) rnds) spec_l1Some.sig spec_l1Some.rv spec_l1Some.body (a0_0, a0_1, a0_2) by kernel_rfl) ((spec_l1Some.m_eq (tab d) rnds a0_0 a0_1 a0_2).trans rfl)
theorem spec_l12Fault.S0_eq (d : Nat) : ((fun a => loopK (stp (spec_l12Fault.cx (tab d) rnds) spec_l12Fault.body [1, 0, 1, 0] [] spec_l12Fault.fin) rnds (spec_l12Fault.ll0 a) : (Int × (List (List Int)) × (List (Int × (List Int))) × Int × (List (Int × Int × Int)) × Bool × Int × Int × Int) → Option (Int × Int × Int × Bool))) = iter (spec_l12Fault.S0 d) rnds :=
  funext (loop_iter spec_l12Fault.ll0 _ (spec_l12Fault.S0 d) (fun (L0 : LS → Option (TupT spec_l12Fault.sig.outs)) a => match a with | (x0, x1, x2, x3, x4, x5, x6, x7, x8) => (spec_l12Fault.s0_eq (tab d) rnds L0 x0 x1 x2 x3 x4 x5 x6 x7 x8).trans rfl) rnds)
theorem spec_l12Fault.t_eq (d : Nat) (a0_0 : List (List Int)) (a0_1 : List (Int × (List Int))) (a0_2 : Int) (a0_3 : List (Int × Int × Int)) (a0_4 : Bool) : spec_l12Fault.f (d + 1) (a0_0, a0_1, a0_2, a0_3, a0_4) = spec_l12Fault.m (iter (spec_l12Fault.S0 d) rnds) (a0_0, a0_1, a0_2, a0_3, a0_4) :=
  Eq.trans (show spec_l12Fault.f (d + 1) (a0_0, a0_1, a0_2, a0_3, a0_4) = run (spec_l12Fault.cx (tab d) rnds) spec_l12Fault.sig spec_l12Fault.rv spec_l12Fault.body (a0_0, a0_1, a0_2, a0_3, a0_4) by kernel_rfl) ((spec_l12Fault.m_eq (tab d) rnds a0_0 a0_1 a0_2 a0_3 a0_4).trans (congrArg (fun z => spec_l12Fault.m z (a0_0, a0_1, a0_2, a0_3, a0_4)) (spec_l12Fault.S0_eq d)))
theorem spec_l12Lose.S2_eq (d : Nat) : ((fun a => loopK (stp (spec_l12Lose.cx (tab d) rnds) spec_l12Lose.body [1, 1, 1, 0, 1, 0] [] spec_l12Lose.fin) rnds (spec_l12Lose.ll2 a) : (Int × Int × (List (List Int)) × (List (Int × (List Int))) × Int × (List (Int × Int × Int)) × Bool × Int × Int × Int) → Option ((List (List Int)) × (List (Int × (List Int))) × Int × (List (Int × Int × Int)) × Bool))) = iter (spec_l12Lose.S2 d) rnds :=
  funext (loop_iter spec_l12Lose.ll2 _ (spec_l12Lose.S2 d) (fun (L2 : LS → Option (TupT spec_l12Lose.sig.outs)) a => match a with | (x0, x1, x2, x3, x4, x5, x6, x7, x8, x9) => (spec_l12Lose.s2_eq (tab d) rnds L2 x0 x1 x2 x3 x4 x5 x6 x7 x8 x9).trans rfl) rnds)
theorem spec_l12Lose.S0_eq (d : Nat) : ((fun a => loopK (stp (spec_l12Lose.cx (tab d) rnds) spec_l12Lose.body [1, 1, 0, 1, 0] [] spec_l12Lose.fin) rnds (spec_l12Lose.ll0 a) : (Int × Int × (List (List Int)) × (List (Int × (List Int))) × Int × (List (Int × Int × Int)) × Bool × Int × Int × Int) → Option ((List (List Int)) × (List (Int × (List Int))) × Int × (List (Int × Int × Int)) × Bool))) = iter (spec_l12Lose.S0 d) rnds :=
  funext (loop_iter spec_l12Lose.ll0 _ (spec_l12Lose.S0 d) (fun (L0 : LS → Option (TupT spec_l12Lose.sig.outs)) a => match a with | (x0, x1, x2, x3, x4, x5, x6, x7, x8, x9) => (spec_l12Lose.s0_eq (tab d) rnds L0 x0 x1 x2 x3 x4 x5 x6 x7 x8 x9).trans (congrArg (fun z => spec_l12Lose.s0 z (fun a => L0 (spec_l12Lose.ll0 a)) (x0, x1, x2, x3, x4, x5, x6, x7, x8, x9)) (spec_l12Lose.S2_eq d))) rnds)
theorem spec_l12Lose.t_eq (d : Nat) (a0_0 : List (List Int)) (a0_1 : List (Int × (List Int))) (a0_2 : Int) (a0_3 : List (Int × Int × Int)) (a0_4 : Bool) (a1_0 : Int) (a1_1 : Int) (a1_2 : Int) : spec_l12Lose.f (d + 1) (a0_0, a0_1, a0_2, a0_3, a0_4, a1_0, a1_1, a1_2) = spec_l12Lose.m (iter (spec_l12Lose.S0 d) rnds) (a0_0, a0_1, a0_2, a0_3, a0_4, a1_0, a1_1, a1_2) :=
  Eq.trans (show spec_l12Lose.f (d + 1) (a0_0, a0_1, a0_2, a0_3, a0_4, a1_0, a1_1, a1_2) = run (spec_l12Lose.cx (tab d) rnds) spec_l12Lose.sig spec_l12Lose.rv spec_l12Lose.body (a0_0, a0_1, a0_2, a0_3, a0_4, a1_0, a1_1, a1_2) by kernel_rfl) ((spec_l12Lose.m_eq (tab d) rnds a0_0 a0_1 a0_2 a0_3 a0_4 a1_0 a1_1 a1_2).trans (congrArg (fun z => spec_l12Lose.m z (a0_0, a0_1, a0_2, a0_3, a0_4, a1_0, a1_1, a1_2)) (spec_l12Lose.S0_eq d)))
theorem spec_l12Flush.S0_eq (d : Nat) : ((fun a => loopK (stp (spec_l12Flush.cx (tab d) rnds) spec_l12Flush.body [1, 1, 1, 1, 1, 0, 1, 0] [] spec_l12Flush.fin) rnds (spec_l12Flush.ll0 a) : (Int × (List (List Int)) × (List (Int × (List Int))) × Int × (List (Int × Int × Int)) × Bool) → Option (Int × (List (List Int)) × (List (Int × (List Int))) × Int × (List (Int × Int × Int)) × Bool))) = iter (spec_l12Flush.S0 d) rnds :=
  funext (loop_iter spec_l12Flush.ll0 _ (spec_l12Flush.S0 d) (fun (L0 : LS → Option (TupT spec_l12Flush.sig.outs)) a => match a with | (x0, x1, x2, x3, x4, x5) => (spec_l12Flush.s0_eq (tab d) rnds L0 x0 x1 x2 x3 x4 x5).trans rfl) rnds)
theorem spec_l12Flush.t_eq (d : Nat) (a0_0 : List (List Int)) (a0_1 : List (Int × (List Int))) (a0_2 : Int) (a0_3 : List (Int × Int × Int)) (a0_4 : Bool) : spec_l12Flush.f (d + 1) (a0_0, a0_1, a0_2, a0_3, a0_4) = spec_l12Flush.m (spec_l12Fault.f d) (spec_l12Lose.f d) (iter (spec_l12Flush.S0 d) rnds) (a0_0, a0_1, a0_2, a0_3, a0_4) :=
  Eq.trans (show spec_l12Flush.f (d + 1) (a0_0, a0_1, a0_2, a0_3, a0_4) = run (spec_l12Flush.cx (tab d) rnds) spec_l12Flush.sig spec_l12Flush.rv spec_l12Flush.body (a0_0, a0_1, a0_2, a0_3, a0_4) by kernel_rfl) ((spec_l12Flush.m_eq (tab d) rnds a0_0 a0_1 a0_2 a0_3 a0_4).trans (congrArg (fun z => spec_l12Flush.m (tab d 105) (tab d 106) z (a0_0, a0_1, a0_2, a0_3, a0_4)) (spec_l12Flush.S0_eq d)))
theorem spec_l12Write.t_eq (d : Nat) (a0_0 : List (List Int)) (a0_1 : List (Int × (List Int))) (a0_2 : Int) (a0_3 : List (Int × Int × Int)) (a0_4 : Bool) (a1_0 : Int) (a2_0 : List Int) : spec_l12Write.f (d + 1) (a0_0, a0_1, a0_2, a0_3, a0_4, a1_0, a2_0) = spec_l12Write.m (spec_l12Fault.f d) (spec_l12Lose.f d) (a0_0, a0_1, a0_2, a0_3, a0_4, a1_0, a2_0) :=
  Eq.trans (show spec_l12Write.f (d + 1) (a0_0, a0_1, a0_2, a0_3, a0_4, a1_0, a2_0) = run (spec_l12Write.cx (tab d) rnds) spec_l12Write.sig spec_l12Write.rv spec_l12Write.body (a0_0, a0_1, a0_2, a0_3, a0_4, a1_0, a2_0) by kernel_rfl) ((spec_l12Write.m_eq (tab d) rnds a0_0 a0_1 a0_2 a0_3 a0_4 a1_0 a2_0).trans rfl)
theorem spec_l12Draw.S0_eq (d : Nat) : ((fun a => loopK (stp (spec_l12Draw.cx (tab d) rnds) spec_l12Draw.body [1, 1, 0, 1, 0] [] spec_l12Draw.fin) rnds (spec_l12Draw.ll0 a) : (Int × (List Int) × Int × Int × (List (List Int)) × (List (Int × (List Int))) × Int × (List (Int × Int × Int)) × Bool × (List (List Int)) × (List (Int × (List Int))) × Int × (List (Int × Int × Int)) × Bool) → Option ((List (List Int)) × (List (Int × (List Int))) × Int × (List (Int × Int × Int)) × Bool × Int × Int))) = iter (spec_l12Draw.S0 d) rnds :=
  funext (loop_iter spec_l12Draw.ll0 _ (spec_l12Draw.S0 d) (fun (L0 : LS → Option (TupT spec_l12Draw.sig.outs)) a => match a with | (x0, x1, x2, x3, x4, x5, x6, x7, x8, x9, x10, x11, x12, x13) => (spec_l12Draw.s0_eq (tab d) rnds L0 x0 x1 x2 x3 x4 x5 x6 x7 x8 x9 x10 x11 x12 x13).trans rfl) rnds)
theorem spec_l12Draw.t_eq (d : Nat) (a0_0 : List Int) (a0_1 : Int) (a0_2 : Int) : spec_l12Draw.f (d + 1) (a0_0, a0_1, a0_2) = spec_l12Draw.m (spec_DiskNew.f d) (spec_l12FaultList.f d) (spec_l1Below.f d) (iter (spec_l12Draw.S0 d) rnds) (a0_0, a0_1, a0_2) :=
  Eq.trans (show spec_l12Draw.f (d + 1) (a0_0, a0_1, a0_2) = run (spec_l12Draw.cx (tab d) rnds) spec_l12Draw.sig spec_l12Draw.rv spec_l12Draw.body (a0_0, a0_1, a0_2) by kernel_rfl) ((spec_l12Draw.m_eq (tab d) rnds a0_0 a0_1 a0_2).trans (congrArg (fun z => spec_l12Draw.m (tab d 20) (tab d 74) (tab d 87) z (a0_0, a0_1, a0_2)) (spec_l12Draw.S0_eq d)))
theorem spec_l12N.t_eq (d : Nat) (a0_0 : List Int) (a0_1 : Int) (a0_2 : Int) : spec_l12N.f (d + 1) (a0_0, a0_1, a0_2) = spec_l12N.m (spec_l1Int.f d) (a0_0, a0_1, a0_2) :=
  Eq.trans (show spec_l12N.f (d + 1) (a0_0, a0_1, a0_2) = run (spec_l12N.cx (tab d) rnds) spec_l12N.sig spec_l12N.rv spec_l12N.body (a0_0, a0_1, a0_2) by kernel_rfl) ((spec_l12N.m_eq (tab d) rnds a0_0 a0_1 a0_2).trans rfl)
theorem laws_sameBytes.S0_eq (d : Nat) : ((fun a => loopK (stp (laws_sameBytes.cx (tab d) rnds) laws_sameBytes.body [1, 1, 0, 1, 0] [] laws_sameBytes.fin) rnds (laws_sameBytes.ll0 a) : ((List Int) × (List Int) × Int) → Option (Bool))) = iter (laws_sameBytes.S0 d) rnds :=
  funext (loop_iter laws_sameBytes.ll0 _ (laws_sameBytes.S0 d) (fun (L0 : LS → Option (TupT laws_sameBytes.sig.outs)) a => match a with | (x0, x1, x2) => (laws_sameBytes.s0_eq (tab d) rnds L0 x0 x1 x2).trans rfl) rnds)
theorem laws_sameBytes.t_eq (d : Nat) (a0_0 : List Int) (a1_0 : List Int) : laws_sameBytes.f (d + 1) (a0_0, a1_0) = laws_sameBytes.m (iter (laws_sameBytes.S0 d) rnds) (a0_0, a1_0) :=
  Eq.trans (show laws_sameBytes.f (d + 1) (a0_0, a1_0) = run (laws_sameBytes.cx (tab d) rnds) laws_sameBytes.sig laws_sameBytes.rv laws_sameBytes.body (a0_0, a1_0) by kernel_rfl) ((laws_sameBytes.m_eq (tab d) rnds a0_0 a1_0).trans (congrArg (fun z => laws_sameBytes.m z (a0_0, a1_0)) (laws_sameBytes.S0_eq d)))
theorem spec_l1Bend.t_eq (d : Nat) (a0_0 : List Int) (a0_1 : Int) (a0_2 : Int) (a1_0 : List Int) : spec_l1Bend.f (d + 1) (a0_0, a0_1, a0_2, a1_0) = spec_l1Bend.m (spec_l1Int.f d) (spec_l1Below.f d) (a0_0, a0_1, a0_2, a1_0) :=
  Eq.trans (show spec_l1Bend.f (d + 1) (a0_0, a0_1, a0_2, a1_0) = run (spec_l1Bend.cx (tab d) rnds) spec_l1Bend.sig spec_l1Bend.rv spec_l1Bend.body (a0_0, a0_1, a0_2, a1_0) by kernel_rfl) ((spec_l1Bend.m_eq (tab d) rnds a0_0 a0_1 a0_2 a1_0).trans rfl)
theorem spec_Crc.S2_eq (d : Nat) (L0 : LS → Option (TupT spec_Crc.sig.outs)) : ((fun a => loopK (stp (spec_Crc.cx (tab d) rnds) spec_Crc.body [1, 1, 0, 1, 0, 0, 1, 0, 0, 1, 1, 0] [L0] spec_Crc.fin) rnds (spec_Crc.ll2 a) : ((List Int) × Int × Int × Int) → Option (Int))) = iter (spec_Crc.S2 d (fun a => L0 (spec_Crc.ll0 a))) rnds :=
  funext (loop_iter spec_Crc.ll2 _ (spec_Crc.S2 d (fun a => L0 (spec_Crc.ll0 a))) (fun (L2 : LS → Option (TupT spec_Crc.sig.outs)) a => match a with | (x0, x1, x2, x3) => (spec_Crc.s2_eq (tab d) rnds L0 L2 x0 x1 x2 x3).trans rfl) rnds)
theorem spec_Crc.S0_eq (d : Nat) : ((fun a => loopK (stp (spec_Crc.cx (tab d) rnds) spec_Crc.body [1, 1, 0, 1, 0] [] spec_Crc.fin) rnds (spec_Crc.ll0 a) : ((List Int) × Int × Int) → Option (Int))) = iter (spec_Crc.S0 d) rnds :=
  funext (loop_iter spec_Crc.ll0 _ (spec_Crc.S0 d) (fun (L0 : LS → Option (TupT spec_Crc.sig.outs)) a => match a with | (x0, x1, x2) => (spec_Crc.s0_eq (tab d) rnds L0 x0 x1 x2).trans (congrArg (fun z => spec_Crc.s0 z (fun a => L0 (spec_Crc.ll0 a)) (x0, x1, x2)) (spec_Crc.S2_eq d L0))) rnds)
theorem spec_Crc.t_eq (d : Nat) (a0_0 : List Int) : spec_Crc.f (d + 1) a0_0 = spec_Crc.m (iter (spec_Crc.S0 d) rnds) a0_0 :=
  Eq.trans (show spec_Crc.f (d + 1) a0_0 = run (spec_Crc.cx (tab d) rnds) spec_Crc.sig spec_Crc.rv spec_Crc.body a0_0 by kernel_rfl) ((spec_Crc.m_eq (tab d) rnds a0_0).trans (congrArg (fun z => spec_Crc.m z a0_0) (spec_Crc.S0_eq d)))
theorem spec_PutSum.t_eq (d : Nat) (a0_0 : List Int) : spec_PutSum.f (d + 1) a0_0 = spec_PutSum.m (spec_Crc.f d) a0_0 :=
  Eq.trans (show spec_PutSum.f (d + 1) a0_0 = run (spec_PutSum.cx (tab d) rnds) spec_PutSum.sig spec_PutSum.rv spec_PutSum.body a0_0 by kernel_rfl) ((spec_PutSum.m_eq (tab d) rnds a0_0).trans rfl)
theorem spec_PutU.S0_eq (d : Nat) : ((fun a => loopK (stp (spec_PutU.cx (tab d) rnds) spec_PutU.body [1, 1, 1, 1, 0, 0] [] spec_PutU.fin) rnds (spec_PutU.ll0 a) : (Int × (List Int)) → Option (List Int))) = iter (spec_PutU.S0 d) rnds :=
  funext (loop_iter spec_PutU.ll0 _ (spec_PutU.S0 d) (fun (L0 : LS → Option (TupT spec_PutU.sig.outs)) a => match a with | (x0, x1) => (spec_PutU.s0_eq (tab d) rnds L0 x0 x1).trans rfl) rnds)
theorem spec_PutU.t_eq (d : Nat) (a0_0 : List Int) (a1_0 : Int) : spec_PutU.f (d + 1) (a0_0, a1_0) = spec_PutU.m (iter (spec_PutU.S0 d) rnds) (a0_0, a1_0) :=
  Eq.trans (show spec_PutU.f (d + 1) (a0_0, a1_0) = run (spec_PutU.cx (tab d) rnds) spec_PutU.sig spec_PutU.rv spec_PutU.body (a0_0, a1_0) by kernel_rfl) ((spec_PutU.m_eq (tab d) rnds a0_0 a1_0).trans (congrArg (fun z => spec_PutU.m z (a0_0, a1_0)) (spec_PutU.S0_eq d)))
theorem spec_PutText.t_eq (d : Nat) (a0_0 : List Int) (a1_0 : ByteArray) : spec_PutText.f (d + 1) (a0_0, a1_0) = spec_PutText.m (spec_PutU.f d) (a0_0, a1_0) :=
  Eq.trans (show spec_PutText.f (d + 1) (a0_0, a1_0) = run (spec_PutText.cx (tab d) rnds) spec_PutText.sig spec_PutText.rv spec_PutText.body (a0_0, a1_0) by kernel_rfl) ((spec_PutText.m_eq (tab d) rnds a0_0 a1_0).trans rfl)
theorem spec_PutPage.t_eq (d : Nat) (a0_0 : Int) (a1_0 : List Int) : spec_PutPage.f (d + 1) (a0_0, a1_0) = spec_PutPage.m (spec_l1In.f d) (spec_PutSum.f d) (spec_PutText.f d) (spec_PutU.f d) (a0_0, a1_0) :=
  Eq.trans (show spec_PutPage.f (d + 1) (a0_0, a1_0) = run (spec_PutPage.cx (tab d) rnds) spec_PutPage.sig spec_PutPage.rv spec_PutPage.body (a0_0, a1_0) by kernel_rfl) ((spec_PutPage.m_eq (tab d) rnds a0_0 a1_0).trans rfl)
theorem spec_DrawGetPage.t_eq (d : Nat) (a0_0 : List Int) : spec_DrawGetPage.f (d + 1) a0_0 = spec_DrawGetPage.m (spec_l1New.f d) (spec_l1Some.f d) (spec_l1Below.f d) (spec_l1Bend.f d) (spec_PutPage.f d) a0_0 :=
  Eq.trans (show spec_DrawGetPage.f (d + 1) a0_0 = run (spec_DrawGetPage.cx (tab d) rnds) spec_DrawGetPage.sig spec_DrawGetPage.rv spec_DrawGetPage.body a0_0 by kernel_rfl) ((spec_DrawGetPage.m_eq (tab d) rnds a0_0).trans rfl)
theorem impl_Crc.S2_eq (d : Nat) (L0 : LS → Option (TupT impl_Crc.sig.outs)) : ((fun a => loopK (stp (impl_Crc.cx (tab d) rnds) impl_Crc.body [1, 1, 0, 1, 0, 0, 1, 1, 0, 0, 1, 1, 1, 0] [L0] impl_Crc.fin) rnds (impl_Crc.ll2 a) : (Int × (List Int) × Int × Int × Int) → Option (Int))) = iter (impl_Crc.S2 d (fun a => L0 (impl_Crc.ll0 a))) rnds :=
  funext (loop_iter impl_Crc.ll2 _ (impl_Crc.S2 d (fun a => L0 (impl_Crc.ll0 a))) (fun (L2 : LS → Option (TupT impl_Crc.sig.outs)) a => match a with | (x0, x1, x2, x3, x4) => (impl_Crc.s2_eq (tab d) rnds L0 L2 x0 x1 x2 x3 x4).trans rfl) rnds)
theorem impl_Crc.S0_eq (d : Nat) : ((fun a => loopK (stp (impl_Crc.cx (tab d) rnds) impl_Crc.body [1, 1, 0, 1, 0] [] impl_Crc.fin) rnds (impl_Crc.ll0 a) : (Int × (List Int) × Int × Int) → Option (Int))) = iter (impl_Crc.S0 d) rnds :=
  funext (loop_iter impl_Crc.ll0 _ (impl_Crc.S0 d) (fun (L0 : LS → Option (TupT impl_Crc.sig.outs)) a => match a with | (x0, x1, x2, x3) => (impl_Crc.s0_eq (tab d) rnds L0 x0 x1 x2 x3).trans (congrArg (fun z => impl_Crc.s0 z (fun a => L0 (impl_Crc.ll0 a)) (x0, x1, x2, x3)) (impl_Crc.S2_eq d L0))) rnds)
theorem impl_Crc.t_eq (d : Nat) (a0_0 : List Int) : impl_Crc.f (d + 1) a0_0 = impl_Crc.m (iter (impl_Crc.S0 d) rnds) a0_0 :=
  Eq.trans (show impl_Crc.f (d + 1) a0_0 = run (impl_Crc.cx (tab d) rnds) impl_Crc.sig impl_Crc.rv impl_Crc.body a0_0 by kernel_rfl) ((impl_Crc.m_eq (tab d) rnds a0_0).trans (congrArg (fun z => impl_Crc.m z a0_0) (impl_Crc.S0_eq d)))
theorem impl_addSum.t_eq (d : Nat) (a0_0 : List Int) : impl_addSum.f (d + 1) a0_0 = impl_addSum.m (impl_Crc.f d) a0_0 :=
  Eq.trans (show impl_addSum.f (d + 1) a0_0 = run (impl_addSum.cx (tab d) rnds) impl_addSum.sig impl_addSum.rv impl_addSum.body a0_0 by kernel_rfl) ((impl_addSum.m_eq (tab d) rnds a0_0).trans rfl)
theorem impl_clamp.t_eq (d : Nat) (a0_0 : Int) (a1_0 : Int) (a2_0 : Int) : impl_clamp.f (d + 1) (a0_0, a1_0, a2_0) = impl_clamp.m  (a0_0, a1_0, a2_0) :=
  Eq.trans (show impl_clamp.f (d + 1) (a0_0, a1_0, a2_0) = run (impl_clamp.cx (tab d) rnds) impl_clamp.sig impl_clamp.rv impl_clamp.body (a0_0, a1_0, a2_0) by kernel_rfl) ((impl_clamp.m_eq (tab d) rnds a0_0 a1_0 a2_0).trans rfl)
theorem impl_addU.S0_eq (d : Nat) : ((fun a => loopK (stp (impl_addU.cx (tab d) rnds) impl_addU.body [1, 1, 0, 0] [] impl_addU.fin) rnds (impl_addU.ll0 a) : (Int × (List Int)) → Option (List Int))) = iter (impl_addU.S0 d) rnds :=
  funext (loop_iter impl_addU.ll0 _ (impl_addU.S0 d) (fun (L0 : LS → Option (TupT impl_addU.sig.outs)) a => match a with | (x0, x1) => (impl_addU.s0_eq (tab d) rnds L0 x0 x1).trans rfl) rnds)
theorem impl_addU.t_eq (d : Nat) (a0_0 : List Int) (a1_0 : Int) : impl_addU.f (d + 1) (a0_0, a1_0) = impl_addU.m (impl_clamp.f d) (iter (impl_addU.S0 d) rnds) (a0_0, a1_0) :=
  Eq.trans (show impl_addU.f (d + 1) (a0_0, a1_0) = run (impl_addU.cx (tab d) rnds) impl_addU.sig impl_addU.rv impl_addU.body (a0_0, a1_0) by kernel_rfl) ((impl_addU.m_eq (tab d) rnds a0_0 a1_0).trans (congrArg (fun z => impl_addU.m (tab d 115) z (a0_0, a1_0)) (impl_addU.S0_eq d)))
theorem impl_addText.t_eq (d : Nat) (a0_0 : List Int) (a1_0 : ByteArray) : impl_addText.f (d + 1) (a0_0, a1_0) = impl_addText.m (impl_addU.f d) (a0_0, a1_0) :=
  Eq.trans (show impl_addText.f (d + 1) (a0_0, a1_0) = run (impl_addText.cx (tab d) rnds) impl_addText.sig impl_addText.rv impl_addText.body (a0_0, a1_0) by kernel_rfl) ((impl_addText.m_eq (tab d) rnds a0_0 a1_0).trans rfl)
theorem impl_PutPage.t_eq (d : Nat) (a0_0 : Int) (a1_0 : List Int) : impl_PutPage.f (d + 1) (a0_0, a1_0) = impl_PutPage.m (impl_in.f d) (impl_addSum.f d) (impl_addText.f d) (impl_addU.f d) (a0_0, a1_0) :=
  Eq.trans (show impl_PutPage.f (d + 1) (a0_0, a1_0) = run (impl_PutPage.cx (tab d) rnds) impl_PutPage.sig impl_PutPage.rv impl_PutPage.body (a0_0, a1_0) by kernel_rfl) ((impl_PutPage.m_eq (tab d) rnds a0_0 a1_0).trans rfl)
theorem impl_PutSum.t_eq (d : Nat) (a0_0 : List Int) : impl_PutSum.f (d + 1) a0_0 = impl_PutSum.m (impl_copyBytes.f d) (impl_addSum.f d) a0_0 :=
  Eq.trans (show impl_PutSum.f (d + 1) a0_0 = run (impl_PutSum.cx (tab d) rnds) impl_PutSum.sig impl_PutSum.rv impl_PutSum.body a0_0 by kernel_rfl) ((impl_PutSum.m_eq (tab d) rnds a0_0).trans rfl)
theorem impl_GetSum.t_eq (d : Nat) (a0_0 : List Int) : impl_GetSum.f (d + 1) a0_0 = impl_GetSum.m (impl_copyBytes.f d) (impl_PutSum.f d) a0_0 :=
  Eq.trans (show impl_GetSum.f (d + 1) a0_0 = run (impl_GetSum.cx (tab d) rnds) impl_GetSum.sig impl_GetSum.rv impl_GetSum.body a0_0 by kernel_rfl) ((impl_GetSum.m_eq (tab d) rnds a0_0).trans rfl)
theorem impl_GetU.S0_eq (d : Nat) : ((fun a => loopK (stp (impl_GetU.cx (tab d) rnds) impl_GetU.body [1, 1, 0, 1, 0] [] impl_GetU.fin) rnds (impl_GetU.ll0 a) : ((List Int) × Int × Int × Int) → Option (Int × Int × Bool))) = iter (impl_GetU.S0 d) rnds :=
  funext (loop_iter impl_GetU.ll0 _ (impl_GetU.S0 d) (fun (L0 : LS → Option (TupT impl_GetU.sig.outs)) a => match a with | (x0, x1, x2, x3) => (impl_GetU.s0_eq (tab d) rnds L0 x0 x1 x2 x3).trans rfl) rnds)
theorem impl_GetU.t_eq (d : Nat) (a0_0 : List Int) (a1_0 : Int) : impl_GetU.f (d + 1) (a0_0, a1_0) = impl_GetU.m (iter (impl_GetU.S0 d) rnds) (a0_0, a1_0) :=
  Eq.trans (show impl_GetU.f (d + 1) (a0_0, a1_0) = run (impl_GetU.cx (tab d) rnds) impl_GetU.sig impl_GetU.rv impl_GetU.body (a0_0, a1_0) by kernel_rfl) ((impl_GetU.m_eq (tab d) rnds a0_0 a1_0).trans (congrArg (fun z => impl_GetU.m z (a0_0, a1_0)) (impl_GetU.S0_eq d)))
theorem impl_GetText.t_eq (d : Nat) (a0_0 : List Int) (a1_0 : Int) : impl_GetText.f (d + 1) (a0_0, a1_0) = impl_GetText.m (impl_GetU.f d) (a0_0, a1_0) :=
  Eq.trans (show impl_GetText.f (d + 1) (a0_0, a1_0) = run (impl_GetText.cx (tab d) rnds) impl_GetText.sig impl_GetText.rv impl_GetText.body (a0_0, a1_0) by kernel_rfl) ((impl_GetText.m_eq (tab d) rnds a0_0 a1_0).trans rfl)
theorem impl_GetPage.t_eq (d : Nat) (a0_0 : List Int) : impl_GetPage.f (d + 1) a0_0 = impl_GetPage.m (impl_PutPage.f d) (impl_GetSum.f d) (impl_GetU.f d) (impl_GetText.f d) a0_0 :=
  Eq.trans (show impl_GetPage.f (d + 1) a0_0 = run (impl_GetPage.cx (tab d) rnds) impl_GetPage.sig impl_GetPage.rv impl_GetPage.body a0_0 by kernel_rfl) ((impl_GetPage.m_eq (tab d) rnds a0_0).trans rfl)
theorem spec_GetSum.S0_eq (d : Nat) : ((fun a => loopK (stp (spec_GetSum.cx (tab d) rnds) spec_GetSum.body [1, 1, 1, 1, 0, 1, 0] [] spec_GetSum.fin) rnds (spec_GetSum.ll0 a) : ((List Int) × Int × Int × Int) → Option ((List Int) × Bool))) = iter (spec_GetSum.S0 d) rnds :=
  funext (loop_iter spec_GetSum.ll0 _ (spec_GetSum.S0 d) (fun (L0 : LS → Option (TupT spec_GetSum.sig.outs)) a => match a with | (x0, x1, x2, x3) => (spec_GetSum.s0_eq (tab d) rnds L0 x0 x1 x2 x3).trans rfl) rnds)
theorem spec_GetSum.t_eq (d : Nat) (a0_0 : List Int) : spec_GetSum.f (d + 1) a0_0 = spec_GetSum.m (iter (spec_GetSum.S0 d) rnds) a0_0 :=
  Eq.trans (show spec_GetSum.f (d + 1) a0_0 = run (spec_GetSum.cx (tab d) rnds) spec_GetSum.sig spec_GetSum.rv spec_GetSum.body a0_0 by kernel_rfl) ((spec_GetSum.m_eq (tab d) rnds a0_0).trans (congrArg (fun z => spec_GetSum.m z a0_0) (spec_GetSum.S0_eq d)))
theorem spec_GetU.S0_eq (d : Nat) : ((fun a => loopK (stp (spec_GetU.cx (tab d) rnds) spec_GetU.body [1, 1, 0, 1, 0] [] spec_GetU.fin) rnds (spec_GetU.ll0 a) : ((List Int) × Int × Int × Int) → Option (Int × Int × Bool))) = iter (spec_GetU.S0 d) rnds :=
  funext (loop_iter spec_GetU.ll0 _ (spec_GetU.S0 d) (fun (L0 : LS → Option (TupT spec_GetU.sig.outs)) a => match a with | (x0, x1, x2, x3) => (spec_GetU.s0_eq (tab d) rnds L0 x0 x1 x2 x3).trans rfl) rnds)
theorem spec_GetU.t_eq (d : Nat) (a0_0 : List Int) (a1_0 : Int) : spec_GetU.f (d + 1) (a0_0, a1_0) = spec_GetU.m (iter (spec_GetU.S0 d) rnds) (a0_0, a1_0) :=
  Eq.trans (show spec_GetU.f (d + 1) (a0_0, a1_0) = run (spec_GetU.cx (tab d) rnds) spec_GetU.sig spec_GetU.rv spec_GetU.body (a0_0, a1_0) by kernel_rfl) ((spec_GetU.m_eq (tab d) rnds a0_0 a1_0).trans (congrArg (fun z => spec_GetU.m z (a0_0, a1_0)) (spec_GetU.S0_eq d)))
theorem spec_GetText.t_eq (d : Nat) (a0_0 : List Int) (a1_0 : Int) : spec_GetText.f (d + 1) (a0_0, a1_0) = spec_GetText.m (spec_GetU.f d) (a0_0, a1_0) :=
  Eq.trans (show spec_GetText.f (d + 1) (a0_0, a1_0) = run (spec_GetText.cx (tab d) rnds) spec_GetText.sig spec_GetText.rv spec_GetText.body (a0_0, a1_0) by kernel_rfl) ((spec_GetText.m_eq (tab d) rnds a0_0 a1_0).trans rfl)
theorem spec_GetPage.t_eq (d : Nat) (a0_0 : List Int) : spec_GetPage.f (d + 1) a0_0 = spec_GetPage.m (spec_l1In.f d) (spec_GetSum.f d) (spec_GetU.f d) (spec_GetText.f d) a0_0 :=
  Eq.trans (show spec_GetPage.f (d + 1) a0_0 = run (spec_GetPage.cx (tab d) rnds) spec_GetPage.sig spec_GetPage.rv spec_GetPage.body a0_0 by kernel_rfl) ((spec_GetPage.m_eq (tab d) rnds a0_0).trans rfl)
theorem spec_DrawPageAt.t_eq (d : Nat) (a0_0 : List Int) : spec_DrawPageAt.f (d + 1) a0_0 = spec_DrawPageAt.m (spec_l1New.f d) (spec_l1Once.f d) (spec_l12N.f d) (spec_l1Some.f d) (spec_l1Below.f d) (spec_l1Bend.f d) (spec_PutPage.f d) (spec_l12Draw.f d) a0_0 :=
  Eq.trans (show spec_DrawPageAt.f (d + 1) a0_0 = run (spec_DrawPageAt.cx (tab d) rnds) spec_DrawPageAt.sig spec_DrawPageAt.rv spec_DrawPageAt.body a0_0 by kernel_rfl) ((spec_DrawPageAt.m_eq (tab d) rnds a0_0).trans rfl)
theorem impl_PageAt.t_eq (d : Nat) (a0_0 : List (List Int)) (a0_1 : List (Int × (List Int))) (a0_2 : Int) (a0_3 : List (Int × Int × Int)) (a0_4 : Bool) (a1_0 : Int) (a2_0 : Int) : impl_PageAt.f (d + 1) (a0_0, a0_1, a0_2, a0_3, a0_4, a1_0, a2_0) = impl_PageAt.m (impl_ReadSec.f d) (impl_GetPage.f d) (a0_0, a0_1, a0_2, a0_3, a0_4, a1_0, a2_0) :=
  Eq.trans (show impl_PageAt.f (d + 1) (a0_0, a0_1, a0_2, a0_3, a0_4, a1_0, a2_0) = run (impl_PageAt.cx (tab d) rnds) impl_PageAt.sig impl_PageAt.rv impl_PageAt.body (a0_0, a0_1, a0_2, a0_3, a0_4, a1_0, a2_0) by kernel_rfl) ((impl_PageAt.m_eq (tab d) rnds a0_0 a0_1 a0_2 a0_3 a0_4 a1_0 a2_0).trans rfl)
theorem spec_PageAt.t_eq (d : Nat) (a0_0 : List (List Int)) (a0_1 : List (Int × (List Int))) (a0_2 : Int) (a0_3 : List (Int × Int × Int)) (a0_4 : Bool) (a1_0 : Int) (a2_0 : Int) : spec_PageAt.f (d + 1) (a0_0, a0_1, a0_2, a0_3, a0_4, a1_0, a2_0) = spec_PageAt.m (spec_ReadSec.f d) (spec_GetPage.f d) (a0_0, a0_1, a0_2, a0_3, a0_4, a1_0, a2_0) :=
  Eq.trans (show spec_PageAt.f (d + 1) (a0_0, a0_1, a0_2, a0_3, a0_4, a1_0, a2_0) = run (spec_PageAt.cx (tab d) rnds) spec_PageAt.sig spec_PageAt.rv spec_PageAt.body (a0_0, a0_1, a0_2, a0_3, a0_4, a1_0, a2_0) by kernel_rfl) ((spec_PageAt.m_eq (tab d) rnds a0_0 a0_1 a0_2 a0_3 a0_4 a1_0 a2_0).trans rfl)
theorem laws_FnPagesRead.t_eq (d : Nat) (a0_0 : List Int) : laws_FnPagesRead.f (d + 1) a0_0 = laws_FnPagesRead.m (laws_big.f d) (laws_sameBytes.f d) (spec_DrawGetPage.f d) (impl_GetPage.f d) (spec_GetPage.f d) (spec_DrawPageAt.f d) (impl_PageAt.f d) (spec_PageAt.f d) (impl_PutPage.f d) a0_0 :=
  Eq.trans (show laws_FnPagesRead.f (d + 1) a0_0 = run (laws_FnPagesRead.cx (tab d) rnds) laws_FnPagesRead.sig laws_FnPagesRead.rv laws_FnPagesRead.body a0_0 by kernel_rfl) ((laws_FnPagesRead.m_eq (tab d) rnds a0_0).trans rfl)
theorem tys_ok (t : Nat) : tyOk Try.prog t (tys t) = true := by unfold tys; split <;> kernel_rfl
theorem eqts_ok (t : Nat) (h : eqts t = true) : eqOk Try.prog t (tys t) = true := by
  have h2 := memN_mem.1 h
  simp only [List.mem_cons, List.not_mem_nil, or_false] at h2
theorem mix_ok : Try.prog.follows .mixedOrders = true := by kernel_rfl
theorem sig_ok (f : Nat) : ∀ r ∈ (fns f).sig.rs, 0 < r.2.length := by
  have h : (fns f).sig.rs.all (fun r => decide (0 < r.2.length)) = true := by unfold fns; split <;> kernel_rfl
  intro r hr
  simpa using List.all_eq_true.1 h r hr
theorem fn_ok (f : Nat) : FnOk Try.prog f (fns f) := by
  unfold fns
  split
  · exact .inl ⟨Try.f58, Try.func58, by kernel_rfl, by kernel_rfl, by decide +kernel, by decide +kernel⟩
  · exact .inl ⟨Try.f59, Try.func59, by kernel_rfl, by kernel_rfl, by decide +kernel, by decide +kernel⟩
  · exact .inl ⟨Try.f62, Try.func62, by kernel_rfl, by kernel_rfl, by decide +kernel, by decide +kernel⟩
  · exact .inl ⟨Try.f20, Try.func20, by kernel_rfl, by kernel_rfl, by decide +kernel, by decide +kernel⟩
  · exact .inl ⟨Try.f27, Try.func27, by kernel_rfl, by kernel_rfl, by decide +kernel, by decide +kernel⟩
  · exact .inl ⟨Try.f72, Try.func72, by kernel_rfl, by kernel_rfl, by decide +kernel, by decide +kernel⟩
  · exact .inl ⟨Try.f28, Try.func28, by kernel_rfl, by kernel_rfl, by decide +kernel, by decide +kernel⟩
  · exact .inl ⟨Try.f32, Try.func32, by kernel_rfl, by kernel_rfl, by decide +kernel, by decide +kernel⟩
  · exact .inl ⟨Try.f73, Try.func73, by kernel_rfl, by kernel_rfl, by decide +kernel, by decide +kernel⟩
  · exact .inl ⟨Try.f108, Try.func108, by kernel_rfl, by kernel_rfl, by decide +kernel, by decide +kernel⟩
  · exact .inl ⟨Try.f87, Try.func87, by kernel_rfl, by kernel_rfl, by decide +kernel, by decide +kernel⟩
  · exact .inl ⟨Try.f76, Try.func76, by kernel_rfl, by kernel_rfl, by decide +kernel, by decide +kernel⟩
  · exact .inl ⟨Try.f74, Try.func74, by kernel_rfl, by kernel_rfl, by decide +kernel, by decide +kernel⟩
  · exact .inl ⟨Try.f75, Try.func75, by kernel_rfl, by kernel_rfl, by decide +kernel, by decide +kernel⟩
  · exact .inl ⟨Try.f107, Try.func107, by kernel_rfl, by kernel_rfl, by decide +kernel, by decide +kernel⟩
  · exact .inl ⟨Try.f86, Try.func86, by kernel_rfl, by kernel_rfl, by decide +kernel, by decide +kernel⟩
  · exact .inl ⟨Try.f105, Try.func105, by kernel_rfl, by kernel_rfl, by decide +kernel, by decide +kernel⟩
  · exact .inl ⟨Try.f106, Try.func106, by kernel_rfl, by kernel_rfl, by decide +kernel, by decide +kernel⟩
  · exact .inl ⟨Try.f85, Try.func85, by kernel_rfl, by kernel_rfl, by decide +kernel, by decide +kernel⟩
  · exact .inl ⟨Try.f88, Try.func88, by kernel_rfl, by kernel_rfl, by decide +kernel, by decide +kernel⟩
  · exact .inl ⟨Try.f97, Try.func97, by kernel_rfl, by kernel_rfl, by decide +kernel, by decide +kernel⟩
  · exact .inl ⟨Try.f79, Try.func79, by kernel_rfl, by kernel_rfl, by decide +kernel, by decide +kernel⟩
  · exact .inl ⟨Try.f38, Try.func38, by kernel_rfl, by kernel_rfl, by decide +kernel, by decide +kernel⟩
  · exact .inl ⟨Try.f89, Try.func89, by kernel_rfl, by kernel_rfl, by decide +kernel, by decide +kernel⟩
  · exact .inl ⟨Try.f113, Try.func113, by kernel_rfl, by kernel_rfl, by decide +kernel, by decide +kernel⟩
  · exact .inl ⟨Try.f109, Try.func109, by kernel_rfl, by kernel_rfl, by decide +kernel, by decide +kernel⟩
  · exact .inl ⟨Try.f111, Try.func111, by kernel_rfl, by kernel_rfl, by decide +kernel, by decide +kernel⟩
  · exact .inl ⟨Try.f110, Try.func110, by kernel_rfl, by kernel_rfl, by decide +kernel, by decide +kernel⟩
  · exact .inl ⟨Try.f90, Try.func90, by kernel_rfl, by kernel_rfl, by decide +kernel, by decide +kernel⟩
  · exact .inl ⟨Try.f48, Try.func48, by kernel_rfl, by kernel_rfl, by decide +kernel, by decide +kernel⟩
  · exact .inl ⟨Try.f114, Try.func114, by kernel_rfl, by kernel_rfl, by decide +kernel, by decide +kernel⟩
  · exact .inl ⟨Try.f98, Try.func98, by kernel_rfl, by kernel_rfl, by decide +kernel, by decide +kernel⟩
  · exact .inl ⟨Try.f115, Try.func115, by kernel_rfl, by kernel_rfl, by decide +kernel, by decide +kernel⟩
  · exact .inl ⟨Try.f100, Try.func100, by kernel_rfl, by kernel_rfl, by decide +kernel, by decide +kernel⟩
  · exact .inl ⟨Try.f99, Try.func99, by kernel_rfl, by kernel_rfl, by decide +kernel, by decide +kernel⟩
  · exact .inl ⟨Try.f54, Try.func54, by kernel_rfl, by kernel_rfl, by decide +kernel, by decide +kernel⟩
  · exact .inl ⟨Try.f112, Try.func112, by kernel_rfl, by kernel_rfl, by decide +kernel, by decide +kernel⟩
  · exact .inl ⟨Try.f91, Try.func91, by kernel_rfl, by kernel_rfl, by decide +kernel, by decide +kernel⟩
  · exact .inl ⟨Try.f92, Try.func92, by kernel_rfl, by kernel_rfl, by decide +kernel, by decide +kernel⟩
  · exact .inl ⟨Try.f93, Try.func93, by kernel_rfl, by kernel_rfl, by decide +kernel, by decide +kernel⟩
  · exact .inl ⟨Try.f49, Try.func49, by kernel_rfl, by kernel_rfl, by decide +kernel, by decide +kernel⟩
  · exact .inl ⟨Try.f94, Try.func94, by kernel_rfl, by kernel_rfl, by decide +kernel, by decide +kernel⟩
  · exact .inl ⟨Try.f95, Try.func95, by kernel_rfl, by kernel_rfl, by decide +kernel, by decide +kernel⟩
  · exact .inl ⟨Try.f96, Try.func96, by kernel_rfl, by kernel_rfl, by decide +kernel, by decide +kernel⟩
  · exact .inl ⟨Try.f50, Try.func50, by kernel_rfl, by kernel_rfl, by decide +kernel, by decide +kernel⟩
  · exact .inl ⟨Try.f51, Try.func51, by kernel_rfl, by kernel_rfl, by decide +kernel, by decide +kernel⟩
  · exact .inl ⟨Try.f52, Try.func52, by kernel_rfl, by kernel_rfl, by decide +kernel, by decide +kernel⟩
  · exact .inl ⟨Try.f53, Try.func53, by kernel_rfl, by kernel_rfl, by decide +kernel, by decide +kernel⟩
  · exact .inl ⟨Try.f10, Try.func10, by kernel_rfl, by kernel_rfl, by decide +kernel, by decide +kernel⟩
  · exact .inr ⟨ "", rfl⟩
theorem sound (d f : Nat) : Contract Try.prog (fns f).sig f (tab d f) := table_sound tys_ok eqts_ok mix_ok sig_ok (fun f _ => fn_ok f) (fun _ _ h => by cases h) d f
end
end Go.PV.T
