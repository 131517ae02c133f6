/- Functions of the program by their own lists and numbers. No condition beyond those in each statement. -/
import Derived.Test.YticedidmodmdnaaPvRSx1
import Derived.Test.YticedidmodmdnaaPvLibD
set_option maxRecDepth 100000
set_option linter.unusedVariables false
namespace Go.PV.T
open Go.Proofs
noncomputable section
noncomputable def tab : Nat → (f : Nat) → TupT (sigs f).ins → Option (TupT (sigs f).outs) := table tys eqts fns (fun _ => none) rnds
noncomputable def laws_szFaultS.f (d : Nat) : ((List (Int × Int × Int)) × Int) → Option (Int) := tab d 19
noncomputable def laws_szByteS.f (d : Nat) : ((List Int) × Int) → Option (Int) := tab d 101
noncomputable def laws_szByteSS.f (d : Nat) : ((List (List Int)) × Int) → Option (Int) := tab d 56
noncomputable def laws_szWrite.f (d : Nat) : (Int × (List Int) × Int) → Option (Int) := tab d 102
noncomputable def laws_szWriteS.f (d : Nat) : ((List (Int × (List Int))) × Int) → Option (Int) := tab d 57
noncomputable def laws_szDisk.f (d : Nat) : ((List (List Int)) × (List (Int × (List Int))) × Int × (List (Int × Int × Int)) × Bool × Int) → Option (Int) := tab d 14
noncomputable def spec_l1In.f (d : Nat) : (Int × Int × Int) → Option (Bool) := tab d 58
noncomputable def laws_toFault.f (d : Nat) : (Int × Int × Int) → Option (Int × Int × Int) := tab d 65
noncomputable def laws_toFaultS.f (d : Nat) : (List (Int × Int × Int)) → Option (List (Int × Int × Int)) := tab d 21
noncomputable def laws_toByteS.f (d : Nat) : (List Int) → Option (List Int) := tab d 55
noncomputable def laws_toByteSS.f (d : Nat) : (List (List Int)) → Option (List (List Int)) := tab d 60
noncomputable def laws_toWrite.f (d : Nat) : (Int × (List Int)) → Option (Int × (List Int)) := tab d 103
noncomputable def laws_toWriteS.f (d : Nat) : (List (Int × (List Int))) → Option (List (Int × (List Int))) := tab d 61
noncomputable def laws_toDisk.f (d : Nat) : ((List (List Int)) × (List (Int × (List Int))) × Int × (List (Int × Int × Int)) × Bool) → Option ((List (List Int)) × (List (Int × (List Int))) × Int × (List (Int × Int × Int)) × Bool) := tab d 16
noncomputable def impl_in.f (d : Nat) : (Int × Int × Int) → Option (Bool) := tab d 62
noncomputable def laws_eqFault.f (d : Nat) : (Int × Int × Int × Int × Int × Int) → Option (Bool) := tab d 66
noncomputable def laws_eqFaultS.f (d : Nat) : ((List (Int × Int × Int)) × (List (Int × Int × Int))) → Option (Bool) := tab d 23
noncomputable def laws_eqByteS.f (d : Nat) : ((List Int) × (List Int)) → Option (Bool) := tab d 29
noncomputable def laws_eqByteSS.f (d : Nat) : ((List (List Int)) × (List (List Int))) → Option (Bool) := tab d 63
noncomputable def laws_eqWrite.f (d : Nat) : (Int × (List Int) × Int × (List Int)) → Option (Bool) := tab d 104
noncomputable def laws_eqWriteS.f (d : Nat) : ((List (Int × (List Int))) × (List (Int × (List Int)))) → Option (Bool) := tab d 64
noncomputable def laws_eqDisk.f (d : Nat) : ((List (List Int)) × (List (Int × (List Int))) × Int × (List (Int × Int × Int)) × Bool × (List (List Int)) × (List (Int × (List Int))) × Int × (List (Int × Int × Int)) × Bool) → Option (Bool) := tab d 18
noncomputable def laws_markFaultS.f (d : Nat) : ((List (Int × Int × Int)) × Int) → Option (Int × (List (Int × Int × Int))) := tab d 24
noncomputable def laws_markByteS.f (d : Nat) : ((List Int) × Int) → Option (Int × (List Int)) := tab d 30
noncomputable def laws_markByteSS.f (d : Nat) : ((List (List Int)) × Int) → Option (Int × (List (List Int))) := tab d 67
noncomputable def laws_markWriteS.f (d : Nat) : ((List (Int × (List Int))) × Int) → Option (Int × (List (Int × (List Int)))) := tab d 68
noncomputable def laws_markDisk.f (d : Nat) : ((List (List Int)) × (List (Int × (List Int))) × Int × (List (Int × Int × Int)) × Bool × Int) → Option (Int × (List (List Int)) × (List (Int × (List Int))) × (List (Int × Int × Int))) := tab d 25
noncomputable def laws_heldByteS.f (d : Nat) : ((List Int) × Int) → Option (Int) := tab d 31
noncomputable def spec_ReadSec.f (d : Nat) : ((List (List Int)) × (List (Int × (List Int))) × Int × (List (Int × Int × Int)) × Bool × Int) → Option ((List Int) × Bool) := tab d 27
noncomputable def impl_copyBytes.f (d : Nat) : (List Int) → Option (List Int) := tab d 72
noncomputable def impl_ReadSec.f (d : Nat) : ((List (List Int)) × (List (Int × (List Int))) × Int × (List (Int × Int × Int)) × Bool × Int) → Option ((List Int) × Bool) := tab d 28
noncomputable def laws_FnExactReadSec.f (d : Nat) : ((List (List Int)) × (List (Int × (List Int))) × Int × (List (Int × Int × Int)) × Bool × Int) → Option (Bool) := tab d 5
noncomputable def laws_szByteSS.S0 (d : Nat) (L0 : ((List (List Int)) × Int × Int) → Option (Int)) : ((List (List Int)) × Int × Int) → Option (Int) := laws_szByteSS.s0 (laws_szByteS.f d) L0
noncomputable def laws_szWriteS.S0 (d : Nat) (L0 : ((List (Int × (List Int))) × Int × Int) → Option (Int)) : ((List (Int × (List Int))) × Int × Int) → Option (Int) := laws_szWriteS.s0 (laws_szWrite.f d) L0
noncomputable def laws_toFaultS.S0 (d : Nat) (L0 : ((List (Int × Int × Int)) × Int × (List (Int × Int × Int))) → Option (List (Int × Int × Int))) : ((List (Int × Int × Int)) × Int × (List (Int × Int × Int))) → Option (List (Int × Int × Int)) := laws_toFaultS.s0 (laws_toFault.f d) L0
noncomputable def laws_toByteS.S0 (d : Nat) (L0 : ((List Int) × Int × (List Int)) → Option (List Int)) : ((List Int) × Int × (List Int)) → Option (List Int) := laws_toByteS.s0 L0
noncomputable def laws_toByteSS.S0 (d : Nat) (L0 : ((List (List Int)) × Int × (List (List Int))) → Option (List (List Int))) : ((List (List Int)) × Int × (List (List Int))) → Option (List (List Int)) := laws_toByteSS.s0 (laws_toByteS.f d) L0
noncomputable def laws_toWriteS.S0 (d : Nat) (L0 : ((List (Int × (List Int))) × Int × (List (Int × (List Int)))) → Option (List (Int × (List Int)))) : ((List (Int × (List Int))) × Int × (List (Int × (List Int)))) → Option (List (Int × (List Int))) := laws_toWriteS.s0 (laws_toWrite.f d) L0
noncomputable def laws_eqFaultS.S0 (d : Nat) (L0 : ((List (Int × Int × Int)) × (List (Int × Int × Int)) × Int) → Option (Bool)) : ((List (Int × Int × Int)) × (List (Int × Int × Int)) × Int) → Option (Bool) := laws_eqFaultS.s0 (laws_eqFault.f d) L0
noncomputable def laws_eqByteS.S0 (d : Nat) (L0 : ((List Int) × (List Int) × Int) → Option (Bool)) : ((List Int) × (List Int) × Int) → Option (Bool) := laws_eqByteS.s0 L0
noncomputable def laws_eqByteSS.S0 (d : Nat) (L0 : ((List (List Int)) × (List (List Int)) × Int) → Option (Bool)) : ((List (List Int)) × (List (List Int)) × Int) → Option (Bool) := laws_eqByteSS.s0 (laws_eqByteS.f d) L0
noncomputable def laws_eqWriteS.S0 (d : Nat) (L0 : ((List (Int × (List Int))) × (List (Int × (List Int))) × Int) → Option (Bool)) : ((List (Int × (List Int))) × (List (Int × (List Int))) × Int) → Option (Bool) := laws_eqWriteS.s0 (laws_eqWrite.f d) L0
noncomputable def laws_markFaultS.S0 (d : Nat) (L0 : (Int × Int × (List (Int × Int × Int))) → Option (Int × (List (Int × Int × Int)))) : (Int × Int × (List (Int × Int × Int))) → Option (Int × (List (Int × Int × Int))) := laws_markFaultS.s0 L0
noncomputable def laws_markByteS.S0 (d : Nat) (L0 : (Int × Int × (List Int)) → Option (Int × (List Int))) : (Int × Int × (List Int)) → Option (Int × (List Int)) := laws_markByteS.s0 L0
noncomputable def laws_markByteSS.S0 (d : Nat) (L0 : (Int × Int × (List (List Int))) → Option (Int × (List (List Int)))) : (Int × Int × (List (List Int))) → Option (Int × (List (List Int))) := laws_markByteSS.s0 (laws_markByteS.f d) L0
noncomputable def laws_markWriteS.S0 (d : Nat) (L0 : (Int × Int × (List (Int × (List Int)))) → Option (Int × (List (Int × (List Int))))) : (Int × Int × (List (Int × (List Int)))) → Option (Int × (List (Int × (List Int)))) := laws_markWriteS.s0 (laws_markByteS.f d) L0
noncomputable def laws_heldByteS.S0 (d : Nat) (L0 : ((List Int) × Int × Int) → Option (Int)) : ((List Int) × Int × Int) → Option (Int) := laws_heldByteS.s0 L0
noncomputable def spec_ReadSec.S0 (d : Nat) (L0 : (Int × Int × (List (List Int)) × (List (Int × (List Int))) × Int × (List (Int × Int × Int)) × Bool) → Option ((List Int) × Bool)) : (Int × Int × (List (List Int)) × (List (Int × (List Int))) × Int × (List (Int × Int × Int)) × Bool) → Option ((List Int) × Bool) := spec_ReadSec.s0 L0
noncomputable def impl_ReadSec.S0 (d : Nat) (L0 : (Int × Int × (List (List Int)) × (List (Int × (List Int))) × Int × (List (Int × Int × Int)) × Bool) → Option ((List Int) × Bool)) : (Int × Int × (List (List Int)) × (List (Int × (List Int))) × Int × (List (Int × Int × Int)) × Bool) → Option ((List Int) × Bool) := impl_ReadSec.s0 (impl_copyBytes.f d) L0
theorem laws_szFaultS.t_eq (d : Nat) (a0_0 : List (Int × Int × Int)) (a1_0 : Int) : laws_szFaultS.f (d + 1) (a0_0, a1_0) = laws_szFaultS.m  (a0_0, a1_0) :=
  Eq.trans (show laws_szFaultS.f (d + 1) (a0_0, a1_0) = run (laws_szFaultS.cx (tab d) rnds) laws_szFaultS.sig laws_szFaultS.rv laws_szFaultS.body (a0_0, a1_0) by kernel_rfl) ((laws_szFaultS.m_eq (tab d) rnds a0_0 a1_0).trans rfl)
theorem laws_szByteS.t_eq (d : Nat) (a0_0 : List Int) (a1_0 : Int) : laws_szByteS.f (d + 1) (a0_0, a1_0) = laws_szByteS.m  (a0_0, a1_0) :=
  Eq.trans (show laws_szByteS.f (d + 1) (a0_0, a1_0) = run (laws_szByteS.cx (tab d) rnds) laws_szByteS.sig laws_szByteS.rv laws_szByteS.body (a0_0, a1_0) by kernel_rfl) ((laws_szByteS.m_eq (tab d) rnds a0_0 a1_0).trans rfl)
theorem laws_szByteSS.S0_eq (d : Nat) : ((fun a => loopK (stp (laws_szByteSS.cx (tab d) rnds) laws_szByteSS.body [1, 1, 1, 0, 1, 0] [] laws_szByteSS.fin) rnds (laws_szByteSS.ll0 a) : ((List (List Int)) × Int × Int) → Option (Int))) = iter (laws_szByteSS.S0 d) rnds :=
  funext (loop_iter laws_szByteSS.ll0 _ (laws_szByteSS.S0 d) (fun (L0 : LS → Option (TupT laws_szByteSS.sig.outs)) a => match a with | (x0, x1, x2) => (laws_szByteSS.s0_eq (tab d) rnds L0 x0 x1 x2).trans rfl) rnds)
theorem laws_szByteSS.t_eq (d : Nat) (a0_0 : List (List Int)) (a1_0 : Int) : laws_szByteSS.f (d + 1) (a0_0, a1_0) = laws_szByteSS.m (iter (laws_szByteSS.S0 d) rnds) (a0_0, a1_0) :=
  Eq.trans (show laws_szByteSS.f (d + 1) (a0_0, a1_0) = run (laws_szByteSS.cx (tab d) rnds) laws_szByteSS.sig laws_szByteSS.rv laws_szByteSS.body (a0_0, a1_0) by kernel_rfl) ((laws_szByteSS.m_eq (tab d) rnds a0_0 a1_0).trans (congrArg (fun z => laws_szByteSS.m z (a0_0, a1_0)) (laws_szByteSS.S0_eq d)))
theorem laws_szWrite.t_eq (d : Nat) (a0_0 : Int) (a0_1 : List Int) (a1_0 : Int) : laws_szWrite.f (d + 1) (a0_0, a0_1, a1_0) = laws_szWrite.m (laws_szByteS.f d) (a0_0, a0_1, a1_0) :=
  Eq.trans (show laws_szWrite.f (d + 1) (a0_0, a0_1, a1_0) = run (laws_szWrite.cx (tab d) rnds) laws_szWrite.sig laws_szWrite.rv laws_szWrite.body (a0_0, a0_1, a1_0) by kernel_rfl) ((laws_szWrite.m_eq (tab d) rnds a0_0 a0_1 a1_0).trans rfl)
theorem laws_szWriteS.S0_eq (d : Nat) : ((fun a => loopK (stp (laws_szWriteS.cx (tab d) rnds) laws_szWriteS.body [1, 1, 1, 0, 1, 0] [] laws_szWriteS.fin) rnds (laws_szWriteS.ll0 a) : ((List (Int × (List Int))) × Int × Int) → Option (Int))) = iter (laws_szWriteS.S0 d) rnds :=
  funext (loop_iter laws_szWriteS.ll0 _ (laws_szWriteS.S0 d) (fun (L0 : LS → Option (TupT laws_szWriteS.sig.outs)) a => match a with | (x0, x1, x2) => (laws_szWriteS.s0_eq (tab d) rnds L0 x0 x1 x2).trans rfl) rnds)
theorem laws_szWriteS.t_eq (d : Nat) (a0_0 : List (Int × (List Int))) (a1_0 : Int) : laws_szWriteS.f (d + 1) (a0_0, a1_0) = laws_szWriteS.m (iter (laws_szWriteS.S0 d) rnds) (a0_0, a1_0) :=
  Eq.trans (show laws_szWriteS.f (d + 1) (a0_0, a1_0) = run (laws_szWriteS.cx (tab d) rnds) laws_szWriteS.sig laws_szWriteS.rv laws_szWriteS.body (a0_0, a1_0) by kernel_rfl) ((laws_szWriteS.m_eq (tab d) rnds a0_0 a1_0).trans (congrArg (fun z => laws_szWriteS.m z (a0_0, a1_0)) (laws_szWriteS.S0_eq d)))
theorem laws_szDisk.t_eq (d : Nat) (a0_0 : List (List Int)) (a0_1 : List (Int × (List Int))) (a0_2 : Int) (a0_3 : List (Int × Int × Int)) (a0_4 : Bool) (a1_0 : Int) : laws_szDisk.f (d + 1) (a0_0, a0_1, a0_2, a0_3, a0_4, a1_0) = laws_szDisk.m (laws_szFaultS.f d) (laws_szByteSS.f d) (laws_szWriteS.f d) (a0_0, a0_1, a0_2, a0_3, a0_4, a1_0) :=
  Eq.trans (show laws_szDisk.f (d + 1) (a0_0, a0_1, a0_2, a0_3, a0_4, a1_0) = run (laws_szDisk.cx (tab d) rnds) laws_szDisk.sig laws_szDisk.rv laws_szDisk.body (a0_0, a0_1, a0_2, a0_3, a0_4, a1_0) by kernel_rfl) ((laws_szDisk.m_eq (tab d) rnds a0_0 a0_1 a0_2 a0_3 a0_4 a1_0).trans rfl)
theorem spec_l1In.t_eq (d : Nat) (a0_0 : Int) (a1_0 : Int) (a2_0 : Int) : spec_l1In.f (d + 1) (a0_0, a1_0, a2_0) = spec_l1In.m  (a0_0, a1_0, a2_0) :=
  Eq.trans (show spec_l1In.f (d + 1) (a0_0, a1_0, a2_0) = run (spec_l1In.cx (tab d) rnds) spec_l1In.sig spec_l1In.rv spec_l1In.body (a0_0, a1_0, a2_0) by kernel_rfl) ((spec_l1In.m_eq (tab d) rnds a0_0 a1_0 a2_0).trans rfl)
theorem laws_toFault.t_eq (d : Nat) (a0_0 : Int) (a0_1 : Int) (a0_2 : Int) : laws_toFault.f (d + 1) (a0_0, a0_1, a0_2) = laws_toFault.m  (a0_0, a0_1, a0_2) :=
  Eq.trans (show laws_toFault.f (d + 1) (a0_0, a0_1, a0_2) = run (laws_toFault.cx (tab d) rnds) laws_toFault.sig laws_toFault.rv laws_toFault.body (a0_0, a0_1, a0_2) by kernel_rfl) ((laws_toFault.m_eq (tab d) rnds a0_0 a0_1 a0_2).trans rfl)
theorem laws_toFaultS.S0_eq (d : Nat) : ((fun a => loopK (stp (laws_toFaultS.cx (tab d) rnds) laws_toFaultS.body [1, 1, 0, 1, 0] [] laws_toFaultS.fin) rnds (laws_toFaultS.ll0 a) : ((List (Int × Int × Int)) × Int × (List (Int × Int × Int))) → Option (List (Int × Int × Int)))) = iter (laws_toFaultS.S0 d) rnds :=
  funext (loop_iter laws_toFaultS.ll0 _ (laws_toFaultS.S0 d) (fun (L0 : LS → Option (TupT laws_toFaultS.sig.outs)) a => match a with | (x0, x1, x2) => (laws_toFaultS.s0_eq (tab d) rnds L0 x0 x1 x2).trans rfl) rnds)
theorem laws_toFaultS.t_eq (d : Nat) (a0_0 : List (Int × Int × Int)) : laws_toFaultS.f (d + 1) a0_0 = laws_toFaultS.m (iter (laws_toFaultS.S0 d) rnds) a0_0 :=
  Eq.trans (show laws_toFaultS.f (d + 1) a0_0 = run (laws_toFaultS.cx (tab d) rnds) laws_toFaultS.sig laws_toFaultS.rv laws_toFaultS.body a0_0 by kernel_rfl) ((laws_toFaultS.m_eq (tab d) rnds a0_0).trans (congrArg (fun z => laws_toFaultS.m z a0_0) (laws_toFaultS.S0_eq d)))
theorem laws_toByteS.S0_eq (d : Nat) : ((fun a => loopK (stp (laws_toByteS.cx (tab d) rnds) laws_toByteS.body [1, 1, 0, 1, 0] [] laws_toByteS.fin) rnds (laws_toByteS.ll0 a) : ((List Int) × Int × (List Int)) → Option (List Int))) = iter (laws_toByteS.S0 d) rnds :=
  funext (loop_iter laws_toByteS.ll0 _ (laws_toByteS.S0 d) (fun (L0 : LS → Option (TupT laws_toByteS.sig.outs)) a => match a with | (x0, x1, x2) => (laws_toByteS.s0_eq (tab d) rnds L0 x0 x1 x2).trans rfl) rnds)
theorem laws_toByteS.t_eq (d : Nat) (a0_0 : List Int) : laws_toByteS.f (d + 1) a0_0 = laws_toByteS.m (iter (laws_toByteS.S0 d) rnds) a0_0 :=
  Eq.trans (show laws_toByteS.f (d + 1) a0_0 = run (laws_toByteS.cx (tab d) rnds) laws_toByteS.sig laws_toByteS.rv laws_toByteS.body a0_0 by kernel_rfl) ((laws_toByteS.m_eq (tab d) rnds a0_0).trans (congrArg (fun z => laws_toByteS.m z a0_0) (laws_toByteS.S0_eq d)))
theorem laws_toByteSS.S0_eq (d : Nat) : ((fun a => loopK (stp (laws_toByteSS.cx (tab d) rnds) laws_toByteSS.body [1, 1, 0, 1, 0] [] laws_toByteSS.fin) rnds (laws_toByteSS.ll0 a) : ((List (List Int)) × Int × (List (List Int))) → Option (List (List Int)))) = iter (laws_toByteSS.S0 d) rnds :=
  funext (loop_iter laws_toByteSS.ll0 _ (laws_toByteSS.S0 d) (fun (L0 : LS → Option (TupT laws_toByteSS.sig.outs)) a => match a with | (x0, x1, x2) => (laws_toByteSS.s0_eq (tab d) rnds L0 x0 x1 x2).trans rfl) rnds)
theorem laws_toByteSS.t_eq (d : Nat) (a0_0 : List (List Int)) : laws_toByteSS.f (d + 1) a0_0 = laws_toByteSS.m (iter (laws_toByteSS.S0 d) rnds) a0_0 :=
  Eq.trans (show laws_toByteSS.f (d + 1) a0_0 = run (laws_toByteSS.cx (tab d) rnds) laws_toByteSS.sig laws_toByteSS.rv laws_toByteSS.body a0_0 by kernel_rfl) ((laws_toByteSS.m_eq (tab d) rnds a0_0).trans (congrArg (fun z => laws_toByteSS.m z a0_0) (laws_toByteSS.S0_eq d)))
theorem laws_toWrite.t_eq (d : Nat) (a0_0 : Int) (a0_1 : List Int) : laws_toWrite.f (d + 1) (a0_0, a0_1) = laws_toWrite.m (laws_toByteS.f d) (a0_0, a0_1) :=
  Eq.trans (show laws_toWrite.f (d + 1) (a0_0, a0_1) = run (laws_toWrite.cx (tab d) rnds) laws_toWrite.sig laws_toWrite.rv laws_toWrite.body (a0_0, a0_1) by kernel_rfl) ((laws_toWrite.m_eq (tab d) rnds a0_0 a0_1).trans rfl)
theorem laws_toWriteS.S0_eq (d : Nat) : ((fun a => loopK (stp (laws_toWriteS.cx (tab d) rnds) laws_toWriteS.body [1, 1, 0, 1, 0] [] laws_toWriteS.fin) rnds (laws_toWriteS.ll0 a) : ((List (Int × (List Int))) × Int × (List (Int × (List Int)))) → Option (List (Int × (List Int))))) = iter (laws_toWriteS.S0 d) rnds :=
  funext (loop_iter laws_toWriteS.ll0 _ (laws_toWriteS.S0 d) (fun (L0 : LS → Option (TupT laws_toWriteS.sig.outs)) a => match a with | (x0, x1, x2) => (laws_toWriteS.s0_eq (tab d) rnds L0 x0 x1 x2).trans rfl) rnds)
theorem laws_toWriteS.t_eq (d : Nat) (a0_0 : List (Int × (List Int))) : laws_toWriteS.f (d + 1) a0_0 = laws_toWriteS.m (iter (laws_toWriteS.S0 d) rnds) a0_0 :=
  Eq.trans (show laws_toWriteS.f (d + 1) a0_0 = run (laws_toWriteS.cx (tab d) rnds) laws_toWriteS.sig laws_toWriteS.rv laws_toWriteS.body a0_0 by kernel_rfl) ((laws_toWriteS.m_eq (tab d) rnds a0_0).trans (congrArg (fun z => laws_toWriteS.m z a0_0) (laws_toWriteS.S0_eq d)))
theorem laws_toDisk.t_eq (d : Nat) (a0_0 : List (List Int)) (a0_1 : List (Int × (List Int))) (a0_2 : Int) (a0_3 : List (Int × Int × Int)) (a0_4 : Bool) : laws_toDisk.f (d + 1) (a0_0, a0_1, a0_2, a0_3, a0_4) = laws_toDisk.m (laws_toFaultS.f d) (laws_toByteSS.f d) (laws_toWriteS.f d) (a0_0, a0_1, a0_2, a0_3, a0_4) :=
  Eq.trans (show laws_toDisk.f (d + 1) (a0_0, a0_1, a0_2, a0_3, a0_4) = run (laws_toDisk.cx (tab d) rnds) laws_toDisk.sig laws_toDisk.rv laws_toDisk.body (a0_0, a0_1, a0_2, a0_3, a0_4) by kernel_rfl) ((laws_toDisk.m_eq (tab d) rnds a0_0 a0_1 a0_2 a0_3 a0_4).trans rfl)
theorem impl_in.t_eq (d : Nat) (a0_0 : Int) (a1_0 : Int) (a2_0 : Int) : impl_in.f (d + 1) (a0_0, a1_0, a2_0) = impl_in.m  (a0_0, a1_0, a2_0) :=
  Eq.trans (show impl_in.f (d + 1) (a0_0, a1_0, a2_0) = run (impl_in.cx (tab d) rnds) impl_in.sig impl_in.rv impl_in.body (a0_0, a1_0, a2_0) by kernel_rfl) ((impl_in.m_eq (tab d) rnds a0_0 a1_0 a2_0).trans rfl)
theorem laws_eqFault.t_eq (d : Nat) (a0_0 : Int) (a0_1 : Int) (a0_2 : Int) (a1_0 : Int) (a1_1 : Int) (a1_2 : Int) : laws_eqFault.f (d + 1) (a0_0, a0_1, a0_2, a1_0, a1_1, a1_2) = laws_eqFault.m  (a0_0, a0_1, a0_2, a1_0, a1_1, a1_2) :=
  Eq.trans (show laws_eqFault.f (d + 1) (a0_0, a0_1, a0_2, a1_0, a1_1, a1_2) = run (laws_eqFault.cx (tab d) rnds) laws_eqFault.sig laws_eqFault.rv laws_eqFault.body (a0_0, a0_1, a0_2, a1_0, a1_1, a1_2) by kernel_rfl) ((laws_eqFault.m_eq (tab d) rnds a0_0 a0_1 a0_2 a1_0 a1_1 a1_2).trans rfl)
theorem laws_eqFaultS.S0_eq (d : Nat) : ((fun a => loopK (stp (laws_eqFaultS.cx (tab d) rnds) laws_eqFaultS.body [1, 1, 0, 1, 0] [] laws_eqFaultS.fin) rnds (laws_eqFaultS.ll0 a) : ((List (Int × Int × Int)) × (List (Int × Int × Int)) × Int) → Option (Bool))) = iter (laws_eqFaultS.S0 d) rnds :=
  funext (loop_iter laws_eqFaultS.ll0 _ (laws_eqFaultS.S0 d) (fun (L0 : LS → Option (TupT laws_eqFaultS.sig.outs)) a => match a with | (x0, x1, x2) => (laws_eqFaultS.s0_eq (tab d) rnds L0 x0 x1 x2).trans rfl) rnds)
theorem laws_eqFaultS.t_eq (d : Nat) (a0_0 : List (Int × Int × Int)) (a1_0 : List (Int × Int × Int)) : laws_eqFaultS.f (d + 1) (a0_0, a1_0) = laws_eqFaultS.m (iter (laws_eqFaultS.S0 d) rnds) (a0_0, a1_0) :=
  Eq.trans (show laws_eqFaultS.f (d + 1) (a0_0, a1_0) = run (laws_eqFaultS.cx (tab d) rnds) laws_eqFaultS.sig laws_eqFaultS.rv laws_eqFaultS.body (a0_0, a1_0) by kernel_rfl) ((laws_eqFaultS.m_eq (tab d) rnds a0_0 a1_0).trans (congrArg (fun z => laws_eqFaultS.m z (a0_0, a1_0)) (laws_eqFaultS.S0_eq d)))
theorem laws_eqByteS.S0_eq (d : Nat) : ((fun a => loopK (stp (laws_eqByteS.cx (tab d) rnds) laws_eqByteS.body [1, 1, 0, 1, 0] [] laws_eqByteS.fin) rnds (laws_eqByteS.ll0 a) : ((List Int) × (List Int) × Int) → Option (Bool))) = iter (laws_eqByteS.S0 d) rnds :=
  funext (loop_iter laws_eqByteS.ll0 _ (laws_eqByteS.S0 d) (fun (L0 : LS → Option (TupT laws_eqByteS.sig.outs)) a => match a with | (x0, x1, x2) => (laws_eqByteS.s0_eq (tab d) rnds L0 x0 x1 x2).trans rfl) rnds)
theorem laws_eqByteS.t_eq (d : Nat) (a0_0 : List Int) (a1_0 : List Int) : laws_eqByteS.f (d + 1) (a0_0, a1_0) = laws_eqByteS.m (iter (laws_eqByteS.S0 d) rnds) (a0_0, a1_0) :=
  Eq.trans (show laws_eqByteS.f (d + 1) (a0_0, a1_0) = run (laws_eqByteS.cx (tab d) rnds) laws_eqByteS.sig laws_eqByteS.rv laws_eqByteS.body (a0_0, a1_0) by kernel_rfl) ((laws_eqByteS.m_eq (tab d) rnds a0_0 a1_0).trans (congrArg (fun z => laws_eqByteS.m z (a0_0, a1_0)) (laws_eqByteS.S0_eq d)))
theorem laws_eqByteSS.S0_eq (d : Nat) : ((fun a => loopK (stp (laws_eqByteSS.cx (tab d) rnds) laws_eqByteSS.body [1, 1, 0, 1, 0] [] laws_eqByteSS.fin) rnds (laws_eqByteSS.ll0 a) : ((List (List Int)) × (List (List Int)) × Int) → Option (Bool))) = iter (laws_eqByteSS.S0 d) rnds :=
  funext (loop_iter laws_eqByteSS.ll0 _ (laws_eqByteSS.S0 d) (fun (L0 : LS → Option (TupT laws_eqByteSS.sig.outs)) a => match a with | (x0, x1, x2) => (laws_eqByteSS.s0_eq (tab d) rnds L0 x0 x1 x2).trans rfl) rnds)
theorem laws_eqByteSS.t_eq (d : Nat) (a0_0 : List (List Int)) (a1_0 : List (List Int)) : laws_eqByteSS.f (d + 1) (a0_0, a1_0) = laws_eqByteSS.m (iter (laws_eqByteSS.S0 d) rnds) (a0_0, a1_0) :=
  Eq.trans (show laws_eqByteSS.f (d + 1) (a0_0, a1_0) = run (laws_eqByteSS.cx (tab d) rnds) laws_eqByteSS.sig laws_eqByteSS.rv laws_eqByteSS.body (a0_0, a1_0) by kernel_rfl) ((laws_eqByteSS.m_eq (tab d) rnds a0_0 a1_0).trans (congrArg (fun z => laws_eqByteSS.m z (a0_0, a1_0)) (laws_eqByteSS.S0_eq d)))
theorem laws_eqWrite.t_eq (d : Nat) (a0_0 : Int) (a0_1 : List Int) (a1_0 : Int) (a1_1 : List Int) : laws_eqWrite.f (d + 1) (a0_0, a0_1, a1_0, a1_1) = laws_eqWrite.m (laws_eqByteS.f d) (a0_0, a0_1, a1_0, a1_1) :=
  Eq.trans (show laws_eqWrite.f (d + 1) (a0_0, a0_1, a1_0, a1_1) = run (laws_eqWrite.cx (tab d) rnds) laws_eqWrite.sig laws_eqWrite.rv laws_eqWrite.body (a0_0, a0_1, a1_0, a1_1) by kernel_rfl) ((laws_eqWrite.m_eq (tab d) rnds a0_0 a0_1 a1_0 a1_1).trans rfl)
theorem laws_eqWriteS.S0_eq (d : Nat) : ((fun a => loopK (stp (laws_eqWriteS.cx (tab d) rnds) laws_eqWriteS.body [1, 1, 0, 1, 0] [] laws_eqWriteS.fin) rnds (laws_eqWriteS.ll0 a) : ((List (Int × (List Int))) × (List (Int × (List Int))) × Int) → Option (Bool))) = iter (laws_eqWriteS.S0 d) rnds :=
  funext (loop_iter laws_eqWriteS.ll0 _ (laws_eqWriteS.S0 d) (fun (L0 : LS → Option (TupT laws_eqWriteS.sig.outs)) a => match a with | (x0, x1, x2) => (laws_eqWriteS.s0_eq (tab d) rnds L0 x0 x1 x2).trans rfl) rnds)
theorem laws_eqWriteS.t_eq (d : Nat) (a0_0 : List (Int × (List Int))) (a1_0 : List (Int × (List Int))) : laws_eqWriteS.f (d + 1) (a0_0, a1_0) = laws_eqWriteS.m (iter (laws_eqWriteS.S0 d) rnds) (a0_0, a1_0) :=
  Eq.trans (show laws_eqWriteS.f (d + 1) (a0_0, a1_0) = run (laws_eqWriteS.cx (tab d) rnds) laws_eqWriteS.sig laws_eqWriteS.rv laws_eqWriteS.body (a0_0, a1_0) by kernel_rfl) ((laws_eqWriteS.m_eq (tab d) rnds a0_0 a1_0).trans (congrArg (fun z => laws_eqWriteS.m z (a0_0, a1_0)) (laws_eqWriteS.S0_eq d)))
theorem laws_eqDisk.t_eq (d : Nat) (a0_0 : List (List Int)) (a0_1 : List (Int × (List Int))) (a0_2 : Int) (a0_3 : List (Int × Int × Int)) (a0_4 : Bool) (a1_0 : List (List Int)) (a1_1 : List (Int × (List Int))) (a1_2 : Int) (a1_3 : List (Int × Int × Int)) (a1_4 : Bool) : laws_eqDisk.f (d + 1) (a0_0, a0_1, a0_2, a0_3, a0_4, a1_0, a1_1, a1_2, a1_3, a1_4) = laws_eqDisk.m (laws_eqFaultS.f d) (laws_eqByteSS.f d) (laws_eqWriteS.f d) (a0_0, a0_1, a0_2, a0_3, a0_4, a1_0, a1_1, a1_2, a1_3, a1_4) :=
  Eq.trans (show laws_eqDisk.f (d + 1) (a0_0, a0_1, a0_2, a0_3, a0_4, a1_0, a1_1, a1_2, a1_3, a1_4) = run (laws_eqDisk.cx (tab d) rnds) laws_eqDisk.sig laws_eqDisk.rv laws_eqDisk.body (a0_0, a0_1, a0_2, a0_3, a0_4, a1_0, a1_1, a1_2, a1_3, a1_4) by kernel_rfl) ((laws_eqDisk.m_eq (tab d) rnds a0_0 a0_1 a0_2 a0_3 a0_4 a1_0 a1_1 a1_2 a1_3 a1_4).trans rfl)
theorem laws_markFaultS.S0_eq (d : Nat) : ((fun a => loopK (stp (laws_markFaultS.cx (tab d) rnds) laws_markFaultS.body [1, 0, 1, 0] [] laws_markFaultS.fin) rnds (laws_markFaultS.ll0 a) : (Int × Int × (List (Int × Int × Int))) → Option (Int × (List (Int × Int × Int))))) = iter (laws_markFaultS.S0 d) rnds :=
  funext (loop_iter laws_markFaultS.ll0 _ (laws_markFaultS.S0 d) (fun (L0 : LS → Option (TupT laws_markFaultS.sig.outs)) a => match a with | (x0, x1, x2) => (laws_markFaultS.s0_eq (tab d) rnds L0 x0 x1 x2).trans rfl) rnds)
theorem laws_markFaultS.t_eq (d : Nat) (a0_0 : List (Int × Int × Int)) (a1_0 : Int) : laws_markFaultS.f (d + 1) (a0_0, a1_0) = laws_markFaultS.m (iter (laws_markFaultS.S0 d) rnds) (a0_0, a1_0) :=
  Eq.trans (show laws_markFaultS.f (d + 1) (a0_0, a1_0) = run (laws_markFaultS.cx (tab d) rnds) laws_markFaultS.sig laws_markFaultS.rv laws_markFaultS.body (a0_0, a1_0) by kernel_rfl) ((laws_markFaultS.m_eq (tab d) rnds a0_0 a1_0).trans (congrArg (fun z => laws_markFaultS.m z (a0_0, a1_0)) (laws_markFaultS.S0_eq d)))
theorem laws_markByteS.S0_eq (d : Nat) : ((fun a => loopK (stp (laws_markByteS.cx (tab d) rnds) laws_markByteS.body [1, 0, 1, 0] [] laws_markByteS.fin) rnds (laws_markByteS.ll0 a) : (Int × Int × (List Int)) → Option (Int × (List Int)))) = iter (laws_markByteS.S0 d) rnds :=
  funext (loop_iter laws_markByteS.ll0 _ (laws_markByteS.S0 d) (fun (L0 : LS → Option (TupT laws_markByteS.sig.outs)) a => match a with | (x0, x1, x2) => (laws_markByteS.s0_eq (tab d) rnds L0 x0 x1 x2).trans rfl) rnds)
theorem laws_markByteS.t_eq (d : Nat) (a0_0 : List Int) (a1_0 : Int) : laws_markByteS.f (d + 1) (a0_0, a1_0) = laws_markByteS.m (iter (laws_markByteS.S0 d) rnds) (a0_0, a1_0) :=
  Eq.trans (show laws_markByteS.f (d + 1) (a0_0, a1_0) = run (laws_markByteS.cx (tab d) rnds) laws_markByteS.sig laws_markByteS.rv laws_markByteS.body (a0_0, a1_0) by kernel_rfl) ((laws_markByteS.m_eq (tab d) rnds a0_0 a1_0).trans (congrArg (fun z => laws_markByteS.m z (a0_0, a1_0)) (laws_markByteS.S0_eq d)))
theorem laws_markByteSS.S0_eq (d : Nat) : ((fun a => loopK (stp (laws_markByteSS.cx (tab d) rnds) laws_markByteSS.body [1, 0, 1, 0] [] laws_markByteSS.fin) rnds (laws_markByteSS.ll0 a) : (Int × Int × (List (List Int))) → Option (Int × (List (List Int))))) = iter (laws_markByteSS.S0 d) rnds :=
  funext (loop_iter laws_markByteSS.ll0 _ (laws_markByteSS.S0 d) (fun (L0 : LS → Option (TupT laws_markByteSS.sig.outs)) a => match a with | (x0, x1, x2) => (laws_markByteSS.s0_eq (tab d) rnds L0 x0 x1 x2).trans rfl) rnds)
theorem laws_markByteSS.t_eq (d : Nat) (a0_0 : List (List Int)) (a1_0 : Int) : laws_markByteSS.f (d + 1) (a0_0, a1_0) = laws_markByteSS.m (iter (laws_markByteSS.S0 d) rnds) (a0_0, a1_0) :=
  Eq.trans (show laws_markByteSS.f (d + 1) (a0_0, a1_0) = run (laws_markByteSS.cx (tab d) rnds) laws_markByteSS.sig laws_markByteSS.rv laws_markByteSS.body (a0_0, a1_0) by kernel_rfl) ((laws_markByteSS.m_eq (tab d) rnds a0_0 a1_0).trans (congrArg (fun z => laws_markByteSS.m z (a0_0, a1_0)) (laws_markByteSS.S0_eq d)))
theorem laws_markWriteS.S0_eq (d : Nat) : ((fun a => loopK (stp (laws_markWriteS.cx (tab d) rnds) laws_markWriteS.body [1, 0, 1, 0] [] laws_markWriteS.fin) rnds (laws_markWriteS.ll0 a) : (Int × Int × (List (Int × (List Int)))) → Option (Int × (List (Int × (List Int)))))) = iter (laws_markWriteS.S0 d) rnds :=
  funext (loop_iter laws_markWriteS.ll0 _ (laws_markWriteS.S0 d) (fun (L0 : LS → Option (TupT laws_markWriteS.sig.outs)) a => match a with | (x0, x1, x2) => (laws_markWriteS.s0_eq (tab d) rnds L0 x0 x1 x2).trans rfl) rnds)
theorem laws_markWriteS.t_eq (d : Nat) (a0_0 : List (Int × (List Int))) (a1_0 : Int) : laws_markWriteS.f (d + 1) (a0_0, a1_0) = laws_markWriteS.m (iter (laws_markWriteS.S0 d) rnds) (a0_0, a1_0) :=
  Eq.trans (show laws_markWriteS.f (d + 1) (a0_0, a1_0) = run (laws_markWriteS.cx (tab d) rnds) laws_markWriteS.sig laws_markWriteS.rv laws_markWriteS.body (a0_0, a1_0) by kernel_rfl) ((laws_markWriteS.m_eq (tab d) rnds a0_0 a1_0).trans (congrArg (fun z => laws_markWriteS.m z (a0_0, a1_0)) (laws_markWriteS.S0_eq d)))
theorem laws_markDisk.t_eq (d : Nat) (a0_0 : List (List Int)) (a0_1 : List (Int × (List Int))) (a0_2 : Int) (a0_3 : List (Int × Int × Int)) (a0_4 : Bool) (a1_0 : Int) : laws_markDisk.f (d + 1) (a0_0, a0_1, a0_2, a0_3, a0_4, a1_0) = laws_markDisk.m (laws_markFaultS.f d) (laws_markByteSS.f d) (laws_markWriteS.f d) (a0_0, a0_1, a0_2, a0_3, a0_4, a1_0) :=
  Eq.trans (show laws_markDisk.f (d + 1) (a0_0, a0_1, a0_2, a0_3, a0_4, a1_0) = run (laws_markDisk.cx (tab d) rnds) laws_markDisk.sig laws_markDisk.rv laws_markDisk.body (a0_0, a0_1, a0_2, a0_3, a0_4, a1_0) by kernel_rfl) ((laws_markDisk.m_eq (tab d) rnds a0_0 a0_1 a0_2 a0_3 a0_4 a1_0).trans rfl)
theorem laws_heldByteS.S0_eq (d : Nat) : ((fun a => loopK (stp (laws_heldByteS.cx (tab d) rnds) laws_heldByteS.body [1, 0, 1, 0] [] laws_heldByteS.fin) rnds (laws_heldByteS.ll0 a) : ((List Int) × Int × Int) → Option (Int))) = iter (laws_heldByteS.S0 d) rnds :=
  funext (loop_iter laws_heldByteS.ll0 _ (laws_heldByteS.S0 d) (fun (L0 : LS → Option (TupT laws_heldByteS.sig.outs)) a => match a with | (x0, x1, x2) => (laws_heldByteS.s0_eq (tab d) rnds L0 x0 x1 x2).trans rfl) rnds)
theorem laws_heldByteS.t_eq (d : Nat) (a0_0 : List Int) (a1_0 : Int) : laws_heldByteS.f (d + 1) (a0_0, a1_0) = laws_heldByteS.m (iter (laws_heldByteS.S0 d) rnds) (a0_0, a1_0) :=
  Eq.trans (show laws_heldByteS.f (d + 1) (a0_0, a1_0) = run (laws_heldByteS.cx (tab d) rnds) laws_heldByteS.sig laws_heldByteS.rv laws_heldByteS.body (a0_0, a1_0) by kernel_rfl) ((laws_heldByteS.m_eq (tab d) rnds a0_0 a1_0).trans (congrArg (fun z => laws_heldByteS.m z (a0_0, a1_0)) (laws_heldByteS.S0_eq d)))
theorem spec_ReadSec.S0_eq (d : Nat) : ((fun a => loopK (stp (spec_ReadSec.cx (tab d) rnds) spec_ReadSec.body [1, 1, 0, 1, 0] [] spec_ReadSec.fin) rnds (spec_ReadSec.ll0 a) : (Int × Int × (List (List Int)) × (List (Int × (List Int))) × Int × (List (Int × Int × Int)) × Bool) → Option ((List Int) × Bool))) = iter (spec_ReadSec.S0 d) rnds :=
  funext (loop_iter spec_ReadSec.ll0 _ (spec_ReadSec.S0 d) (fun (L0 : LS → Option (TupT spec_ReadSec.sig.outs)) a => match a with | (x0, x1, x2, x3, x4, x5, x6) => (spec_ReadSec.s0_eq (tab d) rnds L0 x0 x1 x2 x3 x4 x5 x6).trans rfl) rnds)
theorem spec_ReadSec.t_eq (d : Nat) (a0_0 : List (List Int)) (a0_1 : List (Int × (List Int))) (a0_2 : Int) (a0_3 : List (Int × Int × Int)) (a0_4 : Bool) (a1_0 : Int) : spec_ReadSec.f (d + 1) (a0_0, a0_1, a0_2, a0_3, a0_4, a1_0) = spec_ReadSec.m (spec_l1In.f d) (iter (spec_ReadSec.S0 d) rnds) (a0_0, a0_1, a0_2, a0_3, a0_4, a1_0) :=
  Eq.trans (show spec_ReadSec.f (d + 1) (a0_0, a0_1, a0_2, a0_3, a0_4, a1_0) = run (spec_ReadSec.cx (tab d) rnds) spec_ReadSec.sig spec_ReadSec.rv spec_ReadSec.body (a0_0, a0_1, a0_2, a0_3, a0_4, a1_0) by kernel_rfl) ((spec_ReadSec.m_eq (tab d) rnds a0_0 a0_1 a0_2 a0_3 a0_4 a1_0).trans (congrArg (fun z => spec_ReadSec.m (tab d 58) z (a0_0, a0_1, a0_2, a0_3, a0_4, a1_0)) (spec_ReadSec.S0_eq d)))
theorem impl_copyBytes.t_eq (d : Nat) (a0_0 : List Int) : impl_copyBytes.f (d + 1) a0_0 = impl_copyBytes.m  a0_0 :=
  Eq.trans (show impl_copyBytes.f (d + 1) a0_0 = run (impl_copyBytes.cx (tab d) rnds) impl_copyBytes.sig impl_copyBytes.rv impl_copyBytes.body a0_0 by kernel_rfl) ((impl_copyBytes.m_eq (tab d) rnds a0_0).trans rfl)
theorem impl_ReadSec.S0_eq (d : Nat) : ((fun a => loopK (stp (impl_ReadSec.cx (tab d) rnds) impl_ReadSec.body [1, 1, 0, 1, 0] [] impl_ReadSec.fin) rnds (impl_ReadSec.ll0 a) : (Int × Int × (List (List Int)) × (List (Int × (List Int))) × Int × (List (Int × Int × Int)) × Bool) → Option ((List Int) × Bool))) = iter (impl_ReadSec.S0 d) rnds :=
  funext (loop_iter impl_ReadSec.ll0 _ (impl_ReadSec.S0 d) (fun (L0 : LS → Option (TupT impl_ReadSec.sig.outs)) a => match a with | (x0, x1, x2, x3, x4, x5, x6) => (impl_ReadSec.s0_eq (tab d) rnds L0 x0 x1 x2 x3 x4 x5 x6).trans rfl) rnds)
theorem impl_ReadSec.t_eq (d : Nat) (a0_0 : List (List Int)) (a0_1 : List (Int × (List Int))) (a0_2 : Int) (a0_3 : List (Int × Int × Int)) (a0_4 : Bool) (a1_0 : Int) : impl_ReadSec.f (d + 1) (a0_0, a0_1, a0_2, a0_3, a0_4, a1_0) = impl_ReadSec.m (impl_in.f d) (iter (impl_ReadSec.S0 d) rnds) (a0_0, a0_1, a0_2, a0_3, a0_4, a1_0) :=
  Eq.trans (show impl_ReadSec.f (d + 1) (a0_0, a0_1, a0_2, a0_3, a0_4, a1_0) = run (impl_ReadSec.cx (tab d) rnds) impl_ReadSec.sig impl_ReadSec.rv impl_ReadSec.body (a0_0, a0_1, a0_2, a0_3, a0_4, a1_0) by kernel_rfl) ((impl_ReadSec.m_eq (tab d) rnds a0_0 a0_1 a0_2 a0_3 a0_4 a1_0).trans (congrArg (fun z => impl_ReadSec.m (tab d 62) z (a0_0, a0_1, a0_2, a0_3, a0_4, a1_0)) (impl_ReadSec.S0_eq d)))
theorem laws_FnExactReadSec.t_eq (d : Nat) (a0_0 : List (List Int)) (a0_1 : List (Int × (List Int))) (a0_2 : Int) (a0_3 : List (Int × Int × Int)) (a0_4 : Bool) (a1_0 : Int) : laws_FnExactReadSec.f (d + 1) (a0_0, a0_1, a0_2, a0_3, a0_4, a1_0) = laws_FnExactReadSec.m (laws_szDisk.f d) (laws_toDisk.f d) (laws_eqDisk.f d) (laws_markDisk.f d) (spec_ReadSec.f d) (impl_ReadSec.f d) (laws_eqByteS.f d) (laws_markByteS.f d) (laws_heldByteS.f d) (a0_0, a0_1, a0_2, a0_3, a0_4, a1_0) :=
  Eq.trans (show laws_FnExactReadSec.f (d + 1) (a0_0, a0_1, a0_2, a0_3, a0_4, a1_0) = run (laws_FnExactReadSec.cx (tab d) rnds) laws_FnExactReadSec.sig laws_FnExactReadSec.rv laws_FnExactReadSec.body (a0_0, a0_1, a0_2, a0_3, a0_4, a1_0) by kernel_rfl) ((laws_FnExactReadSec.m_eq (tab d) rnds a0_0 a0_1 a0_2 a0_3 a0_4 a1_0).trans rfl)
theorem tys_ok (t : Nat) : tyOk Try.prog t (tys t) = true := by unfold tys; split <;> kernel_rfl
theorem eqts_ok (t : Nat) (h : eqts t = true) : eqOk Try.prog t (tys t) = true := by
  have := memN_mem.1 h
  revert t
  simp only [List.mem_cons, List.not_mem_nil, or_false]
  rintro t h ⟨⟩
theorem mix_ok : Try.prog.follows .mixedOrders = true := by kernel_rfl
theorem sig_ok (f : Nat) : ∀ r ∈ (fns f).sig.rs, 0 < r.2.length := by
  have h : (fns f).sig.rs.all (fun r => decide (0 < r.2.length)) = true := by unfold fns; split <;> kernel_rfl
  intro r hr
  simpa using List.all_eq_true.1 h r hr
theorem fn_ok (f : Nat) : FnOk Try.prog f (fns f) := by
  unfold fns
  split
  · exact .inl ⟨Try.f19, Try.func19, by kernel_rfl, by kernel_rfl, by decide +kernel, by decide +kernel⟩
  · exact .inl ⟨Try.f101, Try.func101, by kernel_rfl, by kernel_rfl, by decide +kernel, by decide +kernel⟩
  · exact .inl ⟨Try.f56, Try.func56, by kernel_rfl, by kernel_rfl, by decide +kernel, by decide +kernel⟩
  · exact .inl ⟨Try.f102, Try.func102, by kernel_rfl, by kernel_rfl, by decide +kernel, by decide +kernel⟩
  · exact .inl ⟨Try.f57, Try.func57, by kernel_rfl, by kernel_rfl, by decide +kernel, by decide +kernel⟩
  · exact .inl ⟨Try.f14, Try.func14, by kernel_rfl, by kernel_rfl, by decide +kernel, by decide +kernel⟩
  · exact .inl ⟨Try.f58, Try.func58, by kernel_rfl, by kernel_rfl, by decide +kernel, by decide +kernel⟩
  · exact .inl ⟨Try.f65, Try.func65, by kernel_rfl, by kernel_rfl, by decide +kernel, by decide +kernel⟩
  · exact .inl ⟨Try.f21, Try.func21, by kernel_rfl, by kernel_rfl, by decide +kernel, by decide +kernel⟩
  · exact .inl ⟨Try.f55, Try.func55, by kernel_rfl, by kernel_rfl, by decide +kernel, by decide +kernel⟩
  · exact .inl ⟨Try.f60, Try.func60, by kernel_rfl, by kernel_rfl, by decide +kernel, by decide +kernel⟩
  · exact .inl ⟨Try.f103, Try.func103, by kernel_rfl, by kernel_rfl, by decide +kernel, by decide +kernel⟩
  · exact .inl ⟨Try.f61, Try.func61, by kernel_rfl, by kernel_rfl, by decide +kernel, by decide +kernel⟩
  · exact .inl ⟨Try.f16, Try.func16, by kernel_rfl, by kernel_rfl, by decide +kernel, by decide +kernel⟩
  · exact .inl ⟨Try.f62, Try.func62, by kernel_rfl, by kernel_rfl, by decide +kernel, by decide +kernel⟩
  · exact .inl ⟨Try.f66, Try.func66, by kernel_rfl, by kernel_rfl, by decide +kernel, by decide +kernel⟩
  · exact .inl ⟨Try.f23, Try.func23, by kernel_rfl, by kernel_rfl, by decide +kernel, by decide +kernel⟩
  · exact .inl ⟨Try.f29, Try.func29, by kernel_rfl, by kernel_rfl, by decide +kernel, by decide +kernel⟩
  · exact .inl ⟨Try.f63, Try.func63, by kernel_rfl, by kernel_rfl, by decide +kernel, by decide +kernel⟩
  · exact .inl ⟨Try.f104, Try.func104, by kernel_rfl, by kernel_rfl, by decide +kernel, by decide +kernel⟩
  · exact .inl ⟨Try.f64, Try.func64, by kernel_rfl, by kernel_rfl, by decide +kernel, by decide +kernel⟩
  · exact .inl ⟨Try.f18, Try.func18, by kernel_rfl, by kernel_rfl, by decide +kernel, by decide +kernel⟩
  · exact .inl ⟨Try.f24, Try.func24, by kernel_rfl, by kernel_rfl, by decide +kernel, by decide +kernel⟩
  · exact .inl ⟨Try.f30, Try.func30, by kernel_rfl, by kernel_rfl, by decide +kernel, by decide +kernel⟩
  · exact .inl ⟨Try.f67, Try.func67, by kernel_rfl, by kernel_rfl, by decide +kernel, by decide +kernel⟩
  · exact .inl ⟨Try.f68, Try.func68, by kernel_rfl, by kernel_rfl, by decide +kernel, by decide +kernel⟩
  · exact .inl ⟨Try.f25, Try.func25, by kernel_rfl, by kernel_rfl, by decide +kernel, by decide +kernel⟩
  · exact .inl ⟨Try.f31, Try.func31, by kernel_rfl, by kernel_rfl, by decide +kernel, by decide +kernel⟩
  · exact .inl ⟨Try.f27, Try.func27, by kernel_rfl, by kernel_rfl, by decide +kernel, by decide +kernel⟩
  · exact .inl ⟨Try.f72, Try.func72, by kernel_rfl, by kernel_rfl, by decide +kernel, by decide +kernel⟩
  · exact .inl ⟨Try.f28, Try.func28, by kernel_rfl, by kernel_rfl, by decide +kernel, by decide +kernel⟩
  · exact .inl ⟨Try.f5, Try.func5, by kernel_rfl, by kernel_rfl, by decide +kernel, by decide +kernel⟩
  · exact .inr ⟨ "", rfl⟩
theorem sound (d f : Nat) : Contract Try.prog (fns f).sig f (tab d f) := table_sound tys_ok eqts_ok mix_ok sig_ok (fun f _ => fn_ok f) (fun _ _ h => by cases h) d f
end
end Go.PV.T
