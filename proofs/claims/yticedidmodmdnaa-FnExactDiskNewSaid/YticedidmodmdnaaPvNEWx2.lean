/- Functions of the program by their own lists and numbers. No condition beyond those in each statement. -/
import Derived.Test.YticedidmodmdnaaPvNEWx1
import Derived.Test.YticedidmodmdnaaPvNEWD
set_option maxRecDepth 100000
set_option linter.unusedVariables false
namespace Go.PV.T
open Go.Proofs
noncomputable section
noncomputable def tab : Nat → (f : Nat) → TupT (sigs f).ins → Option (TupT (sigs f).outs) := table tys eqts fns (fun _ => none) rnds
noncomputable def laws_szFaultS.f (d : Nat) : ((List (Int × Int × Int)) × Int) → Option (Int) := tab d 19
noncomputable def spec_l1In.f (d : Nat) : (Int × Int × Int) → Option (Bool) := tab d 58
noncomputable def spec_l12Faults.f (d : Nat) : (List (Int × Int × Int)) → Option (Bool) := tab d 59
noncomputable def laws_toFault.f (d : Nat) : (Int × Int × Int) → Option (Int × Int × Int) := tab d 65
noncomputable def laws_toFaultS.f (d : Nat) : (List (Int × Int × Int)) → Option (List (Int × Int × Int)) := tab d 21
noncomputable def impl_in.f (d : Nat) : (Int × Int × Int) → Option (Bool) := tab d 62
noncomputable def impl_DiskOk.f (d : Nat) : ((List (List Int)) × (List (Int × (List Int))) × Int × (List (Int × Int × Int)) × Bool) → Option (Bool) := tab d 17
noncomputable def laws_eqFault.f (d : Nat) : (Int × Int × Int × Int × Int × Int) → Option (Bool) := tab d 66
noncomputable def laws_eqFaultS.f (d : Nat) : ((List (Int × Int × Int)) × (List (Int × Int × Int))) → Option (Bool) := tab d 23
noncomputable def laws_eqByteS.f (d : Nat) : ((List Int) × (List Int)) → Option (Bool) := tab d 29
noncomputable def laws_eqByteSS.f (d : Nat) : ((List (List Int)) × (List (List Int))) → Option (Bool) := tab d 63
noncomputable def laws_eqWrite.f (d : Nat) : (Int × (List Int) × Int × (List Int)) → Option (Bool) := tab d 104
noncomputable def laws_eqWriteS.f (d : Nat) : ((List (Int × (List Int))) × (List (Int × (List Int)))) → Option (Bool) := tab d 64
noncomputable def laws_eqDisk.f (d : Nat) : ((List (List Int)) × (List (Int × (List Int))) × Int × (List (Int × Int × Int)) × Bool × (List (List Int)) × (List (Int × (List Int))) × Int × (List (Int × Int × Int)) × Bool) → Option (Bool) := tab d 18
noncomputable def spec_DiskNew.f (d : Nat) : (Int × (List (Int × Int × Int))) → Option ((List (List Int)) × (List (Int × (List Int))) × Int × (List (Int × Int × Int)) × Bool) := tab d 20
noncomputable def impl_DiskNew.f (d : Nat) : (Int × (List (Int × Int × Int))) → Option ((List (List Int)) × (List (Int × (List Int))) × Int × (List (Int × Int × Int)) × Bool) := tab d 22
noncomputable def laws_markFaultS.f (d : Nat) : ((List (Int × Int × Int)) × Int) → Option (Int × (List (Int × Int × Int))) := tab d 24
noncomputable def laws_markByteS.f (d : Nat) : ((List Int) × Int) → Option (Int × (List Int)) := tab d 30
noncomputable def laws_markByteSS.f (d : Nat) : ((List (List Int)) × Int) → Option (Int × (List (List Int))) := tab d 67
noncomputable def laws_markWriteS.f (d : Nat) : ((List (Int × (List Int))) × Int) → Option (Int × (List (Int × (List Int)))) := tab d 68
noncomputable def laws_markDisk.f (d : Nat) : ((List (List Int)) × (List (Int × (List Int))) × Int × (List (Int × Int × Int)) × Bool × Int) → Option (Int × (List (List Int)) × (List (Int × (List Int))) × (List (Int × Int × Int))) := tab d 25
noncomputable def laws_heldByteS.f (d : Nat) : ((List Int) × Int) → Option (Int) := tab d 31
noncomputable def laws_heldByteSS.f (d : Nat) : ((List (List Int)) × Int) → Option (Int) := tab d 69
noncomputable def laws_heldWriteS.f (d : Nat) : ((List (Int × (List Int))) × Int) → Option (Int) := tab d 70
noncomputable def laws_heldFaultS.f (d : Nat) : ((List (Int × Int × Int)) × Int) → Option (Int) := tab d 71
noncomputable def laws_heldDisk.f (d : Nat) : ((List (List Int)) × (List (Int × (List Int))) × Int × (List (Int × Int × Int)) × Bool × Int) → Option (Int) := tab d 26
noncomputable def laws_FnExactDiskNew.f (d : Nat) : (Int × (List (Int × Int × Int))) → Option (Bool) := tab d 4
noncomputable def spec_l12Faults.S0 (d : Nat) (L0 : ((List (Int × Int × Int)) × Int) → Option (Bool)) : ((List (Int × Int × Int)) × Int) → Option (Bool) := spec_l12Faults.s0 (spec_l1In.f d) L0
noncomputable def laws_toFaultS.S0 (d : Nat) (L0 : ((List (Int × Int × Int)) × Int × (List (Int × Int × Int))) → Option (List (Int × Int × Int))) : ((List (Int × Int × Int)) × Int × (List (Int × Int × Int))) → Option (List (Int × Int × Int)) := laws_toFaultS.s0 (laws_toFault.f d) L0
noncomputable def impl_DiskOk.S4 (d : Nat) (L4 : ((List (Int × Int × Int)) × Int × Int × (List (List Int)) × (List (Int × (List Int))) × Int × (List (Int × Int × Int)) × Bool) → Option (Bool)) : ((List (Int × Int × Int)) × Int × Int × (List (List Int)) × (List (Int × (List Int))) × Int × (List (Int × Int × Int)) × Bool) → Option (Bool) := impl_DiskOk.s4 (impl_in.f d) L4
noncomputable def impl_DiskOk.S2 (d : Nat) (L2 : ((List (Int × (List Int))) × Int × Int × (List (List Int)) × (List (Int × (List Int))) × Int × (List (Int × Int × Int)) × Bool) → Option (Bool)) : ((List (Int × (List Int))) × Int × Int × (List (List Int)) × (List (Int × (List Int))) × Int × (List (Int × Int × Int)) × Bool) → Option (Bool) := impl_DiskOk.s2 (impl_in.f d) (iter (impl_DiskOk.S4 d) rnds) L2
noncomputable def impl_DiskOk.S0 (d : Nat) (L0 : ((List (List Int)) × Int × Int × (List (List Int)) × (List (Int × (List Int))) × Int × (List (Int × Int × Int)) × Bool) → Option (Bool)) : ((List (List Int)) × Int × Int × (List (List Int)) × (List (Int × (List Int))) × Int × (List (Int × Int × Int)) × Bool) → Option (Bool) := impl_DiskOk.s0 (iter (impl_DiskOk.S2 d) rnds) L0
noncomputable def laws_eqFaultS.S0 (d : Nat) (L0 : ((List (Int × Int × Int)) × (List (Int × Int × Int)) × Int) → Option (Bool)) : ((List (Int × Int × Int)) × (List (Int × Int × Int)) × Int) → Option (Bool) := laws_eqFaultS.s0 (laws_eqFault.f d) L0
noncomputable def laws_eqByteS.S0 (d : Nat) (L0 : ((List Int) × (List Int) × Int) → Option (Bool)) : ((List Int) × (List Int) × Int) → Option (Bool) := laws_eqByteS.s0 L0
noncomputable def laws_eqByteSS.S0 (d : Nat) (L0 : ((List (List Int)) × (List (List Int)) × Int) → Option (Bool)) : ((List (List Int)) × (List (List Int)) × Int) → Option (Bool) := laws_eqByteSS.s0 (laws_eqByteS.f d) L0
noncomputable def laws_eqWriteS.S0 (d : Nat) (L0 : ((List (Int × (List Int))) × (List (Int × (List Int))) × Int) → Option (Bool)) : ((List (Int × (List Int))) × (List (Int × (List Int))) × Int) → Option (Bool) := laws_eqWriteS.s0 (laws_eqWrite.f d) L0
noncomputable def spec_DiskNew.S0 (d : Nat) (L0 : (Int × Int × (List (List Int)) × (List (Int × (List Int))) × Int × (List (Int × Int × Int)) × Bool × (List (List Int)) × (List (Int × (List Int))) × Int × (List (Int × Int × Int)) × Bool) → Option ((List (List Int)) × (List (Int × (List Int))) × Int × (List (Int × Int × Int)) × Bool)) : (Int × Int × (List (List Int)) × (List (Int × (List Int))) × Int × (List (Int × Int × Int)) × Bool × (List (List Int)) × (List (Int × (List Int))) × Int × (List (Int × Int × Int)) × Bool) → Option ((List (List Int)) × (List (Int × (List Int))) × Int × (List (Int × Int × Int)) × Bool) := spec_DiskNew.s0 L0
noncomputable def laws_markFaultS.S0 (d : Nat) (L0 : (Int × Int × (List (Int × Int × Int))) → Option (Int × (List (Int × Int × Int)))) : (Int × Int × (List (Int × Int × Int))) → Option (Int × (List (Int × Int × Int))) := laws_markFaultS.s0 L0
noncomputable def laws_markByteS.S0 (d : Nat) (L0 : (Int × Int × (List Int)) → Option (Int × (List Int))) : (Int × Int × (List Int)) → Option (Int × (List Int)) := laws_markByteS.s0 L0
noncomputable def laws_markByteSS.S0 (d : Nat) (L0 : (Int × Int × (List (List Int))) → Option (Int × (List (List Int)))) : (Int × Int × (List (List Int))) → Option (Int × (List (List Int))) := laws_markByteSS.s0 (laws_markByteS.f d) L0
noncomputable def laws_markWriteS.S0 (d : Nat) (L0 : (Int × Int × (List (Int × (List Int)))) → Option (Int × (List (Int × (List Int))))) : (Int × Int × (List (Int × (List Int)))) → Option (Int × (List (Int × (List Int)))) := laws_markWriteS.s0 (laws_markByteS.f d) L0
noncomputable def laws_heldByteS.S0 (d : Nat) (L0 : ((List Int) × Int × Int) → Option (Int)) : ((List Int) × Int × Int) → Option (Int) := laws_heldByteS.s0 L0
noncomputable def laws_heldByteSS.S0 (d : Nat) (L0 : ((List (List Int)) × Int × Int) → Option (Int)) : ((List (List Int)) × Int × Int) → Option (Int) := laws_heldByteSS.s0 (laws_heldByteS.f d) L0
noncomputable def laws_heldWriteS.S0 (d : Nat) (L0 : ((List (Int × (List Int))) × Int × Int) → Option (Int)) : ((List (Int × (List Int))) × Int × Int) → Option (Int) := laws_heldWriteS.s0 (laws_heldByteS.f d) L0
noncomputable def laws_heldFaultS.S0 (d : Nat) (L0 : ((List (Int × Int × Int)) × Int × Int) → Option (Int)) : ((List (Int × Int × Int)) × Int × Int) → Option (Int) := laws_heldFaultS.s0 L0
theorem laws_szFaultS.t_eq (d : Nat) (a0_0 : List (Int × Int × Int)) (a1_0 : Int) : laws_szFaultS.f (d + 1) (a0_0, a1_0) = laws_szFaultS.m  (a0_0, a1_0) :=
  Eq.trans (show laws_szFaultS.f (d + 1) (a0_0, a1_0) = run (laws_szFaultS.cx (tab d) rnds) laws_szFaultS.sig laws_szFaultS.rv laws_szFaultS.body (a0_0, a1_0) by kernel_rfl) ((laws_szFaultS.m_eq (tab d) rnds a0_0 a1_0).trans rfl)
theorem spec_l1In.t_eq (d : Nat) (a0_0 : Int) (a1_0 : Int) (a2_0 : Int) : spec_l1In.f (d + 1) (a0_0, a1_0, a2_0) = spec_l1In.m  (a0_0, a1_0, a2_0) :=
  Eq.trans (show spec_l1In.f (d + 1) (a0_0, a1_0, a2_0) = run (spec_l1In.cx (tab d) rnds) spec_l1In.sig spec_l1In.rv spec_l1In.body (a0_0, a1_0, a2_0) by kernel_rfl) ((spec_l1In.m_eq (tab d) rnds a0_0 a1_0 a2_0).trans rfl)
theorem spec_l12Faults.S0_eq (d : Nat) : (fun a => loopK (stp (spec_l12Faults.cx (tab d) rnds) spec_l12Faults.body [1, 0, 1, 0] [] spec_l12Faults.fin) rnds (spec_l12Faults.ll0 a)) = iter (spec_l12Faults.S0 d) rnds :=
  funext (loop_iter spec_l12Faults.ll0 _ _ (fun L0 a => match a with | (x0, x1) => (spec_l12Faults.s0_eq (tab d) rnds L0 x0 x1).trans rfl) rnds)
theorem spec_l12Faults.t_eq (d : Nat) (a0_0 : List (Int × Int × Int)) : spec_l12Faults.f (d + 1) a0_0 = spec_l12Faults.m (iter (spec_l12Faults.S0 d) rnds) a0_0 :=
  Eq.trans (show spec_l12Faults.f (d + 1) a0_0 = run (spec_l12Faults.cx (tab d) rnds) spec_l12Faults.sig spec_l12Faults.rv spec_l12Faults.body a0_0 by kernel_rfl) ((spec_l12Faults.m_eq (tab d) rnds a0_0).trans (congrArg (fun z => spec_l12Faults.m z a0_0) (spec_l12Faults.S0_eq d)))
theorem laws_toFault.t_eq (d : Nat) (a0_0 : Int) (a0_1 : Int) (a0_2 : Int) : laws_toFault.f (d + 1) (a0_0, a0_1, a0_2) = laws_toFault.m  (a0_0, a0_1, a0_2) :=
  Eq.trans (show laws_toFault.f (d + 1) (a0_0, a0_1, a0_2) = run (laws_toFault.cx (tab d) rnds) laws_toFault.sig laws_toFault.rv laws_toFault.body (a0_0, a0_1, a0_2) by kernel_rfl) ((laws_toFault.m_eq (tab d) rnds a0_0 a0_1 a0_2).trans rfl)
theorem laws_toFaultS.S0_eq (d : Nat) : (fun a => loopK (stp (laws_toFaultS.cx (tab d) rnds) laws_toFaultS.body [1, 1, 0, 1, 0] [] laws_toFaultS.fin) rnds (laws_toFaultS.ll0 a)) = iter (laws_toFaultS.S0 d) rnds :=
  funext (loop_iter laws_toFaultS.ll0 _ _ (fun L0 a => match a with | (x0, x1, x2) => (laws_toFaultS.s0_eq (tab d) rnds L0 x0 x1 x2).trans rfl) rnds)
theorem laws_toFaultS.t_eq (d : Nat) (a0_0 : List (Int × Int × Int)) : laws_toFaultS.f (d + 1) a0_0 = laws_toFaultS.m (iter (laws_toFaultS.S0 d) rnds) a0_0 :=
  Eq.trans (show laws_toFaultS.f (d + 1) a0_0 = run (laws_toFaultS.cx (tab d) rnds) laws_toFaultS.sig laws_toFaultS.rv laws_toFaultS.body a0_0 by kernel_rfl) ((laws_toFaultS.m_eq (tab d) rnds a0_0).trans (congrArg (fun z => laws_toFaultS.m z a0_0) (laws_toFaultS.S0_eq d)))
theorem impl_in.t_eq (d : Nat) (a0_0 : Int) (a1_0 : Int) (a2_0 : Int) : impl_in.f (d + 1) (a0_0, a1_0, a2_0) = impl_in.m  (a0_0, a1_0, a2_0) :=
  Eq.trans (show impl_in.f (d + 1) (a0_0, a1_0, a2_0) = run (impl_in.cx (tab d) rnds) impl_in.sig impl_in.rv impl_in.body (a0_0, a1_0, a2_0) by kernel_rfl) ((impl_in.m_eq (tab d) rnds a0_0 a1_0 a2_0).trans rfl)
theorem impl_DiskOk.S4_eq (d : Nat) : (fun a => loopK (stp (impl_DiskOk.cx (tab d) rnds) impl_DiskOk.body [1, 1, 1, 1, 0, 1, 0] [] impl_DiskOk.fin) rnds (impl_DiskOk.ll4 a)) = iter (impl_DiskOk.S4 d) rnds :=
  funext (loop_iter impl_DiskOk.ll4 _ _ (fun L4 a => match a with | (x0, x1, x2, x3, x4, x5, x6, x7) => (impl_DiskOk.s4_eq (tab d) rnds L4 x0 x1 x2 x3 x4 x5 x6 x7).trans rfl) rnds)
theorem impl_DiskOk.S2_eq (d : Nat) : (fun a => loopK (stp (impl_DiskOk.cx (tab d) rnds) impl_DiskOk.body [1, 1, 1, 0, 1, 0] [] impl_DiskOk.fin) rnds (impl_DiskOk.ll2 a)) = iter (impl_DiskOk.S2 d) rnds :=
  funext (loop_iter impl_DiskOk.ll2 _ _ (fun L2 a => match a with | (x0, x1, x2, x3, x4, x5, x6, x7) => (impl_DiskOk.s2_eq (tab d) rnds L2 x0 x1 x2 x3 x4 x5 x6 x7).trans (congrArg (fun z => impl_DiskOk.s2 (tab d 62) z (fun a => L2 (impl_DiskOk.ll2 a)) (x0, x1, x2, x3, x4, x5, x6, x7)) (impl_DiskOk.S4_eq d))) rnds)
theorem impl_DiskOk.S0_eq (d : Nat) : (fun a => loopK (stp (impl_DiskOk.cx (tab d) rnds) impl_DiskOk.body [1, 1, 0, 1, 0] [] impl_DiskOk.fin) rnds (impl_DiskOk.ll0 a)) = iter (impl_DiskOk.S0 d) rnds :=
  funext (loop_iter impl_DiskOk.ll0 _ _ (fun L0 a => match a with | (x0, x1, x2, x3, x4, x5, x6, x7) => (impl_DiskOk.s0_eq (tab d) rnds L0 x0 x1 x2 x3 x4 x5 x6 x7).trans (congrArg (fun z => impl_DiskOk.s0 z (fun a => L0 (impl_DiskOk.ll0 a)) (x0, x1, x2, x3, x4, x5, x6, x7)) (impl_DiskOk.S2_eq d))) rnds)
theorem impl_DiskOk.t_eq (d : Nat) (a0_0 : List (List Int)) (a0_1 : List (Int × (List Int))) (a0_2 : Int) (a0_3 : List (Int × Int × Int)) (a0_4 : Bool) : impl_DiskOk.f (d + 1) (a0_0, a0_1, a0_2, a0_3, a0_4) = impl_DiskOk.m (impl_in.f d) (iter (impl_DiskOk.S0 d) rnds) (a0_0, a0_1, a0_2, a0_3, a0_4) :=
  Eq.trans (show impl_DiskOk.f (d + 1) (a0_0, a0_1, a0_2, a0_3, a0_4) = run (impl_DiskOk.cx (tab d) rnds) impl_DiskOk.sig impl_DiskOk.rv impl_DiskOk.body (a0_0, a0_1, a0_2, a0_3, a0_4) by kernel_rfl) ((impl_DiskOk.m_eq (tab d) rnds a0_0 a0_1 a0_2 a0_3 a0_4).trans (congrArg (fun z => impl_DiskOk.m (tab d 62) z (a0_0, a0_1, a0_2, a0_3, a0_4)) (impl_DiskOk.S0_eq d)))
theorem laws_eqFault.t_eq (d : Nat) (a0_0 : Int) (a0_1 : Int) (a0_2 : Int) (a1_0 : Int) (a1_1 : Int) (a1_2 : Int) : laws_eqFault.f (d + 1) (a0_0, a0_1, a0_2, a1_0, a1_1, a1_2) = laws_eqFault.m  (a0_0, a0_1, a0_2, a1_0, a1_1, a1_2) :=
  Eq.trans (show laws_eqFault.f (d + 1) (a0_0, a0_1, a0_2, a1_0, a1_1, a1_2) = run (laws_eqFault.cx (tab d) rnds) laws_eqFault.sig laws_eqFault.rv laws_eqFault.body (a0_0, a0_1, a0_2, a1_0, a1_1, a1_2) by kernel_rfl) ((laws_eqFault.m_eq (tab d) rnds a0_0 a0_1 a0_2 a1_0 a1_1 a1_2).trans rfl)
theorem laws_eqFaultS.S0_eq (d : Nat) : (fun a => loopK (stp (laws_eqFaultS.cx (tab d) rnds) laws_eqFaultS.body [1, 1, 0, 1, 0] [] laws_eqFaultS.fin) rnds (laws_eqFaultS.ll0 a)) = iter (laws_eqFaultS.S0 d) rnds :=
  funext (loop_iter laws_eqFaultS.ll0 _ _ (fun L0 a => match a with | (x0, x1, x2) => (laws_eqFaultS.s0_eq (tab d) rnds L0 x0 x1 x2).trans rfl) rnds)
theorem laws_eqFaultS.t_eq (d : Nat) (a0_0 : List (Int × Int × Int)) (a1_0 : List (Int × Int × Int)) : laws_eqFaultS.f (d + 1) (a0_0, a1_0) = laws_eqFaultS.m (iter (laws_eqFaultS.S0 d) rnds) (a0_0, a1_0) :=
  Eq.trans (show laws_eqFaultS.f (d + 1) (a0_0, a1_0) = run (laws_eqFaultS.cx (tab d) rnds) laws_eqFaultS.sig laws_eqFaultS.rv laws_eqFaultS.body (a0_0, a1_0) by kernel_rfl) ((laws_eqFaultS.m_eq (tab d) rnds a0_0 a1_0).trans (congrArg (fun z => laws_eqFaultS.m z (a0_0, a1_0)) (laws_eqFaultS.S0_eq d)))
theorem laws_eqByteS.S0_eq (d : Nat) : (fun a => loopK (stp (laws_eqByteS.cx (tab d) rnds) laws_eqByteS.body [1, 1, 0, 1, 0] [] laws_eqByteS.fin) rnds (laws_eqByteS.ll0 a)) = iter (laws_eqByteS.S0 d) rnds :=
  funext (loop_iter laws_eqByteS.ll0 _ _ (fun L0 a => match a with | (x0, x1, x2) => (laws_eqByteS.s0_eq (tab d) rnds L0 x0 x1 x2).trans rfl) rnds)
theorem laws_eqByteS.t_eq (d : Nat) (a0_0 : List Int) (a1_0 : List Int) : laws_eqByteS.f (d + 1) (a0_0, a1_0) = laws_eqByteS.m (iter (laws_eqByteS.S0 d) rnds) (a0_0, a1_0) :=
  Eq.trans (show laws_eqByteS.f (d + 1) (a0_0, a1_0) = run (laws_eqByteS.cx (tab d) rnds) laws_eqByteS.sig laws_eqByteS.rv laws_eqByteS.body (a0_0, a1_0) by kernel_rfl) ((laws_eqByteS.m_eq (tab d) rnds a0_0 a1_0).trans (congrArg (fun z => laws_eqByteS.m z (a0_0, a1_0)) (laws_eqByteS.S0_eq d)))
theorem laws_eqByteSS.S0_eq (d : Nat) : (fun a => loopK (stp (laws_eqByteSS.cx (tab d) rnds) laws_eqByteSS.body [1, 1, 0, 1, 0] [] laws_eqByteSS.fin) rnds (laws_eqByteSS.ll0 a)) = iter (laws_eqByteSS.S0 d) rnds :=
  funext (loop_iter laws_eqByteSS.ll0 _ _ (fun L0 a => match a with | (x0, x1, x2) => (laws_eqByteSS.s0_eq (tab d) rnds L0 x0 x1 x2).trans rfl) rnds)
theorem laws_eqByteSS.t_eq (d : Nat) (a0_0 : List (List Int)) (a1_0 : List (List Int)) : laws_eqByteSS.f (d + 1) (a0_0, a1_0) = laws_eqByteSS.m (iter (laws_eqByteSS.S0 d) rnds) (a0_0, a1_0) :=
  Eq.trans (show laws_eqByteSS.f (d + 1) (a0_0, a1_0) = run (laws_eqByteSS.cx (tab d) rnds) laws_eqByteSS.sig laws_eqByteSS.rv laws_eqByteSS.body (a0_0, a1_0) by kernel_rfl) ((laws_eqByteSS.m_eq (tab d) rnds a0_0 a1_0).trans (congrArg (fun z => laws_eqByteSS.m z (a0_0, a1_0)) (laws_eqByteSS.S0_eq d)))
theorem laws_eqWrite.t_eq (d : Nat) (a0_0 : Int) (a0_1 : List Int) (a1_0 : Int) (a1_1 : List Int) : laws_eqWrite.f (d + 1) (a0_0, a0_1, a1_0, a1_1) = laws_eqWrite.m (laws_eqByteS.f d) (a0_0, a0_1, a1_0, a1_1) :=
  Eq.trans (show laws_eqWrite.f (d + 1) (a0_0, a0_1, a1_0, a1_1) = run (laws_eqWrite.cx (tab d) rnds) laws_eqWrite.sig laws_eqWrite.rv laws_eqWrite.body (a0_0, a0_1, a1_0, a1_1) by kernel_rfl) ((laws_eqWrite.m_eq (tab d) rnds a0_0 a0_1 a1_0 a1_1).trans rfl)
theorem laws_eqWriteS.S0_eq (d : Nat) : (fun a => loopK (stp (laws_eqWriteS.cx (tab d) rnds) laws_eqWriteS.body [1, 1, 0, 1, 0] [] laws_eqWriteS.fin) rnds (laws_eqWriteS.ll0 a)) = iter (laws_eqWriteS.S0 d) rnds :=
  funext (loop_iter laws_eqWriteS.ll0 _ _ (fun L0 a => match a with | (x0, x1, x2) => (laws_eqWriteS.s0_eq (tab d) rnds L0 x0 x1 x2).trans rfl) rnds)
theorem laws_eqWriteS.t_eq (d : Nat) (a0_0 : List (Int × (List Int))) (a1_0 : List (Int × (List Int))) : laws_eqWriteS.f (d + 1) (a0_0, a1_0) = laws_eqWriteS.m (iter (laws_eqWriteS.S0 d) rnds) (a0_0, a1_0) :=
  Eq.trans (show laws_eqWriteS.f (d + 1) (a0_0, a1_0) = run (laws_eqWriteS.cx (tab d) rnds) laws_eqWriteS.sig laws_eqWriteS.rv laws_eqWriteS.body (a0_0, a1_0) by kernel_rfl) ((laws_eqWriteS.m_eq (tab d) rnds a0_0 a1_0).trans (congrArg (fun z => laws_eqWriteS.m z (a0_0, a1_0)) (laws_eqWriteS.S0_eq d)))
theorem laws_eqDisk.t_eq (d : Nat) (a0_0 : List (List Int)) (a0_1 : List (Int × (List Int))) (a0_2 : Int) (a0_3 : List (Int × Int × Int)) (a0_4 : Bool) (a1_0 : List (List Int)) (a1_1 : List (Int × (List Int))) (a1_2 : Int) (a1_3 : List (Int × Int × Int)) (a1_4 : Bool) : laws_eqDisk.f (d + 1) (a0_0, a0_1, a0_2, a0_3, a0_4, a1_0, a1_1, a1_2, a1_3, a1_4) = laws_eqDisk.m (laws_eqFaultS.f d) (laws_eqByteSS.f d) (laws_eqWriteS.f d) (a0_0, a0_1, a0_2, a0_3, a0_4, a1_0, a1_1, a1_2, a1_3, a1_4) :=
  Eq.trans (show laws_eqDisk.f (d + 1) (a0_0, a0_1, a0_2, a0_3, a0_4, a1_0, a1_1, a1_2, a1_3, a1_4) = run (laws_eqDisk.cx (tab d) rnds) laws_eqDisk.sig laws_eqDisk.rv laws_eqDisk.body (a0_0, a0_1, a0_2, a0_3, a0_4, a1_0, a1_1, a1_2, a1_3, a1_4) by kernel_rfl) ((laws_eqDisk.m_eq (tab d) rnds a0_0 a0_1 a0_2 a0_3 a0_4 a1_0 a1_1 a1_2 a1_3 a1_4).trans rfl)
theorem spec_DiskNew.S0_eq (d : Nat) : (fun a => loopK (stp (spec_DiskNew.cx (tab d) rnds) spec_DiskNew.body [1, 1, 1, 0, 1, 0] [] spec_DiskNew.fin) rnds (spec_DiskNew.ll0 a)) = iter (spec_DiskNew.S0 d) rnds :=
  funext (loop_iter spec_DiskNew.ll0 _ _ (fun L0 a => match a with | (x0, x1, x2, x3, x4, x5, x6, x7, x8, x9, x10, x11) => (spec_DiskNew.s0_eq (tab d) rnds L0 x0 x1 x2 x3 x4 x5 x6 x7 x8 x9 x10 x11).trans rfl) rnds)
theorem spec_DiskNew.t_eq (d : Nat) (a0_0 : Int) (a1_0 : List (Int × Int × Int)) : spec_DiskNew.f (d + 1) (a0_0, a1_0) = spec_DiskNew.m (spec_l1In.f d) (spec_l12Faults.f d) (iter (spec_DiskNew.S0 d) rnds) (a0_0, a1_0) :=
  Eq.trans (show spec_DiskNew.f (d + 1) (a0_0, a1_0) = run (spec_DiskNew.cx (tab d) rnds) spec_DiskNew.sig spec_DiskNew.rv spec_DiskNew.body (a0_0, a1_0) by kernel_rfl) ((spec_DiskNew.m_eq (tab d) rnds a0_0 a1_0).trans (congrArg (fun z => spec_DiskNew.m (tab d 58) (tab d 59) z (a0_0, a1_0)) (spec_DiskNew.S0_eq d)))
theorem impl_DiskNew.t_eq (d : Nat) (a0_0 : Int) (a1_0 : List (Int × Int × Int)) : impl_DiskNew.f (d + 1) (a0_0, a1_0) = impl_DiskNew.m (impl_DiskOk.f d) (impl_in.f d) (a0_0, a1_0) :=
  Eq.trans (show impl_DiskNew.f (d + 1) (a0_0, a1_0) = run (impl_DiskNew.cx (tab d) rnds) impl_DiskNew.sig impl_DiskNew.rv impl_DiskNew.body (a0_0, a1_0) by kernel_rfl) ((impl_DiskNew.m_eq (tab d) rnds a0_0 a1_0).trans rfl)
theorem laws_markFaultS.S0_eq (d : Nat) : (fun a => loopK (stp (laws_markFaultS.cx (tab d) rnds) laws_markFaultS.body [1, 0, 1, 0] [] laws_markFaultS.fin) rnds (laws_markFaultS.ll0 a)) = iter (laws_markFaultS.S0 d) rnds :=
  funext (loop_iter laws_markFaultS.ll0 _ _ (fun L0 a => match a with | (x0, x1, x2) => (laws_markFaultS.s0_eq (tab d) rnds L0 x0 x1 x2).trans rfl) rnds)
theorem laws_markFaultS.t_eq (d : Nat) (a0_0 : List (Int × Int × Int)) (a1_0 : Int) : laws_markFaultS.f (d + 1) (a0_0, a1_0) = laws_markFaultS.m (iter (laws_markFaultS.S0 d) rnds) (a0_0, a1_0) :=
  Eq.trans (show laws_markFaultS.f (d + 1) (a0_0, a1_0) = run (laws_markFaultS.cx (tab d) rnds) laws_markFaultS.sig laws_markFaultS.rv laws_markFaultS.body (a0_0, a1_0) by kernel_rfl) ((laws_markFaultS.m_eq (tab d) rnds a0_0 a1_0).trans (congrArg (fun z => laws_markFaultS.m z (a0_0, a1_0)) (laws_markFaultS.S0_eq d)))
theorem laws_markByteS.S0_eq (d : Nat) : (fun a => loopK (stp (laws_markByteS.cx (tab d) rnds) laws_markByteS.body [1, 0, 1, 0] [] laws_markByteS.fin) rnds (laws_markByteS.ll0 a)) = iter (laws_markByteS.S0 d) rnds :=
  funext (loop_iter laws_markByteS.ll0 _ _ (fun L0 a => match a with | (x0, x1, x2) => (laws_markByteS.s0_eq (tab d) rnds L0 x0 x1 x2).trans rfl) rnds)
theorem laws_markByteS.t_eq (d : Nat) (a0_0 : List Int) (a1_0 : Int) : laws_markByteS.f (d + 1) (a0_0, a1_0) = laws_markByteS.m (iter (laws_markByteS.S0 d) rnds) (a0_0, a1_0) :=
  Eq.trans (show laws_markByteS.f (d + 1) (a0_0, a1_0) = run (laws_markByteS.cx (tab d) rnds) laws_markByteS.sig laws_markByteS.rv laws_markByteS.body (a0_0, a1_0) by kernel_rfl) ((laws_markByteS.m_eq (tab d) rnds a0_0 a1_0).trans (congrArg (fun z => laws_markByteS.m z (a0_0, a1_0)) (laws_markByteS.S0_eq d)))
theorem laws_markByteSS.S0_eq (d : Nat) : (fun a => loopK (stp (laws_markByteSS.cx (tab d) rnds) laws_markByteSS.body [1, 0, 1, 0] [] laws_markByteSS.fin) rnds (laws_markByteSS.ll0 a)) = iter (laws_markByteSS.S0 d) rnds :=
  funext (loop_iter laws_markByteSS.ll0 _ _ (fun L0 a => match a with | (x0, x1, x2) => (laws_markByteSS.s0_eq (tab d) rnds L0 x0 x1 x2).trans rfl) rnds)
theorem laws_markByteSS.t_eq (d : Nat) (a0_0 : List (List Int)) (a1_0 : Int) : laws_markByteSS.f (d + 1) (a0_0, a1_0) = laws_markByteSS.m (iter (laws_markByteSS.S0 d) rnds) (a0_0, a1_0) :=
  Eq.trans (show laws_markByteSS.f (d + 1) (a0_0, a1_0) = run (laws_markByteSS.cx (tab d) rnds) laws_markByteSS.sig laws_markByteSS.rv laws_markByteSS.body (a0_0, a1_0) by kernel_rfl) ((laws_markByteSS.m_eq (tab d) rnds a0_0 a1_0).trans (congrArg (fun z => laws_markByteSS.m z (a0_0, a1_0)) (laws_markByteSS.S0_eq d)))
theorem laws_markWriteS.S0_eq (d : Nat) : (fun a => loopK (stp (laws_markWriteS.cx (tab d) rnds) laws_markWriteS.body [1, 0, 1, 0] [] laws_markWriteS.fin) rnds (laws_markWriteS.ll0 a)) = iter (laws_markWriteS.S0 d) rnds :=
  funext (loop_iter laws_markWriteS.ll0 _ _ (fun L0 a => match a with | (x0, x1, x2) => (laws_markWriteS.s0_eq (tab d) rnds L0 x0 x1 x2).trans rfl) rnds)
theorem laws_markWriteS.t_eq (d : Nat) (a0_0 : List (Int × (List Int))) (a1_0 : Int) : laws_markWriteS.f (d + 1) (a0_0, a1_0) = laws_markWriteS.m (iter (laws_markWriteS.S0 d) rnds) (a0_0, a1_0) :=
  Eq.trans (show laws_markWriteS.f (d + 1) (a0_0, a1_0) = run (laws_markWriteS.cx (tab d) rnds) laws_markWriteS.sig laws_markWriteS.rv laws_markWriteS.body (a0_0, a1_0) by kernel_rfl) ((laws_markWriteS.m_eq (tab d) rnds a0_0 a1_0).trans (congrArg (fun z => laws_markWriteS.m z (a0_0, a1_0)) (laws_markWriteS.S0_eq d)))
theorem laws_markDisk.t_eq (d : Nat) (a0_0 : List (List Int)) (a0_1 : List (Int × (List Int))) (a0_2 : Int) (a0_3 : List (Int × Int × Int)) (a0_4 : Bool) (a1_0 : Int) : laws_markDisk.f (d + 1) (a0_0, a0_1, a0_2, a0_3, a0_4, a1_0) = laws_markDisk.m (laws_markFaultS.f d) (laws_markByteSS.f d) (laws_markWriteS.f d) (a0_0, a0_1, a0_2, a0_3, a0_4, a1_0) :=
  Eq.trans (show laws_markDisk.f (d + 1) (a0_0, a0_1, a0_2, a0_3, a0_4, a1_0) = run (laws_markDisk.cx (tab d) rnds) laws_markDisk.sig laws_markDisk.rv laws_markDisk.body (a0_0, a0_1, a0_2, a0_3, a0_4, a1_0) by kernel_rfl) ((laws_markDisk.m_eq (tab d) rnds a0_0 a0_1 a0_2 a0_3 a0_4 a1_0).trans rfl)
theorem laws_heldByteS.S0_eq (d : Nat) : (fun a => loopK (stp (laws_heldByteS.cx (tab d) rnds) laws_heldByteS.body [1, 0, 1, 0] [] laws_heldByteS.fin) rnds (laws_heldByteS.ll0 a)) = iter (laws_heldByteS.S0 d) rnds :=
  funext (loop_iter laws_heldByteS.ll0 _ _ (fun L0 a => match a with | (x0, x1, x2) => (laws_heldByteS.s0_eq (tab d) rnds L0 x0 x1 x2).trans rfl) rnds)
theorem laws_heldByteS.t_eq (d : Nat) (a0_0 : List Int) (a1_0 : Int) : laws_heldByteS.f (d + 1) (a0_0, a1_0) = laws_heldByteS.m (iter (laws_heldByteS.S0 d) rnds) (a0_0, a1_0) :=
  Eq.trans (show laws_heldByteS.f (d + 1) (a0_0, a1_0) = run (laws_heldByteS.cx (tab d) rnds) laws_heldByteS.sig laws_heldByteS.rv laws_heldByteS.body (a0_0, a1_0) by kernel_rfl) ((laws_heldByteS.m_eq (tab d) rnds a0_0 a1_0).trans (congrArg (fun z => laws_heldByteS.m z (a0_0, a1_0)) (laws_heldByteS.S0_eq d)))
theorem laws_heldByteSS.S0_eq (d : Nat) : (fun a => loopK (stp (laws_heldByteSS.cx (tab d) rnds) laws_heldByteSS.body [1, 0, 1, 0] [] laws_heldByteSS.fin) rnds (laws_heldByteSS.ll0 a)) = iter (laws_heldByteSS.S0 d) rnds :=
  funext (loop_iter laws_heldByteSS.ll0 _ _ (fun L0 a => match a with | (x0, x1, x2) => (laws_heldByteSS.s0_eq (tab d) rnds L0 x0 x1 x2).trans rfl) rnds)
theorem laws_heldByteSS.t_eq (d : Nat) (a0_0 : List (List Int)) (a1_0 : Int) : laws_heldByteSS.f (d + 1) (a0_0, a1_0) = laws_heldByteSS.m (iter (laws_heldByteSS.S0 d) rnds) (a0_0, a1_0) :=
  Eq.trans (show laws_heldByteSS.f (d + 1) (a0_0, a1_0) = run (laws_heldByteSS.cx (tab d) rnds) laws_heldByteSS.sig laws_heldByteSS.rv laws_heldByteSS.body (a0_0, a1_0) by kernel_rfl) ((laws_heldByteSS.m_eq (tab d) rnds a0_0 a1_0).trans (congrArg (fun z => laws_heldByteSS.m z (a0_0, a1_0)) (laws_heldByteSS.S0_eq d)))
theorem laws_heldWriteS.S0_eq (d : Nat) : (fun a => loopK (stp (laws_heldWriteS.cx (tab d) rnds) laws_heldWriteS.body [1, 0, 1, 0] [] laws_heldWriteS.fin) rnds (laws_heldWriteS.ll0 a)) = iter (laws_heldWriteS.S0 d) rnds :=
  funext (loop_iter laws_heldWriteS.ll0 _ _ (fun L0 a => match a with | (x0, x1, x2) => (laws_heldWriteS.s0_eq (tab d) rnds L0 x0 x1 x2).trans rfl) rnds)
theorem laws_heldWriteS.t_eq (d : Nat) (a0_0 : List (Int × (List Int))) (a1_0 : Int) : laws_heldWriteS.f (d + 1) (a0_0, a1_0) = laws_heldWriteS.m (iter (laws_heldWriteS.S0 d) rnds) (a0_0, a1_0) :=
  Eq.trans (show laws_heldWriteS.f (d + 1) (a0_0, a1_0) = run (laws_heldWriteS.cx (tab d) rnds) laws_heldWriteS.sig laws_heldWriteS.rv laws_heldWriteS.body (a0_0, a1_0) by kernel_rfl) ((laws_heldWriteS.m_eq (tab d) rnds a0_0 a1_0).trans (congrArg (fun z => laws_heldWriteS.m z (a0_0, a1_0)) (laws_heldWriteS.S0_eq d)))
theorem laws_heldFaultS.S0_eq (d : Nat) : (fun a => loopK (stp (laws_heldFaultS.cx (tab d) rnds) laws_heldFaultS.body [1, 0, 1, 0] [] laws_heldFaultS.fin) rnds (laws_heldFaultS.ll0 a)) = iter (laws_heldFaultS.S0 d) rnds :=
  funext (loop_iter laws_heldFaultS.ll0 _ _ (fun L0 a => match a with | (x0, x1, x2) => (laws_heldFaultS.s0_eq (tab d) rnds L0 x0 x1 x2).trans rfl) rnds)
theorem laws_heldFaultS.t_eq (d : Nat) (a0_0 : List (Int × Int × Int)) (a1_0 : Int) : laws_heldFaultS.f (d + 1) (a0_0, a1_0) = laws_heldFaultS.m (iter (laws_heldFaultS.S0 d) rnds) (a0_0, a1_0) :=
  Eq.trans (show laws_heldFaultS.f (d + 1) (a0_0, a1_0) = run (laws_heldFaultS.cx (tab d) rnds) laws_heldFaultS.sig laws_heldFaultS.rv laws_heldFaultS.body (a0_0, a1_0) by kernel_rfl) ((laws_heldFaultS.m_eq (tab d) rnds a0_0 a1_0).trans (congrArg (fun z => laws_heldFaultS.m z (a0_0, a1_0)) (laws_heldFaultS.S0_eq d)))
theorem laws_heldDisk.t_eq (d : Nat) (a0_0 : List (List Int)) (a0_1 : List (Int × (List Int))) (a0_2 : Int) (a0_3 : List (Int × Int × Int)) (a0_4 : Bool) (a1_0 : Int) : laws_heldDisk.f (d + 1) (a0_0, a0_1, a0_2, a0_3, a0_4, a1_0) = laws_heldDisk.m (laws_heldByteSS.f d) (laws_heldWriteS.f d) (laws_heldFaultS.f d) (a0_0, a0_1, a0_2, a0_3, a0_4, a1_0) :=
  Eq.trans (show laws_heldDisk.f (d + 1) (a0_0, a0_1, a0_2, a0_3, a0_4, a1_0) = run (laws_heldDisk.cx (tab d) rnds) laws_heldDisk.sig laws_heldDisk.rv laws_heldDisk.body (a0_0, a0_1, a0_2, a0_3, a0_4, a1_0) by kernel_rfl) ((laws_heldDisk.m_eq (tab d) rnds a0_0 a0_1 a0_2 a0_3 a0_4 a1_0).trans rfl)
theorem laws_FnExactDiskNew.t_eq (d : Nat) (a0_0 : Int) (a1_0 : List (Int × Int × Int)) : laws_FnExactDiskNew.f (d + 1) (a0_0, a1_0) = laws_FnExactDiskNew.m (laws_eqDisk.f d) (laws_szFaultS.f d) (spec_DiskNew.f d) (laws_toFaultS.f d) (impl_DiskNew.f d) (laws_eqFaultS.f d) (laws_markFaultS.f d) (laws_markDisk.f d) (laws_heldDisk.f d) (a0_0, a1_0) :=
  Eq.trans (show laws_FnExactDiskNew.f (d + 1) (a0_0, a1_0) = run (laws_FnExactDiskNew.cx (tab d) rnds) laws_FnExactDiskNew.sig laws_FnExactDiskNew.rv laws_FnExactDiskNew.body (a0_0, a1_0) by kernel_rfl) ((laws_FnExactDiskNew.m_eq (tab d) rnds a0_0 a1_0).trans rfl)
theorem tys_ok (t : Nat) : tyOk Try.prog t (tys t) = true := by unfold tys; split <;> kernel_rfl
theorem eqts_ok (t : Nat) (h : eqts t = true) : eqOk Try.prog t (tys t) = true := by
  have := memN_mem.1 h
  revert t
  simp only [List.mem_cons, List.not_mem_nil, or_false]
  rintro t h ⟨⟩
theorem mix_ok : Try.prog.follows .mixedOrders = true := by kernel_rfl
theorem sig_ok (f : Nat) : ∀ r ∈ (fns f).sig.rs, 0 < r.2.length := by
  have h : (fns f).sig.rs.all (fun r => decide (0 < r.2.length)) = true := by unfold fns; split <;> kernel_rfl
  intro r hr
  simpa using List.all_eq_true.1 h r hr
theorem fn_ok (f : Nat) : FnOk Try.prog f (fns f) := by
  unfold fns
  split
  · exact .inl ⟨Try.f19, Try.func19, by kernel_rfl, by kernel_rfl, by decide +kernel, by decide +kernel⟩
  · exact .inl ⟨Try.f58, Try.func58, by kernel_rfl, by kernel_rfl, by decide +kernel, by decide +kernel⟩
  · exact .inl ⟨Try.f59, Try.func59, by kernel_rfl, by kernel_rfl, by decide +kernel, by decide +kernel⟩
  · exact .inl ⟨Try.f65, Try.func65, by kernel_rfl, by kernel_rfl, by decide +kernel, by decide +kernel⟩
  · exact .inl ⟨Try.f21, Try.func21, by kernel_rfl, by kernel_rfl, by decide +kernel, by decide +kernel⟩
  · exact .inl ⟨Try.f62, Try.func62, by kernel_rfl, by kernel_rfl, by decide +kernel, by decide +kernel⟩
  · exact .inl ⟨Try.f17, Try.func17, by kernel_rfl, by kernel_rfl, by decide +kernel, by decide +kernel⟩
  · exact .inl ⟨Try.f66, Try.func66, by kernel_rfl, by kernel_rfl, by decide +kernel, by decide +kernel⟩
  · exact .inl ⟨Try.f23, Try.func23, by kernel_rfl, by kernel_rfl, by decide +kernel, by decide +kernel⟩
  · exact .inl ⟨Try.f29, Try.func29, by kernel_rfl, by kernel_rfl, by decide +kernel, by decide +kernel⟩
  · exact .inl ⟨Try.f63, Try.func63, by kernel_rfl, by kernel_rfl, by decide +kernel, by decide +kernel⟩
  · exact .inl ⟨Try.f104, Try.func104, by kernel_rfl, by kernel_rfl, by decide +kernel, by decide +kernel⟩
  · exact .inl ⟨Try.f64, Try.func64, by kernel_rfl, by kernel_rfl, by decide +kernel, by decide +kernel⟩
  · exact .inl ⟨Try.f18, Try.func18, by kernel_rfl, by kernel_rfl, by decide +kernel, by decide +kernel⟩
  · exact .inl ⟨Try.f20, Try.func20, by kernel_rfl, by kernel_rfl, by decide +kernel, by decide +kernel⟩
  · exact .inl ⟨Try.f22, Try.func22, by kernel_rfl, by kernel_rfl, by decide +kernel, by decide +kernel⟩
  · exact .inl ⟨Try.f24, Try.func24, by kernel_rfl, by kernel_rfl, by decide +kernel, by decide +kernel⟩
  · exact .inl ⟨Try.f30, Try.func30, by kernel_rfl, by kernel_rfl, by decide +kernel, by decide +kernel⟩
  · exact .inl ⟨Try.f67, Try.func67, by kernel_rfl, by kernel_rfl, by decide +kernel, by decide +kernel⟩
  · exact .inl ⟨Try.f68, Try.func68, by kernel_rfl, by kernel_rfl, by decide +kernel, by decide +kernel⟩
  · exact .inl ⟨Try.f25, Try.func25, by kernel_rfl, by kernel_rfl, by decide +kernel, by decide +kernel⟩
  · exact .inl ⟨Try.f31, Try.func31, by kernel_rfl, by kernel_rfl, by decide +kernel, by decide +kernel⟩
  · exact .inl ⟨Try.f69, Try.func69, by kernel_rfl, by kernel_rfl, by decide +kernel, by decide +kernel⟩
  · exact .inl ⟨Try.f70, Try.func70, by kernel_rfl, by kernel_rfl, by decide +kernel, by decide +kernel⟩
  · exact .inl ⟨Try.f71, Try.func71, by kernel_rfl, by kernel_rfl, by decide +kernel, by decide +kernel⟩
  · exact .inl ⟨Try.f26, Try.func26, by kernel_rfl, by kernel_rfl, by decide +kernel, by decide +kernel⟩
  · exact .inl ⟨Try.f4, Try.func4, by kernel_rfl, by kernel_rfl, by decide +kernel, by decide +kernel⟩
  · exact .inr ⟨ "", rfl⟩
theorem sound (d f : Nat) : Contract Try.prog (fns f).sig f (tab d f) := table_sound tys_ok eqts_ok mix_ok sig_ok (fun f _ => fn_ok f) (fun _ _ h => by cases h) d f
end
end Go.PV.T
