/- Functions of the program by their own lists and numbers. No condition beyond those in each statement. -/
import Derived.Test.YthpiinnmmdaloaaPvGPx1
import Derived.Test.YthpiinnmmdaloaaPvLibD
set_option maxRecDepth 100000
set_option linter.unusedVariables false
namespace Go.PV.T
open Go.Proofs
noncomputable section
noncomputable def tab : Nat → (f : Nat) → TupT (sigs f).ins → Option (TupT (sigs f).outs) := table tys eqts fns (fun _ => none) rnds
noncomputable def spec_l1In.f (d : Nat) : (Int × Int × Int) → Option (Bool) := tab d 65
noncomputable def impl_in.f (d : Nat) : (Int × Int × Int) → Option (Bool) := tab d 69
noncomputable def spec_Crc.f (d : Nat) : (List Int) → Option (Int) := tab d 117
noncomputable def laws_toByteS.f (d : Nat) : (List Int) → Option (List Int) := tab d 20
noncomputable def impl_Crc.f (d : Nat) : (List Int) → Option (Int) := tab d 118
noncomputable def impl_addSum.f (d : Nat) : (List Int) → Option (List Int) := tab d 70
noncomputable def impl_clamp.f (d : Nat) : (Int × Int × Int) → Option (Int) := tab d 119
noncomputable def impl_addU.f (d : Nat) : ((List Int) × Int) → Option (List Int) := tab d 72
noncomputable def impl_addText.f (d : Nat) : ((List Int) × ByteArray) → Option (List Int) := tab d 71
noncomputable def impl_PutPage.f (d : Nat) : (Int × (List Int)) → Option (List Int) := tab d 21
noncomputable def laws_eqByteS.f (d : Nat) : ((List Int) × (List Int)) → Option (Bool) := tab d 22
noncomputable def laws_markByteS.f (d : Nat) : ((List Int) × Int) → Option (Int × (List Int)) := tab d 23
noncomputable def laws_heldByteS.f (d : Nat) : ((List Int) × Int) → Option (Int) := tab d 24
noncomputable def impl_copyBytes.f (d : Nat) : (List Int) → Option (List Int) := tab d 125
noncomputable def impl_PutSum.f (d : Nat) : (List Int) → Option (List Int) := tab d 126
noncomputable def impl_GetSum.f (d : Nat) : (List Int) → Option ((List Int) × Bool) := tab d 86
noncomputable def impl_GetU.f (d : Nat) : ((List Int) × Int) → Option (Int × Int × Bool) := tab d 87
noncomputable def impl_GetText.f (d : Nat) : ((List Int) × Int) → Option (ByteArray × Int × Bool) := tab d 88
noncomputable def impl_GetPage.f (d : Nat) : (List Int) → Option (Int × (List Int) × Bool) := tab d 37
noncomputable def spec_GetSum.f (d : Nat) : (List Int) → Option ((List Int) × Bool) := tab d 100
noncomputable def spec_GetU.f (d : Nat) : ((List Int) × Int) → Option (Int × Int × Bool) := tab d 101
noncomputable def spec_GetText.f (d : Nat) : ((List Int) × Int) → Option (ByteArray × Int × Bool) := tab d 102
noncomputable def spec_GetPage.f (d : Nat) : (List Int) → Option (Int × (List Int) × Bool) := tab d 48
noncomputable def laws_FnExactGetPage.f (d : Nat) : (List Int) → Option (Bool) := tab d 11
noncomputable def spec_Crc.S2 (d : Nat) (L0 : ((List Int) × Int × Int) → Option (Int)) (L2 : ((List Int) × Int × Int × Int) → Option (Int)) : ((List Int) × Int × Int × Int) → Option (Int) := spec_Crc.s2 L0 L2
noncomputable def spec_Crc.S0 (d : Nat) (L0 : ((List Int) × Int × Int) → Option (Int)) : ((List Int) × Int × Int) → Option (Int) := spec_Crc.s0 (iter (spec_Crc.S2 d L0) rnds) L0
noncomputable def laws_toByteS.S0 (d : Nat) (L0 : ((List Int) × Int × (List Int)) → Option (List Int)) : ((List Int) × Int × (List Int)) → Option (List Int) := laws_toByteS.s0 L0
noncomputable def impl_Crc.S2 (d : Nat) (L0 : (Int × (List Int) × Int × Int) → Option (Int)) (L2 : (Int × (List Int) × Int × Int × Int) → Option (Int)) : (Int × (List Int) × Int × Int × Int) → Option (Int) := impl_Crc.s2 L0 L2
noncomputable def impl_Crc.S0 (d : Nat) (L0 : (Int × (List Int) × Int × Int) → Option (Int)) : (Int × (List Int) × Int × Int) → Option (Int) := impl_Crc.s0 (iter (impl_Crc.S2 d L0) rnds) L0
noncomputable def impl_addU.S0 (d : Nat) (L0 : (Int × (List Int)) → Option (List Int)) : (Int × (List Int)) → Option (List Int) := impl_addU.s0 L0
noncomputable def laws_eqByteS.S0 (d : Nat) (L0 : ((List Int) × (List Int) × Int) → Option (Bool)) : ((List Int) × (List Int) × Int) → Option (Bool) := laws_eqByteS.s0 L0
noncomputable def laws_markByteS.S0 (d : Nat) (L0 : (Int × Int × (List Int)) → Option (Int × (List Int))) : (Int × Int × (List Int)) → Option (Int × (List Int)) := laws_markByteS.s0 L0
noncomputable def laws_heldByteS.S0 (d : Nat) (L0 : ((List Int) × Int × Int) → Option (Int)) : ((List Int) × Int × Int) → Option (Int) := laws_heldByteS.s0 L0
noncomputable def impl_GetU.S0 (d : Nat) (L0 : ((List Int) × Int × Int × Int) → Option (Int × Int × Bool)) : ((List Int) × Int × Int × Int) → Option (Int × Int × Bool) := impl_GetU.s0 L0
noncomputable def spec_GetSum.S0 (d : Nat) (L0 : ((List Int) × Int × Int × Int) → Option ((List Int) × Bool)) : ((List Int) × Int × Int × Int) → Option ((List Int) × Bool) := spec_GetSum.s0 (spec_Crc.f d) L0
noncomputable def spec_GetU.S0 (d : Nat) (L0 : ((List Int) × Int × Int × Int) → Option (Int × Int × Bool)) : ((List Int) × Int × Int × Int) → Option (Int × Int × Bool) := spec_GetU.s0 L0
theorem spec_l1In.t_eq (d : Nat) (a0_0 : Int) (a1_0 : Int) (a2_0 : Int) : spec_l1In.f (d + 1) (a0_0, a1_0, a2_0) = spec_l1In.m  (a0_0, a1_0, a2_0) :=
  Eq.trans (show spec_l1In.f (d + 1) (a0_0, a1_0, a2_0) = run (spec_l1In.cx (tab d) rnds) spec_l1In.sig spec_l1In.rv spec_l1In.body (a0_0, a1_0, a2_0) by kernel_rfl) ((spec_l1In.m_eq (tab d) rnds a0_0 a1_0 a2_0).trans rfl)
theorem impl_in.t_eq (d : Nat) (a0_0 : Int) (a1_0 : Int) (a2_0 : Int) : impl_in.f (d + 1) (a0_0, a1_0, a2_0) = impl_in.m  (a0_0, a1_0, a2_0) :=
  Eq.trans (show impl_in.f (d + 1) (a0_0, a1_0, a2_0) = run (impl_in.cx (tab d) rnds) impl_in.sig impl_in.rv impl_in.body (a0_0, a1_0, a2_0) by kernel_rfl) ((impl_in.m_eq (tab d) rnds a0_0 a1_0 a2_0).trans rfl)
theorem spec_Crc.S2_eq (d : Nat) (L0 : LS → Option (TupT spec_Crc.sig.outs)) : ((fun a => loopK (stp (spec_Crc.cx (tab d) rnds) spec_Crc.body [1, 1, 0, 1, 0, 0, 1, 0, 0, 1, 1, 0] [L0] spec_Crc.fin) rnds (spec_Crc.ll2 a) : ((List Int) × Int × Int × Int) → Option (Int))) = iter (spec_Crc.S2 d (fun a => L0 (spec_Crc.ll0 a))) rnds :=
  funext (loop_iter spec_Crc.ll2 _ (spec_Crc.S2 d (fun a => L0 (spec_Crc.ll0 a))) (fun (L2 : LS → Option (TupT spec_Crc.sig.outs)) a => match a with | (x0, x1, x2, x3) => (spec_Crc.s2_eq (tab d) rnds L0 L2 x0 x1 x2 x3).trans rfl) rnds)
theorem spec_Crc.S0_eq (d : Nat) : ((fun a => loopK (stp (spec_Crc.cx (tab d) rnds) spec_Crc.body [1, 1, 0, 1, 0] [] spec_Crc.fin) rnds (spec_Crc.ll0 a) : ((List Int) × Int × Int) → Option (Int))) = iter (spec_Crc.S0 d) rnds :=
  funext (loop_iter spec_Crc.ll0 _ (spec_Crc.S0 d) (fun (L0 : LS → Option (TupT spec_Crc.sig.outs)) a => match a with | (x0, x1, x2) => (spec_Crc.s0_eq (tab d) rnds L0 x0 x1 x2).trans (congrArg (fun z => spec_Crc.s0 z (fun a => L0 (spec_Crc.ll0 a)) (x0, x1, x2)) (spec_Crc.S2_eq d L0))) rnds)
theorem spec_Crc.t_eq (d : Nat) (a0_0 : List Int) : spec_Crc.f (d + 1) a0_0 = spec_Crc.m (iter (spec_Crc.S0 d) rnds) a0_0 :=
  Eq.trans (show spec_Crc.f (d + 1) a0_0 = run (spec_Crc.cx (tab d) rnds) spec_Crc.sig spec_Crc.rv spec_Crc.body a0_0 by kernel_rfl) ((spec_Crc.m_eq (tab d) rnds a0_0).trans (congrArg (fun z => spec_Crc.m z a0_0) (spec_Crc.S0_eq d)))
theorem laws_toByteS.S0_eq (d : Nat) : ((fun a => loopK (stp (laws_toByteS.cx (tab d) rnds) laws_toByteS.body [1, 1, 0, 1, 0] [] laws_toByteS.fin) rnds (laws_toByteS.ll0 a) : ((List Int) × Int × (List Int)) → Option (List Int))) = iter (laws_toByteS.S0 d) rnds :=
  funext (loop_iter laws_toByteS.ll0 _ (laws_toByteS.S0 d) (fun (L0 : LS → Option (TupT laws_toByteS.sig.outs)) a => match a with | (x0, x1, x2) => (laws_toByteS.s0_eq (tab d) rnds L0 x0 x1 x2).trans rfl) rnds)
theorem laws_toByteS.t_eq (d : Nat) (a0_0 : List Int) : laws_toByteS.f (d + 1) a0_0 = laws_toByteS.m (iter (laws_toByteS.S0 d) rnds) a0_0 :=
  Eq.trans (show laws_toByteS.f (d + 1) a0_0 = run (laws_toByteS.cx (tab d) rnds) laws_toByteS.sig laws_toByteS.rv laws_toByteS.body a0_0 by kernel_rfl) ((laws_toByteS.m_eq (tab d) rnds a0_0).trans (congrArg (fun z => laws_toByteS.m z a0_0) (laws_toByteS.S0_eq d)))
theorem impl_Crc.S2_eq (d : Nat) (L0 : LS → Option (TupT impl_Crc.sig.outs)) : ((fun a => loopK (stp (impl_Crc.cx (tab d) rnds) impl_Crc.body [1, 1, 0, 1, 0, 0, 1, 1, 0, 0, 1, 1, 1, 0] [L0] impl_Crc.fin) rnds (impl_Crc.ll2 a) : (Int × (List Int) × Int × Int × Int) → Option (Int))) = iter (impl_Crc.S2 d (fun a => L0 (impl_Crc.ll0 a))) rnds :=
  funext (loop_iter impl_Crc.ll2 _ (impl_Crc.S2 d (fun a => L0 (impl_Crc.ll0 a))) (fun (L2 : LS → Option (TupT impl_Crc.sig.outs)) a => match a with | (x0, x1, x2, x3, x4) => (impl_Crc.s2_eq (tab d) rnds L0 L2 x0 x1 x2 x3 x4).trans rfl) rnds)
theorem impl_Crc.S0_eq (d : Nat) : ((fun a => loopK (stp (impl_Crc.cx (tab d) rnds) impl_Crc.body [1, 1, 0, 1, 0] [] impl_Crc.fin) rnds (impl_Crc.ll0 a) : (Int × (List Int) × Int × Int) → Option (Int))) = iter (impl_Crc.S0 d) rnds :=
  funext (loop_iter impl_Crc.ll0 _ (impl_Crc.S0 d) (fun (L0 : LS → Option (TupT impl_Crc.sig.outs)) a => match a with | (x0, x1, x2, x3) => (impl_Crc.s0_eq (tab d) rnds L0 x0 x1 x2 x3).trans (congrArg (fun z => impl_Crc.s0 z (fun a => L0 (impl_Crc.ll0 a)) (x0, x1, x2, x3)) (impl_Crc.S2_eq d L0))) rnds)
theorem impl_Crc.t_eq (d : Nat) (a0_0 : List Int) : impl_Crc.f (d + 1) a0_0 = impl_Crc.m (iter (impl_Crc.S0 d) rnds) a0_0 :=
  Eq.trans (show impl_Crc.f (d + 1) a0_0 = run (impl_Crc.cx (tab d) rnds) impl_Crc.sig impl_Crc.rv impl_Crc.body a0_0 by kernel_rfl) ((impl_Crc.m_eq (tab d) rnds a0_0).trans (congrArg (fun z => impl_Crc.m z a0_0) (impl_Crc.S0_eq d)))
theorem impl_addSum.t_eq (d : Nat) (a0_0 : List Int) : impl_addSum.f (d + 1) a0_0 = impl_addSum.m (impl_Crc.f d) a0_0 :=
  Eq.trans (show impl_addSum.f (d + 1) a0_0 = run (impl_addSum.cx (tab d) rnds) impl_addSum.sig impl_addSum.rv impl_addSum.body a0_0 by kernel_rfl) ((impl_addSum.m_eq (tab d) rnds a0_0).trans rfl)
theorem impl_clamp.t_eq (d : Nat) (a0_0 : Int) (a1_0 : Int) (a2_0 : Int) : impl_clamp.f (d + 1) (a0_0, a1_0, a2_0) = impl_clamp.m  (a0_0, a1_0, a2_0) :=
  Eq.trans (show impl_clamp.f (d + 1) (a0_0, a1_0, a2_0) = run (impl_clamp.cx (tab d) rnds) impl_clamp.sig impl_clamp.rv impl_clamp.body (a0_0, a1_0, a2_0) by kernel_rfl) ((impl_clamp.m_eq (tab d) rnds a0_0 a1_0 a2_0).trans rfl)
theorem impl_addU.S0_eq (d : Nat) : ((fun a => loopK (stp (impl_addU.cx (tab d) rnds) impl_addU.body [1, 1, 0, 0] [] impl_addU.fin) rnds (impl_addU.ll0 a) : (Int × (List Int)) → Option (List Int))) = iter (impl_addU.S0 d) rnds :=
  funext (loop_iter impl_addU.ll0 _ (impl_addU.S0 d) (fun (L0 : LS → Option (TupT impl_addU.sig.outs)) a => match a with | (x0, x1) => (impl_addU.s0_eq (tab d) rnds L0 x0 x1).trans rfl) rnds)
theorem impl_addU.t_eq (d : Nat) (a0_0 : List Int) (a1_0 : Int) : impl_addU.f (d + 1) (a0_0, a1_0) = impl_addU.m (impl_clamp.f d) (iter (impl_addU.S0 d) rnds) (a0_0, a1_0) :=
  Eq.trans (show impl_addU.f (d + 1) (a0_0, a1_0) = run (impl_addU.cx (tab d) rnds) impl_addU.sig impl_addU.rv impl_addU.body (a0_0, a1_0) by kernel_rfl) ((impl_addU.m_eq (tab d) rnds a0_0 a1_0).trans (congrArg (fun z => impl_addU.m (tab d 119) z (a0_0, a1_0)) (impl_addU.S0_eq d)))
theorem impl_addText.t_eq (d : Nat) (a0_0 : List Int) (a1_0 : ByteArray) : impl_addText.f (d + 1) (a0_0, a1_0) = impl_addText.m (impl_addU.f d) (a0_0, a1_0) :=
  Eq.trans (show impl_addText.f (d + 1) (a0_0, a1_0) = run (impl_addText.cx (tab d) rnds) impl_addText.sig impl_addText.rv impl_addText.body (a0_0, a1_0) by kernel_rfl) ((impl_addText.m_eq (tab d) rnds a0_0 a1_0).trans rfl)
theorem impl_PutPage.t_eq (d : Nat) (a0_0 : Int) (a1_0 : List Int) : impl_PutPage.f (d + 1) (a0_0, a1_0) = impl_PutPage.m (impl_in.f d) (impl_addSum.f d) (impl_addText.f d) (impl_addU.f d) (a0_0, a1_0) :=
  Eq.trans (show impl_PutPage.f (d + 1) (a0_0, a1_0) = run (impl_PutPage.cx (tab d) rnds) impl_PutPage.sig impl_PutPage.rv impl_PutPage.body (a0_0, a1_0) by kernel_rfl) ((impl_PutPage.m_eq (tab d) rnds a0_0 a1_0).trans rfl)
theorem laws_eqByteS.S0_eq (d : Nat) : ((fun a => loopK (stp (laws_eqByteS.cx (tab d) rnds) laws_eqByteS.body [1, 1, 0, 1, 0] [] laws_eqByteS.fin) rnds (laws_eqByteS.ll0 a) : ((List Int) × (List Int) × Int) → Option (Bool))) = iter (laws_eqByteS.S0 d) rnds :=
  funext (loop_iter laws_eqByteS.ll0 _ (laws_eqByteS.S0 d) (fun (L0 : LS → Option (TupT laws_eqByteS.sig.outs)) a => match a with | (x0, x1, x2) => (laws_eqByteS.s0_eq (tab d) rnds L0 x0 x1 x2).trans rfl) rnds)
theorem laws_eqByteS.t_eq (d : Nat) (a0_0 : List Int) (a1_0 : List Int) : laws_eqByteS.f (d + 1) (a0_0, a1_0) = laws_eqByteS.m (iter (laws_eqByteS.S0 d) rnds) (a0_0, a1_0) :=
  Eq.trans (show laws_eqByteS.f (d + 1) (a0_0, a1_0) = run (laws_eqByteS.cx (tab d) rnds) laws_eqByteS.sig laws_eqByteS.rv laws_eqByteS.body (a0_0, a1_0) by kernel_rfl) ((laws_eqByteS.m_eq (tab d) rnds a0_0 a1_0).trans (congrArg (fun z => laws_eqByteS.m z (a0_0, a1_0)) (laws_eqByteS.S0_eq d)))
theorem laws_markByteS.S0_eq (d : Nat) : ((fun a => loopK (stp (laws_markByteS.cx (tab d) rnds) laws_markByteS.body [1, 0, 1, 0] [] laws_markByteS.fin) rnds (laws_markByteS.ll0 a) : (Int × Int × (List Int)) → Option (Int × (List Int)))) = iter (laws_markByteS.S0 d) rnds :=
  funext (loop_iter laws_markByteS.ll0 _ (laws_markByteS.S0 d) (fun (L0 : LS → Option (TupT laws_markByteS.sig.outs)) a => match a with | (x0, x1, x2) => (laws_markByteS.s0_eq (tab d) rnds L0 x0 x1 x2).trans rfl) rnds)
theorem laws_markByteS.t_eq (d : Nat) (a0_0 : List Int) (a1_0 : Int) : laws_markByteS.f (d + 1) (a0_0, a1_0) = laws_markByteS.m (iter (laws_markByteS.S0 d) rnds) (a0_0, a1_0) :=
  Eq.trans (show laws_markByteS.f (d + 1) (a0_0, a1_0) = run (laws_markByteS.cx (tab d) rnds) laws_markByteS.sig laws_markByteS.rv laws_markByteS.body (a0_0, a1_0) by kernel_rfl) ((laws_markByteS.m_eq (tab d) rnds a0_0 a1_0).trans (congrArg (fun z => laws_markByteS.m z (a0_0, a1_0)) (laws_markByteS.S0_eq d)))
theorem laws_heldByteS.S0_eq (d : Nat) : ((fun a => loopK (stp (laws_heldByteS.cx (tab d) rnds) laws_heldByteS.body [1, 0, 1, 0] [] laws_heldByteS.fin) rnds (laws_heldByteS.ll0 a) : ((List Int) × Int × Int) → Option (Int))) = iter (laws_heldByteS.S0 d) rnds :=
  funext (loop_iter laws_heldByteS.ll0 _ (laws_heldByteS.S0 d) (fun (L0 : LS → Option (TupT laws_heldByteS.sig.outs)) a => match a with | (x0, x1, x2) => (laws_heldByteS.s0_eq (tab d) rnds L0 x0 x1 x2).trans rfl) rnds)
theorem laws_heldByteS.t_eq (d : Nat) (a0_0 : List Int) (a1_0 : Int) : laws_heldByteS.f (d + 1) (a0_0, a1_0) = laws_heldByteS.m (iter (laws_heldByteS.S0 d) rnds) (a0_0, a1_0) :=
  Eq.trans (show laws_heldByteS.f (d + 1) (a0_0, a1_0) = run (laws_heldByteS.cx (tab d) rnds) laws_heldByteS.sig laws_heldByteS.rv laws_heldByteS.body (a0_0, a1_0) by kernel_rfl) ((laws_heldByteS.m_eq (tab d) rnds a0_0 a1_0).trans (congrArg (fun z => laws_heldByteS.m z (a0_0, a1_0)) (laws_heldByteS.S0_eq d)))
theorem impl_copyBytes.t_eq (d : Nat) (a0_0 : List Int) : impl_copyBytes.f (d + 1) a0_0 = impl_copyBytes.m  a0_0 :=
  Eq.trans (show impl_copyBytes.f (d + 1) a0_0 = run (impl_copyBytes.cx (tab d) rnds) impl_copyBytes.sig impl_copyBytes.rv impl_copyBytes.body a0_0 by kernel_rfl) ((impl_copyBytes.m_eq (tab d) rnds a0_0).trans rfl)
theorem impl_PutSum.t_eq (d : Nat) (a0_0 : List Int) : impl_PutSum.f (d + 1) a0_0 = impl_PutSum.m (impl_addSum.f d) (impl_copyBytes.f d) a0_0 :=
  Eq.trans (show impl_PutSum.f (d + 1) a0_0 = run (impl_PutSum.cx (tab d) rnds) impl_PutSum.sig impl_PutSum.rv impl_PutSum.body a0_0 by kernel_rfl) ((impl_PutSum.m_eq (tab d) rnds a0_0).trans rfl)
theorem impl_GetSum.t_eq (d : Nat) (a0_0 : List Int) : impl_GetSum.f (d + 1) a0_0 = impl_GetSum.m (impl_copyBytes.f d) (impl_PutSum.f d) a0_0 :=
  Eq.trans (show impl_GetSum.f (d + 1) a0_0 = run (impl_GetSum.cx (tab d) rnds) impl_GetSum.sig impl_GetSum.rv impl_GetSum.body a0_0 by kernel_rfl) ((impl_GetSum.m_eq (tab d) rnds a0_0).trans rfl)
theorem impl_GetU.S0_eq (d : Nat) : ((fun a => loopK (stp (impl_GetU.cx (tab d) rnds) impl_GetU.body [1, 1, 0, 1, 0] [] impl_GetU.fin) rnds (impl_GetU.ll0 a) : ((List Int) × Int × Int × Int) → Option (Int × Int × Bool))) = iter (impl_GetU.S0 d) rnds :=
  funext (loop_iter impl_GetU.ll0 _ (impl_GetU.S0 d) (fun (L0 : LS → Option (TupT impl_GetU.sig.outs)) a => match a with | (x0, x1, x2, x3) => (impl_GetU.s0_eq (tab d) rnds L0 x0 x1 x2 x3).trans rfl) rnds)
theorem impl_GetU.t_eq (d : Nat) (a0_0 : List Int) (a1_0 : Int) : impl_GetU.f (d + 1) (a0_0, a1_0) = impl_GetU.m (iter (impl_GetU.S0 d) rnds) (a0_0, a1_0) :=
  Eq.trans (show impl_GetU.f (d + 1) (a0_0, a1_0) = run (impl_GetU.cx (tab d) rnds) impl_GetU.sig impl_GetU.rv impl_GetU.body (a0_0, a1_0) by kernel_rfl) ((impl_GetU.m_eq (tab d) rnds a0_0 a1_0).trans (congrArg (fun z => impl_GetU.m z (a0_0, a1_0)) (impl_GetU.S0_eq d)))
theorem impl_GetText.t_eq (d : Nat) (a0_0 : List Int) (a1_0 : Int) : impl_GetText.f (d + 1) (a0_0, a1_0) = impl_GetText.m (impl_GetU.f d) (a0_0, a1_0) :=
  Eq.trans (show impl_GetText.f (d + 1) (a0_0, a1_0) = run (impl_GetText.cx (tab d) rnds) impl_GetText.sig impl_GetText.rv impl_GetText.body (a0_0, a1_0) by kernel_rfl) ((impl_GetText.m_eq (tab d) rnds a0_0 a1_0).trans rfl)
theorem impl_GetPage.t_eq (d : Nat) (a0_0 : List Int) : impl_GetPage.f (d + 1) a0_0 = impl_GetPage.m (impl_PutPage.f d) (impl_GetSum.f d) (impl_GetU.f d) (impl_GetText.f d) a0_0 :=
  Eq.trans (show impl_GetPage.f (d + 1) a0_0 = run (impl_GetPage.cx (tab d) rnds) impl_GetPage.sig impl_GetPage.rv impl_GetPage.body a0_0 by kernel_rfl) ((impl_GetPage.m_eq (tab d) rnds a0_0).trans rfl)
theorem spec_GetSum.S0_eq (d : Nat) : ((fun a => loopK (stp (spec_GetSum.cx (tab d) rnds) spec_GetSum.body [1, 1, 1, 1, 0, 1, 0] [] spec_GetSum.fin) rnds (spec_GetSum.ll0 a) : ((List Int) × Int × Int × Int) → Option ((List Int) × Bool))) = iter (spec_GetSum.S0 d) rnds :=
  funext (loop_iter spec_GetSum.ll0 _ (spec_GetSum.S0 d) (fun (L0 : LS → Option (TupT spec_GetSum.sig.outs)) a => match a with | (x0, x1, x2, x3) => (spec_GetSum.s0_eq (tab d) rnds L0 x0 x1 x2 x3).trans rfl) rnds)
theorem spec_GetSum.t_eq (d : Nat) (a0_0 : List Int) : spec_GetSum.f (d + 1) a0_0 = spec_GetSum.m (iter (spec_GetSum.S0 d) rnds) a0_0 :=
  Eq.trans (show spec_GetSum.f (d + 1) a0_0 = run (spec_GetSum.cx (tab d) rnds) spec_GetSum.sig spec_GetSum.rv spec_GetSum.body a0_0 by kernel_rfl) ((spec_GetSum.m_eq (tab d) rnds a0_0).trans (congrArg (fun z => spec_GetSum.m z a0_0) (spec_GetSum.S0_eq d)))
theorem spec_GetU.S0_eq (d : Nat) : ((fun a => loopK (stp (spec_GetU.cx (tab d) rnds) spec_GetU.body [1, 1, 0, 1, 0] [] spec_GetU.fin) rnds (spec_GetU.ll0 a) : ((List Int) × Int × Int × Int) → Option (Int × Int × Bool))) = iter (spec_GetU.S0 d) rnds :=
  funext (loop_iter spec_GetU.ll0 _ (spec_GetU.S0 d) (fun (L0 : LS → Option (TupT spec_GetU.sig.outs)) a => match a with | (x0, x1, x2, x3) => (spec_GetU.s0_eq (tab d) rnds L0 x0 x1 x2 x3).trans rfl) rnds)
theorem spec_GetU.t_eq (d : Nat) (a0_0 : List Int) (a1_0 : Int) : spec_GetU.f (d + 1) (a0_0, a1_0) = spec_GetU.m (iter (spec_GetU.S0 d) rnds) (a0_0, a1_0) :=
  Eq.trans (show spec_GetU.f (d + 1) (a0_0, a1_0) = run (spec_GetU.cx (tab d) rnds) spec_GetU.sig spec_GetU.rv spec_GetU.body (a0_0, a1_0) by kernel_rfl) ((spec_GetU.m_eq (tab d) rnds a0_0 a1_0).trans (congrArg (fun z => spec_GetU.m z (a0_0, a1_0)) (spec_GetU.S0_eq d)))
theorem spec_GetText.t_eq (d : Nat) (a0_0 : List Int) (a1_0 : Int) : spec_GetText.f (d + 1) (a0_0, a1_0) = spec_GetText.m (spec_GetU.f d) (a0_0, a1_0) :=
  Eq.trans (show spec_GetText.f (d + 1) (a0_0, a1_0) = run (spec_GetText.cx (tab d) rnds) spec_GetText.sig spec_GetText.rv spec_GetText.body (a0_0, a1_0) by kernel_rfl) ((spec_GetText.m_eq (tab d) rnds a0_0 a1_0).trans rfl)
theorem spec_GetPage.t_eq (d : Nat) (a0_0 : List Int) : spec_GetPage.f (d + 1) a0_0 = spec_GetPage.m (spec_l1In.f d) (spec_GetSum.f d) (spec_GetU.f d) (spec_GetText.f d) a0_0 :=
  Eq.trans (show spec_GetPage.f (d + 1) a0_0 = run (spec_GetPage.cx (tab d) rnds) spec_GetPage.sig spec_GetPage.rv spec_GetPage.body a0_0 by kernel_rfl) ((spec_GetPage.m_eq (tab d) rnds a0_0).trans rfl)
theorem laws_FnExactGetPage.t_eq (d : Nat) (a0_0 : List Int) : laws_FnExactGetPage.f (d + 1) a0_0 = laws_FnExactGetPage.m (laws_toByteS.f d) (laws_eqByteS.f d) (laws_markByteS.f d) (laws_heldByteS.f d) (impl_GetPage.f d) (spec_GetPage.f d) a0_0 :=
  Eq.trans (show laws_FnExactGetPage.f (d + 1) a0_0 = run (laws_FnExactGetPage.cx (tab d) rnds) laws_FnExactGetPage.sig laws_FnExactGetPage.rv laws_FnExactGetPage.body a0_0 by kernel_rfl) ((laws_FnExactGetPage.m_eq (tab d) rnds a0_0).trans rfl)
theorem tys_ok (t : Nat) : tyOk Try.prog t (tys t) = true := by unfold tys; split <;> kernel_rfl
theorem eqts_ok (t : Nat) (h : eqts t = true) : eqOk Try.prog t (tys t) = true := by
  have := memN_mem.1 h
  revert t
  simp only [List.mem_cons, List.not_mem_nil, or_false]
  rintro t h ⟨⟩
theorem mix_ok : Try.prog.follows .mixedOrders = true := by kernel_rfl
theorem sig_ok (f : Nat) : ∀ r ∈ (fns f).sig.rs, 0 < r.2.length := by
  have h : (fns f).sig.rs.all (fun r => decide (0 < r.2.length)) = true := by unfold fns; split <;> kernel_rfl
  intro r hr
  simpa using List.all_eq_true.1 h r hr
theorem fn_ok (f : Nat) : FnOk Try.prog f (fns f) := by
  unfold fns
  split
  · exact .inl ⟨Try.f65, Try.func65, by kernel_rfl, by kernel_rfl, by decide +kernel, by decide +kernel⟩
  · exact .inl ⟨Try.f69, Try.func69, by kernel_rfl, by kernel_rfl, by decide +kernel, by decide +kernel⟩
  · exact .inl ⟨Try.f117, Try.func117, by kernel_rfl, by kernel_rfl, by decide +kernel, by decide +kernel⟩
  · exact .inl ⟨Try.f20, Try.func20, by kernel_rfl, by kernel_rfl, by decide +kernel, by decide +kernel⟩
  · exact .inl ⟨Try.f118, Try.func118, by kernel_rfl, by kernel_rfl, by decide +kernel, by decide +kernel⟩
  · exact .inl ⟨Try.f70, Try.func70, by kernel_rfl, by kernel_rfl, by decide +kernel, by decide +kernel⟩
  · exact .inl ⟨Try.f119, Try.func119, by kernel_rfl, by kernel_rfl, by decide +kernel, by decide +kernel⟩
  · exact .inl ⟨Try.f72, Try.func72, by kernel_rfl, by kernel_rfl, by decide +kernel, by decide +kernel⟩
  · exact .inl ⟨Try.f71, Try.func71, by kernel_rfl, by kernel_rfl, by decide +kernel, by decide +kernel⟩
  · exact .inl ⟨Try.f21, Try.func21, by kernel_rfl, by kernel_rfl, by decide +kernel, by decide +kernel⟩
  · exact .inl ⟨Try.f22, Try.func22, by kernel_rfl, by kernel_rfl, by decide +kernel, by decide +kernel⟩
  · exact .inl ⟨Try.f23, Try.func23, by kernel_rfl, by kernel_rfl, by decide +kernel, by decide +kernel⟩
  · exact .inl ⟨Try.f24, Try.func24, by kernel_rfl, by kernel_rfl, by decide +kernel, by decide +kernel⟩
  · exact .inl ⟨Try.f125, Try.func125, by kernel_rfl, by kernel_rfl, by decide +kernel, by decide +kernel⟩
  · exact .inl ⟨Try.f126, Try.func126, by kernel_rfl, by kernel_rfl, by decide +kernel, by decide +kernel⟩
  · exact .inl ⟨Try.f86, Try.func86, by kernel_rfl, by kernel_rfl, by decide +kernel, by decide +kernel⟩
  · exact .inl ⟨Try.f87, Try.func87, by kernel_rfl, by kernel_rfl, by decide +kernel, by decide +kernel⟩
  · exact .inl ⟨Try.f88, Try.func88, by kernel_rfl, by kernel_rfl, by decide +kernel, by decide +kernel⟩
  · exact .inl ⟨Try.f37, Try.func37, by kernel_rfl, by kernel_rfl, by decide +kernel, by decide +kernel⟩
  · exact .inl ⟨Try.f100, Try.func100, by kernel_rfl, by kernel_rfl, by decide +kernel, by decide +kernel⟩
  · exact .inl ⟨Try.f101, Try.func101, by kernel_rfl, by kernel_rfl, by decide +kernel, by decide +kernel⟩
  · exact .inl ⟨Try.f102, Try.func102, by kernel_rfl, by kernel_rfl, by decide +kernel, by decide +kernel⟩
  · exact .inl ⟨Try.f48, Try.func48, by kernel_rfl, by kernel_rfl, by decide +kernel, by decide +kernel⟩
  · exact .inl ⟨Try.f11, Try.func11, by kernel_rfl, by kernel_rfl, by decide +kernel, by decide +kernel⟩
  · exact .inr ⟨ "", rfl⟩
theorem sound (d f : Nat) : Contract Try.prog (fns f).sig f (tab d f) := table_sound tys_ok eqts_ok mix_ok sig_ok (fun f _ => fn_ok f) (fun _ _ h => by cases h) d f
end
end Go.PV.T
