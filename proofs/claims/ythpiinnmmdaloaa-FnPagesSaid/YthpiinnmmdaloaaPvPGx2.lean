/- Functions of the program by their own lists and numbers. No condition beyond those in each statement. -/
import Derived.Test.YthpiinnmmdaloaaPvPGx1
import Derived.Test.YthpiinnmmdaloaaPvLibD
set_option maxRecDepth 100000
set_option linter.unusedVariables false
namespace Go.PV.T
open Go.Proofs
noncomputable section
noncomputable def tab : Nat → (f : Nat) → TupT (sigs f).ins → Option (TupT (sigs f).outs) := table tys eqts fns (fun _ => none) rnds
noncomputable def impl_in.f (d : Nat) : (Int × Int × Int) → Option (Bool) := tab d 69
noncomputable def impl_Crc.f (d : Nat) : (List Int) → Option (Int) := tab d 118
noncomputable def impl_addSum.f (d : Nat) : (List Int) → Option (List Int) := tab d 70
noncomputable def impl_clamp.f (d : Nat) : (Int × Int × Int) → Option (Int) := tab d 119
noncomputable def impl_addU.f (d : Nat) : ((List Int) × Int) → Option (List Int) := tab d 72
noncomputable def impl_addText.f (d : Nat) : ((List Int) × ByteArray) → Option (List Int) := tab d 71
noncomputable def impl_PutPage.f (d : Nat) : (Int × (List Int)) → Option (List Int) := tab d 21
noncomputable def laws_big.f (d : Nat) : (List Int) → Option (Bool) := tab d 35
noncomputable def spec_l1New.f (d : Nat) : (List Int) → Option ((List Int) × Int × Int) := tab d 81
noncomputable def spec_l1Byte.f (d : Nat) : ((List Int) × Int × Int) → Option (Int × Int × Int) := tab d 124
noncomputable def spec_l1Below.f (d : Nat) : ((List Int) × Int × Int × Int) → Option (Int × Int × Int) := tab d 84
noncomputable def spec_l1Int.f (d : Nat) : ((List Int) × Int × Int × (List Int)) → Option (Int × Int × Int) := tab d 85
noncomputable def spec_l1Bytes.f (d : Nat) : ((List Int) × Int × Int × Int) → Option ((List Int) × Int × Int) := tab d 123
noncomputable def spec_l1Some.f (d : Nat) : ((List Int) × Int × Int) → Option ((List Int) × Int × Int) := tab d 82
noncomputable def spec_l1Once.f (d : Nat) : ((List Int) × Int × Int × Int) → Option (Bool × Int × Int) := tab d 83
noncomputable def spec_DrawPutPage.f (d : Nat) : (List Int) → Option (Int × (List Int)) := tab d 36
noncomputable def impl_copyBytes.f (d : Nat) : (List Int) → Option (List Int) := tab d 125
noncomputable def impl_PutSum.f (d : Nat) : (List Int) → Option (List Int) := tab d 126
noncomputable def impl_GetSum.f (d : Nat) : (List Int) → Option ((List Int) × Bool) := tab d 86
noncomputable def impl_GetU.f (d : Nat) : ((List Int) × Int) → Option (Int × Int × Bool) := tab d 87
noncomputable def impl_GetText.f (d : Nat) : ((List Int) × Int) → Option (ByteArray × Int × Bool) := tab d 88
noncomputable def impl_GetPage.f (d : Nat) : (List Int) → Option (Int × (List Int) × Bool) := tab d 37
noncomputable def laws_at.f (d : Nat) : ((List Int) × Int) → Option (Int) := tab d 38
noncomputable def laws_sameBytes.f (d : Nat) : ((List Int) × (List Int)) → Option (Bool) := tab d 39
noncomputable def laws_FnPages.f (d : Nat) : (List Int) → Option (Bool) := tab d 7
noncomputable def impl_Crc.S2 (d : Nat) (L0 : (Int × (List Int) × Int × Int) → Option (Int)) (L2 : (Int × (List Int) × Int × Int × Int) → Option (Int)) : (Int × (List Int) × Int × Int × Int) → Option (Int) := impl_Crc.s2 L0 L2
noncomputable def impl_Crc.S0 (d : Nat) (L0 : (Int × (List Int) × Int × Int) → Option (Int)) : (Int × (List Int) × Int × Int) → Option (Int) := impl_Crc.s0 (iter (impl_Crc.S2 d L0) rnds) L0
noncomputable def impl_addU.S0 (d : Nat) (L0 : (Int × (List Int)) → Option (List Int)) : (Int × (List Int)) → Option (List Int) := impl_addU.s0 L0
noncomputable def spec_l1New.S0 (d : Nat) (L0 : ((List Int) × Int × Int) → Option ((List Int) × Int × Int)) : ((List Int) × Int × Int) → Option ((List Int) × Int × Int) := spec_l1New.s0 L0
noncomputable def spec_l1Bytes.S0 (d : Nat) (L0 : (Int × Int × (List Int) × Int × Int × (List Int)) → Option ((List Int) × Int × Int)) : (Int × Int × (List Int) × Int × Int × (List Int)) → Option ((List Int) × Int × Int) := spec_l1Bytes.s0 (spec_l1Byte.f d) L0
noncomputable def impl_GetU.S0 (d : Nat) (L0 : ((List Int) × Int × Int × Int) → Option (Int × Int × Bool)) : ((List Int) × Int × Int × Int) → Option (Int × Int × Bool) := impl_GetU.s0 L0
noncomputable def laws_sameBytes.S0 (d : Nat) (L0 : ((List Int) × (List Int) × Int) → Option (Bool)) : ((List Int) × (List Int) × Int) → Option (Bool) := laws_sameBytes.s0 L0
theorem impl_in.t_eq (d : Nat) (a0_0 : Int) (a1_0 : Int) (a2_0 : Int) : impl_in.f (d + 1) (a0_0, a1_0, a2_0) = impl_in.m  (a0_0, a1_0, a2_0) :=
  Eq.trans (show impl_in.f (d + 1) (a0_0, a1_0, a2_0) = run (impl_in.cx (tab d) rnds) impl_in.sig impl_in.rv impl_in.body (a0_0, a1_0, a2_0) by kernel_rfl) ((impl_in.m_eq (tab d) rnds a0_0 a1_0 a2_0).trans rfl)
theorem impl_Crc.S2_eq (d : Nat) (L0 : LS → Option (TupT impl_Crc.sig.outs)) : ((fun a => loopK (stp (impl_Crc.cx (tab d) rnds) impl_Crc.body [1, 1, 0, 1, 0, 0, 1, 1, 0, 0, 1, 1, 1, 0] [L0] impl_Crc.fin) rnds (impl_Crc.ll2 a) : (Int × (List Int) × Int × Int × Int) → Option (Int))) = iter (impl_Crc.S2 d (fun a => L0 (impl_Crc.ll0 a))) rnds :=
  funext (loop_iter impl_Crc.ll2 _ (impl_Crc.S2 d (fun a => L0 (impl_Crc.ll0 a))) (fun (L2 : LS → Option (TupT impl_Crc.sig.outs)) a => match a with | (x0, x1, x2, x3, x4) => (impl_Crc.s2_eq (tab d) rnds L0 L2 x0 x1 x2 x3 x4).trans rfl) rnds)
theorem impl_Crc.S0_eq (d : Nat) : ((fun a => loopK (stp (impl_Crc.cx (tab d) rnds) impl_Crc.body [1, 1, 0, 1, 0] [] impl_Crc.fin) rnds (impl_Crc.ll0 a) : (Int × (List Int) × Int × Int) → Option (Int))) = iter (impl_Crc.S0 d) rnds :=
  funext (loop_iter impl_Crc.ll0 _ (impl_Crc.S0 d) (fun (L0 : LS → Option (TupT impl_Crc.sig.outs)) a => match a with | (x0, x1, x2, x3) => (impl_Crc.s0_eq (tab d) rnds L0 x0 x1 x2 x3).trans (congrArg (fun z => impl_Crc.s0 z (fun a => L0 (impl_Crc.ll0 a)) (x0, x1, x2, x3)) (impl_Crc.S2_eq d L0))) rnds)
theorem impl_Crc.t_eq (d : Nat) (a0_0 : List Int) : impl_Crc.f (d + 1) a0_0 = impl_Crc.m (iter (impl_Crc.S0 d) rnds) a0_0 :=
  Eq.trans (show impl_Crc.f (d + 1) a0_0 = run (impl_Crc.cx (tab d) rnds) impl_Crc.sig impl_Crc.rv impl_Crc.body a0_0 by kernel_rfl) ((impl_Crc.m_eq (tab d) rnds a0_0).trans (congrArg (fun z => impl_Crc.m z a0_0) (impl_Crc.S0_eq d)))
theorem impl_addSum.t_eq (d : Nat) (a0_0 : List Int) : impl_addSum.f (d + 1) a0_0 = impl_addSum.m (impl_Crc.f d) a0_0 :=
  Eq.trans (show impl_addSum.f (d + 1) a0_0 = run (impl_addSum.cx (tab d) rnds) impl_addSum.sig impl_addSum.rv impl_addSum.body a0_0 by kernel_rfl) ((impl_addSum.m_eq (tab d) rnds a0_0).trans rfl)
theorem impl_clamp.t_eq (d : Nat) (a0_0 : Int) (a1_0 : Int) (a2_0 : Int) : impl_clamp.f (d + 1) (a0_0, a1_0, a2_0) = impl_clamp.m  (a0_0, a1_0, a2_0) :=
  Eq.trans (show impl_clamp.f (d + 1) (a0_0, a1_0, a2_0) = run (impl_clamp.cx (tab d) rnds) impl_clamp.sig impl_clamp.rv impl_clamp.body (a0_0, a1_0, a2_0) by kernel_rfl) ((impl_clamp.m_eq (tab d) rnds a0_0 a1_0 a2_0).trans rfl)
theorem impl_addU.S0_eq (d : Nat) : ((fun a => loopK (stp (impl_addU.cx (tab d) rnds) impl_addU.body [1, 1, 0, 0] [] impl_addU.fin) rnds (impl_addU.ll0 a) : (Int × (List Int)) → Option (List Int))) = iter (impl_addU.S0 d) rnds :=
  funext (loop_iter impl_addU.ll0 _ (impl_addU.S0 d) (fun (L0 : LS → Option (TupT impl_addU.sig.outs)) a => match a with | (x0, x1) => (impl_addU.s0_eq (tab d) rnds L0 x0 x1).trans rfl) rnds)
theorem impl_addU.t_eq (d : Nat) (a0_0 : List Int) (a1_0 : Int) : impl_addU.f (d + 1) (a0_0, a1_0) = impl_addU.m (impl_clamp.f d) (iter (impl_addU.S0 d) rnds) (a0_0, a1_0) :=
  Eq.trans (show impl_addU.f (d + 1) (a0_0, a1_0) = run (impl_addU.cx (tab d) rnds) impl_addU.sig impl_addU.rv impl_addU.body (a0_0, a1_0) by kernel_rfl) ((impl_addU.m_eq (tab d) rnds a0_0 a1_0).trans (congrArg (fun z => impl_addU.m (tab d 119) z (a0_0, a1_0)) (impl_addU.S0_eq d)))
theorem impl_addText.t_eq (d : Nat) (a0_0 : List Int) (a1_0 : ByteArray) : impl_addText.f (d + 1) (a0_0, a1_0) = impl_addText.m (impl_addU.f d) (a0_0, a1_0) :=
  Eq.trans (show impl_addText.f (d + 1) (a0_0, a1_0) = run (impl_addText.cx (tab d) rnds) impl_addText.sig impl_addText.rv impl_addText.body (a0_0, a1_0) by kernel_rfl) ((impl_addText.m_eq (tab d) rnds a0_0 a1_0).trans rfl)
theorem impl_PutPage.t_eq (d : Nat) (a0_0 : Int) (a1_0 : List Int) : impl_PutPage.f (d + 1) (a0_0, a1_0) = impl_PutPage.m (impl_in.f d) (impl_addSum.f d) (impl_addText.f d) (impl_addU.f d) (a0_0, a1_0) :=
  Eq.trans (show impl_PutPage.f (d + 1) (a0_0, a1_0) = run (impl_PutPage.cx (tab d) rnds) impl_PutPage.sig impl_PutPage.rv impl_PutPage.body (a0_0, a1_0) by kernel_rfl) ((impl_PutPage.m_eq (tab d) rnds a0_0 a1_0).trans rfl)
theorem laws_big.t_eq (d : Nat) (a0_0 : List Int) : laws_big.f (d + 1) a0_0 = laws_big.m  a0_0 :=
  Eq.trans (show laws_big.f (d + 1) a0_0 = run (laws_big.cx (tab d) rnds) laws_big.sig laws_big.rv laws_big.body a0_0 by kernel_rfl) ((laws_big.m_eq (tab d) rnds a0_0).trans rfl)
theorem spec_l1New.S0_eq (d : Nat) : ((fun a => loopK (stp (spec_l1New.cx (tab d) rnds) spec_l1New.body [1, 1, 0, 1, 0] [] spec_l1New.fin) rnds (spec_l1New.ll0 a) : ((List Int) × Int × Int) → Option ((List Int) × Int × Int))) = iter (spec_l1New.S0 d) rnds :=
  funext (loop_iter spec_l1New.ll0 _ (spec_l1New.S0 d) (fun (L0 : LS → Option (TupT spec_l1New.sig.outs)) a => match a with | (x0, x1, x2) => (spec_l1New.s0_eq (tab d) rnds L0 x0 x1 x2).trans rfl) rnds)
theorem spec_l1New.t_eq (d : Nat) (a0_0 : List Int) : spec_l1New.f (d + 1) a0_0 = spec_l1New.m (iter (spec_l1New.S0 d) rnds) a0_0 :=
  Eq.trans (show spec_l1New.f (d + 1) a0_0 = run (spec_l1New.cx (tab d) rnds) spec_l1New.sig spec_l1New.rv spec_l1New.body a0_0 by kernel_rfl) ((spec_l1New.m_eq (tab d) rnds a0_0).trans (congrArg (fun z => spec_l1New.m z a0_0) (spec_l1New.S0_eq d)))
theorem spec_l1Byte.t_eq (d : Nat) (a0_0 : List Int) (a0_1 : Int) (a0_2 : Int) : spec_l1Byte.f (d + 1) (a0_0, a0_1, a0_2) = spec_l1Byte.m  (a0_0, a0_1, a0_2) :=
  Eq.trans (show spec_l1Byte.f (d + 1) (a0_0, a0_1, a0_2) = run (spec_l1Byte.cx (tab d) rnds) spec_l1Byte.sig spec_l1Byte.rv spec_l1Byte.body (a0_0, a0_1, a0_2) by kernel_rfl) ((spec_l1Byte.m_eq (tab d) rnds a0_0 a0_1 a0_2).trans rfl)
theorem spec_l1Below.t_eq (d : Nat) (a0_0 : List Int) (a0_1 : Int) (a0_2 : Int) (a1_0 : Int) : spec_l1Below.f (d + 1) (a0_0, a0_1, a0_2, a1_0) = spec_l1Below.m (spec_l1Byte.f d) (a0_0, a0_1, a0_2, a1_0) :=
  Eq.trans (show spec_l1Below.f (d + 1) (a0_0, a0_1, a0_2, a1_0) = run (spec_l1Below.cx (tab d) rnds) spec_l1Below.sig spec_l1Below.rv spec_l1Below.body (a0_0, a0_1, a0_2, a1_0) by kernel_rfl) ((spec_l1Below.m_eq (tab d) rnds a0_0 a0_1 a0_2 a1_0).trans rfl)
theorem spec_l1Int.t_eq (d : Nat) (a0_0 : List Int) (a0_1 : Int) (a0_2 : Int) (a1_0 : List Int) : spec_l1Int.f (d + 1) (a0_0, a0_1, a0_2, a1_0) = spec_l1Int.m (spec_l1Below.f d) (a0_0, a0_1, a0_2, a1_0) :=
  Eq.trans (show spec_l1Int.f (d + 1) (a0_0, a0_1, a0_2, a1_0) = run (spec_l1Int.cx (tab d) rnds) spec_l1Int.sig spec_l1Int.rv spec_l1Int.body (a0_0, a0_1, a0_2, a1_0) by kernel_rfl) ((spec_l1Int.m_eq (tab d) rnds a0_0 a0_1 a0_2 a1_0).trans rfl)
theorem spec_l1Bytes.S0_eq (d : Nat) : ((fun a => loopK (stp (spec_l1Bytes.cx (tab d) rnds) spec_l1Bytes.body [1, 1, 0, 1, 0] [] spec_l1Bytes.fin) rnds (spec_l1Bytes.ll0 a) : (Int × Int × (List Int) × Int × Int × (List Int)) → Option ((List Int) × Int × Int))) = iter (spec_l1Bytes.S0 d) rnds :=
  funext (loop_iter spec_l1Bytes.ll0 _ (spec_l1Bytes.S0 d) (fun (L0 : LS → Option (TupT spec_l1Bytes.sig.outs)) a => match a with | (x0, x1, x2, x3, x4, x5) => (spec_l1Bytes.s0_eq (tab d) rnds L0 x0 x1 x2 x3 x4 x5).trans rfl) rnds)
theorem spec_l1Bytes.t_eq (d : Nat) (a0_0 : List Int) (a0_1 : Int) (a0_2 : Int) (a1_0 : Int) : spec_l1Bytes.f (d + 1) (a0_0, a0_1, a0_2, a1_0) = spec_l1Bytes.m (iter (spec_l1Bytes.S0 d) rnds) (a0_0, a0_1, a0_2, a1_0) :=
  Eq.trans (show spec_l1Bytes.f (d + 1) (a0_0, a0_1, a0_2, a1_0) = run (spec_l1Bytes.cx (tab d) rnds) spec_l1Bytes.sig spec_l1Bytes.rv spec_l1Bytes.body (a0_0, a0_1, a0_2, a1_0) by kernel_rfl) ((spec_l1Bytes.m_eq (tab d) rnds a0_0 a0_1 a0_2 a1_0).trans (congrArg (fun z => spec_l1Bytes.m z (a0_0, a0_1, a0_2, a1_0)) (spec_l1Bytes.S0_eq d)))
theorem spec_l1Some.t_eq (d : Nat) (a0_0 : List Int) (a0_1 : Int) (a0_2 : Int) : spec_l1Some.f (d + 1) (a0_0, a0_1, a0_2) = spec_l1Some.m (spec_l1Int.f d) (spec_l1Bytes.f d) (a0_0, a0_1, a0_2) :=
  Eq.trans (show spec_l1Some.f (d + 1) (a0_0, a0_1, a0_2) = run (spec_l1Some.cx (tab d) rnds) spec_l1Some.sig spec_l1Some.rv spec_l1Some.body (a0_0, a0_1, a0_2) by kernel_rfl) ((spec_l1Some.m_eq (tab d) rnds a0_0 a0_1 a0_2).trans rfl)
theorem spec_l1Once.t_eq (d : Nat) (a0_0 : List Int) (a0_1 : Int) (a0_2 : Int) (a1_0 : Int) : spec_l1Once.f (d + 1) (a0_0, a0_1, a0_2, a1_0) = spec_l1Once.m (spec_l1Below.f d) (a0_0, a0_1, a0_2, a1_0) :=
  Eq.trans (show spec_l1Once.f (d + 1) (a0_0, a0_1, a0_2, a1_0) = run (spec_l1Once.cx (tab d) rnds) spec_l1Once.sig spec_l1Once.rv spec_l1Once.body (a0_0, a0_1, a0_2, a1_0) by kernel_rfl) ((spec_l1Once.m_eq (tab d) rnds a0_0 a0_1 a0_2 a1_0).trans rfl)
theorem spec_DrawPutPage.t_eq (d : Nat) (a0_0 : List Int) : spec_DrawPutPage.f (d + 1) a0_0 = spec_DrawPutPage.m (spec_l1New.f d) (spec_l1Some.f d) (spec_l1Once.f d) (spec_l1Below.f d) (spec_l1Int.f d) a0_0 :=
  Eq.trans (show spec_DrawPutPage.f (d + 1) a0_0 = run (spec_DrawPutPage.cx (tab d) rnds) spec_DrawPutPage.sig spec_DrawPutPage.rv spec_DrawPutPage.body a0_0 by kernel_rfl) ((spec_DrawPutPage.m_eq (tab d) rnds a0_0).trans rfl)
theorem impl_copyBytes.t_eq (d : Nat) (a0_0 : List Int) : impl_copyBytes.f (d + 1) a0_0 = impl_copyBytes.m  a0_0 :=
  Eq.trans (show impl_copyBytes.f (d + 1) a0_0 = run (impl_copyBytes.cx (tab d) rnds) impl_copyBytes.sig impl_copyBytes.rv impl_copyBytes.body a0_0 by kernel_rfl) ((impl_copyBytes.m_eq (tab d) rnds a0_0).trans rfl)
theorem impl_PutSum.t_eq (d : Nat) (a0_0 : List Int) : impl_PutSum.f (d + 1) a0_0 = impl_PutSum.m (impl_addSum.f d) (impl_copyBytes.f d) a0_0 :=
  Eq.trans (show impl_PutSum.f (d + 1) a0_0 = run (impl_PutSum.cx (tab d) rnds) impl_PutSum.sig impl_PutSum.rv impl_PutSum.body a0_0 by kernel_rfl) ((impl_PutSum.m_eq (tab d) rnds a0_0).trans rfl)
theorem impl_GetSum.t_eq (d : Nat) (a0_0 : List Int) : impl_GetSum.f (d + 1) a0_0 = impl_GetSum.m (impl_copyBytes.f d) (impl_PutSum.f d) a0_0 :=
  Eq.trans (show impl_GetSum.f (d + 1) a0_0 = run (impl_GetSum.cx (tab d) rnds) impl_GetSum.sig impl_GetSum.rv impl_GetSum.body a0_0 by kernel_rfl) ((impl_GetSum.m_eq (tab d) rnds a0_0).trans rfl)
theorem impl_GetU.S0_eq (d : Nat) : ((fun a => loopK (stp (impl_GetU.cx (tab d) rnds) impl_GetU.body [1, 1, 0, 1, 0] [] impl_GetU.fin) rnds (impl_GetU.ll0 a) : ((List Int) × Int × Int × Int) → Option (Int × Int × Bool))) = iter (impl_GetU.S0 d) rnds :=
  funext (loop_iter impl_GetU.ll0 _ (impl_GetU.S0 d) (fun (L0 : LS → Option (TupT impl_GetU.sig.outs)) a => match a with | (x0, x1, x2, x3) => (impl_GetU.s0_eq (tab d) rnds L0 x0 x1 x2 x3).trans rfl) rnds)
theorem impl_GetU.t_eq (d : Nat) (a0_0 : List Int) (a1_0 : Int) : impl_GetU.f (d + 1) (a0_0, a1_0) = impl_GetU.m (iter (impl_GetU.S0 d) rnds) (a0_0, a1_0) :=
  Eq.trans (show impl_GetU.f (d + 1) (a0_0, a1_0) = run (impl_GetU.cx (tab d) rnds) impl_GetU.sig impl_GetU.rv impl_GetU.body (a0_0, a1_0) by kernel_rfl) ((impl_GetU.m_eq (tab d) rnds a0_0 a1_0).trans (congrArg (fun z => impl_GetU.m z (a0_0, a1_0)) (impl_GetU.S0_eq d)))
theorem impl_GetText.t_eq (d : Nat) (a0_0 : List Int) (a1_0 : Int) : impl_GetText.f (d + 1) (a0_0, a1_0) = impl_GetText.m (impl_GetU.f d) (a0_0, a1_0) :=
  Eq.trans (show impl_GetText.f (d + 1) (a0_0, a1_0) = run (impl_GetText.cx (tab d) rnds) impl_GetText.sig impl_GetText.rv impl_GetText.body (a0_0, a1_0) by kernel_rfl) ((impl_GetText.m_eq (tab d) rnds a0_0 a1_0).trans rfl)
theorem impl_GetPage.t_eq (d : Nat) (a0_0 : List Int) : impl_GetPage.f (d + 1) a0_0 = impl_GetPage.m (impl_PutPage.f d) (impl_GetSum.f d) (impl_GetU.f d) (impl_GetText.f d) a0_0 :=
  Eq.trans (show impl_GetPage.f (d + 1) a0_0 = run (impl_GetPage.cx (tab d) rnds) impl_GetPage.sig impl_GetPage.rv impl_GetPage.body a0_0 by kernel_rfl) ((impl_GetPage.m_eq (tab d) rnds a0_0).trans rfl)
theorem laws_at.t_eq (d : Nat) (a0_0 : List Int) (a1_0 : Int) : laws_at.f (d + 1) (a0_0, a1_0) = laws_at.m  (a0_0, a1_0) :=
  Eq.trans (show laws_at.f (d + 1) (a0_0, a1_0) = run (laws_at.cx (tab d) rnds) laws_at.sig laws_at.rv laws_at.body (a0_0, a1_0) by kernel_rfl) ((laws_at.m_eq (tab d) rnds a0_0 a1_0).trans rfl)
theorem laws_sameBytes.S0_eq (d : Nat) : ((fun a => loopK (stp (laws_sameBytes.cx (tab d) rnds) laws_sameBytes.body [1, 1, 0, 1, 0] [] laws_sameBytes.fin) rnds (laws_sameBytes.ll0 a) : ((List Int) × (List Int) × Int) → Option (Bool))) = iter (laws_sameBytes.S0 d) rnds :=
  funext (loop_iter laws_sameBytes.ll0 _ (laws_sameBytes.S0 d) (fun (L0 : LS → Option (TupT laws_sameBytes.sig.outs)) a => match a with | (x0, x1, x2) => (laws_sameBytes.s0_eq (tab d) rnds L0 x0 x1 x2).trans rfl) rnds)
theorem laws_sameBytes.t_eq (d : Nat) (a0_0 : List Int) (a1_0 : List Int) : laws_sameBytes.f (d + 1) (a0_0, a1_0) = laws_sameBytes.m (iter (laws_sameBytes.S0 d) rnds) (a0_0, a1_0) :=
  Eq.trans (show laws_sameBytes.f (d + 1) (a0_0, a1_0) = run (laws_sameBytes.cx (tab d) rnds) laws_sameBytes.sig laws_sameBytes.rv laws_sameBytes.body (a0_0, a1_0) by kernel_rfl) ((laws_sameBytes.m_eq (tab d) rnds a0_0 a1_0).trans (congrArg (fun z => laws_sameBytes.m z (a0_0, a1_0)) (laws_sameBytes.S0_eq d)))
theorem laws_FnPages.t_eq (d : Nat) (a0_0 : List Int) : laws_FnPages.f (d + 1) a0_0 = laws_FnPages.m (impl_PutPage.f d) (laws_big.f d) (spec_DrawPutPage.f d) (impl_GetPage.f d) (laws_at.f d) (laws_sameBytes.f d) a0_0 :=
  Eq.trans (show laws_FnPages.f (d + 1) a0_0 = run (laws_FnPages.cx (tab d) rnds) laws_FnPages.sig laws_FnPages.rv laws_FnPages.body a0_0 by kernel_rfl) ((laws_FnPages.m_eq (tab d) rnds a0_0).trans rfl)
theorem tys_ok (t : Nat) : tyOk Try.prog t (tys t) = true := by unfold tys; split <;> kernel_rfl
theorem eqts_ok (t : Nat) (h : eqts t = true) : eqOk Try.prog t (tys t) = true := by
  have := memN_mem.1 h
  revert t
  simp only [List.mem_cons, List.not_mem_nil, or_false]
  rintro t h ⟨⟩
theorem mix_ok : Try.prog.follows .mixedOrders = true := by kernel_rfl
theorem sig_ok (f : Nat) : ∀ r ∈ (fns f).sig.rs, 0 < r.2.length := by
  have h : (fns f).sig.rs.all (fun r => decide (0 < r.2.length)) = true := by unfold fns; split <;> kernel_rfl
  intro r hr
  simpa using List.all_eq_true.1 h r hr
theorem fn_ok (f : Nat) : FnOk Try.prog f (fns f) := by
  unfold fns
  split
  · exact .inl ⟨Try.f69, Try.func69, by kernel_rfl, by kernel_rfl, by decide +kernel, by decide +kernel⟩
  · exact .inl ⟨Try.f118, Try.func118, by kernel_rfl, by kernel_rfl, by decide +kernel, by decide +kernel⟩
  · exact .inl ⟨Try.f70, Try.func70, by kernel_rfl, by kernel_rfl, by decide +kernel, by decide +kernel⟩
  · exact .inl ⟨Try.f119, Try.func119, by kernel_rfl, by kernel_rfl, by decide +kernel, by decide +kernel⟩
  · exact .inl ⟨Try.f72, Try.func72, by kernel_rfl, by kernel_rfl, by decide +kernel, by decide +kernel⟩
  · exact .inl ⟨Try.f71, Try.func71, by kernel_rfl, by kernel_rfl, by decide +kernel, by decide +kernel⟩
  · exact .inl ⟨Try.f21, Try.func21, by kernel_rfl, by kernel_rfl, by decide +kernel, by decide +kernel⟩
  · exact .inl ⟨Try.f35, Try.func35, by kernel_rfl, by kernel_rfl, by decide +kernel, by decide +kernel⟩
  · exact .inl ⟨Try.f81, Try.func81, by kernel_rfl, by kernel_rfl, by decide +kernel, by decide +kernel⟩
  · exact .inl ⟨Try.f124, Try.func124, by kernel_rfl, by kernel_rfl, by decide +kernel, by decide +kernel⟩
  · exact .inl ⟨Try.f84, Try.func84, by kernel_rfl, by kernel_rfl, by decide +kernel, by decide +kernel⟩
  · exact .inl ⟨Try.f85, Try.func85, by kernel_rfl, by kernel_rfl, by decide +kernel, by decide +kernel⟩
  · exact .inl ⟨Try.f123, Try.func123, by kernel_rfl, by kernel_rfl, by decide +kernel, by decide +kernel⟩
  · exact .inl ⟨Try.f82, Try.func82, by kernel_rfl, by kernel_rfl, by decide +kernel, by decide +kernel⟩
  · exact .inl ⟨Try.f83, Try.func83, by kernel_rfl, by kernel_rfl, by decide +kernel, by decide +kernel⟩
  · exact .inl ⟨Try.f36, Try.func36, by kernel_rfl, by kernel_rfl, by decide +kernel, by decide +kernel⟩
  · exact .inl ⟨Try.f125, Try.func125, by kernel_rfl, by kernel_rfl, by decide +kernel, by decide +kernel⟩
  · exact .inl ⟨Try.f126, Try.func126, by kernel_rfl, by kernel_rfl, by decide +kernel, by decide +kernel⟩
  · exact .inl ⟨Try.f86, Try.func86, by kernel_rfl, by kernel_rfl, by decide +kernel, by decide +kernel⟩
  · exact .inl ⟨Try.f87, Try.func87, by kernel_rfl, by kernel_rfl, by decide +kernel, by decide +kernel⟩
  · exact .inl ⟨Try.f88, Try.func88, by kernel_rfl, by kernel_rfl, by decide +kernel, by decide +kernel⟩
  · exact .inl ⟨Try.f37, Try.func37, by kernel_rfl, by kernel_rfl, by decide +kernel, by decide +kernel⟩
  · exact .inl ⟨Try.f38, Try.func38, by kernel_rfl, by kernel_rfl, by decide +kernel, by decide +kernel⟩
  · exact .inl ⟨Try.f39, Try.func39, by kernel_rfl, by kernel_rfl, by decide +kernel, by decide +kernel⟩
  · exact .inl ⟨Try.f7, Try.func7, by kernel_rfl, by kernel_rfl, by decide +kernel, by decide +kernel⟩
  · exact .inr ⟨ "", rfl⟩
theorem sound (d f : Nat) : Contract Try.prog (fns f).sig f (tab d f) := table_sound tys_ok eqts_ok mix_ok sig_ok (fun f _ => fn_ok f) (fun _ _ h => by cases h) d f
end
end Go.PV.T
