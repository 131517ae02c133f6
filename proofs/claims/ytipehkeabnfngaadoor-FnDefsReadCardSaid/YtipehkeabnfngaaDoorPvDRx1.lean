/- Functions of the program by their own lists and numbers. No condition beyond those in each statement. -/
import Derived.Test.YtipehkeabnfngaaDoorPvDRx0
set_option linter.unusedVariables false
set_option linter.unusedSimpArgs false
set_option maxRecDepth 100000
set_option linter.unusedVariables false
namespace Go.PV.T
open Go.Proofs
noncomputable section
variable (call : (f : Nat) → TupT (sigs f).ins → Option (TupT (sigs f).outs)) (k : Nat)
namespace spec_l1In
noncomputable def cx : Cx := ⟨15, tys, eqts, sigs, call, hint, join, k, needV 0 sig.ps, needB 0 sig.ps⟩
abbrev RT := Option (TupT sig.outs)
abbrev fin : St → RT := finish tys sig rv
theorem m_eq (a) : run (cx call k) sig rv body a = m  a := by kernel_rfl
end spec_l1In
namespace spec_l8Small
noncomputable def cx : Cx := ⟨6, tys, eqts, sigs, call, hint, join, k, needV 0 sig.ps, needB 0 sig.ps⟩
abbrev RT := Option (TupT sig.outs)
abbrev fin : St → RT := finish tys sig rv
theorem m_eq (a) : run (cx call k) sig rv body a = m (call 101) a := by kernel_rfl
end spec_l8Small
namespace spec_l2Digit
noncomputable def cx : Cx := ⟨6, tys, eqts, sigs, call, hint, join, k, needV 0 sig.ps, needB 0 sig.ps⟩
abbrev RT := Option (TupT sig.outs)
abbrev fin : St → RT := finish tys sig rv
theorem m_eq (a) : run (cx call k) sig rv body a = m (call 101) a := by kernel_rfl
end spec_l2Digit
namespace spec_l8Name
noncomputable def cx : Cx := ⟨29, tys, eqts, sigs, call, hint, join, k, needV 0 sig.ps, needB 0 sig.ps⟩
abbrev RT := Option (TupT sig.outs)
abbrev fin : St → RT := finish tys sig rv
theorem s0_eq (L0 : LS → RT) (a) : stp (cx call k) body [1, 0, 1, 0] [] fin (ll0 a) L0 = s0 (call 101) (call 125) (call 126) (fun a => L0 (ll0 a)) a := by kernel_rfl
theorem m_eq (a) : run (cx call k) sig rv body a = m (fun a => loopK (stp (cx call k) body [1, 0, 1, 0] [] fin) k (ll0 a)) a := by kernel_rfl
end spec_l8Name
namespace spec_l9Has
noncomputable def cx : Cx := ⟨18, tys, eqts, sigs, call, hint, join, k, needV 0 sig.ps, needB 0 sig.ps⟩
abbrev RT := Option (TupT sig.outs)
abbrev fin : St → RT := finish tys sig rv
theorem s0_eq (L0 : LS → RT) (a) : stp (cx call k) body [1, 0, 1, 0] [] fin (ll0 a) L0 = s0 (fun a => L0 (ll0 a)) a := by kernel_rfl
theorem m_eq (a) : run (cx call k) sig rv body a = m (fun a => loopK (stp (cx call k) body [1, 0, 1, 0] [] fin) k (ll0 a)) a := by kernel_rfl
end spec_l9Has
namespace spec_l9Word
noncomputable def cx : Cx := ⟨11, tys, eqts, sigs, call, hint, join, k, needV 0 sig.ps, needB 0 sig.ps⟩
abbrev RT := Option (TupT sig.outs)
abbrev fin : St → RT := finish tys sig rv
theorem m_eq (a) : run (cx call k) sig rv body a = m (call 137) (call 138) a := by kernel_rfl
end spec_l9Word
namespace spec_l9Names
noncomputable def cx : Cx := ⟨38, tys, eqts, sigs, call, hint, join, k, needV 0 sig.ps, needB 0 sig.ps⟩
abbrev RT := Option (TupT sig.outs)
abbrev fin : St → RT := finish tys sig rv
theorem s0_eq (L0 : LS → RT) (a) : stp (cx call k) body [1, 0, 1, 0] [] fin (ll0 a) L0 = s0 (call 107) (fun a => loopK (stp (cx call k) body [1, 1, 0, 1, 0] [] fin) k (ll2 a)) (fun a => L0 (ll0 a)) a := by kernel_rfl
theorem s2_eq (L2 : LS → RT) (a) : stp (cx call k) body [1, 1, 0, 1, 0] [] fin (ll2 a) L2 = s2 (call 107) (fun a => L2 (ll2 a)) a := by kernel_rfl
theorem m_eq (a) : run (cx call k) sig rv body a = m (fun a => loopK (stp (cx call k) body [1, 0, 1, 0] [] fin) k (ll0 a)) a := by kernel_rfl
end spec_l9Names
namespace spec_l9Types
noncomputable def cx : Cx := ⟨23, tys, eqts, sigs, call, hint, join, k, needV 0 sig.ps, needB 0 sig.ps⟩
abbrev RT := Option (TupT sig.outs)
abbrev fin : St → RT := finish tys sig rv
theorem s0_eq (L0 : LS → RT) (a) : stp (cx call k) body [1, 0, 1, 0] [] fin (ll0 a) L0 = s0 (call 101) (fun a => L0 (ll0 a)) a := by kernel_rfl
theorem m_eq (a) : run (cx call k) sig rv body a = m (fun a => loopK (stp (cx call k) body [1, 0, 1, 0] [] fin) k (ll0 a)) a := by kernel_rfl
end spec_l9Types
namespace spec_l9Col
noncomputable def cx : Cx := ⟨22, tys, eqts, sigs, call, hint, join, k, needV 0 sig.ps, needB 0 sig.ps⟩
abbrev RT := Option (TupT sig.outs)
abbrev fin : St → RT := finish tys sig rv
theorem s0_eq (L0 : LS → RT) (a) : stp (cx call k) body [1, 0, 1, 0] [] fin (ll0 a) L0 = s0 (fun a => L0 (ll0 a)) a := by kernel_rfl
theorem m_eq (a) : run (cx call k) sig rv body a = m (fun a => loopK (stp (cx call k) body [1, 0, 1, 0] [] fin) k (ll0 a)) a := by kernel_rfl
end spec_l9Col
namespace spec_l9Once
noncomputable def cx : Cx := ⟨48, tys, eqts, sigs, call, hint, join, k, needV 0 sig.ps, needB 0 sig.ps⟩
abbrev RT := Option (TupT sig.outs)
abbrev fin : St → RT := finish tys sig rv
theorem s0_eq (L0 : LS → RT) (a) : stp (cx call k) body [1, 0, 1, 0] [] fin (ll0 a) L0 = s0 (call 108) (fun a => loopK (stp (cx call k) body [1, 1, 0, 1, 0] [] fin) k (ll2 a)) (fun a => L0 (ll0 a)) a := by kernel_rfl
theorem s2_eq (L2 : LS → RT) (a) : stp (cx call k) body [1, 1, 0, 1, 0] [] fin (ll2 a) L2 = s2 (fun a => loopK (stp (cx call k) body [1, 1, 0, 1, 0, 0, 1, 0, 0, 1, 0] [L2] fin) k (ll4 a)) (fun a => L2 (ll2 a)) a := by kernel_rfl
theorem s4_eq (L2 L4 : LS → RT) (a) : stp (cx call k) body [1, 1, 0, 1, 0, 0, 1, 0, 0, 1, 0] [L2] fin (ll4 a) L4 = s4 (fun a => L2 (ll2 a)) (fun a => L4 (ll4 a)) a := by kernel_rfl
theorem m_eq (a) : run (cx call k) sig rv body a = m (fun a => loopK (stp (cx call k) body [1, 0, 1, 0] [] fin) k (ll0 a)) a := by kernel_rfl
end spec_l9Once
namespace spec_l9Parts
noncomputable def cx : Cx := ⟨42, tys, eqts, sigs, call, hint, join, k, needV 0 sig.ps, needB 0 sig.ps⟩
abbrev RT := Option (TupT sig.outs)
abbrev fin : St → RT := finish tys sig rv
theorem s0_eq (L0 : LS → RT) (a) : stp (cx call k) body [1, 0, 1, 0] [] fin (ll0 a) L0 = s0 (call 101) (fun a => L0 (ll0 a)) a := by kernel_rfl
theorem m_eq (a) : run (cx call k) sig rv body a = m (fun a => loopK (stp (cx call k) body [1, 0, 1, 0] [] fin) k (ll0 a)) a := by kernel_rfl
end spec_l9Parts
namespace spec_l9AllParts
noncomputable def cx : Cx := ⟨24, tys, eqts, sigs, call, hint, join, k, needV 0 sig.ps, needB 0 sig.ps⟩
abbrev RT := Option (TupT sig.outs)
abbrev fin : St → RT := finish tys sig rv
theorem s0_eq (L0 : LS → RT) (a) : stp (cx call k) body [1, 0, 1, 0] [] fin (ll0 a) L0 = s0 (call 109) (fun a => L0 (ll0 a)) a := by kernel_rfl
theorem m_eq (a) : run (cx call k) sig rv body a = m (fun a => loopK (stp (cx call k) body [1, 0, 1, 0] [] fin) k (ll0 a)) a := by kernel_rfl
end spec_l9AllParts
namespace spec_CheckDef
noncomputable def cx : Cx := ⟨43, tys, eqts, sigs, call, hint, join, k, needV 0 sig.ps, needB 0 sig.ps⟩
abbrev RT := Option (TupT sig.outs)
abbrev fin : St → RT := finish tys sig rv
theorem s1_eq (L1 : LS → RT) (a) : stp (cx call k) body [1, 1, 0, 1, 0] [] fin (ll1 a) L1 = s1 (fun a => L1 (ll1 a)) a := by kernel_rfl
theorem m_eq (a) : run (cx call k) sig rv body a = m (call 60) (call 61) (call 62) (call 63) (fun a => loopK (stp (cx call k) body [1, 1, 0, 1, 0] [] fin) k (ll1 a)) a := by kernel_rfl
end spec_CheckDef
namespace spec_FirstBad
noncomputable def cx : Cx := ⟨39, tys, eqts, sigs, call, hint, join, k, needV 0 sig.ps, needB 0 sig.ps⟩
abbrev RT := Option (TupT sig.outs)
abbrev fin : St → RT := finish tys sig rv
theorem s0_eq (L0 : LS → RT) (a) : stp (cx call k) body [1, 0, 1, 0] [] fin (ll0 a) L0 = s0 (call 23) (fun a => loopK (stp (cx call k) body [1, 0, 1, 0, 0, 1, 0, 0, 1, 1, 0] [L0] fin) k (ll2 a)) (fun a => L0 (ll0 a)) a := by kernel_rfl
theorem s2_eq (L0 L2 : LS → RT) (a) : stp (cx call k) body [1, 0, 1, 0, 0, 1, 0, 0, 1, 1, 0] [L0] fin (ll2 a) L2 = s2 (fun a => L0 (ll0 a)) (fun a => L2 (ll2 a)) a := by kernel_rfl
theorem m_eq (a) : run (cx call k) sig rv body a = m (fun a => loopK (stp (cx call k) body [1, 0, 1, 0] [] fin) k (ll0 a)) a := by kernel_rfl
end spec_FirstBad
namespace impl_in
noncomputable def cx : Cx := ⟨15, tys, eqts, sigs, call, hint, join, k, needV 0 sig.ps, needB 0 sig.ps⟩
abbrev RT := Option (TupT sig.outs)
abbrev fin : St → RT := finish tys sig rv
theorem m_eq (a) : run (cx call k) sig rv body a = m  a := by kernel_rfl
end impl_in
namespace impl_isLetter
noncomputable def cx : Cx := ⟨9, tys, eqts, sigs, call, hint, join, k, needV 0 sig.ps, needB 0 sig.ps⟩
abbrev RT := Option (TupT sig.outs)
abbrev fin : St → RT := finish tys sig rv
theorem m_eq (a) : run (cx call k) sig rv body a = m  a := by kernel_rfl
end impl_isLetter
namespace impl_isDigit
noncomputable def cx : Cx := ⟨9, tys, eqts, sigs, call, hint, join, k, needV 0 sig.ps, needB 0 sig.ps⟩
abbrev RT := Option (TupT sig.outs)
abbrev fin : St → RT := finish tys sig rv
theorem m_eq (a) : run (cx call k) sig rv body a = m  a := by kernel_rfl
end impl_isDigit
namespace impl_nameOk
noncomputable def cx : Cx := ⟨29, tys, eqts, sigs, call, hint, join, k, needV 0 sig.ps, needB 0 sig.ps⟩
abbrev RT := Option (TupT sig.outs)
abbrev fin : St → RT := finish tys sig rv
theorem s0_eq (L0 : LS → RT) (a) : stp (cx call k) body [1, 0, 1, 0] [] fin (ll0 a) L0 = s0 (call 55) (call 93) (call 94) (fun a => L0 (ll0 a)) a := by kernel_rfl
theorem m_eq (a) : run (cx call k) sig rv body a = m (fun a => loopK (stp (cx call k) body [1, 0, 1, 0] [] fin) k (ll0 a)) a := by kernel_rfl
end impl_nameOk
namespace impl_isFree
noncomputable def cx : Cx := ⟨17, tys, eqts, sigs, call, hint, join, k, needV 0 sig.ps, needB 0 sig.ps⟩
abbrev RT := Option (TupT sig.outs)
abbrev fin : St → RT := finish tys sig rv
theorem s0_eq (L0 : LS → RT) (a) : stp (cx call k) body [1, 0, 1, 0] [] fin (ll0 a) L0 = s0 (call 135) (fun a => L0 (ll0 a)) a := by kernel_rfl
theorem m_eq (a) : run (cx call k) sig rv body a = m (call 64) (fun a => loopK (stp (cx call k) body [1, 0, 1, 0] [] fin) k (ll0 a)) a := by kernel_rfl
end impl_isFree
namespace impl_namesOk
noncomputable def cx : Cx := ⟨34, tys, eqts, sigs, call, hint, join, k, needV 0 sig.ps, needB 0 sig.ps⟩
abbrev RT := Option (TupT sig.outs)
abbrev fin : St → RT := finish tys sig rv
theorem s0_eq (L0 : LS → RT) (a) : stp (cx call k) body [1, 0, 1, 0] [] fin (ll0 a) L0 = s0 (call 106) (fun a => loopK (stp (cx call k) body [1, 1, 0, 1, 0] [] fin) k (ll2 a)) (fun a => L0 (ll0 a)) a := by kernel_rfl
theorem s2_eq (L2 : LS → RT) (a) : stp (cx call k) body [1, 1, 0, 1, 0] [] fin (ll2 a) L2 = s2 (call 106) (fun a => L2 (ll2 a)) a := by kernel_rfl
theorem m_eq (a) : run (cx call k) sig rv body a = m (fun a => loopK (stp (cx call k) body [1, 0, 1, 0] [] fin) k (ll0 a)) a := by kernel_rfl
end impl_namesOk
namespace impl_twice
noncomputable def cx : Cx := ⟨59, tys, eqts, sigs, call, hint, join, k, needV 0 sig.ps, needB 0 sig.ps⟩
abbrev RT := Option (TupT sig.outs)
abbrev fin : St → RT := finish tys sig rv
theorem s0_eq (L0 : LS → RT) (a) : stp (cx call k) body [1, 0, 1, 0] [] fin (ll0 a) L0 = s0 (fun a => loopK (stp (cx call k) body [1, 0, 1, 0, 0, 1, 1, 0, 0, 1, 1, 0] [L0] fin) k (ll2 a)) (fun a => loopK (stp (cx call k) body [1, 1, 0, 1, 0] [] fin) k (ll4 a)) (fun a => L0 (ll0 a)) a := by kernel_rfl
theorem s2_eq (L0 L2 : LS → RT) (a) : stp (cx call k) body [1, 0, 1, 0, 0, 1, 1, 0, 0, 1, 1, 0] [L0] fin (ll2 a) L2 = s2 (fun a => L0 (ll0 a)) (fun a => L2 (ll2 a)) a := by kernel_rfl
theorem s4_eq (L4 : LS → RT) (a) : stp (cx call k) body [1, 1, 0, 1, 0] [] fin (ll4 a) L4 = s4 (fun a => loopK (stp (cx call k) body [1, 1, 0, 1, 0, 0, 1, 1, 0, 0, 1, 1, 0] [L4] fin) k (ll6 a)) (fun a => L4 (ll4 a)) a := by kernel_rfl
theorem s6_eq (L4 L6 : LS → RT) (a) : stp (cx call k) body [1, 1, 0, 1, 0, 0, 1, 1, 0, 0, 1, 1, 0] [L4] fin (ll6 a) L6 = s6 (fun a => L4 (ll4 a)) (fun a => L6 (ll6 a)) a := by kernel_rfl
theorem m_eq (a) : run (cx call k) sig rv body a = m (fun a => loopK (stp (cx call k) body [1, 0, 1, 0] [] fin) k (ll0 a)) a := by kernel_rfl
end impl_twice
namespace impl_partsOk
noncomputable def cx : Cx := ⟨42, tys, eqts, sigs, call, hint, join, k, needV 0 sig.ps, needB 0 sig.ps⟩
abbrev RT := Option (TupT sig.outs)
abbrev fin : St → RT := finish tys sig rv
theorem s0_eq (L0 : LS → RT) (a) : stp (cx call k) body [1, 0, 1, 0] [] fin (ll0 a) L0 = s0 (call 55) (fun a => loopK (stp (cx call k) body [1, 0, 1, 0, 0, 1, 1, 0, 0, 1, 1, 1, 0] [L0] fin) k (ll2 a)) (fun a => L0 (ll0 a)) a := by kernel_rfl
theorem s2_eq (L0 L2 : LS → RT) (a) : stp (cx call k) body [1, 0, 1, 0, 0, 1, 1, 0, 0, 1, 1, 1, 0] [L0] fin (ll2 a) L2 = s2 (fun a => L0 (ll0 a)) (fun a => L2 (ll2 a)) a := by kernel_rfl
theorem m_eq (a) : run (cx call k) sig rv body a = m (fun a => loopK (stp (cx call k) body [1, 0, 1, 0] [] fin) k (ll0 a)) a := by kernel_rfl
end impl_partsOk
namespace impl_CheckDef
noncomputable def cx : Cx := ⟨68, tys, eqts, sigs, call, hint, join, k, needV 0 sig.ps, needB 0 sig.ps⟩
abbrev RT := Option (TupT sig.outs)
abbrev fin : St → RT := finish tys sig rv
theorem s0_eq (L0 : LS → RT) (a) : stp (cx call k) body [1, 1, 1, 0, 1, 0] [] fin (ll0 a) L0 = s0 (call 55) (call 56) (fun a => loopK (stp (cx call k) body [1, 1, 1, 1, 1, 1, 0, 1, 0] [] fin) k (ll2 a)) (fun a => L0 (ll0 a)) a := by kernel_rfl
theorem s2_eq (L2 : LS → RT) (a) : stp (cx call k) body [1, 1, 1, 1, 1, 1, 0, 1, 0] [] fin (ll2 a) L2 = s2 (call 57) (fun a => loopK (stp (cx call k) body [1, 1, 1, 1, 1, 1, 1, 1, 0, 1, 0] [] fin) k (ll4 a)) (fun a => L2 (ll2 a)) a := by kernel_rfl
theorem s4_eq (L4 : LS → RT) (a) : stp (cx call k) body [1, 1, 1, 1, 1, 1, 1, 1, 0, 1, 0] [] fin (ll4 a) L4 = s4 (fun a => L4 (ll4 a)) a := by kernel_rfl
theorem m_eq (a) : run (cx call k) sig rv body a = m (call 54) (call 55) (fun a => loopK (stp (cx call k) body [1, 1, 1, 0, 1, 0] [] fin) k (ll0 a)) a := by kernel_rfl
end impl_CheckDef
namespace impl_FirstBad
noncomputable def cx : Cx := ⟨38, tys, eqts, sigs, call, hint, join, k, needV 0 sig.ps, needB 0 sig.ps⟩
abbrev RT := Option (TupT sig.outs)
abbrev fin : St → RT := finish tys sig rv
theorem s0_eq (L0 : LS → RT) (a) : stp (cx call k) body [1, 0, 1, 0] [] fin (ll0 a) L0 = s0 (call 21) (fun a => loopK (stp (cx call k) body [1, 0, 1, 0, 0, 1, 1, 0, 0, 1, 1, 1, 0] [L0] fin) k (ll2 a)) (fun a => L0 (ll0 a)) a := by kernel_rfl
theorem s2_eq (L0 L2 : LS → RT) (a) : stp (cx call k) body [1, 0, 1, 0, 0, 1, 1, 0, 0, 1, 1, 1, 0] [L0] fin (ll2 a) L2 = s2 (fun a => L0 (ll0 a)) (fun a => L2 (ll2 a)) a := by kernel_rfl
theorem m_eq (a) : run (cx call k) sig rv body a = m (fun a => loopK (stp (cx call k) body [1, 0, 1, 0] [] fin) k (ll0 a)) a := by kernel_rfl
end impl_FirstBad
namespace laws_big
noncomputable def cx : Cx := ⟨6, tys, eqts, sigs, call, hint, join, k, needV 0 sig.ps, needB 0 sig.ps⟩
abbrev RT := Option (TupT sig.outs)
abbrev fin : St → RT := finish tys sig rv
theorem m_eq (a) : run (cx call k) sig rv body a = m  a := by kernel_rfl
end laws_big
namespace spec_l1New
noncomputable def cx : Cx := ⟨32, tys, eqts, sigs, call, hint, join, k, needV 0 sig.ps, needB 0 sig.ps⟩
abbrev RT := Option (TupT sig.outs)
abbrev fin : St → RT := finish tys sig rv
theorem s0_eq (L0 : LS → RT) (a) : stp (cx call k) body [1, 1, 0, 1, 0] [] fin (ll0 a) L0 = s0 (fun a => L0 (ll0 a)) a := by kernel_rfl
theorem m_eq (a) : run (cx call k) sig rv body a = m (fun a => loopK (stp (cx call k) body [1, 1, 0, 1, 0] [] fin) k (ll0 a)) a := by kernel_rfl
end spec_l1New
namespace spec_l1Byte
noncomputable def cx : Cx := ⟨58, tys, eqts, sigs, call, hint, join, k, needV 0 sig.ps, needB 0 sig.ps⟩
abbrev RT := Option (TupT sig.outs)
abbrev fin : St → RT := finish tys sig rv
theorem m_eq (a) : run (cx call k) sig rv body a = m  a := by kernel_rfl
end spec_l1Byte
namespace spec_l1Below
noncomputable def cx : Cx := ⟨31, tys, eqts, sigs, call, hint, join, k, needV 0 sig.ps, needB 0 sig.ps⟩
abbrev RT := Option (TupT sig.outs)
abbrev fin : St → RT := finish tys sig rv
theorem m_eq (a) : run (cx call k) sig rv body a = m (call 134) a := by kernel_rfl
end spec_l1Below
namespace spec_l1Str
noncomputable def cx : Cx := ⟨12, tys, eqts, sigs, call, hint, join, k, needV 0 sig.ps, needB 0 sig.ps⟩
abbrev RT := Option (TupT sig.outs)
abbrev fin : St → RT := finish tys sig rv
theorem m_eq (a) : run (cx call k) sig rv body a = m (call 91) a := by kernel_rfl
end spec_l1Str
namespace spec_l1Once
noncomputable def cx : Cx := ⟨9, tys, eqts, sigs, call, hint, join, k, needV 0 sig.ps, needB 0 sig.ps⟩
abbrev RT := Option (TupT sig.outs)
abbrev fin : St → RT := finish tys sig rv
theorem m_eq (a) : run (cx call k) sig rv body a = m (call 91) a := by kernel_rfl
end spec_l1Once
namespace spec_l1Int
noncomputable def cx : Cx := ⟨12, tys, eqts, sigs, call, hint, join, k, needV 0 sig.ps, needB 0 sig.ps⟩
abbrev RT := Option (TupT sig.outs)
abbrev fin : St → RT := finish tys sig rv
theorem m_eq (a) : run (cx call k) sig rv body a = m (call 91) a := by kernel_rfl
end spec_l1Int
namespace spec_l9Draw2
noncomputable def cx : Cx := ⟨32, tys, eqts, sigs, call, hint, join, k, needV 0 sig.ps, needB 0 sig.ps⟩
abbrev RT := Option (TupT sig.outs)
abbrev fin : St → RT := finish tys sig rv
theorem m_eq (a) : run (cx call k) sig rv body a = m (call 58) (call 91) a := by kernel_rfl
end spec_l9Draw2
namespace spec_l9Draw
noncomputable def cx : Cx := ⟨94, tys, eqts, sigs, call, hint, join, k, needV 0 sig.ps, needB 0 sig.ps⟩
abbrev RT := Option (TupT sig.outs)
abbrev fin : St → RT := finish tys sig rv
theorem s0_eq (L0 : LS → RT) (a) : stp (cx call k) body [1, 1, 1, 0, 1, 0] [] fin (ll0 a) L0 = s0 (call 58) (call 91) (fun a => loopK (stp (cx call k) body [1, 1, 1, 1, 1, 1, 0, 1, 0] [] fin) k (ll2 a)) (fun a => L0 (ll0 a)) a := by kernel_rfl
theorem s2_eq (L2 : LS → RT) (a) : stp (cx call k) body [1, 1, 1, 1, 1, 1, 0, 1, 0] [] fin (ll2 a) L2 = s2 (call 58) (call 92) (call 104) (fun a => L2 (ll2 a)) a := by kernel_rfl
theorem m_eq (a) : run (cx call k) sig rv body a = m (call 96) (fun a => loopK (stp (cx call k) body [1, 1, 1, 0, 1, 0] [] fin) k (ll0 a)) a := by kernel_rfl
end spec_l9Draw
namespace impl_partsText
noncomputable def cx : Cx := ⟨34, tys, eqts, sigs, call, hint, join, k, needV 0 sig.ps, needB 0 sig.ps⟩
abbrev RT := Option (TupT sig.outs)
abbrev fin : St → RT := finish tys sig rv
theorem s0_eq (L0 : LS → RT) (a) : stp (cx call k) body [1, 1, 0, 1, 0] [] fin (ll0 a) L0 = s0 (call 111) (fun a => L0 (ll0 a)) a := by kernel_rfl
theorem m_eq (a) : run (cx call k) sig rv body a = m (fun a => loopK (stp (cx call k) body [1, 1, 0, 1, 0] [] fin) k (ll0 a)) a := by kernel_rfl
end impl_partsText
namespace impl_DefText
noncomputable def cx : Cx := ⟨72, tys, eqts, sigs, call, hint, join, k, needV 0 sig.ps, needB 0 sig.ps⟩
abbrev RT := Option (TupT sig.outs)
abbrev fin : St → RT := finish tys sig rv
theorem s0_eq (L0 : LS → RT) (a) : stp (cx call k) body [1, 1, 1, 0, 1, 0] [] fin (ll0 a) L0 = s0 (call 64) (call 65) (fun a => loopK (stp (cx call k) body [1, 1, 1, 1, 1, 0, 1, 0] [] fin) k (ll2 a)) (fun a => L0 (ll0 a)) a := by kernel_rfl
theorem s2_eq (L2 : LS → RT) (a) : stp (cx call k) body [1, 1, 1, 1, 1, 0, 1, 0] [] fin (ll2 a) L2 = s2 (call 65) (fun a => L2 (ll2 a)) a := by kernel_rfl
theorem m_eq (a) : run (cx call k) sig rv body a = m (call 21) (fun a => loopK (stp (cx call k) body [1, 1, 1, 0, 1, 0] [] fin) k (ll0 a)) a := by kernel_rfl
end impl_DefText
namespace spec_l9Type
noncomputable def cx : Cx := ⟨9, tys, eqts, sigs, call, hint, join, k, needV 0 sig.ps, needB 0 sig.ps⟩
abbrev RT := Option (TupT sig.outs)
abbrev fin : St → RT := finish tys sig rv
theorem m_eq (a) : run (cx call k) sig rv body a = m  a := by kernel_rfl
end spec_l9Type
namespace spec_l9PartsText
noncomputable def cx : Cx := ⟨38, tys, eqts, sigs, call, hint, join, k, needV 0 sig.ps, needB 0 sig.ps⟩
abbrev RT := Option (TupT sig.outs)
abbrev fin : St → RT := finish tys sig rv
theorem s0_eq (L0 : LS → RT) (a) : stp (cx call k) body [1, 1, 0, 1, 0] [] fin (ll0 a) L0 = s0 (fun a => L0 (ll0 a)) a := by kernel_rfl
theorem m_eq (a) : run (cx call k) sig rv body a = m (fun a => loopK (stp (cx call k) body [1, 1, 0, 1, 0] [] fin) k (ll0 a)) a := by kernel_rfl
end spec_l9PartsText
namespace spec_DefText
noncomputable def cx : Cx := ⟨90, tys, eqts, sigs, call, hint, join, k, needV 0 sig.ps, needB 0 sig.ps⟩
abbrev RT := Option (TupT sig.outs)
abbrev fin : St → RT := finish tys sig rv
theorem s0_eq (L0 : LS → RT) (a) : stp (cx call k) body [1, 1, 1, 0, 1, 0] [] fin (ll0 a) L0 = s0 (call 66) (call 67) (fun a => loopK (stp (cx call k) body [1, 1, 1, 1, 1, 0, 1, 0] [] fin) k (ll2 a)) (fun a => L0 (ll0 a)) a := by kernel_rfl
theorem s2_eq (L2 : LS → RT) (a) : stp (cx call k) body [1, 1, 1, 1, 1, 0, 1, 0] [] fin (ll2 a) L2 = s2 (call 67) (fun a => L2 (ll2 a)) a := by kernel_rfl
theorem m_eq (a) : run (cx call k) sig rv body a = m (call 23) (fun a => loopK (stp (cx call k) body [1, 1, 1, 0, 1, 0] [] fin) k (ll0 a)) a := by kernel_rfl
end spec_DefText
namespace spec_DefsText
noncomputable def cx : Cx := ⟨20, tys, eqts, sigs, call, hint, join, k, needV 0 sig.ps, needB 0 sig.ps⟩
abbrev RT := Option (TupT sig.outs)
abbrev fin : St → RT := finish tys sig rv
theorem s0_eq (L0 : LS → RT) (a) : stp (cx call k) body [1, 1, 0, 1, 0] [] fin (ll0 a) L0 = s0 (call 25) (fun a => L0 (ll0 a)) a := by kernel_rfl
theorem m_eq (a) : run (cx call k) sig rv body a = m (fun a => loopK (stp (cx call k) body [1, 1, 0, 1, 0] [] fin) k (ll0 a)) a := by kernel_rfl
end spec_DefsText
namespace impl_DefsText
noncomputable def cx : Cx := ⟨19, tys, eqts, sigs, call, hint, join, k, needV 0 sig.ps, needB 0 sig.ps⟩
abbrev RT := Option (TupT sig.outs)
abbrev fin : St → RT := finish tys sig rv
theorem s0_eq (L0 : LS → RT) (a) : stp (cx call k) body [1, 1, 0, 1, 0] [] fin (ll0 a) L0 = s0 (call 24) (fun a => L0 (ll0 a)) a := by kernel_rfl
theorem m_eq (a) : run (cx call k) sig rv body a = m (fun a => loopK (stp (cx call k) body [1, 1, 0, 1, 0] [] fin) k (ll0 a)) a := by kernel_rfl
end impl_DefsText
namespace spec_l10Draw
noncomputable def cx : Cx := ⟨15, tys, eqts, sigs, call, hint, join, k, needV 0 sig.ps, needB 0 sig.ps⟩
abbrev RT := Option (TupT sig.outs)
abbrev fin : St → RT := finish tys sig rv
theorem m_eq (a) : run (cx call k) sig rv body a = m (call 58) (call 103) a := by kernel_rfl
end spec_l10Draw
namespace impl_isMark
noncomputable def cx : Cx := ⟨17, tys, eqts, sigs, call, hint, join, k, needV 0 sig.ps, needB 0 sig.ps⟩
abbrev RT := Option (TupT sig.outs)
abbrev fin : St → RT := finish tys sig rv
theorem m_eq (a) : run (cx call k) sig rv body a = m  a := by kernel_rfl
end impl_isMark
namespace impl_TokenOk
noncomputable def cx : Cx := ⟨22, tys, eqts, sigs, call, hint, join, k, needV 0 sig.ps, needB 0 sig.ps⟩
abbrev RT := Option (TupT sig.outs)
abbrev fin : St → RT := finish tys sig rv
theorem m_eq (a) : run (cx call k) sig rv body a = m (call 135) (call 136) a := by kernel_rfl
end impl_TokenOk
namespace impl_Lex
noncomputable def cx : Cx := ⟨79, tys, eqts, sigs, call, hint, join, k, needV 0 sig.ps, needB 0 sig.ps⟩
abbrev RT := Option (TupT sig.outs)
abbrev fin : St → RT := finish tys sig rv
theorem s0_eq (L0 : LS → RT) (a) : stp (cx call k) body [1, 1, 0, 1, 0] [] fin (ll0 a) L0 = s0 (call 93) (call 95) (fun a => loopK (stp (cx call k) body [1, 1, 0, 1, 0, 0, 1, 0, 1, 1, 1, 1, 0, 1, 0, 0, 0] [L0] fin) k (ll2 a)) (fun a => L0 (ll0 a)) a := by kernel_rfl
theorem s2_eq (L0 L2 : LS → RT) (a) : stp (cx call k) body [1, 1, 0, 1, 0, 0, 1, 0, 1, 1, 1, 1, 0, 1, 0, 0, 0] [L0] fin (ll2 a) L2 = s2 (call 93) (call 94) (call 95) (fun a => L0 (ll0 a)) (fun a => L2 (ll2 a)) a := by kernel_rfl
theorem m_eq (a) : run (cx call k) sig rv body a = m (fun a => loopK (stp (cx call k) body [1, 1, 0, 1, 0] [] fin) k (ll0 a)) a := by kernel_rfl
end impl_Lex
namespace impl_tokens_maybe
noncomputable def cx : Cx := ⟨43, tys, eqts, sigs, call, hint, join, k, needV 0 sig.ps, needB 0 sig.ps⟩
abbrev RT := Option (TupT sig.outs)
abbrev fin : St → RT := finish tys sig rv
theorem m_eq (a) : run (cx call k) sig rv body a = m  a := by kernel_rfl
end impl_tokens_maybe
namespace impl_tokens_want
noncomputable def cx : Cx := ⟨11, tys, eqts, sigs, call, hint, join, k, needV 0 sig.ps, needB 0 sig.ps⟩
abbrev RT := Option (TupT sig.outs)
abbrev fin : St → RT := finish tys sig rv
theorem m_eq (a) : run (cx call k) sig rv body a = m (call 122) a := by kernel_rfl
end impl_tokens_want
namespace impl_tokens_name
noncomputable def cx : Cx := ⟨55, tys, eqts, sigs, call, hint, join, k, needV 0 sig.ps, needB 0 sig.ps⟩
abbrev RT := Option (TupT sig.outs)
abbrev fin : St → RT := finish tys sig rv
theorem m_eq (a) : run (cx call k) sig rv body a = m  a := by kernel_rfl
end impl_tokens_name
namespace impl_tokens_typed
noncomputable def cx : Cx := ⟨16, tys, eqts, sigs, call, hint, join, k, needV 0 sig.ps, needB 0 sig.ps⟩
abbrev RT := Option (TupT sig.outs)
abbrev fin : St → RT := finish tys sig rv
theorem m_eq (a) : run (cx call k) sig rv body a = m (call 121) a := by kernel_rfl
end impl_tokens_typed
namespace impl_tokens_parts
noncomputable def cx : Cx := ⟨46, tys, eqts, sigs, call, hint, join, k, needV 0 sig.ps, needB 0 sig.ps⟩
abbrev RT := Option (TupT sig.outs)
abbrev fin : St → RT := finish tys sig rv
theorem s0_eq (L0 : LS → RT) (a) : stp (cx call k) body [1, 1, 0, 0] [] fin (ll0 a) L0 = s0 (call 121) (fun a => loopK (stp (cx call k) body [1, 1, 0, 0, 0, 1, 0, 1, 1, 0, 1, 0] [L0] fin) k (ll2 a)) (fun a => L0 (ll0 a)) a := by kernel_rfl
theorem s2_eq (L0 L2 : LS → RT) (a) : stp (cx call k) body [1, 1, 0, 0, 0, 1, 0, 1, 1, 0, 1, 0] [L0] fin (ll2 a) L2 = s2 (call 120) (call 122) (fun a => L0 (ll0 a)) (fun a => L2 (ll2 a)) a := by kernel_rfl
theorem m_eq (a) : run (cx call k) sig rv body a = m (fun a => loopK (stp (cx call k) body [1, 1, 0, 0] [] fin) k (ll0 a)) a := by kernel_rfl
end impl_tokens_parts
namespace impl_tokens_def
noncomputable def cx : Cx := ⟨76, tys, eqts, sigs, call, hint, join, k, needV 0 sig.ps, needB 0 sig.ps⟩
abbrev RT := Option (TupT sig.outs)
abbrev fin : St → RT := finish tys sig rv
theorem s0_eq (L0 : LS → RT) (a) : stp (cx call k) body [1, 1, 1, 1, 0, 0] [] fin (ll0 a) L0 = s0 (call 120) (call 121) (call 122) (call 123) (call 124) (fun a => loopK (stp (cx call k) body [1, 1, 1, 1, 1, 1, 0, 0] [] fin) k (ll2 a)) (fun a => L0 (ll0 a)) a := by kernel_rfl
theorem s2_eq (L2 : LS → RT) (a) : stp (cx call k) body [1, 1, 1, 1, 1, 1, 0, 0] [] fin (ll2 a) L2 = s2 (call 120) (call 121) (call 122) (call 124) (fun a => L2 (ll2 a)) a := by kernel_rfl
theorem m_eq (a) : run (cx call k) sig rv body a = m (call 120) (call 121) (fun a => loopK (stp (cx call k) body [1, 1, 1, 1, 0, 0] [] fin) k (ll0 a)) a := by kernel_rfl
end impl_tokens_def
namespace impl_ParseDefs
noncomputable def cx : Cx := ⟨49, tys, eqts, sigs, call, hint, join, k, needV 0 sig.ps, needB 0 sig.ps⟩
abbrev RT := Option (TupT sig.outs)
abbrev fin : St → RT := finish tys sig rv
theorem s0_eq (L0 : LS → RT) (a) : stp (cx call k) body [1, 1, 1, 1, 1, 0, 0] [] fin (ll0 a) L0 = s0 (call 17) (call 80) (fun a => L0 (ll0 a)) a := by kernel_rfl
theorem m_eq (a) : run (cx call k) sig rv body a = m (call 39) (fun a => loopK (stp (cx call k) body [1, 1, 1, 1, 1, 0, 0] [] fin) k (ll0 a)) a := by kernel_rfl
end impl_ParseDefs
namespace spec_l8Mark
noncomputable def cx : Cx := ⟨17, tys, eqts, sigs, call, hint, join, k, needV 0 sig.ps, needB 0 sig.ps⟩
abbrev RT := Option (TupT sig.outs)
abbrev fin : St → RT := finish tys sig rv
theorem m_eq (a) : run (cx call k) sig rv body a = m  a := by kernel_rfl
end spec_l8Mark
namespace spec_TokenOk
noncomputable def cx : Cx := ⟨15, tys, eqts, sigs, call, hint, join, k, needV 0 sig.ps, needB 0 sig.ps⟩
abbrev RT := Option (TupT sig.outs)
abbrev fin : St → RT := finish tys sig rv
theorem m_eq (a) : run (cx call k) sig rv body a = m (call 137) (call 145) a := by kernel_rfl
end spec_TokenOk
namespace spec_Lex
noncomputable def cx : Cx := ⟨78, tys, eqts, sigs, call, hint, join, k, needV 0 sig.ps, needB 0 sig.ps⟩
abbrev RT := Option (TupT sig.outs)
abbrev fin : St → RT := finish tys sig rv
theorem s0_eq (L0 : LS → RT) (a) : stp (cx call k) body [1, 1, 1, 0, 0] [] fin (ll0 a) L0 = s0 (call 125) (call 127) (fun a => loopK (stp (cx call k) body [1, 1, 1, 0, 0, 0, 1, 0, 1, 1, 1, 1, 0, 1, 0, 1, 0] [L0] fin) k (ll2 a)) (fun a => L0 (ll0 a)) a := by kernel_rfl
theorem s2_eq (L0 L2 : LS → RT) (a) : stp (cx call k) body [1, 1, 1, 0, 0, 0, 1, 0, 1, 1, 1, 1, 0, 1, 0, 1, 0] [L0] fin (ll2 a) L2 = s2 (call 125) (call 126) (call 127) (fun a => L0 (ll0 a)) (fun a => L2 (ll2 a)) a := by kernel_rfl
theorem m_eq (a) : run (cx call k) sig rv body a = m (fun a => loopK (stp (cx call k) body [1, 1, 1, 0, 0] [] fin) k (ll0 a)) a := by kernel_rfl
end spec_Lex
namespace spec_l10Is
noncomputable def cx : Cx := ⟨43, tys, eqts, sigs, call, hint, join, k, needV 0 sig.ps, needB 0 sig.ps⟩
abbrev RT := Option (TupT sig.outs)
abbrev fin : St → RT := finish tys sig rv
theorem m_eq (a) : run (cx call k) sig rv body a = m  a := by kernel_rfl
end spec_l10Is
namespace spec_l10Must
noncomputable def cx : Cx := ⟨11, tys, eqts, sigs, call, hint, join, k, needV 0 sig.ps, needB 0 sig.ps⟩
abbrev RT := Option (TupT sig.outs)
abbrev fin : St → RT := finish tys sig rv
theorem m_eq (a) : run (cx call k) sig rv body a = m (call 130) a := by kernel_rfl
end spec_l10Must
namespace spec_l10Name
noncomputable def cx : Cx := ⟨55, tys, eqts, sigs, call, hint, join, k, needV 0 sig.ps, needB 0 sig.ps⟩
abbrev RT := Option (TupT sig.outs)
abbrev fin : St → RT := finish tys sig rv
theorem m_eq (a) : run (cx call k) sig rv body a = m  a := by kernel_rfl
end spec_l10Name
namespace spec_l10Col
noncomputable def cx : Cx := ⟨25, tys, eqts, sigs, call, hint, join, k, needV 0 sig.ps, needB 0 sig.ps⟩
abbrev RT := Option (TupT sig.outs)
abbrev fin : St → RT := finish tys sig rv
theorem s0_eq (L0 : LS → RT) (a) : stp (cx call k) body [1, 1, 1, 0, 1, 0] [] fin (ll0 a) L0 = s0 (call 66) (call 128) (call 130) (fun a => L0 (ll0 a)) a := by kernel_rfl
theorem m_eq (a) : run (cx call k) sig rv body a = m (call 129) (fun a => loopK (stp (cx call k) body [1, 1, 1, 0, 1, 0] [] fin) k (ll0 a)) a := by kernel_rfl
end spec_l10Col
namespace spec_l10Parts
noncomputable def cx : Cx := ⟨35, tys, eqts, sigs, call, hint, join, k, needV 0 sig.ps, needB 0 sig.ps⟩
abbrev RT := Option (TupT sig.outs)
abbrev fin : St → RT := finish tys sig rv
theorem s0_eq (L0 : LS → RT) (a) : stp (cx call k) body [1, 1, 0, 1, 0] [] fin (ll0 a) L0 = s0 (call 108) (call 128) (call 129) (call 130) (fun a => L0 (ll0 a)) a := by kernel_rfl
theorem m_eq (a) : run (cx call k) sig rv body a = m (fun a => loopK (stp (cx call k) body [1, 1, 0, 1, 0] [] fin) k (ll0 a)) a := by kernel_rfl
end spec_l10Parts
namespace spec_l10Index
noncomputable def cx : Cx := ⟨18, tys, eqts, sigs, call, hint, join, k, needV 0 sig.ps, needB 0 sig.ps⟩
abbrev RT := Option (TupT sig.outs)
abbrev fin : St → RT := finish tys sig rv
theorem m_eq (a) : run (cx call k) sig rv body a = m (call 129) (call 132) a := by kernel_rfl
end spec_l10Index
namespace spec_l10Def
noncomputable def cx : Cx := ⟨64, tys, eqts, sigs, call, hint, join, k, needV 0 sig.ps, needB 0 sig.ps⟩
abbrev RT := Option (TupT sig.outs)
abbrev fin : St → RT := finish tys sig rv
theorem s0_eq (L0 : LS → RT) (a) : stp (cx call k) body [1, 1, 1, 1, 1, 0, 0] [] fin (ll0 a) L0 = s0 (call 130) (call 131) (call 132) (fun a => loopK (stp (cx call k) body [1, 1, 1, 1, 1, 1, 1, 0, 0] [] fin) k (ll2 a)) (fun a => L0 (ll0 a)) a := by kernel_rfl
theorem s2_eq (L2 : LS → RT) (a) : stp (cx call k) body [1, 1, 1, 1, 1, 1, 1, 0, 0] [] fin (ll2 a) L2 = s2 (call 128) (call 130) (call 133) (fun a => L2 (ll2 a)) a := by kernel_rfl
theorem m_eq (a) : run (cx call k) sig rv body a = m (call 128) (call 129) (fun a => loopK (stp (cx call k) body [1, 1, 1, 1, 1, 0, 0] [] fin) k (ll0 a)) a := by kernel_rfl
end spec_l10Def
namespace spec_ParseDefs
noncomputable def cx : Cx := ⟨54, tys, eqts, sigs, call, hint, join, k, needV 0 sig.ps, needB 0 sig.ps⟩
abbrev RT := Option (TupT sig.outs)
abbrev fin : St → RT := finish tys sig rv
theorem s0_eq (L0 : LS → RT) (a) : stp (cx call k) body [1, 1, 1, 1, 0, 0] [] fin (ll0 a) L0 = s0 (call 15) (call 82) (fun a => L0 (ll0 a)) a := by kernel_rfl
theorem m_eq (a) : run (cx call k) sig rv body a = m (call 81) (fun a => loopK (stp (cx call k) body [1, 1, 1, 1, 0, 0] [] fin) k (ll0 a)) a := by kernel_rfl
end spec_ParseDefs
namespace spec_DrawParseDefs
noncomputable def cx : Cx := ⟨46, tys, eqts, sigs, call, hint, join, k, needV 0 sig.ps, needB 0 sig.ps⟩
abbrev RT := Option (TupT sig.outs)
abbrev fin : St → RT := finish tys sig rv
theorem m_eq (a) : run (cx call k) sig rv body a = m (call 31) (call 52) (call 90) (call 91) (call 92) a := by kernel_rfl
end spec_DrawParseDefs
namespace laws_FnDefsRead
noncomputable def cx : Cx := ⟨82, tys, eqts, sigs, call, hint, join, k, needV 0 sig.ps, needB 0 sig.ps⟩
abbrev RT := Option (TupT sig.outs)
abbrev fin : St → RT := finish tys sig rv
theorem s0_eq (L0 : LS → RT) (a) : stp (cx call k) body [1, 1, 1, 1, 1, 1, 1, 1, 1, 0, 1, 0] [] fin (ll0 a) L0 = s0 (fun a => L0 (ll0 a)) a := by kernel_rfl
theorem m_eq (a) : run (cx call k) sig rv body a = m (call 17) (call 19) (call 32) (call 34) (call 35) (call 38) (call 39) (fun a => loopK (stp (cx call k) body [1, 1, 1, 1, 1, 1, 1, 1, 1, 0, 1, 0] [] fin) k (ll0 a)) a := by kernel_rfl
end laws_FnDefsRead
end
end Go.PV.T
