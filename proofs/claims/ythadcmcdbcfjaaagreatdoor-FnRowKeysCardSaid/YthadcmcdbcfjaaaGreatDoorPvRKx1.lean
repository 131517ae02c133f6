/- Functions of the program by their own lists and numbers. No condition beyond those in each statement. -/
import Derived.Test.YthadcmcdbcfjaaaGreatDoorPvRKx0
set_option linter.unusedVariables false
set_option linter.unusedSimpArgs false
set_option maxRecDepth 100000
set_option linter.unusedVariables false
namespace Go.PV.T
open Go.Proofs
noncomputable section
variable (call : (f : Nat) → TupT (sigs f).ins → Option (TupT (sigs f).outs)) (k : Nat)
namespace laws_big
noncomputable def cx : Cx := ⟨6, tys, eqts, sigs, call, hint, join, k, needV 0 sig.ps, needB 0 sig.ps⟩
abbrev RT := Option (TupT sig.outs)
abbrev fin : St → RT := finish tys sig rv
theorem m_eq (a) : run (cx call k) sig rv body a = m  a := by kernel_rfl
end laws_big
namespace spec_l1New
noncomputable def cx : Cx := ⟨32, tys, eqts, sigs, call, hint, join, k, needV 0 sig.ps, needB 0 sig.ps⟩
abbrev RT := Option (TupT sig.outs)
abbrev fin : St → RT := finish tys sig rv
theorem s0_eq (L0 : LS → RT) (a) : stp (cx call k) body [1, 1, 0, 1, 0] [] fin (ll0 a) L0 = s0 (fun a => L0 (ll0 a)) a := by kernel_rfl
theorem m_eq (a) : run (cx call k) sig rv body a = m (fun a => loopK (stp (cx call k) body [1, 1, 0, 1, 0] [] fin) k (ll0 a)) a := by kernel_rfl
end spec_l1New
namespace spec_l1Byte
noncomputable def cx : Cx := ⟨58, tys, eqts, sigs, call, hint, join, k, needV 0 sig.ps, needB 0 sig.ps⟩
abbrev RT := Option (TupT sig.outs)
abbrev fin : St → RT := finish tys sig rv
theorem m_eq (a) : run (cx call k) sig rv body a = m  a := by kernel_rfl
end spec_l1Byte
namespace spec_l1Below
noncomputable def cx : Cx := ⟨31, tys, eqts, sigs, call, hint, join, k, needV 0 sig.ps, needB 0 sig.ps⟩
abbrev RT := Option (TupT sig.outs)
abbrev fin : St → RT := finish tys sig rv
theorem m_eq (a) : run (cx call k) sig rv body a = m (call 104) a := by kernel_rfl
end spec_l1Below
namespace spec_l1Int
noncomputable def cx : Cx := ⟨12, tys, eqts, sigs, call, hint, join, k, needV 0 sig.ps, needB 0 sig.ps⟩
abbrev RT := Option (TupT sig.outs)
abbrev fin : St → RT := finish tys sig rv
theorem m_eq (a) : run (cx call k) sig rv body a = m (call 62) a := by kernel_rfl
end spec_l1Int
namespace spec_l1Once
noncomputable def cx : Cx := ⟨9, tys, eqts, sigs, call, hint, join, k, needV 0 sig.ps, needB 0 sig.ps⟩
abbrev RT := Option (TupT sig.outs)
abbrev fin : St → RT := finish tys sig rv
theorem m_eq (a) : run (cx call k) sig rv body a = m (call 62) a := by kernel_rfl
end spec_l1Once
namespace spec_l1Str
noncomputable def cx : Cx := ⟨12, tys, eqts, sigs, call, hint, join, k, needV 0 sig.ps, needB 0 sig.ps⟩
abbrev RT := Option (TupT sig.outs)
abbrev fin : St → RT := finish tys sig rv
theorem m_eq (a) : run (cx call k) sig rv body a = m (call 62) a := by kernel_rfl
end spec_l1Str
namespace spec_l9Draw2
noncomputable def cx : Cx := ⟨32, tys, eqts, sigs, call, hint, join, k, needV 0 sig.ps, needB 0 sig.ps⟩
abbrev RT := Option (TupT sig.outs)
abbrev fin : St → RT := finish tys sig rv
theorem m_eq (a) : run (cx call k) sig rv body a = m (call 62) (call 103) a := by kernel_rfl
end spec_l9Draw2
namespace spec_l9Draw
noncomputable def cx : Cx := ⟨94, tys, eqts, sigs, call, hint, join, k, needV 0 sig.ps, needB 0 sig.ps⟩
abbrev RT := Option (TupT sig.outs)
abbrev fin : St → RT := finish tys sig rv
theorem s0_eq (L0 : LS → RT) (a) : stp (cx call k) body [1, 1, 1, 0, 1, 0] [] fin (ll0 a) L0 = s0 (call 62) (call 103) (fun a => loopK (stp (cx call k) body [1, 1, 1, 1, 1, 1, 0, 1, 0] [] fin) k (ll2 a)) (fun a => L0 (ll0 a)) a := by kernel_rfl
theorem s2_eq (L2 : LS → RT) (a) : stp (cx call k) body [1, 1, 1, 1, 1, 1, 0, 1, 0] [] fin (ll2 a) L2 = s2 (call 103) (call 110) (call 111) (fun a => L2 (ll2 a)) a := by kernel_rfl
theorem m_eq (a) : run (cx call k) sig rv body a = m (call 39) (fun a => loopK (stp (cx call k) body [1, 1, 1, 0, 1, 0] [] fin) k (ll0 a)) a := by kernel_rfl
end spec_l9Draw
namespace spec_l10Draw
noncomputable def cx : Cx := ⟨15, tys, eqts, sigs, call, hint, join, k, needV 0 sig.ps, needB 0 sig.ps⟩
abbrev RT := Option (TupT sig.outs)
abbrev fin : St → RT := finish tys sig rv
theorem m_eq (a) : run (cx call k) sig rv body a = m (call 69) (call 103) a := by kernel_rfl
end spec_l10Draw
namespace spec_l11Short
noncomputable def cx : Cx := ⟨34, tys, eqts, sigs, call, hint, join, k, needV 0 sig.ps, needB 0 sig.ps⟩
abbrev RT := Option (TupT sig.outs)
abbrev fin : St → RT := finish tys sig rv
theorem m_eq (a) : run (cx call k) sig rv body a = m (call 39) (call 62) (call 103) (call 110) a := by kernel_rfl
end spec_l11Short
namespace spec_l11Row
noncomputable def cx : Cx := ⟨26, tys, eqts, sigs, call, hint, join, k, needV 0 sig.ps, needB 0 sig.ps⟩
abbrev RT := Option (TupT sig.outs)
abbrev fin : St → RT := finish tys sig rv
theorem s0_eq (L0 : LS → RT) (a) : stp (cx call k) body [1, 1, 0, 1, 0] [] fin (ll0 a) L0 = s0 (call 105) (fun a => L0 (ll0 a)) a := by kernel_rfl
theorem m_eq (a) : run (cx call k) sig rv body a = m (fun a => loopK (stp (cx call k) body [1, 1, 0, 1, 0] [] fin) k (ll0 a)) a := by kernel_rfl
end spec_l11Row
namespace laws_sameBytes
noncomputable def cx : Cx := ⟨26, tys, eqts, sigs, call, hint, join, k, needV 0 sig.ps, needB 0 sig.ps⟩
abbrev RT := Option (TupT sig.outs)
abbrev fin : St → RT := finish tys sig rv
theorem s0_eq (L0 : LS → RT) (a) : stp (cx call k) body [1, 1, 0, 1, 0] [] fin (ll0 a) L0 = s0 (fun a => L0 (ll0 a)) a := by kernel_rfl
theorem m_eq (a) : run (cx call k) sig rv body a = m (fun a => loopK (stp (cx call k) body [1, 1, 0, 1, 0] [] fin) k (ll0 a)) a := by kernel_rfl
end laws_sameBytes
namespace impl_in
noncomputable def cx : Cx := ⟨15, tys, eqts, sigs, call, hint, join, k, needV 0 sig.ps, needB 0 sig.ps⟩
abbrev RT := Option (TupT sig.outs)
abbrev fin : St → RT := finish tys sig rv
theorem m_eq (a) : run (cx call k) sig rv body a = m  a := by kernel_rfl
end impl_in
namespace impl_isLetter
noncomputable def cx : Cx := ⟨9, tys, eqts, sigs, call, hint, join, k, needV 0 sig.ps, needB 0 sig.ps⟩
abbrev RT := Option (TupT sig.outs)
abbrev fin : St → RT := finish tys sig rv
theorem m_eq (a) : run (cx call k) sig rv body a = m  a := by kernel_rfl
end impl_isLetter
namespace impl_isDigit
noncomputable def cx : Cx := ⟨9, tys, eqts, sigs, call, hint, join, k, needV 0 sig.ps, needB 0 sig.ps⟩
abbrev RT := Option (TupT sig.outs)
abbrev fin : St → RT := finish tys sig rv
theorem m_eq (a) : run (cx call k) sig rv body a = m  a := by kernel_rfl
end impl_isDigit
namespace impl_nameOk
noncomputable def cx : Cx := ⟨29, tys, eqts, sigs, call, hint, join, k, needV 0 sig.ps, needB 0 sig.ps⟩
abbrev RT := Option (TupT sig.outs)
abbrev fin : St → RT := finish tys sig rv
theorem s0_eq (L0 : LS → RT) (a) : stp (cx call k) body [1, 0, 1, 0] [] fin (ll0 a) L0 = s0 (call 64) (call 162) (call 163) (fun a => L0 (ll0 a)) a := by kernel_rfl
theorem m_eq (a) : run (cx call k) sig rv body a = m (fun a => loopK (stp (cx call k) body [1, 0, 1, 0] [] fin) k (ll0 a)) a := by kernel_rfl
end impl_nameOk
namespace impl_isFree
noncomputable def cx : Cx := ⟨17, tys, eqts, sigs, call, hint, join, k, needV 0 sig.ps, needB 0 sig.ps⟩
abbrev RT := Option (TupT sig.outs)
abbrev fin : St → RT := finish tys sig rv
theorem s0_eq (L0 : LS → RT) (a) : stp (cx call k) body [1, 0, 1, 0] [] fin (ll0 a) L0 = s0 (call 155) (fun a => L0 (ll0 a)) a := by kernel_rfl
theorem m_eq (a) : run (cx call k) sig rv body a = m (call 154) (fun a => loopK (stp (cx call k) body [1, 0, 1, 0] [] fin) k (ll0 a)) a := by kernel_rfl
end impl_isFree
namespace impl_namesOk
noncomputable def cx : Cx := ⟨34, tys, eqts, sigs, call, hint, join, k, needV 0 sig.ps, needB 0 sig.ps⟩
abbrev RT := Option (TupT sig.outs)
abbrev fin : St → RT := finish tys sig rv
theorem s0_eq (L0 : LS → RT) (a) : stp (cx call k) body [1, 0, 1, 0] [] fin (ll0 a) L0 = s0 (call 142) (fun a => loopK (stp (cx call k) body [1, 1, 0, 1, 0] [] fin) k (ll2 a)) (fun a => L0 (ll0 a)) a := by kernel_rfl
theorem s2_eq (L2 : LS → RT) (a) : stp (cx call k) body [1, 1, 0, 1, 0] [] fin (ll2 a) L2 = s2 (call 142) (fun a => L2 (ll2 a)) a := by kernel_rfl
theorem m_eq (a) : run (cx call k) sig rv body a = m (fun a => loopK (stp (cx call k) body [1, 0, 1, 0] [] fin) k (ll0 a)) a := by kernel_rfl
end impl_namesOk
namespace impl_twice
noncomputable def cx : Cx := ⟨59, tys, eqts, sigs, call, hint, join, k, needV 0 sig.ps, needB 0 sig.ps⟩
abbrev RT := Option (TupT sig.outs)
abbrev fin : St → RT := finish tys sig rv
theorem s0_eq (L0 : LS → RT) (a) : stp (cx call k) body [1, 0, 1, 0] [] fin (ll0 a) L0 = s0 (fun a => loopK (stp (cx call k) body [1, 0, 1, 0, 0, 1, 1, 0, 0, 1, 1, 0] [L0] fin) k (ll2 a)) (fun a => loopK (stp (cx call k) body [1, 1, 0, 1, 0] [] fin) k (ll4 a)) (fun a => L0 (ll0 a)) a := by kernel_rfl
theorem s2_eq (L0 L2 : LS → RT) (a) : stp (cx call k) body [1, 0, 1, 0, 0, 1, 1, 0, 0, 1, 1, 0] [L0] fin (ll2 a) L2 = s2 (fun a => L0 (ll0 a)) (fun a => L2 (ll2 a)) a := by kernel_rfl
theorem s4_eq (L4 : LS → RT) (a) : stp (cx call k) body [1, 1, 0, 1, 0] [] fin (ll4 a) L4 = s4 (fun a => loopK (stp (cx call k) body [1, 1, 0, 1, 0, 0, 1, 1, 0, 0, 1, 1, 0] [L4] fin) k (ll6 a)) (fun a => L4 (ll4 a)) a := by kernel_rfl
theorem s6_eq (L4 L6 : LS → RT) (a) : stp (cx call k) body [1, 1, 0, 1, 0, 0, 1, 1, 0, 0, 1, 1, 0] [L4] fin (ll6 a) L6 = s6 (fun a => L4 (ll4 a)) (fun a => L6 (ll6 a)) a := by kernel_rfl
theorem m_eq (a) : run (cx call k) sig rv body a = m (fun a => loopK (stp (cx call k) body [1, 0, 1, 0] [] fin) k (ll0 a)) a := by kernel_rfl
end impl_twice
namespace impl_partsOk
noncomputable def cx : Cx := ⟨42, tys, eqts, sigs, call, hint, join, k, needV 0 sig.ps, needB 0 sig.ps⟩
abbrev RT := Option (TupT sig.outs)
abbrev fin : St → RT := finish tys sig rv
theorem s0_eq (L0 : LS → RT) (a) : stp (cx call k) body [1, 0, 1, 0] [] fin (ll0 a) L0 = s0 (call 64) (fun a => loopK (stp (cx call k) body [1, 0, 1, 0, 0, 1, 1, 0, 0, 1, 1, 1, 0] [L0] fin) k (ll2 a)) (fun a => L0 (ll0 a)) a := by kernel_rfl
theorem s2_eq (L0 L2 : LS → RT) (a) : stp (cx call k) body [1, 0, 1, 0, 0, 1, 1, 0, 0, 1, 1, 1, 0] [L0] fin (ll2 a) L2 = s2 (fun a => L0 (ll0 a)) (fun a => L2 (ll2 a)) a := by kernel_rfl
theorem m_eq (a) : run (cx call k) sig rv body a = m (fun a => loopK (stp (cx call k) body [1, 0, 1, 0] [] fin) k (ll0 a)) a := by kernel_rfl
end impl_partsOk
namespace impl_CheckDef
noncomputable def cx : Cx := ⟨68, tys, eqts, sigs, call, hint, join, k, needV 0 sig.ps, needB 0 sig.ps⟩
abbrev RT := Option (TupT sig.outs)
abbrev fin : St → RT := finish tys sig rv
theorem s0_eq (L0 : LS → RT) (a) : stp (cx call k) body [1, 1, 1, 0, 1, 0] [] fin (ll0 a) L0 = s0 (call 64) (call 107) (fun a => loopK (stp (cx call k) body [1, 1, 1, 1, 1, 1, 0, 1, 0] [] fin) k (ll2 a)) (fun a => L0 (ll0 a)) a := by kernel_rfl
theorem s2_eq (L2 : LS → RT) (a) : stp (cx call k) body [1, 1, 1, 1, 1, 1, 0, 1, 0] [] fin (ll2 a) L2 = s2 (call 108) (fun a => loopK (stp (cx call k) body [1, 1, 1, 1, 1, 1, 1, 1, 0, 1, 0] [] fin) k (ll4 a)) (fun a => L2 (ll2 a)) a := by kernel_rfl
theorem s4_eq (L4 : LS → RT) (a) : stp (cx call k) body [1, 1, 1, 1, 1, 1, 1, 1, 0, 1, 0] [] fin (ll4 a) L4 = s4 (fun a => L4 (ll4 a)) a := by kernel_rfl
theorem m_eq (a) : run (cx call k) sig rv body a = m (call 64) (call 106) (fun a => loopK (stp (cx call k) body [1, 1, 1, 0, 1, 0] [] fin) k (ll0 a)) a := by kernel_rfl
end impl_CheckDef
namespace impl_FirstBad
noncomputable def cx : Cx := ⟨38, tys, eqts, sigs, call, hint, join, k, needV 0 sig.ps, needB 0 sig.ps⟩
abbrev RT := Option (TupT sig.outs)
abbrev fin : St → RT := finish tys sig rv
theorem s0_eq (L0 : LS → RT) (a) : stp (cx call k) body [1, 0, 1, 0] [] fin (ll0 a) L0 = s0 (call 65) (fun a => loopK (stp (cx call k) body [1, 0, 1, 0, 0, 1, 1, 0, 0, 1, 1, 1, 0] [L0] fin) k (ll2 a)) (fun a => L0 (ll0 a)) a := by kernel_rfl
theorem s2_eq (L0 L2 : LS → RT) (a) : stp (cx call k) body [1, 0, 1, 0, 0, 1, 1, 0, 0, 1, 1, 1, 0] [L0] fin (ll2 a) L2 = s2 (fun a => L0 (ll0 a)) (fun a => L2 (ll2 a)) a := by kernel_rfl
theorem m_eq (a) : run (cx call k) sig rv body a = m (fun a => loopK (stp (cx call k) body [1, 0, 1, 0] [] fin) k (ll0 a)) a := by kernel_rfl
end impl_FirstBad
namespace impl_hasIndex
noncomputable def cx : Cx := ⟨28, tys, eqts, sigs, call, hint, join, k, needV 0 sig.ps, needB 0 sig.ps⟩
abbrev RT := Option (TupT sig.outs)
abbrev fin : St → RT := finish tys sig rv
theorem m_eq (a) : run (cx call k) sig rv body a = m (call 64) (call 72) a := by kernel_rfl
end impl_hasIndex
namespace impl_PartOk
noncomputable def cx : Cx := ⟨11, tys, eqts, sigs, call, hint, join, k, needV 0 sig.ps, needB 0 sig.ps⟩
abbrev RT := Option (TupT sig.outs)
abbrev fin : St → RT := finish tys sig rv
theorem m_eq (a) : run (cx call k) sig rv body a = m (call 64) a := by kernel_rfl
end impl_PartOk
namespace impl_PlanOk
noncomputable def cx : Cx := ⟨20, tys, eqts, sigs, call, hint, join, k, needV 0 sig.ps, needB 0 sig.ps⟩
abbrev RT := Option (TupT sig.outs)
abbrev fin : St → RT := finish tys sig rv
theorem s0_eq (L0 : LS → RT) (a) : stp (cx call k) body [1, 0, 1, 0] [] fin (ll0 a) L0 = s0 (call 115) (fun a => L0 (ll0 a)) a := by kernel_rfl
theorem m_eq (a) : run (cx call k) sig rv body a = m (fun a => loopK (stp (cx call k) body [1, 0, 1, 0] [] fin) k (ll0 a)) a := by kernel_rfl
end impl_PlanOk
namespace impl_ValOk
noncomputable def cx : Cx := ⟨56, tys, eqts, sigs, call, hint, join, k, needV 0 sig.ps, needB 0 sig.ps⟩
abbrev RT := Option (TupT sig.outs)
abbrev fin : St → RT := finish tys sig rv
theorem m_eq (a) : run (cx call k) sig rv body a = m (call 64) a := by kernel_rfl
end impl_ValOk
namespace impl_Fits
noncomputable def cx : Cx := ⟨28, tys, eqts, sigs, call, hint, join, k, needV 0 sig.ps, needB 0 sig.ps⟩
abbrev RT := Option (TupT sig.outs)
abbrev fin : St → RT := finish tys sig rv
theorem m_eq (a) : run (cx call k) sig rv body a = m (call 144) a := by kernel_rfl
end impl_Fits
namespace impl_FitsAll
noncomputable def cx : Cx := ⟨27, tys, eqts, sigs, call, hint, join, k, needV 0 sig.ps, needB 0 sig.ps⟩
abbrev RT := Option (TupT sig.outs)
abbrev fin : St → RT := finish tys sig rv
theorem s0_eq (L0 : LS → RT) (a) : stp (cx call k) body [1, 1, 0, 1, 0] [] fin (ll0 a) L0 = s0 (call 116) (fun a => L0 (ll0 a)) a := by kernel_rfl
theorem m_eq (a) : run (cx call k) sig rv body a = m (fun a => loopK (stp (cx call k) body [1, 1, 0, 1, 0] [] fin) k (ll0 a)) a := by kernel_rfl
end impl_FitsAll
namespace impl_RowOk
noncomputable def cx : Cx := ⟨19, tys, eqts, sigs, call, hint, join, k, needV 0 sig.ps, needB 0 sig.ps⟩
abbrev RT := Option (TupT sig.outs)
abbrev fin : St → RT := finish tys sig rv
theorem m_eq (a) : run (cx call k) sig rv body a = m (call 73) (call 74) a := by kernel_rfl
end impl_RowOk
namespace impl_RowPlan
noncomputable def cx : Cx := ⟨28, tys, eqts, sigs, call, hint, join, k, needV 0 sig.ps, needB 0 sig.ps⟩
abbrev RT := Option (TupT sig.outs)
abbrev fin : St → RT := finish tys sig rv
theorem s0_eq (L0 : LS → RT) (a) : stp (cx call k) body [1, 1, 1, 0, 1, 0] [] fin (ll0 a) L0 = s0 (fun a => L0 (ll0 a)) a := by kernel_rfl
theorem m_eq (a) : run (cx call k) sig rv body a = m (call 65) (fun a => loopK (stp (cx call k) body [1, 1, 1, 0, 1, 0] [] fin) k (ll0 a)) a := by kernel_rfl
end impl_RowPlan
namespace impl_HeadOf
noncomputable def cx : Cx := ⟨19, tys, eqts, sigs, call, hint, join, k, needV 0 sig.ps, needB 0 sig.ps⟩
abbrev RT := Option (TupT sig.outs)
abbrev fin : St → RT := finish tys sig rv
theorem m_eq (a) : run (cx call k) sig rv body a = m (call 41) a := by kernel_rfl
end impl_HeadOf
namespace impl_Pick
noncomputable def cx : Cx := ⟨32, tys, eqts, sigs, call, hint, join, k, needV 0 sig.ps, needB 0 sig.ps⟩
abbrev RT := Option (TupT sig.outs)
abbrev fin : St → RT := finish tys sig rv
theorem s0_eq (L0 : LS → RT) (a) : stp (cx call k) body [1, 1, 0, 1, 0] [] fin (ll0 a) L0 = s0 (call 64) (fun a => L0 (ll0 a)) a := by kernel_rfl
theorem m_eq (a) : run (cx call k) sig rv body a = m (fun a => loopK (stp (cx call k) body [1, 1, 0, 1, 0] [] fin) k (ll0 a)) a := by kernel_rfl
end impl_Pick
namespace impl_partsOf
noncomputable def cx : Cx := ⟨35, tys, eqts, sigs, call, hint, join, k, needV 0 sig.ps, needB 0 sig.ps⟩
abbrev RT := Option (TupT sig.outs)
abbrev fin : St → RT := finish tys sig rv
theorem s0_eq (L0 : LS → RT) (a) : stp (cx call k) body [1, 1, 0, 1, 0] [] fin (ll0 a) L0 = s0 (fun a => L0 (ll0 a)) a := by kernel_rfl
theorem m_eq (a) : run (cx call k) sig rv body a = m (fun a => loopK (stp (cx call k) body [1, 1, 0, 1, 0] [] fin) k (ll0 a)) a := by kernel_rfl
end impl_partsOf
namespace impl_PrimaryPlan
noncomputable def cx : Cx := ⟨10, tys, eqts, sigs, call, hint, join, k, needV 0 sig.ps, needB 0 sig.ps⟩
abbrev RT := Option (TupT sig.outs)
abbrev fin : St → RT := finish tys sig rv
theorem m_eq (a) : run (cx call k) sig rv body a = m (call 65) (call 66) a := by kernel_rfl
end impl_PrimaryPlan
namespace impl_IndexPlan
noncomputable def cx : Cx := ⟨30, tys, eqts, sigs, call, hint, join, k, needV 0 sig.ps, needB 0 sig.ps⟩
abbrev RT := Option (TupT sig.outs)
abbrev fin : St → RT := finish tys sig rv
theorem m_eq (a) : run (cx call k) sig rv body a = m (call 64) (call 65) (call 66) a := by kernel_rfl
end impl_IndexPlan
namespace impl_planOf
noncomputable def cx : Cx := ⟨12, tys, eqts, sigs, call, hint, join, k, needV 0 sig.ps, needB 0 sig.ps⟩
abbrev RT := Option (TupT sig.outs)
abbrev fin : St → RT := finish tys sig rv
theorem m_eq (a) : run (cx call k) sig rv body a = m (call 32) (call 33) a := by kernel_rfl
end impl_planOf
namespace impl_clamp
noncomputable def cx : Cx := ⟨12, tys, eqts, sigs, call, hint, join, k, needV 0 sig.ps, needB 0 sig.ps⟩
abbrev RT := Option (TupT sig.outs)
abbrev fin : St → RT := finish tys sig rv
theorem m_eq (a) : run (cx call k) sig rv body a = m  a := by kernel_rfl
end impl_clamp
namespace impl_bytesOf
noncomputable def cx : Cx := ⟨11, tys, eqts, sigs, call, hint, join, k, needV 0 sig.ps, needB 0 sig.ps⟩
abbrev RT := Option (TupT sig.outs)
abbrev fin : St → RT := finish tys sig rv
theorem s0_eq (L0 : LS → RT) (a) : stp (cx call k) body [1, 1, 0, 0] [] fin (ll0 a) L0 = s0 (fun a => L0 (ll0 a)) a := by kernel_rfl
theorem m_eq (a) : run (cx call k) sig rv body a = m (fun a => loopK (stp (cx call k) body [1, 1, 0, 0] [] fin) k (ll0 a)) a := by kernel_rfl
end impl_bytesOf
namespace impl_addBytes
noncomputable def cx : Cx := ⟨27, tys, eqts, sigs, call, hint, join, k, needV 0 sig.ps, needB 0 sig.ps⟩
abbrev RT := Option (TupT sig.outs)
abbrev fin : St → RT := finish tys sig rv
theorem s0_eq (L0 : LS → RT) (a) : stp (cx call k) body [1, 0, 1, 0] [] fin (ll0 a) L0 = s0 (fun a => L0 (ll0 a)) a := by kernel_rfl
theorem m_eq (a) : run (cx call k) sig rv body a = m (fun a => loopK (stp (cx call k) body [1, 0, 1, 0] [] fin) k (ll0 a)) a := by kernel_rfl
end impl_addBytes
namespace impl_addVar
noncomputable def cx : Cx := ⟨35, tys, eqts, sigs, call, hint, join, k, needV 0 sig.ps, needB 0 sig.ps⟩
abbrev RT := Option (TupT sig.outs)
abbrev fin : St → RT := finish tys sig rv
theorem m_eq (a) : run (cx call k) sig rv body a = m (call 127) (call 128) (call 129) a := by kernel_rfl
end impl_addVar
namespace impl_addFix
noncomputable def cx : Cx := ⟨10, tys, eqts, sigs, call, hint, join, k, needV 0 sig.ps, needB 0 sig.ps⟩
abbrev RT := Option (TupT sig.outs)
abbrev fin : St → RT := finish tys sig rv
theorem m_eq (a) : run (cx call k) sig rv body a = m (call 127) (call 129) a := by kernel_rfl
end impl_addFix
namespace impl_addEsc
noncomputable def cx : Cx := ⟨28, tys, eqts, sigs, call, hint, join, k, needV 0 sig.ps, needB 0 sig.ps⟩
abbrev RT := Option (TupT sig.outs)
abbrev fin : St → RT := finish tys sig rv
theorem s0_eq (L0 : LS → RT) (a) : stp (cx call k) body [1, 0, 1, 0] [] fin (ll0 a) L0 = s0 (fun a => L0 (ll0 a)) a := by kernel_rfl
theorem m_eq (a) : run (cx call k) sig rv body a = m (fun a => loopK (stp (cx call k) body [1, 0, 1, 0] [] fin) k (ll0 a)) a := by kernel_rfl
end impl_addEsc
namespace impl_copyBytes
noncomputable def cx : Cx := ⟨5, tys, eqts, sigs, call, hint, join, k, needV 0 sig.ps, needB 0 sig.ps⟩
abbrev RT := Option (TupT sig.outs)
abbrev fin : St → RT := finish tys sig rv
theorem m_eq (a) : run (cx call k) sig rv body a = m  a := by kernel_rfl
end impl_copyBytes
namespace impl_Flip
noncomputable def cx : Cx := ⟨26, tys, eqts, sigs, call, hint, join, k, needV 0 sig.ps, needB 0 sig.ps⟩
abbrev RT := Option (TupT sig.outs)
abbrev fin : St → RT := finish tys sig rv
theorem s0_eq (L0 : LS → RT) (a) : stp (cx call k) body [1, 1, 0, 1, 0] [] fin (ll0 a) L0 = s0 (fun a => L0 (ll0 a)) a := by kernel_rfl
theorem m_eq (a) : run (cx call k) sig rv body a = m (call 156) (fun a => loopK (stp (cx call k) body [1, 1, 0, 1, 0] [] fin) k (ll0 a)) a := by kernel_rfl
end impl_Flip
namespace impl_addPart
noncomputable def cx : Cx := ⟨69, tys, eqts, sigs, call, hint, join, k, needV 0 sig.ps, needB 0 sig.ps⟩
abbrev RT := Option (TupT sig.outs)
abbrev fin : St → RT := finish tys sig rv
theorem m_eq (a) : run (cx call k) sig rv body a = m (call 87) (call 115) (call 116) (call 145) (call 146) (call 147) a := by kernel_rfl
end impl_addPart
namespace impl_EncodeKey
noncomputable def cx : Cx := ⟨33, tys, eqts, sigs, call, hint, join, k, needV 0 sig.ps, needB 0 sig.ps⟩
abbrev RT := Option (TupT sig.outs)
abbrev fin : St → RT := finish tys sig rv
theorem s0_eq (L0 : LS → RT) (a) : stp (cx call k) body [1, 1, 1, 0, 1, 0] [] fin (ll0 a) L0 = s0 (call 117) (fun a => L0 (ll0 a)) a := by kernel_rfl
theorem m_eq (a) : run (cx call k) sig rv body a = m (call 73) (call 74) (fun a => loopK (stp (cx call k) body [1, 1, 1, 0, 1, 0] [] fin) k (ll0 a)) a := by kernel_rfl
end impl_EncodeKey
namespace impl_keyOf
noncomputable def cx : Cx := ⟨26, tys, eqts, sigs, call, hint, join, k, needV 0 sig.ps, needB 0 sig.ps⟩
abbrev RT := Option (TupT sig.outs)
abbrev fin : St → RT := finish tys sig rv
theorem m_eq (a) : run (cx call k) sig rv body a = m (call 14) (call 31) (call 75) (call 76) a := by kernel_rfl
end impl_keyOf
namespace impl_KeyOf
noncomputable def cx : Cx := ⟨29, tys, eqts, sigs, call, hint, join, k, needV 0 sig.ps, needB 0 sig.ps⟩
abbrev RT := Option (TupT sig.outs)
abbrev fin : St → RT := finish tys sig rv
theorem m_eq (a) : run (cx call k) sig rv body a = m (call 41) (call 42) (call 43) (call 44) a := by kernel_rfl
end impl_KeyOf
namespace spec_l1In
noncomputable def cx : Cx := ⟨15, tys, eqts, sigs, call, hint, join, k, needV 0 sig.ps, needB 0 sig.ps⟩
abbrev RT := Option (TupT sig.outs)
abbrev fin : St → RT := finish tys sig rv
theorem m_eq (a) : run (cx call k) sig rv body a = m  a := by kernel_rfl
end spec_l1In
namespace spec_l8Small
noncomputable def cx : Cx := ⟨6, tys, eqts, sigs, call, hint, join, k, needV 0 sig.ps, needB 0 sig.ps⟩
abbrev RT := Option (TupT sig.outs)
abbrev fin : St → RT := finish tys sig rv
theorem m_eq (a) : run (cx call k) sig rv body a = m (call 78) a := by kernel_rfl
end spec_l8Small
namespace spec_l2Digit
noncomputable def cx : Cx := ⟨6, tys, eqts, sigs, call, hint, join, k, needV 0 sig.ps, needB 0 sig.ps⟩
abbrev RT := Option (TupT sig.outs)
abbrev fin : St → RT := finish tys sig rv
theorem m_eq (a) : run (cx call k) sig rv body a = m (call 78) a := by kernel_rfl
end spec_l2Digit
namespace spec_l8Name
noncomputable def cx : Cx := ⟨29, tys, eqts, sigs, call, hint, join, k, needV 0 sig.ps, needB 0 sig.ps⟩
abbrev RT := Option (TupT sig.outs)
abbrev fin : St → RT := finish tys sig rv
theorem s0_eq (L0 : LS → RT) (a) : stp (cx call k) body [1, 0, 1, 0] [] fin (ll0 a) L0 = s0 (call 78) (call 164) (call 165) (fun a => L0 (ll0 a)) a := by kernel_rfl
theorem m_eq (a) : run (cx call k) sig rv body a = m (fun a => loopK (stp (cx call k) body [1, 0, 1, 0] [] fin) k (ll0 a)) a := by kernel_rfl
end spec_l8Name
namespace spec_l9Has
noncomputable def cx : Cx := ⟨18, tys, eqts, sigs, call, hint, join, k, needV 0 sig.ps, needB 0 sig.ps⟩
abbrev RT := Option (TupT sig.outs)
abbrev fin : St → RT := finish tys sig rv
theorem s0_eq (L0 : LS → RT) (a) : stp (cx call k) body [1, 0, 1, 0] [] fin (ll0 a) L0 = s0 (fun a => L0 (ll0 a)) a := by kernel_rfl
theorem m_eq (a) : run (cx call k) sig rv body a = m (fun a => loopK (stp (cx call k) body [1, 0, 1, 0] [] fin) k (ll0 a)) a := by kernel_rfl
end spec_l9Has
namespace spec_l9Word
noncomputable def cx : Cx := ⟨11, tys, eqts, sigs, call, hint, join, k, needV 0 sig.ps, needB 0 sig.ps⟩
abbrev RT := Option (TupT sig.outs)
abbrev fin : St → RT := finish tys sig rv
theorem m_eq (a) : run (cx call k) sig rv body a = m (call 157) (call 158) a := by kernel_rfl
end spec_l9Word
namespace spec_l9Names
noncomputable def cx : Cx := ⟨38, tys, eqts, sigs, call, hint, join, k, needV 0 sig.ps, needB 0 sig.ps⟩
abbrev RT := Option (TupT sig.outs)
abbrev fin : St → RT := finish tys sig rv
theorem s0_eq (L0 : LS → RT) (a) : stp (cx call k) body [1, 0, 1, 0] [] fin (ll0 a) L0 = s0 (call 149) (fun a => loopK (stp (cx call k) body [1, 1, 0, 1, 0] [] fin) k (ll2 a)) (fun a => L0 (ll0 a)) a := by kernel_rfl
theorem s2_eq (L2 : LS → RT) (a) : stp (cx call k) body [1, 1, 0, 1, 0] [] fin (ll2 a) L2 = s2 (call 149) (fun a => L2 (ll2 a)) a := by kernel_rfl
theorem m_eq (a) : run (cx call k) sig rv body a = m (fun a => loopK (stp (cx call k) body [1, 0, 1, 0] [] fin) k (ll0 a)) a := by kernel_rfl
end spec_l9Names
namespace spec_l9Types
noncomputable def cx : Cx := ⟨23, tys, eqts, sigs, call, hint, join, k, needV 0 sig.ps, needB 0 sig.ps⟩
abbrev RT := Option (TupT sig.outs)
abbrev fin : St → RT := finish tys sig rv
theorem s0_eq (L0 : LS → RT) (a) : stp (cx call k) body [1, 0, 1, 0] [] fin (ll0 a) L0 = s0 (call 78) (fun a => L0 (ll0 a)) a := by kernel_rfl
theorem m_eq (a) : run (cx call k) sig rv body a = m (fun a => loopK (stp (cx call k) body [1, 0, 1, 0] [] fin) k (ll0 a)) a := by kernel_rfl
end spec_l9Types
namespace spec_l9Col
noncomputable def cx : Cx := ⟨22, tys, eqts, sigs, call, hint, join, k, needV 0 sig.ps, needB 0 sig.ps⟩
abbrev RT := Option (TupT sig.outs)
abbrev fin : St → RT := finish tys sig rv
theorem s0_eq (L0 : LS → RT) (a) : stp (cx call k) body [1, 0, 1, 0] [] fin (ll0 a) L0 = s0 (fun a => L0 (ll0 a)) a := by kernel_rfl
theorem m_eq (a) : run (cx call k) sig rv body a = m (fun a => loopK (stp (cx call k) body [1, 0, 1, 0] [] fin) k (ll0 a)) a := by kernel_rfl
end spec_l9Col
namespace spec_l9Once
noncomputable def cx : Cx := ⟨48, tys, eqts, sigs, call, hint, join, k, needV 0 sig.ps, needB 0 sig.ps⟩
abbrev RT := Option (TupT sig.outs)
abbrev fin : St → RT := finish tys sig rv
theorem s0_eq (L0 : LS → RT) (a) : stp (cx call k) body [1, 0, 1, 0] [] fin (ll0 a) L0 = s0 (call 150) (fun a => loopK (stp (cx call k) body [1, 1, 0, 1, 0] [] fin) k (ll2 a)) (fun a => L0 (ll0 a)) a := by kernel_rfl
theorem s2_eq (L2 : LS → RT) (a) : stp (cx call k) body [1, 1, 0, 1, 0] [] fin (ll2 a) L2 = s2 (fun a => loopK (stp (cx call k) body [1, 1, 0, 1, 0, 0, 1, 0, 0, 1, 0] [L2] fin) k (ll4 a)) (fun a => L2 (ll2 a)) a := by kernel_rfl
theorem s4_eq (L2 L4 : LS → RT) (a) : stp (cx call k) body [1, 1, 0, 1, 0, 0, 1, 0, 0, 1, 0] [L2] fin (ll4 a) L4 = s4 (fun a => L2 (ll2 a)) (fun a => L4 (ll4 a)) a := by kernel_rfl
theorem m_eq (a) : run (cx call k) sig rv body a = m (fun a => loopK (stp (cx call k) body [1, 0, 1, 0] [] fin) k (ll0 a)) a := by kernel_rfl
end spec_l9Once
namespace spec_l9Parts
noncomputable def cx : Cx := ⟨42, tys, eqts, sigs, call, hint, join, k, needV 0 sig.ps, needB 0 sig.ps⟩
abbrev RT := Option (TupT sig.outs)
abbrev fin : St → RT := finish tys sig rv
theorem s0_eq (L0 : LS → RT) (a) : stp (cx call k) body [1, 0, 1, 0] [] fin (ll0 a) L0 = s0 (call 78) (fun a => L0 (ll0 a)) a := by kernel_rfl
theorem m_eq (a) : run (cx call k) sig rv body a = m (fun a => loopK (stp (cx call k) body [1, 0, 1, 0] [] fin) k (ll0 a)) a := by kernel_rfl
end spec_l9Parts
namespace spec_l9AllParts
noncomputable def cx : Cx := ⟨24, tys, eqts, sigs, call, hint, join, k, needV 0 sig.ps, needB 0 sig.ps⟩
abbrev RT := Option (TupT sig.outs)
abbrev fin : St → RT := finish tys sig rv
theorem s0_eq (L0 : LS → RT) (a) : stp (cx call k) body [1, 0, 1, 0] [] fin (ll0 a) L0 = s0 (call 151) (fun a => L0 (ll0 a)) a := by kernel_rfl
theorem m_eq (a) : run (cx call k) sig rv body a = m (fun a => loopK (stp (cx call k) body [1, 0, 1, 0] [] fin) k (ll0 a)) a := by kernel_rfl
end spec_l9AllParts
namespace spec_CheckDef
noncomputable def cx : Cx := ⟨43, tys, eqts, sigs, call, hint, join, k, needV 0 sig.ps, needB 0 sig.ps⟩
abbrev RT := Option (TupT sig.outs)
abbrev fin : St → RT := finish tys sig rv
theorem s1_eq (L1 : LS → RT) (a) : stp (cx call k) body [1, 1, 0, 1, 0] [] fin (ll1 a) L1 = s1 (fun a => L1 (ll1 a)) a := by kernel_rfl
theorem m_eq (a) : run (cx call k) sig rv body a = m (call 120) (call 121) (call 122) (call 123) (fun a => loopK (stp (cx call k) body [1, 1, 0, 1, 0] [] fin) k (ll1 a)) a := by kernel_rfl
end spec_CheckDef
namespace spec_FirstBad
noncomputable def cx : Cx := ⟨39, tys, eqts, sigs, call, hint, join, k, needV 0 sig.ps, needB 0 sig.ps⟩
abbrev RT := Option (TupT sig.outs)
abbrev fin : St → RT := finish tys sig rv
theorem s0_eq (L0 : LS → RT) (a) : stp (cx call k) body [1, 0, 1, 0] [] fin (ll0 a) L0 = s0 (call 81) (fun a => loopK (stp (cx call k) body [1, 0, 1, 0, 0, 1, 0, 0, 1, 1, 0] [L0] fin) k (ll2 a)) (fun a => L0 (ll0 a)) a := by kernel_rfl
theorem s2_eq (L0 L2 : LS → RT) (a) : stp (cx call k) body [1, 0, 1, 0, 0, 1, 0, 0, 1, 1, 0] [L0] fin (ll2 a) L2 = s2 (fun a => L0 (ll0 a)) (fun a => L2 (ll2 a)) a := by kernel_rfl
theorem m_eq (a) : run (cx call k) sig rv body a = m (fun a => loopK (stp (cx call k) body [1, 0, 1, 0] [] fin) k (ll0 a)) a := by kernel_rfl
end spec_FirstBad
namespace spec_l11There
noncomputable def cx : Cx := ⟨28, tys, eqts, sigs, call, hint, join, k, needV 0 sig.ps, needB 0 sig.ps⟩
abbrev RT := Option (TupT sig.outs)
abbrev fin : St → RT := finish tys sig rv
theorem m_eq (a) : run (cx call k) sig rv body a = m (call 77) (call 78) a := by kernel_rfl
end spec_l11There
namespace spec_PartOk
noncomputable def cx : Cx := ⟨11, tys, eqts, sigs, call, hint, join, k, needV 0 sig.ps, needB 0 sig.ps⟩
abbrev RT := Option (TupT sig.outs)
abbrev fin : St → RT := finish tys sig rv
theorem m_eq (a) : run (cx call k) sig rv body a = m (call 78) a := by kernel_rfl
end spec_PartOk
namespace spec_PlanOk
noncomputable def cx : Cx := ⟨19, tys, eqts, sigs, call, hint, join, k, needV 0 sig.ps, needB 0 sig.ps⟩
abbrev RT := Option (TupT sig.outs)
abbrev fin : St → RT := finish tys sig rv
theorem s0_eq (L0 : LS → RT) (a) : stp (cx call k) body [1, 0, 1, 0] [] fin (ll0 a) L0 = s0 (call 118) (fun a => L0 (ll0 a)) a := by kernel_rfl
theorem m_eq (a) : run (cx call k) sig rv body a = m (fun a => loopK (stp (cx call k) body [1, 0, 1, 0] [] fin) k (ll0 a)) a := by kernel_rfl
end spec_PlanOk
namespace spec_ValOk
noncomputable def cx : Cx := ⟨56, tys, eqts, sigs, call, hint, join, k, needV 0 sig.ps, needB 0 sig.ps⟩
abbrev RT := Option (TupT sig.outs)
abbrev fin : St → RT := finish tys sig rv
theorem m_eq (a) : run (cx call k) sig rv body a = m (call 78) a := by kernel_rfl
end spec_ValOk
namespace spec_Fits
noncomputable def cx : Cx := ⟨28, tys, eqts, sigs, call, hint, join, k, needV 0 sig.ps, needB 0 sig.ps⟩
abbrev RT := Option (TupT sig.outs)
abbrev fin : St → RT := finish tys sig rv
theorem m_eq (a) : run (cx call k) sig rv body a = m (call 148) a := by kernel_rfl
end spec_Fits
namespace spec_FitsAll
noncomputable def cx : Cx := ⟨27, tys, eqts, sigs, call, hint, join, k, needV 0 sig.ps, needB 0 sig.ps⟩
abbrev RT := Option (TupT sig.outs)
abbrev fin : St → RT := finish tys sig rv
theorem s0_eq (L0 : LS → RT) (a) : stp (cx call k) body [1, 1, 0, 1, 0] [] fin (ll0 a) L0 = s0 (call 119) (fun a => L0 (ll0 a)) a := by kernel_rfl
theorem m_eq (a) : run (cx call k) sig rv body a = m (fun a => loopK (stp (cx call k) body [1, 1, 0, 1, 0] [] fin) k (ll0 a)) a := by kernel_rfl
end spec_FitsAll
namespace spec_RowOk
noncomputable def cx : Cx := ⟨19, tys, eqts, sigs, call, hint, join, k, needV 0 sig.ps, needB 0 sig.ps⟩
abbrev RT := Option (TupT sig.outs)
abbrev fin : St → RT := finish tys sig rv
theorem m_eq (a) : run (cx call k) sig rv body a = m (call 79) (call 80) a := by kernel_rfl
end spec_RowOk
namespace spec_l11Part
noncomputable def cx : Cx := ⟨22, tys, eqts, sigs, call, hint, join, k, needV 0 sig.ps, needB 0 sig.ps⟩
abbrev RT := Option (TupT sig.outs)
abbrev fin : St → RT := finish tys sig rv
theorem m_eq (a) : run (cx call k) sig rv body a = m  a := by kernel_rfl
end spec_l11Part
namespace spec_RowPlan
noncomputable def cx : Cx := ⟨25, tys, eqts, sigs, call, hint, join, k, needV 0 sig.ps, needB 0 sig.ps⟩
abbrev RT := Option (TupT sig.outs)
abbrev fin : St → RT := finish tys sig rv
theorem s0_eq (L0 : LS → RT) (a) : stp (cx call k) body [1, 1, 0, 1, 0] [] fin (ll0 a) L0 = s0 (call 81) (call 82) (fun a => L0 (ll0 a)) a := by kernel_rfl
theorem m_eq (a) : run (cx call k) sig rv body a = m (fun a => loopK (stp (cx call k) body [1, 1, 0, 1, 0] [] fin) k (ll0 a)) a := by kernel_rfl
end spec_RowPlan
namespace spec_HeadOf
noncomputable def cx : Cx := ⟨20, tys, eqts, sigs, call, hint, join, k, needV 0 sig.ps, needB 0 sig.ps⟩
abbrev RT := Option (TupT sig.outs)
abbrev fin : St → RT := finish tys sig rv
theorem m_eq (a) : run (cx call k) sig rv body a = m (call 45) a := by kernel_rfl
end spec_HeadOf
namespace spec_l11Parts
noncomputable def cx : Cx := ⟨30, tys, eqts, sigs, call, hint, join, k, needV 0 sig.ps, needB 0 sig.ps⟩
abbrev RT := Option (TupT sig.outs)
abbrev fin : St → RT := finish tys sig rv
theorem s0_eq (L0 : LS → RT) (a) : stp (cx call k) body [1, 1, 0, 1, 0] [] fin (ll0 a) L0 = s0 (call 82) (fun a => L0 (ll0 a)) a := by kernel_rfl
theorem m_eq (a) : run (cx call k) sig rv body a = m (fun a => loopK (stp (cx call k) body [1, 1, 0, 1, 0] [] fin) k (ll0 a)) a := by kernel_rfl
end spec_l11Parts
namespace spec_PrimaryPlan
noncomputable def cx : Cx := ⟨11, tys, eqts, sigs, call, hint, join, k, needV 0 sig.ps, needB 0 sig.ps⟩
abbrev RT := Option (TupT sig.outs)
abbrev fin : St → RT := finish tys sig rv
theorem m_eq (a) : run (cx call k) sig rv body a = m (call 81) (call 152) a := by kernel_rfl
end spec_PrimaryPlan
namespace spec_IndexPlan
noncomputable def cx : Cx := ⟨31, tys, eqts, sigs, call, hint, join, k, needV 0 sig.ps, needB 0 sig.ps⟩
abbrev RT := Option (TupT sig.outs)
abbrev fin : St → RT := finish tys sig rv
theorem m_eq (a) : run (cx call k) sig rv body a = m (call 78) (call 81) (call 152) a := by kernel_rfl
end spec_IndexPlan
namespace spec_l11Plan
noncomputable def cx : Cx := ⟨12, tys, eqts, sigs, call, hint, join, k, needV 0 sig.ps, needB 0 sig.ps⟩
abbrev RT := Option (TupT sig.outs)
abbrev fin : St → RT := finish tys sig rv
theorem m_eq (a) : run (cx call k) sig rv body a = m (call 124) (call 125) a := by kernel_rfl
end spec_l11Plan
namespace spec_Flip
noncomputable def cx : Cx := ⟨28, tys, eqts, sigs, call, hint, join, k, needV 0 sig.ps, needB 0 sig.ps⟩
abbrev RT := Option (TupT sig.outs)
abbrev fin : St → RT := finish tys sig rv
theorem s0_eq (L0 : LS → RT) (a) : stp (cx call k) body [1, 1, 0, 1, 0] [] fin (ll0 a) L0 = s0 (fun a => L0 (ll0 a)) a := by kernel_rfl
theorem m_eq (a) : run (cx call k) sig rv body a = m (fun a => loopK (stp (cx call k) body [1, 1, 0, 1, 0] [] fin) k (ll0 a)) a := by kernel_rfl
end spec_Flip
namespace spec_l4Bytes
noncomputable def cx : Cx := ⟨15, tys, eqts, sigs, call, hint, join, k, needV 0 sig.ps, needB 0 sig.ps⟩
abbrev RT := Option (TupT sig.outs)
abbrev fin : St → RT := finish tys sig rv
theorem s0_eq (L0 : LS → RT) (a) : stp (cx call k) body [1, 1, 0, 0] [] fin (ll0 a) L0 = s0 (fun a => L0 (ll0 a)) a := by kernel_rfl
theorem m_eq (a) : run (cx call k) sig rv body a = m (fun a => loopK (stp (cx call k) body [1, 1, 0, 0] [] fin) k (ll0 a)) a := by kernel_rfl
end spec_l4Bytes
namespace spec_PutVar
noncomputable def cx : Cx := ⟨41, tys, eqts, sigs, call, hint, join, k, needV 0 sig.ps, needB 0 sig.ps⟩
abbrev RT := Option (TupT sig.outs)
abbrev fin : St → RT := finish tys sig rv
theorem m_eq (a) : run (cx call k) sig rv body a = m (call 131) (call 132) a := by kernel_rfl
end spec_PutVar
namespace spec_PutFix
noncomputable def cx : Cx := ⟨27, tys, eqts, sigs, call, hint, join, k, needV 0 sig.ps, needB 0 sig.ps⟩
abbrev RT := Option (TupT sig.outs)
abbrev fin : St → RT := finish tys sig rv
theorem m_eq (a) : run (cx call k) sig rv body a = m  a := by kernel_rfl
end spec_PutFix
namespace spec_PutEsc
noncomputable def cx : Cx := ⟨32, tys, eqts, sigs, call, hint, join, k, needV 0 sig.ps, needB 0 sig.ps⟩
abbrev RT := Option (TupT sig.outs)
abbrev fin : St → RT := finish tys sig rv
theorem s0_eq (L0 : LS → RT) (a) : stp (cx call k) body [1, 1, 0, 1, 0] [] fin (ll0 a) L0 = s0 (fun a => L0 (ll0 a)) a := by kernel_rfl
theorem m_eq (a) : run (cx call k) sig rv body a = m (fun a => loopK (stp (cx call k) body [1, 1, 0, 1, 0] [] fin) k (ll0 a)) a := by kernel_rfl
end spec_PutEsc
namespace spec_l5Value
noncomputable def cx : Cx := ⟨33, tys, eqts, sigs, call, hint, join, k, needV 0 sig.ps, needB 0 sig.ps⟩
abbrev RT := Option (TupT sig.outs)
abbrev fin : St → RT := finish tys sig rv
theorem m_eq (a) : run (cx call k) sig rv body a = m (call 91) (call 159) (call 160) a := by kernel_rfl
end spec_l5Value
namespace spec_PutPart
noncomputable def cx : Cx := ⟨42, tys, eqts, sigs, call, hint, join, k, needV 0 sig.ps, needB 0 sig.ps⟩
abbrev RT := Option (TupT sig.outs)
abbrev fin : St → RT := finish tys sig rv
theorem m_eq (a) : run (cx call k) sig rv body a = m (call 118) (call 119) (call 132) (call 153) a := by kernel_rfl
end spec_PutPart
namespace spec_EncodeKey
noncomputable def cx : Cx := ⟨35, tys, eqts, sigs, call, hint, join, k, needV 0 sig.ps, needB 0 sig.ps⟩
abbrev RT := Option (TupT sig.outs)
abbrev fin : St → RT := finish tys sig rv
theorem s0_eq (L0 : LS → RT) (a) : stp (cx call k) body [1, 1, 1, 0, 1, 0] [] fin (ll0 a) L0 = s0 (call 126) (fun a => L0 (ll0 a)) a := by kernel_rfl
theorem m_eq (a) : run (cx call k) sig rv body a = m (call 79) (call 80) (fun a => loopK (stp (cx call k) body [1, 1, 1, 0, 1, 0] [] fin) k (ll0 a)) a := by kernel_rfl
end spec_EncodeKey
namespace spec_Pick
noncomputable def cx : Cx := ⟨38, tys, eqts, sigs, call, hint, join, k, needV 0 sig.ps, needB 0 sig.ps⟩
abbrev RT := Option (TupT sig.outs)
abbrev fin : St → RT := finish tys sig rv
theorem s0_eq (L0 : LS → RT) (a) : stp (cx call k) body [1, 1, 0, 1, 0] [] fin (ll0 a) L0 = s0 (call 78) (fun a => L0 (ll0 a)) a := by kernel_rfl
theorem m_eq (a) : run (cx call k) sig rv body a = m (fun a => loopK (stp (cx call k) body [1, 1, 0, 1, 0] [] fin) k (ll0 a)) a := by kernel_rfl
end spec_Pick
namespace spec_l11Key
noncomputable def cx : Cx := ⟨26, tys, eqts, sigs, call, hint, join, k, needV 0 sig.ps, needB 0 sig.ps⟩
abbrev RT := Option (TupT sig.outs)
abbrev fin : St → RT := finish tys sig rv
theorem m_eq (a) : run (cx call k) sig rv body a = m (call 15) (call 83) (call 84) (call 85) a := by kernel_rfl
end spec_l11Key
namespace impl_addU
noncomputable def cx : Cx := ⟨23, tys, eqts, sigs, call, hint, join, k, needV 0 sig.ps, needB 0 sig.ps⟩
abbrev RT := Option (TupT sig.outs)
abbrev fin : St → RT := finish tys sig rv
theorem s0_eq (L0 : LS → RT) (a) : stp (cx call k) body [1, 1, 0, 0] [] fin (ll0 a) L0 = s0 (fun a => L0 (ll0 a)) a := by kernel_rfl
theorem m_eq (a) : run (cx call k) sig rv body a = m (call 127) (fun a => loopK (stp (cx call k) body [1, 1, 0, 0] [] fin) k (ll0 a)) a := by kernel_rfl
end impl_addU
namespace impl_addText
noncomputable def cx : Cx := ⟨11, tys, eqts, sigs, call, hint, join, k, needV 0 sig.ps, needB 0 sig.ps⟩
abbrev RT := Option (TupT sig.outs)
abbrev fin : St → RT := finish tys sig rv
theorem m_eq (a) : run (cx call k) sig rv body a = m (call 86) a := by kernel_rfl
end impl_addText
namespace impl_Crc
noncomputable def cx : Cx := ⟨32, tys, eqts, sigs, call, hint, join, k, needV 0 sig.ps, needB 0 sig.ps⟩
abbrev RT := Option (TupT sig.outs)
abbrev fin : St → RT := finish tys sig rv
theorem s0_eq (L0 : LS → RT) (a) : stp (cx call k) body [1, 1, 0, 1, 0] [] fin (ll0 a) L0 = s0 (fun a => loopK (stp (cx call k) body [1, 1, 0, 1, 0, 0, 1, 1, 0, 0, 1, 1, 1, 0] [L0] fin) k (ll2 a)) (fun a => L0 (ll0 a)) a := by kernel_rfl
theorem s2_eq (L0 L2 : LS → RT) (a) : stp (cx call k) body [1, 1, 0, 1, 0, 0, 1, 1, 0, 0, 1, 1, 1, 0] [L0] fin (ll2 a) L2 = s2 (fun a => L0 (ll0 a)) (fun a => L2 (ll2 a)) a := by kernel_rfl
theorem m_eq (a) : run (cx call k) sig rv body a = m (fun a => loopK (stp (cx call k) body [1, 1, 0, 1, 0] [] fin) k (ll0 a)) a := by kernel_rfl
end impl_Crc
namespace impl_addSum
noncomputable def cx : Cx := ⟨20, tys, eqts, sigs, call, hint, join, k, needV 0 sig.ps, needB 0 sig.ps⟩
abbrev RT := Option (TupT sig.outs)
abbrev fin : St → RT := finish tys sig rv
theorem m_eq (a) : run (cx call k) sig rv body a = m (call 130) a := by kernel_rfl
end impl_addSum
namespace impl_EncodeRow
noncomputable def cx : Cx := ⟨51, tys, eqts, sigs, call, hint, join, k, needV 0 sig.ps, needB 0 sig.ps⟩
abbrev RT := Option (TupT sig.outs)
abbrev fin : St → RT := finish tys sig rv
theorem s0_eq (L0 : LS → RT) (a) : stp (cx call k) body [1, 1, 1, 0, 1, 0] [] fin (ll0 a) L0 = s0 (call 86) (call 87) (call 88) (call 89) (fun a => L0 (ll0 a)) a := by kernel_rfl
theorem m_eq (a) : run (cx call k) sig rv body a = m (call 42) (call 86) (fun a => loopK (stp (cx call k) body [1, 1, 1, 0, 1, 0] [] fin) k (ll0 a)) a := by kernel_rfl
end impl_EncodeRow
namespace impl_LongKey
noncomputable def cx : Cx := ⟨38, tys, eqts, sigs, call, hint, join, k, needV 0 sig.ps, needB 0 sig.ps⟩
abbrev RT := Option (TupT sig.outs)
abbrev fin : St → RT := finish tys sig rv
theorem s0_eq (L0 : LS → RT) (a) : stp (cx call k) body [1, 1, 0, 1, 0] [] fin (ll0 a) L0 = s0 (call 12) (call 43) (call 49) (fun a => L0 (ll0 a)) a := by kernel_rfl
theorem m_eq (a) : run (cx call k) sig rv body a = m (call 41) (fun a => loopK (stp (cx call k) body [1, 1, 0, 1, 0] [] fin) k (ll0 a)) a := by kernel_rfl
end impl_LongKey
namespace spec_PutU
noncomputable def cx : Cx := ⟨29, tys, eqts, sigs, call, hint, join, k, needV 0 sig.ps, needB 0 sig.ps⟩
abbrev RT := Option (TupT sig.outs)
abbrev fin : St → RT := finish tys sig rv
theorem s0_eq (L0 : LS → RT) (a) : stp (cx call k) body [1, 1, 1, 1, 0, 0] [] fin (ll0 a) L0 = s0 (fun a => L0 (ll0 a)) a := by kernel_rfl
theorem m_eq (a) : run (cx call k) sig rv body a = m (fun a => loopK (stp (cx call k) body [1, 1, 1, 1, 0, 0] [] fin) k (ll0 a)) a := by kernel_rfl
end spec_PutU
namespace spec_PutText
noncomputable def cx : Cx := ⟨11, tys, eqts, sigs, call, hint, join, k, needV 0 sig.ps, needB 0 sig.ps⟩
abbrev RT := Option (TupT sig.outs)
abbrev fin : St → RT := finish tys sig rv
theorem m_eq (a) : run (cx call k) sig rv body a = m (call 90) a := by kernel_rfl
end spec_PutText
namespace spec_Crc
noncomputable def cx : Cx := ⟨34, tys, eqts, sigs, call, hint, join, k, needV 0 sig.ps, needB 0 sig.ps⟩
abbrev RT := Option (TupT sig.outs)
abbrev fin : St → RT := finish tys sig rv
theorem s0_eq (L0 : LS → RT) (a) : stp (cx call k) body [1, 1, 0, 1, 0] [] fin (ll0 a) L0 = s0 (fun a => loopK (stp (cx call k) body [1, 1, 0, 1, 0, 0, 1, 0, 0, 1, 1, 0] [L0] fin) k (ll2 a)) (fun a => L0 (ll0 a)) a := by kernel_rfl
theorem s2_eq (L0 L2 : LS → RT) (a) : stp (cx call k) body [1, 1, 0, 1, 0, 0, 1, 0, 0, 1, 1, 0] [L0] fin (ll2 a) L2 = s2 (fun a => L0 (ll0 a)) (fun a => L2 (ll2 a)) a := by kernel_rfl
theorem m_eq (a) : run (cx call k) sig rv body a = m (fun a => loopK (stp (cx call k) body [1, 1, 0, 1, 0] [] fin) k (ll0 a)) a := by kernel_rfl
end spec_Crc
namespace spec_PutSum
noncomputable def cx : Cx := ⟨22, tys, eqts, sigs, call, hint, join, k, needV 0 sig.ps, needB 0 sig.ps⟩
abbrev RT := Option (TupT sig.outs)
abbrev fin : St → RT := finish tys sig rv
theorem m_eq (a) : run (cx call k) sig rv body a = m (call 133) a := by kernel_rfl
end spec_PutSum
namespace spec_EncodeRow
noncomputable def cx : Cx := ⟨56, tys, eqts, sigs, call, hint, join, k, needV 0 sig.ps, needB 0 sig.ps⟩
abbrev RT := Option (TupT sig.outs)
abbrev fin : St → RT := finish tys sig rv
theorem s0_eq (L0 : LS → RT) (a) : stp (cx call k) body [1, 1, 1, 0, 1, 0] [] fin (ll0 a) L0 = s0 (call 90) (call 91) (call 92) (call 93) (fun a => L0 (ll0 a)) a := by kernel_rfl
theorem m_eq (a) : run (cx call k) sig rv body a = m (call 46) (call 90) (fun a => loopK (stp (cx call k) body [1, 1, 1, 0, 1, 0] [] fin) k (ll0 a)) a := by kernel_rfl
end spec_EncodeRow
namespace spec_LongKey
noncomputable def cx : Cx := ⟨48, tys, eqts, sigs, call, hint, join, k, needV 0 sig.ps, needB 0 sig.ps⟩
abbrev RT := Option (TupT sig.outs)
abbrev fin : St → RT := finish tys sig rv
theorem s0_eq (L0 : LS → RT) (a) : stp (cx call k) body [1, 1, 0, 1, 0] [] fin (ll0 a) L0 = s0 (call 47) (call 48) (call 50) (fun a => L0 (ll0 a)) a := by kernel_rfl
theorem m_eq (a) : run (cx call k) sig rv body a = m (call 45) (call 46) (call 47) (fun a => loopK (stp (cx call k) body [1, 1, 0, 1, 0] [] fin) k (ll0 a)) a := by kernel_rfl
end spec_LongKey
namespace spec_DrawRows
noncomputable def cx : Cx := ⟨31, tys, eqts, sigs, call, hint, join, k, needV 0 sig.ps, needB 0 sig.ps⟩
abbrev RT := Option (TupT sig.outs)
abbrev fin : St → RT := finish tys sig rv
theorem m_eq (a) : run (cx call k) sig rv body a = m (call 37) (call 61) (call 62) (call 63) a := by kernel_rfl
end spec_DrawRows
namespace impl_SameRow
noncomputable def cx : Cx := ⟨26, tys, eqts, sigs, call, hint, join, k, needV 0 sig.ps, needB 0 sig.ps⟩
abbrev RT := Option (TupT sig.outs)
abbrev fin : St → RT := finish tys sig rv
theorem s0_eq (L0 : LS → RT) (a) : stp (cx call k) body [1, 1, 0, 1, 0] [] fin (ll0 a) L0 = s0 (fun a => L0 (ll0 a)) a := by kernel_rfl
theorem m_eq (a) : run (cx call k) sig rv body a = m (fun a => loopK (stp (cx call k) body [1, 1, 0, 1, 0] [] fin) k (ll0 a)) a := by kernel_rfl
end impl_SameRow
namespace laws_begins
noncomputable def cx : Cx := ⟨18, tys, eqts, sigs, call, hint, join, k, needV 0 sig.ps, needB 0 sig.ps⟩
abbrev RT := Option (TupT sig.outs)
abbrev fin : St → RT := finish tys sig rv
theorem m_eq (a) : run (cx call k) sig rv body a = m (call 11) a := by kernel_rfl
end laws_begins
namespace impl_Before
noncomputable def cx : Cx := ⟨10, tys, eqts, sigs, call, hint, join, k, needV 0 sig.ps, needB 0 sig.ps⟩
abbrev RT := Option (TupT sig.outs)
abbrev fin : St → RT := finish tys sig rv
theorem m_eq (a) : run (cx call k) sig rv body a = m  a := by kernel_rfl
end impl_Before
namespace impl_LessVal
noncomputable def cx : Cx := ⟨32, tys, eqts, sigs, call, hint, join, k, needV 0 sig.ps, needB 0 sig.ps⟩
abbrev RT := Option (TupT sig.outs)
abbrev fin : St → RT := finish tys sig rv
theorem m_eq (a) : run (cx call k) sig rv body a = m  a := by kernel_rfl
end impl_LessVal
namespace impl_LessPart
noncomputable def cx : Cx := ⟨15, tys, eqts, sigs, call, hint, join, k, needV 0 sig.ps, needB 0 sig.ps⟩
abbrev RT := Option (TupT sig.outs)
abbrev fin : St → RT := finish tys sig rv
theorem m_eq (a) : run (cx call k) sig rv body a = m (call 109) a := by kernel_rfl
end impl_LessPart
namespace impl_LessKey
noncomputable def cx : Cx := ⟨53, tys, eqts, sigs, call, hint, join, k, needV 0 sig.ps, needB 0 sig.ps⟩
abbrev RT := Option (TupT sig.outs)
abbrev fin : St → RT := finish tys sig rv
theorem s0_eq (L0 : LS → RT) (a) : stp (cx call k) body [1, 0, 1, 0] [] fin (ll0 a) L0 = s0 (call 67) (fun a => L0 (ll0 a)) a := by kernel_rfl
theorem m_eq (a) : run (cx call k) sig rv body a = m (fun a => loopK (stp (cx call k) body [1, 0, 1, 0] [] fin) k (ll0 a)) a := by kernel_rfl
end impl_LessKey
namespace laws_FnRowKeys
noncomputable def cx : Cx := ⟨132, tys, eqts, sigs, call, hint, join, k, needV 0 sig.ps, needB 0 sig.ps⟩
abbrev RT := Option (TupT sig.outs)
abbrev fin : St → RT := finish tys sig rv
theorem s0_eq (L0 : LS → RT) (a) : stp (cx call k) body [1, 1, 1, 1, 0, 1, 0] [] fin (ll0 a) L0 = s0 (call 11) (call 12) (call 14) (call 16) (call 17) (call 31) (call 32) (call 33) (call 34) (call 35) (call 36) (fun a => L0 (ll0 a)) a := by kernel_rfl
theorem m_eq (a) : run (cx call k) sig rv body a = m (call 7) (call 29) (call 30) (call 31) (call 32) (fun a => loopK (stp (cx call k) body [1, 1, 1, 1, 0, 1, 0] [] fin) k (ll0 a)) a := by kernel_rfl
end laws_FnRowKeys
end
end Go.PV.T
