/- Functions of the program by their own lists and numbers. No condition beyond those in each statement. -/
import Derived.Test.YthadcmcdbcfjaaaDoorPvHOx0
set_option linter.unusedVariables false
set_option linter.unusedSimpArgs false
set_option maxRecDepth 100000
set_option linter.unusedVariables false
namespace Go.PV.T
open Go.Proofs
noncomputable section
variable (call : (f : Nat) → TupT (sigs f).ins → Option (TupT (sigs f).outs)) (k : Nat)
namespace laws_szCol
noncomputable def cx : Cx := ⟨13, tys, eqts, sigs, call, hint, join, k, needV 0 sig.ps, needB 0 sig.ps⟩
abbrev RT := Option (TupT sig.outs)
abbrev fin : St → RT := finish tys sig rv
theorem m_eq (a) : run (cx call k) sig rv body a = m  a := by kernel_rfl
end laws_szCol
namespace laws_szColS
noncomputable def cx : Cx := ⟨27, tys, eqts, sigs, call, hint, join, k, needV 0 sig.ps, needB 0 sig.ps⟩
abbrev RT := Option (TupT sig.outs)
abbrev fin : St → RT := finish tys sig rv
theorem s0_eq (L0 : LS → RT) (a) : stp (cx call k) body [1, 1, 1, 0, 1, 0] [] fin (ll0 a) L0 = s0 (call 35) (fun a => L0 (ll0 a)) a := by kernel_rfl
theorem m_eq (a) : run (cx call k) sig rv body a = m (fun a => loopK (stp (cx call k) body [1, 1, 1, 0, 1, 0] [] fin) k (ll0 a)) a := by kernel_rfl
end laws_szColS
namespace laws_szByS
noncomputable def cx : Cx := ⟨12, tys, eqts, sigs, call, hint, join, k, needV 0 sig.ps, needB 0 sig.ps⟩
abbrev RT := Option (TupT sig.outs)
abbrev fin : St → RT := finish tys sig rv
theorem m_eq (a) : run (cx call k) sig rv body a = m  a := by kernel_rfl
end laws_szByS
namespace laws_szIndex
noncomputable def cx : Cx := ⟨19, tys, eqts, sigs, call, hint, join, k, needV 0 sig.ps, needB 0 sig.ps⟩
abbrev RT := Option (TupT sig.outs)
abbrev fin : St → RT := finish tys sig rv
theorem m_eq (a) : run (cx call k) sig rv body a = m (call 23) a := by kernel_rfl
end laws_szIndex
namespace laws_szIndexS
noncomputable def cx : Cx := ⟨27, tys, eqts, sigs, call, hint, join, k, needV 0 sig.ps, needB 0 sig.ps⟩
abbrev RT := Option (TupT sig.outs)
abbrev fin : St → RT := finish tys sig rv
theorem s0_eq (L0 : LS → RT) (a) : stp (cx call k) body [1, 1, 1, 0, 1, 0] [] fin (ll0 a) L0 = s0 (call 36) (fun a => L0 (ll0 a)) a := by kernel_rfl
theorem m_eq (a) : run (cx call k) sig rv body a = m (fun a => loopK (stp (cx call k) body [1, 1, 1, 0, 1, 0] [] fin) k (ll0 a)) a := by kernel_rfl
end laws_szIndexS
namespace laws_szDef
noncomputable def cx : Cx := ⟨31, tys, eqts, sigs, call, hint, join, k, needV 0 sig.ps, needB 0 sig.ps⟩
abbrev RT := Option (TupT sig.outs)
abbrev fin : St → RT := finish tys sig rv
theorem m_eq (a) : run (cx call k) sig rv body a = m (call 22) (call 23) (call 24) a := by kernel_rfl
end laws_szDef
namespace laws_szDefS
noncomputable def cx : Cx := ⟨27, tys, eqts, sigs, call, hint, join, k, needV 0 sig.ps, needB 0 sig.ps⟩
abbrev RT := Option (TupT sig.outs)
abbrev fin : St → RT := finish tys sig rv
theorem s0_eq (L0 : LS → RT) (a) : stp (cx call k) body [1, 1, 1, 0, 1, 0] [] fin (ll0 a) L0 = s0 (call 13) (fun a => L0 (ll0 a)) a := by kernel_rfl
theorem m_eq (a) : run (cx call k) sig rv body a = m (fun a => loopK (stp (cx call k) body [1, 1, 1, 0, 1, 0] [] fin) k (ll0 a)) a := by kernel_rfl
end laws_szDefS
namespace spec_l1In
noncomputable def cx : Cx := ⟨15, tys, eqts, sigs, call, hint, join, k, needV 0 sig.ps, needB 0 sig.ps⟩
abbrev RT := Option (TupT sig.outs)
abbrev fin : St → RT := finish tys sig rv
theorem m_eq (a) : run (cx call k) sig rv body a = m  a := by kernel_rfl
end spec_l1In
namespace spec_l8Small
noncomputable def cx : Cx := ⟨6, tys, eqts, sigs, call, hint, join, k, needV 0 sig.ps, needB 0 sig.ps⟩
abbrev RT := Option (TupT sig.outs)
abbrev fin : St → RT := finish tys sig rv
theorem m_eq (a) : run (cx call k) sig rv body a = m (call 26) a := by kernel_rfl
end spec_l8Small
namespace spec_l2Digit
noncomputable def cx : Cx := ⟨6, tys, eqts, sigs, call, hint, join, k, needV 0 sig.ps, needB 0 sig.ps⟩
abbrev RT := Option (TupT sig.outs)
abbrev fin : St → RT := finish tys sig rv
theorem m_eq (a) : run (cx call k) sig rv body a = m (call 26) a := by kernel_rfl
end spec_l2Digit
namespace spec_l8Name
noncomputable def cx : Cx := ⟨29, tys, eqts, sigs, call, hint, join, k, needV 0 sig.ps, needB 0 sig.ps⟩
abbrev RT := Option (TupT sig.outs)
abbrev fin : St → RT := finish tys sig rv
theorem s0_eq (L0 : LS → RT) (a) : stp (cx call k) body [1, 0, 1, 0] [] fin (ll0 a) L0 = s0 (call 26) (call 60) (call 61) (fun a => L0 (ll0 a)) a := by kernel_rfl
theorem m_eq (a) : run (cx call k) sig rv body a = m (fun a => loopK (stp (cx call k) body [1, 0, 1, 0] [] fin) k (ll0 a)) a := by kernel_rfl
end spec_l8Name
namespace spec_l9Has
noncomputable def cx : Cx := ⟨18, tys, eqts, sigs, call, hint, join, k, needV 0 sig.ps, needB 0 sig.ps⟩
abbrev RT := Option (TupT sig.outs)
abbrev fin : St → RT := finish tys sig rv
theorem s0_eq (L0 : LS → RT) (a) : stp (cx call k) body [1, 0, 1, 0] [] fin (ll0 a) L0 = s0 (fun a => L0 (ll0 a)) a := by kernel_rfl
theorem m_eq (a) : run (cx call k) sig rv body a = m (fun a => loopK (stp (cx call k) body [1, 0, 1, 0] [] fin) k (ll0 a)) a := by kernel_rfl
end spec_l9Has
namespace spec_l9Word
noncomputable def cx : Cx := ⟨11, tys, eqts, sigs, call, hint, join, k, needV 0 sig.ps, needB 0 sig.ps⟩
abbrev RT := Option (TupT sig.outs)
abbrev fin : St → RT := finish tys sig rv
theorem m_eq (a) : run (cx call k) sig rv body a = m (call 56) (call 57) a := by kernel_rfl
end spec_l9Word
namespace spec_l9Names
noncomputable def cx : Cx := ⟨38, tys, eqts, sigs, call, hint, join, k, needV 0 sig.ps, needB 0 sig.ps⟩
abbrev RT := Option (TupT sig.outs)
abbrev fin : St → RT := finish tys sig rv
theorem s0_eq (L0 : LS → RT) (a) : stp (cx call k) body [1, 0, 1, 0] [] fin (ll0 a) L0 = s0 (call 52) (fun a => loopK (stp (cx call k) body [1, 1, 0, 1, 0] [] fin) k (ll2 a)) (fun a => L0 (ll0 a)) a := by kernel_rfl
theorem s2_eq (L2 : LS → RT) (a) : stp (cx call k) body [1, 1, 0, 1, 0] [] fin (ll2 a) L2 = s2 (call 52) (fun a => L2 (ll2 a)) a := by kernel_rfl
theorem m_eq (a) : run (cx call k) sig rv body a = m (fun a => loopK (stp (cx call k) body [1, 0, 1, 0] [] fin) k (ll0 a)) a := by kernel_rfl
end spec_l9Names
namespace spec_l9Types
noncomputable def cx : Cx := ⟨23, tys, eqts, sigs, call, hint, join, k, needV 0 sig.ps, needB 0 sig.ps⟩
abbrev RT := Option (TupT sig.outs)
abbrev fin : St → RT := finish tys sig rv
theorem s0_eq (L0 : LS → RT) (a) : stp (cx call k) body [1, 0, 1, 0] [] fin (ll0 a) L0 = s0 (call 26) (fun a => L0 (ll0 a)) a := by kernel_rfl
theorem m_eq (a) : run (cx call k) sig rv body a = m (fun a => loopK (stp (cx call k) body [1, 0, 1, 0] [] fin) k (ll0 a)) a := by kernel_rfl
end spec_l9Types
namespace spec_l9Col
noncomputable def cx : Cx := ⟨22, tys, eqts, sigs, call, hint, join, k, needV 0 sig.ps, needB 0 sig.ps⟩
abbrev RT := Option (TupT sig.outs)
abbrev fin : St → RT := finish tys sig rv
theorem s0_eq (L0 : LS → RT) (a) : stp (cx call k) body [1, 0, 1, 0] [] fin (ll0 a) L0 = s0 (fun a => L0 (ll0 a)) a := by kernel_rfl
theorem m_eq (a) : run (cx call k) sig rv body a = m (fun a => loopK (stp (cx call k) body [1, 0, 1, 0] [] fin) k (ll0 a)) a := by kernel_rfl
end spec_l9Col
namespace spec_l9Once
noncomputable def cx : Cx := ⟨48, tys, eqts, sigs, call, hint, join, k, needV 0 sig.ps, needB 0 sig.ps⟩
abbrev RT := Option (TupT sig.outs)
abbrev fin : St → RT := finish tys sig rv
theorem s0_eq (L0 : LS → RT) (a) : stp (cx call k) body [1, 0, 1, 0] [] fin (ll0 a) L0 = s0 (call 53) (fun a => loopK (stp (cx call k) body [1, 1, 0, 1, 0] [] fin) k (ll2 a)) (fun a => L0 (ll0 a)) a := by kernel_rfl
theorem s2_eq (L2 : LS → RT) (a) : stp (cx call k) body [1, 1, 0, 1, 0] [] fin (ll2 a) L2 = s2 (fun a => loopK (stp (cx call k) body [1, 1, 0, 1, 0, 0, 1, 0, 0, 1, 0] [L2] fin) k (ll4 a)) (fun a => L2 (ll2 a)) a := by kernel_rfl
theorem s4_eq (L2 L4 : LS → RT) (a) : stp (cx call k) body [1, 1, 0, 1, 0, 0, 1, 0, 0, 1, 0] [L2] fin (ll4 a) L4 = s4 (fun a => L2 (ll2 a)) (fun a => L4 (ll4 a)) a := by kernel_rfl
theorem m_eq (a) : run (cx call k) sig rv body a = m (fun a => loopK (stp (cx call k) body [1, 0, 1, 0] [] fin) k (ll0 a)) a := by kernel_rfl
end spec_l9Once
namespace spec_l9Parts
noncomputable def cx : Cx := ⟨42, tys, eqts, sigs, call, hint, join, k, needV 0 sig.ps, needB 0 sig.ps⟩
abbrev RT := Option (TupT sig.outs)
abbrev fin : St → RT := finish tys sig rv
theorem s0_eq (L0 : LS → RT) (a) : stp (cx call k) body [1, 0, 1, 0] [] fin (ll0 a) L0 = s0 (call 26) (fun a => L0 (ll0 a)) a := by kernel_rfl
theorem m_eq (a) : run (cx call k) sig rv body a = m (fun a => loopK (stp (cx call k) body [1, 0, 1, 0] [] fin) k (ll0 a)) a := by kernel_rfl
end spec_l9Parts
namespace spec_l9AllParts
noncomputable def cx : Cx := ⟨24, tys, eqts, sigs, call, hint, join, k, needV 0 sig.ps, needB 0 sig.ps⟩
abbrev RT := Option (TupT sig.outs)
abbrev fin : St → RT := finish tys sig rv
theorem s0_eq (L0 : LS → RT) (a) : stp (cx call k) body [1, 0, 1, 0] [] fin (ll0 a) L0 = s0 (call 54) (fun a => L0 (ll0 a)) a := by kernel_rfl
theorem m_eq (a) : run (cx call k) sig rv body a = m (fun a => loopK (stp (cx call k) body [1, 0, 1, 0] [] fin) k (ll0 a)) a := by kernel_rfl
end spec_l9AllParts
namespace spec_CheckDef
noncomputable def cx : Cx := ⟨43, tys, eqts, sigs, call, hint, join, k, needV 0 sig.ps, needB 0 sig.ps⟩
abbrev RT := Option (TupT sig.outs)
abbrev fin : St → RT := finish tys sig rv
theorem s1_eq (L1 : LS → RT) (a) : stp (cx call k) body [1, 1, 0, 1, 0] [] fin (ll1 a) L1 = s1 (fun a => L1 (ll1 a)) a := by kernel_rfl
theorem m_eq (a) : run (cx call k) sig rv body a = m (call 45) (call 46) (call 47) (call 48) (fun a => loopK (stp (cx call k) body [1, 1, 0, 1, 0] [] fin) k (ll1 a)) a := by kernel_rfl
end spec_CheckDef
namespace spec_FirstBad
noncomputable def cx : Cx := ⟨39, tys, eqts, sigs, call, hint, join, k, needV 0 sig.ps, needB 0 sig.ps⟩
abbrev RT := Option (TupT sig.outs)
abbrev fin : St → RT := finish tys sig rv
theorem s0_eq (L0 : LS → RT) (a) : stp (cx call k) body [1, 0, 1, 0] [] fin (ll0 a) L0 = s0 (call 37) (fun a => loopK (stp (cx call k) body [1, 0, 1, 0, 0, 1, 0, 0, 1, 1, 0] [L0] fin) k (ll2 a)) (fun a => L0 (ll0 a)) a := by kernel_rfl
theorem s2_eq (L0 L2 : LS → RT) (a) : stp (cx call k) body [1, 0, 1, 0, 0, 1, 0, 0, 1, 1, 0] [L0] fin (ll2 a) L2 = s2 (fun a => L0 (ll0 a)) (fun a => L2 (ll2 a)) a := by kernel_rfl
theorem m_eq (a) : run (cx call k) sig rv body a = m (fun a => loopK (stp (cx call k) body [1, 0, 1, 0] [] fin) k (ll0 a)) a := by kernel_rfl
end spec_FirstBad
namespace spec_l11There
noncomputable def cx : Cx := ⟨28, tys, eqts, sigs, call, hint, join, k, needV 0 sig.ps, needB 0 sig.ps⟩
abbrev RT := Option (TupT sig.outs)
abbrev fin : St → RT := finish tys sig rv
theorem m_eq (a) : run (cx call k) sig rv body a = m (call 25) (call 26) a := by kernel_rfl
end spec_l11There
namespace spec_HeadOf
noncomputable def cx : Cx := ⟨20, tys, eqts, sigs, call, hint, join, k, needV 0 sig.ps, needB 0 sig.ps⟩
abbrev RT := Option (TupT sig.outs)
abbrev fin : St → RT := finish tys sig rv
theorem m_eq (a) : run (cx call k) sig rv body a = m (call 14) a := by kernel_rfl
end spec_HeadOf
namespace laws_toCol
noncomputable def cx : Cx := ⟨14, tys, eqts, sigs, call, hint, join, k, needV 0 sig.ps, needB 0 sig.ps⟩
abbrev RT := Option (TupT sig.outs)
abbrev fin : St → RT := finish tys sig rv
theorem m_eq (a) : run (cx call k) sig rv body a = m  a := by kernel_rfl
end laws_toCol
namespace laws_toColS
noncomputable def cx : Cx := ⟨23, tys, eqts, sigs, call, hint, join, k, needV 0 sig.ps, needB 0 sig.ps⟩
abbrev RT := Option (TupT sig.outs)
abbrev fin : St → RT := finish tys sig rv
theorem s0_eq (L0 : LS → RT) (a) : stp (cx call k) body [1, 1, 0, 1, 0] [] fin (ll0 a) L0 = s0 (call 38) (fun a => L0 (ll0 a)) a := by kernel_rfl
theorem m_eq (a) : run (cx call k) sig rv body a = m (fun a => loopK (stp (cx call k) body [1, 1, 0, 1, 0] [] fin) k (ll0 a)) a := by kernel_rfl
end laws_toColS
namespace laws_toBy
noncomputable def cx : Cx := ⟨11, tys, eqts, sigs, call, hint, join, k, needV 0 sig.ps, needB 0 sig.ps⟩
abbrev RT := Option (TupT sig.outs)
abbrev fin : St → RT := finish tys sig rv
theorem m_eq (a) : run (cx call k) sig rv body a = m  a := by kernel_rfl
end laws_toBy
namespace laws_toByS
noncomputable def cx : Cx := ⟨23, tys, eqts, sigs, call, hint, join, k, needV 0 sig.ps, needB 0 sig.ps⟩
abbrev RT := Option (TupT sig.outs)
abbrev fin : St → RT := finish tys sig rv
theorem s0_eq (L0 : LS → RT) (a) : stp (cx call k) body [1, 1, 0, 1, 0] [] fin (ll0 a) L0 = s0 (call 39) (fun a => L0 (ll0 a)) a := by kernel_rfl
theorem m_eq (a) : run (cx call k) sig rv body a = m (fun a => loopK (stp (cx call k) body [1, 1, 0, 1, 0] [] fin) k (ll0 a)) a := by kernel_rfl
end laws_toByS
namespace laws_toIndex
noncomputable def cx : Cx := ⟨15, tys, eqts, sigs, call, hint, join, k, needV 0 sig.ps, needB 0 sig.ps⟩
abbrev RT := Option (TupT sig.outs)
abbrev fin : St → RT := finish tys sig rv
theorem m_eq (a) : run (cx call k) sig rv body a = m (call 28) a := by kernel_rfl
end laws_toIndex
namespace laws_toIndexS
noncomputable def cx : Cx := ⟨23, tys, eqts, sigs, call, hint, join, k, needV 0 sig.ps, needB 0 sig.ps⟩
abbrev RT := Option (TupT sig.outs)
abbrev fin : St → RT := finish tys sig rv
theorem s0_eq (L0 : LS → RT) (a) : stp (cx call k) body [1, 1, 0, 1, 0] [] fin (ll0 a) L0 = s0 (call 40) (fun a => L0 (ll0 a)) a := by kernel_rfl
theorem m_eq (a) : run (cx call k) sig rv body a = m (fun a => loopK (stp (cx call k) body [1, 1, 0, 1, 0] [] fin) k (ll0 a)) a := by kernel_rfl
end laws_toIndexS
namespace laws_toDef
noncomputable def cx : Cx := ⟨20, tys, eqts, sigs, call, hint, join, k, needV 0 sig.ps, needB 0 sig.ps⟩
abbrev RT := Option (TupT sig.outs)
abbrev fin : St → RT := finish tys sig rv
theorem m_eq (a) : run (cx call k) sig rv body a = m (call 27) (call 28) (call 29) a := by kernel_rfl
end laws_toDef
namespace laws_toDefS
noncomputable def cx : Cx := ⟨23, tys, eqts, sigs, call, hint, join, k, needV 0 sig.ps, needB 0 sig.ps⟩
abbrev RT := Option (TupT sig.outs)
abbrev fin : St → RT := finish tys sig rv
theorem s0_eq (L0 : LS → RT) (a) : stp (cx call k) body [1, 1, 0, 1, 0] [] fin (ll0 a) L0 = s0 (call 15) (fun a => L0 (ll0 a)) a := by kernel_rfl
theorem m_eq (a) : run (cx call k) sig rv body a = m (fun a => loopK (stp (cx call k) body [1, 1, 0, 1, 0] [] fin) k (ll0 a)) a := by kernel_rfl
end laws_toDefS
namespace impl_in
noncomputable def cx : Cx := ⟨15, tys, eqts, sigs, call, hint, join, k, needV 0 sig.ps, needB 0 sig.ps⟩
abbrev RT := Option (TupT sig.outs)
abbrev fin : St → RT := finish tys sig rv
theorem m_eq (a) : run (cx call k) sig rv body a = m  a := by kernel_rfl
end impl_in
namespace impl_isLetter
noncomputable def cx : Cx := ⟨9, tys, eqts, sigs, call, hint, join, k, needV 0 sig.ps, needB 0 sig.ps⟩
abbrev RT := Option (TupT sig.outs)
abbrev fin : St → RT := finish tys sig rv
theorem m_eq (a) : run (cx call k) sig rv body a = m  a := by kernel_rfl
end impl_isLetter
namespace impl_isDigit
noncomputable def cx : Cx := ⟨9, tys, eqts, sigs, call, hint, join, k, needV 0 sig.ps, needB 0 sig.ps⟩
abbrev RT := Option (TupT sig.outs)
abbrev fin : St → RT := finish tys sig rv
theorem m_eq (a) : run (cx call k) sig rv body a = m  a := by kernel_rfl
end impl_isDigit
namespace impl_nameOk
noncomputable def cx : Cx := ⟨29, tys, eqts, sigs, call, hint, join, k, needV 0 sig.ps, needB 0 sig.ps⟩
abbrev RT := Option (TupT sig.outs)
abbrev fin : St → RT := finish tys sig rv
theorem s0_eq (L0 : LS → RT) (a) : stp (cx call k) body [1, 0, 1, 0] [] fin (ll0 a) L0 = s0 (call 31) (call 63) (call 64) (fun a => L0 (ll0 a)) a := by kernel_rfl
theorem m_eq (a) : run (cx call k) sig rv body a = m (fun a => loopK (stp (cx call k) body [1, 0, 1, 0] [] fin) k (ll0 a)) a := by kernel_rfl
end impl_nameOk
namespace impl_isFree
noncomputable def cx : Cx := ⟨17, tys, eqts, sigs, call, hint, join, k, needV 0 sig.ps, needB 0 sig.ps⟩
abbrev RT := Option (TupT sig.outs)
abbrev fin : St → RT := finish tys sig rv
theorem s0_eq (L0 : LS → RT) (a) : stp (cx call k) body [1, 0, 1, 0] [] fin (ll0 a) L0 = s0 (call 59) (fun a => L0 (ll0 a)) a := by kernel_rfl
theorem m_eq (a) : run (cx call k) sig rv body a = m (call 58) (fun a => loopK (stp (cx call k) body [1, 0, 1, 0] [] fin) k (ll0 a)) a := by kernel_rfl
end impl_isFree
namespace impl_namesOk
noncomputable def cx : Cx := ⟨34, tys, eqts, sigs, call, hint, join, k, needV 0 sig.ps, needB 0 sig.ps⟩
abbrev RT := Option (TupT sig.outs)
abbrev fin : St → RT := finish tys sig rv
theorem s0_eq (L0 : LS → RT) (a) : stp (cx call k) body [1, 0, 1, 0] [] fin (ll0 a) L0 = s0 (call 55) (fun a => loopK (stp (cx call k) body [1, 1, 0, 1, 0] [] fin) k (ll2 a)) (fun a => L0 (ll0 a)) a := by kernel_rfl
theorem s2_eq (L2 : LS → RT) (a) : stp (cx call k) body [1, 1, 0, 1, 0] [] fin (ll2 a) L2 = s2 (call 55) (fun a => L2 (ll2 a)) a := by kernel_rfl
theorem m_eq (a) : run (cx call k) sig rv body a = m (fun a => loopK (stp (cx call k) body [1, 0, 1, 0] [] fin) k (ll0 a)) a := by kernel_rfl
end impl_namesOk
namespace impl_twice
noncomputable def cx : Cx := ⟨59, tys, eqts, sigs, call, hint, join, k, needV 0 sig.ps, needB 0 sig.ps⟩
abbrev RT := Option (TupT sig.outs)
abbrev fin : St → RT := finish tys sig rv
theorem s0_eq (L0 : LS → RT) (a) : stp (cx call k) body [1, 0, 1, 0] [] fin (ll0 a) L0 = s0 (fun a => loopK (stp (cx call k) body [1, 0, 1, 0, 0, 1, 1, 0, 0, 1, 1, 0] [L0] fin) k (ll2 a)) (fun a => loopK (stp (cx call k) body [1, 1, 0, 1, 0] [] fin) k (ll4 a)) (fun a => L0 (ll0 a)) a := by kernel_rfl
theorem s2_eq (L0 L2 : LS → RT) (a) : stp (cx call k) body [1, 0, 1, 0, 0, 1, 1, 0, 0, 1, 1, 0] [L0] fin (ll2 a) L2 = s2 (fun a => L0 (ll0 a)) (fun a => L2 (ll2 a)) a := by kernel_rfl
theorem s4_eq (L4 : LS → RT) (a) : stp (cx call k) body [1, 1, 0, 1, 0] [] fin (ll4 a) L4 = s4 (fun a => loopK (stp (cx call k) body [1, 1, 0, 1, 0, 0, 1, 1, 0, 0, 1, 1, 0] [L4] fin) k (ll6 a)) (fun a => L4 (ll4 a)) a := by kernel_rfl
theorem s6_eq (L4 L6 : LS → RT) (a) : stp (cx call k) body [1, 1, 0, 1, 0, 0, 1, 1, 0, 0, 1, 1, 0] [L4] fin (ll6 a) L6 = s6 (fun a => L4 (ll4 a)) (fun a => L6 (ll6 a)) a := by kernel_rfl
theorem m_eq (a) : run (cx call k) sig rv body a = m (fun a => loopK (stp (cx call k) body [1, 0, 1, 0] [] fin) k (ll0 a)) a := by kernel_rfl
end impl_twice
namespace impl_partsOk
noncomputable def cx : Cx := ⟨42, tys, eqts, sigs, call, hint, join, k, needV 0 sig.ps, needB 0 sig.ps⟩
abbrev RT := Option (TupT sig.outs)
abbrev fin : St → RT := finish tys sig rv
theorem s0_eq (L0 : LS → RT) (a) : stp (cx call k) body [1, 0, 1, 0] [] fin (ll0 a) L0 = s0 (call 31) (fun a => loopK (stp (cx call k) body [1, 0, 1, 0, 0, 1, 1, 0, 0, 1, 1, 1, 0] [L0] fin) k (ll2 a)) (fun a => L0 (ll0 a)) a := by kernel_rfl
theorem s2_eq (L0 L2 : LS → RT) (a) : stp (cx call k) body [1, 0, 1, 0, 0, 1, 1, 0, 0, 1, 1, 1, 0] [L0] fin (ll2 a) L2 = s2 (fun a => L0 (ll0 a)) (fun a => L2 (ll2 a)) a := by kernel_rfl
theorem m_eq (a) : run (cx call k) sig rv body a = m (fun a => loopK (stp (cx call k) body [1, 0, 1, 0] [] fin) k (ll0 a)) a := by kernel_rfl
end impl_partsOk
namespace impl_CheckDef
noncomputable def cx : Cx := ⟨68, tys, eqts, sigs, call, hint, join, k, needV 0 sig.ps, needB 0 sig.ps⟩
abbrev RT := Option (TupT sig.outs)
abbrev fin : St → RT := finish tys sig rv
theorem s0_eq (L0 : LS → RT) (a) : stp (cx call k) body [1, 1, 1, 0, 1, 0] [] fin (ll0 a) L0 = s0 (call 31) (call 50) (fun a => loopK (stp (cx call k) body [1, 1, 1, 1, 1, 1, 0, 1, 0] [] fin) k (ll2 a)) (fun a => L0 (ll0 a)) a := by kernel_rfl
theorem s2_eq (L2 : LS → RT) (a) : stp (cx call k) body [1, 1, 1, 1, 1, 1, 0, 1, 0] [] fin (ll2 a) L2 = s2 (call 51) (fun a => loopK (stp (cx call k) body [1, 1, 1, 1, 1, 1, 1, 1, 0, 1, 0] [] fin) k (ll4 a)) (fun a => L2 (ll2 a)) a := by kernel_rfl
theorem s4_eq (L4 : LS → RT) (a) : stp (cx call k) body [1, 1, 1, 1, 1, 1, 1, 1, 0, 1, 0] [] fin (ll4 a) L4 = s4 (fun a => L4 (ll4 a)) a := by kernel_rfl
theorem m_eq (a) : run (cx call k) sig rv body a = m (call 31) (call 49) (fun a => loopK (stp (cx call k) body [1, 1, 1, 0, 1, 0] [] fin) k (ll0 a)) a := by kernel_rfl
end impl_CheckDef
namespace impl_FirstBad
noncomputable def cx : Cx := ⟨38, tys, eqts, sigs, call, hint, join, k, needV 0 sig.ps, needB 0 sig.ps⟩
abbrev RT := Option (TupT sig.outs)
abbrev fin : St → RT := finish tys sig rv
theorem s0_eq (L0 : LS → RT) (a) : stp (cx call k) body [1, 0, 1, 0] [] fin (ll0 a) L0 = s0 (call 41) (fun a => loopK (stp (cx call k) body [1, 0, 1, 0, 0, 1, 1, 0, 0, 1, 1, 1, 0] [L0] fin) k (ll2 a)) (fun a => L0 (ll0 a)) a := by kernel_rfl
theorem s2_eq (L0 L2 : LS → RT) (a) : stp (cx call k) body [1, 0, 1, 0, 0, 1, 1, 0, 0, 1, 1, 1, 0] [L0] fin (ll2 a) L2 = s2 (fun a => L0 (ll0 a)) (fun a => L2 (ll2 a)) a := by kernel_rfl
theorem m_eq (a) : run (cx call k) sig rv body a = m (fun a => loopK (stp (cx call k) body [1, 0, 1, 0] [] fin) k (ll0 a)) a := by kernel_rfl
end impl_FirstBad
namespace impl_hasIndex
noncomputable def cx : Cx := ⟨28, tys, eqts, sigs, call, hint, join, k, needV 0 sig.ps, needB 0 sig.ps⟩
abbrev RT := Option (TupT sig.outs)
abbrev fin : St → RT := finish tys sig rv
theorem m_eq (a) : run (cx call k) sig rv body a = m (call 30) (call 31) a := by kernel_rfl
end impl_hasIndex
namespace impl_HeadOf
noncomputable def cx : Cx := ⟨19, tys, eqts, sigs, call, hint, join, k, needV 0 sig.ps, needB 0 sig.ps⟩
abbrev RT := Option (TupT sig.outs)
abbrev fin : St → RT := finish tys sig rv
theorem m_eq (a) : run (cx call k) sig rv body a = m (call 16) a := by kernel_rfl
end impl_HeadOf
namespace laws_eqByteS
noncomputable def cx : Cx := ⟨26, tys, eqts, sigs, call, hint, join, k, needV 0 sig.ps, needB 0 sig.ps⟩
abbrev RT := Option (TupT sig.outs)
abbrev fin : St → RT := finish tys sig rv
theorem s0_eq (L0 : LS → RT) (a) : stp (cx call k) body [1, 1, 0, 1, 0] [] fin (ll0 a) L0 = s0 (fun a => L0 (ll0 a)) a := by kernel_rfl
theorem m_eq (a) : run (cx call k) sig rv body a = m (fun a => loopK (stp (cx call k) body [1, 1, 0, 1, 0] [] fin) k (ll0 a)) a := by kernel_rfl
end laws_eqByteS
namespace laws_eqCol
noncomputable def cx : Cx := ⟨20, tys, eqts, sigs, call, hint, join, k, needV 0 sig.ps, needB 0 sig.ps⟩
abbrev RT := Option (TupT sig.outs)
abbrev fin : St → RT := finish tys sig rv
theorem m_eq (a) : run (cx call k) sig rv body a = m  a := by kernel_rfl
end laws_eqCol
namespace laws_eqColS
noncomputable def cx : Cx := ⟨27, tys, eqts, sigs, call, hint, join, k, needV 0 sig.ps, needB 0 sig.ps⟩
abbrev RT := Option (TupT sig.outs)
abbrev fin : St → RT := finish tys sig rv
theorem s0_eq (L0 : LS → RT) (a) : stp (cx call k) body [1, 1, 0, 1, 0] [] fin (ll0 a) L0 = s0 (call 42) (fun a => L0 (ll0 a)) a := by kernel_rfl
theorem m_eq (a) : run (cx call k) sig rv body a = m (fun a => loopK (stp (cx call k) body [1, 1, 0, 1, 0] [] fin) k (ll0 a)) a := by kernel_rfl
end laws_eqColS
namespace laws_eqBy
noncomputable def cx : Cx := ⟨15, tys, eqts, sigs, call, hint, join, k, needV 0 sig.ps, needB 0 sig.ps⟩
abbrev RT := Option (TupT sig.outs)
abbrev fin : St → RT := finish tys sig rv
theorem m_eq (a) : run (cx call k) sig rv body a = m  a := by kernel_rfl
end laws_eqBy
namespace laws_eqByS
noncomputable def cx : Cx := ⟨27, tys, eqts, sigs, call, hint, join, k, needV 0 sig.ps, needB 0 sig.ps⟩
abbrev RT := Option (TupT sig.outs)
abbrev fin : St → RT := finish tys sig rv
theorem s0_eq (L0 : LS → RT) (a) : stp (cx call k) body [1, 1, 0, 1, 0] [] fin (ll0 a) L0 = s0 (call 43) (fun a => L0 (ll0 a)) a := by kernel_rfl
theorem m_eq (a) : run (cx call k) sig rv body a = m (fun a => loopK (stp (cx call k) body [1, 1, 0, 1, 0] [] fin) k (ll0 a)) a := by kernel_rfl
end laws_eqByS
namespace laws_eqIndex
noncomputable def cx : Cx := ⟨21, tys, eqts, sigs, call, hint, join, k, needV 0 sig.ps, needB 0 sig.ps⟩
abbrev RT := Option (TupT sig.outs)
abbrev fin : St → RT := finish tys sig rv
theorem m_eq (a) : run (cx call k) sig rv body a = m (call 33) a := by kernel_rfl
end laws_eqIndex
namespace laws_eqIndexS
noncomputable def cx : Cx := ⟨27, tys, eqts, sigs, call, hint, join, k, needV 0 sig.ps, needB 0 sig.ps⟩
abbrev RT := Option (TupT sig.outs)
abbrev fin : St → RT := finish tys sig rv
theorem s0_eq (L0 : LS → RT) (a) : stp (cx call k) body [1, 1, 0, 1, 0] [] fin (ll0 a) L0 = s0 (call 44) (fun a => L0 (ll0 a)) a := by kernel_rfl
theorem m_eq (a) : run (cx call k) sig rv body a = m (fun a => loopK (stp (cx call k) body [1, 1, 0, 1, 0] [] fin) k (ll0 a)) a := by kernel_rfl
end laws_eqIndexS
namespace laws_eqDef
noncomputable def cx : Cx := ⟨28, tys, eqts, sigs, call, hint, join, k, needV 0 sig.ps, needB 0 sig.ps⟩
abbrev RT := Option (TupT sig.outs)
abbrev fin : St → RT := finish tys sig rv
theorem m_eq (a) : run (cx call k) sig rv body a = m (call 32) (call 33) (call 34) a := by kernel_rfl
end laws_eqDef
namespace laws_eqDefS
noncomputable def cx : Cx := ⟨27, tys, eqts, sigs, call, hint, join, k, needV 0 sig.ps, needB 0 sig.ps⟩
abbrev RT := Option (TupT sig.outs)
abbrev fin : St → RT := finish tys sig rv
theorem s0_eq (L0 : LS → RT) (a) : stp (cx call k) body [1, 1, 0, 1, 0] [] fin (ll0 a) L0 = s0 (call 17) (fun a => L0 (ll0 a)) a := by kernel_rfl
theorem m_eq (a) : run (cx call k) sig rv body a = m (fun a => loopK (stp (cx call k) body [1, 1, 0, 1, 0] [] fin) k (ll0 a)) a := by kernel_rfl
end laws_eqDefS
namespace laws_markText
noncomputable def cx : Cx := ⟨20, tys, eqts, sigs, call, hint, join, k, needV 0 sig.ps, needB 0 sig.ps⟩
abbrev RT := Option (TupT sig.outs)
abbrev fin : St → RT := finish tys sig rv
theorem s0_eq (L0 : LS → RT) (a) : stp (cx call k) body [1, 1, 1, 0, 0] [] fin (ll0 a) L0 = s0 (fun a => L0 (ll0 a)) a := by kernel_rfl
theorem m_eq (a) : run (cx call k) sig rv body a = m (fun a => loopK (stp (cx call k) body [1, 1, 1, 0, 0] [] fin) k (ll0 a)) a := by kernel_rfl
end laws_markText
namespace laws_markColS
noncomputable def cx : Cx := ⟨37, tys, eqts, sigs, call, hint, join, k, needV 0 sig.ps, needB 0 sig.ps⟩
abbrev RT := Option (TupT sig.outs)
abbrev fin : St → RT := finish tys sig rv
theorem s0_eq (L0 : LS → RT) (a) : stp (cx call k) body [1, 0, 1, 0] [] fin (ll0 a) L0 = s0 (call 18) (fun a => L0 (ll0 a)) a := by kernel_rfl
theorem m_eq (a) : run (cx call k) sig rv body a = m (fun a => loopK (stp (cx call k) body [1, 0, 1, 0] [] fin) k (ll0 a)) a := by kernel_rfl
end laws_markColS
namespace laws_markByS
noncomputable def cx : Cx := ⟨29, tys, eqts, sigs, call, hint, join, k, needV 0 sig.ps, needB 0 sig.ps⟩
abbrev RT := Option (TupT sig.outs)
abbrev fin : St → RT := finish tys sig rv
theorem s0_eq (L0 : LS → RT) (a) : stp (cx call k) body [1, 0, 1, 0] [] fin (ll0 a) L0 = s0 (fun a => L0 (ll0 a)) a := by kernel_rfl
theorem m_eq (a) : run (cx call k) sig rv body a = m (fun a => loopK (stp (cx call k) body [1, 0, 1, 0] [] fin) k (ll0 a)) a := by kernel_rfl
end laws_markByS
namespace laws_markIndexS
noncomputable def cx : Cx := ⟨37, tys, eqts, sigs, call, hint, join, k, needV 0 sig.ps, needB 0 sig.ps⟩
abbrev RT := Option (TupT sig.outs)
abbrev fin : St → RT := finish tys sig rv
theorem s0_eq (L0 : LS → RT) (a) : stp (cx call k) body [1, 0, 1, 0] [] fin (ll0 a) L0 = s0 (call 18) (call 20) (fun a => L0 (ll0 a)) a := by kernel_rfl
theorem m_eq (a) : run (cx call k) sig rv body a = m (fun a => loopK (stp (cx call k) body [1, 0, 1, 0] [] fin) k (ll0 a)) a := by kernel_rfl
end laws_markIndexS
namespace laws_markDefS
noncomputable def cx : Cx := ⟨42, tys, eqts, sigs, call, hint, join, k, needV 0 sig.ps, needB 0 sig.ps⟩
abbrev RT := Option (TupT sig.outs)
abbrev fin : St → RT := finish tys sig rv
theorem s0_eq (L0 : LS → RT) (a) : stp (cx call k) body [1, 0, 1, 0] [] fin (ll0 a) L0 = s0 (call 18) (call 19) (call 20) (call 21) (fun a => L0 (ll0 a)) a := by kernel_rfl
theorem m_eq (a) : run (cx call k) sig rv body a = m (fun a => loopK (stp (cx call k) body [1, 0, 1, 0] [] fin) k (ll0 a)) a := by kernel_rfl
end laws_markDefS
namespace laws_markByteS
noncomputable def cx : Cx := ⟨20, tys, eqts, sigs, call, hint, join, k, needV 0 sig.ps, needB 0 sig.ps⟩
abbrev RT := Option (TupT sig.outs)
abbrev fin : St → RT := finish tys sig rv
theorem s0_eq (L0 : LS → RT) (a) : stp (cx call k) body [1, 0, 1, 0] [] fin (ll0 a) L0 = s0 (fun a => L0 (ll0 a)) a := by kernel_rfl
theorem m_eq (a) : run (cx call k) sig rv body a = m (fun a => loopK (stp (cx call k) body [1, 0, 1, 0] [] fin) k (ll0 a)) a := by kernel_rfl
end laws_markByteS
namespace laws_heldByteS
noncomputable def cx : Cx := ⟨22, tys, eqts, sigs, call, hint, join, k, needV 0 sig.ps, needB 0 sig.ps⟩
abbrev RT := Option (TupT sig.outs)
abbrev fin : St → RT := finish tys sig rv
theorem s0_eq (L0 : LS → RT) (a) : stp (cx call k) body [1, 0, 1, 0] [] fin (ll0 a) L0 = s0 (fun a => L0 (ll0 a)) a := by kernel_rfl
theorem m_eq (a) : run (cx call k) sig rv body a = m (fun a => loopK (stp (cx call k) body [1, 0, 1, 0] [] fin) k (ll0 a)) a := by kernel_rfl
end laws_heldByteS
namespace laws_FnExactHeadOf
noncomputable def cx : Cx := ⟨79, tys, eqts, sigs, call, hint, join, k, needV 0 sig.ps, needB 0 sig.ps⟩
abbrev RT := Option (TupT sig.outs)
abbrev fin : St → RT := finish tys sig rv
theorem m_eq (a) : run (cx call k) sig rv body a = m (call 4) (call 5) (call 6) (call 7) (call 8) (call 9) (call 10) (call 11) (call 12) a := by kernel_rfl
end laws_FnExactHeadOf
end
end Go.PV.T
