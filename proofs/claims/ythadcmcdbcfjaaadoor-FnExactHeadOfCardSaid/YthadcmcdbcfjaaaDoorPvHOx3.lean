/- Functions of the program by their own lists and numbers. No condition beyond those in each statement. -/
import Derived.Test.YthadcmcdbcfjaaaDoorPvHOx1
import Derived.Test.YthadcmcdbcfjaaaDoorPvLbC
import Derived.Test.YthadcmcdbcfjaaaDoorPvHOx2
set_option linter.unusedVariables false
set_option linter.unusedSimpArgs false
set_option maxRecDepth 100000
set_option linter.unusedVariables false
namespace Go.PV.T
open Go.Proofs
noncomputable section
noncomputable def ext : (f : Nat) → Option (TupT (fns f).sig.ins → Option (TupT (fns f).sig.outs))
 | 58 => some splitLaw
 | _ => none
noncomputable def tab : Nat → (f : Nat) → TupT (sigs f).ins → Option (TupT (sigs f).outs) := table tys eqts fns ext rnds
noncomputable def strings_Split.f (d : Nat) : (ByteArray × ByteArray) → Option (List ByteArray) := tab d 58
noncomputable def laws_szCol.f (d : Nat) : Y2 → Option Int := tab d 35
noncomputable def laws_szColS.f (d : Nat) : Y3 → Option Int := tab d 22
noncomputable def laws_szByS.f (d : Nat) : ((List (Int × Bool)) × Int) → Option Int := tab d 23
noncomputable def laws_szIndex.f (d : Nat) : Y5 → Option Int := tab d 36
noncomputable def laws_szIndexS.f (d : Nat) : Y6 → Option Int := tab d 24
noncomputable def laws_szDef.f (d : Nat) : Y8 → Option Int := tab d 13
noncomputable def laws_szDefS.f (d : Nat) : Y9 → Option Int := tab d 4
noncomputable def spec_l1In.f (d : Nat) : (Int × Int × Int) → Option Bool := tab d 26
noncomputable def spec_l8Small.f (d : Nat) : Int → Option Bool := tab d 60
noncomputable def spec_l2Digit.f (d : Nat) : Int → Option Bool := tab d 61
noncomputable def spec_l8Name.f (d : Nat) : ByteArray → Option Bool := tab d 56
noncomputable def spec_l9Has.f (d : Nat) : Y11 → Option Bool := tab d 57
noncomputable def spec_l9Word.f (d : Nat) : ByteArray → Option Bool := tab d 52
noncomputable def spec_l9Names.f (d : Nat) : Y1 → Option Bool := tab d 45
noncomputable def spec_l9Types.f (d : Nat) : Y1 → Option Bool := tab d 46
noncomputable def spec_l9Col.f (d : Nat) : Y14 → Option Int := tab d 53
noncomputable def spec_l9Once.f (d : Nat) : Y1 → Option Bool := tab d 47
noncomputable def spec_l9Parts.f (d : Nat) : Y17 → Option Bool := tab d 54
noncomputable def spec_l9AllParts.f (d : Nat) : Y1 → Option Bool := tab d 48
noncomputable def spec_CheckDef.f (d : Nat) : Y1 → Option Int := tab d 37
noncomputable def spec_FirstBad.f (d : Nat) : Y19 → Option Int := tab d 25
noncomputable def spec_l11There.f (d : Nat) : Y10 → Option Bool := tab d 14
noncomputable def spec_HeadOf.f (d : Nat) : Y10 → Option ((List Int)) := tab d 5
noncomputable def laws_toCol.f (d : Nat) : (ByteArray × Int × Bool) → Option (ByteArray × Int × Bool) := tab d 38
noncomputable def laws_toColS.f (d : Nat) : Y21 → Option Y21 := tab d 27
noncomputable def laws_toBy.f (d : Nat) : (Int × Bool) → Option (Int × Bool) := tab d 39
noncomputable def laws_toByS.f (d : Nat) : ((List (Int × Bool))) → Option ((List (Int × Bool))) := tab d 28
noncomputable def laws_toIndex.f (d : Nat) : Y0 → Option Y0 := tab d 40
noncomputable def laws_toIndexS.f (d : Nat) : Y24 → Option Y24 := tab d 29
noncomputable def laws_toDef.f (d : Nat) : Y1 → Option Y1 := tab d 15
noncomputable def laws_toDefS.f (d : Nat) : Y19 → Option Y19 := tab d 6
noncomputable def impl_in.f (d : Nat) : (Int × Int × Int) → Option Bool := tab d 31
noncomputable def impl_isLetter.f (d : Nat) : Int → Option Bool := tab d 63
noncomputable def impl_isDigit.f (d : Nat) : Int → Option Bool := tab d 64
noncomputable def impl_nameOk.f (d : Nat) : ByteArray → Option Bool := tab d 59
noncomputable def impl_isFree.f (d : Nat) : ByteArray → Option Bool := tab d 55
noncomputable def impl_namesOk.f (d : Nat) : Y1 → Option Bool := tab d 49
noncomputable def impl_twice.f (d : Nat) : Y1 → Option Bool := tab d 50
noncomputable def impl_partsOk.f (d : Nat) : Y17 → Option Bool := tab d 51
noncomputable def impl_CheckDef.f (d : Nat) : Y1 → Option Int := tab d 41
noncomputable def impl_FirstBad.f (d : Nat) : Y19 → Option Int := tab d 30
noncomputable def impl_hasIndex.f (d : Nat) : Y10 → Option Bool := tab d 16
noncomputable def impl_HeadOf.f (d : Nat) : Y10 → Option ((List Int)) := tab d 7
noncomputable def laws_eqByteS.f (d : Nat) : ((List Int) × (List Int)) → Option Bool := tab d 8
noncomputable def laws_eqCol.f (d : Nat) : Y38 → Option Bool := tab d 42
noncomputable def laws_eqColS.f (d : Nat) : Y39 → Option Bool := tab d 32
noncomputable def laws_eqBy.f (d : Nat) : (Int × Bool × Int × Bool) → Option Bool := tab d 43
noncomputable def laws_eqByS.f (d : Nat) : Y41 → Option Bool := tab d 33
noncomputable def laws_eqIndex.f (d : Nat) : Y43 → Option Bool := tab d 44
noncomputable def laws_eqIndexS.f (d : Nat) : Y44 → Option Bool := tab d 34
noncomputable def laws_eqDef.f (d : Nat) : Y46 → Option Bool := tab d 17
noncomputable def laws_eqDefS.f (d : Nat) : Y47 → Option Bool := tab d 9
noncomputable def laws_markText.f (d : Nat) : Int → Option ByteArray := tab d 18
noncomputable def laws_markColS.f (d : Nat) : Y3 → Option Y49 := tab d 19
noncomputable def laws_markByS.f (d : Nat) : ((List (Int × Bool)) × Int) → Option (Int × (List (Int × Bool))) := tab d 20
noncomputable def laws_markIndexS.f (d : Nat) : Y6 → Option Y52 := tab d 21
noncomputable def laws_markDefS.f (d : Nat) : Y9 → Option Y54 := tab d 10
noncomputable def laws_markByteS.f (d : Nat) : ((List Int) × Int) → Option (Int × (List Int)) := tab d 11
noncomputable def laws_heldByteS.f (d : Nat) : ((List Int) × Int) → Option Int := tab d 12
noncomputable def laws_FnExactHeadOf.f (d : Nat) : Y10 → Option Bool := tab d 3
namespace laws_szColS
noncomputable def S0 (d : Nat) (L0 : Y4 → Option Int) := s0 (laws_szCol.f d) L0
end laws_szColS
namespace laws_szIndexS
noncomputable def S0 (d : Nat) (L0 : Y7 → Option Int) := s0 (laws_szIndex.f d) L0
end laws_szIndexS
namespace laws_szDefS
noncomputable def S0 (d : Nat) (L0 : Y10 → Option Int) := s0 (laws_szDef.f d) L0
end laws_szDefS
namespace spec_l8Name
noncomputable def S0 (d : Nat) (L0 : (ByteArray × Int) → Option Bool) := s0 (spec_l1In.f d) (spec_l8Small.f d) (spec_l2Digit.f d) L0
end spec_l8Name
namespace spec_l9Has
noncomputable def S0 (d : Nat) (L0 : Y12 → Option Bool) := s0 L0
end spec_l9Has
namespace spec_l9Names
noncomputable def S2 (d : Nat) (L2 : Y13 → Option Bool) := s2 (spec_l9Word.f d) L2
noncomputable def S0 (d : Nat) (L0 : Y13 → Option Bool) := s0 (spec_l9Word.f d) (iter (S2 d) rnds) L0
end spec_l9Names
namespace spec_l9Types
noncomputable def S0 (d : Nat) (L0 : Y13 → Option Bool) := s0 (spec_l1In.f d) L0
end spec_l9Types
namespace spec_l9Col
noncomputable def S0 (d : Nat) (L0 : Y15 → Option Int) := s0 L0
end spec_l9Col
namespace spec_l9Once
noncomputable def S4 (d : Nat) (L2 : Y13 → Option Bool) (L4 : Y16 → Option Bool) := s4 L2 L4
noncomputable def S2 (d : Nat) (L2 : Y13 → Option Bool) := s2 (iter (S4 d L2) rnds) L2
noncomputable def S0 (d : Nat) (L0 : Y13 → Option Bool) := s0 (spec_l9Col.f d) (iter (S2 d) rnds) L0
end spec_l9Once
namespace spec_l9Parts
noncomputable def S0 (d : Nat) (L0 : Y18 → Option Bool) := s0 (spec_l1In.f d) L0
end spec_l9Parts
namespace spec_l9AllParts
noncomputable def S0 (d : Nat) (L0 : Y13 → Option Bool) := s0 (spec_l9Parts.f d) L0
end spec_l9AllParts
namespace spec_CheckDef
noncomputable def S1 (d : Nat) (L1 : Y13 → Option Int) := s1 L1
end spec_CheckDef
namespace spec_FirstBad
noncomputable def S2 (d : Nat) (L0 : Y9 → Option Int) (L2 : Y20 → Option Int) := s2 L0 L2
noncomputable def S0 (d : Nat) (L0 : Y9 → Option Int) := s0 (spec_CheckDef.f d) (iter (S2 d L0) rnds) L0
end spec_FirstBad
namespace laws_toColS
noncomputable def S0 (d : Nat) (L0 : Y22 → Option Y21) := s0 (laws_toCol.f d) L0
end laws_toColS
namespace laws_toByS
noncomputable def S0 (d : Nat) (L0 : Y23 → Option ((List (Int × Bool)))) := s0 (laws_toBy.f d) L0
end laws_toByS
namespace laws_toIndexS
noncomputable def S0 (d : Nat) (L0 : Y25 → Option Y24) := s0 (laws_toIndex.f d) L0
end laws_toIndexS
namespace laws_toDefS
noncomputable def S0 (d : Nat) (L0 : Y26 → Option Y19) := s0 (laws_toDef.f d) L0
end laws_toDefS
namespace impl_nameOk
noncomputable def S0 (d : Nat) (L0 : (ByteArray × Int) → Option Bool) := s0 (impl_in.f d) (impl_isLetter.f d) (impl_isDigit.f d) L0
end impl_nameOk
namespace impl_isFree
noncomputable def S0 (d : Nat) (L0 : Y27 → Option Bool) := s0 (impl_nameOk.f d) L0
end impl_isFree
namespace impl_namesOk
noncomputable def S2 (d : Nat) (L2 : Y28 → Option Bool) := s2 (impl_isFree.f d) L2
noncomputable def S0 (d : Nat) (L0 : Y29 → Option Bool) := s0 (impl_isFree.f d) (iter (S2 d) rnds) L0
end impl_namesOk
namespace impl_twice
noncomputable def S2 (d : Nat) (L0 : Y29 → Option Bool) (L2 : Y30 → Option Bool) := s2 L0 L2
noncomputable def S6 (d : Nat) (L4 : Y28 → Option Bool) (L6 : Y31 → Option Bool) := s6 L4 L6
noncomputable def S4 (d : Nat) (L4 : Y28 → Option Bool) := s4 (iter (S6 d L4) rnds) L4
noncomputable def S0 (d : Nat) (L0 : Y29 → Option Bool) := s0 (iter (S2 d L0) rnds) (iter (S4 d) rnds) L0
end impl_twice
namespace impl_partsOk
noncomputable def S2 (d : Nat) (L0 : Y33 → Option Bool) (L2 : Y32 → Option Bool) := s2 L0 L2
noncomputable def S0 (d : Nat) (L0 : Y33 → Option Bool) := s0 (impl_in.f d) (iter (S2 d L0) rnds) L0
end impl_partsOk
namespace impl_CheckDef
noncomputable def S4 (d : Nat) (L4 : Y34 → Option Int) := s4 L4
noncomputable def S2 (d : Nat) (L2 : Y28 → Option Int) := s2 (impl_partsOk.f d) (iter (S4 d) rnds) L2
noncomputable def S0 (d : Nat) (L0 : Y29 → Option Int) := s0 (impl_in.f d) (impl_twice.f d) (iter (S2 d) rnds) L0
end impl_CheckDef
namespace impl_FirstBad
noncomputable def S2 (d : Nat) (L0 : Y36 → Option Int) (L2 : Y35 → Option Int) := s2 L0 L2
noncomputable def S0 (d : Nat) (L0 : Y36 → Option Int) := s0 (impl_CheckDef.f d) (iter (S2 d L0) rnds) L0
end impl_FirstBad
namespace laws_eqByteS
noncomputable def S0 (d : Nat) (L0 : Y37 → Option Bool) := s0 L0
end laws_eqByteS
namespace laws_eqColS
noncomputable def S0 (d : Nat) (L0 : Y40 → Option Bool) := s0 (laws_eqCol.f d) L0
end laws_eqColS
namespace laws_eqByS
noncomputable def S0 (d : Nat) (L0 : Y42 → Option Bool) := s0 (laws_eqBy.f d) L0
end laws_eqByS
namespace laws_eqIndexS
noncomputable def S0 (d : Nat) (L0 : Y45 → Option Bool) := s0 (laws_eqIndex.f d) L0
end laws_eqIndexS
namespace laws_eqDefS
noncomputable def S0 (d : Nat) (L0 : Y48 → Option Bool) := s0 (laws_eqDef.f d) L0
end laws_eqDefS
namespace laws_markText
noncomputable def S0 (d : Nat) (L0 : (Int × ByteArray) → Option ByteArray) := s0 L0
end laws_markText
namespace laws_markColS
noncomputable def S0 (d : Nat) (L0 : Y50 → Option Y49) := s0 (laws_markText.f d) L0
end laws_markColS
namespace laws_markByS
noncomputable def S0 (d : Nat) (L0 : Y51 → Option (Int × (List (Int × Bool)))) := s0 L0
end laws_markByS
namespace laws_markIndexS
noncomputable def S0 (d : Nat) (L0 : Y53 → Option Y52) := s0 (laws_markText.f d) (laws_markByS.f d) L0
end laws_markIndexS
namespace laws_markDefS
noncomputable def S0 (d : Nat) (L0 : Y55 → Option Y54) := s0 (laws_markText.f d) (laws_markColS.f d) (laws_markByS.f d) (laws_markIndexS.f d) L0
end laws_markDefS
namespace laws_markByteS
noncomputable def S0 (d : Nat) (L0 : (Int × Int × (List Int)) → Option (Int × (List Int))) := s0 L0
end laws_markByteS
namespace laws_heldByteS
noncomputable def S0 (d : Nat) (L0 : ((List Int) × Int × Int) → Option Int) := s0 L0
end laws_heldByteS
namespace laws_szCol
theorem t_eq (d : Nat) (a) : f (d + 1) a = m  a :=
 Eq.trans (show f (d + 1) a = run (cx (tab d) rnds) sig rv body a by kernel_rfl) ((m_eq (tab d) rnds a).trans rfl)
end laws_szCol
namespace laws_szColS
theorem S0_eq (d : Nat) : ((fun a => loopK (stp (cx (tab d) rnds) body [1, 1, 1, 0, 1, 0] [] fin) rnds (ll0 a) : Y4 → Option Int)) = iter (S0 d) rnds :=
 funext (loop_iter ll0 _ (S0 d) (fun (L0 : LS → RT) a => (s0_eq (tab d) rnds L0 a).trans rfl) rnds)
theorem t_eq (d : Nat) (a) : f (d + 1) a = m (iter (S0 d) rnds) a :=
 Eq.trans (show f (d + 1) a = run (cx (tab d) rnds) sig rv body a by kernel_rfl) ((m_eq (tab d) rnds a).trans (congrArg (fun z => m z a) (S0_eq d)))
end laws_szColS
namespace laws_szByS
theorem t_eq (d : Nat) (a) : f (d + 1) a = m  a :=
 Eq.trans (show f (d + 1) a = run (cx (tab d) rnds) sig rv body a by kernel_rfl) ((m_eq (tab d) rnds a).trans rfl)
end laws_szByS
namespace laws_szIndex
theorem t_eq (d : Nat) (a) : f (d + 1) a = m (laws_szByS.f d) a :=
 Eq.trans (show f (d + 1) a = run (cx (tab d) rnds) sig rv body a by kernel_rfl) ((m_eq (tab d) rnds a).trans rfl)
end laws_szIndex
namespace laws_szIndexS
theorem S0_eq (d : Nat) : ((fun a => loopK (stp (cx (tab d) rnds) body [1, 1, 1, 0, 1, 0] [] fin) rnds (ll0 a) : Y7 → Option Int)) = iter (S0 d) rnds :=
 funext (loop_iter ll0 _ (S0 d) (fun (L0 : LS → RT) a => (s0_eq (tab d) rnds L0 a).trans rfl) rnds)
theorem t_eq (d : Nat) (a) : f (d + 1) a = m (iter (S0 d) rnds) a :=
 Eq.trans (show f (d + 1) a = run (cx (tab d) rnds) sig rv body a by kernel_rfl) ((m_eq (tab d) rnds a).trans (congrArg (fun z => m z a) (S0_eq d)))
end laws_szIndexS
namespace laws_szDef
theorem t_eq (d : Nat) (a) : f (d + 1) a = m (laws_szColS.f d) (laws_szByS.f d) (laws_szIndexS.f d) a :=
 Eq.trans (show f (d + 1) a = run (cx (tab d) rnds) sig rv body a by kernel_rfl) ((m_eq (tab d) rnds a).trans rfl)
end laws_szDef
namespace laws_szDefS
theorem S0_eq (d : Nat) : ((fun a => loopK (stp (cx (tab d) rnds) body [1, 1, 1, 0, 1, 0] [] fin) rnds (ll0 a) : Y10 → Option Int)) = iter (S0 d) rnds :=
 funext (loop_iter ll0 _ (S0 d) (fun (L0 : LS → RT) a => (s0_eq (tab d) rnds L0 a).trans rfl) rnds)
theorem t_eq (d : Nat) (a) : f (d + 1) a = m (iter (S0 d) rnds) a :=
 Eq.trans (show f (d + 1) a = run (cx (tab d) rnds) sig rv body a by kernel_rfl) ((m_eq (tab d) rnds a).trans (congrArg (fun z => m z a) (S0_eq d)))
end laws_szDefS
namespace spec_l1In
theorem t_eq (d : Nat) (a) : f (d + 1) a = m  a :=
 Eq.trans (show f (d + 1) a = run (cx (tab d) rnds) sig rv body a by kernel_rfl) ((m_eq (tab d) rnds a).trans rfl)
end spec_l1In
namespace spec_l8Small
theorem t_eq (d : Nat) (a) : f (d + 1) a = m (spec_l1In.f d) a :=
 Eq.trans (show f (d + 1) a = run (cx (tab d) rnds) sig rv body a by kernel_rfl) ((m_eq (tab d) rnds a).trans rfl)
end spec_l8Small
namespace spec_l2Digit
theorem t_eq (d : Nat) (a) : f (d + 1) a = m (spec_l1In.f d) a :=
 Eq.trans (show f (d + 1) a = run (cx (tab d) rnds) sig rv body a by kernel_rfl) ((m_eq (tab d) rnds a).trans rfl)
end spec_l2Digit
namespace spec_l8Name
theorem S0_eq (d : Nat) : ((fun a => loopK (stp (cx (tab d) rnds) body [1, 0, 1, 0] [] fin) rnds (ll0 a) : (ByteArray × Int) → Option Bool)) = iter (S0 d) rnds :=
 funext (loop_iter ll0 _ (S0 d) (fun (L0 : LS → RT) a => (s0_eq (tab d) rnds L0 a).trans rfl) rnds)
theorem t_eq (d : Nat) (a) : f (d + 1) a = m (iter (S0 d) rnds) a :=
 Eq.trans (show f (d + 1) a = run (cx (tab d) rnds) sig rv body a by kernel_rfl) ((m_eq (tab d) rnds a).trans (congrArg (fun z => m z a) (S0_eq d)))
end spec_l8Name
namespace spec_l9Has
theorem S0_eq (d : Nat) : ((fun a => loopK (stp (cx (tab d) rnds) body [1, 0, 1, 0] [] fin) rnds (ll0 a) : Y12 → Option Bool)) = iter (S0 d) rnds :=
 funext (loop_iter ll0 _ (S0 d) (fun (L0 : LS → RT) a => (s0_eq (tab d) rnds L0 a).trans rfl) rnds)
theorem t_eq (d : Nat) (a) : f (d + 1) a = m (iter (S0 d) rnds) a :=
 Eq.trans (show f (d + 1) a = run (cx (tab d) rnds) sig rv body a by kernel_rfl) ((m_eq (tab d) rnds a).trans (congrArg (fun z => m z a) (S0_eq d)))
end spec_l9Has
namespace spec_l9Word
theorem t_eq (d : Nat) (a) : f (d + 1) a = m (spec_l8Name.f d) (spec_l9Has.f d) a :=
 Eq.trans (show f (d + 1) a = run (cx (tab d) rnds) sig rv body a by kernel_rfl) ((m_eq (tab d) rnds a).trans rfl)
end spec_l9Word
namespace spec_l9Names
theorem S2_eq (d : Nat) : ((fun a => loopK (stp (cx (tab d) rnds) body [1, 1, 0, 1, 0] [] fin) rnds (ll2 a) : Y13 → Option Bool)) = iter (S2 d) rnds :=
 funext (loop_iter ll2 _ (S2 d) (fun (L2 : LS → RT) a => (s2_eq (tab d) rnds L2 a).trans rfl) rnds)
theorem S0_eq (d : Nat) : ((fun a => loopK (stp (cx (tab d) rnds) body [1, 0, 1, 0] [] fin) rnds (ll0 a) : Y13 → Option Bool)) = iter (S0 d) rnds :=
 funext (loop_iter ll0 _ (S0 d) (fun (L0 : LS → RT) a => (s0_eq (tab d) rnds L0 a).trans (congrArg (fun z => s0 (tab d 52) z (fun a => L0 (ll0 a)) a) (S2_eq d))) rnds)
theorem t_eq (d : Nat) (a) : f (d + 1) a = m (iter (S0 d) rnds) a :=
 Eq.trans (show f (d + 1) a = run (cx (tab d) rnds) sig rv body a by kernel_rfl) ((m_eq (tab d) rnds a).trans (congrArg (fun z => m z a) (S0_eq d)))
end spec_l9Names
namespace spec_l9Types
theorem S0_eq (d : Nat) : ((fun a => loopK (stp (cx (tab d) rnds) body [1, 0, 1, 0] [] fin) rnds (ll0 a) : Y13 → Option Bool)) = iter (S0 d) rnds :=
 funext (loop_iter ll0 _ (S0 d) (fun (L0 : LS → RT) a => (s0_eq (tab d) rnds L0 a).trans rfl) rnds)
theorem t_eq (d : Nat) (a) : f (d + 1) a = m (iter (S0 d) rnds) a :=
 Eq.trans (show f (d + 1) a = run (cx (tab d) rnds) sig rv body a by kernel_rfl) ((m_eq (tab d) rnds a).trans (congrArg (fun z => m z a) (S0_eq d)))
end spec_l9Types
namespace spec_l9Col
theorem S0_eq (d : Nat) : ((fun a => loopK (stp (cx (tab d) rnds) body [1, 0, 1, 0] [] fin) rnds (ll0 a) : Y15 → Option Int)) = iter (S0 d) rnds :=
 funext (loop_iter ll0 _ (S0 d) (fun (L0 : LS → RT) a => (s0_eq (tab d) rnds L0 a).trans rfl) rnds)
theorem t_eq (d : Nat) (a) : f (d + 1) a = m (iter (S0 d) rnds) a :=
 Eq.trans (show f (d + 1) a = run (cx (tab d) rnds) sig rv body a by kernel_rfl) ((m_eq (tab d) rnds a).trans (congrArg (fun z => m z a) (S0_eq d)))
end spec_l9Col
namespace spec_l9Once
theorem S4_eq (d : Nat) (L2 : LS → RT) : ((fun a => loopK (stp (cx (tab d) rnds) body [1, 1, 0, 1, 0, 0, 1, 0, 0, 1, 0] [L2] fin) rnds (ll4 a) : Y16 → Option Bool)) = iter (S4 d (fun a => L2 (ll2 a))) rnds :=
 funext (loop_iter ll4 _ (S4 d (fun a => L2 (ll2 a))) (fun (L4 : LS → RT) a => (s4_eq (tab d) rnds L2 L4 a).trans rfl) rnds)
theorem S2_eq (d : Nat) : ((fun a => loopK (stp (cx (tab d) rnds) body [1, 1, 0, 1, 0] [] fin) rnds (ll2 a) : Y13 → Option Bool)) = iter (S2 d) rnds :=
 funext (loop_iter ll2 _ (S2 d) (fun (L2 : LS → RT) a => (s2_eq (tab d) rnds L2 a).trans (congrArg (fun z => s2 z (fun a => L2 (ll2 a)) a) (S4_eq d L2))) rnds)
theorem S0_eq (d : Nat) : ((fun a => loopK (stp (cx (tab d) rnds) body [1, 0, 1, 0] [] fin) rnds (ll0 a) : Y13 → Option Bool)) = iter (S0 d) rnds :=
 funext (loop_iter ll0 _ (S0 d) (fun (L0 : LS → RT) a => (s0_eq (tab d) rnds L0 a).trans (congrArg (fun z => s0 (tab d 53) z (fun a => L0 (ll0 a)) a) (S2_eq d))) rnds)
theorem t_eq (d : Nat) (a) : f (d + 1) a = m (iter (S0 d) rnds) a :=
 Eq.trans (show f (d + 1) a = run (cx (tab d) rnds) sig rv body a by kernel_rfl) ((m_eq (tab d) rnds a).trans (congrArg (fun z => m z a) (S0_eq d)))
end spec_l9Once
namespace spec_l9Parts
theorem S0_eq (d : Nat) : ((fun a => loopK (stp (cx (tab d) rnds) body [1, 0, 1, 0] [] fin) rnds (ll0 a) : Y18 → Option Bool)) = iter (S0 d) rnds :=
 funext (loop_iter ll0 _ (S0 d) (fun (L0 : LS → RT) a => (s0_eq (tab d) rnds L0 a).trans rfl) rnds)
theorem t_eq (d : Nat) (a) : f (d + 1) a = m (iter (S0 d) rnds) a :=
 Eq.trans (show f (d + 1) a = run (cx (tab d) rnds) sig rv body a by kernel_rfl) ((m_eq (tab d) rnds a).trans (congrArg (fun z => m z a) (S0_eq d)))
end spec_l9Parts
namespace spec_l9AllParts
theorem S0_eq (d : Nat) : ((fun a => loopK (stp (cx (tab d) rnds) body [1, 0, 1, 0] [] fin) rnds (ll0 a) : Y13 → Option Bool)) = iter (S0 d) rnds :=
 funext (loop_iter ll0 _ (S0 d) (fun (L0 : LS → RT) a => (s0_eq (tab d) rnds L0 a).trans rfl) rnds)
theorem t_eq (d : Nat) (a) : f (d + 1) a = m (iter (S0 d) rnds) a :=
 Eq.trans (show f (d + 1) a = run (cx (tab d) rnds) sig rv body a by kernel_rfl) ((m_eq (tab d) rnds a).trans (congrArg (fun z => m z a) (S0_eq d)))
end spec_l9AllParts
namespace spec_CheckDef
theorem S1_eq (d : Nat) : ((fun a => loopK (stp (cx (tab d) rnds) body [1, 1, 0, 1, 0] [] fin) rnds (ll1 a) : Y13 → Option Int)) = iter (S1 d) rnds :=
 funext (loop_iter ll1 _ (S1 d) (fun (L1 : LS → RT) a => (s1_eq (tab d) rnds L1 a).trans rfl) rnds)
theorem t_eq (d : Nat) (a) : f (d + 1) a = m (spec_l9Names.f d) (spec_l9Types.f d) (spec_l9Once.f d) (spec_l9AllParts.f d) (iter (S1 d) rnds) a :=
 Eq.trans (show f (d + 1) a = run (cx (tab d) rnds) sig rv body a by kernel_rfl) ((m_eq (tab d) rnds a).trans (congrArg (fun z => m (tab d 45) (tab d 46) (tab d 47) (tab d 48) z a) (S1_eq d)))
end spec_CheckDef
namespace spec_FirstBad
theorem S2_eq (d : Nat) (L0 : LS → RT) : ((fun a => loopK (stp (cx (tab d) rnds) body [1, 0, 1, 0, 0, 1, 0, 0, 1, 1, 0] [L0] fin) rnds (ll2 a) : Y20 → Option Int)) = iter (S2 d (fun a => L0 (ll0 a))) rnds :=
 funext (loop_iter ll2 _ (S2 d (fun a => L0 (ll0 a))) (fun (L2 : LS → RT) a => (s2_eq (tab d) rnds L0 L2 a).trans rfl) rnds)
theorem S0_eq (d : Nat) : ((fun a => loopK (stp (cx (tab d) rnds) body [1, 0, 1, 0] [] fin) rnds (ll0 a) : Y9 → Option Int)) = iter (S0 d) rnds :=
 funext (loop_iter ll0 _ (S0 d) (fun (L0 : LS → RT) a => (s0_eq (tab d) rnds L0 a).trans (congrArg (fun z => s0 (tab d 37) z (fun a => L0 (ll0 a)) a) (S2_eq d L0))) rnds)
theorem t_eq (d : Nat) (a) : f (d + 1) a = m (iter (S0 d) rnds) a :=
 Eq.trans (show f (d + 1) a = run (cx (tab d) rnds) sig rv body a by kernel_rfl) ((m_eq (tab d) rnds a).trans (congrArg (fun z => m z a) (S0_eq d)))
end spec_FirstBad
namespace spec_l11There
theorem t_eq (d : Nat) (a) : f (d + 1) a = m (spec_FirstBad.f d) (spec_l1In.f d) a :=
 Eq.trans (show f (d + 1) a = run (cx (tab d) rnds) sig rv body a by kernel_rfl) ((m_eq (tab d) rnds a).trans rfl)
end spec_l11There
namespace spec_HeadOf
theorem t_eq (d : Nat) (a) : f (d + 1) a = m (spec_l11There.f d) a :=
 Eq.trans (show f (d + 1) a = run (cx (tab d) rnds) sig rv body a by kernel_rfl) ((m_eq (tab d) rnds a).trans rfl)
end spec_HeadOf
namespace laws_toCol
theorem t_eq (d : Nat) (a) : f (d + 1) a = m  a :=
 Eq.trans (show f (d + 1) a = run (cx (tab d) rnds) sig rv body a by kernel_rfl) ((m_eq (tab d) rnds a).trans rfl)
end laws_toCol
namespace laws_toColS
theorem S0_eq (d : Nat) : ((fun a => loopK (stp (cx (tab d) rnds) body [1, 1, 0, 1, 0] [] fin) rnds (ll0 a) : Y22 → Option Y21)) = iter (S0 d) rnds :=
 funext (loop_iter ll0 _ (S0 d) (fun (L0 : LS → RT) a => (s0_eq (tab d) rnds L0 a).trans rfl) rnds)
theorem t_eq (d : Nat) (a) : f (d + 1) a = m (iter (S0 d) rnds) a :=
 Eq.trans (show f (d + 1) a = run (cx (tab d) rnds) sig rv body a by kernel_rfl) ((m_eq (tab d) rnds a).trans (congrArg (fun z => m z a) (S0_eq d)))
end laws_toColS
namespace laws_toBy
theorem t_eq (d : Nat) (a) : f (d + 1) a = m  a :=
 Eq.trans (show f (d + 1) a = run (cx (tab d) rnds) sig rv body a by kernel_rfl) ((m_eq (tab d) rnds a).trans rfl)
end laws_toBy
namespace laws_toByS
theorem S0_eq (d : Nat) : ((fun a => loopK (stp (cx (tab d) rnds) body [1, 1, 0, 1, 0] [] fin) rnds (ll0 a) : Y23 → Option ((List (Int × Bool))))) = iter (S0 d) rnds :=
 funext (loop_iter ll0 _ (S0 d) (fun (L0 : LS → RT) a => (s0_eq (tab d) rnds L0 a).trans rfl) rnds)
theorem t_eq (d : Nat) (a) : f (d + 1) a = m (iter (S0 d) rnds) a :=
 Eq.trans (show f (d + 1) a = run (cx (tab d) rnds) sig rv body a by kernel_rfl) ((m_eq (tab d) rnds a).trans (congrArg (fun z => m z a) (S0_eq d)))
end laws_toByS
namespace laws_toIndex
theorem t_eq (d : Nat) (a) : f (d + 1) a = m (laws_toByS.f d) a :=
 Eq.trans (show f (d + 1) a = run (cx (tab d) rnds) sig rv body a by kernel_rfl) ((m_eq (tab d) rnds a).trans rfl)
end laws_toIndex
namespace laws_toIndexS
theorem S0_eq (d : Nat) : ((fun a => loopK (stp (cx (tab d) rnds) body [1, 1, 0, 1, 0] [] fin) rnds (ll0 a) : Y25 → Option Y24)) = iter (S0 d) rnds :=
 funext (loop_iter ll0 _ (S0 d) (fun (L0 : LS → RT) a => (s0_eq (tab d) rnds L0 a).trans rfl) rnds)
theorem t_eq (d : Nat) (a) : f (d + 1) a = m (iter (S0 d) rnds) a :=
 Eq.trans (show f (d + 1) a = run (cx (tab d) rnds) sig rv body a by kernel_rfl) ((m_eq (tab d) rnds a).trans (congrArg (fun z => m z a) (S0_eq d)))
end laws_toIndexS
namespace laws_toDef
theorem t_eq (d : Nat) (a) : f (d + 1) a = m (laws_toColS.f d) (laws_toByS.f d) (laws_toIndexS.f d) a :=
 Eq.trans (show f (d + 1) a = run (cx (tab d) rnds) sig rv body a by kernel_rfl) ((m_eq (tab d) rnds a).trans rfl)
end laws_toDef
namespace laws_toDefS
theorem S0_eq (d : Nat) : ((fun a => loopK (stp (cx (tab d) rnds) body [1, 1, 0, 1, 0] [] fin) rnds (ll0 a) : Y26 → Option Y19)) = iter (S0 d) rnds :=
 funext (loop_iter ll0 _ (S0 d) (fun (L0 : LS → RT) a => (s0_eq (tab d) rnds L0 a).trans rfl) rnds)
theorem t_eq (d : Nat) (a) : f (d + 1) a = m (iter (S0 d) rnds) a :=
 Eq.trans (show f (d + 1) a = run (cx (tab d) rnds) sig rv body a by kernel_rfl) ((m_eq (tab d) rnds a).trans (congrArg (fun z => m z a) (S0_eq d)))
end laws_toDefS
namespace impl_in
theorem t_eq (d : Nat) (a) : f (d + 1) a = m  a :=
 Eq.trans (show f (d + 1) a = run (cx (tab d) rnds) sig rv body a by kernel_rfl) ((m_eq (tab d) rnds a).trans rfl)
end impl_in
namespace impl_isLetter
theorem t_eq (d : Nat) (a) : f (d + 1) a = m  a :=
 Eq.trans (show f (d + 1) a = run (cx (tab d) rnds) sig rv body a by kernel_rfl) ((m_eq (tab d) rnds a).trans rfl)
end impl_isLetter
namespace impl_isDigit
theorem t_eq (d : Nat) (a) : f (d + 1) a = m  a :=
 Eq.trans (show f (d + 1) a = run (cx (tab d) rnds) sig rv body a by kernel_rfl) ((m_eq (tab d) rnds a).trans rfl)
end impl_isDigit
namespace impl_nameOk
theorem S0_eq (d : Nat) : ((fun a => loopK (stp (cx (tab d) rnds) body [1, 0, 1, 0] [] fin) rnds (ll0 a) : (ByteArray × Int) → Option Bool)) = iter (S0 d) rnds :=
 funext (loop_iter ll0 _ (S0 d) (fun (L0 : LS → RT) a => (s0_eq (tab d) rnds L0 a).trans rfl) rnds)
theorem t_eq (d : Nat) (a) : f (d + 1) a = m (iter (S0 d) rnds) a :=
 Eq.trans (show f (d + 1) a = run (cx (tab d) rnds) sig rv body a by kernel_rfl) ((m_eq (tab d) rnds a).trans (congrArg (fun z => m z a) (S0_eq d)))
end impl_nameOk
namespace impl_isFree
theorem S0_eq (d : Nat) : ((fun a => loopK (stp (cx (tab d) rnds) body [1, 0, 1, 0] [] fin) rnds (ll0 a) : Y27 → Option Bool)) = iter (S0 d) rnds :=
 funext (loop_iter ll0 _ (S0 d) (fun (L0 : LS → RT) a => (s0_eq (tab d) rnds L0 a).trans rfl) rnds)
theorem t_eq (d : Nat) (a) : f (d + 1) a = m (strings_Split.f d) (iter (S0 d) rnds) a :=
 Eq.trans (show f (d + 1) a = run (cx (tab d) rnds) sig rv body a by kernel_rfl) ((m_eq (tab d) rnds a).trans (congrArg (fun z => m (tab d 58) z a) (S0_eq d)))
end impl_isFree
namespace impl_namesOk
theorem S2_eq (d : Nat) : ((fun a => loopK (stp (cx (tab d) rnds) body [1, 1, 0, 1, 0] [] fin) rnds (ll2 a) : Y28 → Option Bool)) = iter (S2 d) rnds :=
 funext (loop_iter ll2 _ (S2 d) (fun (L2 : LS → RT) a => (s2_eq (tab d) rnds L2 a).trans rfl) rnds)
theorem S0_eq (d : Nat) : ((fun a => loopK (stp (cx (tab d) rnds) body [1, 0, 1, 0] [] fin) rnds (ll0 a) : Y29 → Option Bool)) = iter (S0 d) rnds :=
 funext (loop_iter ll0 _ (S0 d) (fun (L0 : LS → RT) a => (s0_eq (tab d) rnds L0 a).trans (congrArg (fun z => s0 (tab d 55) z (fun a => L0 (ll0 a)) a) (S2_eq d))) rnds)
theorem t_eq (d : Nat) (a) : f (d + 1) a = m (iter (S0 d) rnds) a :=
 Eq.trans (show f (d + 1) a = run (cx (tab d) rnds) sig rv body a by kernel_rfl) ((m_eq (tab d) rnds a).trans (congrArg (fun z => m z a) (S0_eq d)))
end impl_namesOk
namespace impl_twice
theorem S2_eq (d : Nat) (L0 : LS → RT) : ((fun a => loopK (stp (cx (tab d) rnds) body [1, 0, 1, 0, 0, 1, 1, 0, 0, 1, 1, 0] [L0] fin) rnds (ll2 a) : Y30 → Option Bool)) = iter (S2 d (fun a => L0 (ll0 a))) rnds :=
 funext (loop_iter ll2 _ (S2 d (fun a => L0 (ll0 a))) (fun (L2 : LS → RT) a => (s2_eq (tab d) rnds L0 L2 a).trans rfl) rnds)
theorem S6_eq (d : Nat) (L4 : LS → RT) : ((fun a => loopK (stp (cx (tab d) rnds) body [1, 1, 0, 1, 0, 0, 1, 1, 0, 0, 1, 1, 0] [L4] fin) rnds (ll6 a) : Y31 → Option Bool)) = iter (S6 d (fun a => L4 (ll4 a))) rnds :=
 funext (loop_iter ll6 _ (S6 d (fun a => L4 (ll4 a))) (fun (L6 : LS → RT) a => (s6_eq (tab d) rnds L4 L6 a).trans rfl) rnds)
theorem S4_eq (d : Nat) : ((fun a => loopK (stp (cx (tab d) rnds) body [1, 1, 0, 1, 0] [] fin) rnds (ll4 a) : Y28 → Option Bool)) = iter (S4 d) rnds :=
 funext (loop_iter ll4 _ (S4 d) (fun (L4 : LS → RT) a => (s4_eq (tab d) rnds L4 a).trans (congrArg (fun z => s4 z (fun a => L4 (ll4 a)) a) (S6_eq d L4))) rnds)
theorem S0_eq (d : Nat) : ((fun a => loopK (stp (cx (tab d) rnds) body [1, 0, 1, 0] [] fin) rnds (ll0 a) : Y29 → Option Bool)) = iter (S0 d) rnds :=
 funext (loop_iter ll0 _ (S0 d) (fun (L0 : LS → RT) a => (s0_eq (tab d) rnds L0 a).trans (Eq.trans (congrArg (fun z => s0 z _ (fun a => L0 (ll0 a)) a) (S2_eq d L0)) (congrArg (fun z => s0 _ z (fun a => L0 (ll0 a)) a) (S4_eq d)))) rnds)
theorem t_eq (d : Nat) (a) : f (d + 1) a = m (iter (S0 d) rnds) a :=
 Eq.trans (show f (d + 1) a = run (cx (tab d) rnds) sig rv body a by kernel_rfl) ((m_eq (tab d) rnds a).trans (congrArg (fun z => m z a) (S0_eq d)))
end impl_twice
namespace impl_partsOk
theorem S2_eq (d : Nat) (L0 : LS → RT) : ((fun a => loopK (stp (cx (tab d) rnds) body [1, 0, 1, 0, 0, 1, 1, 0, 0, 1, 1, 1, 0] [L0] fin) rnds (ll2 a) : Y32 → Option Bool)) = iter (S2 d (fun a => L0 (ll0 a))) rnds :=
 funext (loop_iter ll2 _ (S2 d (fun a => L0 (ll0 a))) (fun (L2 : LS → RT) a => (s2_eq (tab d) rnds L0 L2 a).trans rfl) rnds)
theorem S0_eq (d : Nat) : ((fun a => loopK (stp (cx (tab d) rnds) body [1, 0, 1, 0] [] fin) rnds (ll0 a) : Y33 → Option Bool)) = iter (S0 d) rnds :=
 funext (loop_iter ll0 _ (S0 d) (fun (L0 : LS → RT) a => (s0_eq (tab d) rnds L0 a).trans (congrArg (fun z => s0 (tab d 31) z (fun a => L0 (ll0 a)) a) (S2_eq d L0))) rnds)
theorem t_eq (d : Nat) (a) : f (d + 1) a = m (iter (S0 d) rnds) a :=
 Eq.trans (show f (d + 1) a = run (cx (tab d) rnds) sig rv body a by kernel_rfl) ((m_eq (tab d) rnds a).trans (congrArg (fun z => m z a) (S0_eq d)))
end impl_partsOk
namespace impl_CheckDef
theorem S4_eq (d : Nat) : ((fun a => loopK (stp (cx (tab d) rnds) body [1, 1, 1, 1, 1, 1, 1, 1, 0, 1, 0] [] fin) rnds (ll4 a) : Y34 → Option Int)) = iter (S4 d) rnds :=
 funext (loop_iter ll4 _ (S4 d) (fun (L4 : LS → RT) a => (s4_eq (tab d) rnds L4 a).trans rfl) rnds)
theorem S2_eq (d : Nat) : ((fun a => loopK (stp (cx (tab d) rnds) body [1, 1, 1, 1, 1, 1, 0, 1, 0] [] fin) rnds (ll2 a) : Y28 → Option Int)) = iter (S2 d) rnds :=
 funext (loop_iter ll2 _ (S2 d) (fun (L2 : LS → RT) a => (s2_eq (tab d) rnds L2 a).trans (congrArg (fun z => s2 (tab d 51) z (fun a => L2 (ll2 a)) a) (S4_eq d))) rnds)
theorem S0_eq (d : Nat) : ((fun a => loopK (stp (cx (tab d) rnds) body [1, 1, 1, 0, 1, 0] [] fin) rnds (ll0 a) : Y29 → Option Int)) = iter (S0 d) rnds :=
 funext (loop_iter ll0 _ (S0 d) (fun (L0 : LS → RT) a => (s0_eq (tab d) rnds L0 a).trans (congrArg (fun z => s0 (tab d 31) (tab d 50) z (fun a => L0 (ll0 a)) a) (S2_eq d))) rnds)
theorem t_eq (d : Nat) (a) : f (d + 1) a = m (impl_in.f d) (impl_namesOk.f d) (iter (S0 d) rnds) a :=
 Eq.trans (show f (d + 1) a = run (cx (tab d) rnds) sig rv body a by kernel_rfl) ((m_eq (tab d) rnds a).trans (congrArg (fun z => m (tab d 31) (tab d 49) z a) (S0_eq d)))
end impl_CheckDef
namespace impl_FirstBad
theorem S2_eq (d : Nat) (L0 : LS → RT) : ((fun a => loopK (stp (cx (tab d) rnds) body [1, 0, 1, 0, 0, 1, 1, 0, 0, 1, 1, 1, 0] [L0] fin) rnds (ll2 a) : Y35 → Option Int)) = iter (S2 d (fun a => L0 (ll0 a))) rnds :=
 funext (loop_iter ll2 _ (S2 d (fun a => L0 (ll0 a))) (fun (L2 : LS → RT) a => (s2_eq (tab d) rnds L0 L2 a).trans rfl) rnds)
theorem S0_eq (d : Nat) : ((fun a => loopK (stp (cx (tab d) rnds) body [1, 0, 1, 0] [] fin) rnds (ll0 a) : Y36 → Option Int)) = iter (S0 d) rnds :=
 funext (loop_iter ll0 _ (S0 d) (fun (L0 : LS → RT) a => (s0_eq (tab d) rnds L0 a).trans (congrArg (fun z => s0 (tab d 41) z (fun a => L0 (ll0 a)) a) (S2_eq d L0))) rnds)
theorem t_eq (d : Nat) (a) : f (d + 1) a = m (iter (S0 d) rnds) a :=
 Eq.trans (show f (d + 1) a = run (cx (tab d) rnds) sig rv body a by kernel_rfl) ((m_eq (tab d) rnds a).trans (congrArg (fun z => m z a) (S0_eq d)))
end impl_FirstBad
namespace impl_hasIndex
theorem t_eq (d : Nat) (a) : f (d + 1) a = m (impl_FirstBad.f d) (impl_in.f d) a :=
 Eq.trans (show f (d + 1) a = run (cx (tab d) rnds) sig rv body a by kernel_rfl) ((m_eq (tab d) rnds a).trans rfl)
end impl_hasIndex
namespace impl_HeadOf
theorem t_eq (d : Nat) (a) : f (d + 1) a = m (impl_hasIndex.f d) a :=
 Eq.trans (show f (d + 1) a = run (cx (tab d) rnds) sig rv body a by kernel_rfl) ((m_eq (tab d) rnds a).trans rfl)
end impl_HeadOf
namespace laws_eqByteS
theorem S0_eq (d : Nat) : ((fun a => loopK (stp (cx (tab d) rnds) body [1, 1, 0, 1, 0] [] fin) rnds (ll0 a) : Y37 → Option Bool)) = iter (S0 d) rnds :=
 funext (loop_iter ll0 _ (S0 d) (fun (L0 : LS → RT) a => (s0_eq (tab d) rnds L0 a).trans rfl) rnds)
theorem t_eq (d : Nat) (a) : f (d + 1) a = m (iter (S0 d) rnds) a :=
 Eq.trans (show f (d + 1) a = run (cx (tab d) rnds) sig rv body a by kernel_rfl) ((m_eq (tab d) rnds a).trans (congrArg (fun z => m z a) (S0_eq d)))
end laws_eqByteS
namespace laws_eqCol
theorem t_eq (d : Nat) (a) : f (d + 1) a = m  a :=
 Eq.trans (show f (d + 1) a = run (cx (tab d) rnds) sig rv body a by kernel_rfl) ((m_eq (tab d) rnds a).trans rfl)
end laws_eqCol
namespace laws_eqColS
theorem S0_eq (d : Nat) : ((fun a => loopK (stp (cx (tab d) rnds) body [1, 1, 0, 1, 0] [] fin) rnds (ll0 a) : Y40 → Option Bool)) = iter (S0 d) rnds :=
 funext (loop_iter ll0 _ (S0 d) (fun (L0 : LS → RT) a => (s0_eq (tab d) rnds L0 a).trans rfl) rnds)
theorem t_eq (d : Nat) (a) : f (d + 1) a = m (iter (S0 d) rnds) a :=
 Eq.trans (show f (d + 1) a = run (cx (tab d) rnds) sig rv body a by kernel_rfl) ((m_eq (tab d) rnds a).trans (congrArg (fun z => m z a) (S0_eq d)))
end laws_eqColS
namespace laws_eqBy
theorem t_eq (d : Nat) (a) : f (d + 1) a = m  a :=
 Eq.trans (show f (d + 1) a = run (cx (tab d) rnds) sig rv body a by kernel_rfl) ((m_eq (tab d) rnds a).trans rfl)
end laws_eqBy
namespace laws_eqByS
theorem S0_eq (d : Nat) : ((fun a => loopK (stp (cx (tab d) rnds) body [1, 1, 0, 1, 0] [] fin) rnds (ll0 a) : Y42 → Option Bool)) = iter (S0 d) rnds :=
 funext (loop_iter ll0 _ (S0 d) (fun (L0 : LS → RT) a => (s0_eq (tab d) rnds L0 a).trans rfl) rnds)
theorem t_eq (d : Nat) (a) : f (d + 1) a = m (iter (S0 d) rnds) a :=
 Eq.trans (show f (d + 1) a = run (cx (tab d) rnds) sig rv body a by kernel_rfl) ((m_eq (tab d) rnds a).trans (congrArg (fun z => m z a) (S0_eq d)))
end laws_eqByS
namespace laws_eqIndex
theorem t_eq (d : Nat) (a) : f (d + 1) a = m (laws_eqByS.f d) a :=
 Eq.trans (show f (d + 1) a = run (cx (tab d) rnds) sig rv body a by kernel_rfl) ((m_eq (tab d) rnds a).trans rfl)
end laws_eqIndex
namespace laws_eqIndexS
theorem S0_eq (d : Nat) : ((fun a => loopK (stp (cx (tab d) rnds) body [1, 1, 0, 1, 0] [] fin) rnds (ll0 a) : Y45 → Option Bool)) = iter (S0 d) rnds :=
 funext (loop_iter ll0 _ (S0 d) (fun (L0 : LS → RT) a => (s0_eq (tab d) rnds L0 a).trans rfl) rnds)
theorem t_eq (d : Nat) (a) : f (d + 1) a = m (iter (S0 d) rnds) a :=
 Eq.trans (show f (d + 1) a = run (cx (tab d) rnds) sig rv body a by kernel_rfl) ((m_eq (tab d) rnds a).trans (congrArg (fun z => m z a) (S0_eq d)))
end laws_eqIndexS
namespace laws_eqDef
theorem t_eq (d : Nat) (a) : f (d + 1) a = m (laws_eqColS.f d) (laws_eqByS.f d) (laws_eqIndexS.f d) a :=
 Eq.trans (show f (d + 1) a = run (cx (tab d) rnds) sig rv body a by kernel_rfl) ((m_eq (tab d) rnds a).trans rfl)
end laws_eqDef
namespace laws_eqDefS
theorem S0_eq (d : Nat) : ((fun a => loopK (stp (cx (tab d) rnds) body [1, 1, 0, 1, 0] [] fin) rnds (ll0 a) : Y48 → Option Bool)) = iter (S0 d) rnds :=
 funext (loop_iter ll0 _ (S0 d) (fun (L0 : LS → RT) a => (s0_eq (tab d) rnds L0 a).trans rfl) rnds)
theorem t_eq (d : Nat) (a) : f (d + 1) a = m (iter (S0 d) rnds) a :=
 Eq.trans (show f (d + 1) a = run (cx (tab d) rnds) sig rv body a by kernel_rfl) ((m_eq (tab d) rnds a).trans (congrArg (fun z => m z a) (S0_eq d)))
end laws_eqDefS
namespace laws_markText
theorem S0_eq (d : Nat) : ((fun a => loopK (stp (cx (tab d) rnds) body [1, 1, 1, 0, 0] [] fin) rnds (ll0 a) : (Int × ByteArray) → Option ByteArray)) = iter (S0 d) rnds :=
 funext (loop_iter ll0 _ (S0 d) (fun (L0 : LS → RT) a => (s0_eq (tab d) rnds L0 a).trans rfl) rnds)
theorem t_eq (d : Nat) (a) : f (d + 1) a = m (iter (S0 d) rnds) a :=
 Eq.trans (show f (d + 1) a = run (cx (tab d) rnds) sig rv body a by kernel_rfl) ((m_eq (tab d) rnds a).trans (congrArg (fun z => m z a) (S0_eq d)))
end laws_markText
namespace laws_markColS
theorem S0_eq (d : Nat) : ((fun a => loopK (stp (cx (tab d) rnds) body [1, 0, 1, 0] [] fin) rnds (ll0 a) : Y50 → Option Y49)) = iter (S0 d) rnds :=
 funext (loop_iter ll0 _ (S0 d) (fun (L0 : LS → RT) a => (s0_eq (tab d) rnds L0 a).trans rfl) rnds)
theorem t_eq (d : Nat) (a) : f (d + 1) a = m (iter (S0 d) rnds) a :=
 Eq.trans (show f (d + 1) a = run (cx (tab d) rnds) sig rv body a by kernel_rfl) ((m_eq (tab d) rnds a).trans (congrArg (fun z => m z a) (S0_eq d)))
end laws_markColS
namespace laws_markByS
theorem S0_eq (d : Nat) : ((fun a => loopK (stp (cx (tab d) rnds) body [1, 0, 1, 0] [] fin) rnds (ll0 a) : Y51 → Option (Int × (List (Int × Bool))))) = iter (S0 d) rnds :=
 funext (loop_iter ll0 _ (S0 d) (fun (L0 : LS → RT) a => (s0_eq (tab d) rnds L0 a).trans rfl) rnds)
theorem t_eq (d : Nat) (a) : f (d + 1) a = m (iter (S0 d) rnds) a :=
 Eq.trans (show f (d + 1) a = run (cx (tab d) rnds) sig rv body a by kernel_rfl) ((m_eq (tab d) rnds a).trans (congrArg (fun z => m z a) (S0_eq d)))
end laws_markByS
namespace laws_markIndexS
theorem S0_eq (d : Nat) : ((fun a => loopK (stp (cx (tab d) rnds) body [1, 0, 1, 0] [] fin) rnds (ll0 a) : Y53 → Option Y52)) = iter (S0 d) rnds :=
 funext (loop_iter ll0 _ (S0 d) (fun (L0 : LS → RT) a => (s0_eq (tab d) rnds L0 a).trans rfl) rnds)
theorem t_eq (d : Nat) (a) : f (d + 1) a = m (iter (S0 d) rnds) a :=
 Eq.trans (show f (d + 1) a = run (cx (tab d) rnds) sig rv body a by kernel_rfl) ((m_eq (tab d) rnds a).trans (congrArg (fun z => m z a) (S0_eq d)))
end laws_markIndexS
namespace laws_markDefS
theorem S0_eq (d : Nat) : ((fun a => loopK (stp (cx (tab d) rnds) body [1, 0, 1, 0] [] fin) rnds (ll0 a) : Y55 → Option Y54)) = iter (S0 d) rnds :=
 funext (loop_iter ll0 _ (S0 d) (fun (L0 : LS → RT) a => (s0_eq (tab d) rnds L0 a).trans rfl) rnds)
theorem t_eq (d : Nat) (a) : f (d + 1) a = m (iter (S0 d) rnds) a :=
 Eq.trans (show f (d + 1) a = run (cx (tab d) rnds) sig rv body a by kernel_rfl) ((m_eq (tab d) rnds a).trans (congrArg (fun z => m z a) (S0_eq d)))
end laws_markDefS
namespace laws_markByteS
theorem S0_eq (d : Nat) : ((fun a => loopK (stp (cx (tab d) rnds) body [1, 0, 1, 0] [] fin) rnds (ll0 a) : (Int × Int × (List Int)) → Option (Int × (List Int)))) = iter (S0 d) rnds :=
 funext (loop_iter ll0 _ (S0 d) (fun (L0 : LS → RT) a => (s0_eq (tab d) rnds L0 a).trans rfl) rnds)
theorem t_eq (d : Nat) (a) : f (d + 1) a = m (iter (S0 d) rnds) a :=
 Eq.trans (show f (d + 1) a = run (cx (tab d) rnds) sig rv body a by kernel_rfl) ((m_eq (tab d) rnds a).trans (congrArg (fun z => m z a) (S0_eq d)))
end laws_markByteS
namespace laws_heldByteS
theorem S0_eq (d : Nat) : ((fun a => loopK (stp (cx (tab d) rnds) body [1, 0, 1, 0] [] fin) rnds (ll0 a) : ((List Int) × Int × Int) → Option Int)) = iter (S0 d) rnds :=
 funext (loop_iter ll0 _ (S0 d) (fun (L0 : LS → RT) a => (s0_eq (tab d) rnds L0 a).trans rfl) rnds)
theorem t_eq (d : Nat) (a) : f (d + 1) a = m (iter (S0 d) rnds) a :=
 Eq.trans (show f (d + 1) a = run (cx (tab d) rnds) sig rv body a by kernel_rfl) ((m_eq (tab d) rnds a).trans (congrArg (fun z => m z a) (S0_eq d)))
end laws_heldByteS
namespace laws_FnExactHeadOf
theorem t_eq (d : Nat) (a) : f (d + 1) a = m (laws_szDefS.f d) (spec_HeadOf.f d) (laws_toDefS.f d) (impl_HeadOf.f d) (laws_eqByteS.f d) (laws_eqDefS.f d) (laws_markDefS.f d) (laws_markByteS.f d) (laws_heldByteS.f d) a :=
 Eq.trans (show f (d + 1) a = run (cx (tab d) rnds) sig rv body a by kernel_rfl) ((m_eq (tab d) rnds a).trans rfl)
end laws_FnExactHeadOf
theorem strings_Split.t_eq (d : Nat) (a : ByteArray × ByteArray) : strings_Split.f (d + 1) a = splitLaw a := by kernel_rfl
theorem tys_ok (t : Nat) : tyOk Tryd.prog t (tys t) = true := by unfold tys; split <;> kernel_rfl
theorem eqts_ok (t : Nat) (h : eqts t = true) : eqOk Tryd.prog t (tys t) = true := by
 have h2 := memN_mem.1 h
 simp only [List.mem_cons, List.not_mem_nil, or_false] at h2
theorem mix_ok : Tryd.prog.follows .mixedOrders = true := by kernel_rfl
theorem sig_ok (f : Nat) : ∀ r ∈ (fns f).sig.rs, 0 < r.2.length := by
 have h : (fns f).sig.rs.all (fun r => decide (0 < r.2.length)) = true := by unfold fns; split <;> kernel_rfl
 intro r hr
 simpa using List.all_eq_true.1 h r hr
theorem fn_ok (f : Nat) : FnOk Tryd.prog f (fns f) := by
 unfold fns
 split
 ·exact .inl ⟨Tryd.f35, Tryd.func35, by kernel_rfl, by kernel_rfl, by decide +kernel, by decide +kernel⟩
 ·exact .inl ⟨Tryd.f22, Tryd.func22, by kernel_rfl, by kernel_rfl, by decide +kernel, by decide +kernel⟩
 ·exact .inl ⟨Tryd.f23, Tryd.func23, by kernel_rfl, by kernel_rfl, by decide +kernel, by decide +kernel⟩
 ·exact .inl ⟨Tryd.f36, Tryd.func36, by kernel_rfl, by kernel_rfl, by decide +kernel, by decide +kernel⟩
 ·exact .inl ⟨Tryd.f24, Tryd.func24, by kernel_rfl, by kernel_rfl, by decide +kernel, by decide +kernel⟩
 ·exact .inl ⟨Tryd.f13, Tryd.func13, by kernel_rfl, by kernel_rfl, by decide +kernel, by decide +kernel⟩
 ·exact .inl ⟨Tryd.f4, Tryd.func4, by kernel_rfl, by kernel_rfl, by decide +kernel, by decide +kernel⟩
 ·exact .inl ⟨Tryd.f26, Tryd.func26, by kernel_rfl, by kernel_rfl, by decide +kernel, by decide +kernel⟩
 ·exact .inl ⟨Tryd.f60, Tryd.func60, by kernel_rfl, by kernel_rfl, by decide +kernel, by decide +kernel⟩
 ·exact .inl ⟨Tryd.f61, Tryd.func61, by kernel_rfl, by kernel_rfl, by decide +kernel, by decide +kernel⟩
 ·exact .inl ⟨Tryd.f56, Tryd.func56, by kernel_rfl, by kernel_rfl, by decide +kernel, by decide +kernel⟩
 ·exact .inl ⟨Tryd.f57, Tryd.func57, by kernel_rfl, by kernel_rfl, by decide +kernel, by decide +kernel⟩
 ·exact .inl ⟨Tryd.f52, Tryd.func52, by kernel_rfl, by kernel_rfl, by decide +kernel, by decide +kernel⟩
 ·exact .inl ⟨Tryd.f45, Tryd.func45, by kernel_rfl, by kernel_rfl, by decide +kernel, by decide +kernel⟩
 ·exact .inl ⟨Tryd.f46, Tryd.func46, by kernel_rfl, by kernel_rfl, by decide +kernel, by decide +kernel⟩
 ·exact .inl ⟨Tryd.f53, Tryd.func53, by kernel_rfl, by kernel_rfl, by decide +kernel, by decide +kernel⟩
 ·exact .inl ⟨Tryd.f47, Tryd.func47, by kernel_rfl, by kernel_rfl, by decide +kernel, by decide +kernel⟩
 ·exact .inl ⟨Tryd.f54, Tryd.func54, by kernel_rfl, by kernel_rfl, by decide +kernel, by decide +kernel⟩
 ·exact .inl ⟨Tryd.f48, Tryd.func48, by kernel_rfl, by kernel_rfl, by decide +kernel, by decide +kernel⟩
 ·exact .inl ⟨Tryd.f37, Tryd.func37, by kernel_rfl, by kernel_rfl, by decide +kernel, by decide +kernel⟩
 ·exact .inl ⟨Tryd.f25, Tryd.func25, by kernel_rfl, by kernel_rfl, by decide +kernel, by decide +kernel⟩
 ·exact .inl ⟨Tryd.f14, Tryd.func14, by kernel_rfl, by kernel_rfl, by decide +kernel, by decide +kernel⟩
 ·exact .inl ⟨Tryd.f5, Tryd.func5, by kernel_rfl, by kernel_rfl, by decide +kernel, by decide +kernel⟩
 ·exact .inl ⟨Tryd.f38, Tryd.func38, by kernel_rfl, by kernel_rfl, by decide +kernel, by decide +kernel⟩
 ·exact .inl ⟨Tryd.f27, Tryd.func27, by kernel_rfl, by kernel_rfl, by decide +kernel, by decide +kernel⟩
 ·exact .inl ⟨Tryd.f39, Tryd.func39, by kernel_rfl, by kernel_rfl, by decide +kernel, by decide +kernel⟩
 ·exact .inl ⟨Tryd.f28, Tryd.func28, by kernel_rfl, by kernel_rfl, by decide +kernel, by decide +kernel⟩
 ·exact .inl ⟨Tryd.f40, Tryd.func40, by kernel_rfl, by kernel_rfl, by decide +kernel, by decide +kernel⟩
 ·exact .inl ⟨Tryd.f29, Tryd.func29, by kernel_rfl, by kernel_rfl, by decide +kernel, by decide +kernel⟩
 ·exact .inl ⟨Tryd.f15, Tryd.func15, by kernel_rfl, by kernel_rfl, by decide +kernel, by decide +kernel⟩
 ·exact .inl ⟨Tryd.f6, Tryd.func6, by kernel_rfl, by kernel_rfl, by decide +kernel, by decide +kernel⟩
 ·exact .inl ⟨Tryd.f31, Tryd.func31, by kernel_rfl, by kernel_rfl, by decide +kernel, by decide +kernel⟩
 ·exact .inl ⟨Tryd.f63, Tryd.func63, by kernel_rfl, by kernel_rfl, by decide +kernel, by decide +kernel⟩
 ·exact .inl ⟨Tryd.f64, Tryd.func64, by kernel_rfl, by kernel_rfl, by decide +kernel, by decide +kernel⟩
 ·exact .inl ⟨Tryd.f59, Tryd.func59, by kernel_rfl, by kernel_rfl, by decide +kernel, by decide +kernel⟩
 ·exact .inl ⟨Tryd.f55, Tryd.func55, by kernel_rfl, by kernel_rfl, by decide +kernel, by decide +kernel⟩
 ·exact .inl ⟨Tryd.f49, Tryd.func49, by kernel_rfl, by kernel_rfl, by decide +kernel, by decide +kernel⟩
 ·exact .inl ⟨Tryd.f50, Tryd.func50, by kernel_rfl, by kernel_rfl, by decide +kernel, by decide +kernel⟩
 ·exact .inl ⟨Tryd.f51, Tryd.func51, by kernel_rfl, by kernel_rfl, by decide +kernel, by decide +kernel⟩
 ·exact .inl ⟨Tryd.f41, Tryd.func41, by kernel_rfl, by kernel_rfl, by decide +kernel, by decide +kernel⟩
 ·exact .inl ⟨Tryd.f30, Tryd.func30, by kernel_rfl, by kernel_rfl, by decide +kernel, by decide +kernel⟩
 ·exact .inl ⟨Tryd.f16, Tryd.func16, by kernel_rfl, by kernel_rfl, by decide +kernel, by decide +kernel⟩
 ·exact .inl ⟨Tryd.f7, Tryd.func7, by kernel_rfl, by kernel_rfl, by decide +kernel, by decide +kernel⟩
 ·exact .inl ⟨Tryd.f8, Tryd.func8, by kernel_rfl, by kernel_rfl, by decide +kernel, by decide +kernel⟩
 ·exact .inl ⟨Tryd.f42, Tryd.func42, by kernel_rfl, by kernel_rfl, by decide +kernel, by decide +kernel⟩
 ·exact .inl ⟨Tryd.f32, Tryd.func32, by kernel_rfl, by kernel_rfl, by decide +kernel, by decide +kernel⟩
 ·exact .inl ⟨Tryd.f43, Tryd.func43, by kernel_rfl, by kernel_rfl, by decide +kernel, by decide +kernel⟩
 ·exact .inl ⟨Tryd.f33, Tryd.func33, by kernel_rfl, by kernel_rfl, by decide +kernel, by decide +kernel⟩
 ·exact .inl ⟨Tryd.f44, Tryd.func44, by kernel_rfl, by kernel_rfl, by decide +kernel, by decide +kernel⟩
 ·exact .inl ⟨Tryd.f34, Tryd.func34, by kernel_rfl, by kernel_rfl, by decide +kernel, by decide +kernel⟩
 ·exact .inl ⟨Tryd.f17, Tryd.func17, by kernel_rfl, by kernel_rfl, by decide +kernel, by decide +kernel⟩
 ·exact .inl ⟨Tryd.f9, Tryd.func9, by kernel_rfl, by kernel_rfl, by decide +kernel, by decide +kernel⟩
 ·exact .inl ⟨Tryd.f18, Tryd.func18, by kernel_rfl, by kernel_rfl, by decide +kernel, by decide +kernel⟩
 ·exact .inl ⟨Tryd.f19, Tryd.func19, by kernel_rfl, by kernel_rfl, by decide +kernel, by decide +kernel⟩
 ·exact .inl ⟨Tryd.f20, Tryd.func20, by kernel_rfl, by kernel_rfl, by decide +kernel, by decide +kernel⟩
 ·exact .inl ⟨Tryd.f21, Tryd.func21, by kernel_rfl, by kernel_rfl, by decide +kernel, by decide +kernel⟩
 ·exact .inl ⟨Tryd.f10, Tryd.func10, by kernel_rfl, by kernel_rfl, by decide +kernel, by decide +kernel⟩
 ·exact .inl ⟨Tryd.f11, Tryd.func11, by kernel_rfl, by kernel_rfl, by decide +kernel, by decide +kernel⟩
 ·exact .inl ⟨Tryd.f12, Tryd.func12, by kernel_rfl, by kernel_rfl, by decide +kernel, by decide +kernel⟩
 ·exact .inl ⟨Tryd.f3, Tryd.func3, by kernel_rfl, by kernel_rfl, by decide +kernel, by decide +kernel⟩
 ·exact .inr ⟨ "", rfl⟩
 ·exact .inr ⟨ "", rfl⟩
theorem ext_ok (f : Nat) (law : TupT (fns f).sig.ins → Option (TupT (fns f).sig.outs)) (h : ext f = some law) : Contract Tryd.prog (fns f).sig f law := by
 unfold ext at h
 split at h
 ·obtain rfl := Option.some.inj h; exact split_ok
 ·cases h
theorem sound (d f : Nat) : Contract Tryd.prog (fns f).sig f (tab d f) := table_sound tys_ok eqts_ok mix_ok sig_ok (fun f _ => fn_ok f) (fun f law h => ext_ok f law h) d f
end
end Go.PV.T
