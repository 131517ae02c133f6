/- Functions of the program by their own lists and numbers. No condition beyond those in each statement. -/
import Derived.Test.YtipehkeabnfngaaDoorPvCHx1
import Derived.Test.YtipehkeabnfngaaDoorPvLibD
import Derived.Test.YtipehkeabnfngaaDoorPvCHx2
set_option linter.unusedVariables false
set_option linter.unusedSimpArgs false
set_option maxRecDepth 100000
set_option linter.unusedVariables false
namespace Go.PV.T
open Go.Proofs
noncomputable section
noncomputable def ext : (f : Nat) → Option (TupT (fns f).sig.ins → Option (TupT (fns f).sig.outs))
  | 64 => some splitLaw
  | 111 => some joinLaw
  | _ => none
noncomputable def tab : Nat → (f : Nat) → TupT (sigs f).ins → Option (TupT (sigs f).outs) := table tys eqts fns ext rnds
noncomputable def strings_Split.f (d : Nat) : (ByteArray × ByteArray) → Option (List ByteArray) := tab d 64
noncomputable def strings_Join.f (d : Nat) : ((List ByteArray) × ByteArray) → Option (ByteArray) := tab d 111
noncomputable def spec_l1In.f (d : Nat) : (Int × Int × Int) → Option Bool := tab d 101
noncomputable def spec_l8Small.f (d : Nat) : Int → Option Bool := tab d 125
noncomputable def spec_l2Digit.f (d : Nat) : Int → Option Bool := tab d 126
noncomputable def spec_l8Name.f (d : Nat) : ByteArray → Option Bool := tab d 137
noncomputable def spec_l9Has.f (d : Nat) : Y1 → Option Bool := tab d 138
noncomputable def spec_l9Word.f (d : Nat) : ByteArray → Option Bool := tab d 107
noncomputable def spec_l9Names.f (d : Nat) : Y3 → Option Bool := tab d 60
noncomputable def spec_l9Types.f (d : Nat) : Y3 → Option Bool := tab d 61
noncomputable def spec_l9Col.f (d : Nat) : Y5 → Option Int := tab d 108
noncomputable def spec_l9Once.f (d : Nat) : Y3 → Option Bool := tab d 62
noncomputable def spec_l9Parts.f (d : Nat) : Y8 → Option Bool := tab d 109
noncomputable def spec_l9AllParts.f (d : Nat) : Y3 → Option Bool := tab d 63
noncomputable def spec_CheckDef.f (d : Nat) : Y3 → Option Int := tab d 23
noncomputable def impl_in.f (d : Nat) : (Int × Int × Int) → Option Bool := tab d 55
noncomputable def impl_isLetter.f (d : Nat) : Int → Option Bool := tab d 93
noncomputable def impl_isDigit.f (d : Nat) : Int → Option Bool := tab d 94
noncomputable def impl_nameOk.f (d : Nat) : ByteArray → Option Bool := tab d 135
noncomputable def impl_isFree.f (d : Nat) : ByteArray → Option Bool := tab d 106
noncomputable def impl_namesOk.f (d : Nat) : Y3 → Option Bool := tab d 54
noncomputable def impl_twice.f (d : Nat) : Y3 → Option Bool := tab d 56
noncomputable def impl_partsOk.f (d : Nat) : Y8 → Option Bool := tab d 57
noncomputable def impl_CheckDef.f (d : Nat) : Y3 → Option Int := tab d 21
noncomputable def laws_big.f (d : Nat) : ((List Int)) → Option Bool := tab d 19
noncomputable def spec_l1New.f (d : Nat) : ((List Int)) → Option ((List Int) × Int × Int) := tab d 52
noncomputable def spec_l1Byte.f (d : Nat) : ((List Int) × Int × Int) → Option (Int × Int × Int) := tab d 134
noncomputable def spec_l1Below.f (d : Nat) : Y18 → Option (Int × Int × Int) := tab d 91
noncomputable def spec_l1Str.f (d : Nat) : Y19 → Option (ByteArray × Int × Int) := tab d 92
noncomputable def spec_l1Once.f (d : Nat) : Y18 → Option (Bool × Int × Int) := tab d 58
noncomputable def spec_l1Int.f (d : Nat) : Y20 → Option (Int × Int × Int) := tab d 96
noncomputable def spec_l9Draw2.f (d : Nat) : Y18 → Option Y21 := tab d 104
noncomputable def spec_l9Draw.f (d : Nat) : Y22 → Option Y23 := tab d 103
noncomputable def spec_l2Num.f (d : Nat) : Int → Option ByteArray := tab d 105
noncomputable def spec_l9Any.f (d : Nat) : ((List Int) × Int × Int) → Option Y23 := tab d 53
noncomputable def spec_DrawCheckDef.f (d : Nat) : ((List Int)) → Option Y3 := tab d 20
noncomputable def spec_l9Copy.f (d : Nat) : Y3 → Option Y3 := tab d 59
noncomputable def spec_DrawSameDef.f (d : Nat) : ((List Int)) → Option Y27 := tab d 22
noncomputable def impl_partsText.f (d : Nat) : Y8 → Option ByteArray := tab d 65
noncomputable def impl_DefText.f (d : Nat) : Y3 → Option ByteArray := tab d 24
noncomputable def spec_l9Type.f (d : Nat) : Int → Option ByteArray := tab d 66
noncomputable def spec_l9PartsText.f (d : Nat) : Y8 → Option ByteArray := tab d 67
noncomputable def spec_DefText.f (d : Nat) : Y3 → Option ByteArray := tab d 25
noncomputable def impl_sameParts.f (d : Nat) : Y32 → Option Bool := tab d 68
noncomputable def impl_SameDef.f (d : Nat) : Y27 → Option Bool := tab d 26
noncomputable def spec_l9SameParts.f (d : Nat) : Y32 → Option Bool := tab d 69
noncomputable def spec_SameDef.f (d : Nat) : Y27 → Option Bool := tab d 27
noncomputable def laws_FnChecks.f (d : Nat) : ((List Int)) → Option Bool := tab d 4
namespace spec_l8Name
noncomputable def S0 (d : Nat) (L0 : (ByteArray × Int) → Option Bool) := s0 (spec_l1In.f d) (spec_l8Small.f d) (spec_l2Digit.f d) L0
end spec_l8Name
namespace spec_l9Has
noncomputable def S0 (d : Nat) (L0 : Y2 → Option Bool) := s0 L0
end spec_l9Has
namespace spec_l9Names
noncomputable def S2 (d : Nat) (L2 : Y4 → Option Bool) := s2 (spec_l9Word.f d) L2
noncomputable def S0 (d : Nat) (L0 : Y4 → Option Bool) := s0 (spec_l9Word.f d) (iter (S2 d) rnds) L0
end spec_l9Names
namespace spec_l9Types
noncomputable def S0 (d : Nat) (L0 : Y4 → Option Bool) := s0 (spec_l1In.f d) L0
end spec_l9Types
namespace spec_l9Col
noncomputable def S0 (d : Nat) (L0 : Y6 → Option Int) := s0 L0
end spec_l9Col
namespace spec_l9Once
noncomputable def S4 (d : Nat) (L2 : Y4 → Option Bool) (L4 : Y7 → Option Bool) := s4 L2 L4
noncomputable def S2 (d : Nat) (L2 : Y4 → Option Bool) := s2 (iter (S4 d L2) rnds) L2
noncomputable def S0 (d : Nat) (L0 : Y4 → Option Bool) := s0 (spec_l9Col.f d) (iter (S2 d) rnds) L0
end spec_l9Once
namespace spec_l9Parts
noncomputable def S0 (d : Nat) (L0 : Y9 → Option Bool) := s0 (spec_l1In.f d) L0
end spec_l9Parts
namespace spec_l9AllParts
noncomputable def S0 (d : Nat) (L0 : Y4 → Option Bool) := s0 (spec_l9Parts.f d) L0
end spec_l9AllParts
namespace spec_CheckDef
noncomputable def S1 (d : Nat) (L1 : Y4 → Option Int) := s1 L1
end spec_CheckDef
namespace impl_nameOk
noncomputable def S0 (d : Nat) (L0 : (ByteArray × Int) → Option Bool) := s0 (impl_in.f d) (impl_isLetter.f d) (impl_isDigit.f d) L0
end impl_nameOk
namespace impl_isFree
noncomputable def S0 (d : Nat) (L0 : Y10 → Option Bool) := s0 (impl_nameOk.f d) L0
end impl_isFree
namespace impl_namesOk
noncomputable def S2 (d : Nat) (L2 : Y11 → Option Bool) := s2 (impl_isFree.f d) L2
noncomputable def S0 (d : Nat) (L0 : Y12 → Option Bool) := s0 (impl_isFree.f d) (iter (S2 d) rnds) L0
end impl_namesOk
namespace impl_twice
noncomputable def S2 (d : Nat) (L0 : Y12 → Option Bool) (L2 : Y13 → Option Bool) := s2 L0 L2
noncomputable def S6 (d : Nat) (L4 : Y11 → Option Bool) (L6 : Y14 → Option Bool) := s6 L4 L6
noncomputable def S4 (d : Nat) (L4 : Y11 → Option Bool) := s4 (iter (S6 d L4) rnds) L4
noncomputable def S0 (d : Nat) (L0 : Y12 → Option Bool) := s0 (iter (S2 d L0) rnds) (iter (S4 d) rnds) L0
end impl_twice
namespace impl_partsOk
noncomputable def S2 (d : Nat) (L0 : Y16 → Option Bool) (L2 : Y15 → Option Bool) := s2 L0 L2
noncomputable def S0 (d : Nat) (L0 : Y16 → Option Bool) := s0 (impl_in.f d) (iter (S2 d L0) rnds) L0
end impl_partsOk
namespace impl_CheckDef
noncomputable def S4 (d : Nat) (L4 : Y17 → Option Int) := s4 L4
noncomputable def S2 (d : Nat) (L2 : Y11 → Option Int) := s2 (impl_partsOk.f d) (iter (S4 d) rnds) L2
noncomputable def S0 (d : Nat) (L0 : Y12 → Option Int) := s0 (impl_in.f d) (impl_twice.f d) (iter (S2 d) rnds) L0
end impl_CheckDef
namespace spec_l1New
noncomputable def S0 (d : Nat) (L0 : ((List Int) × Int × Int) → Option ((List Int) × Int × Int)) := s0 L0
end spec_l1New
namespace spec_l9Draw
noncomputable def S2 (d : Nat) (L2 : Y24 → Option Y23) := s2 (spec_l1Once.f d) (spec_l1Str.f d) (spec_l9Draw2.f d) L2
noncomputable def S0 (d : Nat) (L0 : Y24 → Option Y23) := s0 (spec_l1Once.f d) (spec_l1Below.f d) (iter (S2 d) rnds) L0
end spec_l9Draw
namespace spec_l9Any
noncomputable def S1 (d : Nat) (L1 : Y25 → Option Y23) := s1 (spec_l1Below.f d) (spec_l2Num.f d) L1
end spec_l9Any
namespace spec_l9Copy
noncomputable def S0 (d : Nat) (L0 : Y26 → Option Y3) := s0 L0
end spec_l9Copy
namespace impl_partsText
noncomputable def S0 (d : Nat) (L0 : Y28 → Option ByteArray) := s0 (strings_Join.f d) L0
end impl_partsText
namespace impl_DefText
noncomputable def S2 (d : Nat) (L2 : Y29 → Option ByteArray) := s2 (impl_partsText.f d) L2
noncomputable def S0 (d : Nat) (L0 : Y30 → Option ByteArray) := s0 (strings_Split.f d) (impl_partsText.f d) (iter (S2 d) rnds) L0
end impl_DefText
namespace spec_l9PartsText
noncomputable def S0 (d : Nat) (L0 : Y31 → Option ByteArray) := s0 L0
end spec_l9PartsText
namespace spec_DefText
noncomputable def S2 (d : Nat) (L2 : Y6 → Option ByteArray) := s2 (spec_l9PartsText.f d) L2
noncomputable def S0 (d : Nat) (L0 : Y6 → Option ByteArray) := s0 (spec_l9Type.f d) (spec_l9PartsText.f d) (iter (S2 d) rnds) L0
end spec_DefText
namespace impl_sameParts
noncomputable def S0 (d : Nat) (L0 : Y33 → Option Bool) := s0 L0
end impl_sameParts
namespace impl_SameDef
noncomputable def S2 (d : Nat) (L2 : Y34 → Option Bool) := s2 (impl_sameParts.f d) L2
noncomputable def S0 (d : Nat) (L0 : Y34 → Option Bool) := s0 (iter (S2 d) rnds) L0
end impl_SameDef
namespace spec_l9SameParts
noncomputable def S0 (d : Nat) (L0 : Y35 → Option Bool) := s0 L0
end spec_l9SameParts
namespace spec_SameDef
noncomputable def S2 (d : Nat) (L2 : Y36 → Option Bool) := s2 (spec_l9SameParts.f d) L2
noncomputable def S0 (d : Nat) (L0 : Y36 → Option Bool) := s0 (iter (S2 d) rnds) L0
end spec_SameDef
namespace spec_l1In
theorem t_eq (d : Nat) (a) : f (d + 1) a = m  a :=
  Eq.trans (show f (d + 1) a = run (cx (tab d) rnds) sig rv body a by kernel_rfl) ((m_eq (tab d) rnds a).trans rfl)
end spec_l1In
namespace spec_l8Small
theorem t_eq (d : Nat) (a) : f (d + 1) a = m (spec_l1In.f d) a :=
  Eq.trans (show f (d + 1) a = run (cx (tab d) rnds) sig rv body a by kernel_rfl) ((m_eq (tab d) rnds a).trans rfl)
end spec_l8Small
namespace spec_l2Digit
theorem t_eq (d : Nat) (a) : f (d + 1) a = m (spec_l1In.f d) a :=
  Eq.trans (show f (d + 1) a = run (cx (tab d) rnds) sig rv body a by kernel_rfl) ((m_eq (tab d) rnds a).trans rfl)
end spec_l2Digit
namespace spec_l8Name
theorem S0_eq (d : Nat) : ((fun a => loopK (stp (cx (tab d) rnds) body [1, 0, 1, 0] [] fin) rnds (ll0 a) : (ByteArray × Int) → Option Bool)) = iter (S0 d) rnds :=
  funext (loop_iter ll0 _ (S0 d) (fun (L0 : LS → RT) a => (s0_eq (tab d) rnds L0 a).trans rfl) rnds)
theorem t_eq (d : Nat) (a) : f (d + 1) a = m (iter (S0 d) rnds) a :=
  Eq.trans (show f (d + 1) a = run (cx (tab d) rnds) sig rv body a by kernel_rfl) ((m_eq (tab d) rnds a).trans (congrArg (fun z => m z a) (S0_eq d)))
end spec_l8Name
namespace spec_l9Has
theorem S0_eq (d : Nat) : ((fun a => loopK (stp (cx (tab d) rnds) body [1, 0, 1, 0] [] fin) rnds (ll0 a) : Y2 → Option Bool)) = iter (S0 d) rnds :=
  funext (loop_iter ll0 _ (S0 d) (fun (L0 : LS → RT) a => (s0_eq (tab d) rnds L0 a).trans rfl) rnds)
theorem t_eq (d : Nat) (a) : f (d + 1) a = m (iter (S0 d) rnds) a :=
  Eq.trans (show f (d + 1) a = run (cx (tab d) rnds) sig rv body a by kernel_rfl) ((m_eq (tab d) rnds a).trans (congrArg (fun z => m z a) (S0_eq d)))
end spec_l9Has
namespace spec_l9Word
theorem t_eq (d : Nat) (a) : f (d + 1) a = m (spec_l8Name.f d) (spec_l9Has.f d) a :=
  Eq.trans (show f (d + 1) a = run (cx (tab d) rnds) sig rv body a by kernel_rfl) ((m_eq (tab d) rnds a).trans rfl)
end spec_l9Word
namespace spec_l9Names
theorem S2_eq (d : Nat) : ((fun a => loopK (stp (cx (tab d) rnds) body [1, 1, 0, 1, 0] [] fin) rnds (ll2 a) : Y4 → Option Bool)) = iter (S2 d) rnds :=
  funext (loop_iter ll2 _ (S2 d) (fun (L2 : LS → RT) a => (s2_eq (tab d) rnds L2 a).trans rfl) rnds)
theorem S0_eq (d : Nat) : ((fun a => loopK (stp (cx (tab d) rnds) body [1, 0, 1, 0] [] fin) rnds (ll0 a) : Y4 → Option Bool)) = iter (S0 d) rnds :=
  funext (loop_iter ll0 _ (S0 d) (fun (L0 : LS → RT) a => (s0_eq (tab d) rnds L0 a).trans (congrArg (fun z => s0 (tab d 107) z (fun a => L0 (ll0 a)) a) (S2_eq d))) rnds)
theorem t_eq (d : Nat) (a) : f (d + 1) a = m (iter (S0 d) rnds) a :=
  Eq.trans (show f (d + 1) a = run (cx (tab d) rnds) sig rv body a by kernel_rfl) ((m_eq (tab d) rnds a).trans (congrArg (fun z => m z a) (S0_eq d)))
end spec_l9Names
namespace spec_l9Types
theorem S0_eq (d : Nat) : ((fun a => loopK (stp (cx (tab d) rnds) body [1, 0, 1, 0] [] fin) rnds (ll0 a) : Y4 → Option Bool)) = iter (S0 d) rnds :=
  funext (loop_iter ll0 _ (S0 d) (fun (L0 : LS → RT) a => (s0_eq (tab d) rnds L0 a).trans rfl) rnds)
theorem t_eq (d : Nat) (a) : f (d + 1) a = m (iter (S0 d) rnds) a :=
  Eq.trans (show f (d + 1) a = run (cx (tab d) rnds) sig rv body a by kernel_rfl) ((m_eq (tab d) rnds a).trans (congrArg (fun z => m z a) (S0_eq d)))
end spec_l9Types
namespace spec_l9Col
theorem S0_eq (d : Nat) : ((fun a => loopK (stp (cx (tab d) rnds) body [1, 0, 1, 0] [] fin) rnds (ll0 a) : Y6 → Option Int)) = iter (S0 d) rnds :=
  funext (loop_iter ll0 _ (S0 d) (fun (L0 : LS → RT) a => (s0_eq (tab d) rnds L0 a).trans rfl) rnds)
theorem t_eq (d : Nat) (a) : f (d + 1) a = m (iter (S0 d) rnds) a :=
  Eq.trans (show f (d + 1) a = run (cx (tab d) rnds) sig rv body a by kernel_rfl) ((m_eq (tab d) rnds a).trans (congrArg (fun z => m z a) (S0_eq d)))
end spec_l9Col
namespace spec_l9Once
theorem S4_eq (d : Nat) (L2 : LS → RT) : ((fun a => loopK (stp (cx (tab d) rnds) body [1, 1, 0, 1, 0, 0, 1, 0, 0, 1, 0] [L2] fin) rnds (ll4 a) : Y7 → Option Bool)) = iter (S4 d (fun a => L2 (ll2 a))) rnds :=
  funext (loop_iter ll4 _ (S4 d (fun a => L2 (ll2 a))) (fun (L4 : LS → RT) a => (s4_eq (tab d) rnds L2 L4 a).trans rfl) rnds)
theorem S2_eq (d : Nat) : ((fun a => loopK (stp (cx (tab d) rnds) body [1, 1, 0, 1, 0] [] fin) rnds (ll2 a) : Y4 → Option Bool)) = iter (S2 d) rnds :=
  funext (loop_iter ll2 _ (S2 d) (fun (L2 : LS → RT) a => (s2_eq (tab d) rnds L2 a).trans (congrArg (fun z => s2 z (fun a => L2 (ll2 a)) a) (S4_eq d L2))) rnds)
theorem S0_eq (d : Nat) : ((fun a => loopK (stp (cx (tab d) rnds) body [1, 0, 1, 0] [] fin) rnds (ll0 a) : Y4 → Option Bool)) = iter (S0 d) rnds :=
  funext (loop_iter ll0 _ (S0 d) (fun (L0 : LS → RT) a => (s0_eq (tab d) rnds L0 a).trans (congrArg (fun z => s0 (tab d 108) z (fun a => L0 (ll0 a)) a) (S2_eq d))) rnds)
theorem t_eq (d : Nat) (a) : f (d + 1) a = m (iter (S0 d) rnds) a :=
  Eq.trans (show f (d + 1) a = run (cx (tab d) rnds) sig rv body a by kernel_rfl) ((m_eq (tab d) rnds a).trans (congrArg (fun z => m z a) (S0_eq d)))
end spec_l9Once
namespace spec_l9Parts
theorem S0_eq (d : Nat) : ((fun a => loopK (stp (cx (tab d) rnds) body [1, 0, 1, 0] [] fin) rnds (ll0 a) : Y9 → Option Bool)) = iter (S0 d) rnds :=
  funext (loop_iter ll0 _ (S0 d) (fun (L0 : LS → RT) a => (s0_eq (tab d) rnds L0 a).trans rfl) rnds)
theorem t_eq (d : Nat) (a) : f (d + 1) a = m (iter (S0 d) rnds) a :=
  Eq.trans (show f (d + 1) a = run (cx (tab d) rnds) sig rv body a by kernel_rfl) ((m_eq (tab d) rnds a).trans (congrArg (fun z => m z a) (S0_eq d)))
end spec_l9Parts
namespace spec_l9AllParts
theorem S0_eq (d : Nat) : ((fun a => loopK (stp (cx (tab d) rnds) body [1, 0, 1, 0] [] fin) rnds (ll0 a) : Y4 → Option Bool)) = iter (S0 d) rnds :=
  funext (loop_iter ll0 _ (S0 d) (fun (L0 : LS → RT) a => (s0_eq (tab d) rnds L0 a).trans rfl) rnds)
theorem t_eq (d : Nat) (a) : f (d + 1) a = m (iter (S0 d) rnds) a :=
  Eq.trans (show f (d + 1) a = run (cx (tab d) rnds) sig rv body a by kernel_rfl) ((m_eq (tab d) rnds a).trans (congrArg (fun z => m z a) (S0_eq d)))
end spec_l9AllParts
namespace spec_CheckDef
theorem S1_eq (d : Nat) : ((fun a => loopK (stp (cx (tab d) rnds) body [1, 1, 0, 1, 0] [] fin) rnds (ll1 a) : Y4 → Option Int)) = iter (S1 d) rnds :=
  funext (loop_iter ll1 _ (S1 d) (fun (L1 : LS → RT) a => (s1_eq (tab d) rnds L1 a).trans rfl) rnds)
theorem t_eq (d : Nat) (a) : f (d + 1) a = m (spec_l9Names.f d) (spec_l9Types.f d) (spec_l9Once.f d) (spec_l9AllParts.f d) (iter (S1 d) rnds) a :=
  Eq.trans (show f (d + 1) a = run (cx (tab d) rnds) sig rv body a by kernel_rfl) ((m_eq (tab d) rnds a).trans (congrArg (fun z => m (tab d 60) (tab d 61) (tab d 62) (tab d 63) z a) (S1_eq d)))
end spec_CheckDef
namespace impl_in
theorem t_eq (d : Nat) (a) : f (d + 1) a = m  a :=
  Eq.trans (show f (d + 1) a = run (cx (tab d) rnds) sig rv body a by kernel_rfl) ((m_eq (tab d) rnds a).trans rfl)
end impl_in
namespace impl_isLetter
theorem t_eq (d : Nat) (a) : f (d + 1) a = m  a :=
  Eq.trans (show f (d + 1) a = run (cx (tab d) rnds) sig rv body a by kernel_rfl) ((m_eq (tab d) rnds a).trans rfl)
end impl_isLetter
namespace impl_isDigit
theorem t_eq (d : Nat) (a) : f (d + 1) a = m  a :=
  Eq.trans (show f (d + 1) a = run (cx (tab d) rnds) sig rv body a by kernel_rfl) ((m_eq (tab d) rnds a).trans rfl)
end impl_isDigit
namespace impl_nameOk
theorem S0_eq (d : Nat) : ((fun a => loopK (stp (cx (tab d) rnds) body [1, 0, 1, 0] [] fin) rnds (ll0 a) : (ByteArray × Int) → Option Bool)) = iter (S0 d) rnds :=
  funext (loop_iter ll0 _ (S0 d) (fun (L0 : LS → RT) a => (s0_eq (tab d) rnds L0 a).trans rfl) rnds)
theorem t_eq (d : Nat) (a) : f (d + 1) a = m (iter (S0 d) rnds) a :=
  Eq.trans (show f (d + 1) a = run (cx (tab d) rnds) sig rv body a by kernel_rfl) ((m_eq (tab d) rnds a).trans (congrArg (fun z => m z a) (S0_eq d)))
end impl_nameOk
namespace impl_isFree
theorem S0_eq (d : Nat) : ((fun a => loopK (stp (cx (tab d) rnds) body [1, 0, 1, 0] [] fin) rnds (ll0 a) : Y10 → Option Bool)) = iter (S0 d) rnds :=
  funext (loop_iter ll0 _ (S0 d) (fun (L0 : LS → RT) a => (s0_eq (tab d) rnds L0 a).trans rfl) rnds)
theorem t_eq (d : Nat) (a) : f (d + 1) a = m (strings_Split.f d) (iter (S0 d) rnds) a :=
  Eq.trans (show f (d + 1) a = run (cx (tab d) rnds) sig rv body a by kernel_rfl) ((m_eq (tab d) rnds a).trans (congrArg (fun z => m (tab d 64) z a) (S0_eq d)))
end impl_isFree
namespace impl_namesOk
theorem S2_eq (d : Nat) : ((fun a => loopK (stp (cx (tab d) rnds) body [1, 1, 0, 1, 0] [] fin) rnds (ll2 a) : Y11 → Option Bool)) = iter (S2 d) rnds :=
  funext (loop_iter ll2 _ (S2 d) (fun (L2 : LS → RT) a => (s2_eq (tab d) rnds L2 a).trans rfl) rnds)
theorem S0_eq (d : Nat) : ((fun a => loopK (stp (cx (tab d) rnds) body [1, 0, 1, 0] [] fin) rnds (ll0 a) : Y12 → Option Bool)) = iter (S0 d) rnds :=
  funext (loop_iter ll0 _ (S0 d) (fun (L0 : LS → RT) a => (s0_eq (tab d) rnds L0 a).trans (congrArg (fun z => s0 (tab d 106) z (fun a => L0 (ll0 a)) a) (S2_eq d))) rnds)
theorem t_eq (d : Nat) (a) : f (d + 1) a = m (iter (S0 d) rnds) a :=
  Eq.trans (show f (d + 1) a = run (cx (tab d) rnds) sig rv body a by kernel_rfl) ((m_eq (tab d) rnds a).trans (congrArg (fun z => m z a) (S0_eq d)))
end impl_namesOk
namespace impl_twice
theorem S2_eq (d : Nat) (L0 : LS → RT) : ((fun a => loopK (stp (cx (tab d) rnds) body [1, 0, 1, 0, 0, 1, 1, 0, 0, 1, 1, 0] [L0] fin) rnds (ll2 a) : Y13 → Option Bool)) = iter (S2 d (fun a => L0 (ll0 a))) rnds :=
  funext (loop_iter ll2 _ (S2 d (fun a => L0 (ll0 a))) (fun (L2 : LS → RT) a => (s2_eq (tab d) rnds L0 L2 a).trans rfl) rnds)
theorem S6_eq (d : Nat) (L4 : LS → RT) : ((fun a => loopK (stp (cx (tab d) rnds) body [1, 1, 0, 1, 0, 0, 1, 1, 0, 0, 1, 1, 0] [L4] fin) rnds (ll6 a) : Y14 → Option Bool)) = iter (S6 d (fun a => L4 (ll4 a))) rnds :=
  funext (loop_iter ll6 _ (S6 d (fun a => L4 (ll4 a))) (fun (L6 : LS → RT) a => (s6_eq (tab d) rnds L4 L6 a).trans rfl) rnds)
theorem S4_eq (d : Nat) : ((fun a => loopK (stp (cx (tab d) rnds) body [1, 1, 0, 1, 0] [] fin) rnds (ll4 a) : Y11 → Option Bool)) = iter (S4 d) rnds :=
  funext (loop_iter ll4 _ (S4 d) (fun (L4 : LS → RT) a => (s4_eq (tab d) rnds L4 a).trans (congrArg (fun z => s4 z (fun a => L4 (ll4 a)) a) (S6_eq d L4))) rnds)
theorem S0_eq (d : Nat) : ((fun a => loopK (stp (cx (tab d) rnds) body [1, 0, 1, 0] [] fin) rnds (ll0 a) : Y12 → Option Bool)) = iter (S0 d) rnds :=
  funext (loop_iter ll0 _ (S0 d) (fun (L0 : LS → RT) a => (s0_eq (tab d) rnds L0 a).trans (Eq.trans (congrArg (fun z => s0 z _ (fun a => L0 (ll0 a)) a) (S2_eq d L0)) (congrArg (fun z => s0 _ z (fun a => L0 (ll0 a)) a) (S4_eq d)))) rnds)
theorem t_eq (d : Nat) (a) : f (d + 1) a = m (iter (S0 d) rnds) a :=
  Eq.trans (show f (d + 1) a = run (cx (tab d) rnds) sig rv body a by kernel_rfl) ((m_eq (tab d) rnds a).trans (congrArg (fun z => m z a) (S0_eq d)))
end impl_twice
namespace impl_partsOk
theorem S2_eq (d : Nat) (L0 : LS → RT) : ((fun a => loopK (stp (cx (tab d) rnds) body [1, 0, 1, 0, 0, 1, 1, 0, 0, 1, 1, 1, 0] [L0] fin) rnds (ll2 a) : Y15 → Option Bool)) = iter (S2 d (fun a => L0 (ll0 a))) rnds :=
  funext (loop_iter ll2 _ (S2 d (fun a => L0 (ll0 a))) (fun (L2 : LS → RT) a => (s2_eq (tab d) rnds L0 L2 a).trans rfl) rnds)
theorem S0_eq (d : Nat) : ((fun a => loopK (stp (cx (tab d) rnds) body [1, 0, 1, 0] [] fin) rnds (ll0 a) : Y16 → Option Bool)) = iter (S0 d) rnds :=
  funext (loop_iter ll0 _ (S0 d) (fun (L0 : LS → RT) a => (s0_eq (tab d) rnds L0 a).trans (congrArg (fun z => s0 (tab d 55) z (fun a => L0 (ll0 a)) a) (S2_eq d L0))) rnds)
theorem t_eq (d : Nat) (a) : f (d + 1) a = m (iter (S0 d) rnds) a :=
  Eq.trans (show f (d + 1) a = run (cx (tab d) rnds) sig rv body a by kernel_rfl) ((m_eq (tab d) rnds a).trans (congrArg (fun z => m z a) (S0_eq d)))
end impl_partsOk
namespace impl_CheckDef
theorem S4_eq (d : Nat) : ((fun a => loopK (stp (cx (tab d) rnds) body [1, 1, 1, 1, 1, 1, 1, 1, 0, 1, 0] [] fin) rnds (ll4 a) : Y17 → Option Int)) = iter (S4 d) rnds :=
  funext (loop_iter ll4 _ (S4 d) (fun (L4 : LS → RT) a => (s4_eq (tab d) rnds L4 a).trans rfl) rnds)
theorem S2_eq (d : Nat) : ((fun a => loopK (stp (cx (tab d) rnds) body [1, 1, 1, 1, 1, 1, 0, 1, 0] [] fin) rnds (ll2 a) : Y11 → Option Int)) = iter (S2 d) rnds :=
  funext (loop_iter ll2 _ (S2 d) (fun (L2 : LS → RT) a => (s2_eq (tab d) rnds L2 a).trans (congrArg (fun z => s2 (tab d 57) z (fun a => L2 (ll2 a)) a) (S4_eq d))) rnds)
theorem S0_eq (d : Nat) : ((fun a => loopK (stp (cx (tab d) rnds) body [1, 1, 1, 0, 1, 0] [] fin) rnds (ll0 a) : Y12 → Option Int)) = iter (S0 d) rnds :=
  funext (loop_iter ll0 _ (S0 d) (fun (L0 : LS → RT) a => (s0_eq (tab d) rnds L0 a).trans (congrArg (fun z => s0 (tab d 55) (tab d 56) z (fun a => L0 (ll0 a)) a) (S2_eq d))) rnds)
theorem t_eq (d : Nat) (a) : f (d + 1) a = m (impl_namesOk.f d) (impl_in.f d) (iter (S0 d) rnds) a :=
  Eq.trans (show f (d + 1) a = run (cx (tab d) rnds) sig rv body a by kernel_rfl) ((m_eq (tab d) rnds a).trans (congrArg (fun z => m (tab d 54) (tab d 55) z a) (S0_eq d)))
end impl_CheckDef
namespace laws_big
theorem t_eq (d : Nat) (a) : f (d + 1) a = m  a :=
  Eq.trans (show f (d + 1) a = run (cx (tab d) rnds) sig rv body a by kernel_rfl) ((m_eq (tab d) rnds a).trans rfl)
end laws_big
namespace spec_l1New
theorem S0_eq (d : Nat) : ((fun a => loopK (stp (cx (tab d) rnds) body [1, 1, 0, 1, 0] [] fin) rnds (ll0 a) : ((List Int) × Int × Int) → Option ((List Int) × Int × Int))) = iter (S0 d) rnds :=
  funext (loop_iter ll0 _ (S0 d) (fun (L0 : LS → RT) a => (s0_eq (tab d) rnds L0 a).trans rfl) rnds)
theorem t_eq (d : Nat) (a) : f (d + 1) a = m (iter (S0 d) rnds) a :=
  Eq.trans (show f (d + 1) a = run (cx (tab d) rnds) sig rv body a by kernel_rfl) ((m_eq (tab d) rnds a).trans (congrArg (fun z => m z a) (S0_eq d)))
end spec_l1New
namespace spec_l1Byte
theorem t_eq (d : Nat) (a) : f (d + 1) a = m  a :=
  Eq.trans (show f (d + 1) a = run (cx (tab d) rnds) sig rv body a by kernel_rfl) ((m_eq (tab d) rnds a).trans rfl)
end spec_l1Byte
namespace spec_l1Below
theorem t_eq (d : Nat) (a) : f (d + 1) a = m (spec_l1Byte.f d) a :=
  Eq.trans (show f (d + 1) a = run (cx (tab d) rnds) sig rv body a by kernel_rfl) ((m_eq (tab d) rnds a).trans rfl)
end spec_l1Below
namespace spec_l1Str
theorem t_eq (d : Nat) (a) : f (d + 1) a = m (spec_l1Below.f d) a :=
  Eq.trans (show f (d + 1) a = run (cx (tab d) rnds) sig rv body a by kernel_rfl) ((m_eq (tab d) rnds a).trans rfl)
end spec_l1Str
namespace spec_l1Once
theorem t_eq (d : Nat) (a) : f (d + 1) a = m (spec_l1Below.f d) a :=
  Eq.trans (show f (d + 1) a = run (cx (tab d) rnds) sig rv body a by kernel_rfl) ((m_eq (tab d) rnds a).trans rfl)
end spec_l1Once
namespace spec_l1Int
theorem t_eq (d : Nat) (a) : f (d + 1) a = m (spec_l1Below.f d) a :=
  Eq.trans (show f (d + 1) a = run (cx (tab d) rnds) sig rv body a by kernel_rfl) ((m_eq (tab d) rnds a).trans rfl)
end spec_l1Int
namespace spec_l9Draw2
theorem t_eq (d : Nat) (a) : f (d + 1) a = m (spec_l1Once.f d) (spec_l1Below.f d) a :=
  Eq.trans (show f (d + 1) a = run (cx (tab d) rnds) sig rv body a by kernel_rfl) ((m_eq (tab d) rnds a).trans rfl)
end spec_l9Draw2
namespace spec_l9Draw
theorem S2_eq (d : Nat) : ((fun a => loopK (stp (cx (tab d) rnds) body [1, 1, 1, 1, 1, 1, 0, 1, 0] [] fin) rnds (ll2 a) : Y24 → Option Y23)) = iter (S2 d) rnds :=
  funext (loop_iter ll2 _ (S2 d) (fun (L2 : LS → RT) a => (s2_eq (tab d) rnds L2 a).trans rfl) rnds)
theorem S0_eq (d : Nat) : ((fun a => loopK (stp (cx (tab d) rnds) body [1, 1, 1, 0, 1, 0] [] fin) rnds (ll0 a) : Y24 → Option Y23)) = iter (S0 d) rnds :=
  funext (loop_iter ll0 _ (S0 d) (fun (L0 : LS → RT) a => (s0_eq (tab d) rnds L0 a).trans (congrArg (fun z => s0 (tab d 58) (tab d 91) z (fun a => L0 (ll0 a)) a) (S2_eq d))) rnds)
theorem t_eq (d : Nat) (a) : f (d + 1) a = m (spec_l1Int.f d) (iter (S0 d) rnds) a :=
  Eq.trans (show f (d + 1) a = run (cx (tab d) rnds) sig rv body a by kernel_rfl) ((m_eq (tab d) rnds a).trans (congrArg (fun z => m (tab d 96) z a) (S0_eq d)))
end spec_l9Draw
namespace spec_l2Num
theorem t_eq (d : Nat) (a) : f (d + 1) a = m (spec_l2Num.f d) a :=
  Eq.trans (show f (d + 1) a = run (cx (tab d) rnds) sig rv body a by kernel_rfl) ((m_eq (tab d) rnds a).trans rfl)
end spec_l2Num
namespace spec_l9Any
theorem S1_eq (d : Nat) : ((fun a => loopK (stp (cx (tab d) rnds) body [1, 1, 1, 0, 1, 0, 1, 1, 1, 1, 1, 1, 1, 1, 1, 1, 1, 1, 1, 1, 1, 1, 1, 0, 0] [] fin) rnds (ll1 a) : Y25 → Option Y23)) = iter (S1 d) rnds :=
  funext (loop_iter ll1 _ (S1 d) (fun (L1 : LS → RT) a => (s1_eq (tab d) rnds L1 a).trans rfl) rnds)
theorem t_eq (d : Nat) (a) : f (d + 1) a = m (spec_l1Below.f d) (spec_l1Str.f d) (spec_l9Draw.f d) (spec_l9Draw2.f d) (iter (S1 d) rnds) a :=
  Eq.trans (show f (d + 1) a = run (cx (tab d) rnds) sig rv body a by kernel_rfl) ((m_eq (tab d) rnds a).trans (congrArg (fun z => m (tab d 91) (tab d 92) (tab d 103) (tab d 104) z a) (S1_eq d)))
end spec_l9Any
namespace spec_DrawCheckDef
theorem t_eq (d : Nat) (a) : f (d + 1) a = m (spec_l1New.f d) (spec_l9Any.f d) a :=
  Eq.trans (show f (d + 1) a = run (cx (tab d) rnds) sig rv body a by kernel_rfl) ((m_eq (tab d) rnds a).trans rfl)
end spec_DrawCheckDef
namespace spec_l9Copy
theorem S0_eq (d : Nat) : ((fun a => loopK (stp (cx (tab d) rnds) body [1, 1, 0, 1, 0] [] fin) rnds (ll0 a) : Y26 → Option Y3)) = iter (S0 d) rnds :=
  funext (loop_iter ll0 _ (S0 d) (fun (L0 : LS → RT) a => (s0_eq (tab d) rnds L0 a).trans rfl) rnds)
theorem t_eq (d : Nat) (a) : f (d + 1) a = m (iter (S0 d) rnds) a :=
  Eq.trans (show f (d + 1) a = run (cx (tab d) rnds) sig rv body a by kernel_rfl) ((m_eq (tab d) rnds a).trans (congrArg (fun z => m z a) (S0_eq d)))
end spec_l9Copy
namespace spec_DrawSameDef
theorem t_eq (d : Nat) (a) : f (d + 1) a = m (spec_l1New.f d) (spec_l9Any.f d) (spec_l1Once.f d) (spec_l9Copy.f d) a :=
  Eq.trans (show f (d + 1) a = run (cx (tab d) rnds) sig rv body a by kernel_rfl) ((m_eq (tab d) rnds a).trans rfl)
end spec_DrawSameDef
namespace impl_partsText
theorem S0_eq (d : Nat) : ((fun a => loopK (stp (cx (tab d) rnds) body [1, 1, 0, 1, 0] [] fin) rnds (ll0 a) : Y28 → Option ByteArray)) = iter (S0 d) rnds :=
  funext (loop_iter ll0 _ (S0 d) (fun (L0 : LS → RT) a => (s0_eq (tab d) rnds L0 a).trans rfl) rnds)
theorem t_eq (d : Nat) (a) : f (d + 1) a = m (iter (S0 d) rnds) a :=
  Eq.trans (show f (d + 1) a = run (cx (tab d) rnds) sig rv body a by kernel_rfl) ((m_eq (tab d) rnds a).trans (congrArg (fun z => m z a) (S0_eq d)))
end impl_partsText
namespace impl_DefText
theorem S2_eq (d : Nat) : ((fun a => loopK (stp (cx (tab d) rnds) body [1, 1, 1, 1, 1, 0, 1, 0] [] fin) rnds (ll2 a) : Y29 → Option ByteArray)) = iter (S2 d) rnds :=
  funext (loop_iter ll2 _ (S2 d) (fun (L2 : LS → RT) a => (s2_eq (tab d) rnds L2 a).trans rfl) rnds)
theorem S0_eq (d : Nat) : ((fun a => loopK (stp (cx (tab d) rnds) body [1, 1, 1, 0, 1, 0] [] fin) rnds (ll0 a) : Y30 → Option ByteArray)) = iter (S0 d) rnds :=
  funext (loop_iter ll0 _ (S0 d) (fun (L0 : LS → RT) a => (s0_eq (tab d) rnds L0 a).trans (congrArg (fun z => s0 (tab d 64) (tab d 65) z (fun a => L0 (ll0 a)) a) (S2_eq d))) rnds)
theorem t_eq (d : Nat) (a) : f (d + 1) a = m (impl_CheckDef.f d) (iter (S0 d) rnds) a :=
  Eq.trans (show f (d + 1) a = run (cx (tab d) rnds) sig rv body a by kernel_rfl) ((m_eq (tab d) rnds a).trans (congrArg (fun z => m (tab d 21) z a) (S0_eq d)))
end impl_DefText
namespace spec_l9Type
theorem t_eq (d : Nat) (a) : f (d + 1) a = m  a :=
  Eq.trans (show f (d + 1) a = run (cx (tab d) rnds) sig rv body a by kernel_rfl) ((m_eq (tab d) rnds a).trans rfl)
end spec_l9Type
namespace spec_l9PartsText
theorem S0_eq (d : Nat) : ((fun a => loopK (stp (cx (tab d) rnds) body [1, 1, 0, 1, 0] [] fin) rnds (ll0 a) : Y31 → Option ByteArray)) = iter (S0 d) rnds :=
  funext (loop_iter ll0 _ (S0 d) (fun (L0 : LS → RT) a => (s0_eq (tab d) rnds L0 a).trans rfl) rnds)
theorem t_eq (d : Nat) (a) : f (d + 1) a = m (iter (S0 d) rnds) a :=
  Eq.trans (show f (d + 1) a = run (cx (tab d) rnds) sig rv body a by kernel_rfl) ((m_eq (tab d) rnds a).trans (congrArg (fun z => m z a) (S0_eq d)))
end spec_l9PartsText
namespace spec_DefText
theorem S2_eq (d : Nat) : ((fun a => loopK (stp (cx (tab d) rnds) body [1, 1, 1, 1, 1, 0, 1, 0] [] fin) rnds (ll2 a) : Y6 → Option ByteArray)) = iter (S2 d) rnds :=
  funext (loop_iter ll2 _ (S2 d) (fun (L2 : LS → RT) a => (s2_eq (tab d) rnds L2 a).trans rfl) rnds)
theorem S0_eq (d : Nat) : ((fun a => loopK (stp (cx (tab d) rnds) body [1, 1, 1, 0, 1, 0] [] fin) rnds (ll0 a) : Y6 → Option ByteArray)) = iter (S0 d) rnds :=
  funext (loop_iter ll0 _ (S0 d) (fun (L0 : LS → RT) a => (s0_eq (tab d) rnds L0 a).trans (congrArg (fun z => s0 (tab d 66) (tab d 67) z (fun a => L0 (ll0 a)) a) (S2_eq d))) rnds)
theorem t_eq (d : Nat) (a) : f (d + 1) a = m (spec_CheckDef.f d) (iter (S0 d) rnds) a :=
  Eq.trans (show f (d + 1) a = run (cx (tab d) rnds) sig rv body a by kernel_rfl) ((m_eq (tab d) rnds a).trans (congrArg (fun z => m (tab d 23) z a) (S0_eq d)))
end spec_DefText
namespace impl_sameParts
theorem S0_eq (d : Nat) : ((fun a => loopK (stp (cx (tab d) rnds) body [1, 1, 0, 1, 0] [] fin) rnds (ll0 a) : Y33 → Option Bool)) = iter (S0 d) rnds :=
  funext (loop_iter ll0 _ (S0 d) (fun (L0 : LS → RT) a => (s0_eq (tab d) rnds L0 a).trans rfl) rnds)
theorem t_eq (d : Nat) (a) : f (d + 1) a = m (iter (S0 d) rnds) a :=
  Eq.trans (show f (d + 1) a = run (cx (tab d) rnds) sig rv body a by kernel_rfl) ((m_eq (tab d) rnds a).trans (congrArg (fun z => m z a) (S0_eq d)))
end impl_sameParts
namespace impl_SameDef
theorem S2_eq (d : Nat) : ((fun a => loopK (stp (cx (tab d) rnds) body [1, 1, 1, 0, 1, 0] [] fin) rnds (ll2 a) : Y34 → Option Bool)) = iter (S2 d) rnds :=
  funext (loop_iter ll2 _ (S2 d) (fun (L2 : LS → RT) a => (s2_eq (tab d) rnds L2 a).trans rfl) rnds)
theorem S0_eq (d : Nat) : ((fun a => loopK (stp (cx (tab d) rnds) body [1, 1, 0, 1, 0] [] fin) rnds (ll0 a) : Y34 → Option Bool)) = iter (S0 d) rnds :=
  funext (loop_iter ll0 _ (S0 d) (fun (L0 : LS → RT) a => (s0_eq (tab d) rnds L0 a).trans (congrArg (fun z => s0 z (fun a => L0 (ll0 a)) a) (S2_eq d))) rnds)
theorem t_eq (d : Nat) (a) : f (d + 1) a = m (impl_sameParts.f d) (iter (S0 d) rnds) a :=
  Eq.trans (show f (d + 1) a = run (cx (tab d) rnds) sig rv body a by kernel_rfl) ((m_eq (tab d) rnds a).trans (congrArg (fun z => m (tab d 68) z a) (S0_eq d)))
end impl_SameDef
namespace spec_l9SameParts
theorem S0_eq (d : Nat) : ((fun a => loopK (stp (cx (tab d) rnds) body [1, 1, 0, 1, 0] [] fin) rnds (ll0 a) : Y35 → Option Bool)) = iter (S0 d) rnds :=
  funext (loop_iter ll0 _ (S0 d) (fun (L0 : LS → RT) a => (s0_eq (tab d) rnds L0 a).trans rfl) rnds)
theorem t_eq (d : Nat) (a) : f (d + 1) a = m (iter (S0 d) rnds) a :=
  Eq.trans (show f (d + 1) a = run (cx (tab d) rnds) sig rv body a by kernel_rfl) ((m_eq (tab d) rnds a).trans (congrArg (fun z => m z a) (S0_eq d)))
end spec_l9SameParts
namespace spec_SameDef
theorem S2_eq (d : Nat) : ((fun a => loopK (stp (cx (tab d) rnds) body [1, 1, 1, 0, 1, 0] [] fin) rnds (ll2 a) : Y36 → Option Bool)) = iter (S2 d) rnds :=
  funext (loop_iter ll2 _ (S2 d) (fun (L2 : LS → RT) a => (s2_eq (tab d) rnds L2 a).trans rfl) rnds)
theorem S0_eq (d : Nat) : ((fun a => loopK (stp (cx (tab d) rnds) body [1, 1, 0, 1, 0] [] fin) rnds (ll0 a) : Y36 → Option Bool)) = iter (S0 d) rnds :=
  funext (loop_iter ll0 _ (S0 d) (fun (L0 : LS → RT) a => (s0_eq (tab d) rnds L0 a).trans (congrArg (fun z => s0 z (fun a => L0 (ll0 a)) a) (S2_eq d))) rnds)
theorem t_eq (d : Nat) (a) : f (d + 1) a = m (spec_l9SameParts.f d) (iter (S0 d) rnds) a :=
  Eq.trans (show f (d + 1) a = run (cx (tab d) rnds) sig rv body a by kernel_rfl) ((m_eq (tab d) rnds a).trans (congrArg (fun z => m (tab d 69) z a) (S0_eq d)))
end spec_SameDef
namespace laws_FnChecks
theorem t_eq (d : Nat) (a) : f (d + 1) a = m (laws_big.f d) (spec_DrawCheckDef.f d) (impl_CheckDef.f d) (spec_DrawSameDef.f d) (spec_CheckDef.f d) (impl_DefText.f d) (spec_DefText.f d) (impl_SameDef.f d) (spec_SameDef.f d) a :=
  Eq.trans (show f (d + 1) a = run (cx (tab d) rnds) sig rv body a by kernel_rfl) ((m_eq (tab d) rnds a).trans rfl)
end laws_FnChecks
theorem strings_Split.t_eq (d : Nat) (a : ByteArray × ByteArray) : strings_Split.f (d + 1) a = splitLaw a := by kernel_rfl
theorem strings_Join.t_eq (d : Nat) (a : (List ByteArray) × ByteArray) : strings_Join.f (d + 1) a = joinLaw a := by kernel_rfl
theorem tys_ok (t : Nat) : tyOk Tryd.prog t (tys t) = true := by unfold tys; split <;> kernel_rfl
theorem eqts_ok (t : Nat) (h : eqts t = true) : eqOk Tryd.prog t (tys t) = true := by
  have h2 := memN_mem.1 h
  simp only [List.mem_cons, List.not_mem_nil, or_false] at h2
  rcases h2 with rfl | rfl <;> (show _ = true; kernel_rfl)
theorem mix_ok : Tryd.prog.follows .mixedOrders = true := by kernel_rfl
theorem sig_ok (f : Nat) : ∀ r ∈ (fns f).sig.rs, 0 < r.2.length := by
  have h : (fns f).sig.rs.all (fun r => decide (0 < r.2.length)) = true := by unfold fns; split <;> kernel_rfl
  intro r hr
  simpa using List.all_eq_true.1 h r hr
theorem fn_ok (f : Nat) : FnOk Tryd.prog f (fns f) := by
  unfold fns
  split
  · exact .inl ⟨Tryd.f101, Tryd.func101, by kernel_rfl, by kernel_rfl, by decide +kernel, by decide +kernel⟩
  · exact .inl ⟨Tryd.f125, Tryd.func125, by kernel_rfl, by kernel_rfl, by decide +kernel, by decide +kernel⟩
  · exact .inl ⟨Tryd.f126, Tryd.func126, by kernel_rfl, by kernel_rfl, by decide +kernel, by decide +kernel⟩
  · exact .inl ⟨Tryd.f137, Tryd.func137, by kernel_rfl, by kernel_rfl, by decide +kernel, by decide +kernel⟩
  · exact .inl ⟨Tryd.f138, Tryd.func138, by kernel_rfl, by kernel_rfl, by decide +kernel, by decide +kernel⟩
  · exact .inl ⟨Tryd.f107, Tryd.func107, by kernel_rfl, by kernel_rfl, by decide +kernel, by decide +kernel⟩
  · exact .inl ⟨Tryd.f60, Tryd.func60, by kernel_rfl, by kernel_rfl, by decide +kernel, by decide +kernel⟩
  · exact .inl ⟨Tryd.f61, Tryd.func61, by kernel_rfl, by kernel_rfl, by decide +kernel, by decide +kernel⟩
  · exact .inl ⟨Tryd.f108, Tryd.func108, by kernel_rfl, by kernel_rfl, by decide +kernel, by decide +kernel⟩
  · exact .inl ⟨Tryd.f62, Tryd.func62, by kernel_rfl, by kernel_rfl, by decide +kernel, by decide +kernel⟩
  · exact .inl ⟨Tryd.f109, Tryd.func109, by kernel_rfl, by kernel_rfl, by decide +kernel, by decide +kernel⟩
  · exact .inl ⟨Tryd.f63, Tryd.func63, by kernel_rfl, by kernel_rfl, by decide +kernel, by decide +kernel⟩
  · exact .inl ⟨Tryd.f23, Tryd.func23, by kernel_rfl, by kernel_rfl, by decide +kernel, by decide +kernel⟩
  · exact .inl ⟨Tryd.f55, Tryd.func55, by kernel_rfl, by kernel_rfl, by decide +kernel, by decide +kernel⟩
  · exact .inl ⟨Tryd.f93, Tryd.func93, by kernel_rfl, by kernel_rfl, by decide +kernel, by decide +kernel⟩
  · exact .inl ⟨Tryd.f94, Tryd.func94, by kernel_rfl, by kernel_rfl, by decide +kernel, by decide +kernel⟩
  · exact .inl ⟨Tryd.f135, Tryd.func135, by kernel_rfl, by kernel_rfl, by decide +kernel, by decide +kernel⟩
  · exact .inl ⟨Tryd.f106, Tryd.func106, by kernel_rfl, by kernel_rfl, by decide +kernel, by decide +kernel⟩
  · exact .inl ⟨Tryd.f54, Tryd.func54, by kernel_rfl, by kernel_rfl, by decide +kernel, by decide +kernel⟩
  · exact .inl ⟨Tryd.f56, Tryd.func56, by kernel_rfl, by kernel_rfl, by decide +kernel, by decide +kernel⟩
  · exact .inl ⟨Tryd.f57, Tryd.func57, by kernel_rfl, by kernel_rfl, by decide +kernel, by decide +kernel⟩
  · exact .inl ⟨Tryd.f21, Tryd.func21, by kernel_rfl, by kernel_rfl, by decide +kernel, by decide +kernel⟩
  · exact .inl ⟨Tryd.f19, Tryd.func19, by kernel_rfl, by kernel_rfl, by decide +kernel, by decide +kernel⟩
  · exact .inl ⟨Tryd.f52, Tryd.func52, by kernel_rfl, by kernel_rfl, by decide +kernel, by decide +kernel⟩
  · exact .inl ⟨Tryd.f134, Tryd.func134, by kernel_rfl, by kernel_rfl, by decide +kernel, by decide +kernel⟩
  · exact .inl ⟨Tryd.f91, Tryd.func91, by kernel_rfl, by kernel_rfl, by decide +kernel, by decide +kernel⟩
  · exact .inl ⟨Tryd.f92, Tryd.func92, by kernel_rfl, by kernel_rfl, by decide +kernel, by decide +kernel⟩
  · exact .inl ⟨Tryd.f58, Tryd.func58, by kernel_rfl, by kernel_rfl, by decide +kernel, by decide +kernel⟩
  · exact .inl ⟨Tryd.f96, Tryd.func96, by kernel_rfl, by kernel_rfl, by decide +kernel, by decide +kernel⟩
  · exact .inl ⟨Tryd.f104, Tryd.func104, by kernel_rfl, by kernel_rfl, by decide +kernel, by decide +kernel⟩
  · exact .inl ⟨Tryd.f103, Tryd.func103, by kernel_rfl, by kernel_rfl, by decide +kernel, by decide +kernel⟩
  · exact .inl ⟨Tryd.f105, Tryd.func105, by kernel_rfl, by kernel_rfl, by decide +kernel, by decide +kernel⟩
  · exact .inl ⟨Tryd.f53, Tryd.func53, by kernel_rfl, by kernel_rfl, by decide +kernel, by decide +kernel⟩
  · exact .inl ⟨Tryd.f20, Tryd.func20, by kernel_rfl, by kernel_rfl, by decide +kernel, by decide +kernel⟩
  · exact .inl ⟨Tryd.f59, Tryd.func59, by kernel_rfl, by kernel_rfl, by decide +kernel, by decide +kernel⟩
  · exact .inl ⟨Tryd.f22, Tryd.func22, by kernel_rfl, by kernel_rfl, by decide +kernel, by decide +kernel⟩
  · exact .inl ⟨Tryd.f65, Tryd.func65, by kernel_rfl, by kernel_rfl, by decide +kernel, by decide +kernel⟩
  · exact .inl ⟨Tryd.f24, Tryd.func24, by kernel_rfl, by kernel_rfl, by decide +kernel, by decide +kernel⟩
  · exact .inl ⟨Tryd.f66, Tryd.func66, by kernel_rfl, by kernel_rfl, by decide +kernel, by decide +kernel⟩
  · exact .inl ⟨Tryd.f67, Tryd.func67, by kernel_rfl, by kernel_rfl, by decide +kernel, by decide +kernel⟩
  · exact .inl ⟨Tryd.f25, Tryd.func25, by kernel_rfl, by kernel_rfl, by decide +kernel, by decide +kernel⟩
  · exact .inl ⟨Tryd.f68, Tryd.func68, by kernel_rfl, by kernel_rfl, by decide +kernel, by decide +kernel⟩
  · exact .inl ⟨Tryd.f26, Tryd.func26, by kernel_rfl, by kernel_rfl, by decide +kernel, by decide +kernel⟩
  · exact .inl ⟨Tryd.f69, Tryd.func69, by kernel_rfl, by kernel_rfl, by decide +kernel, by decide +kernel⟩
  · exact .inl ⟨Tryd.f27, Tryd.func27, by kernel_rfl, by kernel_rfl, by decide +kernel, by decide +kernel⟩
  · exact .inl ⟨Tryd.f4, Tryd.func4, by kernel_rfl, by kernel_rfl, by decide +kernel, by decide +kernel⟩
  · exact .inr ⟨ "", rfl⟩
  · exact .inr ⟨ "", rfl⟩
  · exact .inr ⟨ "", rfl⟩
theorem ext_ok (f : Nat) (law : TupT (fns f).sig.ins → Option (TupT (fns f).sig.outs)) (h : ext f = some law) : Contract Tryd.prog (fns f).sig f law := by
  unfold ext at h
  split at h
  · obtain rfl := Option.some.inj h; exact split_ok
  · obtain rfl := Option.some.inj h; exact join_ok
  · cases h
theorem sound (d f : Nat) : Contract Tryd.prog (fns f).sig f (tab d f) := table_sound tys_ok eqts_ok mix_ok sig_ok (fun f _ => fn_ok f) (fun f law h => ext_ok f law h) d f
end
end Go.PV.T
