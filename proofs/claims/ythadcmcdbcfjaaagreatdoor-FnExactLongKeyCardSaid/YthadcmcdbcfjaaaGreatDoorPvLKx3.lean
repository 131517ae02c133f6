/- Functions of the program by their own lists and numbers. No condition beyond those in each statement. -/
import Derived.Test.YthadcmcdbcfjaaaGreatDoorPvLKx1
import Derived.Test.YthadcmcdbcfjaaaGreatDoorPvLbD
import Derived.Test.YthadcmcdbcfjaaaGreatDoorPvLKx2
set_option linter.unusedVariables false
set_option linter.unusedSimpArgs false
set_option maxRecDepth 100000
set_option linter.unusedVariables false
namespace Go.PV.T
open Go.Proofs
noncomputable section
noncomputable def ext : (f : Nat) → Option (TupT (fns f).sig.ins → Option (TupT (fns f).sig.outs))
 | 154 => some splitLaw
 | _ => none
noncomputable def tab : Nat → (f : Nat) → TupT (sigs f).ins → Option (TupT (sigs f).outs) := table tys eqts fns ext rnds
noncomputable def strings_Split.f (d : Nat) : (ByteArray × ByteArray) → Option (List ByteArray) := tab d 154
noncomputable def impl_in.f (d : Nat) : (Int × Int × Int) → Option Bool := tab d 64
noncomputable def impl_isLetter.f (d : Nat) : Int → Option Bool := tab d 162
noncomputable def impl_isDigit.f (d : Nat) : Int → Option Bool := tab d 163
noncomputable def impl_nameOk.f (d : Nat) : ByteArray → Option Bool := tab d 155
noncomputable def impl_isFree.f (d : Nat) : ByteArray → Option Bool := tab d 142
noncomputable def impl_namesOk.f (d : Nat) : Y1 → Option Bool := tab d 106
noncomputable def impl_twice.f (d : Nat) : Y1 → Option Bool := tab d 107
noncomputable def impl_partsOk.f (d : Nat) : Y7 → Option Bool := tab d 108
noncomputable def impl_CheckDef.f (d : Nat) : Y1 → Option Int := tab d 65
noncomputable def impl_FirstBad.f (d : Nat) : Y11 → Option Int := tab d 72
noncomputable def impl_hasIndex.f (d : Nat) : Y14 → Option Bool := tab d 41
noncomputable def impl_PartOk.f (d : Nat) : (Int × Int × Bool × Bool) → Option Bool := tab d 115
noncomputable def impl_PlanOk.f (d : Nat) : Y15 → Option Bool := tab d 73
noncomputable def impl_ValOk.f (d : Nat) : (Int × Int × ByteArray) → Option Bool := tab d 144
noncomputable def impl_Fits.f (d : Nat) : Y17 → Option Bool := tab d 116
noncomputable def impl_FitsAll.f (d : Nat) : Y18 → Option Bool := tab d 74
noncomputable def impl_RowOk.f (d : Nat) : Y18 → Option Bool := tab d 42
noncomputable def impl_RowPlan.f (d : Nat) : Y1 → Option Y15 := tab d 43
noncomputable def impl_HeadOf.f (d : Nat) : Y14 → Option ((List Int)) := tab d 14
noncomputable def impl_Pick.f (d : Nat) : Y18 → Option Y21 := tab d 31
noncomputable def impl_partsOf.f (d : Nat) : Y7 → Option Y15 := tab d 66
noncomputable def impl_PrimaryPlan.f (d : Nat) : Y1 → Option Y15 := tab d 32
noncomputable def impl_IndexPlan.f (d : Nat) : Y24 → Option Y15 := tab d 33
noncomputable def impl_planOf.f (d : Nat) : Y24 → Option Y15 := tab d 75
noncomputable def impl_clamp.f (d : Nat) : (Int × Int × Int) → Option Int := tab d 127
noncomputable def impl_bytesOf.f (d : Nat) : Int → Option Int := tab d 128
noncomputable def impl_addBytes.f (d : Nat) : Y25 → Option ((List Int)) := tab d 129
noncomputable def impl_addVar.f (d : Nat) : ((List Int) × Int) → Option ((List Int)) := tab d 87
noncomputable def impl_addFix.f (d : Nat) : ((List Int) × Int) → Option ((List Int)) := tab d 145
noncomputable def impl_addEsc.f (d : Nat) : ((List Int) × ByteArray) → Option ((List Int)) := tab d 146
noncomputable def impl_copyBytes.f (d : Nat) : ((List Int)) → Option ((List Int)) := tab d 156
noncomputable def impl_Flip.f (d : Nat) : ((List Int) × Int) → Option ((List Int)) := tab d 147
noncomputable def impl_addPart.f (d : Nat) : Y28 → Option ((List Int)) := tab d 117
noncomputable def impl_EncodeKey.f (d : Nat) : Y18 → Option ((List Int)) := tab d 76
noncomputable def impl_keyOf.f (d : Nat) : Y30 → Option ((List Int)) := tab d 44
noncomputable def impl_KeyOf.f (d : Nat) : Y30 → Option ((List Int)) := tab d 12
noncomputable def spec_l1In.f (d : Nat) : (Int × Int × Int) → Option Bool := tab d 78
noncomputable def spec_l8Small.f (d : Nat) : Int → Option Bool := tab d 164
noncomputable def spec_l2Digit.f (d : Nat) : Int → Option Bool := tab d 165
noncomputable def spec_l8Name.f (d : Nat) : ByteArray → Option Bool := tab d 157
noncomputable def spec_l9Has.f (d : Nat) : Y31 → Option Bool := tab d 158
noncomputable def spec_l9Word.f (d : Nat) : ByteArray → Option Bool := tab d 149
noncomputable def spec_l9Names.f (d : Nat) : Y1 → Option Bool := tab d 120
noncomputable def spec_l9Types.f (d : Nat) : Y1 → Option Bool := tab d 121
noncomputable def spec_l9Col.f (d : Nat) : Y34 → Option Int := tab d 150
noncomputable def spec_l9Once.f (d : Nat) : Y1 → Option Bool := tab d 122
noncomputable def spec_l9Parts.f (d : Nat) : Y7 → Option Bool := tab d 151
noncomputable def spec_l9AllParts.f (d : Nat) : Y1 → Option Bool := tab d 123
noncomputable def spec_CheckDef.f (d : Nat) : Y1 → Option Int := tab d 81
noncomputable def spec_FirstBad.f (d : Nat) : Y11 → Option Int := tab d 77
noncomputable def spec_l11There.f (d : Nat) : Y14 → Option Bool := tab d 45
noncomputable def spec_PartOk.f (d : Nat) : (Int × Int × Bool × Bool) → Option Bool := tab d 118
noncomputable def spec_PlanOk.f (d : Nat) : Y15 → Option Bool := tab d 79
noncomputable def spec_ValOk.f (d : Nat) : (Int × Int × ByteArray) → Option Bool := tab d 148
noncomputable def spec_Fits.f (d : Nat) : Y17 → Option Bool := tab d 119
noncomputable def spec_FitsAll.f (d : Nat) : Y18 → Option Bool := tab d 80
noncomputable def spec_RowOk.f (d : Nat) : Y18 → Option Bool := tab d 46
noncomputable def spec_l11Part.f (d : Nat) : Y42 → Option (Int × Int × Bool × Bool) := tab d 82
noncomputable def spec_RowPlan.f (d : Nat) : Y1 → Option Y15 := tab d 47
noncomputable def spec_HeadOf.f (d : Nat) : Y14 → Option ((List Int)) := tab d 15
noncomputable def spec_l11Parts.f (d : Nat) : Y7 → Option Y15 := tab d 152
noncomputable def spec_PrimaryPlan.f (d : Nat) : Y1 → Option Y15 := tab d 124
noncomputable def spec_IndexPlan.f (d : Nat) : Y24 → Option Y15 := tab d 125
noncomputable def spec_l11Plan.f (d : Nat) : Y24 → Option Y15 := tab d 83
noncomputable def spec_Flip.f (d : Nat) : ((List Int) × Int) → Option ((List Int)) := tab d 132
noncomputable def spec_l4Bytes.f (d : Nat) : Int → Option ((List Int)) := tab d 131
noncomputable def spec_PutVar.f (d : Nat) : ((List Int) × Int) → Option ((List Int)) := tab d 91
noncomputable def spec_PutFix.f (d : Nat) : ((List Int) × Int) → Option ((List Int)) := tab d 159
noncomputable def spec_PutEsc.f (d : Nat) : ((List Int) × ByteArray) → Option ((List Int)) := tab d 160
noncomputable def spec_l5Value.f (d : Nat) : Y45 → Option ((List Int)) := tab d 153
noncomputable def spec_PutPart.f (d : Nat) : Y28 → Option ((List Int)) := tab d 126
noncomputable def spec_EncodeKey.f (d : Nat) : Y18 → Option ((List Int)) := tab d 84
noncomputable def spec_Pick.f (d : Nat) : Y18 → Option Y21 := tab d 85
noncomputable def spec_l11Key.f (d : Nat) : Y30 → Option ((List Int)) := tab d 48
noncomputable def impl_addU.f (d : Nat) : ((List Int) × Int) → Option ((List Int)) := tab d 86
noncomputable def impl_addText.f (d : Nat) : ((List Int) × ByteArray) → Option ((List Int)) := tab d 88
noncomputable def impl_Crc.f (d : Nat) : ((List Int)) → Option Int := tab d 130
noncomputable def impl_addSum.f (d : Nat) : ((List Int)) → Option ((List Int)) := tab d 89
noncomputable def impl_EncodeRow.f (d : Nat) : Y18 → Option ((List Int)) := tab d 49
noncomputable def impl_LongKey.f (d : Nat) : Y51 → Option Bool := tab d 16
noncomputable def spec_PutU.f (d : Nat) : ((List Int) × Int) → Option ((List Int)) := tab d 90
noncomputable def spec_PutText.f (d : Nat) : ((List Int) × ByteArray) → Option ((List Int)) := tab d 92
noncomputable def spec_Crc.f (d : Nat) : ((List Int)) → Option Int := tab d 133
noncomputable def spec_PutSum.f (d : Nat) : ((List Int)) → Option ((List Int)) := tab d 93
noncomputable def spec_EncodeRow.f (d : Nat) : Y18 → Option ((List Int)) := tab d 50
noncomputable def spec_LongKey.f (d : Nat) : Y51 → Option Bool := tab d 17
noncomputable def laws_szCol.f (d : Nat) : Y54 → Option Int := tab d 134
noncomputable def laws_szColS.f (d : Nat) : Y55 → Option Int := tab d 94
noncomputable def laws_szByS.f (d : Nat) : ((List (Int × Bool)) × Int) → Option Int := tab d 95
noncomputable def laws_szIndex.f (d : Nat) : Y57 → Option Int := tab d 135
noncomputable def laws_szIndexS.f (d : Nat) : Y58 → Option Int := tab d 96
noncomputable def laws_szDef.f (d : Nat) : Y24 → Option Int := tab d 51
noncomputable def laws_szDefS.f (d : Nat) : Y39 → Option Int := tab d 18
noncomputable def laws_szVal.f (d : Nat) : Y60 → Option Int := tab d 52
noncomputable def laws_szValS.f (d : Nat) : Y61 → Option Int := tab d 19
noncomputable def laws_toCol.f (d : Nat) : (ByteArray × Int × Bool) → Option (ByteArray × Int × Bool) := tab d 136
noncomputable def laws_toColS.f (d : Nat) : Y63 → Option Y63 := tab d 97
noncomputable def laws_toBy.f (d : Nat) : (Int × Bool) → Option (Int × Bool) := tab d 137
noncomputable def laws_toByS.f (d : Nat) : ((List (Int × Bool))) → Option ((List (Int × Bool))) := tab d 98
noncomputable def laws_toIndex.f (d : Nat) : Y0 → Option Y0 := tab d 138
noncomputable def laws_toIndexS.f (d : Nat) : Y66 → Option Y66 := tab d 99
noncomputable def laws_toDef.f (d : Nat) : Y1 → Option Y1 := tab d 53
noncomputable def laws_toDefS.f (d : Nat) : Y11 → Option Y11 := tab d 20
noncomputable def laws_toVal.f (d : Nat) : (Int × Int × ByteArray) → Option (Int × Int × ByteArray) := tab d 54
noncomputable def laws_toValS.f (d : Nat) : Y21 → Option Y21 := tab d 21
noncomputable def laws_eqCol.f (d : Nat) : Y70 → Option Bool := tab d 139
noncomputable def laws_eqColS.f (d : Nat) : Y71 → Option Bool := tab d 100
noncomputable def laws_eqBy.f (d : Nat) : (Int × Bool × Int × Bool) → Option Bool := tab d 140
noncomputable def laws_eqByS.f (d : Nat) : Y73 → Option Bool := tab d 101
noncomputable def laws_eqIndex.f (d : Nat) : Y75 → Option Bool := tab d 141
noncomputable def laws_eqIndexS.f (d : Nat) : Y76 → Option Bool := tab d 102
noncomputable def laws_eqDef.f (d : Nat) : Y78 → Option Bool := tab d 55
noncomputable def laws_eqDefS.f (d : Nat) : Y79 → Option Bool := tab d 23
noncomputable def laws_eqVal.f (d : Nat) : Y81 → Option Bool := tab d 56
noncomputable def laws_eqValS.f (d : Nat) : Y82 → Option Bool := tab d 24
noncomputable def laws_FnExactLongKey.f (d : Nat) : Y51 → Option Bool := tab d 5
namespace impl_nameOk
noncomputable def S0 (d : Nat) (L0 : (ByteArray × Int) → Option Bool) := s0 (impl_in.f d) (impl_isLetter.f d) (impl_isDigit.f d) L0
end impl_nameOk
namespace impl_isFree
noncomputable def S0 (d : Nat) (L0 : Y2 → Option Bool) := s0 (impl_nameOk.f d) L0
end impl_isFree
namespace impl_namesOk
noncomputable def S2 (d : Nat) (L2 : Y3 → Option Bool) := s2 (impl_isFree.f d) L2
noncomputable def S0 (d : Nat) (L0 : Y4 → Option Bool) := s0 (impl_isFree.f d) (iter (S2 d) rnds) L0
end impl_namesOk
namespace impl_twice
noncomputable def S2 (d : Nat) (L0 : Y4 → Option Bool) (L2 : Y5 → Option Bool) := s2 L0 L2
noncomputable def S6 (d : Nat) (L4 : Y3 → Option Bool) (L6 : Y6 → Option Bool) := s6 L4 L6
noncomputable def S4 (d : Nat) (L4 : Y3 → Option Bool) := s4 (iter (S6 d L4) rnds) L4
noncomputable def S0 (d : Nat) (L0 : Y4 → Option Bool) := s0 (iter (S2 d L0) rnds) (iter (S4 d) rnds) L0
end impl_twice
namespace impl_partsOk
noncomputable def S2 (d : Nat) (L0 : Y9 → Option Bool) (L2 : Y8 → Option Bool) := s2 L0 L2
noncomputable def S0 (d : Nat) (L0 : Y9 → Option Bool) := s0 (impl_in.f d) (iter (S2 d L0) rnds) L0
end impl_partsOk
namespace impl_CheckDef
noncomputable def S4 (d : Nat) (L4 : Y10 → Option Int) := s4 L4
noncomputable def S2 (d : Nat) (L2 : Y3 → Option Int) := s2 (impl_partsOk.f d) (iter (S4 d) rnds) L2
noncomputable def S0 (d : Nat) (L0 : Y4 → Option Int) := s0 (impl_in.f d) (impl_twice.f d) (iter (S2 d) rnds) L0
end impl_CheckDef
namespace impl_FirstBad
noncomputable def S2 (d : Nat) (L0 : Y13 → Option Int) (L2 : Y12 → Option Int) := s2 L0 L2
noncomputable def S0 (d : Nat) (L0 : Y13 → Option Int) := s0 (impl_CheckDef.f d) (iter (S2 d L0) rnds) L0
end impl_FirstBad
namespace impl_PlanOk
noncomputable def S0 (d : Nat) (L0 : Y16 → Option Bool) := s0 (impl_PartOk.f d) L0
end impl_PlanOk
namespace impl_FitsAll
noncomputable def S0 (d : Nat) (L0 : Y19 → Option Bool) := s0 (impl_Fits.f d) L0
end impl_FitsAll
namespace impl_RowPlan
noncomputable def S0 (d : Nat) (L0 : Y20 → Option Y15) := s0 L0
end impl_RowPlan
namespace impl_Pick
noncomputable def S0 (d : Nat) (L0 : Y22 → Option Y21) := s0 (impl_in.f d) L0
end impl_Pick
namespace impl_partsOf
noncomputable def S0 (d : Nat) (L0 : Y23 → Option Y15) := s0 L0
end impl_partsOf
namespace impl_bytesOf
noncomputable def S0 (d : Nat) (L0 : (Int × Int) → Option Int) := s0 L0
end impl_bytesOf
namespace impl_addBytes
noncomputable def S0 (d : Nat) (L0 : Y26 → Option ((List Int))) := s0 L0
end impl_addBytes
namespace impl_addEsc
noncomputable def S0 (d : Nat) (L0 : Y27 → Option ((List Int))) := s0 L0
end impl_addEsc
namespace impl_Flip
noncomputable def S0 (d : Nat) (L0 : (Int × (List Int)) → Option ((List Int))) := s0 L0
end impl_Flip
namespace impl_EncodeKey
noncomputable def S0 (d : Nat) (L0 : Y29 → Option ((List Int))) := s0 (impl_addPart.f d) L0
end impl_EncodeKey
namespace spec_l8Name
noncomputable def S0 (d : Nat) (L0 : (ByteArray × Int) → Option Bool) := s0 (spec_l1In.f d) (spec_l8Small.f d) (spec_l2Digit.f d) L0
end spec_l8Name
namespace spec_l9Has
noncomputable def S0 (d : Nat) (L0 : Y32 → Option Bool) := s0 L0
end spec_l9Has
namespace spec_l9Names
noncomputable def S2 (d : Nat) (L2 : Y33 → Option Bool) := s2 (spec_l9Word.f d) L2
noncomputable def S0 (d : Nat) (L0 : Y33 → Option Bool) := s0 (spec_l9Word.f d) (iter (S2 d) rnds) L0
end spec_l9Names
namespace spec_l9Types
noncomputable def S0 (d : Nat) (L0 : Y33 → Option Bool) := s0 (spec_l1In.f d) L0
end spec_l9Types
namespace spec_l9Col
noncomputable def S0 (d : Nat) (L0 : Y35 → Option Int) := s0 L0
end spec_l9Col
namespace spec_l9Once
noncomputable def S4 (d : Nat) (L2 : Y33 → Option Bool) (L4 : Y36 → Option Bool) := s4 L2 L4
noncomputable def S2 (d : Nat) (L2 : Y33 → Option Bool) := s2 (iter (S4 d L2) rnds) L2
noncomputable def S0 (d : Nat) (L0 : Y33 → Option Bool) := s0 (spec_l9Col.f d) (iter (S2 d) rnds) L0
end spec_l9Once
namespace spec_l9Parts
noncomputable def S0 (d : Nat) (L0 : Y37 → Option Bool) := s0 (spec_l1In.f d) L0
end spec_l9Parts
namespace spec_l9AllParts
noncomputable def S0 (d : Nat) (L0 : Y33 → Option Bool) := s0 (spec_l9Parts.f d) L0
end spec_l9AllParts
namespace spec_CheckDef
noncomputable def S1 (d : Nat) (L1 : Y33 → Option Int) := s1 L1
end spec_CheckDef
namespace spec_FirstBad
noncomputable def S2 (d : Nat) (L0 : Y39 → Option Int) (L2 : Y38 → Option Int) := s2 L0 L2
noncomputable def S0 (d : Nat) (L0 : Y39 → Option Int) := s0 (spec_CheckDef.f d) (iter (S2 d L0) rnds) L0
end spec_FirstBad
namespace spec_PlanOk
noncomputable def S0 (d : Nat) (L0 : Y40 → Option Bool) := s0 (spec_PartOk.f d) L0
end spec_PlanOk
namespace spec_FitsAll
noncomputable def S0 (d : Nat) (L0 : Y41 → Option Bool) := s0 (spec_Fits.f d) L0
end spec_FitsAll
namespace spec_RowPlan
noncomputable def S0 (d : Nat) (L0 : Y43 → Option Y15) := s0 (spec_CheckDef.f d) (spec_l11Part.f d) L0
end spec_RowPlan
namespace spec_l11Parts
noncomputable def S0 (d : Nat) (L0 : Y44 → Option Y15) := s0 (spec_l11Part.f d) L0
end spec_l11Parts
namespace spec_Flip
noncomputable def S0 (d : Nat) (L0 : (Int × Int × (List Int)) → Option ((List Int))) := s0 L0
end spec_Flip
namespace spec_l4Bytes
noncomputable def S0 (d : Nat) (L0 : (Int × (List Int)) → Option ((List Int))) := s0 L0
end spec_l4Bytes
namespace spec_PutEsc
noncomputable def S0 (d : Nat) (L0 : Y27 → Option ((List Int))) := s0 L0
end spec_PutEsc
namespace spec_EncodeKey
noncomputable def S0 (d : Nat) (L0 : Y46 → Option ((List Int))) := s0 (spec_PutPart.f d) L0
end spec_EncodeKey
namespace spec_Pick
noncomputable def S0 (d : Nat) (L0 : Y47 → Option Y21) := s0 (spec_l1In.f d) L0
end spec_Pick
namespace impl_addU
noncomputable def S0 (d : Nat) (L0 : (Int × (List Int)) → Option ((List Int))) := s0 L0
end impl_addU
namespace impl_Crc
noncomputable def S2 (d : Nat) (L0 : Y49 → Option Int) (L2 : Y48 → Option Int) := s2 L0 L2
noncomputable def S0 (d : Nat) (L0 : Y49 → Option Int) := s0 (iter (S2 d L0) rnds) L0
end impl_Crc
namespace impl_EncodeRow
noncomputable def S0 (d : Nat) (L0 : Y50 → Option ((List Int))) := s0 (impl_addU.f d) (impl_addVar.f d) (impl_addText.f d) (impl_addSum.f d) L0
end impl_EncodeRow
namespace impl_LongKey
noncomputable def S0 (d : Nat) (L0 : Y52 → Option Bool) := s0 (impl_KeyOf.f d) (impl_RowPlan.f d) (impl_EncodeRow.f d) L0
end impl_LongKey
namespace spec_PutU
noncomputable def S0 (d : Nat) (L0 : (Int × (List Int)) → Option ((List Int))) := s0 L0
end spec_PutU
namespace spec_Crc
noncomputable def S2 (d : Nat) (L0 : ((List Int) × Int × Int) → Option Int) (L2 : Y25 → Option Int) := s2 L0 L2
noncomputable def S0 (d : Nat) (L0 : ((List Int) × Int × Int) → Option Int) := s0 (iter (S2 d L0) rnds) L0
end spec_Crc
namespace spec_EncodeRow
noncomputable def S0 (d : Nat) (L0 : Y53 → Option ((List Int))) := s0 (spec_PutU.f d) (spec_PutVar.f d) (spec_PutText.f d) (spec_PutSum.f d) L0
end spec_EncodeRow
namespace spec_LongKey
noncomputable def S0 (d : Nat) (L0 : Y52 → Option Bool) := s0 (spec_RowPlan.f d) (spec_l11Key.f d) (spec_EncodeRow.f d) L0
end spec_LongKey
namespace laws_szColS
noncomputable def S0 (d : Nat) (L0 : Y56 → Option Int) := s0 (laws_szCol.f d) L0
end laws_szColS
namespace laws_szIndexS
noncomputable def S0 (d : Nat) (L0 : Y59 → Option Int) := s0 (laws_szIndex.f d) L0
end laws_szIndexS
namespace laws_szDefS
noncomputable def S0 (d : Nat) (L0 : Y14 → Option Int) := s0 (laws_szDef.f d) L0
end laws_szDefS
namespace laws_szValS
noncomputable def S0 (d : Nat) (L0 : Y62 → Option Int) := s0 (laws_szVal.f d) L0
end laws_szValS
namespace laws_toColS
noncomputable def S0 (d : Nat) (L0 : Y64 → Option Y63) := s0 (laws_toCol.f d) L0
end laws_toColS
namespace laws_toByS
noncomputable def S0 (d : Nat) (L0 : Y65 → Option ((List (Int × Bool)))) := s0 (laws_toBy.f d) L0
end laws_toByS
namespace laws_toIndexS
noncomputable def S0 (d : Nat) (L0 : Y67 → Option Y66) := s0 (laws_toIndex.f d) L0
end laws_toIndexS
namespace laws_toDefS
noncomputable def S0 (d : Nat) (L0 : Y68 → Option Y11) := s0 (laws_toDef.f d) L0
end laws_toDefS
namespace laws_toValS
noncomputable def S0 (d : Nat) (L0 : Y69 → Option Y21) := s0 (laws_toVal.f d) L0
end laws_toValS
namespace laws_eqColS
noncomputable def S0 (d : Nat) (L0 : Y72 → Option Bool) := s0 (laws_eqCol.f d) L0
end laws_eqColS
namespace laws_eqByS
noncomputable def S0 (d : Nat) (L0 : Y74 → Option Bool) := s0 (laws_eqBy.f d) L0
end laws_eqByS
namespace laws_eqIndexS
noncomputable def S0 (d : Nat) (L0 : Y77 → Option Bool) := s0 (laws_eqIndex.f d) L0
end laws_eqIndexS
namespace laws_eqDefS
noncomputable def S0 (d : Nat) (L0 : Y80 → Option Bool) := s0 (laws_eqDef.f d) L0
end laws_eqDefS
namespace laws_eqValS
noncomputable def S0 (d : Nat) (L0 : Y83 → Option Bool) := s0 (laws_eqVal.f d) L0
end laws_eqValS
namespace impl_in
theorem t_eq (d : Nat) (a) : f (d + 1) a = m  a :=
 Eq.trans (show f (d + 1) a = run (cx (tab d) rnds) sig rv body a by kernel_rfl) ((m_eq (tab d) rnds a).trans rfl)
end impl_in
namespace impl_isLetter
theorem t_eq (d : Nat) (a) : f (d + 1) a = m  a :=
 Eq.trans (show f (d + 1) a = run (cx (tab d) rnds) sig rv body a by kernel_rfl) ((m_eq (tab d) rnds a).trans rfl)
end impl_isLetter
namespace impl_isDigit
theorem t_eq (d : Nat) (a) : f (d + 1) a = m  a :=
 Eq.trans (show f (d + 1) a = run (cx (tab d) rnds) sig rv body a by kernel_rfl) ((m_eq (tab d) rnds a).trans rfl)
end impl_isDigit
namespace impl_nameOk
theorem S0_eq (d : Nat) : ((fun a => loopK (stp (cx (tab d) rnds) body [1, 0, 1, 0] [] fin) rnds (ll0 a) : (ByteArray × Int) → Option Bool)) = iter (S0 d) rnds :=
 funext (loop_iter ll0 _ (S0 d) (fun (L0 : LS → RT) a => (s0_eq (tab d) rnds L0 a).trans rfl) rnds)
theorem t_eq (d : Nat) (a) : f (d + 1) a = m (iter (S0 d) rnds) a :=
 Eq.trans (show f (d + 1) a = run (cx (tab d) rnds) sig rv body a by kernel_rfl) ((m_eq (tab d) rnds a).trans (congrArg (fun z => m z a) (S0_eq d)))
end impl_nameOk
namespace impl_isFree
theorem S0_eq (d : Nat) : ((fun a => loopK (stp (cx (tab d) rnds) body [1, 0, 1, 0] [] fin) rnds (ll0 a) : Y2 → Option Bool)) = iter (S0 d) rnds :=
 funext (loop_iter ll0 _ (S0 d) (fun (L0 : LS → RT) a => (s0_eq (tab d) rnds L0 a).trans rfl) rnds)
theorem t_eq (d : Nat) (a) : f (d + 1) a = m (strings_Split.f d) (iter (S0 d) rnds) a :=
 Eq.trans (show f (d + 1) a = run (cx (tab d) rnds) sig rv body a by kernel_rfl) ((m_eq (tab d) rnds a).trans (congrArg (fun z => m (tab d 154) z a) (S0_eq d)))
end impl_isFree
namespace impl_namesOk
theorem S2_eq (d : Nat) : ((fun a => loopK (stp (cx (tab d) rnds) body [1, 1, 0, 1, 0] [] fin) rnds (ll2 a) : Y3 → Option Bool)) = iter (S2 d) rnds :=
 funext (loop_iter ll2 _ (S2 d) (fun (L2 : LS → RT) a => (s2_eq (tab d) rnds L2 a).trans rfl) rnds)
theorem S0_eq (d : Nat) : ((fun a => loopK (stp (cx (tab d) rnds) body [1, 0, 1, 0] [] fin) rnds (ll0 a) : Y4 → Option Bool)) = iter (S0 d) rnds :=
 funext (loop_iter ll0 _ (S0 d) (fun (L0 : LS → RT) a => (s0_eq (tab d) rnds L0 a).trans (congrArg (fun z => s0 (tab d 142) z (fun a => L0 (ll0 a)) a) (S2_eq d))) rnds)
theorem t_eq (d : Nat) (a) : f (d + 1) a = m (iter (S0 d) rnds) a :=
 Eq.trans (show f (d + 1) a = run (cx (tab d) rnds) sig rv body a by kernel_rfl) ((m_eq (tab d) rnds a).trans (congrArg (fun z => m z a) (S0_eq d)))
end impl_namesOk
namespace impl_twice
theorem S2_eq (d : Nat) (L0 : LS → RT) : ((fun a => loopK (stp (cx (tab d) rnds) body [1, 0, 1, 0, 0, 1, 1, 0, 0, 1, 1, 0] [L0] fin) rnds (ll2 a) : Y5 → Option Bool)) = iter (S2 d (fun a => L0 (ll0 a))) rnds :=
 funext (loop_iter ll2 _ (S2 d (fun a => L0 (ll0 a))) (fun (L2 : LS → RT) a => (s2_eq (tab d) rnds L0 L2 a).trans rfl) rnds)
theorem S6_eq (d : Nat) (L4 : LS → RT) : ((fun a => loopK (stp (cx (tab d) rnds) body [1, 1, 0, 1, 0, 0, 1, 1, 0, 0, 1, 1, 0] [L4] fin) rnds (ll6 a) : Y6 → Option Bool)) = iter (S6 d (fun a => L4 (ll4 a))) rnds :=
 funext (loop_iter ll6 _ (S6 d (fun a => L4 (ll4 a))) (fun (L6 : LS → RT) a => (s6_eq (tab d) rnds L4 L6 a).trans rfl) rnds)
theorem S4_eq (d : Nat) : ((fun a => loopK (stp (cx (tab d) rnds) body [1, 1, 0, 1, 0] [] fin) rnds (ll4 a) : Y3 → Option Bool)) = iter (S4 d) rnds :=
 funext (loop_iter ll4 _ (S4 d) (fun (L4 : LS → RT) a => (s4_eq (tab d) rnds L4 a).trans (congrArg (fun z => s4 z (fun a => L4 (ll4 a)) a) (S6_eq d L4))) rnds)
theorem S0_eq (d : Nat) : ((fun a => loopK (stp (cx (tab d) rnds) body [1, 0, 1, 0] [] fin) rnds (ll0 a) : Y4 → Option Bool)) = iter (S0 d) rnds :=
 funext (loop_iter ll0 _ (S0 d) (fun (L0 : LS → RT) a => (s0_eq (tab d) rnds L0 a).trans (Eq.trans (congrArg (fun z => s0 z _ (fun a => L0 (ll0 a)) a) (S2_eq d L0)) (congrArg (fun z => s0 _ z (fun a => L0 (ll0 a)) a) (S4_eq d)))) rnds)
theorem t_eq (d : Nat) (a) : f (d + 1) a = m (iter (S0 d) rnds) a :=
 Eq.trans (show f (d + 1) a = run (cx (tab d) rnds) sig rv body a by kernel_rfl) ((m_eq (tab d) rnds a).trans (congrArg (fun z => m z a) (S0_eq d)))
end impl_twice
namespace impl_partsOk
theorem S2_eq (d : Nat) (L0 : LS → RT) : ((fun a => loopK (stp (cx (tab d) rnds) body [1, 0, 1, 0, 0, 1, 1, 0, 0, 1, 1, 1, 0] [L0] fin) rnds (ll2 a) : Y8 → Option Bool)) = iter (S2 d (fun a => L0 (ll0 a))) rnds :=
 funext (loop_iter ll2 _ (S2 d (fun a => L0 (ll0 a))) (fun (L2 : LS → RT) a => (s2_eq (tab d) rnds L0 L2 a).trans rfl) rnds)
theorem S0_eq (d : Nat) : ((fun a => loopK (stp (cx (tab d) rnds) body [1, 0, 1, 0] [] fin) rnds (ll0 a) : Y9 → Option Bool)) = iter (S0 d) rnds :=
 funext (loop_iter ll0 _ (S0 d) (fun (L0 : LS → RT) a => (s0_eq (tab d) rnds L0 a).trans (congrArg (fun z => s0 (tab d 64) z (fun a => L0 (ll0 a)) a) (S2_eq d L0))) rnds)
theorem t_eq (d : Nat) (a) : f (d + 1) a = m (iter (S0 d) rnds) a :=
 Eq.trans (show f (d + 1) a = run (cx (tab d) rnds) sig rv body a by kernel_rfl) ((m_eq (tab d) rnds a).trans (congrArg (fun z => m z a) (S0_eq d)))
end impl_partsOk
namespace impl_CheckDef
theorem S4_eq (d : Nat) : ((fun a => loopK (stp (cx (tab d) rnds) body [1, 1, 1, 1, 1, 1, 1, 1, 0, 1, 0] [] fin) rnds (ll4 a) : Y10 → Option Int)) = iter (S4 d) rnds :=
 funext (loop_iter ll4 _ (S4 d) (fun (L4 : LS → RT) a => (s4_eq (tab d) rnds L4 a).trans rfl) rnds)
theorem S2_eq (d : Nat) : ((fun a => loopK (stp (cx (tab d) rnds) body [1, 1, 1, 1, 1, 1, 0, 1, 0] [] fin) rnds (ll2 a) : Y3 → Option Int)) = iter (S2 d) rnds :=
 funext (loop_iter ll2 _ (S2 d) (fun (L2 : LS → RT) a => (s2_eq (tab d) rnds L2 a).trans (congrArg (fun z => s2 (tab d 108) z (fun a => L2 (ll2 a)) a) (S4_eq d))) rnds)
theorem S0_eq (d : Nat) : ((fun a => loopK (stp (cx (tab d) rnds) body [1, 1, 1, 0, 1, 0] [] fin) rnds (ll0 a) : Y4 → Option Int)) = iter (S0 d) rnds :=
 funext (loop_iter ll0 _ (S0 d) (fun (L0 : LS → RT) a => (s0_eq (tab d) rnds L0 a).trans (congrArg (fun z => s0 (tab d 64) (tab d 107) z (fun a => L0 (ll0 a)) a) (S2_eq d))) rnds)
theorem t_eq (d : Nat) (a) : f (d + 1) a = m (impl_in.f d) (impl_namesOk.f d) (iter (S0 d) rnds) a :=
 Eq.trans (show f (d + 1) a = run (cx (tab d) rnds) sig rv body a by kernel_rfl) ((m_eq (tab d) rnds a).trans (congrArg (fun z => m (tab d 64) (tab d 106) z a) (S0_eq d)))
end impl_CheckDef
namespace impl_FirstBad
theorem S2_eq (d : Nat) (L0 : LS → RT) : ((fun a => loopK (stp (cx (tab d) rnds) body [1, 0, 1, 0, 0, 1, 1, 0, 0, 1, 1, 1, 0] [L0] fin) rnds (ll2 a) : Y12 → Option Int)) = iter (S2 d (fun a => L0 (ll0 a))) rnds :=
 funext (loop_iter ll2 _ (S2 d (fun a => L0 (ll0 a))) (fun (L2 : LS → RT) a => (s2_eq (tab d) rnds L0 L2 a).trans rfl) rnds)
theorem S0_eq (d : Nat) : ((fun a => loopK (stp (cx (tab d) rnds) body [1, 0, 1, 0] [] fin) rnds (ll0 a) : Y13 → Option Int)) = iter (S0 d) rnds :=
 funext (loop_iter ll0 _ (S0 d) (fun (L0 : LS → RT) a => (s0_eq (tab d) rnds L0 a).trans (congrArg (fun z => s0 (tab d 65) z (fun a => L0 (ll0 a)) a) (S2_eq d L0))) rnds)
theorem t_eq (d : Nat) (a) : f (d + 1) a = m (iter (S0 d) rnds) a :=
 Eq.trans (show f (d + 1) a = run (cx (tab d) rnds) sig rv body a by kernel_rfl) ((m_eq (tab d) rnds a).trans (congrArg (fun z => m z a) (S0_eq d)))
end impl_FirstBad
namespace impl_hasIndex
theorem t_eq (d : Nat) (a) : f (d + 1) a = m (impl_in.f d) (impl_FirstBad.f d) a :=
 Eq.trans (show f (d + 1) a = run (cx (tab d) rnds) sig rv body a by kernel_rfl) ((m_eq (tab d) rnds a).trans rfl)
end impl_hasIndex
namespace impl_PartOk
theorem t_eq (d : Nat) (a) : f (d + 1) a = m (impl_in.f d) a :=
 Eq.trans (show f (d + 1) a = run (cx (tab d) rnds) sig rv body a by kernel_rfl) ((m_eq (tab d) rnds a).trans rfl)
end impl_PartOk
namespace impl_PlanOk
theorem S0_eq (d : Nat) : ((fun a => loopK (stp (cx (tab d) rnds) body [1, 0, 1, 0] [] fin) rnds (ll0 a) : Y16 → Option Bool)) = iter (S0 d) rnds :=
 funext (loop_iter ll0 _ (S0 d) (fun (L0 : LS → RT) a => (s0_eq (tab d) rnds L0 a).trans rfl) rnds)
theorem t_eq (d : Nat) (a) : f (d + 1) a = m (iter (S0 d) rnds) a :=
 Eq.trans (show f (d + 1) a = run (cx (tab d) rnds) sig rv body a by kernel_rfl) ((m_eq (tab d) rnds a).trans (congrArg (fun z => m z a) (S0_eq d)))
end impl_PlanOk
namespace impl_ValOk
theorem t_eq (d : Nat) (a) : f (d + 1) a = m (impl_in.f d) a :=
 Eq.trans (show f (d + 1) a = run (cx (tab d) rnds) sig rv body a by kernel_rfl) ((m_eq (tab d) rnds a).trans rfl)
end impl_ValOk
namespace impl_Fits
theorem t_eq (d : Nat) (a) : f (d + 1) a = m (impl_ValOk.f d) a :=
 Eq.trans (show f (d + 1) a = run (cx (tab d) rnds) sig rv body a by kernel_rfl) ((m_eq (tab d) rnds a).trans rfl)
end impl_Fits
namespace impl_FitsAll
theorem S0_eq (d : Nat) : ((fun a => loopK (stp (cx (tab d) rnds) body [1, 1, 0, 1, 0] [] fin) rnds (ll0 a) : Y19 → Option Bool)) = iter (S0 d) rnds :=
 funext (loop_iter ll0 _ (S0 d) (fun (L0 : LS → RT) a => (s0_eq (tab d) rnds L0 a).trans rfl) rnds)
theorem t_eq (d : Nat) (a) : f (d + 1) a = m (iter (S0 d) rnds) a :=
 Eq.trans (show f (d + 1) a = run (cx (tab d) rnds) sig rv body a by kernel_rfl) ((m_eq (tab d) rnds a).trans (congrArg (fun z => m z a) (S0_eq d)))
end impl_FitsAll
namespace impl_RowOk
theorem t_eq (d : Nat) (a) : f (d + 1) a = m (impl_PlanOk.f d) (impl_FitsAll.f d) a :=
 Eq.trans (show f (d + 1) a = run (cx (tab d) rnds) sig rv body a by kernel_rfl) ((m_eq (tab d) rnds a).trans rfl)
end impl_RowOk
namespace impl_RowPlan
theorem S0_eq (d : Nat) : ((fun a => loopK (stp (cx (tab d) rnds) body [1, 1, 1, 0, 1, 0] [] fin) rnds (ll0 a) : Y20 → Option Y15)) = iter (S0 d) rnds :=
 funext (loop_iter ll0 _ (S0 d) (fun (L0 : LS → RT) a => (s0_eq (tab d) rnds L0 a).trans rfl) rnds)
theorem t_eq (d : Nat) (a) : f (d + 1) a = m (impl_CheckDef.f d) (iter (S0 d) rnds) a :=
 Eq.trans (show f (d + 1) a = run (cx (tab d) rnds) sig rv body a by kernel_rfl) ((m_eq (tab d) rnds a).trans (congrArg (fun z => m (tab d 65) z a) (S0_eq d)))
end impl_RowPlan
namespace impl_HeadOf
theorem t_eq (d : Nat) (a) : f (d + 1) a = m (impl_hasIndex.f d) a :=
 Eq.trans (show f (d + 1) a = run (cx (tab d) rnds) sig rv body a by kernel_rfl) ((m_eq (tab d) rnds a).trans rfl)
end impl_HeadOf
namespace impl_Pick
theorem S0_eq (d : Nat) : ((fun a => loopK (stp (cx (tab d) rnds) body [1, 1, 0, 1, 0] [] fin) rnds (ll0 a) : Y22 → Option Y21)) = iter (S0 d) rnds :=
 funext (loop_iter ll0 _ (S0 d) (fun (L0 : LS → RT) a => (s0_eq (tab d) rnds L0 a).trans rfl) rnds)
theorem t_eq (d : Nat) (a) : f (d + 1) a = m (iter (S0 d) rnds) a :=
 Eq.trans (show f (d + 1) a = run (cx (tab d) rnds) sig rv body a by kernel_rfl) ((m_eq (tab d) rnds a).trans (congrArg (fun z => m z a) (S0_eq d)))
end impl_Pick
namespace impl_partsOf
theorem S0_eq (d : Nat) : ((fun a => loopK (stp (cx (tab d) rnds) body [1, 1, 0, 1, 0] [] fin) rnds (ll0 a) : Y23 → Option Y15)) = iter (S0 d) rnds :=
 funext (loop_iter ll0 _ (S0 d) (fun (L0 : LS → RT) a => (s0_eq (tab d) rnds L0 a).trans rfl) rnds)
theorem t_eq (d : Nat) (a) : f (d + 1) a = m (iter (S0 d) rnds) a :=
 Eq.trans (show f (d + 1) a = run (cx (tab d) rnds) sig rv body a by kernel_rfl) ((m_eq (tab d) rnds a).trans (congrArg (fun z => m z a) (S0_eq d)))
end impl_partsOf
namespace impl_PrimaryPlan
theorem t_eq (d : Nat) (a) : f (d + 1) a = m (impl_CheckDef.f d) (impl_partsOf.f d) a :=
 Eq.trans (show f (d + 1) a = run (cx (tab d) rnds) sig rv body a by kernel_rfl) ((m_eq (tab d) rnds a).trans rfl)
end impl_PrimaryPlan
namespace impl_IndexPlan
theorem t_eq (d : Nat) (a) : f (d + 1) a = m (impl_in.f d) (impl_CheckDef.f d) (impl_partsOf.f d) a :=
 Eq.trans (show f (d + 1) a = run (cx (tab d) rnds) sig rv body a by kernel_rfl) ((m_eq (tab d) rnds a).trans rfl)
end impl_IndexPlan
namespace impl_planOf
theorem t_eq (d : Nat) (a) : f (d + 1) a = m (impl_PrimaryPlan.f d) (impl_IndexPlan.f d) a :=
 Eq.trans (show f (d + 1) a = run (cx (tab d) rnds) sig rv body a by kernel_rfl) ((m_eq (tab d) rnds a).trans rfl)
end impl_planOf
namespace impl_clamp
theorem t_eq (d : Nat) (a) : f (d + 1) a = m  a :=
 Eq.trans (show f (d + 1) a = run (cx (tab d) rnds) sig rv body a by kernel_rfl) ((m_eq (tab d) rnds a).trans rfl)
end impl_clamp
namespace impl_bytesOf
theorem S0_eq (d : Nat) : ((fun a => loopK (stp (cx (tab d) rnds) body [1, 1, 0, 0] [] fin) rnds (ll0 a) : (Int × Int) → Option Int)) = iter (S0 d) rnds :=
 funext (loop_iter ll0 _ (S0 d) (fun (L0 : LS → RT) a => (s0_eq (tab d) rnds L0 a).trans rfl) rnds)
theorem t_eq (d : Nat) (a) : f (d + 1) a = m (iter (S0 d) rnds) a :=
 Eq.trans (show f (d + 1) a = run (cx (tab d) rnds) sig rv body a by kernel_rfl) ((m_eq (tab d) rnds a).trans (congrArg (fun z => m z a) (S0_eq d)))
end impl_bytesOf
namespace impl_addBytes
theorem S0_eq (d : Nat) : ((fun a => loopK (stp (cx (tab d) rnds) body [1, 0, 1, 0] [] fin) rnds (ll0 a) : Y26 → Option ((List Int)))) = iter (S0 d) rnds :=
 funext (loop_iter ll0 _ (S0 d) (fun (L0 : LS → RT) a => (s0_eq (tab d) rnds L0 a).trans rfl) rnds)
theorem t_eq (d : Nat) (a) : f (d + 1) a = m (iter (S0 d) rnds) a :=
 Eq.trans (show f (d + 1) a = run (cx (tab d) rnds) sig rv body a by kernel_rfl) ((m_eq (tab d) rnds a).trans (congrArg (fun z => m z a) (S0_eq d)))
end impl_addBytes
namespace impl_addVar
theorem t_eq (d : Nat) (a) : f (d + 1) a = m (impl_clamp.f d) (impl_bytesOf.f d) (impl_addBytes.f d) a :=
 Eq.trans (show f (d + 1) a = run (cx (tab d) rnds) sig rv body a by kernel_rfl) ((m_eq (tab d) rnds a).trans rfl)
end impl_addVar
namespace impl_addFix
theorem t_eq (d : Nat) (a) : f (d + 1) a = m (impl_clamp.f d) (impl_addBytes.f d) a :=
 Eq.trans (show f (d + 1) a = run (cx (tab d) rnds) sig rv body a by kernel_rfl) ((m_eq (tab d) rnds a).trans rfl)
end impl_addFix
namespace impl_addEsc
theorem S0_eq (d : Nat) : ((fun a => loopK (stp (cx (tab d) rnds) body [1, 0, 1, 0] [] fin) rnds (ll0 a) : Y27 → Option ((List Int)))) = iter (S0 d) rnds :=
 funext (loop_iter ll0 _ (S0 d) (fun (L0 : LS → RT) a => (s0_eq (tab d) rnds L0 a).trans rfl) rnds)
theorem t_eq (d : Nat) (a) : f (d + 1) a = m (iter (S0 d) rnds) a :=
 Eq.trans (show f (d + 1) a = run (cx (tab d) rnds) sig rv body a by kernel_rfl) ((m_eq (tab d) rnds a).trans (congrArg (fun z => m z a) (S0_eq d)))
end impl_addEsc
namespace impl_copyBytes
theorem t_eq (d : Nat) (a) : f (d + 1) a = m  a :=
 Eq.trans (show f (d + 1) a = run (cx (tab d) rnds) sig rv body a by kernel_rfl) ((m_eq (tab d) rnds a).trans rfl)
end impl_copyBytes
namespace impl_Flip
theorem S0_eq (d : Nat) : ((fun a => loopK (stp (cx (tab d) rnds) body [1, 1, 0, 1, 0] [] fin) rnds (ll0 a) : (Int × (List Int)) → Option ((List Int)))) = iter (S0 d) rnds :=
 funext (loop_iter ll0 _ (S0 d) (fun (L0 : LS → RT) a => (s0_eq (tab d) rnds L0 a).trans rfl) rnds)
theorem t_eq (d : Nat) (a) : f (d + 1) a = m (impl_copyBytes.f d) (iter (S0 d) rnds) a :=
 Eq.trans (show f (d + 1) a = run (cx (tab d) rnds) sig rv body a by kernel_rfl) ((m_eq (tab d) rnds a).trans (congrArg (fun z => m (tab d 156) z a) (S0_eq d)))
end impl_Flip
namespace impl_addPart
theorem t_eq (d : Nat) (a) : f (d + 1) a = m (impl_addVar.f d) (impl_PartOk.f d) (impl_Fits.f d) (impl_addFix.f d) (impl_addEsc.f d) (impl_Flip.f d) a :=
 Eq.trans (show f (d + 1) a = run (cx (tab d) rnds) sig rv body a by kernel_rfl) ((m_eq (tab d) rnds a).trans rfl)
end impl_addPart
namespace impl_EncodeKey
theorem S0_eq (d : Nat) : ((fun a => loopK (stp (cx (tab d) rnds) body [1, 1, 1, 0, 1, 0] [] fin) rnds (ll0 a) : Y29 → Option ((List Int)))) = iter (S0 d) rnds :=
 funext (loop_iter ll0 _ (S0 d) (fun (L0 : LS → RT) a => (s0_eq (tab d) rnds L0 a).trans rfl) rnds)
theorem t_eq (d : Nat) (a) : f (d + 1) a = m (impl_PlanOk.f d) (impl_FitsAll.f d) (iter (S0 d) rnds) a :=
 Eq.trans (show f (d + 1) a = run (cx (tab d) rnds) sig rv body a by kernel_rfl) ((m_eq (tab d) rnds a).trans (congrArg (fun z => m (tab d 73) (tab d 74) z a) (S0_eq d)))
end impl_EncodeKey
namespace impl_keyOf
theorem t_eq (d : Nat) (a) : f (d + 1) a = m (impl_HeadOf.f d) (impl_Pick.f d) (impl_planOf.f d) (impl_EncodeKey.f d) a :=
 Eq.trans (show f (d + 1) a = run (cx (tab d) rnds) sig rv body a by kernel_rfl) ((m_eq (tab d) rnds a).trans rfl)
end impl_keyOf
namespace impl_KeyOf
theorem t_eq (d : Nat) (a) : f (d + 1) a = m (impl_hasIndex.f d) (impl_RowOk.f d) (impl_RowPlan.f d) (impl_keyOf.f d) a :=
 Eq.trans (show f (d + 1) a = run (cx (tab d) rnds) sig rv body a by kernel_rfl) ((m_eq (tab d) rnds a).trans rfl)
end impl_KeyOf
namespace spec_l1In
theorem t_eq (d : Nat) (a) : f (d + 1) a = m  a :=
 Eq.trans (show f (d + 1) a = run (cx (tab d) rnds) sig rv body a by kernel_rfl) ((m_eq (tab d) rnds a).trans rfl)
end spec_l1In
namespace spec_l8Small
theorem t_eq (d : Nat) (a) : f (d + 1) a = m (spec_l1In.f d) a :=
 Eq.trans (show f (d + 1) a = run (cx (tab d) rnds) sig rv body a by kernel_rfl) ((m_eq (tab d) rnds a).trans rfl)
end spec_l8Small
namespace spec_l2Digit
theorem t_eq (d : Nat) (a) : f (d + 1) a = m (spec_l1In.f d) a :=
 Eq.trans (show f (d + 1) a = run (cx (tab d) rnds) sig rv body a by kernel_rfl) ((m_eq (tab d) rnds a).trans rfl)
end spec_l2Digit
namespace spec_l8Name
theorem S0_eq (d : Nat) : ((fun a => loopK (stp (cx (tab d) rnds) body [1, 0, 1, 0] [] fin) rnds (ll0 a) : (ByteArray × Int) → Option Bool)) = iter (S0 d) rnds :=
 funext (loop_iter ll0 _ (S0 d) (fun (L0 : LS → RT) a => (s0_eq (tab d) rnds L0 a).trans rfl) rnds)
theorem t_eq (d : Nat) (a) : f (d + 1) a = m (iter (S0 d) rnds) a :=
 Eq.trans (show f (d + 1) a = run (cx (tab d) rnds) sig rv body a by kernel_rfl) ((m_eq (tab d) rnds a).trans (congrArg (fun z => m z a) (S0_eq d)))
end spec_l8Name
namespace spec_l9Has
theorem S0_eq (d : Nat) : ((fun a => loopK (stp (cx (tab d) rnds) body [1, 0, 1, 0] [] fin) rnds (ll0 a) : Y32 → Option Bool)) = iter (S0 d) rnds :=
 funext (loop_iter ll0 _ (S0 d) (fun (L0 : LS → RT) a => (s0_eq (tab d) rnds L0 a).trans rfl) rnds)
theorem t_eq (d : Nat) (a) : f (d + 1) a = m (iter (S0 d) rnds) a :=
 Eq.trans (show f (d + 1) a = run (cx (tab d) rnds) sig rv body a by kernel_rfl) ((m_eq (tab d) rnds a).trans (congrArg (fun z => m z a) (S0_eq d)))
end spec_l9Has
namespace spec_l9Word
theorem t_eq (d : Nat) (a) : f (d + 1) a = m (spec_l8Name.f d) (spec_l9Has.f d) a :=
 Eq.trans (show f (d + 1) a = run (cx (tab d) rnds) sig rv body a by kernel_rfl) ((m_eq (tab d) rnds a).trans rfl)
end spec_l9Word
namespace spec_l9Names
theorem S2_eq (d : Nat) : ((fun a => loopK (stp (cx (tab d) rnds) body [1, 1, 0, 1, 0] [] fin) rnds (ll2 a) : Y33 → Option Bool)) = iter (S2 d) rnds :=
 funext (loop_iter ll2 _ (S2 d) (fun (L2 : LS → RT) a => (s2_eq (tab d) rnds L2 a).trans rfl) rnds)
theorem S0_eq (d : Nat) : ((fun a => loopK (stp (cx (tab d) rnds) body [1, 0, 1, 0] [] fin) rnds (ll0 a) : Y33 → Option Bool)) = iter (S0 d) rnds :=
 funext (loop_iter ll0 _ (S0 d) (fun (L0 : LS → RT) a => (s0_eq (tab d) rnds L0 a).trans (congrArg (fun z => s0 (tab d 149) z (fun a => L0 (ll0 a)) a) (S2_eq d))) rnds)
theorem t_eq (d : Nat) (a) : f (d + 1) a = m (iter (S0 d) rnds) a :=
 Eq.trans (show f (d + 1) a = run (cx (tab d) rnds) sig rv body a by kernel_rfl) ((m_eq (tab d) rnds a).trans (congrArg (fun z => m z a) (S0_eq d)))
end spec_l9Names
namespace spec_l9Types
theorem S0_eq (d : Nat) : ((fun a => loopK (stp (cx (tab d) rnds) body [1, 0, 1, 0] [] fin) rnds (ll0 a) : Y33 → Option Bool)) = iter (S0 d) rnds :=
 funext (loop_iter ll0 _ (S0 d) (fun (L0 : LS → RT) a => (s0_eq (tab d) rnds L0 a).trans rfl) rnds)
theorem t_eq (d : Nat) (a) : f (d + 1) a = m (iter (S0 d) rnds) a :=
 Eq.trans (show f (d + 1) a = run (cx (tab d) rnds) sig rv body a by kernel_rfl) ((m_eq (tab d) rnds a).trans (congrArg (fun z => m z a) (S0_eq d)))
end spec_l9Types
namespace spec_l9Col
theorem S0_eq (d : Nat) : ((fun a => loopK (stp (cx (tab d) rnds) body [1, 0, 1, 0] [] fin) rnds (ll0 a) : Y35 → Option Int)) = iter (S0 d) rnds :=
 funext (loop_iter ll0 _ (S0 d) (fun (L0 : LS → RT) a => (s0_eq (tab d) rnds L0 a).trans rfl) rnds)
theorem t_eq (d : Nat) (a) : f (d + 1) a = m (iter (S0 d) rnds) a :=
 Eq.trans (show f (d + 1) a = run (cx (tab d) rnds) sig rv body a by kernel_rfl) ((m_eq (tab d) rnds a).trans (congrArg (fun z => m z a) (S0_eq d)))
end spec_l9Col
namespace spec_l9Once
theorem S4_eq (d : Nat) (L2 : LS → RT) : ((fun a => loopK (stp (cx (tab d) rnds) body [1, 1, 0, 1, 0, 0, 1, 0, 0, 1, 0] [L2] fin) rnds (ll4 a) : Y36 → Option Bool)) = iter (S4 d (fun a => L2 (ll2 a))) rnds :=
 funext (loop_iter ll4 _ (S4 d (fun a => L2 (ll2 a))) (fun (L4 : LS → RT) a => (s4_eq (tab d) rnds L2 L4 a).trans rfl) rnds)
theorem S2_eq (d : Nat) : ((fun a => loopK (stp (cx (tab d) rnds) body [1, 1, 0, 1, 0] [] fin) rnds (ll2 a) : Y33 → Option Bool)) = iter (S2 d) rnds :=
 funext (loop_iter ll2 _ (S2 d) (fun (L2 : LS → RT) a => (s2_eq (tab d) rnds L2 a).trans (congrArg (fun z => s2 z (fun a => L2 (ll2 a)) a) (S4_eq d L2))) rnds)
theorem S0_eq (d : Nat) : ((fun a => loopK (stp (cx (tab d) rnds) body [1, 0, 1, 0] [] fin) rnds (ll0 a) : Y33 → Option Bool)) = iter (S0 d) rnds :=
 funext (loop_iter ll0 _ (S0 d) (fun (L0 : LS → RT) a => (s0_eq (tab d) rnds L0 a).trans (congrArg (fun z => s0 (tab d 150) z (fun a => L0 (ll0 a)) a) (S2_eq d))) rnds)
theorem t_eq (d : Nat) (a) : f (d + 1) a = m (iter (S0 d) rnds) a :=
 Eq.trans (show f (d + 1) a = run (cx (tab d) rnds) sig rv body a by kernel_rfl) ((m_eq (tab d) rnds a).trans (congrArg (fun z => m z a) (S0_eq d)))
end spec_l9Once
namespace spec_l9Parts
theorem S0_eq (d : Nat) : ((fun a => loopK (stp (cx (tab d) rnds) body [1, 0, 1, 0] [] fin) rnds (ll0 a) : Y37 → Option Bool)) = iter (S0 d) rnds :=
 funext (loop_iter ll0 _ (S0 d) (fun (L0 : LS → RT) a => (s0_eq (tab d) rnds L0 a).trans rfl) rnds)
theorem t_eq (d : Nat) (a) : f (d + 1) a = m (iter (S0 d) rnds) a :=
 Eq.trans (show f (d + 1) a = run (cx (tab d) rnds) sig rv body a by kernel_rfl) ((m_eq (tab d) rnds a).trans (congrArg (fun z => m z a) (S0_eq d)))
end spec_l9Parts
namespace spec_l9AllParts
theorem S0_eq (d : Nat) : ((fun a => loopK (stp (cx (tab d) rnds) body [1, 0, 1, 0] [] fin) rnds (ll0 a) : Y33 → Option Bool)) = iter (S0 d) rnds :=
 funext (loop_iter ll0 _ (S0 d) (fun (L0 : LS → RT) a => (s0_eq (tab d) rnds L0 a).trans rfl) rnds)
theorem t_eq (d : Nat) (a) : f (d + 1) a = m (iter (S0 d) rnds) a :=
 Eq.trans (show f (d + 1) a = run (cx (tab d) rnds) sig rv body a by kernel_rfl) ((m_eq (tab d) rnds a).trans (congrArg (fun z => m z a) (S0_eq d)))
end spec_l9AllParts
namespace spec_CheckDef
theorem S1_eq (d : Nat) : ((fun a => loopK (stp (cx (tab d) rnds) body [1, 1, 0, 1, 0] [] fin) rnds (ll1 a) : Y33 → Option Int)) = iter (S1 d) rnds :=
 funext (loop_iter ll1 _ (S1 d) (fun (L1 : LS → RT) a => (s1_eq (tab d) rnds L1 a).trans rfl) rnds)
theorem t_eq (d : Nat) (a) : f (d + 1) a = m (spec_l9Names.f d) (spec_l9Types.f d) (spec_l9Once.f d) (spec_l9AllParts.f d) (iter (S1 d) rnds) a :=
 Eq.trans (show f (d + 1) a = run (cx (tab d) rnds) sig rv body a by kernel_rfl) ((m_eq (tab d) rnds a).trans (congrArg (fun z => m (tab d 120) (tab d 121) (tab d 122) (tab d 123) z a) (S1_eq d)))
end spec_CheckDef
namespace spec_FirstBad
theorem S2_eq (d : Nat) (L0 : LS → RT) : ((fun a => loopK (stp (cx (tab d) rnds) body [1, 0, 1, 0, 0, 1, 0, 0, 1, 1, 0] [L0] fin) rnds (ll2 a) : Y38 → Option Int)) = iter (S2 d (fun a => L0 (ll0 a))) rnds :=
 funext (loop_iter ll2 _ (S2 d (fun a => L0 (ll0 a))) (fun (L2 : LS → RT) a => (s2_eq (tab d) rnds L0 L2 a).trans rfl) rnds)
theorem S0_eq (d : Nat) : ((fun a => loopK (stp (cx (tab d) rnds) body [1, 0, 1, 0] [] fin) rnds (ll0 a) : Y39 → Option Int)) = iter (S0 d) rnds :=
 funext (loop_iter ll0 _ (S0 d) (fun (L0 : LS → RT) a => (s0_eq (tab d) rnds L0 a).trans (congrArg (fun z => s0 (tab d 81) z (fun a => L0 (ll0 a)) a) (S2_eq d L0))) rnds)
theorem t_eq (d : Nat) (a) : f (d + 1) a = m (iter (S0 d) rnds) a :=
 Eq.trans (show f (d + 1) a = run (cx (tab d) rnds) sig rv body a by kernel_rfl) ((m_eq (tab d) rnds a).trans (congrArg (fun z => m z a) (S0_eq d)))
end spec_FirstBad
namespace spec_l11There
theorem t_eq (d : Nat) (a) : f (d + 1) a = m (spec_FirstBad.f d) (spec_l1In.f d) a :=
 Eq.trans (show f (d + 1) a = run (cx (tab d) rnds) sig rv body a by kernel_rfl) ((m_eq (tab d) rnds a).trans rfl)
end spec_l11There
namespace spec_PartOk
theorem t_eq (d : Nat) (a) : f (d + 1) a = m (spec_l1In.f d) a :=
 Eq.trans (show f (d + 1) a = run (cx (tab d) rnds) sig rv body a by kernel_rfl) ((m_eq (tab d) rnds a).trans rfl)
end spec_PartOk
namespace spec_PlanOk
theorem S0_eq (d : Nat) : ((fun a => loopK (stp (cx (tab d) rnds) body [1, 0, 1, 0] [] fin) rnds (ll0 a) : Y40 → Option Bool)) = iter (S0 d) rnds :=
 funext (loop_iter ll0 _ (S0 d) (fun (L0 : LS → RT) a => (s0_eq (tab d) rnds L0 a).trans rfl) rnds)
theorem t_eq (d : Nat) (a) : f (d + 1) a = m (iter (S0 d) rnds) a :=
 Eq.trans (show f (d + 1) a = run (cx (tab d) rnds) sig rv body a by kernel_rfl) ((m_eq (tab d) rnds a).trans (congrArg (fun z => m z a) (S0_eq d)))
end spec_PlanOk
namespace spec_ValOk
theorem t_eq (d : Nat) (a) : f (d + 1) a = m (spec_l1In.f d) a :=
 Eq.trans (show f (d + 1) a = run (cx (tab d) rnds) sig rv body a by kernel_rfl) ((m_eq (tab d) rnds a).trans rfl)
end spec_ValOk
namespace spec_Fits
theorem t_eq (d : Nat) (a) : f (d + 1) a = m (spec_ValOk.f d) a :=
 Eq.trans (show f (d + 1) a = run (cx (tab d) rnds) sig rv body a by kernel_rfl) ((m_eq (tab d) rnds a).trans rfl)
end spec_Fits
namespace spec_FitsAll
theorem S0_eq (d : Nat) : ((fun a => loopK (stp (cx (tab d) rnds) body [1, 1, 0, 1, 0] [] fin) rnds (ll0 a) : Y41 → Option Bool)) = iter (S0 d) rnds :=
 funext (loop_iter ll0 _ (S0 d) (fun (L0 : LS → RT) a => (s0_eq (tab d) rnds L0 a).trans rfl) rnds)
theorem t_eq (d : Nat) (a) : f (d + 1) a = m (iter (S0 d) rnds) a :=
 Eq.trans (show f (d + 1) a = run (cx (tab d) rnds) sig rv body a by kernel_rfl) ((m_eq (tab d) rnds a).trans (congrArg (fun z => m z a) (S0_eq d)))
end spec_FitsAll
namespace spec_RowOk
theorem t_eq (d : Nat) (a) : f (d + 1) a = m (spec_PlanOk.f d) (spec_FitsAll.f d) a :=
 Eq.trans (show f (d + 1) a = run (cx (tab d) rnds) sig rv body a by kernel_rfl) ((m_eq (tab d) rnds a).trans rfl)
end spec_RowOk
namespace spec_l11Part
theorem t_eq (d : Nat) (a) : f (d + 1) a = m  a :=
 Eq.trans (show f (d + 1) a = run (cx (tab d) rnds) sig rv body a by kernel_rfl) ((m_eq (tab d) rnds a).trans rfl)
end spec_l11Part
namespace spec_RowPlan
theorem S0_eq (d : Nat) : ((fun a => loopK (stp (cx (tab d) rnds) body [1, 1, 0, 1, 0] [] fin) rnds (ll0 a) : Y43 → Option Y15)) = iter (S0 d) rnds :=
 funext (loop_iter ll0 _ (S0 d) (fun (L0 : LS → RT) a => (s0_eq (tab d) rnds L0 a).trans rfl) rnds)
theorem t_eq (d : Nat) (a) : f (d + 1) a = m (iter (S0 d) rnds) a :=
 Eq.trans (show f (d + 1) a = run (cx (tab d) rnds) sig rv body a by kernel_rfl) ((m_eq (tab d) rnds a).trans (congrArg (fun z => m z a) (S0_eq d)))
end spec_RowPlan
namespace spec_HeadOf
theorem t_eq (d : Nat) (a) : f (d + 1) a = m (spec_l11There.f d) a :=
 Eq.trans (show f (d + 1) a = run (cx (tab d) rnds) sig rv body a by kernel_rfl) ((m_eq (tab d) rnds a).trans rfl)
end spec_HeadOf
namespace spec_l11Parts
theorem S0_eq (d : Nat) : ((fun a => loopK (stp (cx (tab d) rnds) body [1, 1, 0, 1, 0] [] fin) rnds (ll0 a) : Y44 → Option Y15)) = iter (S0 d) rnds :=
 funext (loop_iter ll0 _ (S0 d) (fun (L0 : LS → RT) a => (s0_eq (tab d) rnds L0 a).trans rfl) rnds)
theorem t_eq (d : Nat) (a) : f (d + 1) a = m (iter (S0 d) rnds) a :=
 Eq.trans (show f (d + 1) a = run (cx (tab d) rnds) sig rv body a by kernel_rfl) ((m_eq (tab d) rnds a).trans (congrArg (fun z => m z a) (S0_eq d)))
end spec_l11Parts
namespace spec_PrimaryPlan
theorem t_eq (d : Nat) (a) : f (d + 1) a = m (spec_CheckDef.f d) (spec_l11Parts.f d) a :=
 Eq.trans (show f (d + 1) a = run (cx (tab d) rnds) sig rv body a by kernel_rfl) ((m_eq (tab d) rnds a).trans rfl)
end spec_PrimaryPlan
namespace spec_IndexPlan
theorem t_eq (d : Nat) (a) : f (d + 1) a = m (spec_l1In.f d) (spec_CheckDef.f d) (spec_l11Parts.f d) a :=
 Eq.trans (show f (d + 1) a = run (cx (tab d) rnds) sig rv body a by kernel_rfl) ((m_eq (tab d) rnds a).trans rfl)
end spec_IndexPlan
namespace spec_l11Plan
theorem t_eq (d : Nat) (a) : f (d + 1) a = m (spec_PrimaryPlan.f d) (spec_IndexPlan.f d) a :=
 Eq.trans (show f (d + 1) a = run (cx (tab d) rnds) sig rv body a by kernel_rfl) ((m_eq (tab d) rnds a).trans rfl)
end spec_l11Plan
namespace spec_Flip
theorem S0_eq (d : Nat) : ((fun a => loopK (stp (cx (tab d) rnds) body [1, 1, 0, 1, 0] [] fin) rnds (ll0 a) : (Int × Int × (List Int)) → Option ((List Int)))) = iter (S0 d) rnds :=
 funext (loop_iter ll0 _ (S0 d) (fun (L0 : LS → RT) a => (s0_eq (tab d) rnds L0 a).trans rfl) rnds)
theorem t_eq (d : Nat) (a) : f (d + 1) a = m (iter (S0 d) rnds) a :=
 Eq.trans (show f (d + 1) a = run (cx (tab d) rnds) sig rv body a by kernel_rfl) ((m_eq (tab d) rnds a).trans (congrArg (fun z => m z a) (S0_eq d)))
end spec_Flip
namespace spec_l4Bytes
theorem S0_eq (d : Nat) : ((fun a => loopK (stp (cx (tab d) rnds) body [1, 1, 0, 0] [] fin) rnds (ll0 a) : (Int × (List Int)) → Option ((List Int)))) = iter (S0 d) rnds :=
 funext (loop_iter ll0 _ (S0 d) (fun (L0 : LS → RT) a => (s0_eq (tab d) rnds L0 a).trans rfl) rnds)
theorem t_eq (d : Nat) (a) : f (d + 1) a = m (iter (S0 d) rnds) a :=
 Eq.trans (show f (d + 1) a = run (cx (tab d) rnds) sig rv body a by kernel_rfl) ((m_eq (tab d) rnds a).trans (congrArg (fun z => m z a) (S0_eq d)))
end spec_l4Bytes
namespace spec_PutVar
theorem t_eq (d : Nat) (a) : f (d + 1) a = m (spec_l4Bytes.f d) (spec_Flip.f d) a :=
 Eq.trans (show f (d + 1) a = run (cx (tab d) rnds) sig rv body a by kernel_rfl) ((m_eq (tab d) rnds a).trans rfl)
end spec_PutVar
namespace spec_PutFix
theorem t_eq (d : Nat) (a) : f (d + 1) a = m  a :=
 Eq.trans (show f (d + 1) a = run (cx (tab d) rnds) sig rv body a by kernel_rfl) ((m_eq (tab d) rnds a).trans rfl)
end spec_PutFix
namespace spec_PutEsc
theorem S0_eq (d : Nat) : ((fun a => loopK (stp (cx (tab d) rnds) body [1, 1, 0, 1, 0] [] fin) rnds (ll0 a) : Y27 → Option ((List Int)))) = iter (S0 d) rnds :=
 funext (loop_iter ll0 _ (S0 d) (fun (L0 : LS → RT) a => (s0_eq (tab d) rnds L0 a).trans rfl) rnds)
theorem t_eq (d : Nat) (a) : f (d + 1) a = m (iter (S0 d) rnds) a :=
 Eq.trans (show f (d + 1) a = run (cx (tab d) rnds) sig rv body a by kernel_rfl) ((m_eq (tab d) rnds a).trans (congrArg (fun z => m z a) (S0_eq d)))
end spec_PutEsc
namespace spec_l5Value
theorem t_eq (d : Nat) (a) : f (d + 1) a = m (spec_PutVar.f d) (spec_PutFix.f d) (spec_PutEsc.f d) a :=
 Eq.trans (show f (d + 1) a = run (cx (tab d) rnds) sig rv body a by kernel_rfl) ((m_eq (tab d) rnds a).trans rfl)
end spec_l5Value
namespace spec_PutPart
theorem t_eq (d : Nat) (a) : f (d + 1) a = m (spec_PartOk.f d) (spec_Fits.f d) (spec_Flip.f d) (spec_l5Value.f d) a :=
 Eq.trans (show f (d + 1) a = run (cx (tab d) rnds) sig rv body a by kernel_rfl) ((m_eq (tab d) rnds a).trans rfl)
end spec_PutPart
namespace spec_EncodeKey
theorem S0_eq (d : Nat) : ((fun a => loopK (stp (cx (tab d) rnds) body [1, 1, 1, 0, 1, 0] [] fin) rnds (ll0 a) : Y46 → Option ((List Int)))) = iter (S0 d) rnds :=
 funext (loop_iter ll0 _ (S0 d) (fun (L0 : LS → RT) a => (s0_eq (tab d) rnds L0 a).trans rfl) rnds)
theorem t_eq (d : Nat) (a) : f (d + 1) a = m (spec_PlanOk.f d) (spec_FitsAll.f d) (iter (S0 d) rnds) a :=
 Eq.trans (show f (d + 1) a = run (cx (tab d) rnds) sig rv body a by kernel_rfl) ((m_eq (tab d) rnds a).trans (congrArg (fun z => m (tab d 79) (tab d 80) z a) (S0_eq d)))
end spec_EncodeKey
namespace spec_Pick
theorem S0_eq (d : Nat) : ((fun a => loopK (stp (cx (tab d) rnds) body [1, 1, 0, 1, 0] [] fin) rnds (ll0 a) : Y47 → Option Y21)) = iter (S0 d) rnds :=
 funext (loop_iter ll0 _ (S0 d) (fun (L0 : LS → RT) a => (s0_eq (tab d) rnds L0 a).trans rfl) rnds)
theorem t_eq (d : Nat) (a) : f (d + 1) a = m (iter (S0 d) rnds) a :=
 Eq.trans (show f (d + 1) a = run (cx (tab d) rnds) sig rv body a by kernel_rfl) ((m_eq (tab d) rnds a).trans (congrArg (fun z => m z a) (S0_eq d)))
end spec_Pick
namespace spec_l11Key
theorem t_eq (d : Nat) (a) : f (d + 1) a = m (spec_HeadOf.f d) (spec_l11Plan.f d) (spec_EncodeKey.f d) (spec_Pick.f d) a :=
 Eq.trans (show f (d + 1) a = run (cx (tab d) rnds) sig rv body a by kernel_rfl) ((m_eq (tab d) rnds a).trans rfl)
end spec_l11Key
namespace impl_addU
theorem S0_eq (d : Nat) : ((fun a => loopK (stp (cx (tab d) rnds) body [1, 1, 0, 0] [] fin) rnds (ll0 a) : (Int × (List Int)) → Option ((List Int)))) = iter (S0 d) rnds :=
 funext (loop_iter ll0 _ (S0 d) (fun (L0 : LS → RT) a => (s0_eq (tab d) rnds L0 a).trans rfl) rnds)
theorem t_eq (d : Nat) (a) : f (d + 1) a = m (impl_clamp.f d) (iter (S0 d) rnds) a :=
 Eq.trans (show f (d + 1) a = run (cx (tab d) rnds) sig rv body a by kernel_rfl) ((m_eq (tab d) rnds a).trans (congrArg (fun z => m (tab d 127) z a) (S0_eq d)))
end impl_addU
namespace impl_addText
theorem t_eq (d : Nat) (a) : f (d + 1) a = m (impl_addU.f d) a :=
 Eq.trans (show f (d + 1) a = run (cx (tab d) rnds) sig rv body a by kernel_rfl) ((m_eq (tab d) rnds a).trans rfl)
end impl_addText
namespace impl_Crc
theorem S2_eq (d : Nat) (L0 : LS → RT) : ((fun a => loopK (stp (cx (tab d) rnds) body [1, 1, 0, 1, 0, 0, 1, 1, 0, 0, 1, 1, 1, 0] [L0] fin) rnds (ll2 a) : Y48 → Option Int)) = iter (S2 d (fun a => L0 (ll0 a))) rnds :=
 funext (loop_iter ll2 _ (S2 d (fun a => L0 (ll0 a))) (fun (L2 : LS → RT) a => (s2_eq (tab d) rnds L0 L2 a).trans rfl) rnds)
theorem S0_eq (d : Nat) : ((fun a => loopK (stp (cx (tab d) rnds) body [1, 1, 0, 1, 0] [] fin) rnds (ll0 a) : Y49 → Option Int)) = iter (S0 d) rnds :=
 funext (loop_iter ll0 _ (S0 d) (fun (L0 : LS → RT) a => (s0_eq (tab d) rnds L0 a).trans (congrArg (fun z => s0 z (fun a => L0 (ll0 a)) a) (S2_eq d L0))) rnds)
theorem t_eq (d : Nat) (a) : f (d + 1) a = m (iter (S0 d) rnds) a :=
 Eq.trans (show f (d + 1) a = run (cx (tab d) rnds) sig rv body a by kernel_rfl) ((m_eq (tab d) rnds a).trans (congrArg (fun z => m z a) (S0_eq d)))
end impl_Crc
namespace impl_addSum
theorem t_eq (d : Nat) (a) : f (d + 1) a = m (impl_Crc.f d) a :=
 Eq.trans (show f (d + 1) a = run (cx (tab d) rnds) sig rv body a by kernel_rfl) ((m_eq (tab d) rnds a).trans rfl)
end impl_addSum
namespace impl_EncodeRow
theorem S0_eq (d : Nat) : ((fun a => loopK (stp (cx (tab d) rnds) body [1, 1, 1, 0, 1, 0] [] fin) rnds (ll0 a) : Y50 → Option ((List Int)))) = iter (S0 d) rnds :=
 funext (loop_iter ll0 _ (S0 d) (fun (L0 : LS → RT) a => (s0_eq (tab d) rnds L0 a).trans rfl) rnds)
theorem t_eq (d : Nat) (a) : f (d + 1) a = m (impl_RowOk.f d) (impl_addU.f d) (iter (S0 d) rnds) a :=
 Eq.trans (show f (d + 1) a = run (cx (tab d) rnds) sig rv body a by kernel_rfl) ((m_eq (tab d) rnds a).trans (congrArg (fun z => m (tab d 42) (tab d 86) z a) (S0_eq d)))
end impl_EncodeRow
namespace impl_LongKey
theorem S0_eq (d : Nat) : ((fun a => loopK (stp (cx (tab d) rnds) body [1, 1, 0, 1, 0] [] fin) rnds (ll0 a) : Y52 → Option Bool)) = iter (S0 d) rnds :=
 funext (loop_iter ll0 _ (S0 d) (fun (L0 : LS → RT) a => (s0_eq (tab d) rnds L0 a).trans rfl) rnds)
theorem t_eq (d : Nat) (a) : f (d + 1) a = m (impl_hasIndex.f d) (iter (S0 d) rnds) a :=
 Eq.trans (show f (d + 1) a = run (cx (tab d) rnds) sig rv body a by kernel_rfl) ((m_eq (tab d) rnds a).trans (congrArg (fun z => m (tab d 41) z a) (S0_eq d)))
end impl_LongKey
namespace spec_PutU
theorem S0_eq (d : Nat) : ((fun a => loopK (stp (cx (tab d) rnds) body [1, 1, 1, 1, 0, 0] [] fin) rnds (ll0 a) : (Int × (List Int)) → Option ((List Int)))) = iter (S0 d) rnds :=
 funext (loop_iter ll0 _ (S0 d) (fun (L0 : LS → RT) a => (s0_eq (tab d) rnds L0 a).trans rfl) rnds)
theorem t_eq (d : Nat) (a) : f (d + 1) a = m (iter (S0 d) rnds) a :=
 Eq.trans (show f (d + 1) a = run (cx (tab d) rnds) sig rv body a by kernel_rfl) ((m_eq (tab d) rnds a).trans (congrArg (fun z => m z a) (S0_eq d)))
end spec_PutU
namespace spec_PutText
theorem t_eq (d : Nat) (a) : f (d + 1) a = m (spec_PutU.f d) a :=
 Eq.trans (show f (d + 1) a = run (cx (tab d) rnds) sig rv body a by kernel_rfl) ((m_eq (tab d) rnds a).trans rfl)
end spec_PutText
namespace spec_Crc
theorem S2_eq (d : Nat) (L0 : LS → RT) : ((fun a => loopK (stp (cx (tab d) rnds) body [1, 1, 0, 1, 0, 0, 1, 0, 0, 1, 1, 0] [L0] fin) rnds (ll2 a) : Y25 → Option Int)) = iter (S2 d (fun a => L0 (ll0 a))) rnds :=
 funext (loop_iter ll2 _ (S2 d (fun a => L0 (ll0 a))) (fun (L2 : LS → RT) a => (s2_eq (tab d) rnds L0 L2 a).trans rfl) rnds)
theorem S0_eq (d : Nat) : ((fun a => loopK (stp (cx (tab d) rnds) body [1, 1, 0, 1, 0] [] fin) rnds (ll0 a) : ((List Int) × Int × Int) → Option Int)) = iter (S0 d) rnds :=
 funext (loop_iter ll0 _ (S0 d) (fun (L0 : LS → RT) a => (s0_eq (tab d) rnds L0 a).trans (congrArg (fun z => s0 z (fun a => L0 (ll0 a)) a) (S2_eq d L0))) rnds)
theorem t_eq (d : Nat) (a) : f (d + 1) a = m (iter (S0 d) rnds) a :=
 Eq.trans (show f (d + 1) a = run (cx (tab d) rnds) sig rv body a by kernel_rfl) ((m_eq (tab d) rnds a).trans (congrArg (fun z => m z a) (S0_eq d)))
end spec_Crc
namespace spec_PutSum
theorem t_eq (d : Nat) (a) : f (d + 1) a = m (spec_Crc.f d) a :=
 Eq.trans (show f (d + 1) a = run (cx (tab d) rnds) sig rv body a by kernel_rfl) ((m_eq (tab d) rnds a).trans rfl)
end spec_PutSum
namespace spec_EncodeRow
theorem S0_eq (d : Nat) : ((fun a => loopK (stp (cx (tab d) rnds) body [1, 1, 1, 0, 1, 0] [] fin) rnds (ll0 a) : Y53 → Option ((List Int)))) = iter (S0 d) rnds :=
 funext (loop_iter ll0 _ (S0 d) (fun (L0 : LS → RT) a => (s0_eq (tab d) rnds L0 a).trans rfl) rnds)
theorem t_eq (d : Nat) (a) : f (d + 1) a = m (spec_RowOk.f d) (spec_PutU.f d) (iter (S0 d) rnds) a :=
 Eq.trans (show f (d + 1) a = run (cx (tab d) rnds) sig rv body a by kernel_rfl) ((m_eq (tab d) rnds a).trans (congrArg (fun z => m (tab d 46) (tab d 90) z a) (S0_eq d)))
end spec_EncodeRow
namespace spec_LongKey
theorem S0_eq (d : Nat) : ((fun a => loopK (stp (cx (tab d) rnds) body [1, 1, 0, 1, 0] [] fin) rnds (ll0 a) : Y52 → Option Bool)) = iter (S0 d) rnds :=
 funext (loop_iter ll0 _ (S0 d) (fun (L0 : LS → RT) a => (s0_eq (tab d) rnds L0 a).trans rfl) rnds)
theorem t_eq (d : Nat) (a) : f (d + 1) a = m (spec_l11There.f d) (spec_RowOk.f d) (spec_RowPlan.f d) (iter (S0 d) rnds) a :=
 Eq.trans (show f (d + 1) a = run (cx (tab d) rnds) sig rv body a by kernel_rfl) ((m_eq (tab d) rnds a).trans (congrArg (fun z => m (tab d 45) (tab d 46) (tab d 47) z a) (S0_eq d)))
end spec_LongKey
namespace laws_szCol
theorem t_eq (d : Nat) (a) : f (d + 1) a = m  a :=
 Eq.trans (show f (d + 1) a = run (cx (tab d) rnds) sig rv body a by kernel_rfl) ((m_eq (tab d) rnds a).trans rfl)
end laws_szCol
namespace laws_szColS
theorem S0_eq (d : Nat) : ((fun a => loopK (stp (cx (tab d) rnds) body [1, 1, 1, 0, 1, 0] [] fin) rnds (ll0 a) : Y56 → Option Int)) = iter (S0 d) rnds :=
 funext (loop_iter ll0 _ (S0 d) (fun (L0 : LS → RT) a => (s0_eq (tab d) rnds L0 a).trans rfl) rnds)
theorem t_eq (d : Nat) (a) : f (d + 1) a = m (iter (S0 d) rnds) a :=
 Eq.trans (show f (d + 1) a = run (cx (tab d) rnds) sig rv body a by kernel_rfl) ((m_eq (tab d) rnds a).trans (congrArg (fun z => m z a) (S0_eq d)))
end laws_szColS
namespace laws_szByS
theorem t_eq (d : Nat) (a) : f (d + 1) a = m  a :=
 Eq.trans (show f (d + 1) a = run (cx (tab d) rnds) sig rv body a by kernel_rfl) ((m_eq (tab d) rnds a).trans rfl)
end laws_szByS
namespace laws_szIndex
theorem t_eq (d : Nat) (a) : f (d + 1) a = m (laws_szByS.f d) a :=
 Eq.trans (show f (d + 1) a = run (cx (tab d) rnds) sig rv body a by kernel_rfl) ((m_eq (tab d) rnds a).trans rfl)
end laws_szIndex
namespace laws_szIndexS
theorem S0_eq (d : Nat) : ((fun a => loopK (stp (cx (tab d) rnds) body [1, 1, 1, 0, 1, 0] [] fin) rnds (ll0 a) : Y59 → Option Int)) = iter (S0 d) rnds :=
 funext (loop_iter ll0 _ (S0 d) (fun (L0 : LS → RT) a => (s0_eq (tab d) rnds L0 a).trans rfl) rnds)
theorem t_eq (d : Nat) (a) : f (d + 1) a = m (iter (S0 d) rnds) a :=
 Eq.trans (show f (d + 1) a = run (cx (tab d) rnds) sig rv body a by kernel_rfl) ((m_eq (tab d) rnds a).trans (congrArg (fun z => m z a) (S0_eq d)))
end laws_szIndexS
namespace laws_szDef
theorem t_eq (d : Nat) (a) : f (d + 1) a = m (laws_szColS.f d) (laws_szByS.f d) (laws_szIndexS.f d) a :=
 Eq.trans (show f (d + 1) a = run (cx (tab d) rnds) sig rv body a by kernel_rfl) ((m_eq (tab d) rnds a).trans rfl)
end laws_szDef
namespace laws_szDefS
theorem S0_eq (d : Nat) : ((fun a => loopK (stp (cx (tab d) rnds) body [1, 1, 1, 0, 1, 0] [] fin) rnds (ll0 a) : Y14 → Option Int)) = iter (S0 d) rnds :=
 funext (loop_iter ll0 _ (S0 d) (fun (L0 : LS → RT) a => (s0_eq (tab d) rnds L0 a).trans rfl) rnds)
theorem t_eq (d : Nat) (a) : f (d + 1) a = m (iter (S0 d) rnds) a :=
 Eq.trans (show f (d + 1) a = run (cx (tab d) rnds) sig rv body a by kernel_rfl) ((m_eq (tab d) rnds a).trans (congrArg (fun z => m z a) (S0_eq d)))
end laws_szDefS
namespace laws_szVal
theorem t_eq (d : Nat) (a) : f (d + 1) a = m  a :=
 Eq.trans (show f (d + 1) a = run (cx (tab d) rnds) sig rv body a by kernel_rfl) ((m_eq (tab d) rnds a).trans rfl)
end laws_szVal
namespace laws_szValS
theorem S0_eq (d : Nat) : ((fun a => loopK (stp (cx (tab d) rnds) body [1, 1, 1, 0, 1, 0] [] fin) rnds (ll0 a) : Y62 → Option Int)) = iter (S0 d) rnds :=
 funext (loop_iter ll0 _ (S0 d) (fun (L0 : LS → RT) a => (s0_eq (tab d) rnds L0 a).trans rfl) rnds)
theorem t_eq (d : Nat) (a) : f (d + 1) a = m (iter (S0 d) rnds) a :=
 Eq.trans (show f (d + 1) a = run (cx (tab d) rnds) sig rv body a by kernel_rfl) ((m_eq (tab d) rnds a).trans (congrArg (fun z => m z a) (S0_eq d)))
end laws_szValS
namespace laws_toCol
theorem t_eq (d : Nat) (a) : f (d + 1) a = m  a :=
 Eq.trans (show f (d + 1) a = run (cx (tab d) rnds) sig rv body a by kernel_rfl) ((m_eq (tab d) rnds a).trans rfl)
end laws_toCol
namespace laws_toColS
theorem S0_eq (d : Nat) : ((fun a => loopK (stp (cx (tab d) rnds) body [1, 1, 0, 1, 0] [] fin) rnds (ll0 a) : Y64 → Option Y63)) = iter (S0 d) rnds :=
 funext (loop_iter ll0 _ (S0 d) (fun (L0 : LS → RT) a => (s0_eq (tab d) rnds L0 a).trans rfl) rnds)
theorem t_eq (d : Nat) (a) : f (d + 1) a = m (iter (S0 d) rnds) a :=
 Eq.trans (show f (d + 1) a = run (cx (tab d) rnds) sig rv body a by kernel_rfl) ((m_eq (tab d) rnds a).trans (congrArg (fun z => m z a) (S0_eq d)))
end laws_toColS
namespace laws_toBy
theorem t_eq (d : Nat) (a) : f (d + 1) a = m  a :=
 Eq.trans (show f (d + 1) a = run (cx (tab d) rnds) sig rv body a by kernel_rfl) ((m_eq (tab d) rnds a).trans rfl)
end laws_toBy
namespace laws_toByS
theorem S0_eq (d : Nat) : ((fun a => loopK (stp (cx (tab d) rnds) body [1, 1, 0, 1, 0] [] fin) rnds (ll0 a) : Y65 → Option ((List (Int × Bool))))) = iter (S0 d) rnds :=
 funext (loop_iter ll0 _ (S0 d) (fun (L0 : LS → RT) a => (s0_eq (tab d) rnds L0 a).trans rfl) rnds)
theorem t_eq (d : Nat) (a) : f (d + 1) a = m (iter (S0 d) rnds) a :=
 Eq.trans (show f (d + 1) a = run (cx (tab d) rnds) sig rv body a by kernel_rfl) ((m_eq (tab d) rnds a).trans (congrArg (fun z => m z a) (S0_eq d)))
end laws_toByS
namespace laws_toIndex
theorem t_eq (d : Nat) (a) : f (d + 1) a = m (laws_toByS.f d) a :=
 Eq.trans (show f (d + 1) a = run (cx (tab d) rnds) sig rv body a by kernel_rfl) ((m_eq (tab d) rnds a).trans rfl)
end laws_toIndex
namespace laws_toIndexS
theorem S0_eq (d : Nat) : ((fun a => loopK (stp (cx (tab d) rnds) body [1, 1, 0, 1, 0] [] fin) rnds (ll0 a) : Y67 → Option Y66)) = iter (S0 d) rnds :=
 funext (loop_iter ll0 _ (S0 d) (fun (L0 : LS → RT) a => (s0_eq (tab d) rnds L0 a).trans rfl) rnds)
theorem t_eq (d : Nat) (a) : f (d + 1) a = m (iter (S0 d) rnds) a :=
 Eq.trans (show f (d + 1) a = run (cx (tab d) rnds) sig rv body a by kernel_rfl) ((m_eq (tab d) rnds a).trans (congrArg (fun z => m z a) (S0_eq d)))
end laws_toIndexS
namespace laws_toDef
theorem t_eq (d : Nat) (a) : f (d + 1) a = m (laws_toColS.f d) (laws_toByS.f d) (laws_toIndexS.f d) a :=
 Eq.trans (show f (d + 1) a = run (cx (tab d) rnds) sig rv body a by kernel_rfl) ((m_eq (tab d) rnds a).trans rfl)
end laws_toDef
namespace laws_toDefS
theorem S0_eq (d : Nat) : ((fun a => loopK (stp (cx (tab d) rnds) body [1, 1, 0, 1, 0] [] fin) rnds (ll0 a) : Y68 → Option Y11)) = iter (S0 d) rnds :=
 funext (loop_iter ll0 _ (S0 d) (fun (L0 : LS → RT) a => (s0_eq (tab d) rnds L0 a).trans rfl) rnds)
theorem t_eq (d : Nat) (a) : f (d + 1) a = m (iter (S0 d) rnds) a :=
 Eq.trans (show f (d + 1) a = run (cx (tab d) rnds) sig rv body a by kernel_rfl) ((m_eq (tab d) rnds a).trans (congrArg (fun z => m z a) (S0_eq d)))
end laws_toDefS
namespace laws_toVal
theorem t_eq (d : Nat) (a) : f (d + 1) a = m  a :=
 Eq.trans (show f (d + 1) a = run (cx (tab d) rnds) sig rv body a by kernel_rfl) ((m_eq (tab d) rnds a).trans rfl)
end laws_toVal
namespace laws_toValS
theorem S0_eq (d : Nat) : ((fun a => loopK (stp (cx (tab d) rnds) body [1, 1, 0, 1, 0] [] fin) rnds (ll0 a) : Y69 → Option Y21)) = iter (S0 d) rnds :=
 funext (loop_iter ll0 _ (S0 d) (fun (L0 : LS → RT) a => (s0_eq (tab d) rnds L0 a).trans rfl) rnds)
theorem t_eq (d : Nat) (a) : f (d + 1) a = m (iter (S0 d) rnds) a :=
 Eq.trans (show f (d + 1) a = run (cx (tab d) rnds) sig rv body a by kernel_rfl) ((m_eq (tab d) rnds a).trans (congrArg (fun z => m z a) (S0_eq d)))
end laws_toValS
namespace laws_eqCol
theorem t_eq (d : Nat) (a) : f (d + 1) a = m  a :=
 Eq.trans (show f (d + 1) a = run (cx (tab d) rnds) sig rv body a by kernel_rfl) ((m_eq (tab d) rnds a).trans rfl)
end laws_eqCol
namespace laws_eqColS
theorem S0_eq (d : Nat) : ((fun a => loopK (stp (cx (tab d) rnds) body [1, 1, 0, 1, 0] [] fin) rnds (ll0 a) : Y72 → Option Bool)) = iter (S0 d) rnds :=
 funext (loop_iter ll0 _ (S0 d) (fun (L0 : LS → RT) a => (s0_eq (tab d) rnds L0 a).trans rfl) rnds)
theorem t_eq (d : Nat) (a) : f (d + 1) a = m (iter (S0 d) rnds) a :=
 Eq.trans (show f (d + 1) a = run (cx (tab d) rnds) sig rv body a by kernel_rfl) ((m_eq (tab d) rnds a).trans (congrArg (fun z => m z a) (S0_eq d)))
end laws_eqColS
namespace laws_eqBy
theorem t_eq (d : Nat) (a) : f (d + 1) a = m  a :=
 Eq.trans (show f (d + 1) a = run (cx (tab d) rnds) sig rv body a by kernel_rfl) ((m_eq (tab d) rnds a).trans rfl)
end laws_eqBy
namespace laws_eqByS
theorem S0_eq (d : Nat) : ((fun a => loopK (stp (cx (tab d) rnds) body [1, 1, 0, 1, 0] [] fin) rnds (ll0 a) : Y74 → Option Bool)) = iter (S0 d) rnds :=
 funext (loop_iter ll0 _ (S0 d) (fun (L0 : LS → RT) a => (s0_eq (tab d) rnds L0 a).trans rfl) rnds)
theorem t_eq (d : Nat) (a) : f (d + 1) a = m (iter (S0 d) rnds) a :=
 Eq.trans (show f (d + 1) a = run (cx (tab d) rnds) sig rv body a by kernel_rfl) ((m_eq (tab d) rnds a).trans (congrArg (fun z => m z a) (S0_eq d)))
end laws_eqByS
namespace laws_eqIndex
theorem t_eq (d : Nat) (a) : f (d + 1) a = m (laws_eqByS.f d) a :=
 Eq.trans (show f (d + 1) a = run (cx (tab d) rnds) sig rv body a by kernel_rfl) ((m_eq (tab d) rnds a).trans rfl)
end laws_eqIndex
namespace laws_eqIndexS
theorem S0_eq (d : Nat) : ((fun a => loopK (stp (cx (tab d) rnds) body [1, 1, 0, 1, 0] [] fin) rnds (ll0 a) : Y77 → Option Bool)) = iter (S0 d) rnds :=
 funext (loop_iter ll0 _ (S0 d) (fun (L0 : LS → RT) a => (s0_eq (tab d) rnds L0 a).trans rfl) rnds)
theorem t_eq (d : Nat) (a) : f (d + 1) a = m (iter (S0 d) rnds) a :=
 Eq.trans (show f (d + 1) a = run (cx (tab d) rnds) sig rv body a by kernel_rfl) ((m_eq (tab d) rnds a).trans (congrArg (fun z => m z a) (S0_eq d)))
end laws_eqIndexS
namespace laws_eqDef
theorem t_eq (d : Nat) (a) : f (d + 1) a = m (laws_eqColS.f d) (laws_eqByS.f d) (laws_eqIndexS.f d) a :=
 Eq.trans (show f (d + 1) a = run (cx (tab d) rnds) sig rv body a by kernel_rfl) ((m_eq (tab d) rnds a).trans rfl)
end laws_eqDef
namespace laws_eqDefS
theorem S0_eq (d : Nat) : ((fun a => loopK (stp (cx (tab d) rnds) body [1, 1, 0, 1, 0] [] fin) rnds (ll0 a) : Y80 → Option Bool)) = iter (S0 d) rnds :=
 funext (loop_iter ll0 _ (S0 d) (fun (L0 : LS → RT) a => (s0_eq (tab d) rnds L0 a).trans rfl) rnds)
theorem t_eq (d : Nat) (a) : f (d + 1) a = m (iter (S0 d) rnds) a :=
 Eq.trans (show f (d + 1) a = run (cx (tab d) rnds) sig rv body a by kernel_rfl) ((m_eq (tab d) rnds a).trans (congrArg (fun z => m z a) (S0_eq d)))
end laws_eqDefS
namespace laws_eqVal
theorem t_eq (d : Nat) (a) : f (d + 1) a = m  a :=
 Eq.trans (show f (d + 1) a = run (cx (tab d) rnds) sig rv body a by kernel_rfl) ((m_eq (tab d) rnds a).trans rfl)
end laws_eqVal
namespace laws_eqValS
theorem S0_eq (d : Nat) : ((fun a => loopK (stp (cx (tab d) rnds) body [1, 1, 0, 1, 0] [] fin) rnds (ll0 a) : Y83 → Option Bool)) = iter (S0 d) rnds :=
 funext (loop_iter ll0 _ (S0 d) (fun (L0 : LS → RT) a => (s0_eq (tab d) rnds L0 a).trans rfl) rnds)
theorem t_eq (d : Nat) (a) : f (d + 1) a = m (iter (S0 d) rnds) a :=
 Eq.trans (show f (d + 1) a = run (cx (tab d) rnds) sig rv body a by kernel_rfl) ((m_eq (tab d) rnds a).trans (congrArg (fun z => m z a) (S0_eq d)))
end laws_eqValS
namespace laws_FnExactLongKey
theorem t_eq (d : Nat) (a) : f (d + 1) a = m (impl_LongKey.f d) (spec_LongKey.f d) (laws_szDefS.f d) (laws_szValS.f d) (laws_toDefS.f d) (laws_toValS.f d) (laws_eqDefS.f d) (laws_eqValS.f d) a :=
 Eq.trans (show f (d + 1) a = run (cx (tab d) rnds) sig rv body a by kernel_rfl) ((m_eq (tab d) rnds a).trans rfl)
end laws_FnExactLongKey
theorem strings_Split.t_eq (d : Nat) (a : ByteArray × ByteArray) : strings_Split.f (d + 1) a = splitLaw a := by kernel_rfl
theorem tys_ok (t : Nat) : tyOk Tryz.prog t (tys t) = true := by unfold tys; split <;> kernel_rfl
theorem eqts_ok (t : Nat) (h : eqts t = true) : eqOk Tryz.prog t (tys t) = true := by
 have h2 := memN_mem.1 h
 simp only [List.mem_cons, List.not_mem_nil, or_false] at h2
theorem mix_ok : Tryz.prog.follows .mixedOrders = true := by kernel_rfl
theorem sig_ok (f : Nat) : ∀ r ∈ (fns f).sig.rs, 0 < r.2.length := by
 have h : (fns f).sig.rs.all (fun r => decide (0 < r.2.length)) = true := by unfold fns; split <;> kernel_rfl
 intro r hr
 simpa using List.all_eq_true.1 h r hr
theorem fn_ok (f : Nat) : FnOk Tryz.prog f (fns f) := by
 unfold fns
 split
 ·exact .inl ⟨Tryz.f64, Tryz.func64, by kernel_rfl, by kernel_rfl, by decide +kernel, by decide +kernel⟩
 ·exact .inl ⟨Tryz.f162, Tryz.func162, by kernel_rfl, by kernel_rfl, by decide +kernel, by decide +kernel⟩
 ·exact .inl ⟨Tryz.f163, Tryz.func163, by kernel_rfl, by kernel_rfl, by decide +kernel, by decide +kernel⟩
 ·exact .inl ⟨Tryz.f155, Tryz.func155, by kernel_rfl, by kernel_rfl, by decide +kernel, by decide +kernel⟩
 ·exact .inl ⟨Tryz.f142, Tryz.func142, by kernel_rfl, by kernel_rfl, by decide +kernel, by decide +kernel⟩
 ·exact .inl ⟨Tryz.f106, Tryz.func106, by kernel_rfl, by kernel_rfl, by decide +kernel, by decide +kernel⟩
 ·exact .inl ⟨Tryz.f107, Tryz.func107, by kernel_rfl, by kernel_rfl, by decide +kernel, by decide +kernel⟩
 ·exact .inl ⟨Tryz.f108, Tryz.func108, by kernel_rfl, by kernel_rfl, by decide +kernel, by decide +kernel⟩
 ·exact .inl ⟨Tryz.f65, Tryz.func65, by kernel_rfl, by kernel_rfl, by decide +kernel, by decide +kernel⟩
 ·exact .inl ⟨Tryz.f72, Tryz.func72, by kernel_rfl, by kernel_rfl, by decide +kernel, by decide +kernel⟩
 ·exact .inl ⟨Tryz.f41, Tryz.func41, by kernel_rfl, by kernel_rfl, by decide +kernel, by decide +kernel⟩
 ·exact .inl ⟨Tryz.f115, Tryz.func115, by kernel_rfl, by kernel_rfl, by decide +kernel, by decide +kernel⟩
 ·exact .inl ⟨Tryz.f73, Tryz.func73, by kernel_rfl, by kernel_rfl, by decide +kernel, by decide +kernel⟩
 ·exact .inl ⟨Tryz.f144, Tryz.func144, by kernel_rfl, by kernel_rfl, by decide +kernel, by decide +kernel⟩
 ·exact .inl ⟨Tryz.f116, Tryz.func116, by kernel_rfl, by kernel_rfl, by decide +kernel, by decide +kernel⟩
 ·exact .inl ⟨Tryz.f74, Tryz.func74, by kernel_rfl, by kernel_rfl, by decide +kernel, by decide +kernel⟩
 ·exact .inl ⟨Tryz.f42, Tryz.func42, by kernel_rfl, by kernel_rfl, by decide +kernel, by decide +kernel⟩
 ·exact .inl ⟨Tryz.f43, Tryz.func43, by kernel_rfl, by kernel_rfl, by decide +kernel, by decide +kernel⟩
 ·exact .inl ⟨Tryz.f14, Tryz.func14, by kernel_rfl, by kernel_rfl, by decide +kernel, by decide +kernel⟩
 ·exact .inl ⟨Tryz.f31, Tryz.func31, by kernel_rfl, by kernel_rfl, by decide +kernel, by decide +kernel⟩
 ·exact .inl ⟨Tryz.f66, Tryz.func66, by kernel_rfl, by kernel_rfl, by decide +kernel, by decide +kernel⟩
 ·exact .inl ⟨Tryz.f32, Tryz.func32, by kernel_rfl, by kernel_rfl, by decide +kernel, by decide +kernel⟩
 ·exact .inl ⟨Tryz.f33, Tryz.func33, by kernel_rfl, by kernel_rfl, by decide +kernel, by decide +kernel⟩
 ·exact .inl ⟨Tryz.f75, Tryz.func75, by kernel_rfl, by kernel_rfl, by decide +kernel, by decide +kernel⟩
 ·exact .inl ⟨Tryz.f127, Tryz.func127, by kernel_rfl, by kernel_rfl, by decide +kernel, by decide +kernel⟩
 ·exact .inl ⟨Tryz.f128, Tryz.func128, by kernel_rfl, by kernel_rfl, by decide +kernel, by decide +kernel⟩
 ·exact .inl ⟨Tryz.f129, Tryz.func129, by kernel_rfl, by kernel_rfl, by decide +kernel, by decide +kernel⟩
 ·exact .inl ⟨Tryz.f87, Tryz.func87, by kernel_rfl, by kernel_rfl, by decide +kernel, by decide +kernel⟩
 ·exact .inl ⟨Tryz.f145, Tryz.func145, by kernel_rfl, by kernel_rfl, by decide +kernel, by decide +kernel⟩
 ·exact .inl ⟨Tryz.f146, Tryz.func146, by kernel_rfl, by kernel_rfl, by decide +kernel, by decide +kernel⟩
 ·exact .inl ⟨Tryz.f156, Tryz.func156, by kernel_rfl, by kernel_rfl, by decide +kernel, by decide +kernel⟩
 ·exact .inl ⟨Tryz.f147, Tryz.func147, by kernel_rfl, by kernel_rfl, by decide +kernel, by decide +kernel⟩
 ·exact .inl ⟨Tryz.f117, Tryz.func117, by kernel_rfl, by kernel_rfl, by decide +kernel, by decide +kernel⟩
 ·exact .inl ⟨Tryz.f76, Tryz.func76, by kernel_rfl, by kernel_rfl, by decide +kernel, by decide +kernel⟩
 ·exact .inl ⟨Tryz.f44, Tryz.func44, by kernel_rfl, by kernel_rfl, by decide +kernel, by decide +kernel⟩
 ·exact .inl ⟨Tryz.f12, Tryz.func12, by kernel_rfl, by kernel_rfl, by decide +kernel, by decide +kernel⟩
 ·exact .inl ⟨Tryz.f78, Tryz.func78, by kernel_rfl, by kernel_rfl, by decide +kernel, by decide +kernel⟩
 ·exact .inl ⟨Tryz.f164, Tryz.func164, by kernel_rfl, by kernel_rfl, by decide +kernel, by decide +kernel⟩
 ·exact .inl ⟨Tryz.f165, Tryz.func165, by kernel_rfl, by kernel_rfl, by decide +kernel, by decide +kernel⟩
 ·exact .inl ⟨Tryz.f157, Tryz.func157, by kernel_rfl, by kernel_rfl, by decide +kernel, by decide +kernel⟩
 ·exact .inl ⟨Tryz.f158, Tryz.func158, by kernel_rfl, by kernel_rfl, by decide +kernel, by decide +kernel⟩
 ·exact .inl ⟨Tryz.f149, Tryz.func149, by kernel_rfl, by kernel_rfl, by decide +kernel, by decide +kernel⟩
 ·exact .inl ⟨Tryz.f120, Tryz.func120, by kernel_rfl, by kernel_rfl, by decide +kernel, by decide +kernel⟩
 ·exact .inl ⟨Tryz.f121, Tryz.func121, by kernel_rfl, by kernel_rfl, by decide +kernel, by decide +kernel⟩
 ·exact .inl ⟨Tryz.f150, Tryz.func150, by kernel_rfl, by kernel_rfl, by decide +kernel, by decide +kernel⟩
 ·exact .inl ⟨Tryz.f122, Tryz.func122, by kernel_rfl, by kernel_rfl, by decide +kernel, by decide +kernel⟩
 ·exact .inl ⟨Tryz.f151, Tryz.func151, by kernel_rfl, by kernel_rfl, by decide +kernel, by decide +kernel⟩
 ·exact .inl ⟨Tryz.f123, Tryz.func123, by kernel_rfl, by kernel_rfl, by decide +kernel, by decide +kernel⟩
 ·exact .inl ⟨Tryz.f81, Tryz.func81, by kernel_rfl, by kernel_rfl, by decide +kernel, by decide +kernel⟩
 ·exact .inl ⟨Tryz.f77, Tryz.func77, by kernel_rfl, by kernel_rfl, by decide +kernel, by decide +kernel⟩
 ·exact .inl ⟨Tryz.f45, Tryz.func45, by kernel_rfl, by kernel_rfl, by decide +kernel, by decide +kernel⟩
 ·exact .inl ⟨Tryz.f118, Tryz.func118, by kernel_rfl, by kernel_rfl, by decide +kernel, by decide +kernel⟩
 ·exact .inl ⟨Tryz.f79, Tryz.func79, by kernel_rfl, by kernel_rfl, by decide +kernel, by decide +kernel⟩
 ·exact .inl ⟨Tryz.f148, Tryz.func148, by kernel_rfl, by kernel_rfl, by decide +kernel, by decide +kernel⟩
 ·exact .inl ⟨Tryz.f119, Tryz.func119, by kernel_rfl, by kernel_rfl, by decide +kernel, by decide +kernel⟩
 ·exact .inl ⟨Tryz.f80, Tryz.func80, by kernel_rfl, by kernel_rfl, by decide +kernel, by decide +kernel⟩
 ·exact .inl ⟨Tryz.f46, Tryz.func46, by kernel_rfl, by kernel_rfl, by decide +kernel, by decide +kernel⟩
 ·exact .inl ⟨Tryz.f82, Tryz.func82, by kernel_rfl, by kernel_rfl, by decide +kernel, by decide +kernel⟩
 ·exact .inl ⟨Tryz.f47, Tryz.func47, by kernel_rfl, by kernel_rfl, by decide +kernel, by decide +kernel⟩
 ·exact .inl ⟨Tryz.f15, Tryz.func15, by kernel_rfl, by kernel_rfl, by decide +kernel, by decide +kernel⟩
 ·exact .inl ⟨Tryz.f152, Tryz.func152, by kernel_rfl, by kernel_rfl, by decide +kernel, by decide +kernel⟩
 ·exact .inl ⟨Tryz.f124, Tryz.func124, by kernel_rfl, by kernel_rfl, by decide +kernel, by decide +kernel⟩
 ·exact .inl ⟨Tryz.f125, Tryz.func125, by kernel_rfl, by kernel_rfl, by decide +kernel, by decide +kernel⟩
 ·exact .inl ⟨Tryz.f83, Tryz.func83, by kernel_rfl, by kernel_rfl, by decide +kernel, by decide +kernel⟩
 ·exact .inl ⟨Tryz.f132, Tryz.func132, by kernel_rfl, by kernel_rfl, by decide +kernel, by decide +kernel⟩
 ·exact .inl ⟨Tryz.f131, Tryz.func131, by kernel_rfl, by kernel_rfl, by decide +kernel, by decide +kernel⟩
 ·exact .inl ⟨Tryz.f91, Tryz.func91, by kernel_rfl, by kernel_rfl, by decide +kernel, by decide +kernel⟩
 ·exact .inl ⟨Tryz.f159, Tryz.func159, by kernel_rfl, by kernel_rfl, by decide +kernel, by decide +kernel⟩
 ·exact .inl ⟨Tryz.f160, Tryz.func160, by kernel_rfl, by kernel_rfl, by decide +kernel, by decide +kernel⟩
 ·exact .inl ⟨Tryz.f153, Tryz.func153, by kernel_rfl, by kernel_rfl, by decide +kernel, by decide +kernel⟩
 ·exact .inl ⟨Tryz.f126, Tryz.func126, by kernel_rfl, by kernel_rfl, by decide +kernel, by decide +kernel⟩
 ·exact .inl ⟨Tryz.f84, Tryz.func84, by kernel_rfl, by kernel_rfl, by decide +kernel, by decide +kernel⟩
 ·exact .inl ⟨Tryz.f85, Tryz.func85, by kernel_rfl, by kernel_rfl, by decide +kernel, by decide +kernel⟩
 ·exact .inl ⟨Tryz.f48, Tryz.func48, by kernel_rfl, by kernel_rfl, by decide +kernel, by decide +kernel⟩
 ·exact .inl ⟨Tryz.f86, Tryz.func86, by kernel_rfl, by kernel_rfl, by decide +kernel, by decide +kernel⟩
 ·exact .inl ⟨Tryz.f88, Tryz.func88, by kernel_rfl, by kernel_rfl, by decide +kernel, by decide +kernel⟩
 ·exact .inl ⟨Tryz.f130, Tryz.func130, by kernel_rfl, by kernel_rfl, by decide +kernel, by decide +kernel⟩
 ·exact .inl ⟨Tryz.f89, Tryz.func89, by kernel_rfl, by kernel_rfl, by decide +kernel, by decide +kernel⟩
 ·exact .inl ⟨Tryz.f49, Tryz.func49, by kernel_rfl, by kernel_rfl, by decide +kernel, by decide +kernel⟩
 ·exact .inl ⟨Tryz.f16, Tryz.func16, by kernel_rfl, by kernel_rfl, by decide +kernel, by decide +kernel⟩
 ·exact .inl ⟨Tryz.f90, Tryz.func90, by kernel_rfl, by kernel_rfl, by decide +kernel, by decide +kernel⟩
 ·exact .inl ⟨Tryz.f92, Tryz.func92, by kernel_rfl, by kernel_rfl, by decide +kernel, by decide +kernel⟩
 ·exact .inl ⟨Tryz.f133, Tryz.func133, by kernel_rfl, by kernel_rfl, by decide +kernel, by decide +kernel⟩
 ·exact .inl ⟨Tryz.f93, Tryz.func93, by kernel_rfl, by kernel_rfl, by decide +kernel, by decide +kernel⟩
 ·exact .inl ⟨Tryz.f50, Tryz.func50, by kernel_rfl, by kernel_rfl, by decide +kernel, by decide +kernel⟩
 ·exact .inl ⟨Tryz.f17, Tryz.func17, by kernel_rfl, by kernel_rfl, by decide +kernel, by decide +kernel⟩
 ·exact .inl ⟨Tryz.f134, Tryz.func134, by kernel_rfl, by kernel_rfl, by decide +kernel, by decide +kernel⟩
 ·exact .inl ⟨Tryz.f94, Tryz.func94, by kernel_rfl, by kernel_rfl, by decide +kernel, by decide +kernel⟩
 ·exact .inl ⟨Tryz.f95, Tryz.func95, by kernel_rfl, by kernel_rfl, by decide +kernel, by decide +kernel⟩
 ·exact .inl ⟨Tryz.f135, Tryz.func135, by kernel_rfl, by kernel_rfl, by decide +kernel, by decide +kernel⟩
 ·exact .inl ⟨Tryz.f96, Tryz.func96, by kernel_rfl, by kernel_rfl, by decide +kernel, by decide +kernel⟩
 ·exact .inl ⟨Tryz.f51, Tryz.func51, by kernel_rfl, by kernel_rfl, by decide +kernel, by decide +kernel⟩
 ·exact .inl ⟨Tryz.f18, Tryz.func18, by kernel_rfl, by kernel_rfl, by decide +kernel, by decide +kernel⟩
 ·exact .inl ⟨Tryz.f52, Tryz.func52, by kernel_rfl, by kernel_rfl, by decide +kernel, by decide +kernel⟩
 ·exact .inl ⟨Tryz.f19, Tryz.func19, by kernel_rfl, by kernel_rfl, by decide +kernel, by decide +kernel⟩
 ·exact .inl ⟨Tryz.f136, Tryz.func136, by kernel_rfl, by kernel_rfl, by decide +kernel, by decide +kernel⟩
 ·exact .inl ⟨Tryz.f97, Tryz.func97, by kernel_rfl, by kernel_rfl, by decide +kernel, by decide +kernel⟩
 ·exact .inl ⟨Tryz.f137, Tryz.func137, by kernel_rfl, by kernel_rfl, by decide +kernel, by decide +kernel⟩
 ·exact .inl ⟨Tryz.f98, Tryz.func98, by kernel_rfl, by kernel_rfl, by decide +kernel, by decide +kernel⟩
 ·exact .inl ⟨Tryz.f138, Tryz.func138, by kernel_rfl, by kernel_rfl, by decide +kernel, by decide +kernel⟩
 ·exact .inl ⟨Tryz.f99, Tryz.func99, by kernel_rfl, by kernel_rfl, by decide +kernel, by decide +kernel⟩
 ·exact .inl ⟨Tryz.f53, Tryz.func53, by kernel_rfl, by kernel_rfl, by decide +kernel, by decide +kernel⟩
 ·exact .inl ⟨Tryz.f20, Tryz.func20, by kernel_rfl, by kernel_rfl, by decide +kernel, by decide +kernel⟩
 ·exact .inl ⟨Tryz.f54, Tryz.func54, by kernel_rfl, by kernel_rfl, by decide +kernel, by decide +kernel⟩
 ·exact .inl ⟨Tryz.f21, Tryz.func21, by kernel_rfl, by kernel_rfl, by decide +kernel, by decide +kernel⟩
 ·exact .inl ⟨Tryz.f139, Tryz.func139, by kernel_rfl, by kernel_rfl, by decide +kernel, by decide +kernel⟩
 ·exact .inl ⟨Tryz.f100, Tryz.func100, by kernel_rfl, by kernel_rfl, by decide +kernel, by decide +kernel⟩
 ·exact .inl ⟨Tryz.f140, Tryz.func140, by kernel_rfl, by kernel_rfl, by decide +kernel, by decide +kernel⟩
 ·exact .inl ⟨Tryz.f101, Tryz.func101, by kernel_rfl, by kernel_rfl, by decide +kernel, by decide +kernel⟩
 ·exact .inl ⟨Tryz.f141, Tryz.func141, by kernel_rfl, by kernel_rfl, by decide +kernel, by decide +kernel⟩
 ·exact .inl ⟨Tryz.f102, Tryz.func102, by kernel_rfl, by kernel_rfl, by decide +kernel, by decide +kernel⟩
 ·exact .inl ⟨Tryz.f55, Tryz.func55, by kernel_rfl, by kernel_rfl, by decide +kernel, by decide +kernel⟩
 ·exact .inl ⟨Tryz.f23, Tryz.func23, by kernel_rfl, by kernel_rfl, by decide +kernel, by decide +kernel⟩
 ·exact .inl ⟨Tryz.f56, Tryz.func56, by kernel_rfl, by kernel_rfl, by decide +kernel, by decide +kernel⟩
 ·exact .inl ⟨Tryz.f24, Tryz.func24, by kernel_rfl, by kernel_rfl, by decide +kernel, by decide +kernel⟩
 ·exact .inl ⟨Tryz.f5, Tryz.func5, by kernel_rfl, by kernel_rfl, by decide +kernel, by decide +kernel⟩
 ·exact .inr ⟨ "", rfl⟩
 ·exact .inr ⟨ "", rfl⟩
theorem ext_ok (f : Nat) (law : TupT (fns f).sig.ins → Option (TupT (fns f).sig.outs)) (h : ext f = some law) : Contract Tryz.prog (fns f).sig f law := by
 unfold ext at h
 split at h
 ·obtain rfl := Option.some.inj h; exact split_ok
 ·cases h
theorem sound (d f : Nat) : Contract Tryz.prog (fns f).sig f (tab d f) := table_sound tys_ok eqts_ok mix_ok sig_ok (fun f _ => fn_ok f) (fun f law h => ext_ok f law h) d f
end
end Go.PV.T
