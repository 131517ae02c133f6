/-
  DERIVED. GIVEN WITH THE SEED: THE CARDS: each row of YtipehkeabnfngaaDoorRows.lean that lists a variable, with what it lists TIED to the program's text (the seventh form; the later family's looks); each row that meets fmt, with fmt's text TOLD by the authors' own Lean function (tested against real Go, not proved from fmt's source: count such statements apart). THE CARD IS WHAT COUNTS. Prove the row's statement (the work); the ties are given (YtipehkeabnfngaaDoorTie.lean); close each card by the builder's one call (the guide's Derived/Test/ToyasCard.lean, 'card_holds'). Laid BY PROGRAM, IN A SANDBOX (cutbox-door.mjs). By AI agents, Wed Nov 11 2026. No macro, syntax, notation, axiom, sorry.
-/
import Derived.Test.YtipehkeabnfngaaDoorRows
import GoSem.ClaimSeven
namespace Go.Proofs.YtipehkeabnfngaaDoor
namespace Rows

/-- THE TIED CARD OF 'laws.FnExactFirstBad'. -/
def fnExactFirstBadCard : Claim7 := { stood := { row := fnExactFirstBadRow, standIns := [], harness := (true, "128d7e856ddfa134c15ccf4454366631795c93b09486ff23c17711b799cdbb77"), looks := false }, kinds := [], alts := [], laidByText := true, laidKinds := [.data, .pinned], laidTests := true, laidLooks := .later }
def FnExactFirstBadCardSaid : Prop := Claim7.holds Tryd.pinned (.plain (OpenSpec.ofChange fnExactFirstBadSpec)) fnExactFirstBadCard

/-- THE TIED CARD OF 'laws.FnChecks'. -/
def fnChecksCard : Claim7 := { stood := { row := fnChecksRow, standIns := [], harness := (true, "128d7e856ddfa134c15ccf4454366631795c93b09486ff23c17711b799cdbb77"), looks := false }, kinds := [], alts := [], laidByText := true, laidKinds := [.data, .pinned], laidTests := true, laidLooks := .later }
def FnChecksCardSaid : Prop := Claim7.holds Tryd.pinned (.plain (OpenSpec.ofChange fnChecksSpec)) fnChecksCard

/-- THE TIED CARD OF 'laws.FnExactDefText'. -/
def fnExactDefTextCard : Claim7 := { stood := { row := fnExactDefTextRow, standIns := [], harness := (true, "128d7e856ddfa134c15ccf4454366631795c93b09486ff23c17711b799cdbb77"), looks := false }, kinds := [], alts := [], laidByText := true, laidKinds := [.data, .pinned], laidTests := true, laidLooks := .later }
def FnExactDefTextCardSaid : Prop := Claim7.holds Tryd.pinned (.plain (OpenSpec.ofChange fnExactDefTextSpec)) fnExactDefTextCard

/-- THE TIED CARD OF 'laws.FnExactDefsText'. -/
def fnExactDefsTextCard : Claim7 := { stood := { row := fnExactDefsTextRow, standIns := [], harness := (true, "128d7e856ddfa134c15ccf4454366631795c93b09486ff23c17711b799cdbb77"), looks := false }, kinds := [], alts := [], laidByText := true, laidKinds := [.data, .pinned], laidTests := true, laidLooks := .later }
def FnExactDefsTextCardSaid : Prop := Claim7.holds Tryd.pinned (.plain (OpenSpec.ofChange fnExactDefsTextSpec)) fnExactDefsTextCard

/-- THE TIED CARD OF 'laws.FnDefs'. -/
def fnDefsCard : Claim7 := { stood := { row := fnDefsRow, standIns := [], harness := (true, "128d7e856ddfa134c15ccf4454366631795c93b09486ff23c17711b799cdbb77"), looks := false }, kinds := [], alts := [], laidByText := true, laidKinds := [.data, .pinned], laidTests := true, laidLooks := .later }
def FnDefsCardSaid : Prop := Claim7.holds Tryd.pinned (.plain (OpenSpec.ofChange fnDefsSpec)) fnDefsCard

/-- THE TIED CARD OF 'laws.FnExactParseDefs'. -/
def fnExactParseDefsCard : Claim7 := { stood := { row := fnExactParseDefsRow, standIns := [], harness := (true, "128d7e856ddfa134c15ccf4454366631795c93b09486ff23c17711b799cdbb77"), looks := false }, kinds := [], alts := [], laidByText := true, laidKinds := [.data, .pinned], laidTests := true, laidLooks := .later }
def FnExactParseDefsCardSaid : Prop := Claim7.holds Tryd.pinned (.plain (OpenSpec.ofChange fnExactParseDefsSpec)) fnExactParseDefsCard

/-- THE TIED CARD OF 'laws.FnDefsRead'. -/
def fnDefsReadCard : Claim7 := { stood := { row := fnDefsReadRow, standIns := [], harness := (true, "128d7e856ddfa134c15ccf4454366631795c93b09486ff23c17711b799cdbb77"), looks := false }, kinds := [], alts := [], laidByText := true, laidKinds := [.data, .pinned], laidTests := true, laidLooks := .later }
def FnDefsReadCardSaid : Prop := Claim7.holds Tryd.pinned (.plain (OpenSpec.ofChange fnDefsReadSpec)) fnDefsReadCard

/-- THE TIED CARD OF 'laws.FnPlans'. -/
def fnPlansCard : Claim7 := { stood := { row := fnPlansRow, standIns := [], harness := (true, "128d7e856ddfa134c15ccf4454366631795c93b09486ff23c17711b799cdbb77"), looks := false }, kinds := [], alts := [], laidByText := true, laidKinds := [.data, .pinned], laidTests := true, laidLooks := .later }
def FnPlansCardSaid : Prop := Claim7.holds Tryd.pinned (.plain (OpenSpec.ofChange fnPlansSpec)) fnPlansCard

/-- THE TIED CARD OF 'laws.FnExactRowPlan'. -/
def fnExactRowPlanCard : Claim7 := { stood := { row := fnExactRowPlanRow, standIns := [], harness := (true, "128d7e856ddfa134c15ccf4454366631795c93b09486ff23c17711b799cdbb77"), looks := false }, kinds := [], alts := [], laidByText := true, laidKinds := [.data, .pinned], laidTests := true, laidLooks := .later }
def FnExactRowPlanCardSaid : Prop := Claim7.holds Tryd.pinned (.plain (OpenSpec.ofChange fnExactRowPlanSpec)) fnExactRowPlanCard

/-- THE TIED CARD OF 'laws.FnExactIndexPlan'. -/
def fnExactIndexPlanCard : Claim7 := { stood := { row := fnExactIndexPlanRow, standIns := [], harness := (true, "128d7e856ddfa134c15ccf4454366631795c93b09486ff23c17711b799cdbb77"), looks := false }, kinds := [], alts := [], laidByText := true, laidKinds := [.data, .pinned], laidTests := true, laidLooks := .later }
def FnExactIndexPlanCardSaid : Prop := Claim7.holds Tryd.pinned (.plain (OpenSpec.ofChange fnExactIndexPlanSpec)) fnExactIndexPlanCard

/-- THE TIED CARD OF 'laws.FnExactPrimaryPlan'. -/
def fnExactPrimaryPlanCard : Claim7 := { stood := { row := fnExactPrimaryPlanRow, standIns := [], harness := (true, "128d7e856ddfa134c15ccf4454366631795c93b09486ff23c17711b799cdbb77"), looks := false }, kinds := [], alts := [], laidByText := true, laidKinds := [.data, .pinned], laidTests := true, laidLooks := .later }
def FnExactPrimaryPlanCardSaid : Prop := Claim7.holds Tryd.pinned (.plain (OpenSpec.ofChange fnExactPrimaryPlanSpec)) fnExactPrimaryPlanCard

/-- THE SECOND FORM's CARD OF 'laws.FnExactFirstBad'. -/
def fnExactFirstBadUptoCard : Claim7 := { stood := { row := fnExactFirstBadUptoRow, standIns := [], harness := (true, "128d7e856ddfa134c15ccf4454366631795c93b09486ff23c17711b799cdbb77"), looks := false }, kinds := [], alts := [], laidByText := true, laidKinds := [.data, .pinned], laidTests := true, laidLooks := .later }
def FnExactFirstBadUptoCardSaid : Prop := Claim7.holds Tryd.pinned (.plain (OpenSpec.upto fnExactFirstBadSpec)) fnExactFirstBadUptoCard

/-- THE SECOND FORM's CARD OF 'laws.FnChecks'. -/
def fnChecksUptoCard : Claim7 := { stood := { row := fnChecksUptoRow, standIns := [], harness := (true, "128d7e856ddfa134c15ccf4454366631795c93b09486ff23c17711b799cdbb77"), looks := false }, kinds := [], alts := [], laidByText := true, laidKinds := [.data, .pinned], laidTests := true, laidLooks := .later }
def FnChecksUptoCardSaid : Prop := Claim7.holds Tryd.pinned (.plain (OpenSpec.upto fnChecksSpec)) fnChecksUptoCard

/-- THE SECOND FORM's CARD OF 'laws.FnExactDefText'. -/
def fnExactDefTextUptoCard : Claim7 := { stood := { row := fnExactDefTextUptoRow, standIns := [], harness := (true, "128d7e856ddfa134c15ccf4454366631795c93b09486ff23c17711b799cdbb77"), looks := false }, kinds := [], alts := [], laidByText := true, laidKinds := [.data, .pinned], laidTests := true, laidLooks := .later }
def FnExactDefTextUptoCardSaid : Prop := Claim7.holds Tryd.pinned (.plain (OpenSpec.upto fnExactDefTextSpec)) fnExactDefTextUptoCard

/-- THE SECOND FORM's CARD OF 'laws.FnExactDefsText'. -/
def fnExactDefsTextUptoCard : Claim7 := { stood := { row := fnExactDefsTextUptoRow, standIns := [], harness := (true, "128d7e856ddfa134c15ccf4454366631795c93b09486ff23c17711b799cdbb77"), looks := false }, kinds := [], alts := [], laidByText := true, laidKinds := [.data, .pinned], laidTests := true, laidLooks := .later }
def FnExactDefsTextUptoCardSaid : Prop := Claim7.holds Tryd.pinned (.plain (OpenSpec.upto fnExactDefsTextSpec)) fnExactDefsTextUptoCard

/-- THE SECOND FORM's CARD OF 'laws.FnDefs'. -/
def fnDefsUptoCard : Claim7 := { stood := { row := fnDefsUptoRow, standIns := [], harness := (true, "128d7e856ddfa134c15ccf4454366631795c93b09486ff23c17711b799cdbb77"), looks := false }, kinds := [], alts := [], laidByText := true, laidKinds := [.data, .pinned], laidTests := true, laidLooks := .later }
def FnDefsUptoCardSaid : Prop := Claim7.holds Tryd.pinned (.plain (OpenSpec.upto fnDefsSpec)) fnDefsUptoCard

/-- THE SECOND FORM's CARD OF 'laws.FnExactParseDefs'. -/
def fnExactParseDefsUptoCard : Claim7 := { stood := { row := fnExactParseDefsUptoRow, standIns := [], harness := (true, "128d7e856ddfa134c15ccf4454366631795c93b09486ff23c17711b799cdbb77"), looks := false }, kinds := [], alts := [], laidByText := true, laidKinds := [.data, .pinned], laidTests := true, laidLooks := .later }
def FnExactParseDefsUptoCardSaid : Prop := Claim7.holds Tryd.pinned (.plain (OpenSpec.upto fnExactParseDefsSpec)) fnExactParseDefsUptoCard

/-- THE SECOND FORM's CARD OF 'laws.FnDefsRead'. -/
def fnDefsReadUptoCard : Claim7 := { stood := { row := fnDefsReadUptoRow, standIns := [], harness := (true, "128d7e856ddfa134c15ccf4454366631795c93b09486ff23c17711b799cdbb77"), looks := false }, kinds := [], alts := [], laidByText := true, laidKinds := [.data, .pinned], laidTests := true, laidLooks := .later }
def FnDefsReadUptoCardSaid : Prop := Claim7.holds Tryd.pinned (.plain (OpenSpec.upto fnDefsReadSpec)) fnDefsReadUptoCard

/-- THE SECOND FORM's CARD OF 'laws.FnPlans'. -/
def fnPlansUptoCard : Claim7 := { stood := { row := fnPlansUptoRow, standIns := [], harness := (true, "128d7e856ddfa134c15ccf4454366631795c93b09486ff23c17711b799cdbb77"), looks := false }, kinds := [], alts := [], laidByText := true, laidKinds := [.data, .pinned], laidTests := true, laidLooks := .later }
def FnPlansUptoCardSaid : Prop := Claim7.holds Tryd.pinned (.plain (OpenSpec.upto fnPlansSpec)) fnPlansUptoCard

/-- THE SECOND FORM's CARD OF 'laws.FnExactRowPlan'. -/
def fnExactRowPlanUptoCard : Claim7 := { stood := { row := fnExactRowPlanUptoRow, standIns := [], harness := (true, "128d7e856ddfa134c15ccf4454366631795c93b09486ff23c17711b799cdbb77"), looks := false }, kinds := [], alts := [], laidByText := true, laidKinds := [.data, .pinned], laidTests := true, laidLooks := .later }
def FnExactRowPlanUptoCardSaid : Prop := Claim7.holds Tryd.pinned (.plain (OpenSpec.upto fnExactRowPlanSpec)) fnExactRowPlanUptoCard

/-- THE SECOND FORM's CARD OF 'laws.FnExactIndexPlan'. -/
def fnExactIndexPlanUptoCard : Claim7 := { stood := { row := fnExactIndexPlanUptoRow, standIns := [], harness := (true, "128d7e856ddfa134c15ccf4454366631795c93b09486ff23c17711b799cdbb77"), looks := false }, kinds := [], alts := [], laidByText := true, laidKinds := [.data, .pinned], laidTests := true, laidLooks := .later }
def FnExactIndexPlanUptoCardSaid : Prop := Claim7.holds Tryd.pinned (.plain (OpenSpec.upto fnExactIndexPlanSpec)) fnExactIndexPlanUptoCard

/-- THE SECOND FORM's CARD OF 'laws.FnExactPrimaryPlan'. -/
def fnExactPrimaryPlanUptoCard : Claim7 := { stood := { row := fnExactPrimaryPlanUptoRow, standIns := [], harness := (true, "128d7e856ddfa134c15ccf4454366631795c93b09486ff23c17711b799cdbb77"), looks := false }, kinds := [], alts := [], laidByText := true, laidKinds := [.data, .pinned], laidTests := true, laidLooks := .later }
def FnExactPrimaryPlanUptoCardSaid : Prop := Claim7.holds Tryd.pinned (.plain (OpenSpec.upto fnExactPrimaryPlanSpec)) fnExactPrimaryPlanUptoCard
end Rows
end Go.Proofs.YtipehkeabnfngaaDoor
