/-
  DERIVED. GIVEN WITH THE SEED: THE CARDS: each row of YtllgmgpfdnofmaaDoorRows.lean that lists a variable, with what it lists TIED to the program's text (the seventh form; the later family's looks); each row that meets fmt, with fmt's text TOLD by the authors' own Lean function (tested against real Go, not proved from fmt's source: count such statements apart). THE CARD IS WHAT COUNTS. Prove the row's statement (the work); the ties are given (YtllgmgpfdnofmaaDoorTie.lean); close each card by the builder's one call (the guide's Derived/Test/ToyasCard.lean, 'card_holds'). Laid BY PROGRAM, IN A SANDBOX (cutbox-door.mjs). By AI agents, Wed Nov 11 2026. No macro, syntax, notation, axiom, sorry.
-/
import Derived.Test.YtllgmgpfdnofmaaDoorRows
import GoSem.ClaimSeven
namespace Go.Proofs.YtllgmgpfdnofmaaDoor
namespace Rows

/-- THE TIED CARD OF 'laws.FnExactCheckDef'. -/
def fnExactCheckDefCard : Claim7 := { stood := { row := fnExactCheckDefRow, standIns := [], harness := (true, "ec1fd9f119036bb12ea470ed9087f6d7da8c83582982d58323eca3fd0bf9b373"), looks := false }, kinds := [], alts := [], laidByText := true, laidKinds := [.data, .pinned], laidTests := true, laidLooks := .later }
def FnExactCheckDefCardSaid : Prop := Claim7.holds Tryd.pinned (.plain (OpenSpec.ofChange fnExactCheckDefSpec)) fnExactCheckDefCard

/-- THE SECOND FORM's CARD OF 'laws.FnExactCheckDef'. -/
def fnExactCheckDefUptoCard : Claim7 := { stood := { row := fnExactCheckDefUptoRow, standIns := [], harness := (true, "ec1fd9f119036bb12ea470ed9087f6d7da8c83582982d58323eca3fd0bf9b373"), looks := false }, kinds := [], alts := [], laidByText := true, laidKinds := [.data, .pinned], laidTests := true, laidLooks := .later }
def FnExactCheckDefUptoCardSaid : Prop := Claim7.holds Tryd.pinned (.plain (OpenSpec.upto fnExactCheckDefSpec)) fnExactCheckDefUptoCard
end Rows
end Go.Proofs.YtllgmgpfdnofmaaDoor
