/-
  DERIVED. GIVEN WITH THE SEED: THE CARDS: each row of YthadcmcdbcfjaaaGreatDoorRows.lean that lists a variable, with what it lists TIED to the program's text (the seventh form; the later family's looks); each row that meets fmt, with fmt's text TOLD by the authors' own Lean function (tested against real Go, not proved from fmt's source: count such statements apart). THE CARD IS WHAT COUNTS. Prove the row's statement (the work); the ties are given (YthadcmcdbcfjaaaGreatDoorTie.lean); close each card by the builder's one call (the guide's Derived/Test/ToyasCard.lean, 'card_holds'). Laid BY PROGRAM, IN A SANDBOX (cutbox-door.mjs). By AI agents, Wed Nov 11 2026. No macro, syntax, notation, axiom, sorry.
-/
import Derived.Test.YthadcmcdbcfjaaaGreatDoorRows
import GoSem.ClaimSeven
namespace Go.Proofs.YthadcmcdbcfjaaaGreatDoor
namespace Rows

/-- THE TIED CARD OF 'laws.FnRowKeysBent'. -/
def fnRowKeysBentCard : Claim7 := { stood := { row := fnRowKeysBentRow, standIns := [], harness := (true, "946c568649a15488ba1207a872717091c607be7627b9fb8ccdaa36cad7f426b9"), looks := false }, kinds := [], alts := [], laidByText := true, laidKinds := [.data, .pinned], laidTests := true, laidLooks := .later }
def FnRowKeysBentCardSaid : Prop := Claim7.holds Tryz.pinned (.plain (OpenSpec.ofChange fnRowKeysBentSpec)) fnRowKeysBentCard

/-- THE TIED CARD OF 'laws.FnExactKeyOf'. -/
def fnExactKeyOfCard : Claim7 := { stood := { row := fnExactKeyOfRow, standIns := [], harness := (true, "946c568649a15488ba1207a872717091c607be7627b9fb8ccdaa36cad7f426b9"), looks := false }, kinds := [], alts := [], laidByText := true, laidKinds := [.data, .pinned], laidTests := true, laidLooks := .later }
def FnExactKeyOfCardSaid : Prop := Claim7.holds Tryz.pinned (.plain (OpenSpec.ofChange fnExactKeyOfSpec)) fnExactKeyOfCard

/-- THE TIED CARD OF 'laws.FnExactLongKey'. -/
def fnExactLongKeyCard : Claim7 := { stood := { row := fnExactLongKeyRow, standIns := [], harness := (true, "946c568649a15488ba1207a872717091c607be7627b9fb8ccdaa36cad7f426b9"), looks := false }, kinds := [], alts := [], laidByText := true, laidKinds := [.data, .pinned], laidTests := true, laidLooks := .later }
def FnExactLongKeyCardSaid : Prop := Claim7.holds Tryz.pinned (.plain (OpenSpec.ofChange fnExactLongKeySpec)) fnExactLongKeyCard

/-- THE TIED CARD OF 'laws.FnRowKeys'. -/
def fnRowKeysCard : Claim7 := { stood := { row := fnRowKeysRow, standIns := [], harness := (true, "946c568649a15488ba1207a872717091c607be7627b9fb8ccdaa36cad7f426b9"), looks := false }, kinds := [], alts := [], laidByText := true, laidKinds := [.data, .pinned], laidTests := true, laidLooks := .later }
def FnRowKeysCardSaid : Prop := Claim7.holds Tryz.pinned (.plain (OpenSpec.ofChange fnRowKeysSpec)) fnRowKeysCard

/-- THE SECOND FORM's CARD OF 'laws.FnRowKeysBent'. -/
def fnRowKeysBentUptoCard : Claim7 := { stood := { row := fnRowKeysBentUptoRow, standIns := [], harness := (true, "946c568649a15488ba1207a872717091c607be7627b9fb8ccdaa36cad7f426b9"), looks := false }, kinds := [], alts := [], laidByText := true, laidKinds := [.data, .pinned], laidTests := true, laidLooks := .later }
def FnRowKeysBentUptoCardSaid : Prop := Claim7.holds Tryz.pinned (.plain (OpenSpec.upto fnRowKeysBentSpec)) fnRowKeysBentUptoCard

/-- THE SECOND FORM's CARD OF 'laws.FnExactKeyOf'. -/
def fnExactKeyOfUptoCard : Claim7 := { stood := { row := fnExactKeyOfUptoRow, standIns := [], harness := (true, "946c568649a15488ba1207a872717091c607be7627b9fb8ccdaa36cad7f426b9"), looks := false }, kinds := [], alts := [], laidByText := true, laidKinds := [.data, .pinned], laidTests := true, laidLooks := .later }
def FnExactKeyOfUptoCardSaid : Prop := Claim7.holds Tryz.pinned (.plain (OpenSpec.upto fnExactKeyOfSpec)) fnExactKeyOfUptoCard

/-- THE SECOND FORM's CARD OF 'laws.FnExactLongKey'. -/
def fnExactLongKeyUptoCard : Claim7 := { stood := { row := fnExactLongKeyUptoRow, standIns := [], harness := (true, "946c568649a15488ba1207a872717091c607be7627b9fb8ccdaa36cad7f426b9"), looks := false }, kinds := [], alts := [], laidByText := true, laidKinds := [.data, .pinned], laidTests := true, laidLooks := .later }
def FnExactLongKeyUptoCardSaid : Prop := Claim7.holds Tryz.pinned (.plain (OpenSpec.upto fnExactLongKeySpec)) fnExactLongKeyUptoCard

/-- THE SECOND FORM's CARD OF 'laws.FnRowKeys'. -/
def fnRowKeysUptoCard : Claim7 := { stood := { row := fnRowKeysUptoRow, standIns := [], harness := (true, "946c568649a15488ba1207a872717091c607be7627b9fb8ccdaa36cad7f426b9"), looks := false }, kinds := [], alts := [], laidByText := true, laidKinds := [.data, .pinned], laidTests := true, laidLooks := .later }
def FnRowKeysUptoCardSaid : Prop := Claim7.holds Tryz.pinned (.plain (OpenSpec.upto fnRowKeysSpec)) fnRowKeysUptoCard
end Rows
end Go.Proofs.YthadcmcdbcfjaaaGreatDoor
