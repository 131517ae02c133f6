/-
  NARROWER THAN 'FOR EVERY INPUT', by the rows' own cells (each row's printed sentence says how): FnRowKeysBent: laid · FnExactKeyOf: laid · FnExactLongKey: laid · FnRowKeys: laid.
  DERIVED. THE GIVEN ROWS OF THIS SEAT. 4 by the template 'for every input the law returns true; each argument reads behind the call as it read before'; 0 by the template 'total and deterministic' (their statements: YthadcmcdbcfjaaaGreatDoorTotals.lean).
  GIVEN WITH THE SEED: the statements are not yours to turn. If you find one false, say at which input.
  Laid BY PROGRAM, IN A SANDBOX (cutbox-rows.mjs): the forced cells as the released guide's own fill.sh prints them over the translation 6aa6020c4542b23e… (all of the seat's roots in one cut). By AI agents, Wed Nov 11 2026. No macro, syntax, notation, axiom, sorry.
-/
import Derived.Test.YthadcmcdbcfjaaaGreatDoorChecked
import GoSem.PinnedTables
import GoSem.Claim
import GoSem.ClaimJoined
import GoSem.ClaimMapViews
import Derived.JoinedTies
import Derived.KernelRfl
namespace Go.Proofs.YthadcmcdbcfjaaaGreatDoor
/- THE CELL 'sum', in the pinned program and in every row, IS THE sha256 OF THE DUMP (.gsa) THAT YthadcmcdbcfjaaaGreatDoorProg.lean LOADS. Nothing in Lean hashes anything: it is a label: what it is worth is what the hold of that sum in a sandbox is worth. -/
noncomputable def Tryz.pinned : Pinned := { name := "ythadcmcdbcfjaaagreatdoor", sum := "6aa6020c4542b23e149e90d7ce9b39f56d3f9dcc1dd9e5d26d815e424457eca5", checked := Tryz.checked }
namespace Rows
def none {H : Type} : Left H := { results := [], args := [] }

/- WHAT THE LISTED PACKAGE-LEVEL VARIABLES READ AS WHEN THE CALL BEGINS. Each datum BY PROGRAM (the guide's laid-datum.mjs) off the statement by which the dump's own 'gosem.cut.vars' lays the variable. In a bare row this is a premise. The card (YthadcmcdbcfjaaaGreatDoorCards.lean) ties it to the program's text. -/
def laid_unicode_utf8_acceptRanges {H : Type} : DataW H := .agg [.agg [.lit (.int .u8 128), .lit (.int .u8 191)], .agg [.lit (.int .u8 160), .lit (.int .u8 191)], .agg [.lit (.int .u8 128), .lit (.int .u8 159)], .agg [.lit (.int .u8 144), .lit (.int .u8 191)], .agg [.lit (.int .u8 128), .lit (.int .u8 143)], .agg [.lit (.int .u8 0), .lit (.int .u8 0)], .agg [.lit (.int .u8 0), .lit (.int .u8 0)], .agg [.lit (.int .u8 0), .lit (.int .u8 0)], .agg [.lit (.int .u8 0), .lit (.int .u8 0)], .agg [.lit (.int .u8 0), .lit (.int .u8 0)], .agg [.lit (.int .u8 0), .lit (.int .u8 0)], .agg [.lit (.int .u8 0), .lit (.int .u8 0)], .agg [.lit (.int .u8 0), .lit (.int .u8 0)], .agg [.lit (.int .u8 0), .lit (.int .u8 0)], .agg [.lit (.int .u8 0), .lit (.int .u8 0)], .agg [.lit (.int .u8 0), .lit (.int .u8 0)]]
/-- One of Go's own tables, pinned by name: the form's constant. -/
def laid_unicode_utf8_first : DataW Unit := Go.Pinned.utf8First

/-- 'laws.FnRowKeysBent': WHATEVER THE INPUT: true; the input reads as it did. -/
def fnRowKeysBentSpec : ChangeSpec := { name := "fnRowKeysBent", fn := fun _ => fun
  | [d] => { results := [.lit (.bool true)], args := [d] }
  | _ => none }
def fnRowKeysBentRow : OpenClaim := { program := "ythadcmcdbcfjaaagreatdoor", sum := "6aa6020c4542b23e149e90d7ce9b39f56d3f9dcc1dd9e5d26d815e424457eca5", func := "loop.example/g00322/laws.FnRowKeysBent", spec := "fnRowKeysBent", inPlace := ["internal/bytealg.CountString", "internal/bytealg.IndexByteString", "internal/bytealg.IndexString"], recurses := true, named := ["unicode/utf8.first", "unicode/utf8.acceptRanges", "internal/bytealg.MaxLen"], apart := false, laid := [("unicode/utf8.acceptRanges", laid_unicode_utf8_acceptRanges), ("unicode/utf8.first", laid_unicode_utf8_first)] }
def FnRowKeysBentSaid : Prop := fnRowKeysBentRow.holds Tryz.pinned (OpenSpec.ofChange fnRowKeysBentSpec)

/-- ITS FALSE NEIGHBOUR: 'it returns false'. Refute it at one input. -/
def fnRowKeysBentWrong : ChangeSpec := { name := "fnRowKeysBent", fn := fun _ => fun
  | [d] => { results := [.lit (.bool false)], args := [d] }
  | _ => none }
def FnRowKeysBentWrongFalsely : Prop := fnRowKeysBentRow.holds Tryz.pinned (OpenSpec.ofChange fnRowKeysBentWrong)

/-- 'laws.FnExactKeyOf': WHATEVER THE INPUT: true; the input reads as it did. -/
def fnExactKeyOfSpec : ChangeSpec := { name := "fnExactKeyOf", fn := fun _ => fun
  | [d1, d2, d3, d4] => { results := [.lit (.bool true)], args := [d1, d2, d3, d4] }
  | _ => none }
def fnExactKeyOfRow : OpenClaim := { program := "ythadcmcdbcfjaaagreatdoor", sum := "6aa6020c4542b23e149e90d7ce9b39f56d3f9dcc1dd9e5d26d815e424457eca5", func := "loop.example/g00322/laws.FnExactKeyOf", spec := "fnExactKeyOf", inPlace := ["internal/bytealg.CountString", "internal/bytealg.IndexByteString", "internal/bytealg.IndexString"], named := ["unicode/utf8.first", "unicode/utf8.acceptRanges", "internal/bytealg.MaxLen"], apart := false, laid := [("unicode/utf8.acceptRanges", laid_unicode_utf8_acceptRanges), ("unicode/utf8.first", laid_unicode_utf8_first)] }
def FnExactKeyOfSaid : Prop := fnExactKeyOfRow.holds Tryz.pinned (OpenSpec.ofChange fnExactKeyOfSpec)

/-- ITS FALSE NEIGHBOUR: 'it returns false'. Refute it at one input. -/
def fnExactKeyOfWrong : ChangeSpec := { name := "fnExactKeyOf", fn := fun _ => fun
  | [d1, d2, d3, d4] => { results := [.lit (.bool false)], args := [d1, d2, d3, d4] }
  | _ => none }
def FnExactKeyOfWrongFalsely : Prop := fnExactKeyOfRow.holds Tryz.pinned (OpenSpec.ofChange fnExactKeyOfWrong)

/-- 'laws.FnExactLongKey': WHATEVER THE INPUT: true; the input reads as it did. -/
def fnExactLongKeySpec : ChangeSpec := { name := "fnExactLongKey", fn := fun _ => fun
  | [d1, d2, d3] => { results := [.lit (.bool true)], args := [d1, d2, d3] }
  | _ => none }
def fnExactLongKeyRow : OpenClaim := { program := "ythadcmcdbcfjaaagreatdoor", sum := "6aa6020c4542b23e149e90d7ce9b39f56d3f9dcc1dd9e5d26d815e424457eca5", func := "loop.example/g00322/laws.FnExactLongKey", spec := "fnExactLongKey", inPlace := ["internal/bytealg.CountString", "internal/bytealg.IndexByteString", "internal/bytealg.IndexString"], named := ["unicode/utf8.first", "unicode/utf8.acceptRanges", "internal/bytealg.MaxLen"], apart := false, laid := [("unicode/utf8.acceptRanges", laid_unicode_utf8_acceptRanges), ("unicode/utf8.first", laid_unicode_utf8_first)] }
def FnExactLongKeySaid : Prop := fnExactLongKeyRow.holds Tryz.pinned (OpenSpec.ofChange fnExactLongKeySpec)

/-- ITS FALSE NEIGHBOUR: 'it returns false'. Refute it at one input. -/
def fnExactLongKeyWrong : ChangeSpec := { name := "fnExactLongKey", fn := fun _ => fun
  | [d1, d2, d3] => { results := [.lit (.bool false)], args := [d1, d2, d3] }
  | _ => none }
def FnExactLongKeyWrongFalsely : Prop := fnExactLongKeyRow.holds Tryz.pinned (OpenSpec.ofChange fnExactLongKeyWrong)

/-- 'laws.FnRowKeys': WHATEVER THE INPUT: true; the input reads as it did. -/
def fnRowKeysSpec : ChangeSpec := { name := "fnRowKeys", fn := fun _ => fun
  | [d] => { results := [.lit (.bool true)], args := [d] }
  | _ => none }
def fnRowKeysRow : OpenClaim := { program := "ythadcmcdbcfjaaagreatdoor", sum := "6aa6020c4542b23e149e90d7ce9b39f56d3f9dcc1dd9e5d26d815e424457eca5", func := "loop.example/g00322/laws.FnRowKeys", spec := "fnRowKeys", inPlace := ["internal/bytealg.CountString", "internal/bytealg.IndexByteString", "internal/bytealg.IndexString"], named := ["unicode/utf8.first", "unicode/utf8.acceptRanges", "internal/bytealg.MaxLen"], apart := false, laid := [("unicode/utf8.acceptRanges", laid_unicode_utf8_acceptRanges), ("unicode/utf8.first", laid_unicode_utf8_first)] }
def FnRowKeysSaid : Prop := fnRowKeysRow.holds Tryz.pinned (OpenSpec.ofChange fnRowKeysSpec)

/-- ITS FALSE NEIGHBOUR: 'it returns false'. Refute it at one input. -/
def fnRowKeysWrong : ChangeSpec := { name := "fnRowKeys", fn := fun _ => fun
  | [d] => { results := [.lit (.bool false)], args := [d] }
  | _ => none }
def FnRowKeysWrongFalsely : Prop := fnRowKeysRow.holds Tryz.pinned (OpenSpec.ofChange fnRowKeysWrong)

/- THE SECOND FORM. 'bulk': how many values and letters a reading holds, each counted each time it is reached (what is shared counts as often as it is met; a slice's spare places count too). A statement '..UptoSaid' is the law's where the arguments, and the package variables that the reading takes, are together of bulk at most 1048576: NARROWER than '..Said'. Prove '..Said' where nothing that the law and all that it calls make is longer than what came in: it says more and counts as full. Else prove '..UptoSaid'. A law counts once. -/
mutual
def uptoBulk {H : Type} : DataW H → Nat
  | .lit (.string bytes) => bytes.length + 1
  | .lit _ => 1
  | .nil => 1
  | .ptr d => uptoBulk d + 1
  | .slice elems spare => uptoBulkAll elems + uptoBulkAll spare + 1
  | .agg parts => uptoBulkAll parts + 1
  | .iface _ d => uptoBulk d + 1
  | .map entries => uptoBulkEntries entries + 1
  | .held _ => 1
def uptoBulkAll {H : Type} : List (DataW H) → Nat
  | [] => 0
  | d :: r => uptoBulk d + uptoBulkAll r
def uptoBulkEntries {H : Type} : List (Lit × DataW H) → Nat
  | [] => 0
  | x :: r => uptoBulkEntry x + uptoBulkEntries r
def uptoBulkEntry {H : Type} : Lit × DataW H → Nat
  | (.string bytes, d) => bytes.length + uptoBulk d + 1
  | (_, d) => uptoBulk d + 1
 end
def uptoSmall : (H : Type) → List (DataW H) → Bool := fun _ ds => decide (uptoBulkAll ds ≤ 1048576)
def OpenSpec.upto (s : _root_.Go.ChangeSpec) : _root_.Go.OpenSpec := { _root_.Go.OpenSpec.ofChange s with cond := some uptoSmall }

/-- 'laws.FnRowKeysBent', WHERE WHAT IT READS IS OF BULK AT MOST 1048576: true; the input reads as it did. -/
def fnRowKeysBentUptoRow : OpenClaim := { program := "ythadcmcdbcfjaaagreatdoor", sum := "6aa6020c4542b23e149e90d7ce9b39f56d3f9dcc1dd9e5d26d815e424457eca5", func := "loop.example/g00322/laws.FnRowKeysBent", spec := "fnRowKeysBent", inPlace := ["internal/bytealg.CountString", "internal/bytealg.IndexByteString", "internal/bytealg.IndexString"], recurses := true, named := ["unicode/utf8.first", "unicode/utf8.acceptRanges", "internal/bytealg.MaxLen"], apart := false, laid := [("unicode/utf8.acceptRanges", laid_unicode_utf8_acceptRanges), ("unicode/utf8.first", laid_unicode_utf8_first)], narrowed := true }
def FnRowKeysBentUptoSaid : Prop := fnRowKeysBentUptoRow.holds Tryz.pinned (OpenSpec.upto fnRowKeysBentSpec)

/-- 'laws.FnExactKeyOf', WHERE WHAT IT READS IS OF BULK AT MOST 1048576: true; the input reads as it did. -/
def fnExactKeyOfUptoRow : OpenClaim := { program := "ythadcmcdbcfjaaagreatdoor", sum := "6aa6020c4542b23e149e90d7ce9b39f56d3f9dcc1dd9e5d26d815e424457eca5", func := "loop.example/g00322/laws.FnExactKeyOf", spec := "fnExactKeyOf", inPlace := ["internal/bytealg.CountString", "internal/bytealg.IndexByteString", "internal/bytealg.IndexString"], named := ["unicode/utf8.first", "unicode/utf8.acceptRanges", "internal/bytealg.MaxLen"], apart := false, laid := [("unicode/utf8.acceptRanges", laid_unicode_utf8_acceptRanges), ("unicode/utf8.first", laid_unicode_utf8_first)], narrowed := true }
def FnExactKeyOfUptoSaid : Prop := fnExactKeyOfUptoRow.holds Tryz.pinned (OpenSpec.upto fnExactKeyOfSpec)

/-- 'laws.FnExactLongKey', WHERE WHAT IT READS IS OF BULK AT MOST 1048576: true; the input reads as it did. -/
def fnExactLongKeyUptoRow : OpenClaim := { program := "ythadcmcdbcfjaaagreatdoor", sum := "6aa6020c4542b23e149e90d7ce9b39f56d3f9dcc1dd9e5d26d815e424457eca5", func := "loop.example/g00322/laws.FnExactLongKey", spec := "fnExactLongKey", inPlace := ["internal/bytealg.CountString", "internal/bytealg.IndexByteString", "internal/bytealg.IndexString"], named := ["unicode/utf8.first", "unicode/utf8.acceptRanges", "internal/bytealg.MaxLen"], apart := false, laid := [("unicode/utf8.acceptRanges", laid_unicode_utf8_acceptRanges), ("unicode/utf8.first", laid_unicode_utf8_first)], narrowed := true }
def FnExactLongKeyUptoSaid : Prop := fnExactLongKeyUptoRow.holds Tryz.pinned (OpenSpec.upto fnExactLongKeySpec)

/-- 'laws.FnRowKeys', WHERE WHAT IT READS IS OF BULK AT MOST 1048576: true; the input reads as it did. -/
def fnRowKeysUptoRow : OpenClaim := { program := "ythadcmcdbcfjaaagreatdoor", sum := "6aa6020c4542b23e149e90d7ce9b39f56d3f9dcc1dd9e5d26d815e424457eca5", func := "loop.example/g00322/laws.FnRowKeys", spec := "fnRowKeys", inPlace := ["internal/bytealg.CountString", "internal/bytealg.IndexByteString", "internal/bytealg.IndexString"], named := ["unicode/utf8.first", "unicode/utf8.acceptRanges", "internal/bytealg.MaxLen"], apart := false, laid := [("unicode/utf8.acceptRanges", laid_unicode_utf8_acceptRanges), ("unicode/utf8.first", laid_unicode_utf8_first)], narrowed := true }
def FnRowKeysUptoSaid : Prop := fnRowKeysUptoRow.holds Tryz.pinned (OpenSpec.upto fnRowKeysSpec)

end Rows
end Go.Proofs.YthadcmcdbcfjaaaGreatDoor
