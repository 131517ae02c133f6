/-
  NARROWER THAN 'FOR EVERY INPUT', by the rows' own cells (each row's printed sentence says how): FnExactFirstBad: laid · FnChecks: laid · FnExactDefText: laid · FnExactDefsText: laid · FnDefs: laid · FnExactParseDefs: laid · FnDefsRead: laid · FnPlans: laid · FnExactRowPlan: laid · FnExactIndexPlan: laid · FnExactPrimaryPlan: laid.
  DERIVED. THE GIVEN ROWS OF THIS SEAT. 11 by the template 'for every input the law returns true; each argument reads behind the call as it read before'; 0 by the template 'total and deterministic' (their statements: YtipehkeabnfngaaDoorTotals.lean).
  GIVEN WITH THE SEED: the statements are not yours to turn. If you find one false, say at which input.
  Laid BY PROGRAM, IN A SANDBOX (cutbox-rows.mjs): the forced cells as the released guide's own fill.sh prints them over the translation c1c056637355ad94… (all of the seat's roots in one cut). By AI agents, Wed Nov 11 2026. No macro, syntax, notation, axiom, sorry.
-/
import Derived.Test.YtipehkeabnfngaaDoorChecked
import GoSem.PinnedTables
import GoSem.Claim
import GoSem.ClaimJoined
import GoSem.ClaimMapViews
import Derived.JoinedTies
import Derived.KernelRfl
namespace Go.Proofs.YtipehkeabnfngaaDoor
/- THE CELL 'sum', in the pinned program and in every row, IS THE sha256 OF THE DUMP (.gsa) THAT YtipehkeabnfngaaDoorProg.lean LOADS. Nothing in Lean hashes anything: it is a label: what it is worth is what the hold of that sum in a sandbox is worth. -/
noncomputable def Tryd.pinned : Pinned := { name := "ytipehkeabnfngaadoor", sum := "c1c056637355ad94530bda916b1f1f0213d43cf27371246401aa57b5927eed86", checked := Tryd.checked }
namespace Rows
def none {H : Type} : Left H := { results := [], args := [] }

/- WHAT THE LISTED PACKAGE-LEVEL VARIABLES READ AS WHEN THE CALL BEGINS. Each datum BY PROGRAM (the guide's laid-datum.mjs) off the statement by which the dump's own 'gosem.cut.vars' lays the variable. In a bare row this is a premise. The card (YtipehkeabnfngaaDoorCards.lean) ties it to the program's text. -/
def laid_unicode_utf8_acceptRanges {H : Type} : DataW H := .agg [.agg [.lit (.int .u8 128), .lit (.int .u8 191)], .agg [.lit (.int .u8 160), .lit (.int .u8 191)], .agg [.lit (.int .u8 128), .lit (.int .u8 159)], .agg [.lit (.int .u8 144), .lit (.int .u8 191)], .agg [.lit (.int .u8 128), .lit (.int .u8 143)], .agg [.lit (.int .u8 0), .lit (.int .u8 0)], .agg [.lit (.int .u8 0), .lit (.int .u8 0)], .agg [.lit (.int .u8 0), .lit (.int .u8 0)], .agg [.lit (.int .u8 0), .lit (.int .u8 0)], .agg [.lit (.int .u8 0), .lit (.int .u8 0)], .agg [.lit (.int .u8 0), .lit (.int .u8 0)], .agg [.lit (.int .u8 0), .lit (.int .u8 0)], .agg [.lit (.int .u8 0), .lit (.int .u8 0)], .agg [.lit (.int .u8 0), .lit (.int .u8 0)], .agg [.lit (.int .u8 0), .lit (.int .u8 0)], .agg [.lit (.int .u8 0), .lit (.int .u8 0)]]
/-- One of Go's own tables, pinned by name: the form's constant. -/
def laid_unicode_utf8_first : DataW Unit := Go.Pinned.utf8First

/-- 'laws.FnExactFirstBad': WHATEVER THE INPUT: true; the input reads as it did. -/
def fnExactFirstBadSpec : ChangeSpec := { name := "fnExactFirstBad", fn := fun _ => fun
  | [d] => { results := [.lit (.bool true)], args := [d] }
  | _ => none }
def fnExactFirstBadRow : OpenClaim := { program := "ytipehkeabnfngaadoor", sum := "c1c056637355ad94530bda916b1f1f0213d43cf27371246401aa57b5927eed86", func := "loop.example/g00322/laws.FnExactFirstBad", spec := "fnExactFirstBad", inPlace := ["internal/bytealg.CountString", "internal/bytealg.IndexByteString", "internal/bytealg.IndexString"], named := ["unicode/utf8.first", "unicode/utf8.acceptRanges", "internal/bytealg.MaxLen"], apart := false, laid := [("unicode/utf8.acceptRanges", laid_unicode_utf8_acceptRanges), ("unicode/utf8.first", laid_unicode_utf8_first)] }
def FnExactFirstBadSaid : Prop := fnExactFirstBadRow.holds Tryd.pinned (OpenSpec.ofChange fnExactFirstBadSpec)

/-- ITS FALSE NEIGHBOUR: 'it returns false'. Refute it at one input. -/
def fnExactFirstBadWrong : ChangeSpec := { name := "fnExactFirstBad", fn := fun _ => fun
  | [d] => { results := [.lit (.bool false)], args := [d] }
  | _ => none }
def FnExactFirstBadWrongFalsely : Prop := fnExactFirstBadRow.holds Tryd.pinned (OpenSpec.ofChange fnExactFirstBadWrong)

/-- 'laws.FnChecks': WHATEVER THE INPUT: true; the input reads as it did. -/
def fnChecksSpec : ChangeSpec := { name := "fnChecks", fn := fun _ => fun
  | [d] => { results := [.lit (.bool true)], args := [d] }
  | _ => none }
def fnChecksRow : OpenClaim := { program := "ytipehkeabnfngaadoor", sum := "c1c056637355ad94530bda916b1f1f0213d43cf27371246401aa57b5927eed86", func := "loop.example/g00322/laws.FnChecks", spec := "fnChecks", inPlace := ["internal/bytealg.CountString", "internal/bytealg.IndexByteString", "internal/bytealg.IndexString", "internal/abi.NoEscape", "internal/bytealg.MakeNoZero"], recurses := true, named := ["unicode/utf8.first", "unicode/utf8.acceptRanges", "internal/bytealg.MaxLen"], apart := false, laid := [("unicode/utf8.acceptRanges", laid_unicode_utf8_acceptRanges), ("unicode/utf8.first", laid_unicode_utf8_first)] }
def FnChecksSaid : Prop := fnChecksRow.holds Tryd.pinned (OpenSpec.ofChange fnChecksSpec)

/-- ITS FALSE NEIGHBOUR: 'it returns false'. Refute it at one input. -/
def fnChecksWrong : ChangeSpec := { name := "fnChecks", fn := fun _ => fun
  | [d] => { results := [.lit (.bool false)], args := [d] }
  | _ => none }
def FnChecksWrongFalsely : Prop := fnChecksRow.holds Tryd.pinned (OpenSpec.ofChange fnChecksWrong)

/-- 'laws.FnExactDefText': WHATEVER THE INPUT: true; the input reads as it did. -/
def fnExactDefTextSpec : ChangeSpec := { name := "fnExactDefText", fn := fun _ => fun
  | [d] => { results := [.lit (.bool true)], args := [d] }
  | _ => none }
def fnExactDefTextRow : OpenClaim := { program := "ytipehkeabnfngaadoor", sum := "c1c056637355ad94530bda916b1f1f0213d43cf27371246401aa57b5927eed86", func := "loop.example/g00322/laws.FnExactDefText", spec := "fnExactDefText", inPlace := ["internal/bytealg.CountString", "internal/bytealg.IndexByteString", "internal/bytealg.IndexString", "internal/abi.NoEscape", "internal/bytealg.MakeNoZero"], named := ["unicode/utf8.first", "unicode/utf8.acceptRanges", "internal/bytealg.MaxLen"], apart := false, laid := [("unicode/utf8.acceptRanges", laid_unicode_utf8_acceptRanges), ("unicode/utf8.first", laid_unicode_utf8_first)] }
def FnExactDefTextSaid : Prop := fnExactDefTextRow.holds Tryd.pinned (OpenSpec.ofChange fnExactDefTextSpec)

/-- ITS FALSE NEIGHBOUR: 'it returns false'. Refute it at one input. -/
def fnExactDefTextWrong : ChangeSpec := { name := "fnExactDefText", fn := fun _ => fun
  | [d] => { results := [.lit (.bool false)], args := [d] }
  | _ => none }
def FnExactDefTextWrongFalsely : Prop := fnExactDefTextRow.holds Tryd.pinned (OpenSpec.ofChange fnExactDefTextWrong)

/-- 'laws.FnExactDefsText': WHATEVER THE INPUT: true; the input reads as it did. -/
def fnExactDefsTextSpec : ChangeSpec := { name := "fnExactDefsText", fn := fun _ => fun
  | [d] => { results := [.lit (.bool true)], args := [d] }
  | _ => none }
def fnExactDefsTextRow : OpenClaim := { program := "ytipehkeabnfngaadoor", sum := "c1c056637355ad94530bda916b1f1f0213d43cf27371246401aa57b5927eed86", func := "loop.example/g00322/laws.FnExactDefsText", spec := "fnExactDefsText", inPlace := ["internal/bytealg.CountString", "internal/bytealg.IndexByteString", "internal/bytealg.IndexString", "internal/abi.NoEscape", "internal/bytealg.MakeNoZero"], named := ["unicode/utf8.first", "unicode/utf8.acceptRanges", "internal/bytealg.MaxLen"], apart := false, laid := [("unicode/utf8.acceptRanges", laid_unicode_utf8_acceptRanges), ("unicode/utf8.first", laid_unicode_utf8_first)] }
def FnExactDefsTextSaid : Prop := fnExactDefsTextRow.holds Tryd.pinned (OpenSpec.ofChange fnExactDefsTextSpec)

/-- ITS FALSE NEIGHBOUR: 'it returns false'. Refute it at one input. -/
def fnExactDefsTextWrong : ChangeSpec := { name := "fnExactDefsText", fn := fun _ => fun
  | [d] => { results := [.lit (.bool false)], args := [d] }
  | _ => none }
def FnExactDefsTextWrongFalsely : Prop := fnExactDefsTextRow.holds Tryd.pinned (OpenSpec.ofChange fnExactDefsTextWrong)

/-- 'laws.FnDefs': WHATEVER THE INPUT: true; the input reads as it did. -/
def fnDefsSpec : ChangeSpec := { name := "fnDefs", fn := fun _ => fun
  | [d] => { results := [.lit (.bool true)], args := [d] }
  | _ => none }
def fnDefsRow : OpenClaim := { program := "ytipehkeabnfngaadoor", sum := "c1c056637355ad94530bda916b1f1f0213d43cf27371246401aa57b5927eed86", func := "loop.example/g00322/laws.FnDefs", spec := "fnDefs", inPlace := ["internal/bytealg.CountString", "internal/bytealg.IndexByteString", "internal/bytealg.IndexString", "internal/abi.NoEscape", "internal/bytealg.MakeNoZero"], recurses := true, named := ["unicode/utf8.first", "unicode/utf8.acceptRanges", "internal/bytealg.MaxLen"], apart := false, laid := [("unicode/utf8.acceptRanges", laid_unicode_utf8_acceptRanges), ("unicode/utf8.first", laid_unicode_utf8_first)] }
def FnDefsSaid : Prop := fnDefsRow.holds Tryd.pinned (OpenSpec.ofChange fnDefsSpec)

/-- ITS FALSE NEIGHBOUR: 'it returns false'. Refute it at one input. -/
def fnDefsWrong : ChangeSpec := { name := "fnDefs", fn := fun _ => fun
  | [d] => { results := [.lit (.bool false)], args := [d] }
  | _ => none }
def FnDefsWrongFalsely : Prop := fnDefsRow.holds Tryd.pinned (OpenSpec.ofChange fnDefsWrong)

/-- 'laws.FnExactParseDefs': WHATEVER THE INPUT: true; the input reads as it did. -/
def fnExactParseDefsSpec : ChangeSpec := { name := "fnExactParseDefs", fn := fun _ => fun
  | [d] => { results := [.lit (.bool true)], args := [d] }
  | _ => none }
def fnExactParseDefsRow : OpenClaim := { program := "ytipehkeabnfngaadoor", sum := "c1c056637355ad94530bda916b1f1f0213d43cf27371246401aa57b5927eed86", func := "loop.example/g00322/laws.FnExactParseDefs", spec := "fnExactParseDefs", inPlace := ["internal/bytealg.CountString", "internal/bytealg.IndexByteString", "internal/bytealg.IndexString"], named := ["unicode/utf8.first", "unicode/utf8.acceptRanges", "internal/bytealg.MaxLen"], apart := false, laid := [("unicode/utf8.acceptRanges", laid_unicode_utf8_acceptRanges), ("unicode/utf8.first", laid_unicode_utf8_first)] }
def FnExactParseDefsSaid : Prop := fnExactParseDefsRow.holds Tryd.pinned (OpenSpec.ofChange fnExactParseDefsSpec)

/-- ITS FALSE NEIGHBOUR: 'it returns false'. Refute it at one input. -/
def fnExactParseDefsWrong : ChangeSpec := { name := "fnExactParseDefs", fn := fun _ => fun
  | [d] => { results := [.lit (.bool false)], args := [d] }
  | _ => none }
def FnExactParseDefsWrongFalsely : Prop := fnExactParseDefsRow.holds Tryd.pinned (OpenSpec.ofChange fnExactParseDefsWrong)

/-- 'laws.FnDefsRead': WHATEVER THE INPUT: true; the input reads as it did. -/
def fnDefsReadSpec : ChangeSpec := { name := "fnDefsRead", fn := fun _ => fun
  | [d] => { results := [.lit (.bool true)], args := [d] }
  | _ => none }
def fnDefsReadRow : OpenClaim := { program := "ytipehkeabnfngaadoor", sum := "c1c056637355ad94530bda916b1f1f0213d43cf27371246401aa57b5927eed86", func := "loop.example/g00322/laws.FnDefsRead", spec := "fnDefsRead", inPlace := ["internal/bytealg.CountString", "internal/bytealg.IndexByteString", "internal/bytealg.IndexString", "internal/abi.NoEscape", "internal/bytealg.MakeNoZero"], named := ["unicode/utf8.first", "unicode/utf8.acceptRanges", "internal/bytealg.MaxLen"], apart := false, laid := [("unicode/utf8.acceptRanges", laid_unicode_utf8_acceptRanges), ("unicode/utf8.first", laid_unicode_utf8_first)] }
def FnDefsReadSaid : Prop := fnDefsReadRow.holds Tryd.pinned (OpenSpec.ofChange fnDefsReadSpec)

/-- ITS FALSE NEIGHBOUR: 'it returns false'. Refute it at one input. -/
def fnDefsReadWrong : ChangeSpec := { name := "fnDefsRead", fn := fun _ => fun
  | [d] => { results := [.lit (.bool false)], args := [d] }
  | _ => none }
def FnDefsReadWrongFalsely : Prop := fnDefsReadRow.holds Tryd.pinned (OpenSpec.ofChange fnDefsReadWrong)

/-- 'laws.FnPlans': WHATEVER THE INPUT: true; the input reads as it did. -/
def fnPlansSpec : ChangeSpec := { name := "fnPlans", fn := fun _ => fun
  | [d] => { results := [.lit (.bool true)], args := [d] }
  | _ => none }
def fnPlansRow : OpenClaim := { program := "ytipehkeabnfngaadoor", sum := "c1c056637355ad94530bda916b1f1f0213d43cf27371246401aa57b5927eed86", func := "loop.example/g00322/laws.FnPlans", spec := "fnPlans", inPlace := ["internal/bytealg.CountString", "internal/bytealg.IndexByteString", "internal/bytealg.IndexString"], recurses := true, named := ["unicode/utf8.first", "unicode/utf8.acceptRanges", "internal/bytealg.MaxLen"], apart := false, laid := [("unicode/utf8.acceptRanges", laid_unicode_utf8_acceptRanges), ("unicode/utf8.first", laid_unicode_utf8_first)] }
def FnPlansSaid : Prop := fnPlansRow.holds Tryd.pinned (OpenSpec.ofChange fnPlansSpec)

/-- ITS FALSE NEIGHBOUR: 'it returns false'. Refute it at one input. -/
def fnPlansWrong : ChangeSpec := { name := "fnPlans", fn := fun _ => fun
  | [d] => { results := [.lit (.bool false)], args := [d] }
  | _ => none }
def FnPlansWrongFalsely : Prop := fnPlansRow.holds Tryd.pinned (OpenSpec.ofChange fnPlansWrong)

/-- 'laws.FnExactRowPlan': WHATEVER THE INPUT: true; the input reads as it did. -/
def fnExactRowPlanSpec : ChangeSpec := { name := "fnExactRowPlan", fn := fun _ => fun
  | [d] => { results := [.lit (.bool true)], args := [d] }
  | _ => none }
def fnExactRowPlanRow : OpenClaim := { program := "ytipehkeabnfngaadoor", sum := "c1c056637355ad94530bda916b1f1f0213d43cf27371246401aa57b5927eed86", func := "loop.example/g00322/laws.FnExactRowPlan", spec := "fnExactRowPlan", inPlace := ["internal/bytealg.CountString", "internal/bytealg.IndexByteString", "internal/bytealg.IndexString"], named := ["unicode/utf8.first", "unicode/utf8.acceptRanges", "internal/bytealg.MaxLen"], apart := false, laid := [("unicode/utf8.acceptRanges", laid_unicode_utf8_acceptRanges), ("unicode/utf8.first", laid_unicode_utf8_first)] }
def FnExactRowPlanSaid : Prop := fnExactRowPlanRow.holds Tryd.pinned (OpenSpec.ofChange fnExactRowPlanSpec)

/-- ITS FALSE NEIGHBOUR: 'it returns false'. Refute it at one input. -/
def fnExactRowPlanWrong : ChangeSpec := { name := "fnExactRowPlan", fn := fun _ => fun
  | [d] => { results := [.lit (.bool false)], args := [d] }
  | _ => none }
def FnExactRowPlanWrongFalsely : Prop := fnExactRowPlanRow.holds Tryd.pinned (OpenSpec.ofChange fnExactRowPlanWrong)

/-- 'laws.FnExactIndexPlan': WHATEVER THE INPUT: true; the input reads as it did. -/
def fnExactIndexPlanSpec : ChangeSpec := { name := "fnExactIndexPlan", fn := fun _ => fun
  | [d1, d2] => { results := [.lit (.bool true)], args := [d1, d2] }
  | _ => none }
def fnExactIndexPlanRow : OpenClaim := { program := "ytipehkeabnfngaadoor", sum := "c1c056637355ad94530bda916b1f1f0213d43cf27371246401aa57b5927eed86", func := "loop.example/g00322/laws.FnExactIndexPlan", spec := "fnExactIndexPlan", inPlace := ["internal/bytealg.CountString", "internal/bytealg.IndexByteString", "internal/bytealg.IndexString"], named := ["unicode/utf8.first", "unicode/utf8.acceptRanges", "internal/bytealg.MaxLen"], apart := false, laid := [("unicode/utf8.acceptRanges", laid_unicode_utf8_acceptRanges), ("unicode/utf8.first", laid_unicode_utf8_first)] }
def FnExactIndexPlanSaid : Prop := fnExactIndexPlanRow.holds Tryd.pinned (OpenSpec.ofChange fnExactIndexPlanSpec)

/-- ITS FALSE NEIGHBOUR: 'it returns false'. Refute it at one input. -/
def fnExactIndexPlanWrong : ChangeSpec := { name := "fnExactIndexPlan", fn := fun _ => fun
  | [d1, d2] => { results := [.lit (.bool false)], args := [d1, d2] }
  | _ => none }
def FnExactIndexPlanWrongFalsely : Prop := fnExactIndexPlanRow.holds Tryd.pinned (OpenSpec.ofChange fnExactIndexPlanWrong)

/-- 'laws.FnExactPrimaryPlan': WHATEVER THE INPUT: true; the input reads as it did. -/
def fnExactPrimaryPlanSpec : ChangeSpec := { name := "fnExactPrimaryPlan", fn := fun _ => fun
  | [d] => { results := [.lit (.bool true)], args := [d] }
  | _ => none }
def fnExactPrimaryPlanRow : OpenClaim := { program := "ytipehkeabnfngaadoor", sum := "c1c056637355ad94530bda916b1f1f0213d43cf27371246401aa57b5927eed86", func := "loop.example/g00322/laws.FnExactPrimaryPlan", spec := "fnExactPrimaryPlan", inPlace := ["internal/bytealg.CountString", "internal/bytealg.IndexByteString", "internal/bytealg.IndexString"], named := ["unicode/utf8.first", "unicode/utf8.acceptRanges", "internal/bytealg.MaxLen"], apart := false, laid := [("unicode/utf8.acceptRanges", laid_unicode_utf8_acceptRanges), ("unicode/utf8.first", laid_unicode_utf8_first)] }
def FnExactPrimaryPlanSaid : Prop := fnExactPrimaryPlanRow.holds Tryd.pinned (OpenSpec.ofChange fnExactPrimaryPlanSpec)

/-- ITS FALSE NEIGHBOUR: 'it returns false'. Refute it at one input. -/
def fnExactPrimaryPlanWrong : ChangeSpec := { name := "fnExactPrimaryPlan", fn := fun _ => fun
  | [d] => { results := [.lit (.bool false)], args := [d] }
  | _ => none }
def FnExactPrimaryPlanWrongFalsely : Prop := fnExactPrimaryPlanRow.holds Tryd.pinned (OpenSpec.ofChange fnExactPrimaryPlanWrong)

/- THE SECOND FORM. 'bulk': how many values and letters a reading holds, each counted each time it is reached (what is shared counts as often as it is met; a slice's spare places count too). A statement '..UptoSaid' is the law's where the arguments, and the package variables that the reading takes, are together of bulk at most 1048576: NARROWER than '..Said'. Prove '..Said' where nothing that the law and all that it calls make is longer than what came in: it says more and counts as full. Else prove '..UptoSaid'. A law counts once. -/
mutual
def uptoBulk {H : Type} : DataW H → Nat
  | .lit (.string bytes) => bytes.length + 1
  | .lit _ => 1
  | .nil => 1
  | .ptr d => uptoBulk d + 1
  | .slice elems spare => uptoBulkAll elems + uptoBulkAll spare + 1
  | .agg parts => uptoBulkAll parts + 1
  | .iface _ d => uptoBulk d + 1
  | .map entries => uptoBulkEntries entries + 1
  | .held _ => 1
def uptoBulkAll {H : Type} : List (DataW H) → Nat
  | [] => 0
  | d :: r => uptoBulk d + uptoBulkAll r
def uptoBulkEntries {H : Type} : List (Lit × DataW H) → Nat
  | [] => 0
  | x :: r => uptoBulkEntry x + uptoBulkEntries r
def uptoBulkEntry {H : Type} : Lit × DataW H → Nat
  | (.string bytes, d) => bytes.length + uptoBulk d + 1
  | (_, d) => uptoBulk d + 1
 end
def uptoSmall : (H : Type) → List (DataW H) → Bool := fun _ ds => decide (uptoBulkAll ds ≤ 1048576)
def OpenSpec.upto (s : _root_.Go.ChangeSpec) : _root_.Go.OpenSpec := { _root_.Go.OpenSpec.ofChange s with cond := some uptoSmall }

/-- 'laws.FnExactFirstBad', WHERE WHAT IT READS IS OF BULK AT MOST 1048576: true; the input reads as it did. -/
def fnExactFirstBadUptoRow : OpenClaim := { program := "ytipehkeabnfngaadoor", sum := "c1c056637355ad94530bda916b1f1f0213d43cf27371246401aa57b5927eed86", func := "loop.example/g00322/laws.FnExactFirstBad", spec := "fnExactFirstBad", inPlace := ["internal/bytealg.CountString", "internal/bytealg.IndexByteString", "internal/bytealg.IndexString"], named := ["unicode/utf8.first", "unicode/utf8.acceptRanges", "internal/bytealg.MaxLen"], apart := false, laid := [("unicode/utf8.acceptRanges", laid_unicode_utf8_acceptRanges), ("unicode/utf8.first", laid_unicode_utf8_first)], narrowed := true }
def FnExactFirstBadUptoSaid : Prop := fnExactFirstBadUptoRow.holds Tryd.pinned (OpenSpec.upto fnExactFirstBadSpec)

/-- 'laws.FnChecks', WHERE WHAT IT READS IS OF BULK AT MOST 1048576: true; the input reads as it did. -/
def fnChecksUptoRow : OpenClaim := { program := "ytipehkeabnfngaadoor", sum := "c1c056637355ad94530bda916b1f1f0213d43cf27371246401aa57b5927eed86", func := "loop.example/g00322/laws.FnChecks", spec := "fnChecks", inPlace := ["internal/bytealg.CountString", "internal/bytealg.IndexByteString", "internal/bytealg.IndexString", "internal/abi.NoEscape", "internal/bytealg.MakeNoZero"], recurses := true, named := ["unicode/utf8.first", "unicode/utf8.acceptRanges", "internal/bytealg.MaxLen"], apart := false, laid := [("unicode/utf8.acceptRanges", laid_unicode_utf8_acceptRanges), ("unicode/utf8.first", laid_unicode_utf8_first)], narrowed := true }
def FnChecksUptoSaid : Prop := fnChecksUptoRow.holds Tryd.pinned (OpenSpec.upto fnChecksSpec)

/-- 'laws.FnExactDefText', WHERE WHAT IT READS IS OF BULK AT MOST 1048576: true; the input reads as it did. -/
def fnExactDefTextUptoRow : OpenClaim := { program := "ytipehkeabnfngaadoor", sum := "c1c056637355ad94530bda916b1f1f0213d43cf27371246401aa57b5927eed86", func := "loop.example/g00322/laws.FnExactDefText", spec := "fnExactDefText", inPlace := ["internal/bytealg.CountString", "internal/bytealg.IndexByteString", "internal/bytealg.IndexString", "internal/abi.NoEscape", "internal/bytealg.MakeNoZero"], named := ["unicode/utf8.first", "unicode/utf8.acceptRanges", "internal/bytealg.MaxLen"], apart := false, laid := [("unicode/utf8.acceptRanges", laid_unicode_utf8_acceptRanges), ("unicode/utf8.first", laid_unicode_utf8_first)], narrowed := true }
def FnExactDefTextUptoSaid : Prop := fnExactDefTextUptoRow.holds Tryd.pinned (OpenSpec.upto fnExactDefTextSpec)

/-- 'laws.FnExactDefsText', WHERE WHAT IT READS IS OF BULK AT MOST 1048576: true; the input reads as it did. -/
def fnExactDefsTextUptoRow : OpenClaim := { program := "ytipehkeabnfngaadoor", sum := "c1c056637355ad94530bda916b1f1f0213d43cf27371246401aa57b5927eed86", func := "loop.example/g00322/laws.FnExactDefsText", spec := "fnExactDefsText", inPlace := ["internal/bytealg.CountString", "internal/bytealg.IndexByteString", "internal/bytealg.IndexString", "internal/abi.NoEscape", "internal/bytealg.MakeNoZero"], named := ["unicode/utf8.first", "unicode/utf8.acceptRanges", "internal/bytealg.MaxLen"], apart := false, laid := [("unicode/utf8.acceptRanges", laid_unicode_utf8_acceptRanges), ("unicode/utf8.first", laid_unicode_utf8_first)], narrowed := true }
def FnExactDefsTextUptoSaid : Prop := fnExactDefsTextUptoRow.holds Tryd.pinned (OpenSpec.upto fnExactDefsTextSpec)

/-- 'laws.FnDefs', WHERE WHAT IT READS IS OF BULK AT MOST 1048576: true; the input reads as it did. -/
def fnDefsUptoRow : OpenClaim := { program := "ytipehkeabnfngaadoor", sum := "c1c056637355ad94530bda916b1f1f0213d43cf27371246401aa57b5927eed86", func := "loop.example/g00322/laws.FnDefs", spec := "fnDefs", inPlace := ["internal/bytealg.CountString", "internal/bytealg.IndexByteString", "internal/bytealg.IndexString", "internal/abi.NoEscape", "internal/bytealg.MakeNoZero"], recurses := true, named := ["unicode/utf8.first", "unicode/utf8.acceptRanges", "internal/bytealg.MaxLen"], apart := false, laid := [("unicode/utf8.acceptRanges", laid_unicode_utf8_acceptRanges), ("unicode/utf8.first", laid_unicode_utf8_first)], narrowed := true }
def FnDefsUptoSaid : Prop := fnDefsUptoRow.holds Tryd.pinned (OpenSpec.upto fnDefsSpec)

/-- 'laws.FnExactParseDefs', WHERE WHAT IT READS IS OF BULK AT MOST 1048576: true; the input reads as it did. -/
def fnExactParseDefsUptoRow : OpenClaim := { program := "ytipehkeabnfngaadoor", sum := "c1c056637355ad94530bda916b1f1f0213d43cf27371246401aa57b5927eed86", func := "loop.example/g00322/laws.FnExactParseDefs", spec := "fnExactParseDefs", inPlace := ["internal/bytealg.CountString", "internal/bytealg.IndexByteString", "internal/bytealg.IndexString"], named := ["unicode/utf8.first", "unicode/utf8.acceptRanges", "internal/bytealg.MaxLen"], apart := false, laid := [("unicode/utf8.acceptRanges", laid_unicode_utf8_acceptRanges), ("unicode/utf8.first", laid_unicode_utf8_first)], narrowed := true }
def FnExactParseDefsUptoSaid : Prop := fnExactParseDefsUptoRow.holds Tryd.pinned (OpenSpec.upto fnExactParseDefsSpec)

/-- 'laws.FnDefsRead', WHERE WHAT IT READS IS OF BULK AT MOST 1048576: true; the input reads as it did. -/
def fnDefsReadUptoRow : OpenClaim := { program := "ytipehkeabnfngaadoor", sum := "c1c056637355ad94530bda916b1f1f0213d43cf27371246401aa57b5927eed86", func := "loop.example/g00322/laws.FnDefsRead", spec := "fnDefsRead", inPlace := ["internal/bytealg.CountString", "internal/bytealg.IndexByteString", "internal/bytealg.IndexString", "internal/abi.NoEscape", "internal/bytealg.MakeNoZero"], named := ["unicode/utf8.first", "unicode/utf8.acceptRanges", "internal/bytealg.MaxLen"], apart := false, laid := [("unicode/utf8.acceptRanges", laid_unicode_utf8_acceptRanges), ("unicode/utf8.first", laid_unicode_utf8_first)], narrowed := true }
def FnDefsReadUptoSaid : Prop := fnDefsReadUptoRow.holds Tryd.pinned (OpenSpec.upto fnDefsReadSpec)

/-- 'laws.FnPlans', WHERE WHAT IT READS IS OF BULK AT MOST 1048576: true; the input reads as it did. -/
def fnPlansUptoRow : OpenClaim := { program := "ytipehkeabnfngaadoor", sum := "c1c056637355ad94530bda916b1f1f0213d43cf27371246401aa57b5927eed86", func := "loop.example/g00322/laws.FnPlans", spec := "fnPlans", inPlace := ["internal/bytealg.CountString", "internal/bytealg.IndexByteString", "internal/bytealg.IndexString"], recurses := true, named := ["unicode/utf8.first", "unicode/utf8.acceptRanges", "internal/bytealg.MaxLen"], apart := false, laid := [("unicode/utf8.acceptRanges", laid_unicode_utf8_acceptRanges), ("unicode/utf8.first", laid_unicode_utf8_first)], narrowed := true }
def FnPlansUptoSaid : Prop := fnPlansUptoRow.holds Tryd.pinned (OpenSpec.upto fnPlansSpec)

/-- 'laws.FnExactRowPlan', WHERE WHAT IT READS IS OF BULK AT MOST 1048576: true; the input reads as it did. -/
def fnExactRowPlanUptoRow : OpenClaim := { program := "ytipehkeabnfngaadoor", sum := "c1c056637355ad94530bda916b1f1f0213d43cf27371246401aa57b5927eed86", func := "loop.example/g00322/laws.FnExactRowPlan", spec := "fnExactRowPlan", inPlace := ["internal/bytealg.CountString", "internal/bytealg.IndexByteString", "internal/bytealg.IndexString"], named := ["unicode/utf8.first", "unicode/utf8.acceptRanges", "internal/bytealg.MaxLen"], apart := false, laid := [("unicode/utf8.acceptRanges", laid_unicode_utf8_acceptRanges), ("unicode/utf8.first", laid_unicode_utf8_first)], narrowed := true }
def FnExactRowPlanUptoSaid : Prop := fnExactRowPlanUptoRow.holds Tryd.pinned (OpenSpec.upto fnExactRowPlanSpec)

/-- 'laws.FnExactIndexPlan', WHERE WHAT IT READS IS OF BULK AT MOST 1048576: true; the input reads as it did. -/
def fnExactIndexPlanUptoRow : OpenClaim := { program := "ytipehkeabnfngaadoor", sum := "c1c056637355ad94530bda916b1f1f0213d43cf27371246401aa57b5927eed86", func := "loop.example/g00322/laws.FnExactIndexPlan", spec := "fnExactIndexPlan", inPlace := ["internal/bytealg.CountString", "internal/bytealg.IndexByteString", "internal/bytealg.IndexString"], named := ["unicode/utf8.first", "unicode/utf8.acceptRanges", "internal/bytealg.MaxLen"], apart := false, laid := [("unicode/utf8.acceptRanges", laid_unicode_utf8_acceptRanges), ("unicode/utf8.first", laid_unicode_utf8_first)], narrowed := true }
def FnExactIndexPlanUptoSaid : Prop := fnExactIndexPlanUptoRow.holds Tryd.pinned (OpenSpec.upto fnExactIndexPlanSpec)

/-- 'laws.FnExactPrimaryPlan', WHERE WHAT IT READS IS OF BULK AT MOST 1048576: true; the input reads as it did. -/
def fnExactPrimaryPlanUptoRow : OpenClaim := { program := "ytipehkeabnfngaadoor", sum := "c1c056637355ad94530bda916b1f1f0213d43cf27371246401aa57b5927eed86", func := "loop.example/g00322/laws.FnExactPrimaryPlan", spec := "fnExactPrimaryPlan", inPlace := ["internal/bytealg.CountString", "internal/bytealg.IndexByteString", "internal/bytealg.IndexString"], named := ["unicode/utf8.first", "unicode/utf8.acceptRanges", "internal/bytealg.MaxLen"], apart := false, laid := [("unicode/utf8.acceptRanges", laid_unicode_utf8_acceptRanges), ("unicode/utf8.first", laid_unicode_utf8_first)], narrowed := true }
def FnExactPrimaryPlanUptoSaid : Prop := fnExactPrimaryPlanUptoRow.holds Tryd.pinned (OpenSpec.upto fnExactPrimaryPlanSpec)

end Rows
end Go.Proofs.YtipehkeabnfngaaDoor
