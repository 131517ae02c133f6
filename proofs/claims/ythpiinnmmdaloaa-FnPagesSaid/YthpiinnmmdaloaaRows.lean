/-
  No cell of these rows narrows 'for every input' (looked for: loops, veiled, ifaces, maps, wideKeys, modest, calm, conditions, laid).
  DERIVED. THE GIVEN ROWS OF THIS SEAT. 12 by the template 'for every input the law returns true; each argument reads behind the call as it read before'; 0 by the template 'total and deterministic' (their statements: YthpiinnmmdaloaaTotals.lean).
  GIVEN WITH THE SEED: the statements are not yours to turn. If you find one false, say at which input.
  Laid BY PROGRAM, IN A SANDBOX (cutbox-rows.mjs): the forced cells as the released guide's own fill.sh prints them over the translation 69336e4da6e766c1… (all of the seat's roots in one cut). By AI agents, Wed Nov 11 2026. No macro, syntax, notation, axiom, sorry.
-/
import Derived.Test.YthpiinnmmdaloaaChecked
import GoSem.Claim
import GoSem.ClaimJoined
import GoSem.ClaimMapViews
import Derived.JoinedTies
import Derived.KernelRfl
namespace Go.Proofs.Ythpiinnmmdaloaa
/- THE CELL 'sum', in the pinned program and in every row, IS THE sha256 OF THE DUMP (.gsa) THAT YthpiinnmmdaloaaProg.lean LOADS. Nothing in Lean hashes anything: it is a label: what it is worth is what the hold of that sum in a sandbox is worth. -/
noncomputable def Try.pinned : Pinned := { name := "ythpiinnmmdaloaa", sum := "69336e4da6e766c1d30d9dbe1313cde98a53eb2890cbca0f0e069d29aa4e428b", checked := Try.checked }
namespace Rows
def none {H : Type} : Left H := { results := [], args := [] }

/-- 'laws.FnExactTokenOk': WHATEVER THE INPUT: true; the input reads as it did. -/
def fnExactTokenOkSpec : ChangeSpec := { name := "fnExactTokenOk", fn := fun _ => fun
  | [d] => { results := [.lit (.bool true)], args := [d] }
  | _ => none }
def fnExactTokenOkRow : OpenClaim := { program := "ythpiinnmmdaloaa", sum := "69336e4da6e766c1d30d9dbe1313cde98a53eb2890cbca0f0e069d29aa4e428b", func := "loop.example/g00322/laws.FnExactTokenOk", spec := "fnExactTokenOk", apart := false }
def FnExactTokenOkSaid : Prop := fnExactTokenOkRow.holds Try.pinned (OpenSpec.ofChange fnExactTokenOkSpec)

/-- ITS FALSE NEIGHBOUR: 'it returns false'. Refute it at one input. -/
def fnExactTokenOkWrong : ChangeSpec := { name := "fnExactTokenOk", fn := fun _ => fun
  | [d] => { results := [.lit (.bool false)], args := [d] }
  | _ => none }
def FnExactTokenOkWrongFalsely : Prop := fnExactTokenOkRow.holds Try.pinned (OpenSpec.ofChange fnExactTokenOkWrong)

/-- 'laws.FnExactPutPage': WHATEVER THE INPUT: true; the input reads as it did. -/
def fnExactPutPageSpec : ChangeSpec := { name := "fnExactPutPage", fn := fun _ => fun
  | [d1, d2] => { results := [.lit (.bool true)], args := [d1, d2] }
  | _ => none }
def fnExactPutPageRow : OpenClaim := { program := "ythpiinnmmdaloaa", sum := "69336e4da6e766c1d30d9dbe1313cde98a53eb2890cbca0f0e069d29aa4e428b", func := "loop.example/g00322/laws.FnExactPutPage", spec := "fnExactPutPage", apart := false }
def FnExactPutPageSaid : Prop := fnExactPutPageRow.holds Try.pinned (OpenSpec.ofChange fnExactPutPageSpec)

/-- ITS FALSE NEIGHBOUR: 'it returns false'. Refute it at one input. -/
def fnExactPutPageWrong : ChangeSpec := { name := "fnExactPutPage", fn := fun _ => fun
  | [d1, d2] => { results := [.lit (.bool false)], args := [d1, d2] }
  | _ => none }
def FnExactPutPageWrongFalsely : Prop := fnExactPutPageRow.holds Try.pinned (OpenSpec.ofChange fnExactPutPageWrong)

/-- 'laws.FnExactChildOf': WHATEVER THE INPUT: true; the input reads as it did. -/
def fnExactChildOfSpec : ChangeSpec := { name := "fnExactChildOf", fn := fun _ => fun
  | [d1, d2] => { results := [.lit (.bool true)], args := [d1, d2] }
  | _ => none }
def fnExactChildOfRow : OpenClaim := { program := "ythpiinnmmdaloaa", sum := "69336e4da6e766c1d30d9dbe1313cde98a53eb2890cbca0f0e069d29aa4e428b", func := "loop.example/g00322/laws.FnExactChildOf", spec := "fnExactChildOf", apart := false }
def FnExactChildOfSaid : Prop := fnExactChildOfRow.holds Try.pinned (OpenSpec.ofChange fnExactChildOfSpec)

/-- ITS FALSE NEIGHBOUR: 'it returns false'. Refute it at one input. -/
def fnExactChildOfWrong : ChangeSpec := { name := "fnExactChildOf", fn := fun _ => fun
  | [d1, d2] => { results := [.lit (.bool false)], args := [d1, d2] }
  | _ => none }
def FnExactChildOfWrongFalsely : Prop := fnExactChildOfRow.holds Try.pinned (OpenSpec.ofChange fnExactChildOfWrong)

/-- 'laws.FnExactJoinTokens': WHATEVER THE INPUT: true; the input reads as it did. -/
def fnExactJoinTokensSpec : ChangeSpec := { name := "fnExactJoinTokens", fn := fun _ => fun
  | [d] => { results := [.lit (.bool true)], args := [d] }
  | _ => none }
def fnExactJoinTokensRow : OpenClaim := { program := "ythpiinnmmdaloaa", sum := "69336e4da6e766c1d30d9dbe1313cde98a53eb2890cbca0f0e069d29aa4e428b", func := "loop.example/g00322/laws.FnExactJoinTokens", spec := "fnExactJoinTokens", inPlace := ["internal/abi.NoEscape", "internal/bytealg.MakeNoZero"], apart := false }
def FnExactJoinTokensSaid : Prop := fnExactJoinTokensRow.holds Try.pinned (OpenSpec.ofChange fnExactJoinTokensSpec)

/-- ITS FALSE NEIGHBOUR: 'it returns false'. Refute it at one input. -/
def fnExactJoinTokensWrong : ChangeSpec := { name := "fnExactJoinTokens", fn := fun _ => fun
  | [d] => { results := [.lit (.bool false)], args := [d] }
  | _ => none }
def FnExactJoinTokensWrongFalsely : Prop := fnExactJoinTokensRow.holds Try.pinned (OpenSpec.ofChange fnExactJoinTokensWrong)

/-- 'laws.FnPages': WHATEVER THE INPUT: true; the input reads as it did. -/
def fnPagesSpec : ChangeSpec := { name := "fnPages", fn := fun _ => fun
  | [d] => { results := [.lit (.bool true)], args := [d] }
  | _ => none }
def fnPagesRow : OpenClaim := { program := "ythpiinnmmdaloaa", sum := "69336e4da6e766c1d30d9dbe1313cde98a53eb2890cbca0f0e069d29aa4e428b", func := "loop.example/g00322/laws.FnPages", spec := "fnPages", apart := false }
def FnPagesSaid : Prop := fnPagesRow.holds Try.pinned (OpenSpec.ofChange fnPagesSpec)

/-- ITS FALSE NEIGHBOUR: 'it returns false'. Refute it at one input. -/
def fnPagesWrong : ChangeSpec := { name := "fnPages", fn := fun _ => fun
  | [d] => { results := [.lit (.bool false)], args := [d] }
  | _ => none }
def FnPagesWrongFalsely : Prop := fnPagesRow.holds Try.pinned (OpenSpec.ofChange fnPagesWrong)

/-- 'laws.FnExactSameNode': WHATEVER THE INPUT: true; the input reads as it did. -/
def fnExactSameNodeSpec : ChangeSpec := { name := "fnExactSameNode", fn := fun _ => fun
  | [d1, d2] => { results := [.lit (.bool true)], args := [d1, d2] }
  | _ => none }
def fnExactSameNodeRow : OpenClaim := { program := "ythpiinnmmdaloaa", sum := "69336e4da6e766c1d30d9dbe1313cde98a53eb2890cbca0f0e069d29aa4e428b", func := "loop.example/g00322/laws.FnExactSameNode", spec := "fnExactSameNode", apart := false }
def FnExactSameNodeSaid : Prop := fnExactSameNodeRow.holds Try.pinned (OpenSpec.ofChange fnExactSameNodeSpec)

/-- ITS FALSE NEIGHBOUR: 'it returns false'. Refute it at one input. -/
def fnExactSameNodeWrong : ChangeSpec := { name := "fnExactSameNode", fn := fun _ => fun
  | [d1, d2] => { results := [.lit (.bool false)], args := [d1, d2] }
  | _ => none }
def FnExactSameNodeWrongFalsely : Prop := fnExactSameNodeRow.holds Try.pinned (OpenSpec.ofChange fnExactSameNodeWrong)

/-- 'laws.FnExactLex': WHATEVER THE INPUT: true; the input reads as it did. -/
def fnExactLexSpec : ChangeSpec := { name := "fnExactLex", fn := fun _ => fun
  | [d] => { results := [.lit (.bool true)], args := [d] }
  | _ => none }
def fnExactLexRow : OpenClaim := { program := "ythpiinnmmdaloaa", sum := "69336e4da6e766c1d30d9dbe1313cde98a53eb2890cbca0f0e069d29aa4e428b", func := "loop.example/g00322/laws.FnExactLex", spec := "fnExactLex", apart := false }
def FnExactLexSaid : Prop := fnExactLexRow.holds Try.pinned (OpenSpec.ofChange fnExactLexSpec)

/-- ITS FALSE NEIGHBOUR: 'it returns false'. Refute it at one input. -/
def fnExactLexWrong : ChangeSpec := { name := "fnExactLex", fn := fun _ => fun
  | [d] => { results := [.lit (.bool false)], args := [d] }
  | _ => none }
def FnExactLexWrongFalsely : Prop := fnExactLexRow.holds Try.pinned (OpenSpec.ofChange fnExactLexWrong)

/-- 'laws.FnExactSizeOf': WHATEVER THE INPUT: true; the input reads as it did. -/
def fnExactSizeOfSpec : ChangeSpec := { name := "fnExactSizeOf", fn := fun _ => fun
  | [d] => { results := [.lit (.bool true)], args := [d] }
  | _ => none }
def fnExactSizeOfRow : OpenClaim := { program := "ythpiinnmmdaloaa", sum := "69336e4da6e766c1d30d9dbe1313cde98a53eb2890cbca0f0e069d29aa4e428b", func := "loop.example/g00322/laws.FnExactSizeOf", spec := "fnExactSizeOf", apart := false }
def FnExactSizeOfSaid : Prop := fnExactSizeOfRow.holds Try.pinned (OpenSpec.ofChange fnExactSizeOfSpec)

/-- ITS FALSE NEIGHBOUR: 'it returns false'. Refute it at one input. -/
def fnExactSizeOfWrong : ChangeSpec := { name := "fnExactSizeOf", fn := fun _ => fun
  | [d] => { results := [.lit (.bool false)], args := [d] }
  | _ => none }
def FnExactSizeOfWrongFalsely : Prop := fnExactSizeOfRow.holds Try.pinned (OpenSpec.ofChange fnExactSizeOfWrong)

/-- 'laws.FnExactGetPage': WHATEVER THE INPUT: true; the input reads as it did. -/
def fnExactGetPageSpec : ChangeSpec := { name := "fnExactGetPage", fn := fun _ => fun
  | [d] => { results := [.lit (.bool true)], args := [d] }
  | _ => none }
def fnExactGetPageRow : OpenClaim := { program := "ythpiinnmmdaloaa", sum := "69336e4da6e766c1d30d9dbe1313cde98a53eb2890cbca0f0e069d29aa4e428b", func := "loop.example/g00322/laws.FnExactGetPage", spec := "fnExactGetPage", apart := false }
def FnExactGetPageSaid : Prop := fnExactGetPageRow.holds Try.pinned (OpenSpec.ofChange fnExactGetPageSpec)

/-- ITS FALSE NEIGHBOUR: 'it returns false'. Refute it at one input. -/
def fnExactGetPageWrong : ChangeSpec := { name := "fnExactGetPage", fn := fun _ => fun
  | [d] => { results := [.lit (.bool false)], args := [d] }
  | _ => none }
def FnExactGetPageWrongFalsely : Prop := fnExactGetPageRow.holds Try.pinned (OpenSpec.ofChange fnExactGetPageWrong)

/-- 'laws.FnExactRowOk': WHATEVER THE INPUT: true; the input reads as it did. -/
def fnExactRowOkSpec : ChangeSpec := { name := "fnExactRowOk", fn := fun _ => fun
  | [d1, d2] => { results := [.lit (.bool true)], args := [d1, d2] }
  | _ => none }
def fnExactRowOkRow : OpenClaim := { program := "ythpiinnmmdaloaa", sum := "69336e4da6e766c1d30d9dbe1313cde98a53eb2890cbca0f0e069d29aa4e428b", func := "loop.example/g00322/laws.FnExactRowOk", spec := "fnExactRowOk", apart := false }
def FnExactRowOkSaid : Prop := fnExactRowOkRow.holds Try.pinned (OpenSpec.ofChange fnExactRowOkSpec)

/-- ITS FALSE NEIGHBOUR: 'it returns false'. Refute it at one input. -/
def fnExactRowOkWrong : ChangeSpec := { name := "fnExactRowOk", fn := fun _ => fun
  | [d1, d2] => { results := [.lit (.bool false)], args := [d1, d2] }
  | _ => none }
def FnExactRowOkWrongFalsely : Prop := fnExactRowOkRow.holds Try.pinned (OpenSpec.ofChange fnExactRowOkWrong)

/-- 'laws.FnChildren': WHATEVER THE INPUT: true; the input reads as it did. -/
def fnChildrenSpec : ChangeSpec := { name := "fnChildren", fn := fun _ => fun
  | [d] => { results := [.lit (.bool true)], args := [d] }
  | _ => none }
def fnChildrenRow : OpenClaim := { program := "ythpiinnmmdaloaa", sum := "69336e4da6e766c1d30d9dbe1313cde98a53eb2890cbca0f0e069d29aa4e428b", func := "loop.example/g00322/laws.FnChildren", spec := "fnChildren", apart := false }
def FnChildrenSaid : Prop := fnChildrenRow.holds Try.pinned (OpenSpec.ofChange fnChildrenSpec)

/-- ITS FALSE NEIGHBOUR: 'it returns false'. Refute it at one input. -/
def fnChildrenWrong : ChangeSpec := { name := "fnChildren", fn := fun _ => fun
  | [d] => { results := [.lit (.bool false)], args := [d] }
  | _ => none }
def FnChildrenWrongFalsely : Prop := fnChildrenRow.holds Try.pinned (OpenSpec.ofChange fnChildrenWrong)

/-- 'laws.FnExactNodeOk': WHATEVER THE INPUT: true; the input reads as it did. -/
def fnExactNodeOkSpec : ChangeSpec := { name := "fnExactNodeOk", fn := fun _ => fun
  | [d] => { results := [.lit (.bool true)], args := [d] }
  | _ => none }
def fnExactNodeOkRow : OpenClaim := { program := "ythpiinnmmdaloaa", sum := "69336e4da6e766c1d30d9dbe1313cde98a53eb2890cbca0f0e069d29aa4e428b", func := "loop.example/g00322/laws.FnExactNodeOk", spec := "fnExactNodeOk", apart := false }
def FnExactNodeOkSaid : Prop := fnExactNodeOkRow.holds Try.pinned (OpenSpec.ofChange fnExactNodeOkSpec)

/-- ITS FALSE NEIGHBOUR: 'it returns false'. Refute it at one input. -/
def fnExactNodeOkWrong : ChangeSpec := { name := "fnExactNodeOk", fn := fun _ => fun
  | [d] => { results := [.lit (.bool false)], args := [d] }
  | _ => none }
def FnExactNodeOkWrongFalsely : Prop := fnExactNodeOkRow.holds Try.pinned (OpenSpec.ofChange fnExactNodeOkWrong)

/- THE SECOND FORM. 'bulk': how many values and letters a reading holds, each counted each time it is reached (what is shared counts as often as it is met; a slice's spare places count too). A statement '..UptoSaid' is the law's where the arguments, and the package variables that the reading takes, are together of bulk at most 1048576: NARROWER than '..Said'. Prove '..Said' where nothing that the law and all that it calls make is longer than what came in: it says more and counts as full. Else prove '..UptoSaid'. A law counts once. -/
mutual
def uptoBulk {H : Type} : DataW H → Nat
  | .lit (.string bytes) => bytes.length + 1
  | .lit _ => 1
  | .nil => 1
  | .ptr d => uptoBulk d + 1
  | .slice elems spare => uptoBulkAll elems + uptoBulkAll spare + 1
  | .agg parts => uptoBulkAll parts + 1
  | .iface _ d => uptoBulk d + 1
  | .map entries => uptoBulkEntries entries + 1
  | .held _ => 1
def uptoBulkAll {H : Type} : List (DataW H) → Nat
  | [] => 0
  | d :: r => uptoBulk d + uptoBulkAll r
def uptoBulkEntries {H : Type} : List (Lit × DataW H) → Nat
  | [] => 0
  | x :: r => uptoBulkEntry x + uptoBulkEntries r
def uptoBulkEntry {H : Type} : Lit × DataW H → Nat
  | (.string bytes, d) => bytes.length + uptoBulk d + 1
  | (_, d) => uptoBulk d + 1
 end
def uptoSmall : (H : Type) → List (DataW H) → Bool := fun _ ds => decide (uptoBulkAll ds ≤ 1048576)
def OpenSpec.upto (s : _root_.Go.ChangeSpec) : _root_.Go.OpenSpec := { _root_.Go.OpenSpec.ofChange s with cond := some uptoSmall }

/-- 'laws.FnExactTokenOk', WHERE WHAT IT READS IS OF BULK AT MOST 1048576: true; the input reads as it did. -/
def fnExactTokenOkUptoRow : OpenClaim := { program := "ythpiinnmmdaloaa", sum := "69336e4da6e766c1d30d9dbe1313cde98a53eb2890cbca0f0e069d29aa4e428b", func := "loop.example/g00322/laws.FnExactTokenOk", spec := "fnExactTokenOk", apart := false, narrowed := true }
def FnExactTokenOkUptoSaid : Prop := fnExactTokenOkUptoRow.holds Try.pinned (OpenSpec.upto fnExactTokenOkSpec)

/-- 'laws.FnExactPutPage', WHERE WHAT IT READS IS OF BULK AT MOST 1048576: true; the input reads as it did. -/
def fnExactPutPageUptoRow : OpenClaim := { program := "ythpiinnmmdaloaa", sum := "69336e4da6e766c1d30d9dbe1313cde98a53eb2890cbca0f0e069d29aa4e428b", func := "loop.example/g00322/laws.FnExactPutPage", spec := "fnExactPutPage", apart := false, narrowed := true }
def FnExactPutPageUptoSaid : Prop := fnExactPutPageUptoRow.holds Try.pinned (OpenSpec.upto fnExactPutPageSpec)

/-- 'laws.FnExactChildOf', WHERE WHAT IT READS IS OF BULK AT MOST 1048576: true; the input reads as it did. -/
def fnExactChildOfUptoRow : OpenClaim := { program := "ythpiinnmmdaloaa", sum := "69336e4da6e766c1d30d9dbe1313cde98a53eb2890cbca0f0e069d29aa4e428b", func := "loop.example/g00322/laws.FnExactChildOf", spec := "fnExactChildOf", apart := false, narrowed := true }
def FnExactChildOfUptoSaid : Prop := fnExactChildOfUptoRow.holds Try.pinned (OpenSpec.upto fnExactChildOfSpec)

/-- 'laws.FnExactJoinTokens', WHERE WHAT IT READS IS OF BULK AT MOST 1048576: true; the input reads as it did. -/
def fnExactJoinTokensUptoRow : OpenClaim := { program := "ythpiinnmmdaloaa", sum := "69336e4da6e766c1d30d9dbe1313cde98a53eb2890cbca0f0e069d29aa4e428b", func := "loop.example/g00322/laws.FnExactJoinTokens", spec := "fnExactJoinTokens", inPlace := ["internal/abi.NoEscape", "internal/bytealg.MakeNoZero"], apart := false, narrowed := true }
def FnExactJoinTokensUptoSaid : Prop := fnExactJoinTokensUptoRow.holds Try.pinned (OpenSpec.upto fnExactJoinTokensSpec)

/-- 'laws.FnPages', WHERE WHAT IT READS IS OF BULK AT MOST 1048576: true; the input reads as it did. -/
def fnPagesUptoRow : OpenClaim := { program := "ythpiinnmmdaloaa", sum := "69336e4da6e766c1d30d9dbe1313cde98a53eb2890cbca0f0e069d29aa4e428b", func := "loop.example/g00322/laws.FnPages", spec := "fnPages", apart := false, narrowed := true }
def FnPagesUptoSaid : Prop := fnPagesUptoRow.holds Try.pinned (OpenSpec.upto fnPagesSpec)

/-- 'laws.FnExactSameNode', WHERE WHAT IT READS IS OF BULK AT MOST 1048576: true; the input reads as it did. -/
def fnExactSameNodeUptoRow : OpenClaim := { program := "ythpiinnmmdaloaa", sum := "69336e4da6e766c1d30d9dbe1313cde98a53eb2890cbca0f0e069d29aa4e428b", func := "loop.example/g00322/laws.FnExactSameNode", spec := "fnExactSameNode", apart := false, narrowed := true }
def FnExactSameNodeUptoSaid : Prop := fnExactSameNodeUptoRow.holds Try.pinned (OpenSpec.upto fnExactSameNodeSpec)

/-- 'laws.FnExactLex', WHERE WHAT IT READS IS OF BULK AT MOST 1048576: true; the input reads as it did. -/
def fnExactLexUptoRow : OpenClaim := { program := "ythpiinnmmdaloaa", sum := "69336e4da6e766c1d30d9dbe1313cde98a53eb2890cbca0f0e069d29aa4e428b", func := "loop.example/g00322/laws.FnExactLex", spec := "fnExactLex", apart := false, narrowed := true }
def FnExactLexUptoSaid : Prop := fnExactLexUptoRow.holds Try.pinned (OpenSpec.upto fnExactLexSpec)

/-- 'laws.FnExactSizeOf', WHERE WHAT IT READS IS OF BULK AT MOST 1048576: true; the input reads as it did. -/
def fnExactSizeOfUptoRow : OpenClaim := { program := "ythpiinnmmdaloaa", sum := "69336e4da6e766c1d30d9dbe1313cde98a53eb2890cbca0f0e069d29aa4e428b", func := "loop.example/g00322/laws.FnExactSizeOf", spec := "fnExactSizeOf", apart := false, narrowed := true }
def FnExactSizeOfUptoSaid : Prop := fnExactSizeOfUptoRow.holds Try.pinned (OpenSpec.upto fnExactSizeOfSpec)

/-- 'laws.FnExactGetPage', WHERE WHAT IT READS IS OF BULK AT MOST 1048576: true; the input reads as it did. -/
def fnExactGetPageUptoRow : OpenClaim := { program := "ythpiinnmmdaloaa", sum := "69336e4da6e766c1d30d9dbe1313cde98a53eb2890cbca0f0e069d29aa4e428b", func := "loop.example/g00322/laws.FnExactGetPage", spec := "fnExactGetPage", apart := false, narrowed := true }
def FnExactGetPageUptoSaid : Prop := fnExactGetPageUptoRow.holds Try.pinned (OpenSpec.upto fnExactGetPageSpec)

/-- 'laws.FnExactRowOk', WHERE WHAT IT READS IS OF BULK AT MOST 1048576: true; the input reads as it did. -/
def fnExactRowOkUptoRow : OpenClaim := { program := "ythpiinnmmdaloaa", sum := "69336e4da6e766c1d30d9dbe1313cde98a53eb2890cbca0f0e069d29aa4e428b", func := "loop.example/g00322/laws.FnExactRowOk", spec := "fnExactRowOk", apart := false, narrowed := true }
def FnExactRowOkUptoSaid : Prop := fnExactRowOkUptoRow.holds Try.pinned (OpenSpec.upto fnExactRowOkSpec)

/-- 'laws.FnChildren', WHERE WHAT IT READS IS OF BULK AT MOST 1048576: true; the input reads as it did. -/
def fnChildrenUptoRow : OpenClaim := { program := "ythpiinnmmdaloaa", sum := "69336e4da6e766c1d30d9dbe1313cde98a53eb2890cbca0f0e069d29aa4e428b", func := "loop.example/g00322/laws.FnChildren", spec := "fnChildren", apart := false, narrowed := true }
def FnChildrenUptoSaid : Prop := fnChildrenUptoRow.holds Try.pinned (OpenSpec.upto fnChildrenSpec)

/-- 'laws.FnExactNodeOk', WHERE WHAT IT READS IS OF BULK AT MOST 1048576: true; the input reads as it did. -/
def fnExactNodeOkUptoRow : OpenClaim := { program := "ythpiinnmmdaloaa", sum := "69336e4da6e766c1d30d9dbe1313cde98a53eb2890cbca0f0e069d29aa4e428b", func := "loop.example/g00322/laws.FnExactNodeOk", spec := "fnExactNodeOk", apart := false, narrowed := true }
def FnExactNodeOkUptoSaid : Prop := fnExactNodeOkUptoRow.holds Try.pinned (OpenSpec.upto fnExactNodeOkSpec)

end Rows
end Go.Proofs.Ythpiinnmmdaloaa
