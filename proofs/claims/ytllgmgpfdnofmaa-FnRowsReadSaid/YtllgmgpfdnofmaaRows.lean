/-
  No cell of these rows narrows 'for every input' (looked for: loops, veiled, ifaces, maps, wideKeys, modest, calm, conditions, laid).
  DERIVED. THE GIVEN ROWS OF THIS SEAT. 9 by the template 'for every input the law returns true; each argument reads behind the call as it read before'; 0 by the template 'total and deterministic' (their statements: YtllgmgpfdnofmaaTotals.lean).
  GIVEN WITH THE SEED: the statements are not yours to turn. If you find one false, say at which input.
  Laid BY PROGRAM, IN A SANDBOX (cutbox-rows.mjs): the forced cells as the released guide's own fill.sh prints them over the translation 1fdbbe37e82d0860… (all of the seat's roots in one cut). By AI agents, Wed Nov 11 2026. No macro, syntax, notation, axiom, sorry.
-/
import Derived.Test.YtllgmgpfdnofmaaChecked
import GoSem.Claim
import GoSem.ClaimJoined
import GoSem.ClaimMapViews
import Derived.JoinedTies
import Derived.KernelRfl
namespace Go.Proofs.Ytllgmgpfdnofmaa
/- THE CELL 'sum', in the pinned program and in every row, IS THE sha256 OF THE DUMP (.gsa) THAT YtllgmgpfdnofmaaProg.lean LOADS. Nothing in Lean hashes anything: it is a label: what it is worth is what the hold of that sum in a sandbox is worth. -/
noncomputable def Try.pinned : Pinned := { name := "ytllgmgpfdnofmaa", sum := "1fdbbe37e82d0860cc97c5fd791fc0a6c87025bdbdc906f83081d2b7cfd3f101", checked := Try.checked }
namespace Rows
def none {H : Type} : Left H := { results := [], args := [] }

/-- 'laws.FnExactPutNode': WHATEVER THE INPUT: true; the input reads as it did. -/
def fnExactPutNodeSpec : ChangeSpec := { name := "fnExactPutNode", fn := fun _ => fun
  | [d] => { results := [.lit (.bool true)], args := [d] }
  | _ => none }
def fnExactPutNodeRow : OpenClaim := { program := "ytllgmgpfdnofmaa", sum := "1fdbbe37e82d0860cc97c5fd791fc0a6c87025bdbdc906f83081d2b7cfd3f101", func := "loop.example/g00322/laws.FnExactPutNode", spec := "fnExactPutNode", apart := false }
def FnExactPutNodeSaid : Prop := fnExactPutNodeRow.holds Try.pinned (OpenSpec.ofChange fnExactPutNodeSpec)

/-- ITS FALSE NEIGHBOUR: 'it returns false'. Refute it at one input. -/
def fnExactPutNodeWrong : ChangeSpec := { name := "fnExactPutNode", fn := fun _ => fun
  | [d] => { results := [.lit (.bool false)], args := [d] }
  | _ => none }
def FnExactPutNodeWrongFalsely : Prop := fnExactPutNodeRow.holds Try.pinned (OpenSpec.ofChange fnExactPutNodeWrong)

/-- 'laws.FnExactGetNode': WHATEVER THE INPUT: true; the input reads as it did. -/
def fnExactGetNodeSpec : ChangeSpec := { name := "fnExactGetNode", fn := fun _ => fun
  | [d] => { results := [.lit (.bool true)], args := [d] }
  | _ => none }
def fnExactGetNodeRow : OpenClaim := { program := "ytllgmgpfdnofmaa", sum := "1fdbbe37e82d0860cc97c5fd791fc0a6c87025bdbdc906f83081d2b7cfd3f101", func := "loop.example/g00322/laws.FnExactGetNode", spec := "fnExactGetNode", apart := false }
def FnExactGetNodeSaid : Prop := fnExactGetNodeRow.holds Try.pinned (OpenSpec.ofChange fnExactGetNodeSpec)

/-- ITS FALSE NEIGHBOUR: 'it returns false'. Refute it at one input. -/
def fnExactGetNodeWrong : ChangeSpec := { name := "fnExactGetNode", fn := fun _ => fun
  | [d] => { results := [.lit (.bool false)], args := [d] }
  | _ => none }
def FnExactGetNodeWrongFalsely : Prop := fnExactGetNodeRow.holds Try.pinned (OpenSpec.ofChange fnExactGetNodeWrong)

/-- 'laws.FnNodes': WHATEVER THE INPUT: true; the input reads as it did. -/
def fnNodesSpec : ChangeSpec := { name := "fnNodes", fn := fun _ => fun
  | [d] => { results := [.lit (.bool true)], args := [d] }
  | _ => none }
def fnNodesRow : OpenClaim := { program := "ytllgmgpfdnofmaa", sum := "1fdbbe37e82d0860cc97c5fd791fc0a6c87025bdbdc906f83081d2b7cfd3f101", func := "loop.example/g00322/laws.FnNodes", spec := "fnNodes", apart := false }
def FnNodesSaid : Prop := fnNodesRow.holds Try.pinned (OpenSpec.ofChange fnNodesSpec)

/-- ITS FALSE NEIGHBOUR: 'it returns false'. Refute it at one input. -/
def fnNodesWrong : ChangeSpec := { name := "fnNodes", fn := fun _ => fun
  | [d] => { results := [.lit (.bool false)], args := [d] }
  | _ => none }
def FnNodesWrongFalsely : Prop := fnNodesRow.holds Try.pinned (OpenSpec.ofChange fnNodesWrong)

/-- 'laws.FnExactEncodeRow': WHATEVER THE INPUT: true; the input reads as it did. -/
def fnExactEncodeRowSpec : ChangeSpec := { name := "fnExactEncodeRow", fn := fun _ => fun
  | [d1, d2] => { results := [.lit (.bool true)], args := [d1, d2] }
  | _ => none }
def fnExactEncodeRowRow : OpenClaim := { program := "ytllgmgpfdnofmaa", sum := "1fdbbe37e82d0860cc97c5fd791fc0a6c87025bdbdc906f83081d2b7cfd3f101", func := "loop.example/g00322/laws.FnExactEncodeRow", spec := "fnExactEncodeRow", apart := false }
def FnExactEncodeRowSaid : Prop := fnExactEncodeRowRow.holds Try.pinned (OpenSpec.ofChange fnExactEncodeRowSpec)

/-- ITS FALSE NEIGHBOUR: 'it returns false'. Refute it at one input. -/
def fnExactEncodeRowWrong : ChangeSpec := { name := "fnExactEncodeRow", fn := fun _ => fun
  | [d1, d2] => { results := [.lit (.bool false)], args := [d1, d2] }
  | _ => none }
def FnExactEncodeRowWrongFalsely : Prop := fnExactEncodeRowRow.holds Try.pinned (OpenSpec.ofChange fnExactEncodeRowWrong)

/-- 'laws.FnRowBytes': WHATEVER THE INPUT: true; the input reads as it did. -/
def fnRowBytesSpec : ChangeSpec := { name := "fnRowBytes", fn := fun _ => fun
  | [d] => { results := [.lit (.bool true)], args := [d] }
  | _ => none }
def fnRowBytesRow : OpenClaim := { program := "ytllgmgpfdnofmaa", sum := "1fdbbe37e82d0860cc97c5fd791fc0a6c87025bdbdc906f83081d2b7cfd3f101", func := "loop.example/g00322/laws.FnRowBytes", spec := "fnRowBytes", apart := false }
def FnRowBytesSaid : Prop := fnRowBytesRow.holds Try.pinned (OpenSpec.ofChange fnRowBytesSpec)

/-- ITS FALSE NEIGHBOUR: 'it returns false'. Refute it at one input. -/
def fnRowBytesWrong : ChangeSpec := { name := "fnRowBytes", fn := fun _ => fun
  | [d] => { results := [.lit (.bool false)], args := [d] }
  | _ => none }
def FnRowBytesWrongFalsely : Prop := fnRowBytesRow.holds Try.pinned (OpenSpec.ofChange fnRowBytesWrong)

/-- 'laws.FnExactDecodeRow': WHATEVER THE INPUT: true; the input reads as it did. -/
def fnExactDecodeRowSpec : ChangeSpec := { name := "fnExactDecodeRow", fn := fun _ => fun
  | [d1, d2] => { results := [.lit (.bool true)], args := [d1, d2] }
  | _ => none }
def fnExactDecodeRowRow : OpenClaim := { program := "ytllgmgpfdnofmaa", sum := "1fdbbe37e82d0860cc97c5fd791fc0a6c87025bdbdc906f83081d2b7cfd3f101", func := "loop.example/g00322/laws.FnExactDecodeRow", spec := "fnExactDecodeRow", apart := false }
def FnExactDecodeRowSaid : Prop := fnExactDecodeRowRow.holds Try.pinned (OpenSpec.ofChange fnExactDecodeRowSpec)

/-- ITS FALSE NEIGHBOUR: 'it returns false'. Refute it at one input. -/
def fnExactDecodeRowWrong : ChangeSpec := { name := "fnExactDecodeRow", fn := fun _ => fun
  | [d1, d2] => { results := [.lit (.bool false)], args := [d1, d2] }
  | _ => none }
def FnExactDecodeRowWrongFalsely : Prop := fnExactDecodeRowRow.holds Try.pinned (OpenSpec.ofChange fnExactDecodeRowWrong)

/-- 'laws.FnRowsRead': WHATEVER THE INPUT: true; the input reads as it did. -/
def fnRowsReadSpec : ChangeSpec := { name := "fnRowsRead", fn := fun _ => fun
  | [d] => { results := [.lit (.bool true)], args := [d] }
  | _ => none }
def fnRowsReadRow : OpenClaim := { program := "ytllgmgpfdnofmaa", sum := "1fdbbe37e82d0860cc97c5fd791fc0a6c87025bdbdc906f83081d2b7cfd3f101", func := "loop.example/g00322/laws.FnRowsRead", spec := "fnRowsRead", apart := false }
def FnRowsReadSaid : Prop := fnRowsReadRow.holds Try.pinned (OpenSpec.ofChange fnRowsReadSpec)

/-- ITS FALSE NEIGHBOUR: 'it returns false'. Refute it at one input. -/
def fnRowsReadWrong : ChangeSpec := { name := "fnRowsRead", fn := fun _ => fun
  | [d] => { results := [.lit (.bool false)], args := [d] }
  | _ => none }
def FnRowsReadWrongFalsely : Prop := fnRowsReadRow.holds Try.pinned (OpenSpec.ofChange fnRowsReadWrong)

/-- 'laws.FnLexed': WHATEVER THE INPUT: true; the input reads as it did. -/
def fnLexedSpec : ChangeSpec := { name := "fnLexed", fn := fun _ => fun
  | [d] => { results := [.lit (.bool true)], args := [d] }
  | _ => none }
def fnLexedRow : OpenClaim := { program := "ytllgmgpfdnofmaa", sum := "1fdbbe37e82d0860cc97c5fd791fc0a6c87025bdbdc906f83081d2b7cfd3f101", func := "loop.example/g00322/laws.FnLexed", spec := "fnLexed", inPlace := ["internal/abi.NoEscape", "internal/bytealg.MakeNoZero"], apart := false }
def FnLexedSaid : Prop := fnLexedRow.holds Try.pinned (OpenSpec.ofChange fnLexedSpec)

/-- ITS FALSE NEIGHBOUR: 'it returns false'. Refute it at one input. -/
def fnLexedWrong : ChangeSpec := { name := "fnLexed", fn := fun _ => fun
  | [d] => { results := [.lit (.bool false)], args := [d] }
  | _ => none }
def FnLexedWrongFalsely : Prop := fnLexedRow.holds Try.pinned (OpenSpec.ofChange fnLexedWrong)

/-- 'laws.FnExactSameDef': WHATEVER THE INPUT: true; the input reads as it did. -/
def fnExactSameDefSpec : ChangeSpec := { name := "fnExactSameDef", fn := fun _ => fun
  | [d1, d2] => { results := [.lit (.bool true)], args := [d1, d2] }
  | _ => none }
def fnExactSameDefRow : OpenClaim := { program := "ytllgmgpfdnofmaa", sum := "1fdbbe37e82d0860cc97c5fd791fc0a6c87025bdbdc906f83081d2b7cfd3f101", func := "loop.example/g00322/laws.FnExactSameDef", spec := "fnExactSameDef", apart := false }
def FnExactSameDefSaid : Prop := fnExactSameDefRow.holds Try.pinned (OpenSpec.ofChange fnExactSameDefSpec)

/-- ITS FALSE NEIGHBOUR: 'it returns false'. Refute it at one input. -/
def fnExactSameDefWrong : ChangeSpec := { name := "fnExactSameDef", fn := fun _ => fun
  | [d1, d2] => { results := [.lit (.bool false)], args := [d1, d2] }
  | _ => none }
def FnExactSameDefWrongFalsely : Prop := fnExactSameDefRow.holds Try.pinned (OpenSpec.ofChange fnExactSameDefWrong)

/- THE SECOND FORM. 'bulk': how many values and letters a reading holds, each counted each time it is reached (what is shared counts as often as it is met; a slice's spare places count too). A statement '..UptoSaid' is the law's where the arguments, and the package variables that the reading takes, are together of bulk at most 1048576: NARROWER than '..Said'. Prove '..Said' where nothing that the law and all that it calls make is longer than what came in: it says more and counts as full. Else prove '..UptoSaid'. A law counts once. -/
mutual
def uptoBulk {H : Type} : DataW H → Nat
  | .lit (.string bytes) => bytes.length + 1
  | .lit _ => 1
  | .nil => 1
  | .ptr d => uptoBulk d + 1
  | .slice elems spare => uptoBulkAll elems + uptoBulkAll spare + 1
  | .agg parts => uptoBulkAll parts + 1
  | .iface _ d => uptoBulk d + 1
  | .map entries => uptoBulkEntries entries + 1
  | .held _ => 1
def uptoBulkAll {H : Type} : List (DataW H) → Nat
  | [] => 0
  | d :: r => uptoBulk d + uptoBulkAll r
def uptoBulkEntries {H : Type} : List (Lit × DataW H) → Nat
  | [] => 0
  | x :: r => uptoBulkEntry x + uptoBulkEntries r
def uptoBulkEntry {H : Type} : Lit × DataW H → Nat
  | (.string bytes, d) => bytes.length + uptoBulk d + 1
  | (_, d) => uptoBulk d + 1
 end
def uptoSmall : (H : Type) → List (DataW H) → Bool := fun _ ds => decide (uptoBulkAll ds ≤ 1048576)
def OpenSpec.upto (s : _root_.Go.ChangeSpec) : _root_.Go.OpenSpec := { _root_.Go.OpenSpec.ofChange s with cond := some uptoSmall }

/-- 'laws.FnExactPutNode', WHERE WHAT IT READS IS OF BULK AT MOST 1048576: true; the input reads as it did. -/
def fnExactPutNodeUptoRow : OpenClaim := { program := "ytllgmgpfdnofmaa", sum := "1fdbbe37e82d0860cc97c5fd791fc0a6c87025bdbdc906f83081d2b7cfd3f101", func := "loop.example/g00322/laws.FnExactPutNode", spec := "fnExactPutNode", apart := false, narrowed := true }
def FnExactPutNodeUptoSaid : Prop := fnExactPutNodeUptoRow.holds Try.pinned (OpenSpec.upto fnExactPutNodeSpec)

/-- 'laws.FnExactGetNode', WHERE WHAT IT READS IS OF BULK AT MOST 1048576: true; the input reads as it did. -/
def fnExactGetNodeUptoRow : OpenClaim := { program := "ytllgmgpfdnofmaa", sum := "1fdbbe37e82d0860cc97c5fd791fc0a6c87025bdbdc906f83081d2b7cfd3f101", func := "loop.example/g00322/laws.FnExactGetNode", spec := "fnExactGetNode", apart := false, narrowed := true }
def FnExactGetNodeUptoSaid : Prop := fnExactGetNodeUptoRow.holds Try.pinned (OpenSpec.upto fnExactGetNodeSpec)

/-- 'laws.FnNodes', WHERE WHAT IT READS IS OF BULK AT MOST 1048576: true; the input reads as it did. -/
def fnNodesUptoRow : OpenClaim := { program := "ytllgmgpfdnofmaa", sum := "1fdbbe37e82d0860cc97c5fd791fc0a6c87025bdbdc906f83081d2b7cfd3f101", func := "loop.example/g00322/laws.FnNodes", spec := "fnNodes", apart := false, narrowed := true }
def FnNodesUptoSaid : Prop := fnNodesUptoRow.holds Try.pinned (OpenSpec.upto fnNodesSpec)

/-- 'laws.FnExactEncodeRow', WHERE WHAT IT READS IS OF BULK AT MOST 1048576: true; the input reads as it did. -/
def fnExactEncodeRowUptoRow : OpenClaim := { program := "ytllgmgpfdnofmaa", sum := "1fdbbe37e82d0860cc97c5fd791fc0a6c87025bdbdc906f83081d2b7cfd3f101", func := "loop.example/g00322/laws.FnExactEncodeRow", spec := "fnExactEncodeRow", apart := false, narrowed := true }
def FnExactEncodeRowUptoSaid : Prop := fnExactEncodeRowUptoRow.holds Try.pinned (OpenSpec.upto fnExactEncodeRowSpec)

/-- 'laws.FnRowBytes', WHERE WHAT IT READS IS OF BULK AT MOST 1048576: true; the input reads as it did. -/
def fnRowBytesUptoRow : OpenClaim := { program := "ytllgmgpfdnofmaa", sum := "1fdbbe37e82d0860cc97c5fd791fc0a6c87025bdbdc906f83081d2b7cfd3f101", func := "loop.example/g00322/laws.FnRowBytes", spec := "fnRowBytes", apart := false, narrowed := true }
def FnRowBytesUptoSaid : Prop := fnRowBytesUptoRow.holds Try.pinned (OpenSpec.upto fnRowBytesSpec)

/-- 'laws.FnExactDecodeRow', WHERE WHAT IT READS IS OF BULK AT MOST 1048576: true; the input reads as it did. -/
def fnExactDecodeRowUptoRow : OpenClaim := { program := "ytllgmgpfdnofmaa", sum := "1fdbbe37e82d0860cc97c5fd791fc0a6c87025bdbdc906f83081d2b7cfd3f101", func := "loop.example/g00322/laws.FnExactDecodeRow", spec := "fnExactDecodeRow", apart := false, narrowed := true }
def FnExactDecodeRowUptoSaid : Prop := fnExactDecodeRowUptoRow.holds Try.pinned (OpenSpec.upto fnExactDecodeRowSpec)

/-- 'laws.FnRowsRead', WHERE WHAT IT READS IS OF BULK AT MOST 1048576: true; the input reads as it did. -/
def fnRowsReadUptoRow : OpenClaim := { program := "ytllgmgpfdnofmaa", sum := "1fdbbe37e82d0860cc97c5fd791fc0a6c87025bdbdc906f83081d2b7cfd3f101", func := "loop.example/g00322/laws.FnRowsRead", spec := "fnRowsRead", apart := false, narrowed := true }
def FnRowsReadUptoSaid : Prop := fnRowsReadUptoRow.holds Try.pinned (OpenSpec.upto fnRowsReadSpec)

/-- 'laws.FnLexed', WHERE WHAT IT READS IS OF BULK AT MOST 1048576: true; the input reads as it did. -/
def fnLexedUptoRow : OpenClaim := { program := "ytllgmgpfdnofmaa", sum := "1fdbbe37e82d0860cc97c5fd791fc0a6c87025bdbdc906f83081d2b7cfd3f101", func := "loop.example/g00322/laws.FnLexed", spec := "fnLexed", inPlace := ["internal/abi.NoEscape", "internal/bytealg.MakeNoZero"], apart := false, narrowed := true }
def FnLexedUptoSaid : Prop := fnLexedUptoRow.holds Try.pinned (OpenSpec.upto fnLexedSpec)

/-- 'laws.FnExactSameDef', WHERE WHAT IT READS IS OF BULK AT MOST 1048576: true; the input reads as it did. -/
def fnExactSameDefUptoRow : OpenClaim := { program := "ytllgmgpfdnofmaa", sum := "1fdbbe37e82d0860cc97c5fd791fc0a6c87025bdbdc906f83081d2b7cfd3f101", func := "loop.example/g00322/laws.FnExactSameDef", spec := "fnExactSameDef", apart := false, narrowed := true }
def FnExactSameDefUptoSaid : Prop := fnExactSameDefUptoRow.holds Try.pinned (OpenSpec.upto fnExactSameDefSpec)

end Rows
end Go.Proofs.Ytllgmgpfdnofmaa
