/-
  No cell of these rows narrows 'for every input' (looked for: loops, veiled, ifaces, maps, wideKeys, modest, calm, conditions, laid).
  DERIVED. THE GIVEN ROWS OF THIS SEAT. 11 by the template 'for every input the law returns true; each argument reads behind the call as it read before'; 0 by the template 'total and deterministic' (their statements: YticedidmodmdnaaTotals.lean).
  GIVEN WITH THE SEED: the statements are not yours to turn. If you find one false, say at which input.
  Laid BY PROGRAM, IN A SANDBOX (cutbox-rows.mjs): the forced cells as the released guide's own fill.sh prints them over the translation 2c4aaaedf2543c73… (all of the seat's roots in one cut). By AI agents, Wed Nov 11 2026. No macro, syntax, notation, axiom, sorry.
-/
import Derived.Test.YticedidmodmdnaaChecked
import GoSem.Claim
import GoSem.ClaimJoined
import GoSem.ClaimMapViews
import Derived.JoinedTies
import Derived.KernelRfl
namespace Go.Proofs.Yticedidmodmdnaa
/- THE CELL 'sum', in the pinned program and in every row, IS THE sha256 OF THE DUMP (.gsa) THAT YticedidmodmdnaaProg.lean LOADS. Nothing in Lean hashes anything: it is a label: what it is worth is what the hold of that sum in a sandbox is worth. -/
noncomputable def Try.pinned : Pinned := { name := "yticedidmodmdnaa", sum := "2c4aaaedf2543c73890f0ac19431ad816d3bbe3462875da7600042b5b670befa", checked := Try.checked }
namespace Rows
def none {H : Type} : Left H := { results := [], args := [] }

/-- 'laws.FnExactDiskOk': WHATEVER THE INPUT: true; the input reads as it did. -/
def fnExactDiskOkSpec : ChangeSpec := { name := "fnExactDiskOk", fn := fun _ => fun
  | [d] => { results := [.lit (.bool true)], args := [d] }
  | _ => none }
def fnExactDiskOkRow : OpenClaim := { program := "yticedidmodmdnaa", sum := "2c4aaaedf2543c73890f0ac19431ad816d3bbe3462875da7600042b5b670befa", func := "loop.example/g00322/laws.FnExactDiskOk", spec := "fnExactDiskOk", apart := false }
def FnExactDiskOkSaid : Prop := fnExactDiskOkRow.holds Try.pinned (OpenSpec.ofChange fnExactDiskOkSpec)

/-- ITS FALSE NEIGHBOUR: 'it returns false'. Refute it at one input. -/
def fnExactDiskOkWrong : ChangeSpec := { name := "fnExactDiskOk", fn := fun _ => fun
  | [d] => { results := [.lit (.bool false)], args := [d] }
  | _ => none }
def FnExactDiskOkWrongFalsely : Prop := fnExactDiskOkRow.holds Try.pinned (OpenSpec.ofChange fnExactDiskOkWrong)

/-- 'laws.FnExactDiskNew': WHATEVER THE INPUT: true; the input reads as it did. -/
def fnExactDiskNewSpec : ChangeSpec := { name := "fnExactDiskNew", fn := fun _ => fun
  | [d1, d2] => { results := [.lit (.bool true)], args := [d1, d2] }
  | _ => none }
def fnExactDiskNewRow : OpenClaim := { program := "yticedidmodmdnaa", sum := "2c4aaaedf2543c73890f0ac19431ad816d3bbe3462875da7600042b5b670befa", func := "loop.example/g00322/laws.FnExactDiskNew", spec := "fnExactDiskNew", apart := false }
def FnExactDiskNewSaid : Prop := fnExactDiskNewRow.holds Try.pinned (OpenSpec.ofChange fnExactDiskNewSpec)

/-- ITS FALSE NEIGHBOUR: 'it returns false'. Refute it at one input. -/
def fnExactDiskNewWrong : ChangeSpec := { name := "fnExactDiskNew", fn := fun _ => fun
  | [d1, d2] => { results := [.lit (.bool false)], args := [d1, d2] }
  | _ => none }
def FnExactDiskNewWrongFalsely : Prop := fnExactDiskNewRow.holds Try.pinned (OpenSpec.ofChange fnExactDiskNewWrong)

/-- 'laws.FnExactReadSec': WHATEVER THE INPUT: true; the input reads as it did. -/
def fnExactReadSecSpec : ChangeSpec := { name := "fnExactReadSec", fn := fun _ => fun
  | [d1, d2] => { results := [.lit (.bool true)], args := [d1, d2] }
  | _ => none }
def fnExactReadSecRow : OpenClaim := { program := "yticedidmodmdnaa", sum := "2c4aaaedf2543c73890f0ac19431ad816d3bbe3462875da7600042b5b670befa", func := "loop.example/g00322/laws.FnExactReadSec", spec := "fnExactReadSec", apart := false }
def FnExactReadSecSaid : Prop := fnExactReadSecRow.holds Try.pinned (OpenSpec.ofChange fnExactReadSecSpec)

/-- ITS FALSE NEIGHBOUR: 'it returns false'. Refute it at one input. -/
def fnExactReadSecWrong : ChangeSpec := { name := "fnExactReadSec", fn := fun _ => fun
  | [d1, d2] => { results := [.lit (.bool false)], args := [d1, d2] }
  | _ => none }
def FnExactReadSecWrongFalsely : Prop := fnExactReadSecRow.holds Try.pinned (OpenSpec.ofChange fnExactReadSecWrong)

/-- 'laws.FnNewDisks': WHATEVER THE INPUT: true; the input reads as it did. -/
def fnNewDisksSpec : ChangeSpec := { name := "fnNewDisks", fn := fun _ => fun
  | [d] => { results := [.lit (.bool true)], args := [d] }
  | _ => none }
def fnNewDisksRow : OpenClaim := { program := "yticedidmodmdnaa", sum := "2c4aaaedf2543c73890f0ac19431ad816d3bbe3462875da7600042b5b670befa", func := "loop.example/g00322/laws.FnNewDisks", spec := "fnNewDisks", apart := false }
def FnNewDisksSaid : Prop := fnNewDisksRow.holds Try.pinned (OpenSpec.ofChange fnNewDisksSpec)

/-- ITS FALSE NEIGHBOUR: 'it returns false'. Refute it at one input. -/
def fnNewDisksWrong : ChangeSpec := { name := "fnNewDisks", fn := fun _ => fun
  | [d] => { results := [.lit (.bool false)], args := [d] }
  | _ => none }
def FnNewDisksWrongFalsely : Prop := fnNewDisksRow.holds Try.pinned (OpenSpec.ofChange fnNewDisksWrong)

/-- 'laws.FnExactTurnOn': WHATEVER THE INPUT: true; the input reads as it did. -/
def fnExactTurnOnSpec : ChangeSpec := { name := "fnExactTurnOn", fn := fun _ => fun
  | [d] => { results := [.lit (.bool true)], args := [d] }
  | _ => none }
def fnExactTurnOnRow : OpenClaim := { program := "yticedidmodmdnaa", sum := "2c4aaaedf2543c73890f0ac19431ad816d3bbe3462875da7600042b5b670befa", func := "loop.example/g00322/laws.FnExactTurnOn", spec := "fnExactTurnOn", apart := false }
def FnExactTurnOnSaid : Prop := fnExactTurnOnRow.holds Try.pinned (OpenSpec.ofChange fnExactTurnOnSpec)

/-- ITS FALSE NEIGHBOUR: 'it returns false'. Refute it at one input. -/
def fnExactTurnOnWrong : ChangeSpec := { name := "fnExactTurnOn", fn := fun _ => fun
  | [d] => { results := [.lit (.bool false)], args := [d] }
  | _ => none }
def FnExactTurnOnWrongFalsely : Prop := fnExactTurnOnRow.holds Try.pinned (OpenSpec.ofChange fnExactTurnOnWrong)

/-- 'laws.FnFlushed': WHATEVER THE INPUT: true; the input reads as it did. -/
def fnFlushedSpec : ChangeSpec := { name := "fnFlushed", fn := fun _ => fun
  | [d] => { results := [.lit (.bool true)], args := [d] }
  | _ => none }
def fnFlushedRow : OpenClaim := { program := "yticedidmodmdnaa", sum := "2c4aaaedf2543c73890f0ac19431ad816d3bbe3462875da7600042b5b670befa", func := "loop.example/g00322/laws.FnFlushed", spec := "fnFlushed", apart := false }
def FnFlushedSaid : Prop := fnFlushedRow.holds Try.pinned (OpenSpec.ofChange fnFlushedSpec)

/-- ITS FALSE NEIGHBOUR: 'it returns false'. Refute it at one input. -/
def fnFlushedWrong : ChangeSpec := { name := "fnFlushed", fn := fun _ => fun
  | [d] => { results := [.lit (.bool false)], args := [d] }
  | _ => none }
def FnFlushedWrongFalsely : Prop := fnFlushedRow.holds Try.pinned (OpenSpec.ofChange fnFlushedWrong)

/-- 'laws.FnDisks': WHATEVER THE INPUT: true; the input reads as it did. -/
def fnDisksSpec : ChangeSpec := { name := "fnDisks", fn := fun _ => fun
  | [d] => { results := [.lit (.bool true)], args := [d] }
  | _ => none }
def fnDisksRow : OpenClaim := { program := "yticedidmodmdnaa", sum := "2c4aaaedf2543c73890f0ac19431ad816d3bbe3462875da7600042b5b670befa", func := "loop.example/g00322/laws.FnDisks", spec := "fnDisks", apart := false }
def FnDisksSaid : Prop := fnDisksRow.holds Try.pinned (OpenSpec.ofChange fnDisksSpec)

/-- ITS FALSE NEIGHBOUR: 'it returns false'. Refute it at one input. -/
def fnDisksWrong : ChangeSpec := { name := "fnDisks", fn := fun _ => fun
  | [d] => { results := [.lit (.bool false)], args := [d] }
  | _ => none }
def FnDisksWrongFalsely : Prop := fnDisksRow.holds Try.pinned (OpenSpec.ofChange fnDisksWrong)

/-- 'laws.FnPagesRead': WHATEVER THE INPUT: true; the input reads as it did. -/
def fnPagesReadSpec : ChangeSpec := { name := "fnPagesRead", fn := fun _ => fun
  | [d] => { results := [.lit (.bool true)], args := [d] }
  | _ => none }
def fnPagesReadRow : OpenClaim := { program := "yticedidmodmdnaa", sum := "2c4aaaedf2543c73890f0ac19431ad816d3bbe3462875da7600042b5b670befa", func := "loop.example/g00322/laws.FnPagesRead", spec := "fnPagesRead", apart := false }
def FnPagesReadSaid : Prop := fnPagesReadRow.holds Try.pinned (OpenSpec.ofChange fnPagesReadSpec)

/-- ITS FALSE NEIGHBOUR: 'it returns false'. Refute it at one input. -/
def fnPagesReadWrong : ChangeSpec := { name := "fnPagesRead", fn := fun _ => fun
  | [d] => { results := [.lit (.bool false)], args := [d] }
  | _ => none }
def FnPagesReadWrongFalsely : Prop := fnPagesReadRow.holds Try.pinned (OpenSpec.ofChange fnPagesReadWrong)

/-- 'laws.FnExactPageAt': WHATEVER THE INPUT: true; the input reads as it did. -/
def fnExactPageAtSpec : ChangeSpec := { name := "fnExactPageAt", fn := fun _ => fun
  | [d1, d2, d3] => { results := [.lit (.bool true)], args := [d1, d2, d3] }
  | _ => none }
def fnExactPageAtRow : OpenClaim := { program := "yticedidmodmdnaa", sum := "2c4aaaedf2543c73890f0ac19431ad816d3bbe3462875da7600042b5b670befa", func := "loop.example/g00322/laws.FnExactPageAt", spec := "fnExactPageAt", apart := false }
def FnExactPageAtSaid : Prop := fnExactPageAtRow.holds Try.pinned (OpenSpec.ofChange fnExactPageAtSpec)

/-- ITS FALSE NEIGHBOUR: 'it returns false'. Refute it at one input. -/
def fnExactPageAtWrong : ChangeSpec := { name := "fnExactPageAt", fn := fun _ => fun
  | [d1, d2, d3] => { results := [.lit (.bool false)], args := [d1, d2, d3] }
  | _ => none }
def FnExactPageAtWrongFalsely : Prop := fnExactPageAtRow.holds Try.pinned (OpenSpec.ofChange fnExactPageAtWrong)

/-- 'laws.FnExactWriteSec': WHATEVER THE INPUT: true; the input reads as it did. -/
def fnExactWriteSecSpec : ChangeSpec := { name := "fnExactWriteSec", fn := fun _ => fun
  | [d1, d2, d3] => { results := [.lit (.bool true)], args := [d1, d2, d3] }
  | _ => none }
def fnExactWriteSecRow : OpenClaim := { program := "yticedidmodmdnaa", sum := "2c4aaaedf2543c73890f0ac19431ad816d3bbe3462875da7600042b5b670befa", func := "loop.example/g00322/laws.FnExactWriteSec", spec := "fnExactWriteSec", apart := false }
def FnExactWriteSecSaid : Prop := fnExactWriteSecRow.holds Try.pinned (OpenSpec.ofChange fnExactWriteSecSpec)

/-- ITS FALSE NEIGHBOUR: 'it returns false'. Refute it at one input. -/
def fnExactWriteSecWrong : ChangeSpec := { name := "fnExactWriteSec", fn := fun _ => fun
  | [d1, d2, d3] => { results := [.lit (.bool false)], args := [d1, d2, d3] }
  | _ => none }
def FnExactWriteSecWrongFalsely : Prop := fnExactWriteSecRow.holds Try.pinned (OpenSpec.ofChange fnExactWriteSecWrong)

/-- 'laws.FnExactFlush': WHATEVER THE INPUT: true; the input reads as it did. -/
def fnExactFlushSpec : ChangeSpec := { name := "fnExactFlush", fn := fun _ => fun
  | [d] => { results := [.lit (.bool true)], args := [d] }
  | _ => none }
def fnExactFlushRow : OpenClaim := { program := "yticedidmodmdnaa", sum := "2c4aaaedf2543c73890f0ac19431ad816d3bbe3462875da7600042b5b670befa", func := "loop.example/g00322/laws.FnExactFlush", spec := "fnExactFlush", apart := false }
def FnExactFlushSaid : Prop := fnExactFlushRow.holds Try.pinned (OpenSpec.ofChange fnExactFlushSpec)

/-- ITS FALSE NEIGHBOUR: 'it returns false'. Refute it at one input. -/
def fnExactFlushWrong : ChangeSpec := { name := "fnExactFlush", fn := fun _ => fun
  | [d] => { results := [.lit (.bool false)], args := [d] }
  | _ => none }
def FnExactFlushWrongFalsely : Prop := fnExactFlushRow.holds Try.pinned (OpenSpec.ofChange fnExactFlushWrong)

/- THE SECOND FORM. 'bulk': how many values and letters a reading holds, each counted each time it is reached (what is shared counts as often as it is met; a slice's spare places count too). A statement '..UptoSaid' is the law's where the arguments, and the package variables that the reading takes, are together of bulk at most 1048576: NARROWER than '..Said'. Prove '..Said' where nothing that the law and all that it calls make is longer than what came in: it says more and counts as full. Else prove '..UptoSaid'. A law counts once. -/
mutual
def uptoBulk {H : Type} : DataW H → Nat
  | .lit (.string bytes) => bytes.length + 1
  | .lit _ => 1
  | .nil => 1
  | .ptr d => uptoBulk d + 1
  | .slice elems spare => uptoBulkAll elems + uptoBulkAll spare + 1
  | .agg parts => uptoBulkAll parts + 1
  | .iface _ d => uptoBulk d + 1
  | .map entries => uptoBulkEntries entries + 1
  | .held _ => 1
def uptoBulkAll {H : Type} : List (DataW H) → Nat
  | [] => 0
  | d :: r => uptoBulk d + uptoBulkAll r
def uptoBulkEntries {H : Type} : List (Lit × DataW H) → Nat
  | [] => 0
  | x :: r => uptoBulkEntry x + uptoBulkEntries r
def uptoBulkEntry {H : Type} : Lit × DataW H → Nat
  | (.string bytes, d) => bytes.length + uptoBulk d + 1
  | (_, d) => uptoBulk d + 1
 end
def uptoSmall : (H : Type) → List (DataW H) → Bool := fun _ ds => decide (uptoBulkAll ds ≤ 1048576)
def OpenSpec.upto (s : _root_.Go.ChangeSpec) : _root_.Go.OpenSpec := { _root_.Go.OpenSpec.ofChange s with cond := some uptoSmall }

/-- 'laws.FnExactDiskOk', WHERE WHAT IT READS IS OF BULK AT MOST 1048576: true; the input reads as it did. -/
def fnExactDiskOkUptoRow : OpenClaim := { program := "yticedidmodmdnaa", sum := "2c4aaaedf2543c73890f0ac19431ad816d3bbe3462875da7600042b5b670befa", func := "loop.example/g00322/laws.FnExactDiskOk", spec := "fnExactDiskOk", apart := false, narrowed := true }
def FnExactDiskOkUptoSaid : Prop := fnExactDiskOkUptoRow.holds Try.pinned (OpenSpec.upto fnExactDiskOkSpec)

/-- 'laws.FnExactDiskNew', WHERE WHAT IT READS IS OF BULK AT MOST 1048576: true; the input reads as it did. -/
def fnExactDiskNewUptoRow : OpenClaim := { program := "yticedidmodmdnaa", sum := "2c4aaaedf2543c73890f0ac19431ad816d3bbe3462875da7600042b5b670befa", func := "loop.example/g00322/laws.FnExactDiskNew", spec := "fnExactDiskNew", apart := false, narrowed := true }
def FnExactDiskNewUptoSaid : Prop := fnExactDiskNewUptoRow.holds Try.pinned (OpenSpec.upto fnExactDiskNewSpec)

/-- 'laws.FnExactReadSec', WHERE WHAT IT READS IS OF BULK AT MOST 1048576: true; the input reads as it did. -/
def fnExactReadSecUptoRow : OpenClaim := { program := "yticedidmodmdnaa", sum := "2c4aaaedf2543c73890f0ac19431ad816d3bbe3462875da7600042b5b670befa", func := "loop.example/g00322/laws.FnExactReadSec", spec := "fnExactReadSec", apart := false, narrowed := true }
def FnExactReadSecUptoSaid : Prop := fnExactReadSecUptoRow.holds Try.pinned (OpenSpec.upto fnExactReadSecSpec)

/-- 'laws.FnNewDisks', WHERE WHAT IT READS IS OF BULK AT MOST 1048576: true; the input reads as it did. -/
def fnNewDisksUptoRow : OpenClaim := { program := "yticedidmodmdnaa", sum := "2c4aaaedf2543c73890f0ac19431ad816d3bbe3462875da7600042b5b670befa", func := "loop.example/g00322/laws.FnNewDisks", spec := "fnNewDisks", apart := false, narrowed := true }
def FnNewDisksUptoSaid : Prop := fnNewDisksUptoRow.holds Try.pinned (OpenSpec.upto fnNewDisksSpec)

/-- 'laws.FnExactTurnOn', WHERE WHAT IT READS IS OF BULK AT MOST 1048576: true; the input reads as it did. -/
def fnExactTurnOnUptoRow : OpenClaim := { program := "yticedidmodmdnaa", sum := "2c4aaaedf2543c73890f0ac19431ad816d3bbe3462875da7600042b5b670befa", func := "loop.example/g00322/laws.FnExactTurnOn", spec := "fnExactTurnOn", apart := false, narrowed := true }
def FnExactTurnOnUptoSaid : Prop := fnExactTurnOnUptoRow.holds Try.pinned (OpenSpec.upto fnExactTurnOnSpec)

/-- 'laws.FnFlushed', WHERE WHAT IT READS IS OF BULK AT MOST 1048576: true; the input reads as it did. -/
def fnFlushedUptoRow : OpenClaim := { program := "yticedidmodmdnaa", sum := "2c4aaaedf2543c73890f0ac19431ad816d3bbe3462875da7600042b5b670befa", func := "loop.example/g00322/laws.FnFlushed", spec := "fnFlushed", apart := false, narrowed := true }
def FnFlushedUptoSaid : Prop := fnFlushedUptoRow.holds Try.pinned (OpenSpec.upto fnFlushedSpec)

/-- 'laws.FnDisks', WHERE WHAT IT READS IS OF BULK AT MOST 1048576: true; the input reads as it did. -/
def fnDisksUptoRow : OpenClaim := { program := "yticedidmodmdnaa", sum := "2c4aaaedf2543c73890f0ac19431ad816d3bbe3462875da7600042b5b670befa", func := "loop.example/g00322/laws.FnDisks", spec := "fnDisks", apart := false, narrowed := true }
def FnDisksUptoSaid : Prop := fnDisksUptoRow.holds Try.pinned (OpenSpec.upto fnDisksSpec)

/-- 'laws.FnPagesRead', WHERE WHAT IT READS IS OF BULK AT MOST 1048576: true; the input reads as it did. -/
def fnPagesReadUptoRow : OpenClaim := { program := "yticedidmodmdnaa", sum := "2c4aaaedf2543c73890f0ac19431ad816d3bbe3462875da7600042b5b670befa", func := "loop.example/g00322/laws.FnPagesRead", spec := "fnPagesRead", apart := false, narrowed := true }
def FnPagesReadUptoSaid : Prop := fnPagesReadUptoRow.holds Try.pinned (OpenSpec.upto fnPagesReadSpec)

/-- 'laws.FnExactPageAt', WHERE WHAT IT READS IS OF BULK AT MOST 1048576: true; the input reads as it did. -/
def fnExactPageAtUptoRow : OpenClaim := { program := "yticedidmodmdnaa", sum := "2c4aaaedf2543c73890f0ac19431ad816d3bbe3462875da7600042b5b670befa", func := "loop.example/g00322/laws.FnExactPageAt", spec := "fnExactPageAt", apart := false, narrowed := true }
def FnExactPageAtUptoSaid : Prop := fnExactPageAtUptoRow.holds Try.pinned (OpenSpec.upto fnExactPageAtSpec)

/-- 'laws.FnExactWriteSec', WHERE WHAT IT READS IS OF BULK AT MOST 1048576: true; the input reads as it did. -/
def fnExactWriteSecUptoRow : OpenClaim := { program := "yticedidmodmdnaa", sum := "2c4aaaedf2543c73890f0ac19431ad816d3bbe3462875da7600042b5b670befa", func := "loop.example/g00322/laws.FnExactWriteSec", spec := "fnExactWriteSec", apart := false, narrowed := true }
def FnExactWriteSecUptoSaid : Prop := fnExactWriteSecUptoRow.holds Try.pinned (OpenSpec.upto fnExactWriteSecSpec)

/-- 'laws.FnExactFlush', WHERE WHAT IT READS IS OF BULK AT MOST 1048576: true; the input reads as it did. -/
def fnExactFlushUptoRow : OpenClaim := { program := "yticedidmodmdnaa", sum := "2c4aaaedf2543c73890f0ac19431ad816d3bbe3462875da7600042b5b670befa", func := "loop.example/g00322/laws.FnExactFlush", spec := "fnExactFlush", apart := false, narrowed := true }
def FnExactFlushUptoSaid : Prop := fnExactFlushUptoRow.holds Try.pinned (OpenSpec.upto fnExactFlushSpec)

end Rows
end Go.Proofs.Yticedidmodmdnaa
