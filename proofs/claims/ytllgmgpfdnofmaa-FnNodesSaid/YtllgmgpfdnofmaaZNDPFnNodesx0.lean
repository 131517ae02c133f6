import Derived.Test.YtllgmgpfdnofmaaProg
import Derived.Below
import Derived.Deep.Draws
import Derived.Deep.AppendLies
import Derived.Maps.AppendAt
import Derived.OwnWalk
import Derived.Laws.BytesArg
import Derived.Laws.MakeOwn
import Derived.Laws.OwnMore
import Derived.Deep.OwnRows
import Derived.Tactics
import Derived.Lib.ConvBytes
import Derived.Laws.Slices
import Derived.WalkKit
import Derived.KernelRfl
import Derived.RowKit3
import Derived.Deep.LoopGhost
import Derived.Deep.QuietTactic
import Derived.BigQuiet
import Derived.WideLaws
import Derived.Deep.DeepCutAuto
import Derived.Deep.CutBlock
import Derived.Deep.RegionHeld3
import Derived.Laws.Rows
import Derived.Lib.AppendStr
import Derived.ArgAppend
import Derived.Laws.IdiomCopy
import Derived.OrdersHeld
import Derived.Laws.BitsLemmas
import Derived.RowKit
import Derived.Test.YtllgmgpfdnofmaaZNDWWords
import Derived.Test.YtllgmgpfdnofmaaZNDWLast
import Derived.Test.YtllgmgpfdnofmaaZNDWTab
import Derived.Test.YtllgmgpfdnofmaaZNDWFour
import Derived.Test.YtllgmgpfdnofmaaZNDWQPut
import Derived.Test.YtllgmgpfdnofmaaZNDWApart
import Derived.Test.YtllgmgpfdnofmaaZNDWArr
import Derived.Test.YtllgmgpfdnofmaaZNDWZeros
import Derived.Test.YtllgmgpfdnofmaaZNDWFoot
import Derived.Test.YtllgmgpfdnofmaaZNDWKept
import Derived.Test.YtllgmgpfdnofmaaZNDWShare
import Derived.Test.YtllgmgpfdnofmaaZNDWN
import Derived.Test.YtllgmgpfdnofmaaZNDWFootNe
import Derived.Test.YtllgmgpfdnofmaaZNDWAt
import Derived.Test.YtllgmgpfdnofmaaZNDWEqStruct
import Derived.Test.YtllgmgpfdnofmaaZNDWRepsOne
import Derived.Test.YtllgmgpfdnofmaaZNDWInv
import Derived.Test.YtllgmgpfdnofmaaZNDWInvWords
import Derived.Test.YtllgmgpfdnofmaaZNDWGuard
import Derived.Test.YtllgmgpfdnofmaaZNDWNEv
import Derived.Test.YtllgmgpfdnofmaaZNDWMore
import Derived.Test.YtllgmgpfdnofmaaZNDXtra
namespace Go.Proofs.Ytllgmgpfdnofmaa.PFnNodes
open Go.RowKit Go.Proofs.YtllgmgpfdnofmaaW.PrintWords Go.Proofs.YtllgmgpfdnofmaaW.PrintLast Go.Proofs.YtllgmgpfdnofmaaW.PrintMore Go.Proofs.Ytllgmgpfdnofmaa.Xtra
attribute [local go_sem] max2_int min2_int max_two min_two max_three min_three max_four min_four str_leq str_gtr str_geq setCell_drewN cell_set2 cell_set3   -- for this text's walks alone
set_option linter.unusedVariables false
set_option linter.unusedSimpArgs false
def errW : Option Int → Value
 | none=>.nilIface
 | some c=>.iface 0 (.int .i64 c)
theorem errW_none : errW none = .nilIface:=rfl
theorem errW_some (c : Int) : errW (some c) = .iface 0 (.int .i64 c):=rfl
theorem info3 : (Try.prog.info? 3).map (fun i=>(i.zero,i.size,i.bytes)) = some (some (.int .i64 0),1,8):=by kernel_rfl
theorem info5 : (Try.prog.info? 5).map (fun i=>(i.zero,i.size,i.bytes)) = some (some (.int .u8 0),1,1):=by kernel_rfl
theorem info9 : (Try.prog.info? 9).map (fun i=>(i.zero,i.size,i.bytes)) = some (some (.string ⟨#[]⟩),1,16):=by kernel_rfl
end Go.Proofs.Ytllgmgpfdnofmaa.PFnNodes
