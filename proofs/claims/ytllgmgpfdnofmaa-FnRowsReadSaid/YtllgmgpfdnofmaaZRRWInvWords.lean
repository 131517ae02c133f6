import Derived.Test.YtllgmgpfdnofmaaZRRWInv
import Derived.Test.YtllgmgpfdnofmaaZRRWFootNe
namespace Go.Proofs.YtllgmgpfdnofmaaW.PrintWords
open Go.RowKit
end Go.Proofs.YtllgmgpfdnofmaaW.PrintWords
namespace Go.Proofs.YtllgmgpfdnofmaaW.PrintLast
section
variable {ops : Array Oper} {a : Act} {o og : Oper} {g : Nat} {t : Tmp} {u : Bool}
end
end Go.Proofs.YtllgmgpfdnofmaaW.PrintLast
