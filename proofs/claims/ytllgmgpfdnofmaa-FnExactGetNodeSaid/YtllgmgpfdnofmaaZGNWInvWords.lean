-- Written by a program of this session, out of what the kit's print wrote: the words that this claim needs
import Derived.Test.YtllgmgpfdnofmaaZGNWInv
import Derived.Test.YtllgmgpfdnofmaaZGNWFootNe
namespace Go.Proofs.YtllgmgpfdnofmaaW.PrintWords
open Go.RowKit
end Go.Proofs.YtllgmgpfdnofmaaW.PrintWords
namespace Go.Proofs.YtllgmgpfdnofmaaW.PrintLast
section
variable {ops : Array Oper} {a : Act} {o og : Oper} {g : Nat} {t : Tmp} {u : Bool}
end
end Go.Proofs.YtllgmgpfdnofmaaW.PrintLast
