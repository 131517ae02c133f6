import Derived.Test.YtllgmgpfdnofmaaDoorZCDWInv
import Derived.Test.YtllgmgpfdnofmaaDoorZCDWFootNe
namespace Go.Proofs.YtllgmgpfdnofmaaDoorW.PrintWords
open Go.RowKit
end Go.Proofs.YtllgmgpfdnofmaaDoorW.PrintWords
namespace Go.Proofs.YtllgmgpfdnofmaaDoorW.PrintLast
section
variable {ops : Array Oper} {a : Act} {o og : Oper} {g : Nat} {t : Tmp} {u : Bool}
end
end Go.Proofs.YtllgmgpfdnofmaaDoorW.PrintLast
