import Derived.Test.YtipehkeabnfngaaDoorZDSWInv
import Derived.Test.YtipehkeabnfngaaDoorZDSWFootNe
namespace Go.Proofs.YtipehkeabnfngaaDoorW.PrintWords
open Go.RowKit
end Go.Proofs.YtipehkeabnfngaaDoorW.PrintWords
namespace Go.Proofs.YtipehkeabnfngaaDoorW.PrintLast
section
variable {ops : Array Oper} {a : Act} {o og : Oper} {g : Nat} {t : Tmp} {u : Bool}
end
end Go.Proofs.YtipehkeabnfngaaDoorW.PrintLast
