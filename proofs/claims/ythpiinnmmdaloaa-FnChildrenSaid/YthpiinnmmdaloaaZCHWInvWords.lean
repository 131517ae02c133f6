-- Written by a program of this session, out of what the kit's print wrote: the words that this claim needs
import Derived.Test.YthpiinnmmdaloaaZCHWInv
import Derived.Test.YthpiinnmmdaloaaZCHWFootNe
namespace Go.Proofs.YthpiinnmmdaloaaW.PrintWords
open Go.RowKit
end Go.Proofs.YthpiinnmmdaloaaW.PrintWords
namespace Go.Proofs.YthpiinnmmdaloaaW.PrintLast
section
variable {ops : Array Oper} {a : Act} {o og : Oper} {g : Nat} {t : Tmp} {u : Bool}
end
end Go.Proofs.YthpiinnmmdaloaaW.PrintLast
