-- Written by a program of this session, out of what the kit's print wrote: the words that this claim needs
import Derived.Test.YticedidmodmdnaaZDKWInv
import Derived.Test.YticedidmodmdnaaZDKWFootNe
namespace Go.Proofs.YticedidmodmdnaaW.PrintWords
open Go.RowKit
end Go.Proofs.YticedidmodmdnaaW.PrintWords
namespace Go.Proofs.YticedidmodmdnaaW.PrintLast
section
variable {ops : Array Oper} {a : Act} {o og : Oper} {g : Nat} {t : Tmp} {u : Bool}
end
end Go.Proofs.YticedidmodmdnaaW.PrintLast
