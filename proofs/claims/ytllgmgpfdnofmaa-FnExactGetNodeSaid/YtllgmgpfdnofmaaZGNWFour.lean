-- Written by a program of this session, out of what the kit's print wrote: the words that this claim needs
import Derived.Test.YtllgmgpfdnofmaaZGNWTab
namespace Go.Proofs.YtllgmgpfdnofmaaW.PrintLast
section
variable {P : Program} {ops : Array Oper} {Q : Exit → Act → World → Prop} {md : Region.Mode} {S : World → Prop} {ds : List Nat} {T : Bool × List (List Nat × List Nat)}
end
end Go.Proofs.YtllgmgpfdnofmaaW.PrintLast
