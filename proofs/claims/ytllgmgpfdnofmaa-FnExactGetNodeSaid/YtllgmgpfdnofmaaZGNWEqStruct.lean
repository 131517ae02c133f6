-- Written by a program of this session, out of what the kit's print wrote: the words that this claim needs
import Derived.Test.YtllgmgpfdnofmaaZGNWWords
import Derived.Laws.StructEq
namespace Go.Proofs.YtllgmgpfdnofmaaW.PrintWords
open Go.RowKit
section
variable {P : Program} {d : Nat} {xs ys : Array Value} {f : Field} {fs : List Field} {a b : Value} {r s : Bool} {w : World}
end
end Go.Proofs.YtllgmgpfdnofmaaW.PrintWords
