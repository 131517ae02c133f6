-- Written by a program of this session, out of what the kit's print wrote: the words that this claim needs
import Derived.Test.YtllgmgpfdnofmaaZGNWN
namespace Go.Proofs.YtllgmgpfdnofmaaW.PrintWords
open Go.RowKit
namespace Kd
section
variable {α : Type} {d : Kd α} {W : World} {g n : Nat} {S ok : Nat → Prop} {A : Option Addr} {ad : Addr} {xs : List α}
end
end Kd
end Go.Proofs.YtllgmgpfdnofmaaW.PrintWords
