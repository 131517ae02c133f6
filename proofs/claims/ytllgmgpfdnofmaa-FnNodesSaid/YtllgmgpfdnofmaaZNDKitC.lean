import Derived.Test.YtllgmgpfdnofmaaZNDKitB
namespace Go.Proofs.Ytllgmgpfdnofmaa.KitC
open Go.RowKit Go.Proofs.YtllgmgpfdnofmaaW.PrintWords Go.Proofs.YtllgmgpfdnofmaaW.PrintMore Go.Proofs.Ytllgmgpfdnofmaa.Kit Go.Proofs.Ytllgmgpfdnofmaa.KitB
theorem txtM_bytes (s : ByteArray) : ∀ b ∈ txtM s, 0 ≤ b ∧ b ≤ 255 := app_bytes (uM_bytes _) (bytesOf_bytes s)
end Go.Proofs.Ytllgmgpfdnofmaa.KitC
