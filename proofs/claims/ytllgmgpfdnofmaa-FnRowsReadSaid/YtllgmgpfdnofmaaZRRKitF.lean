import Derived.Test.YtllgmgpfdnofmaaZRRKitD
namespace Go.Proofs.Ytllgmgpfdnofmaa.KitF
open Go.RowKit Go.Proofs.YtllgmgpfdnofmaaW.PrintWords Go.Proofs.YtllgmgpfdnofmaaW.PrintMore Go.Proofs.Ytllgmgpfdnofmaa.Kit Go.Proofs.Ytllgmgpfdnofmaa.KitB Go.Proofs.Ytllgmgpfdnofmaa.KitC Go.Proofs.Ytllgmgpfdnofmaa.KitD
end Go.Proofs.Ytllgmgpfdnofmaa.KitF
