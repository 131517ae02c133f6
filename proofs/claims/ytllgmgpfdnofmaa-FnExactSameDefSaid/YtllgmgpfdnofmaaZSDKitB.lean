import Derived.Test.YtllgmgpfdnofmaaZSDKit
import Derived.Laws.BitsLemmas
namespace Go.Proofs.Ytllgmgpfdnofmaa.KitB
open Go.RowKit Go.Proofs.YtllgmgpfdnofmaaW.PrintWords Go.Proofs.YtllgmgpfdnofmaaW.PrintMore Go.Proofs.Ytllgmgpfdnofmaa.Kit
end Go.Proofs.Ytllgmgpfdnofmaa.KitB
