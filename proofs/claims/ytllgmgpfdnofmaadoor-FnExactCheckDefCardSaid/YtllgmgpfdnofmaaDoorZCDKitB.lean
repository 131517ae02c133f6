import Derived.Test.YtllgmgpfdnofmaaDoorZCDKit
import Derived.Laws.BitsLemmas
namespace Go.Proofs.YtllgmgpfdnofmaaDoor.KitB
open Go.RowKit Go.Proofs.YtllgmgpfdnofmaaDoorW.PrintWords Go.Proofs.YtllgmgpfdnofmaaDoorW.PrintMore Go.Proofs.YtllgmgpfdnofmaaDoor.Kit
end Go.Proofs.YtllgmgpfdnofmaaDoor.KitB
