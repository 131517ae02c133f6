import Derived.Test.YtipehkeabnfngaaDoorZDSKit
import Derived.Laws.BitsLemmas
namespace Go.Proofs.YtipehkeabnfngaaDoor.KitB
open Go.RowKit Go.Proofs.YtipehkeabnfngaaDoorW.PrintWords Go.Proofs.YtipehkeabnfngaaDoorW.PrintMore Go.Proofs.YtipehkeabnfngaaDoor.Kit
end Go.Proofs.YtipehkeabnfngaaDoor.KitB
