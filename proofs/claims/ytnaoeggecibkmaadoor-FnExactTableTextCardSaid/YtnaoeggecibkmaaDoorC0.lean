/- The program is one whose orders are free. -/
import Derived.Test.YtnaoeggecibkmaaDoorProg
import Derived.Test.YtnaoeggecibkmaaDoorFk
namespace Go.Proofs.YtnaoeggecibkmaaDoor.Gh
open Go Go.RowKit Go.Proofs
theorem mixed : Tryd.prog.follows .mixedOrders = true := by kernel_rfl
end Go.Proofs.YtnaoeggecibkmaaDoor.Gh
