/- The program is one whose orders are free. -/
import Derived.Test.YthhpbhdkhghpfaaProg
import Derived.Test.YthhpbhdkhghpfaaFk
namespace Go.Proofs.Ythhpbhdkhghpfaa.Gh
open Go Go.RowKit Go.Proofs
theorem mixed : Try.prog.follows .mixedOrders = true := by kernel_rfl
end Go.Proofs.Ythhpbhdkhghpfaa.Gh
