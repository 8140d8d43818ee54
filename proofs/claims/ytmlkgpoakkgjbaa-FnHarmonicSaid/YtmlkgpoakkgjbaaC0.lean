/- The program is one whose orders are free. -/
import Derived.Test.YtmlkgpoakkgjbaaProg
import Derived.Test.YtmlkgpoakkgjbaaFk
namespace Go.Proofs.Ytmlkgpoakkgjbaa.Gh
open Go Go.RowKit Go.Proofs
theorem mixed : Try.prog.follows .mixedOrders = true := by kernel_rfl
end Go.Proofs.Ytmlkgpoakkgjbaa.Gh
