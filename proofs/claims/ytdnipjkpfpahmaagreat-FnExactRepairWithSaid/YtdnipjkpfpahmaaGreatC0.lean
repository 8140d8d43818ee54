/- The program is one whose orders are free. -/
import Derived.Test.YtdnipjkpfpahmaaGreatProg
import Derived.Test.YtdnipjkpfpahmaaGreatFk
namespace Go.Proofs.YtdnipjkpfpahmaaGreat.Gh
open Go Go.RowKit Go.Proofs
theorem mixed : Tryz.prog.follows .mixedOrders = true := by kernel_rfl
end Go.Proofs.YtdnipjkpfpahmaaGreat.Gh
