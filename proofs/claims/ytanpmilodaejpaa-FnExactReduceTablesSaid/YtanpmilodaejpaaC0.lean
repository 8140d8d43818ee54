/- The program is one whose orders are free. -/
import Derived.Test.YtanpmilodaejpaaProg
import Derived.Test.YtanpmilodaejpaaFk
namespace Go.Proofs.Ytanpmilodaejpaa.Gh
open Go Go.RowKit Go.Proofs
theorem mixed : Try.prog.follows .mixedOrders = true := by kernel_rfl
end Go.Proofs.Ytanpmilodaejpaa.Gh
