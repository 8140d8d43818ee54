/- The program is one whose orders are free. -/
import Derived.Test.YtanpmilodaejpaaGreatProg
import Derived.Test.YtanpmilodaejpaaGreatFk
namespace Go.Proofs.YtanpmilodaejpaaGreat.Gh
open Go Go.RowKit Go.Proofs
theorem mixed : Tryz.prog.follows .mixedOrders = true := by kernel_rfl
end Go.Proofs.YtanpmilodaejpaaGreat.Gh
