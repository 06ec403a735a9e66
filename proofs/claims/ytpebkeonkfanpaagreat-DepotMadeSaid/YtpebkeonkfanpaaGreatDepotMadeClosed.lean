/- The closed facts of the row DepotMade, together. Conditions: none. -/
import Derived.Test.YtpebkeonkfanpaaGreatLaid
import Derived.Test.YtpebkeonkfanpaaGreatMaps
import Derived.Test.YtpebkeonkfanpaaGreatDepotMadePlace
import Derived.Test.YtpebkeonkfanpaaGreatDepotMadeUnf
import Derived.Test.YtpebkeonkfanpaaGreatDepotMadeRec
import Derived.Test.YtpebkeonkfanpaaGreatDepotMadeNamed
namespace Go.Proofs.YtpebkeonkfanpaaGreat
open Go.ChangeShapes Go.WideShapes Go.ChangeAt Go.RowKit Go.Conc
theorem depotMade_closed : joinedFacts Tryz.prog 4 Tryz.f4 Rows.depotMadeSpec Rows.depotMadeRow = true := by
  unfold joinedFacts
  rw [Tryz.laidOut, Tryz.mapsRow, depotMade_place, depotMade_unf, depotMade_rec, depotMade_named]
  kernel_rfl
end Go.Proofs.YtpebkeonkfanpaaGreat
