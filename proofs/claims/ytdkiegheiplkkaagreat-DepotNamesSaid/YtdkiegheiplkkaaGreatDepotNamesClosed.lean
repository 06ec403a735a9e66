/- The closed facts of the row DepotNames, together. Conditions: none. -/
import Derived.Test.YtdkiegheiplkkaaGreatLaid
import Derived.Test.YtdkiegheiplkkaaGreatMaps
import Derived.Test.YtdkiegheiplkkaaGreatDepotNamesPlace
import Derived.Test.YtdkiegheiplkkaaGreatDepotNamesUnf
import Derived.Test.YtdkiegheiplkkaaGreatDepotNamesRec
import Derived.Test.YtdkiegheiplkkaaGreatDepotNamesNamed
namespace Go.Proofs.YtdkiegheiplkkaaGreat
open Go.ChangeShapes Go.WideShapes Go.ChangeAt Go.RowKit Go.Conc
theorem depotNames_closed : joinedFacts Tryz.prog 3 Tryz.f3 Rows.depotNamesSpec Rows.depotNamesRow = true := by
  unfold joinedFacts
  rw [Tryz.laidOut, Tryz.mapsRow, depotNames_place, depotNames_unf, depotNames_rec, depotNames_named]
  kernel_rfl
end Go.Proofs.YtdkiegheiplkkaaGreat
