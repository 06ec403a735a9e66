/- The closed facts of the row MakerOptions, together. Conditions: none. -/
import Derived.Test.YtdkiegheiplkkaaGreatLaid
import Derived.Test.YtdkiegheiplkkaaGreatMaps
import Derived.Test.YtdkiegheiplkkaaGreatMakerOptionsPlace
import Derived.Test.YtdkiegheiplkkaaGreatMakerOptionsUnf
import Derived.Test.YtdkiegheiplkkaaGreatMakerOptionsRec
import Derived.Test.YtdkiegheiplkkaaGreatMakerOptionsNamed
namespace Go.Proofs.YtdkiegheiplkkaaGreat
open Go.ChangeShapes Go.WideShapes Go.ChangeAt Go.RowKit Go.Conc
theorem makerOptions_closed : joinedFacts Tryz.prog 5 Tryz.f5 Rows.makerOptionsSpec Rows.makerOptionsRow = true := by
  unfold joinedFacts
  rw [Tryz.laidOut, Tryz.mapsRow, makerOptions_place, makerOptions_unf, makerOptions_rec, makerOptions_named]
  kernel_rfl
end Go.Proofs.YtdkiegheiplkkaaGreat
