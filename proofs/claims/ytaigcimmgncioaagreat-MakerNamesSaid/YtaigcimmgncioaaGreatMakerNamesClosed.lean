/- The closed facts of the row MakerNames, together. Conditions: none. -/
import Derived.Test.YtaigcimmgncioaaGreatLaid
import Derived.Test.YtaigcimmgncioaaGreatMaps
import Derived.Test.YtaigcimmgncioaaGreatMakerNamesPlace
import Derived.Test.YtaigcimmgncioaaGreatMakerNamesUnf
import Derived.Test.YtaigcimmgncioaaGreatMakerNamesRec
import Derived.Test.YtaigcimmgncioaaGreatMakerNamesNamed
namespace Go.Proofs.YtaigcimmgncioaaGreat
open Go.ChangeShapes Go.WideShapes Go.ChangeAt Go.RowKit Go.Conc
theorem makerNames_closed : joinedFacts Tryz.prog 6 Tryz.f6 Rows.makerNamesSpec Rows.makerNamesRow = true := by
  unfold joinedFacts
  rw [Tryz.laidOut, Tryz.mapsRow, makerNames_place, makerNames_unf, makerNames_rec, makerNames_named]
  kernel_rfl
end Go.Proofs.YtaigcimmgncioaaGreat
