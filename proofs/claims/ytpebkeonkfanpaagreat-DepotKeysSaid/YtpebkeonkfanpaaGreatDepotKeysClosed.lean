/- The closed facts of the row DepotKeys, together. Conditions: none. -/
import Derived.Test.YtpebkeonkfanpaaGreatLaid
import Derived.Test.YtpebkeonkfanpaaGreatMaps
import Derived.Test.YtpebkeonkfanpaaGreatDepotKeysPlace
import Derived.Test.YtpebkeonkfanpaaGreatDepotKeysUnf
import Derived.Test.YtpebkeonkfanpaaGreatDepotKeysRec
import Derived.Test.YtpebkeonkfanpaaGreatDepotKeysNamed
namespace Go.Proofs.YtpebkeonkfanpaaGreat
open Go.ChangeShapes Go.WideShapes Go.ChangeAt Go.RowKit Go.Conc
theorem depotKeys_closed : joinedFacts Tryz.prog 3 Tryz.f3 Rows.depotKeysSpec Rows.depotKeysRow = true := by
  unfold joinedFacts
  rw [Tryz.laidOut, Tryz.mapsRow, depotKeys_place, depotKeys_unf, depotKeys_rec, depotKeys_named]
  kernel_rfl
end Go.Proofs.YtpebkeonkfanpaaGreat
