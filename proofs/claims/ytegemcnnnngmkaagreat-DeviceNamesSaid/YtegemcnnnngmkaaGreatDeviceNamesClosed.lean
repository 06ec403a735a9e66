/- The closed facts of the row DeviceNames, together. Conditions: none. -/
import Derived.Test.YtegemcnnnngmkaaGreatLaid
import Derived.Test.YtegemcnnnngmkaaGreatMaps
import Derived.Test.YtegemcnnnngmkaaGreatDeviceNamesPlace
import Derived.Test.YtegemcnnnngmkaaGreatDeviceNamesUnf
import Derived.Test.YtegemcnnnngmkaaGreatDeviceNamesRec
import Derived.Test.YtegemcnnnngmkaaGreatDeviceNamesNamed
namespace Go.Proofs.YtegemcnnnngmkaaGreat
open Go.ChangeShapes Go.WideShapes Go.ChangeAt Go.RowKit Go.Conc
theorem deviceNames_closed : joinedFacts Tryz.prog 5 Tryz.f5 Rows.deviceNamesSpec Rows.deviceNamesRow = true := by
  unfold joinedFacts
  rw [Tryz.laidOut, Tryz.mapsRow, deviceNames_place, deviceNames_unf, deviceNames_rec, deviceNames_named]
  kernel_rfl
end Go.Proofs.YtegemcnnnngmkaaGreat
