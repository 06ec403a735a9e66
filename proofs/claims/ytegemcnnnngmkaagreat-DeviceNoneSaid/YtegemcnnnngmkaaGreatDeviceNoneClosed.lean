/- The closed facts of the row DeviceNone, together. Conditions: none. -/
import Derived.Test.YtegemcnnnngmkaaGreatLaid
import Derived.Test.YtegemcnnnngmkaaGreatMaps
import Derived.Test.YtegemcnnnngmkaaGreatDeviceNonePlace
import Derived.Test.YtegemcnnnngmkaaGreatDeviceNoneUnf
import Derived.Test.YtegemcnnnngmkaaGreatDeviceNoneRec
import Derived.Test.YtegemcnnnngmkaaGreatDeviceNoneNamed
namespace Go.Proofs.YtegemcnnnngmkaaGreat
open Go.ChangeShapes Go.WideShapes Go.ChangeAt Go.RowKit Go.Conc
theorem deviceNone_closed : joinedFacts Tryz.prog 6 Tryz.f6 Rows.deviceNoneSpec Rows.deviceNoneRow = true := by
  unfold joinedFacts
  rw [Tryz.laidOut, Tryz.mapsRow, deviceNone_place, deviceNone_unf, deviceNone_rec, deviceNone_named]
  kernel_rfl
end Go.Proofs.YtegemcnnnngmkaaGreat
