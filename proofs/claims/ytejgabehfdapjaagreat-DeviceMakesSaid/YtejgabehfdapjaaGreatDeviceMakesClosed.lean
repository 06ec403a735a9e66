/- The closed facts of the row DeviceMakes, together. Conditions: none. -/
import Derived.Test.YtejgabehfdapjaaGreatLaid
import Derived.Test.YtejgabehfdapjaaGreatMaps
import Derived.Test.YtejgabehfdapjaaGreatDeviceMakesPlace
import Derived.Test.YtejgabehfdapjaaGreatDeviceMakesUnf
import Derived.Test.YtejgabehfdapjaaGreatDeviceMakesRec
import Derived.Test.YtejgabehfdapjaaGreatDeviceMakesNamed
namespace Go.Proofs.YtejgabehfdapjaaGreat
open Go.ChangeShapes Go.WideShapes Go.ChangeAt Go.RowKit Go.Conc
theorem deviceMakes_closed:joinedFacts Tryz.prog 3 Tryz.f3 Rows.deviceMakesSpec Rows.deviceMakesRow=true:=by
  unfold joinedFacts
  rw [Tryz.laidOut,Tryz.mapsRow,deviceMakes_place,deviceMakes_unf,deviceMakes_rec,deviceMakes_named]
  kernel_rfl
end Go.Proofs.YtejgabehfdapjaaGreat
