/- The closed facts of the row ScriptNames, together. Conditions: none. -/
import Derived.Test.YtckpjjgpcfacnaaGreatDoorLaid
import Derived.Test.YtckpjjgpcfacnaaGreatDoorMaps
import Derived.Test.YtckpjjgpcfacnaaGreatDoorScriptNamesPlace
import Derived.Test.YtckpjjgpcfacnaaGreatDoorScriptNamesUnf
import Derived.Test.YtckpjjgpcfacnaaGreatDoorScriptNamesRec
import Derived.Test.YtckpjjgpcfacnaaGreatDoorScriptNamesNamed
namespace Go.Proofs.YtckpjjgpcfacnaaGreatDoor
open Go.ChangeShapes Go.WideShapes Go.ChangeAt Go.RowKit Go.Conc
theorem scriptNames_closed : joinedFacts Tryz.prog 3 Tryz.f3 Rows.scriptNamesSpec Rows.scriptNamesRow = true := by
  unfold joinedFacts
  rw [Tryz.laidOut, Tryz.mapsRow, scriptNames_place, scriptNames_unf, scriptNames_rec, scriptNames_named]
  kernel_rfl
end Go.Proofs.YtckpjjgpcfacnaaGreatDoor
