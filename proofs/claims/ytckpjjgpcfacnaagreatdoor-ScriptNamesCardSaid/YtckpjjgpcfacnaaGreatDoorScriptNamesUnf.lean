/- A closed fact of the row ScriptNames. Conditions: none. -/
import Derived.Conc.LeavingOf
import Derived.Test.YtckpjjgpcfacnaaGreatDoorChecked
import Derived.Test.YtckpjjgpcfacnaaGreatDoorRows
namespace Go.Proofs.YtckpjjgpcfacnaaGreatDoor
open Go.ChangeShapes Go.WideShapes Go.ChangeAt Go.RowKit Go.Conc
theorem scriptNames_unf : (Rows.scriptNamesRow.unfollowed == Tryz.prog.unfollowed 3) = true := by kernel_rfl
end Go.Proofs.YtckpjjgpcfacnaaGreatDoor
