/- A closed fact of the row DeviceNames. Conditions: none. -/
import Derived.Conc.LeavingOf
import Derived.Test.YtegemcnnnngmkaaGreatChecked
import Derived.Test.YtegemcnnnngmkaaGreatRows
namespace Go.Proofs.YtegemcnnnngmkaaGreat
open Go.ChangeShapes Go.WideShapes Go.ChangeAt Go.RowKit Go.Conc
theorem deviceNames_place : (Rows.deviceNamesRow.inPlace == Tryz.prog.inPlace 5) = true := by kernel_rfl
end Go.Proofs.YtegemcnnnngmkaaGreat
