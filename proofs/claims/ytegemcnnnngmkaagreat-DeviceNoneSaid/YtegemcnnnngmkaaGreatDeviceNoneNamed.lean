/- A closed fact of the row DeviceNone. Conditions: none. -/
import Derived.Conc.LeavingOf
import Derived.Test.YtegemcnnnngmkaaGreatChecked
import Derived.Test.YtegemcnnnngmkaaGreatRows
namespace Go.Proofs.YtegemcnnnngmkaaGreat
open Go.ChangeShapes Go.WideShapes Go.ChangeAt Go.RowKit Go.Conc
theorem deviceNone_named : (Rows.deviceNoneRow.named == Tryz.prog.varsNamed 6) = true := by kernel_rfl
end Go.Proofs.YtegemcnnnngmkaaGreat
