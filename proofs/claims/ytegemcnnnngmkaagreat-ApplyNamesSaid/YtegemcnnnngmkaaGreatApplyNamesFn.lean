/- A closed fact of the row ApplyNames. Conditions: none. -/
import Derived.Conc.LeavingOf
import Derived.Test.YtegemcnnnngmkaaGreatChecked
import Derived.Test.YtegemcnnnngmkaaGreatRows
namespace Go.Proofs.YtegemcnnnngmkaaGreat
open Go.ChangeShapes Go.WideShapes Go.ChangeAt Go.RowKit Go.Conc
theorem applyNames_fn : Tryz.prog.funcNamed Rows.applyNamesRow.func = some 3 := by kernel_rfl
end Go.Proofs.YtegemcnnnngmkaaGreat
