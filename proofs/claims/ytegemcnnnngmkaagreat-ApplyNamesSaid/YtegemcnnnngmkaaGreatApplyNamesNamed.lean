/- A closed fact of the row ApplyNames. Conditions: none. -/
import Derived.Conc.LeavingOf
import Derived.Test.YtegemcnnnngmkaaGreatChecked
import Derived.Test.YtegemcnnnngmkaaGreatRows
namespace Go.Proofs.YtegemcnnnngmkaaGreat
open Go.ChangeShapes Go.WideShapes Go.ChangeAt Go.RowKit Go.Conc
theorem applyNames_named : (Rows.applyNamesRow.named == Tryz.prog.varsNamed 3) = true := by kernel_rfl
end Go.Proofs.YtegemcnnnngmkaaGreat
