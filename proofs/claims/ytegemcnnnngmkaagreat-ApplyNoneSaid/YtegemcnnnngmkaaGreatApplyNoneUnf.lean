/- A closed fact of the row ApplyNone. Conditions: none. -/
import Derived.Conc.LeavingOf
import Derived.Test.YtegemcnnnngmkaaGreatChecked
import Derived.Test.YtegemcnnnngmkaaGreatRows
namespace Go.Proofs.YtegemcnnnngmkaaGreat
open Go.ChangeShapes Go.WideShapes Go.ChangeAt Go.RowKit Go.Conc
theorem applyNone_unf : (Rows.applyNoneRow.unfollowed == Tryz.prog.unfollowed 4) = true := by kernel_rfl
end Go.Proofs.YtegemcnnnngmkaaGreat
