/- A closed fact of the row MakerOptions. Conditions: none. -/
import Derived.Conc.LeavingOf
import Derived.Test.YtdkiegheiplkkaaGreatChecked
import Derived.Test.YtdkiegheiplkkaaGreatRows
namespace Go.Proofs.YtdkiegheiplkkaaGreat
open Go.ChangeShapes Go.WideShapes Go.ChangeAt Go.RowKit Go.Conc
theorem makerOptions_rec : (Rows.makerOptionsRow.recurses == Tryz.prog.recurses 5) = true := by kernel_rfl
end Go.Proofs.YtdkiegheiplkkaaGreat
