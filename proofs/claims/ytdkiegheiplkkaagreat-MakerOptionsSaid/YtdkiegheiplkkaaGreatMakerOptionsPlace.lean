/- A closed fact of the row MakerOptions. Conditions: none. -/
import Derived.Conc.LeavingOf
import Derived.Test.YtdkiegheiplkkaaGreatChecked
import Derived.Test.YtdkiegheiplkkaaGreatRows
namespace Go.Proofs.YtdkiegheiplkkaaGreat
open Go.ChangeShapes Go.WideShapes Go.ChangeAt Go.RowKit Go.Conc
theorem makerOptions_place : (Rows.makerOptionsRow.inPlace == Tryz.prog.inPlace 5) = true := by kernel_rfl
end Go.Proofs.YtdkiegheiplkkaaGreat
