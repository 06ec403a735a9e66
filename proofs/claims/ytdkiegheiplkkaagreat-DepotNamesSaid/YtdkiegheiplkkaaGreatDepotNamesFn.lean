/- A closed fact of the row DepotNames. Conditions: none. -/
import Derived.Conc.LeavingOf
import Derived.Test.YtdkiegheiplkkaaGreatChecked
import Derived.Test.YtdkiegheiplkkaaGreatRows
namespace Go.Proofs.YtdkiegheiplkkaaGreat
open Go.ChangeShapes Go.WideShapes Go.ChangeAt Go.RowKit Go.Conc
theorem depotNames_fn : Tryz.prog.funcNamed Rows.depotNamesRow.func = some 3 := by kernel_rfl
end Go.Proofs.YtdkiegheiplkkaaGreat
