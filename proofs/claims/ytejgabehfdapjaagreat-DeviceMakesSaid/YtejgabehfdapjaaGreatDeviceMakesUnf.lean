/- A closed fact of the row DeviceMakes. Conditions: none. -/
import Derived.Conc.LeavingOf
import Derived.Test.YtejgabehfdapjaaGreatChecked
import Derived.Test.YtejgabehfdapjaaGreatRows
namespace Go.Proofs.YtejgabehfdapjaaGreat
open Go.ChangeShapes Go.WideShapes Go.ChangeAt Go.RowKit Go.Conc
theorem deviceMakes_unf:(Rows.deviceMakesRow.unfollowed == Tryz.prog.unfollowed 3)=true:=by kernel_rfl
end Go.Proofs.YtejgabehfdapjaaGreat
