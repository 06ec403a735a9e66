/- A closed fact of the row MakerNames. Conditions: none. -/
import Derived.Conc.LeavingOf
import Derived.Test.YtaigcimmgncioaaGreatChecked
import Derived.Test.YtaigcimmgncioaaGreatRows
namespace Go.Proofs.YtaigcimmgncioaaGreat
open Go.ChangeShapes Go.WideShapes Go.ChangeAt Go.RowKit Go.Conc
theorem makerNames_unf : (Rows.makerNamesRow.unfollowed == Tryz.prog.unfollowed 6) = true := by kernel_rfl
end Go.Proofs.YtaigcimmgncioaaGreat
