/- A closed fact of the row DepotMade. Conditions: none. -/
import Derived.Conc.LeavingOf
import Derived.Test.YtpebkeonkfanpaaGreatChecked
import Derived.Test.YtpebkeonkfanpaaGreatRows
namespace Go.Proofs.YtpebkeonkfanpaaGreat
open Go.ChangeShapes Go.WideShapes Go.ChangeAt Go.RowKit Go.Conc
theorem depotMade_rec : (Rows.depotMadeRow.recurses == Tryz.prog.recurses 4) = true := by kernel_rfl
end Go.Proofs.YtpebkeonkfanpaaGreat
