/- A closed fact of the row DepotKeys. Conditions: none. -/
import Derived.Conc.LeavingOf
import Derived.Test.YtpebkeonkfanpaaGreatChecked
import Derived.Test.YtpebkeonkfanpaaGreatRows
namespace Go.Proofs.YtpebkeonkfanpaaGreat
open Go.ChangeShapes Go.WideShapes Go.ChangeAt Go.RowKit Go.Conc
theorem depotKeys_named : (Rows.depotKeysRow.named == Tryz.prog.varsNamed 3) = true := by kernel_rfl
end Go.Proofs.YtpebkeonkfanpaaGreat
