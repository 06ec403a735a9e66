/- A fact of the program: its maps' rows. Conditions: none. -/
import Derived.ProofKit
import Derived.JoinedOf
import Derived.Test.YtejgabehfdapjaaGreatChecked
namespace Go.Proofs.YtejgabehfdapjaaGreat
open Go.ChangeShapes Go.WideShapes Go.ChangeAt Go.RowKit
theorem Tryz.mapsRow:mapsRowed Tryz.prog=true:=by kernel_rfl
end Go.Proofs.YtejgabehfdapjaaGreat
