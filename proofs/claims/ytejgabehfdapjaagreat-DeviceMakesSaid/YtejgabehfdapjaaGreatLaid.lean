/- A fact of the program: laid out. Conditions: none. -/
import Derived.ProofKit
import Derived.JoinedOf
import Derived.Test.YtejgabehfdapjaaGreatChecked
namespace Go.Proofs.YtejgabehfdapjaaGreat
open Go.ChangeShapes Go.WideShapes Go.ChangeAt Go.RowKit
theorem Tryz.laidOut:laidOutB Tryz.prog=true:=by kernel_rfl
end Go.Proofs.YtejgabehfdapjaaGreat
