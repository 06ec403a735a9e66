/- The closed run of MakerNames, by the interpreter. Conditions: none. -/
import Derived.Test.YtaigcimmgncioaaGreatEnv
namespace Go.Proofs.YtaigcimmgncioaaGreat
open Go.ChangeShapes Go.WideShapes Go.ChangeAt Go.RowKit Go.Conc Go.Den
theorem makerNames_run : (denT 6 [] h0).map (·.1) = some (.bool true) := by kernel_rfl
end Go.Proofs.YtaigcimmgncioaaGreat
