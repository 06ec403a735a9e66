/- A closed run: the program makes the document's first patch. Conditions: none. -/
import Derived.Test.YtdkiegheiplkkaaGreatEnv
namespace Go.Proofs.YtdkiegheiplkkaaGreat
open Go.ChangeShapes Go.WideShapes Go.ChangeAt Go.RowKit Go.Conc Go.Den
theorem awake_run : (denT 16 [] h0).map (·.1) = some (.bool true) := by kernel_rfl
end Go.Proofs.YtdkiegheiplkkaaGreat
