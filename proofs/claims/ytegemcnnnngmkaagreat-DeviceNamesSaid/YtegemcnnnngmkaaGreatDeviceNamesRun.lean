/- The run of DeviceNames, by the told runs. Conditions: none. -/
import Derived.Test.YtegemcnnnngmkaaGreatDTold15
namespace Go.Proofs.YtegemcnnnngmkaaGreat
open Go.ChangeShapes Go.WideShapes Go.ChangeAt Go.RowKit Go.Conc Go.Den
theorem deviceNames_run : (denF envT (den envT (tabS tel70) 1000000 60) (xdraw envT (den envT (tabS tel70) 1000000 60)) 1000000 5 [] h0).map (·.1) = some (.bool true) := by kernel_rfl
end Go.Proofs.YtegemcnnnngmkaaGreat
