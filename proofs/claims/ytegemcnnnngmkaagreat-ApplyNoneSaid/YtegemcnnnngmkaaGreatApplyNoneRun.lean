/- The run of ApplyNone, by the told runs, whatever the argument is. Conditions: none. -/
import Derived.Test.YtegemcnnnngmkaaGreatTold14
namespace Go.Proofs.YtegemcnnnngmkaaGreat
open Go.ChangeShapes Go.WideShapes Go.ChangeAt Go.RowKit Go.Conc Go.Den
theorem applyNone_run : (denF envT (den envT (tabS tel56) 1000000 60) (xdraw envT (den envT (tabS tel56) 1000000 60)) 1000000 4 [.tuple #[]] h0).map (·.1) = some (.bool true) := by kernel_rfl
end Go.Proofs.YtegemcnnnngmkaaGreat
