/- The closed run of DepotNames, by the told runs. Conditions: none. -/
import Derived.Test.YtdkiegheiplkkaaGreatTold12
namespace Go.Proofs.YtdkiegheiplkkaaGreat
open Go.ChangeShapes Go.WideShapes Go.ChangeAt Go.RowKit Go.Conc Go.Den
theorem depotNames_run : (denF envT (den envT (tabS tel34) 1000000 60) (xdraw envT (den envT (tabS tel34) 1000000 60)) 1000000 3 [] h0).map (·.1) = some (.bool true) := by kernel_rfl
end Go.Proofs.YtdkiegheiplkkaaGreat
