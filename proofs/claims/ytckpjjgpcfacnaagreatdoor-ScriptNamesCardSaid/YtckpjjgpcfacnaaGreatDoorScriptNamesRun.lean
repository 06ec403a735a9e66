/- The run of ScriptNames, by the told runs, where the table is as the row lists it. Conditions: none. -/
import Derived.Test.YtckpjjgpcfacnaaGreatDoorTold17
namespace Go.Proofs.YtckpjjgpcfacnaaGreatDoor
open Go.ChangeShapes Go.WideShapes Go.ChangeAt Go.RowKit Go.Conc Go.Den
theorem scriptNames_run : (denF envT (den envT (tabS tel90) 1000000 60) (xdraw envT (den envT (tabS tel90) 1000000 60)) 1000000 3 [] (hGl 5 glC)).map (·.1) = some (.bool true) := by kernel_rfl
end Go.Proofs.YtckpjjgpcfacnaaGreatDoor
