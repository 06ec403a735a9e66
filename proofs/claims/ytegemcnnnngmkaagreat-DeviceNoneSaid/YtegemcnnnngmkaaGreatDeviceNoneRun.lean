/- The run of DeviceNone, by the told runs, for any fields of one cell each. Conditions: none. -/
import Derived.Test.YtegemcnnnngmkaaGreatDenJ
import Derived.Test.YtegemcnnnngmkaaGreatDTold15
namespace Go.Proofs.YtegemcnnnngmkaaGreat
open Go.ChangeShapes Go.WideShapes Go.ChangeAt Go.RowKit Go.Conc Go.Den
noncomputable def telWdeviceNone : PT Fun := addT tel0 19 (memo a68 b68 0 c68 d68 38501)
theorem telWdeviceNone_ok : TabOK Tryz.prog envT telWdeviceNone := tel0_ok.add (memo_ok (run_of_den envT_ok (tabS_sound envT_ok tel68_ok) r68)) (fnS (by kernel_rfl))
theorem deviceNone_run : (denF envT (den envT (tabS telWdeviceNone) 1000000 60) (xdraw envT (den envT (tabS telWdeviceNone) 1000000 60)) 1000000 6 [.agg ⟨[.chan (some 0), .chan (some 0), .chan (some 0), .chan (some 0), .chan (some 0), .chan (some 0), .chan (some 0)]⟩] h0).map (·.1) = some (.bool true) := by kernel_rfl
end Go.Proofs.YtegemcnnnngmkaaGreat
