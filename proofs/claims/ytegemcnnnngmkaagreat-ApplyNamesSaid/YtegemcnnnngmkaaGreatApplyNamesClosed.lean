/- The closed facts of the row ApplyNames, together. Conditions: none. -/
import Derived.Test.YtegemcnnnngmkaaGreatLaid
import Derived.Test.YtegemcnnnngmkaaGreatMaps
import Derived.Test.YtegemcnnnngmkaaGreatApplyNamesPlace
import Derived.Test.YtegemcnnnngmkaaGreatApplyNamesUnf
import Derived.Test.YtegemcnnnngmkaaGreatApplyNamesRec
import Derived.Test.YtegemcnnnngmkaaGreatApplyNamesNamed
namespace Go.Proofs.YtegemcnnnngmkaaGreat
open Go.ChangeShapes Go.WideShapes Go.ChangeAt Go.RowKit Go.Conc
theorem applyNames_closed : joinedFacts Tryz.prog 3 Tryz.f3 Rows.applyNamesSpec Rows.applyNamesRow = true := by
  unfold joinedFacts
  rw [Tryz.laidOut, Tryz.mapsRow, applyNames_place, applyNames_unf, applyNames_rec, applyNames_named]
  kernel_rfl
end Go.Proofs.YtegemcnnnngmkaaGreat
