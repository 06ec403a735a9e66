/- The closed facts of the row ApplyNone, together. Conditions: none. -/
import Derived.Test.YtegemcnnnngmkaaGreatLaid
import Derived.Test.YtegemcnnnngmkaaGreatMaps
import Derived.Test.YtegemcnnnngmkaaGreatApplyNonePlace
import Derived.Test.YtegemcnnnngmkaaGreatApplyNoneUnf
import Derived.Test.YtegemcnnnngmkaaGreatApplyNoneRec
import Derived.Test.YtegemcnnnngmkaaGreatApplyNoneNamed
namespace Go.Proofs.YtegemcnnnngmkaaGreat
open Go.ChangeShapes Go.WideShapes Go.ChangeAt Go.RowKit Go.Conc
theorem applyNone_closed : joinedFacts Tryz.prog 4 Tryz.f4 Rows.applyNoneSpec Rows.applyNoneRow = true := by
  unfold joinedFacts
  rw [Tryz.laidOut, Tryz.mapsRow, applyNone_place, applyNone_unf, applyNone_rec, applyNone_named]
  kernel_rfl
end Go.Proofs.YtegemcnnnngmkaaGreat
