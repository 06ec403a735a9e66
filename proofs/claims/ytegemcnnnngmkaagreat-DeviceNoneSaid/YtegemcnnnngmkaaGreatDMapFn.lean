/- Functions with a loop over a map: their parts. Conditions: none. -/
import Derived.Test.YtegemcnnnngmkaaGreatDToldEnv
namespace Go.Proofs.YtegemcnnnngmkaaGreat
open Go.ChangeShapes Go.WideShapes Go.ChangeAt Go.RowKit Go.Conc Go.Den
def opsOf : Code → Array Oper
  | .region _ ops _ => ops
  | _ => #[]
def idOf : Code → Nat
  | .region i _ _ => i
  | _ => 0
def opAt (i : Nat) (ops : Array Oper) : Oper := ops.toList.getD i default
noncomputable def mfi101 : FI := match envT.fn 101 with | some x => x | none => ⟨.skip, 0, #[]⟩
theorem mE101 : envT.fn 101 = some mfi101 := by kernel_rfl
noncomputable def mX101 : Code := at2 (at2 (mfi101.body))
noncomputable def mAs101 : List Code := [at1 (mfi101.body), at1 (at2 (mfi101.body))]
noncomputable def mAt101 : List Code := [at1 (at1 mX101)]
noncomputable def mL101 : Code := at1 (at1 (at2 (at1 mX101)))
noncomputable def mz101 : Code := at2 mL101
noncomputable def mB101 : Code := at2 mX101
noncomputable def mid101 : Nat := idOf (at1 mL101)
noncomputable def mO101 : Array Oper := opsOf (at1 mL101)
noncomputable def mo101_0 : Oper := opAt 0 mO101
noncomputable def mo101_1 : Oper := opAt 1 mO101
theorem mbody101 : mfi101.body = seqs mAs101 (.seq (seqs mAt101 (.block 0 (.loop (.seq (.region mid101 mO101 false) mz101)))) mB101) := by kernel_rfl
theorem mops101 : mO101 = #[mo101_0, mo101_1] := by kernel_rfl
theorem mh0101 : mo101_0.op = .next (.tmp 12) false := by kernel_rfl
theorem mh1101 : mo101_0.dst = some 13 := by kernel_rfl
theorem mh2101 : mo101_0.guard = none := by kernel_rfl
theorem mh3101 : mo101_1.op = .extract (.tmp 13) 0 := by kernel_rfl
theorem mh4101 : mo101_1.dst = some 14 := by kernel_rfl
theorem mh5101 : mo101_1.guard = none := by kernel_rfl
end Go.Proofs.YtegemcnnnngmkaaGreat
