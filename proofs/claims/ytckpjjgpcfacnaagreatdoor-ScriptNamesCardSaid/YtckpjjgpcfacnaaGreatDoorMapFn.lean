/- Functions with a loop over a map: their parts. Conditions: none. -/
import Derived.Test.YtckpjjgpcfacnaaGreatDoorToldEnv
namespace Go.Proofs.YtckpjjgpcfacnaaGreatDoor
open Go.ChangeShapes Go.WideShapes Go.ChangeAt Go.RowKit Go.Conc Go.Den
def opsOf : Code → Array Oper
  | .region _ ops _ => ops
  | _ => #[]
def idOf : Code → Nat
  | .region i _ _ => i
  | _ => 0
def opAt (i : Nat) (ops : Array Oper) : Oper := ops.toList.getD i default
noncomputable def mfi255 : FI := match envT.fn 255 with | some x => x | none => ⟨.skip, 0, #[]⟩
theorem mE255 : envT.fn 255 = some mfi255 := by kernel_rfl
noncomputable def mX255 : Code := at2 (at2 (mfi255.body))
noncomputable def mAs255 : List Code := [at1 (mfi255.body), at1 (at2 (mfi255.body))]
noncomputable def mAt255 : List Code := [at1 (at1 mX255)]
noncomputable def mL255 : Code := at1 (at1 (at2 (at1 mX255)))
noncomputable def mz255 : Code := at2 mL255
noncomputable def mB255 : Code := at2 mX255
noncomputable def mid255 : Nat := idOf (at1 mL255)
noncomputable def mO255 : Array Oper := opsOf (at1 mL255)
noncomputable def mo255_0 : Oper := opAt 0 mO255
noncomputable def mo255_1 : Oper := opAt 1 mO255
theorem mbody255 : mfi255.body = seqs mAs255 (.seq (seqs mAt255 (.block 0 (.loop (.seq (.region mid255 mO255 false) mz255)))) mB255) := by kernel_rfl
theorem mops255 : mO255 = #[mo255_0, mo255_1] := by kernel_rfl
theorem mh0255 : mo255_0.op = .next (.tmp 12) false := by kernel_rfl
theorem mh1255 : mo255_0.dst = some 13 := by kernel_rfl
theorem mh2255 : mo255_0.guard = none := by kernel_rfl
theorem mh3255 : mo255_1.op = .extract (.tmp 13) 0 := by kernel_rfl
theorem mh4255 : mo255_1.dst = some 14 := by kernel_rfl
theorem mh5255 : mo255_1.guard = none := by kernel_rfl
noncomputable def xfi65 : FI := match envT.fn 65 with | some x => x | none => ⟨.skip, 0, #[]⟩
theorem xE65 : envT.fn 65 = some xfi65 := by kernel_rfl
end Go.Proofs.YtckpjjgpcfacnaaGreatDoor
