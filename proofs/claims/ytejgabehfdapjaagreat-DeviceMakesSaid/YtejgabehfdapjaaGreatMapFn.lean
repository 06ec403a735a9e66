/- Functions with a loop over a map: their parts. Conditions: none. -/
import Derived.Test.YtejgabehfdapjaaGreatToldEnv
namespace Go.Proofs.YtejgabehfdapjaaGreat
open Go.ChangeShapes Go.WideShapes Go.ChangeAt Go.RowKit Go.Conc Go.Den
def opsOf:Code→Array Oper
  | .region _ ops _=>ops
  | _=>#[]
def idOf:Code→Nat
  | .region i _ _=>i
  | _=>0
def opAt (i:Nat) (ops:Array Oper):Oper:=ops.toList.getD i default
noncomputable def mfi159:FI:=match envT.fn 159 with | some x=>x | none=>⟨.skip,0,#[]⟩
theorem mE159:envT.fn 159=some mfi159:=by kernel_rfl
noncomputable def mX159:Code:=at2 (at2 (mfi159.body))
noncomputable def mAs159:List Code:=[at1 (mfi159.body),at1 (at2 (mfi159.body))]
noncomputable def mAt159:List Code:=[at1 (at1 mX159)]
noncomputable def mL159:Code:=at1 (at1 (at2 (at1 mX159)))
noncomputable def mz159:Code:=at2 mL159
noncomputable def mB159:Code:=at2 mX159
noncomputable def mid159:Nat:=idOf (at1 mL159)
noncomputable def mO159:Array Oper:=opsOf (at1 mL159)
noncomputable def mo159_0:Oper:=opAt 0 mO159
noncomputable def mo159_1:Oper:=opAt 1 mO159
theorem mbody159:mfi159.body=seqs mAs159 (.seq (seqs mAt159 (.block 0 (.loop (.seq (.region mid159 mO159 false) mz159)))) mB159):=by kernel_rfl
theorem mops159:mO159=#[mo159_0,mo159_1]:=by kernel_rfl
theorem mh0159:mo159_0.op=.next (.tmp 12) false:=by kernel_rfl
theorem mh1159:mo159_0.dst=some 13:=by kernel_rfl
theorem mh2159:mo159_0.guard=none:=by kernel_rfl
theorem mh3159:mo159_1.op=.extract (.tmp 13) 0:=by kernel_rfl
theorem mh4159:mo159_1.dst=some 14:=by kernel_rfl
theorem mh5159:mo159_1.guard=none:=by kernel_rfl
end Go.Proofs.YtejgabehfdapjaaGreat
