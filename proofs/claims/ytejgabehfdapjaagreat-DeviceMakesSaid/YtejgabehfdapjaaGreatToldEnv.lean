/- The interpreter's tables of this program, and the empty table of told runs. Conditions: none. -/
import Derived.KernelRfl
import Derived.Test.YtejgabehfdapjaaGreatDenI
import Derived.Test.YtejgabehfdapjaaGreatLaid
import Derived.Test.YtejgabehfdapjaaGreatChecked
namespace Go.Proofs.YtejgabehfdapjaaGreat
open Go.ChangeShapes Go.WideShapes Go.ChangeAt Go.RowKit Go.Conc Go.Den
def J0 (n:Nat):Value:=.int .i8 (.ofNat n)
def J0m (n:Nat):Value:=.int .i8 (.negSucc n)
def J1 (n:Nat):Value:=.int .i16 (.ofNat n)
def J1m (n:Nat):Value:=.int .i16 (.negSucc n)
def J2 (n:Nat):Value:=.int .i32 (.ofNat n)
def J2m (n:Nat):Value:=.int .i32 (.negSucc n)
def J3 (n:Nat):Value:=.int .i64 (.ofNat n)
def J3m (n:Nat):Value:=.int .i64 (.negSucc n)
def J4 (n:Nat):Value:=.int .u8 (.ofNat n)
def J4m (n:Nat):Value:=.int .u8 (.negSucc n)
def J5 (n:Nat):Value:=.int .u16 (.ofNat n)
def J5m (n:Nat):Value:=.int .u16 (.negSucc n)
def J6 (n:Nat):Value:=.int .u32 (.ofNat n)
def J6m (n:Nat):Value:=.int .u32 (.negSucc n)
def J7 (n:Nat):Value:=.int .u64 (.ofNat n)
def J7m (n:Nat):Value:=.int .u64 (.negSucc n)
def Jp (b o:Nat):Value:=.pointer (some ⟨b,o,none⟩)
def Js (b o n c:Nat):Value:=.slice (some ⟨b,o,none⟩) n c
def J (v:Value):PT Value:=.node (some v) .leaf .leaf
def K (v:Value) (l r:PT Value):PT Value:=.node (some v) l r
def tL (f:Nat→Value) (l:List Nat):PT Value:=PT.ofList (l.map f) 0 .leaf
def tabs : Tabs := ⟨[(179, "sapper/flash.op", 411), (173, "sapper/flash.op", 410)], [(240, (.add .i32)), (239, .mark), (237, .mark), (236, .nop), (235, (.cas .i32)), (234, .nop)], [379, 42, 44, 56, 58, 83, 453, 9, 170]⟩
theorem ext240:ExtOK Tryz.prog 240 (.add .i32):=ext_add Tryz.func240 (by kernel_rfl) (by kernel_rfl) (by kernel_rfl) (by kernel_rfl)
theorem ext239:ExtOK Tryz.prog 239 .mark:=ext_mark (m:=.releaseMerge) Tryz.func239 (by kernel_rfl) (by kernel_rfl) (by kernel_rfl) (by kernel_rfl)
theorem ext237:ExtOK Tryz.prog 237 .mark:=ext_mark (m:=.acquire) Tryz.func237 (by kernel_rfl) (by kernel_rfl) (by kernel_rfl) (by kernel_rfl)
theorem ext236:ExtOK Tryz.prog 236 .nop:=ext_nop (m:=.enable) Tryz.func236 (by kernel_rfl) (by kernel_rfl) (by kernel_rfl) (by kernel_rfl)
theorem ext235:ExtOK Tryz.prog 235 (.cas .i32):=ext_cas Tryz.func235 (by kernel_rfl) (by kernel_rfl) (by kernel_rfl) (by kernel_rfl)
theorem ext234:ExtOK Tryz.prog 234 .nop:=ext_nop (m:=.disable) Tryz.func234 (by kernel_rfl) (by kernel_rfl) (by kernel_rfl) (by kernel_rfl)
theorem key379:Maps.Keyed Tryz.prog 379∧EqLaw Tryz.prog 379:=key_of Tryz.laidOut (m:=20) (by decide) (of_decide_eq_true (by kernel_rfl)) (by kernel_rfl) (by kernel_rfl) (by kernel_rfl)
theorem key42:Maps.Keyed Tryz.prog 42∧EqLaw Tryz.prog 42:=key_of Tryz.laidOut (m:=20) (by decide) (of_decide_eq_true (by kernel_rfl)) (by kernel_rfl) (by kernel_rfl) (by kernel_rfl)
theorem key44:Maps.Keyed Tryz.prog 44∧EqLaw Tryz.prog 44:=key_of Tryz.laidOut (m:=20) (by decide) (of_decide_eq_true (by kernel_rfl)) (by kernel_rfl) (by kernel_rfl) (by kernel_rfl)
theorem key56:Maps.Keyed Tryz.prog 56∧EqLaw Tryz.prog 56:=key_of Tryz.laidOut (m:=20) (by decide) (of_decide_eq_true (by kernel_rfl)) (by kernel_rfl) (by kernel_rfl) (by kernel_rfl)
theorem key58:Maps.Keyed Tryz.prog 58∧EqLaw Tryz.prog 58:=key_of Tryz.laidOut (m:=20) (by decide) (of_decide_eq_true (by kernel_rfl)) (by kernel_rfl) (by kernel_rfl) (by kernel_rfl)
theorem key83:Maps.Keyed Tryz.prog 83∧EqLaw Tryz.prog 83:=key_of Tryz.laidOut (m:=20) (by decide) (of_decide_eq_true (by kernel_rfl)) (by kernel_rfl) (by kernel_rfl) (by kernel_rfl)
theorem key453:Maps.Keyed Tryz.prog 453∧EqLaw Tryz.prog 453:=key_of Tryz.laidOut (m:=20) (by decide) (of_decide_eq_true (by kernel_rfl)) (by kernel_rfl) (by kernel_rfl) (by kernel_rfl)
theorem key9:Maps.Keyed Tryz.prog 9∧EqLaw Tryz.prog 9:=key_str Tryz.underlying9
theorem key170:Maps.Keyed Tryz.prog 170∧EqLaw Tryz.prog 170:=key_of Tryz.laidOut (m:=20) (by decide) (of_decide_eq_true (by kernel_rfl)) (by kernel_rfl) (by kernel_rfl) (by kernel_rfl)
theorem meth179_411 : MethOK Tryz.prog 179 "sapper/flash.op" 411 := meth_ok (by kernel_rfl)
theorem meth173_410 : MethOK Tryz.prog 173 "sapper/flash.op" 410 := meth_ok (by kernel_rfl)
theorem tabs_ok:Tabs.OK Tryz.prog tabs:=tabs_ok_of ⟨meth179_411,⟨meth173_410,trivial⟩⟩ ⟨ext240,⟨ext239,⟨ext237,⟨ext236,⟨ext235,⟨ext234,trivial⟩⟩⟩⟩⟩⟩ ⟨key379,⟨key42,⟨key44,⟨key56,⟨key58,⟨key83,⟨key453,⟨key9,⟨key170,trivial⟩⟩⟩⟩⟩⟩⟩⟩⟩
noncomputable def envT:Env:=envX Tryz.prog tabs
theorem envT_ok:EnvOK Tryz.prog envT:=envX_ok tabs_ok (by kernel_rfl) (by kernel_rfl)
theorem fnS {g:Nat} (h:(envT.fn g).isSome=true):∃ fi,envT.fn g=some fi:=Option.isSome_iff_exists.1 h
noncomputable def tel0:PT Fun:=.leaf
theorem tel0_ok:TabOK Tryz.prog envT tel0:=TabOK.leaf
theorem Tryz.own:ownKnob Tryz.prog.godebug=none:=by kernel_rfl
end Go.Proofs.YtejgabehfdapjaaGreat
