/- The interpreter's tables of this program, and the empty table of told runs. Conditions: none. -/
import Derived.KernelRfl
import Derived.Test.YtegemcnnnngmkaaGreatDenI
import Derived.Test.YtegemcnnnngmkaaGreatLaid
import Derived.Test.YtegemcnnnngmkaaGreatChecked
namespace Go.Proofs.YtegemcnnnngmkaaGreat
open Go.ChangeShapes Go.WideShapes Go.ChangeAt Go.RowKit Go.Conc Go.Den
def J0 (n : Nat) : Value := .int .i8 (.ofNat n)
def J0m (n : Nat) : Value := .int .i8 (.negSucc n)
def J1 (n : Nat) : Value := .int .i16 (.ofNat n)
def J1m (n : Nat) : Value := .int .i16 (.negSucc n)
def J2 (n : Nat) : Value := .int .i32 (.ofNat n)
def J2m (n : Nat) : Value := .int .i32 (.negSucc n)
def J3 (n : Nat) : Value := .int .i64 (.ofNat n)
def J3m (n : Nat) : Value := .int .i64 (.negSucc n)
def J4 (n : Nat) : Value := .int .u8 (.ofNat n)
def J4m (n : Nat) : Value := .int .u8 (.negSucc n)
def J5 (n : Nat) : Value := .int .u16 (.ofNat n)
def J5m (n : Nat) : Value := .int .u16 (.negSucc n)
def J6 (n : Nat) : Value := .int .u32 (.ofNat n)
def J6m (n : Nat) : Value := .int .u32 (.negSucc n)
def J7 (n : Nat) : Value := .int .u64 (.ofNat n)
def J7m (n : Nat) : Value := .int .u64 (.negSucc n)
def Jp (b o : Nat) : Value := .pointer (some ⟨b, o, none⟩)
def Js (b o n c : Nat) : Value := .slice (some ⟨b, o, none⟩) n c
def J (v : Value) : PT Value := .node (some v) .leaf .leaf
def K (v : Value) (l r : PT Value) : PT Value := .node (some v) l r
def tabs : Tabs := ⟨[(264, "sapper/flash.op", 394), (262, "sapper/flash.op", 393)], [(190, (.add .i32)), (189, .mark), (187, .mark), (186, .nop), (185, (.cas .i32)), (184, .nop)], [236, 65, 72, 35, 429, 9, 189]⟩
theorem ext190 : ExtOK Tryz.prog 190 (.add .i32) := ext_add Tryz.func190 (by kernel_rfl) (by kernel_rfl) (by kernel_rfl) (by kernel_rfl)
theorem ext189 : ExtOK Tryz.prog 189 .mark := ext_mark (m := .releaseMerge) Tryz.func189 (by kernel_rfl) (by kernel_rfl) (by kernel_rfl) (by kernel_rfl)
theorem ext187 : ExtOK Tryz.prog 187 .mark := ext_mark (m := .acquire) Tryz.func187 (by kernel_rfl) (by kernel_rfl) (by kernel_rfl) (by kernel_rfl)
theorem ext186 : ExtOK Tryz.prog 186 .nop := ext_nop (m := .enable) Tryz.func186 (by kernel_rfl) (by kernel_rfl) (by kernel_rfl) (by kernel_rfl)
theorem ext185 : ExtOK Tryz.prog 185 (.cas .i32) := ext_cas Tryz.func185 (by kernel_rfl) (by kernel_rfl) (by kernel_rfl) (by kernel_rfl)
theorem ext184 : ExtOK Tryz.prog 184 .nop := ext_nop (m := .disable) Tryz.func184 (by kernel_rfl) (by kernel_rfl) (by kernel_rfl) (by kernel_rfl)
theorem key236 : Maps.Keyed Tryz.prog 236 ∧ EqLaw Tryz.prog 236 := key_of Tryz.laidOut (m := 20) (by decide) (of_decide_eq_true (by kernel_rfl)) (by kernel_rfl) (by kernel_rfl) (by kernel_rfl)
theorem key65 : Maps.Keyed Tryz.prog 65 ∧ EqLaw Tryz.prog 65 := key_of Tryz.laidOut (m := 20) (by decide) (of_decide_eq_true (by kernel_rfl)) (by kernel_rfl) (by kernel_rfl) (by kernel_rfl)
theorem key72 : Maps.Keyed Tryz.prog 72 ∧ EqLaw Tryz.prog 72 := key_of Tryz.laidOut (m := 20) (by decide) (of_decide_eq_true (by kernel_rfl)) (by kernel_rfl) (by kernel_rfl) (by kernel_rfl)
theorem key35 : Maps.Keyed Tryz.prog 35 ∧ EqLaw Tryz.prog 35 := key_of Tryz.laidOut (m := 20) (by decide) (of_decide_eq_true (by kernel_rfl)) (by kernel_rfl) (by kernel_rfl) (by kernel_rfl)
theorem key429 : Maps.Keyed Tryz.prog 429 ∧ EqLaw Tryz.prog 429 := key_of Tryz.laidOut (m := 20) (by decide) (of_decide_eq_true (by kernel_rfl)) (by kernel_rfl) (by kernel_rfl) (by kernel_rfl)
theorem key9 : Maps.Keyed Tryz.prog 9 ∧ EqLaw Tryz.prog 9 := key_str Tryz.underlying9
theorem key189 : Maps.Keyed Tryz.prog 189 ∧ EqLaw Tryz.prog 189 := key_of Tryz.laidOut (m := 20) (by decide) (of_decide_eq_true (by kernel_rfl)) (by kernel_rfl) (by kernel_rfl) (by kernel_rfl)
theorem meth264_394 : MethOK Tryz.prog 264 "sapper/flash.op" 394 := meth_ok (by kernel_rfl)
theorem meth262_393 : MethOK Tryz.prog 262 "sapper/flash.op" 393 := meth_ok (by kernel_rfl)
theorem tabs_ok : Tabs.OK Tryz.prog tabs := tabs_ok_of ⟨meth264_394, ⟨meth262_393, trivial⟩⟩ ⟨ext190, ⟨ext189, ⟨ext187, ⟨ext186, ⟨ext185, ⟨ext184, trivial⟩⟩⟩⟩⟩⟩ ⟨key236, ⟨key65, ⟨key72, ⟨key35, ⟨key429, ⟨key9, ⟨key189, trivial⟩⟩⟩⟩⟩⟩⟩
noncomputable def envT : Env := envX Tryz.prog tabs
theorem envT_ok : EnvOK Tryz.prog envT := envX_ok tabs_ok (by kernel_rfl) (by kernel_rfl)
theorem fnS {g : Nat} (h : (envT.fn g).isSome = true) : ∃ fi, envT.fn g = some fi := Option.isSome_iff_exists.1 h
noncomputable def tel0 : PT Fun := .leaf
theorem tel0_ok : TabOK Tryz.prog envT tel0 := TabOK.leaf
theorem Tryz.own : ownKnob Tryz.prog.godebug = none := by kernel_rfl
end Go.Proofs.YtegemcnnnngmkaaGreat
