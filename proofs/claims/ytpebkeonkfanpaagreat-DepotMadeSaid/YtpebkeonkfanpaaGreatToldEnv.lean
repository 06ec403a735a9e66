/- The interpreter's tables of this program, and the empty table of told runs. Conditions: none. -/
import Derived.KernelRfl
import Derived.Test.YtpebkeonkfanpaaGreatDenI
import Derived.Test.YtpebkeonkfanpaaGreatLaid
import Derived.Test.YtpebkeonkfanpaaGreatChecked
namespace Go.Proofs.YtpebkeonkfanpaaGreat
open Go.ChangeShapes Go.WideShapes Go.ChangeAt Go.RowKit Go.Conc Go.Den
def J0 (n : Nat) : Value := .int .i8 (.ofNat n)
def J0m (n : Nat) : Value := .int .i8 (.negSucc n)
def J1 (n : Nat) : Value := .int .i16 (.ofNat n)
def J1m (n : Nat) : Value := .int .i16 (.negSucc n)
def J2 (n : Nat) : Value := .int .i32 (.ofNat n)
def J2m (n : Nat) : Value := .int .i32 (.negSucc n)
def J3 (n : Nat) : Value := .int .i64 (.ofNat n)
def J3m (n : Nat) : Value := .int .i64 (.negSucc n)
def J4 (n : Nat) : Value := .int .u8 (.ofNat n)
def J4m (n : Nat) : Value := .int .u8 (.negSucc n)
def J5 (n : Nat) : Value := .int .u16 (.ofNat n)
def J5m (n : Nat) : Value := .int .u16 (.negSucc n)
def J6 (n : Nat) : Value := .int .u32 (.ofNat n)
def J6m (n : Nat) : Value := .int .u32 (.negSucc n)
def J7 (n : Nat) : Value := .int .u64 (.ofNat n)
def J7m (n : Nat) : Value := .int .u64 (.negSucc n)
def Jp (b o : Nat) : Value := .pointer (some ⟨b, o, none⟩)
def Js (b o n c : Nat) : Value := .slice (some ⟨b, o, none⟩) n c
def J (v : Value) : PT Value := .node (some v) .leaf .leaf
def K (v : Value) (l r : PT Value) : PT Value := .node (some v) l r
def tabs : Tabs := ⟨[], [(143, .store), (108, .store), (107, (.load .u64)), (103, (.load .u32)), (101, (.add .i32)), (99, (.cas .i32)), (72, .mark), (69, .mark), (64, .mark), (58, .nop), (57, .nop), (56, .mark)], [326, 61, 28]⟩
theorem ext143 : ExtOK Tryz.prog 143 .store := ext_store Tryz.func143 (by kernel_rfl) (by kernel_rfl) (by kernel_rfl) (by kernel_rfl)
theorem ext108 : ExtOK Tryz.prog 108 .store := ext_store Tryz.func108 (by kernel_rfl) (by kernel_rfl) (by kernel_rfl) (by kernel_rfl)
theorem ext107 : ExtOK Tryz.prog 107 (.load .u64) := ext_load Tryz.func107 (by kernel_rfl) (by kernel_rfl) (by kernel_rfl) (by kernel_rfl)
theorem ext103 : ExtOK Tryz.prog 103 (.load .u32) := ext_load Tryz.func103 (by kernel_rfl) (by kernel_rfl) (by kernel_rfl) (by kernel_rfl)
theorem ext101 : ExtOK Tryz.prog 101 (.add .i32) := ext_add Tryz.func101 (by kernel_rfl) (by kernel_rfl) (by kernel_rfl) (by kernel_rfl)
theorem ext99 : ExtOK Tryz.prog 99 (.cas .i32) := ext_cas Tryz.func99 (by kernel_rfl) (by kernel_rfl) (by kernel_rfl) (by kernel_rfl)
theorem ext72 : ExtOK Tryz.prog 72 .mark := ext_mark (m := .write) Tryz.func72 (by kernel_rfl) (by kernel_rfl) (by kernel_rfl) (by kernel_rfl)
theorem ext69 : ExtOK Tryz.prog 69 .mark := ext_mark (m := .acquire) Tryz.func69 (by kernel_rfl) (by kernel_rfl) (by kernel_rfl) (by kernel_rfl)
theorem ext64 : ExtOK Tryz.prog 64 .mark := ext_mark (m := .read) Tryz.func64 (by kernel_rfl) (by kernel_rfl) (by kernel_rfl) (by kernel_rfl)
theorem ext58 : ExtOK Tryz.prog 58 .nop := ext_nop (m := .enable) Tryz.func58 (by kernel_rfl) (by kernel_rfl) (by kernel_rfl) (by kernel_rfl)
theorem ext57 : ExtOK Tryz.prog 57 .nop := ext_nop (m := .disable) Tryz.func57 (by kernel_rfl) (by kernel_rfl) (by kernel_rfl) (by kernel_rfl)
theorem ext56 : ExtOK Tryz.prog 56 .mark := ext_mark (m := .releaseMerge) Tryz.func56 (by kernel_rfl) (by kernel_rfl) (by kernel_rfl) (by kernel_rfl)
theorem key326 : Maps.Keyed Tryz.prog 326 ∧ EqLaw Tryz.prog 326 := key_of Tryz.laidOut (m := 20) (by decide) (of_decide_eq_true (by kernel_rfl)) (by kernel_rfl) (by kernel_rfl) (by kernel_rfl)
theorem key61 : Maps.Keyed Tryz.prog 61 ∧ EqLaw Tryz.prog 61 := key_of Tryz.laidOut (m := 20) (by decide) (of_decide_eq_true (by kernel_rfl)) (by kernel_rfl) (by kernel_rfl) (by kernel_rfl)
theorem key28 : Maps.Keyed Tryz.prog 28 ∧ EqLaw Tryz.prog 28 := key_of Tryz.laidOut (m := 20) (by decide) (of_decide_eq_true (by kernel_rfl)) (by kernel_rfl) (by kernel_rfl) (by kernel_rfl)
theorem tabs_ok : Tabs.OK Tryz.prog tabs := tabs_ok_of trivial ⟨ext143, ⟨ext108, ⟨ext107, ⟨ext103, ⟨ext101, ⟨ext99, ⟨ext72, ⟨ext69, ⟨ext64, ⟨ext58, ⟨ext57, ⟨ext56, trivial⟩⟩⟩⟩⟩⟩⟩⟩⟩⟩⟩⟩ ⟨key326, ⟨key61, ⟨key28, trivial⟩⟩⟩
noncomputable def envT : Env := envX Tryz.prog tabs
theorem envT_ok : EnvOK Tryz.prog envT := envX_ok tabs_ok (by kernel_rfl) (by kernel_rfl)
theorem fnS {g : Nat} (h : (envT.fn g).isSome = true) : ∃ fi, envT.fn g = some fi := Option.isSome_iff_exists.1 h
noncomputable def tel0 : PT Fun := .leaf
theorem tel0_ok : TabOK Tryz.prog envT tel0 := TabOK.leaf
theorem Tryz.own : ownKnob Tryz.prog.godebug = none := by kernel_rfl
end Go.Proofs.YtpebkeonkfanpaaGreat
