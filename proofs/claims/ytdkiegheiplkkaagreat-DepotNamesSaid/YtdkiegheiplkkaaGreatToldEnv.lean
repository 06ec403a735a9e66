/- The interpreter's tables of this program, and the empty table of told runs. Conditions: none. -/
import Derived.KernelRfl
import Derived.Test.YtdkiegheiplkkaaGreatDenH
import Derived.Test.YtdkiegheiplkkaaGreatLaid
import Derived.Test.YtdkiegheiplkkaaGreatChecked
namespace Go.Proofs.YtdkiegheiplkkaaGreat
open Go.ChangeShapes Go.WideShapes Go.ChangeAt Go.RowKit Go.Conc Go.Den
def J0 (n : Nat) : Value := .int .i8 (.ofNat n)
def J0m (n : Nat) : Value := .int .i8 (.negSucc n)
def J1 (n : Nat) : Value := .int .i16 (.ofNat n)
def J1m (n : Nat) : Value := .int .i16 (.negSucc n)
def J2 (n : Nat) : Value := .int .i32 (.ofNat n)
def J2m (n : Nat) : Value := .int .i32 (.negSucc n)
def J3 (n : Nat) : Value := .int .i64 (.ofNat n)
def J3m (n : Nat) : Value := .int .i64 (.negSucc n)
def J4 (n : Nat) : Value := .int .u8 (.ofNat n)
def J4m (n : Nat) : Value := .int .u8 (.negSucc n)
def J5 (n : Nat) : Value := .int .u16 (.ofNat n)
def J5m (n : Nat) : Value := .int .u16 (.negSucc n)
def J6 (n : Nat) : Value := .int .u32 (.ofNat n)
def J6m (n : Nat) : Value := .int .u32 (.negSucc n)
def J7 (n : Nat) : Value := .int .u64 (.ofNat n)
def J7m (n : Nat) : Value := .int .u64 (.negSucc n)
def Jp (b o : Nat) : Value := .pointer (some ⟨b, o, none⟩)
def Js (b o n c : Nat) : Value := .slice (some ⟨b, o, none⟩) n c
def J (v : Value) : PT Value := .node (some v) .leaf .leaf
def K (v : Value) (l r : PT Value) : PT Value := .node (some v) l r
def tabs : Tabs := ⟨[], [(111, .store), (81, (.load .u32)), (79, (.add .i32)), (78, .mark), (76, .mark), (75, .nop), (74, (.cas .i32)), (73, .nop)], [315, 56, 29]⟩
theorem ext111 : ExtOK Tryz.prog 111 .store := ext_store Tryz.func111 (by kernel_rfl) (by kernel_rfl) (by kernel_rfl) (by kernel_rfl)
theorem ext81 : ExtOK Tryz.prog 81 (.load .u32) := ext_load Tryz.func81 (by kernel_rfl) (by kernel_rfl) (by kernel_rfl) (by kernel_rfl)
theorem ext79 : ExtOK Tryz.prog 79 (.add .i32) := ext_add Tryz.func79 (by kernel_rfl) (by kernel_rfl) (by kernel_rfl) (by kernel_rfl)
theorem ext78 : ExtOK Tryz.prog 78 .mark := ext_mark (m := .releaseMerge) Tryz.func78 (by kernel_rfl) (by kernel_rfl) (by kernel_rfl) (by kernel_rfl)
theorem ext76 : ExtOK Tryz.prog 76 .mark := ext_mark (m := .acquire) Tryz.func76 (by kernel_rfl) (by kernel_rfl) (by kernel_rfl) (by kernel_rfl)
theorem ext75 : ExtOK Tryz.prog 75 .nop := ext_nop (m := .enable) Tryz.func75 (by kernel_rfl) (by kernel_rfl) (by kernel_rfl) (by kernel_rfl)
theorem ext74 : ExtOK Tryz.prog 74 (.cas .i32) := ext_cas Tryz.func74 (by kernel_rfl) (by kernel_rfl) (by kernel_rfl) (by kernel_rfl)
theorem ext73 : ExtOK Tryz.prog 73 .nop := ext_nop (m := .disable) Tryz.func73 (by kernel_rfl) (by kernel_rfl) (by kernel_rfl) (by kernel_rfl)
theorem key315 : Maps.Keyed Tryz.prog 315 := Maps.Keyed.of_law (deep_law_laid Tryz.laidOut (m := 20) (by decide) (of_decide_eq_true (by kernel_rfl)) (by kernel_rfl) (by kernel_rfl))
theorem key56 : Maps.Keyed Tryz.prog 56 := Maps.Keyed.of_law (deep_law_laid Tryz.laidOut (m := 20) (by decide) (of_decide_eq_true (by kernel_rfl)) (by kernel_rfl) (by kernel_rfl))
theorem key29 : Maps.Keyed Tryz.prog 29 := Maps.Keyed.of_law (deep_law_laid Tryz.laidOut (m := 20) (by decide) (of_decide_eq_true (by kernel_rfl)) (by kernel_rfl) (by kernel_rfl))
theorem tabs_ok : Tabs.OK Tryz.prog tabs := tabs_ok_of trivial ⟨ext111, ⟨ext81, ⟨ext79, ⟨ext78, ⟨ext76, ⟨ext75, ⟨ext74, ⟨ext73, trivial⟩⟩⟩⟩⟩⟩⟩⟩ ⟨key315, ⟨key56, ⟨key29, trivial⟩⟩⟩
noncomputable def envT : Env := envX Tryz.prog tabs
theorem envT_ok : EnvOK Tryz.prog envT := envX_ok tabs_ok (by kernel_rfl) (by kernel_rfl)
theorem fnS {g : Nat} (h : (envT.fn g).isSome = true) : ∃ fi, envT.fn g = some fi := Option.isSome_iff_exists.1 h
noncomputable def tel0 : PT Fun := .leaf
theorem tel0_ok : TabOK Tryz.prog envT tel0 := TabOK.leaf
theorem Tryz.own : ownKnob Tryz.prog.godebug = none := by kernel_rfl
end Go.Proofs.YtdkiegheiplkkaaGreat
