/- The interpreter's tables of this program, and the empty table of told runs. Conditions: none. -/
import Derived.KernelRfl
import Derived.Test.YtckpjjgpcfacnaaGreatDoorDenL
import Derived.Test.YtckpjjgpcfacnaaGreatDoorLaid
import Derived.Test.YtckpjjgpcfacnaaGreatDoorChecked
namespace Go.Proofs.YtckpjjgpcfacnaaGreatDoor
open Go.ChangeShapes Go.WideShapes Go.ChangeAt Go.RowKit Go.Conc Go.Den
def J0 (n : Nat) : Value := .int .i8 (.ofNat n)
def J0m (n : Nat) : Value := .int .i8 (.negSucc n)
def J1 (n : Nat) : Value := .int .i16 (.ofNat n)
def J1m (n : Nat) : Value := .int .i16 (.negSucc n)
def J2 (n : Nat) : Value := .int .i32 (.ofNat n)
def J2m (n : Nat) : Value := .int .i32 (.negSucc n)
def J3 (n : Nat) : Value := .int .i64 (.ofNat n)
def J3m (n : Nat) : Value := .int .i64 (.negSucc n)
def J4 (n : Nat) : Value := .int .u8 (.ofNat n)
def J4m (n : Nat) : Value := .int .u8 (.negSucc n)
def J5 (n : Nat) : Value := .int .u16 (.ofNat n)
def J5m (n : Nat) : Value := .int .u16 (.negSucc n)
def J6 (n : Nat) : Value := .int .u32 (.ofNat n)
def J6m (n : Nat) : Value := .int .u32 (.negSucc n)
def J7 (n : Nat) : Value := .int .u64 (.ofNat n)
def J7m (n : Nat) : Value := .int .u64 (.negSucc n)
def Jp (b o : Nat) : Value := .pointer (some ⟨b, o, none⟩)
def Js (b o n c : Nat) : Value := .slice (some ⟨b, o, none⟩) n c
def J (v : Value) : PT Value := .node (some v) .leaf .leaf
def K (v : Value) (l r : PT Value) : PT Value := .node (some v) l r
def tabs : Tabs := ⟨[(356, "sapper/flash.op", 503), (354, "sapper/flash.op", 502)], [(340, (.add .i32)), (339, .mark), (337, .mark), (336, .nop), (335, (.cas .i32)), (334, .nop), (140, .idxB), (91, .cntS), (36, .same)], [461, 206, 115, 113, 523, 289, 9]⟩
def glC : PT Value := (K (J4 0) (K (J4 1) (K (J4 2) (K (J4 3) (K (J4 4) (K (J4 5) (J (J4 6)) .leaf) (J (J4 11))) (K (J4 22) (J (J4 16)) (J (J4 10)))) (K (J4 50) (K (J4 36) (J (J4 27)) (J (J4 15))) (K (J4 30) (J (J4 21)) (J (J4 9))))) (K (J4 49) (K (J4 58) (K (J4 47) (J (J4 55)) (J (J4 26))) (K (J4 39) (J (J4 35)) (J (J4 14)))) (K (J4 29) (K (J4 43) (J (J4 41)) (J (J4 20))) (K (J4 18) (J (J4 32)) (J (J4 8)))))) (K (J4 56) (K (J4 57) (K (J4 61) (K (J4 62) (J (J4 63)) (J (J4 54))) (K (J4 53) (J (J4 46)) (J (J4 25)))) (K (J4 38) (K (J4 45) (J (J4 60)) (J (J4 34))) (K (J4 24) (J (J4 52)) (J (J4 13))))) (K (J4 28) (K (J4 42) (K (J4 59) (J (J4 48)) (J (J4 40))) (K (J4 33) (J (J4 44)) (J (J4 19)))) (K (J4 17) (K (J4 51) (J (J4 37)) (J (J4 31))) (K (J4 12) (J (J4 23)) (J (J4 7)))))))
def glTab : AObj := .glob 5 glC
theorem ext340 : ExtOK Tryz.prog 340 (.add .i32) := ext_add Tryz.func340 (by kernel_rfl) (by kernel_rfl) (by kernel_rfl) (by kernel_rfl)
theorem ext339 : ExtOK Tryz.prog 339 .mark := ext_mark (m := .releaseMerge) Tryz.func339 (by kernel_rfl) (by kernel_rfl) (by kernel_rfl) (by kernel_rfl)
theorem ext337 : ExtOK Tryz.prog 337 .mark := ext_mark (m := .acquire) Tryz.func337 (by kernel_rfl) (by kernel_rfl) (by kernel_rfl) (by kernel_rfl)
theorem ext336 : ExtOK Tryz.prog 336 .nop := ext_nop (m := .enable) Tryz.func336 (by kernel_rfl) (by kernel_rfl) (by kernel_rfl) (by kernel_rfl)
theorem ext335 : ExtOK Tryz.prog 335 (.cas .i32) := ext_cas Tryz.func335 (by kernel_rfl) (by kernel_rfl) (by kernel_rfl) (by kernel_rfl)
theorem ext334 : ExtOK Tryz.prog 334 .nop := ext_nop (m := .disable) Tryz.func334 (by kernel_rfl) (by kernel_rfl) (by kernel_rfl) (by kernel_rfl)
theorem ext140 : ExtOK Tryz.prog 140 .idxB := ext_idxB Tryz.func140 (by kernel_rfl) (by kernel_rfl) (by kernel_rfl) (by kernel_rfl)
theorem ext91 : ExtOK Tryz.prog 91 .cntS := ext_cntS Tryz.func91 (by kernel_rfl) (by kernel_rfl) (by kernel_rfl) (by kernel_rfl)
theorem ext36 : ExtOK Tryz.prog 36 .same := ext_same Tryz.func36 (by kernel_rfl) (by kernel_rfl) (by kernel_rfl) (by kernel_rfl)
theorem key461 : Maps.Keyed Tryz.prog 461 ∧ EqLaw Tryz.prog 461 := key_of Tryz.laidOut (m := 20) (by decide) (of_decide_eq_true (by kernel_rfl)) (by kernel_rfl) (by kernel_rfl) (by kernel_rfl)
theorem key206 : Maps.Keyed Tryz.prog 206 ∧ EqLaw Tryz.prog 206 := key_of Tryz.laidOut (m := 20) (by decide) (of_decide_eq_true (by kernel_rfl)) (by kernel_rfl) (by kernel_rfl) (by kernel_rfl)
theorem key115 : Maps.Keyed Tryz.prog 115 ∧ EqLaw Tryz.prog 115 := key_of Tryz.laidOut (m := 20) (by decide) (of_decide_eq_true (by kernel_rfl)) (by kernel_rfl) (by kernel_rfl) (by kernel_rfl)
theorem key113 : Maps.Keyed Tryz.prog 113 ∧ EqLaw Tryz.prog 113 := key_of Tryz.laidOut (m := 20) (by decide) (of_decide_eq_true (by kernel_rfl)) (by kernel_rfl) (by kernel_rfl) (by kernel_rfl)
theorem key523 : Maps.Keyed Tryz.prog 523 ∧ EqLaw Tryz.prog 523 := key_of Tryz.laidOut (m := 20) (by decide) (of_decide_eq_true (by kernel_rfl)) (by kernel_rfl) (by kernel_rfl) (by kernel_rfl)
theorem key289 : Maps.Keyed Tryz.prog 289 ∧ EqLaw Tryz.prog 289 := key_of Tryz.laidOut (m := 20) (by decide) (of_decide_eq_true (by kernel_rfl)) (by kernel_rfl) (by kernel_rfl) (by kernel_rfl)
theorem key9 : Maps.Keyed Tryz.prog 9 ∧ EqLaw Tryz.prog 9 := key_str Tryz.underlying9
theorem meth356_503 : MethOK Tryz.prog 356 "sapper/flash.op" 503 := meth_ok (by kernel_rfl)
theorem meth354_502 : MethOK Tryz.prog 354 "sapper/flash.op" 502 := meth_ok (by kernel_rfl)
theorem tabs_ok : Tabs.OK Tryz.prog tabs := tabs_ok_of ⟨meth356_503, ⟨meth354_502, trivial⟩⟩ ⟨ext340, ⟨ext339, ⟨ext337, ⟨ext336, ⟨ext335, ⟨ext334, ⟨ext140, ⟨ext91, ⟨ext36, trivial⟩⟩⟩⟩⟩⟩⟩⟩⟩ ⟨key461, ⟨key206, ⟨key115, ⟨key113, ⟨key523, ⟨key289, ⟨key9, trivial⟩⟩⟩⟩⟩⟩⟩
noncomputable def envT : Env := envX Tryz.prog tabs
theorem envT_ok : EnvOK Tryz.prog envT := envX_ok tabs_ok (by kernel_rfl) (by kernel_rfl)
theorem fnS {g : Nat} (h : (envT.fn g).isSome = true) : ∃ fi, envT.fn g = some fi := Option.isSome_iff_exists.1 h
noncomputable def tel0 : PT Fun := .leaf
theorem tel0_ok : TabOK Tryz.prog envT tel0 := TabOK.leaf
theorem Tryz.own : ownKnob Tryz.prog.godebug = none := by kernel_rfl
end Go.Proofs.YtckpjjgpcfacnaaGreatDoor
