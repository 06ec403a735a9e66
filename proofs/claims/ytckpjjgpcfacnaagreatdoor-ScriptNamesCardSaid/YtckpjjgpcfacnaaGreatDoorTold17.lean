/- Told runs: what functions of the program come to from a small memory. Conditions: none. -/
import Derived.Test.YtckpjjgpcfacnaaGreatDoorTold16
namespace Go.Proofs.YtckpjjgpcfacnaaGreatDoor
open Go.ChangeShapes Go.WideShapes Go.ChangeAt Go.RowKit Go.Conc Go.Den
def a88 : List Value := [(.string ⟨#[105, 109, 97, 103, 101, 32, 97, 32, 34, 111, 108, 100, 34, 10, 105, 109, 97, 103, 101, 32, 98, 32, 34, 110, 101, 119, 33, 34, 10, 112, 97, 116, 99, 104, 32, 112, 32, 97, 32, 98, 32, 54, 52, 32, 49, 48, 48, 32, 49, 48, 32, 48, 32, 53, 48, 10, 100, 101, 118, 105, 99, 101, 32, 54, 52, 32, 50, 32, 49, 32, 97, 10, 115, 116, 97, 114, 116, 10, 98, 101, 103, 105, 110, 32, 54, 52, 32, 49, 48, 48, 10, 112, 111, 117, 114, 32, 112, 32, 53, 10, 102, 105, 110, 105, 115, 104, 32, 50, 32, 51, 10, 115, 116, 97, 114, 116, 10, 115, 97, 109, 101, 32, 98, 10, 99, 111, 110, 102, 105, 114, 109, 10, 115, 116, 97, 116, 101, 10]⟩)]
def b88 : List (Nat × Bool × AObj) := [(0, false, (glTab))]
def c88 : Value := (.tuple ⟨[(.string ⟨#[49, 32, 98, 121, 116, 101, 115, 32, 51, 32, 51, 102, 53, 100, 100, 52, 101, 53, 10, 50, 32, 98, 121, 116, 101, 115, 32, 52, 32, 57, 56, 98, 54, 97, 57, 56, 56, 10, 51, 32, 98, 121, 116, 101, 115, 32, 52, 51, 32, 50, 49, 52, 52, 100, 102, 49, 99, 10, 52, 32, 111, 107, 10, 53, 32, 114, 117, 110, 115, 32, 48, 32, 49, 32, 51, 32, 51, 102, 53, 100, 100, 52, 101, 53, 10, 54, 32, 111, 107, 10, 55, 32, 111, 107, 10, 56, 32, 114, 101, 99, 111, 114, 100, 32, 50, 32, 48, 32, 49, 32, 49, 32, 50, 32, 51, 10, 57, 32, 114, 117, 110, 115, 32, 49, 32, 50, 32, 52, 32, 57, 56, 98, 54, 97, 57, 56, 56, 10, 49, 48, 32, 121, 101, 115, 10, 49, 49, 32, 114, 101, 99, 111, 114, 100, 32, 52, 32, 49, 32, 50, 32, 48, 32, 48, 32, 48, 10, 49, 50, 32, 111, 110, 32, 114, 117, 110, 115, 32, 50, 32, 113, 117, 105, 101, 116, 32, 111, 112, 115, 32, 49, 48, 10]⟩), (J3 0), (J3 0)]⟩)
def d88 : OL := []
theorem r88 : chkRun (denF envT (den envT (tabS tel88) 1000000 60) (xdraw envT (den envT (tabS tel88) 1000000 60)) 1000000 6 a88 (ofL (bare b88) 1)) (bare b88) 1 c88 d88 41593 = true := by kernel_rfl
noncomputable def tel89 : PT Fun := addT tel88 6 (memo a88 b88 1 c88 d88 41593)
theorem tel89_ok : TabOK Tryz.prog envT tel89 := tel88_ok.add (memo_ok (run_of_den envT_ok (tabS_sound envT_ok tel88_ok) r88)) (fnS (by kernel_rfl))
def a89 : List Value := []
def b89 : List (Nat × Bool × AObj) := [(0, false, (glTab))]
def c89 : Value := (.bool true)
def d89 : OL := []
theorem r89 : chkRun (denF envT (den envT (tabS tel89) 1000000 60) (xdraw envT (den envT (tabS tel89) 1000000 60)) 1000000 3 a89 (ofL (bare b89) 1)) (bare b89) 1 c89 d89 41593 = true := by kernel_rfl
noncomputable def tel90 : PT Fun := addT tel89 3 (memo a89 b89 1 c89 d89 41593)
theorem tel90_ok : TabOK Tryz.prog envT tel90 := tel89_ok.add (memo_ok (run_of_den envT_ok (tabS_sound envT_ok tel89_ok) r89)) (fnS (by kernel_rfl))
end Go.Proofs.YtckpjjgpcfacnaaGreatDoor
