/- Told runs: what functions of the program come to from a small memory. Conditions: none. -/
import Derived.Test.YtckpjjgpcfacnaaGreatDoorTold1
namespace Go.Proofs.YtckpjjgpcfacnaaGreatDoor
open Go.ChangeShapes Go.WideShapes Go.ChangeAt Go.RowKit Go.Conc Go.Den
def a18 : List Value := [(Js 0 0 286 286)]
def b18 : List (Nat × Bool × AObj) := [(0, false, ob12)]
def c18 : Value := (.tuple ⟨[(.agg ⟨[(J3 0), (J3 1), (J3 2), (J3 0), (J3 0), (J3 0), (J3 0), (J3 0), (J3 0), (J3 0), (J3 0), (J3 0), (J3 0), (J3 0), (J3 0), (J3 0)]⟩), (.bool true)]⟩)
def d18 : OL := []
theorem r18 : chkRun (denF envT (den envT (tabS tel18) 1000000 60) (xdraw envT (den envT (tabS tel18) 1000000 60)) 1000000 444 a18 (ofL (bare b18) 1)) (bare b18) 1 c18 d18 3 = true := by kernel_rfl
noncomputable def tel19 : PT Fun := addT tel18 444 (memo a18 b18 1 c18 d18 3)
theorem tel19_ok : TabOK Tryz.prog envT tel19 := tel18_ok.add (memo_ok (run_of_den envT_ok (tabS_sound envT_ok tel18_ok) r18)) (fnS (by kernel_rfl))
def a19 : List Value := [(Js 0 0 30 30)]
def b19 : List (Nat × Bool × AObj) := [(0, false, ob11)]
def c19 : Value := (J3 0)
def d19 : OL := []
theorem r19 : chkRun (denF envT (den envT (tabS tel19) 1000000 60) (xdraw envT (den envT (tabS tel19) 1000000 60)) 1000000 443 a19 (ofL (bare b19) 1)) (bare b19) 1 c19 d19 5 = true := by kernel_rfl
noncomputable def tel20 : PT Fun := addT tel19 443 (memo a19 b19 1 c19 d19 5)
theorem tel20_ok : TabOK Tryz.prog envT tel20 := tel19_ok.add (memo_ok (run_of_den envT_ok (tabS_sound envT_ok tel19_ok) r19)) (fnS (by kernel_rfl))
def a20 : List Value := [(Js 0 0 30 30), (J3 1)]
def b20 : List (Nat × Bool × AObj) := [(0, false, ob11)]
def c20 : Value := (Js 0 0 1 30)
def d20 : OL := []
theorem r20 : chkRun (denF envT (den envT (tabS tel20) 1000000 60) (xdraw envT (den envT (tabS tel20) 1000000 60)) 1000000 459 a20 (ofL (bare b20) 1)) (bare b20) 1 c20 d20 1 = true := by kernel_rfl
noncomputable def tel21 : PT Fun := addT tel20 459 (memo a20 b20 1 c20 d20 1)
theorem tel21_ok : TabOK Tryz.prog envT tel21 := tel20_ok.add (memo_ok (run_of_den envT_ok (tabS_sound envT_ok tel20_ok) r20)) (fnS (by kernel_rfl))
def ob13 : AObj := .cells (K (J3 1) (K (J3 0) (K (J3 0) (K (J3 0) (K (J3 0) (K (J3 0) (K (J3 0) (K (J3 0) (J (J3 0)) .leaf) (J (J3 0))) (K (J3 0) (J (J3 0)) (J (J3 0)))) (K (J3 0) (K (J3 0) (J (J3 0)) (J (J3 0))) (K (J3 0) (J (J3 0)) (J (J3 0))))) (K (J3 0) (K (J3 0) (K (J3 0) (J (J3 0)) (J (J3 0))) (K (J3 0) (J (J3 0)) (J (J3 0)))) (K (J3 0) (K (J3 0) (J (J3 0)) (J (J3 0))) (K (J3 0) (J (J3 0)) (J (J3 0)))))) (K (J3 0) (K (J3 0) (K (J3 0) (K (J3 0) (J (J3 0)) (J (J3 0))) (K (J3 0) (J (J3 0)) (J (J3 0)))) (K (J3 0) (K (J3 0) (J (J3 0)) (J (J3 0))) (K (J3 0) (J (J3 0)) (J (J3 0))))) (K (J3 0) (K (J3 0) (K (J3 0) (J (J3 0)) (J (J3 0))) (K (J3 0) (J (J3 0)) (J (J3 0)))) (K (J3 0) (K (J3 0) (J (J3 0)) (J (J3 0))) (K (J3 0) (J (J3 0)) (J (J3 0))))))) (K (J3 0) (K (J3 0) (K (J3 0) (K (J3 0) (K (J3 0) (K (J3 0) (J (J3 0)) .leaf) (J (J3 0))) (K (J3 0) (J (J3 0)) (J (J3 0)))) (K (J3 0) (K (J3 0) (J (J3 0)) (J (J3 0))) (K (J3 0) (J (J3 0)) (J (J3 0))))) (K (J3 0) (K (J3 0) (K (J3 0) (J (J3 0)) (J (J3 0))) (K (J3 0) (J (J3 0)) (J (J3 0)))) (K (J3 0) (K (J3 0) (J (J3 0)) (J (J3 0))) (K (J3 0) (J (J3 0)) (J (J3 0)))))) (K (J3 0) (K (J3 0) (K (J3 0) (K (J3 0) (J (J3 0)) (J (J3 0))) (K (J3 0) (J (J3 0)) (J (J3 0)))) (K (J3 0) (K (J3 0) (J (J3 0)) (J (J3 0))) (K (J3 0) (J (J3 0)) (J (J3 0))))) (K (J3 0) (K (J3 0) (K (J3 0) (J (J3 0)) (J (J3 0))) (K (J3 0) (J (J3 0)) (J (J3 0)))) (K (J3 0) (K (J3 0) (J (J3 0)) (J (J3 0))) (K (J3 0) (J (J3 0)) (J (J3 0)))))))) (K (J3 0) (K (J3 2) (K (J3 0) (K (J3 0) (K (J3 0) (K (J3 0) (K (J3 0) (J (J3 2)) .leaf) (J (J3 0))) (K (J3 0) (J (J3 0)) (J (J3 0)))) (K (J3 0) (K (J3 0) (J (J3 0)) (J (J3 0))) (K (J3 0) (J (J3 0)) (J (J3 0))))) (K (J3 0) (K (J3 0) (K (J3 0) (J (J3 0)) (J (J3 0))) (K (J3 0) (J (J3 0)) (J (J3 0)))) (K (J3 0) (K (J3 0) (J (J3 0)) (J (J3 0))) (K (J3 0) (J (J3 0)) (J (J3 0)))))) (K (J3 0) (K (J3 0) (K (J3 0) (K (J3 0) (J (J3 0)) (J (J3 0))) (K (J3 0) (J (J3 0)) (J (J3 0)))) (K (J3 0) (K (J3 0) (J (J3 0)) (J (J3 0))) (K (J3 0) (J (J3 0)) (J (J3 0))))) (K (J3 0) (K (J3 0) (K (J3 0) (J (J3 0)) (J (J3 0))) (K (J3 0) (J (J3 0)) (J (J3 0)))) (K (J3 0) (K (J3 0) (J (J3 0)) (J (J3 0))) (K (J3 0) (J (J3 0)) (J (J3 0))))))) (K (J3 0) (K (J3 0) (K (J3 0) (K (J3 0) (K (J3 0) (J (J3 0)) (J (J3 0))) (K (J3 0) (J (J3 0)) (J (J3 0)))) (K (J3 0) (K (J3 0) (J (J3 0)) (J (J3 0))) (K (J3 0) (J (J3 0)) (J (J3 0))))) (K (J3 0) (K (J3 0) (K (J3 0) (J (J3 0)) (J (J3 0))) (K (J3 0) (J (J3 0)) (J (J3 0)))) (K (J3 0) (K (J3 0) (J (J3 0)) (J (J3 0))) (K (J3 0) (J (J3 0)) (J (J3 0)))))) (K (J3 0) (K (J3 0) (K (J3 0) (K (J3 0) (J (J3 0)) (J (J3 0))) (K (J3 0) (J (J3 0)) (J (J3 0)))) (K (J3 0) (K (J3 0) (J (J3 0)) (J (J3 0))) (K (J3 0) (J (J3 0)) (J (J3 0))))) (K (J3 0) (K (J3 0) (K (J3 0) (J (J3 0)) (J (J3 0))) (K (J3 0) (J (J3 0)) (J (J3 0)))) (K (J3 0) (K (J3 0) (J (J3 0)) (J (J3 0))) (K (J3 0) (J (J3 0)) (J (J3 0))))))))) 258 7
def ob14 : AObj := .cells (K (J3 1) (K (J3 1) (K (J3 3) (J (J3 138)) (J (J3 1))) (K (J3 1) (J (J3 113)) (J (J3 1)))) (K (J3 17) (K (J3 2) (J (J3 18)) (J (J3 0))) (K (J3 18) (J (J3 2)) .leaf))) 14 931
def a21 : List Value := [(Js 0 0 258 4611686018427387905)]
def b21 : List (Nat × Bool × AObj) := [(0, false, ob13)]
def c21 : Value := (.tuple ⟨[(Js 5230 0 7 4611686018427387906), (J3 0)]⟩)
def d21 : OL := [(5230, ob14)]
theorem r21 : chkRun (denF envT (den envT (tabS tel21) 1000000 60) (xdraw envT (den envT (tabS tel21) 1000000 60)) 1000000 460 a21 (ofL (bare b21) 1)) (bare b21) 1 c21 d21 5231 = true := by kernel_rfl
noncomputable def tel22 : PT Fun := addT tel21 460 (memo a21 b21 1 c21 d21 5231)
theorem tel22_ok : TabOK Tryz.prog envT tel22 := tel21_ok.add (memo_ok (run_of_den envT_ok (tabS_sound envT_ok tel21_ok) r21)) (fnS (by kernel_rfl))
def ob15 : AObj := .cells (K (J3 1) (K (J3 1) (K (J3 0) (K (J3 0) (J (J3 0)) .leaf) (J (J3 0))) (K (J3 0) (K (J3 0) (J (J3 1)) .leaf) (J (J3 0)))) (K (J3 2) (K (J3 0) (K (J3 0) (J (J3 0)) .leaf) (J (J3 0))) (K (J3 0) (K (J3 0) (J (J3 2)) .leaf) (J (J3 0))))) 19 924
def ob16 : AObj := .cells (K (J3 3) (K (J3 3) (K (J3 0) (K (J3 0) (J (J3 0)) .leaf) (J (J3 0))) (K (J3 0) (K (J3 0) (J (J3 2)) .leaf) (J (J3 0)))) (K (J3 2) (K (J3 0) (K (J3 0) (J (J3 0)) .leaf) (J (J3 0))) (K (J3 0) (K (J3 0) (J (J3 2)) .leaf) (J (J3 0))))) 19 0
def a22 : List Value := [(J3 7), (Js 0 0 19 19)]
def b22 : List (Nat × Bool × AObj) := [(0, false, ob15)]
def c22 : Value := (.tuple ⟨[(Js 124 0 19 19), (J3 0)]⟩)
def d22 : OL := [(124, ob16)]
theorem r22 : chkRun (denF envT (den envT (tabS tel22) 1000000 60) (xdraw envT (den envT (tabS tel22) 1000000 60)) 1000000 429 a22 (ofL (bare b22) 1)) (bare b22) 1 c22 d22 2118 = true := by kernel_rfl
noncomputable def tel23 : PT Fun := addT tel22 429 (memo a22 b22 1 c22 d22 2118)
theorem tel23_ok : TabOK Tryz.prog envT tel23 := tel22_ok.add (memo_ok (run_of_den envT_ok (tabS_sound envT_ok tel22_ok) r22)) (fnS (by kernel_rfl))
def a23 : List Value := [(J3 1), (J3 0), (Js 0 0 3 3)]
def b23 : List (Nat × Bool × AObj) := [(0, false, (.cells (K (J4 0) (K (J3 0) (K (J4 4) (J (J3 0)) .leaf) (J (J3 0))) (K (J3 0) (K (J3 0) (J (J3 0)) .leaf) (J (J4 0)))) 9 855))]
def c23 : Value := (.tuple ⟨[(J3 34), (J3 0)]⟩)
def d23 : OL := []
theorem r23 : chkRun (denF envT (den envT (tabS tel23) 1000000 60) (xdraw envT (den envT (tabS tel23) 1000000 60)) 1000000 324 a23 (ofL (bare b23) 1)) (bare b23) 1 c23 d23 73 = true := by kernel_rfl
noncomputable def tel24 : PT Fun := addT tel23 324 (memo a23 b23 1 c23 d23 73)
theorem tel24_ok : TabOK Tryz.prog envT tel24 := tel23_ok.add (memo_ok (run_of_den envT_ok (tabS_sound envT_ok tel23_ok) r23)) (fnS (by kernel_rfl))
end Go.Proofs.YtckpjjgpcfacnaaGreatDoor
