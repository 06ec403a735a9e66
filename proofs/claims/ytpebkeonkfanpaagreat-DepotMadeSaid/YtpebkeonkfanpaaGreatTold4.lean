/- Told runs: what functions of the program come to from a small memory. Conditions: none. -/
import Derived.Test.YtpebkeonkfanpaaGreatTold3
namespace Go.Proofs.YtpebkeonkfanpaaGreat
open Go.ChangeShapes Go.WideShapes Go.ChangeAt Go.RowKit Go.Conc Go.Den
def a30 : List Value := [(Js 0 0 286 286), (Js 1 0 30 30)]
def b30 : List (Nat × Bool × AObj) := [(0, false, .cells (K (J3 0) (K (J3 0) (K (J3 0) (K (J3 0) (K (J3 0) (K (J3 0) (K (J3 0) (K (J3 0) (J (J3 0)) .leaf) (J (J3 0))) (K (J3 0) (J (J3 0)) (J (J3 0)))) (K (J3 0) (K (J3 0) (K (J3 0) (J (J3 0)) .leaf) (J (J3 0))) (K (J3 0) (J (J3 0)) (J (J3 0))))) (K (J3 0) (K (J3 0) (K (J3 0) (K (J3 0) (J (J3 0)) .leaf) (J (J3 0))) (K (J3 0) (J (J3 0)) (J (J3 0)))) (K (J3 0) (K (J3 0) (K (J3 0) (J (J3 0)) .leaf) (J (J3 0))) (K (J3 0) (J (J3 0)) (J (J3 0)))))) (K (J3 0) (K (J3 0) (K (J3 0) (K (J3 0) (K (J3 0) (J (J3 0)) .leaf) (J (J3 0))) (K (J3 0) (J (J3 0)) (J (J3 0)))) (K (J3 0) (K (J3 0) (K (J3 0) (J (J3 0)) .leaf) (J (J3 0))) (K (J3 0) (J (J3 0)) (J (J3 0))))) (K (J3 0) (K (J3 0) (K (J3 0) (K (J3 0) (J (J3 0)) .leaf) (J (J3 0))) (K (J3 0) (J (J3 0)) (J (J3 0)))) (K (J3 0) (K (J3 0) (K (J3 0) (J (J3 0)) .leaf) (J (J3 0))) (K (J3 0) (J (J3 0)) (J (J3 0))))))) (K (J3 0) (K (J3 0) (K (J3 0) (K (J3 0) (K (J3 0) (K (J3 0) (J (J3 0)) .leaf) (J (J3 0))) (K (J3 0) (J (J3 0)) (J (J3 0)))) (K (J3 0) (K (J3 0) (K (J3 0) (J (J3 0)) .leaf) (J (J3 0))) (K (J3 0) (J (J3 0)) (J (J3 0))))) (K (J3 0) (K (J3 0) (K (J3 0) (K (J3 0) (J (J3 0)) .leaf) (J (J3 0))) (K (J3 0) (J (J3 0)) (J (J3 0)))) (K (J3 0) (K (J3 0) (K (J3 0) (J (J3 0)) .leaf) (J (J3 0))) (K (J3 0) (J (J3 0)) (J (J3 0)))))) (K (J3 0) (K (J3 0) (K (J3 0) (K (J3 0) (K (J3 0) (J (J3 0)) .leaf) (J (J3 0))) (K (J3 0) (J (J3 0)) (J (J3 0)))) (K (J3 0) (K (J3 0) (K (J3 0) (J (J3 0)) .leaf) (J (J3 0))) (K (J3 0) (J (J3 0)) (J (J3 0))))) (K (J3 0) (K (J3 0) (K (J3 0) (K (J3 0) (J (J3 0)) .leaf) (J (J3 0))) (K (J3 0) (J (J3 0)) (J (J3 0)))) (K (J3 0) (K (J3 0) (K (J3 0) (J (J3 0)) .leaf) (J (J3 0))) (K (J3 0) (J (J3 0)) (J (J3 0)))))))) (K (J3 0) (K (J3 0) (K (J3 0) (K (J3 0) (K (J3 0) (K (J3 0) (K (J3 0) (J (J3 1)) .leaf) (J (J3 0))) (K (J3 0) (J (J3 0)) (J (J3 0)))) (K (J3 0) (K (J3 0) (K (J3 0) (J (J3 0)) .leaf) (J (J3 0))) (K (J3 0) (J (J3 0)) (J (J3 0))))) (K (J3 0) (K (J3 0) (K (J3 0) (K (J3 0) (J (J3 0)) .leaf) (J (J3 0))) (K (J3 0) (J (J3 0)) (J (J3 0)))) (K (J3 0) (K (J3 0) (K (J3 0) (J (J3 0)) .leaf) (J (J3 0))) (K (J3 0) (J (J3 0)) (J (J3 0)))))) (K (J3 0) (K (J3 0) (K (J3 0) (K (J3 0) (K (J3 0) (J (J3 0)) .leaf) (J (J3 0))) (K (J3 0) (J (J3 0)) (J (J3 0)))) (K (J3 0) (K (J3 0) (K (J3 0) (J (J3 0)) .leaf) (J (J3 0))) (K (J3 0) (J (J3 0)) (J (J3 0))))) (K (J3 0) (K (J3 0) (K (J3 0) (K (J3 0) (J (J3 0)) .leaf) (J (J3 0))) (K (J3 0) (J (J3 0)) (J (J3 0)))) (K (J3 0) (K (J3 0) (K (J3 0) (J (J3 0)) .leaf) (J (J3 0))) (K (J3 0) (J (J3 0)) (J (J3 0))))))) (K (J3 0) (K (J3 0) (K (J3 0) (K (J3 0) (K (J3 0) (K (J3 0) (J (J3 0)) .leaf) (J (J3 0))) (K (J3 1) (J (J3 0)) (J (J3 0)))) (K (J3 0) (K (J3 0) (K (J3 0) (J (J3 0)) .leaf) (J (J3 0))) (K (J3 0) (J (J3 0)) (J (J3 0))))) (K (J3 0) (K (J3 0) (K (J3 0) (K (J3 0) (J (J3 0)) .leaf) (J (J3 0))) (K (J3 0) (J (J3 0)) (J (J3 0)))) (K (J3 0) (K (J3 0) (K (J3 0) (J (J3 0)) .leaf) (J (J3 0))) (K (J3 0) (J (J3 0)) (J (J3 0)))))) (K (J3 0) (K (J3 0) (K (J3 0) (K (J3 0) (K (J3 0) (J (J3 0)) .leaf) (J (J3 0))) (K (J3 0) (J (J3 0)) (J (J3 0)))) (K (J3 0) (K (J3 0) (K (J3 0) (J (J3 0)) .leaf) (J (J3 0))) (K (J3 0) (J (J3 0)) (J (J3 0))))) (K (J3 0) (K (J3 0) (K (J3 0) (K (J3 0) (J (J3 0)) .leaf) (J (J3 0))) (K (J3 0) (J (J3 0)) (J (J3 0)))) (K (J3 0) (K (J3 0) (J (J3 0)) (J (J3 0))) (K (J3 0) (J (J3 0)) (J (J3 0))))))))) 286),
  (1, false, .cells (K (J3 0) (K (J3 0) (K (J3 0) (K (J3 0) (J (J3 0)) (J (J3 0))) (K (J3 0) (J (J3 0)) (J (J3 0)))) (K (J3 0) (K (J3 0) (J (J3 0)) (J (J3 0))) (K (J3 0) (J (J3 0)) (J (J3 0))))) (K (J3 0) (K (J3 0) (K (J3 0) (J (J3 0)) (J (J3 0))) (K (J3 0) (J (J3 0)) (J (J3 0)))) (K (J3 0) (K (J3 0) (J (J3 0)) (J (J3 0))) (K (J3 0) (J (J3 0)) .leaf)))) 30)]
def c30 : Value := (.tuple ⟨[(J3 98), (J3 0)]⟩)
def d30 : OL := []
theorem r30 : chkRun (denF envT (den envT (tabS tel30) 1000000 60) (xdraw envT (den envT (tabS tel30) 1000000 60)) 1000000 235 a30 (ofL (bare b30) 2)) (bare b30) 2 c30 d30 5195 = true := by kernel_rfl
noncomputable def tel31 : PT Fun := addT tel30 235 (memo a30 b30 2 c30 d30 5195)
theorem tel31_ok : TabOK Tryz.prog envT tel31 := tel30_ok.add (memo_ok (run_of_den envT_ok (tabS_sound envT_ok tel30_ok) r30)) (fnS (by kernel_rfl))
def a31 : List Value := [(J3 1), (J3 0), (Js 0 0 1 1)]
def b31 : List (Nat × Bool × AObj) := [(0, false, .cells (K (J4 98) (J (J3 0)) (J (J3 0))) 3)]
def c31 : Value := (.tuple ⟨[(J3 18), (J3 0)]⟩)
def d31 : OL := []
theorem r31 : chkRun (denF envT (den envT (tabS tel31) 1000000 60) (xdraw envT (den envT (tabS tel31) 1000000 60)) 1000000 192 a31 (ofL (bare b31) 1)) (bare b31) 1 c31 d31 27 = true := by kernel_rfl
noncomputable def tel32 : PT Fun := addT tel31 192 (memo a31 b31 1 c31 d31 27)
theorem tel32_ok : TabOK Tryz.prog envT tel32 := tel31_ok.add (memo_ok (run_of_den envT_ok (tabS_sound envT_ok tel31_ok) r31)) (fnS (by kernel_rfl))
def a32 : List Value := [(Js 0 0 1 4611686018427387905), (.agg ⟨[(J3 100), (J3 10), (.bool false), (J3 100)]⟩)]
def b32 : List (Nat × Bool × AObj) := [(0, false, .cells (J (J4 98)) 1)]
def c32 : Value := (.tuple ⟨[(Js 7188 0 3 4611686018427387905), (J3 0)]⟩)
def d32 : OL := [(7188, .cells (K (J4 75) (J (J4 2)) (J (J4 0))) 3)]
theorem r32 : chkRun (denF envT (den envT (tabS tel32) 1000000 60) (xdraw envT (den envT (tabS tel32) 1000000 60)) 1000000 95 a32 (ofL (bare b32) 1)) (bare b32) 1 c32 d32 7189 = true := by kernel_rfl
noncomputable def tel33 : PT Fun := addT tel32 95 (memo a32 b32 1 c32 d32 7189)
theorem tel33_ok : TabOK Tryz.prog envT tel33 := tel32_ok.add (memo_ok (run_of_den envT_ok (tabS_sound envT_ok tel32_ok) r32)) (fnS (by kernel_rfl))
def a33 : List Value := [(.agg ⟨[(J3 1), (J3 1), (J6 3904355907), (J6 1908338681), (J3 64), (J3 100)]⟩), (.agg ⟨[(J3 100), (J3 10), (.bool false), (J3 100)]⟩), (Js 0 0 1 4611686018427387908)]
def b33 : List (Nat × Bool × AObj) := [(0, true, .cells (K (J3 0) (K (Js 1 0 1 4611686018427387907) (J (Js 2 0 1 4611686018427387905)) .leaf) (J (.slice none 0 0))) 4),
  (1, false, .cells (K (J3 0) (J (J3 1)) (J (J3 0))) 3),
  (2, false, .cells (J (J4 98)) 1)]
def c33 : Value := (.tuple ⟨[(Js 17986 0 40 4611686018427387905), (J3 0)]⟩)
def d33 : OL := [(17986, .cells (K (J4 83) (K (J4 65) (K (J4 82) (K (J4 64) (K (J4 190) (J (J4 0)) .leaf) (K (J4 0) (J (J4 125)) .leaf)) (K (J4 183) (K (J4 167) (J (J4 0)) .leaf) (J (J4 3)))) (K (J4 1) (K (J4 67) (K (J4 247) (J (J4 75)) .leaf) (J (J4 5))) (K (J4 249) (K (J4 0) (J (J4 150)) .leaf) (J (J4 96))))) (K (J4 80) (K (J4 1) (K (J4 100) (K (J4 113) (J (J4 0)) .leaf) (J (J4 1))) (K (J4 232) (K (J4 204) (J (J4 14)) .leaf) (J (J4 99)))) (K (J4 1) (K (J4 190) (K (J4 21) (J (J4 2)) .leaf) (J (J4 0))) (K (J4 239) (K (J4 3) (J (J4 88)) .leaf) (J (J4 100)))))) 40)]
theorem r33 : chkRun (denF envT (den envT (tabS tel33) 1000000 60) (xdraw envT (den envT (tabS tel33) 1000000 60)) 1000000 51 a33 (ofL (bare b33) 3)) (bare b33) 3 c33 d33 17987 = true := by kernel_rfl
noncomputable def tel34 : PT Fun := addT tel33 51 (memo a33 b33 3 c33 d33 17987)
theorem tel34_ok : TabOK Tryz.prog envT tel34 := tel33_ok.add (memo_ok (run_of_den envT_ok (tabS_sound envT_ok tel33_ok) r33)) (fnS (by kernel_rfl))
def a34 : List Value := []
def b34 : List (Nat × Bool × AObj) := []
def c34 : Value := (.bool true)
def d34 : OL := []
theorem r34 : chkRun (denF envT (den envT (tabS tel34) 1000000 60) (xdraw envT (den envT (tabS tel34) 1000000 60)) 1000000 10 a34 (ofL (bare b34) 0)) (bare b34) 0 c34 d34 37417 = true := by kernel_rfl
noncomputable def tel35 : PT Fun := addT tel34 10 (memo a34 b34 0 c34 d34 37417)
theorem tel35_ok : TabOK Tryz.prog envT tel35 := tel34_ok.add (memo_ok (run_of_den envT_ok (tabS_sound envT_ok tel34_ok) r34)) (fnS (by kernel_rfl))
end Go.Proofs.YtpebkeonkfanpaaGreat
