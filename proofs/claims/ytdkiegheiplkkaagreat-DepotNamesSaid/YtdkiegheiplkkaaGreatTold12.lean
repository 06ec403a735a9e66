/- Told runs: what functions of the program come to from a small memory. Conditions: none. -/
import Derived.Test.YtdkiegheiplkkaaGreatTold11
namespace Go.Proofs.YtdkiegheiplkkaaGreat
open Go.ChangeShapes Go.WideShapes Go.ChangeAt Go.RowKit Go.Conc Go.Den
def a33 : List Value := [(.agg ⟨[(J3 1), (J3 1), (J6 3904355907), (J6 1908338681), (J3 64), (J3 100)]⟩), (.agg ⟨[(J3 100), (J3 10), (.bool false), (J3 100)]⟩), (Js 0 0 1 4611686018427387908)]
def b33 : List (Nat × Bool × AObj) := [(0, true, .cells (K (J3 0) (K (Js 1 0 1 4611686018427387907) (J (Js 2 0 1 4611686018427387905)) .leaf) (J (.slice none 0 0))) 4),
  (1, false, .cells (K (J3 0) (J (J3 1)) (J (J3 0))) 3),
  (2, false, .cells (J (J4 98)) 1)]
def c33 : Value := (.tuple ⟨[(Js 17986 0 40 4611686018427387905), (J3 0)]⟩)
def d33 : OL := [(17986, .cells (K (J4 83) (K (J4 65) (K (J4 82) (K (J4 64) (K (J4 190) (J (J4 0)) .leaf) (K (J4 0) (J (J4 125)) .leaf)) (K (J4 183) (K (J4 167) (J (J4 0)) .leaf) (J (J4 3)))) (K (J4 1) (K (J4 67) (K (J4 247) (J (J4 75)) .leaf) (J (J4 5))) (K (J4 249) (K (J4 0) (J (J4 150)) .leaf) (J (J4 96))))) (K (J4 80) (K (J4 1) (K (J4 100) (K (J4 113) (J (J4 0)) .leaf) (J (J4 1))) (K (J4 232) (K (J4 204) (J (J4 14)) .leaf) (J (J4 99)))) (K (J4 1) (K (J4 190) (K (J4 21) (J (J4 2)) .leaf) (J (J4 0))) (K (J4 239) (K (J4 3) (J (J4 88)) .leaf) (J (J4 100)))))) 40)]
theorem r33 : chkRun (denF envT (den envT (tabS tel33) 1000000 60) (xdraw envT (den envT (tabS tel33) 1000000 60)) 1000000 38 a33 (ofL (bare b33) 3)) (bare b33) 3 c33 d33 17987 = true := by kernel_rfl
noncomputable def tel34 : PT Fun := addT tel33 38 (memo a33 b33 3 c33 d33 17987)
theorem tel34_ok : TabOK Tryz.prog envT tel34 := tel33_ok.add (memo_ok (run_of_den envT_ok (tabS_sound envT_ok tel33_ok) r33)) (fnS (by kernel_rfl))
end Go.Proofs.YtdkiegheiplkkaaGreat
