/- Told runs: what functions of the program come to from a small memory. Conditions: none. -/
import Derived.Test.YtegemcnnnngmkaaGreatDTold3
namespace Go.Proofs.YtegemcnnnngmkaaGreat
open Go.ChangeShapes Go.WideShapes Go.ChangeAt Go.RowKit Go.Conc Go.Den
def a34 : List Value := [(Js 0 0 258 4611686018427387905)]
def b34 : List (Nat × Bool × AObj) := [(0, false, .cells (K (J3 0) (K (J3 0) (K (J3 0) (K (J3 0) (K (J3 0) (K (J3 0) (K (J3 0) (K (J3 0) (J (J3 0)) .leaf) (J (J3 0))) (K (J3 0) (J (J3 0)) (J (J3 0)))) (K (J3 0) (K (J3 0) (J (J3 0)) (J (J3 0))) (K (J3 0) (J (J3 0)) (J (J3 0))))) (K (J3 0) (K (J3 0) (K (J3 0) (J (J3 0)) (J (J3 0))) (K (J3 0) (J (J3 0)) (J (J3 0)))) (K (J3 0) (K (J3 0) (J (J3 0)) (J (J3 0))) (K (J3 2) (J (J3 0)) (J (J3 0)))))) (K (J3 0) (K (J3 0) (K (J3 0) (K (J3 0) (J (J3 0)) (J (J3 0))) (K (J3 0) (J (J3 0)) (J (J3 0)))) (K (J3 0) (K (J3 0) (J (J3 0)) (J (J3 0))) (K (J3 0) (J (J3 0)) (J (J3 0))))) (K (J3 0) (K (J3 0) (K (J3 0) (J (J3 0)) (J (J3 0))) (K (J3 0) (J (J3 0)) (J (J3 0)))) (K (J3 0) (K (J3 0) (J (J3 0)) (J (J3 0))) (K (J3 0) (J (J3 0)) (J (J3 0))))))) (K (J3 0) (K (J3 0) (K (J3 0) (K (J3 3) (K (J3 0) (K (J3 0) (J (J3 0)) .leaf) (J (J3 0))) (K (J3 0) (J (J3 0)) (J (J3 0)))) (K (J3 0) (K (J3 0) (J (J3 0)) (J (J3 0))) (K (J3 0) (J (J3 0)) (J (J3 0))))) (K (J3 0) (K (J3 0) (K (J3 0) (J (J3 0)) (J (J3 0))) (K (J3 0) (J (J3 0)) (J (J3 0)))) (K (J3 0) (K (J3 0) (J (J3 0)) (J (J3 0))) (K (J3 0) (J (J3 0)) (J (J3 0)))))) (K (J3 0) (K (J3 0) (K (J3 0) (K (J3 0) (J (J3 0)) (J (J3 0))) (K (J3 3) (J (J3 0)) (J (J3 0)))) (K (J3 0) (K (J3 0) (J (J3 0)) (J (J3 0))) (K (J3 0) (J (J3 0)) (J (J3 0))))) (K (J3 0) (K (J3 0) (K (J3 0) (J (J3 0)) (J (J3 0))) (K (J3 0) (J (J3 0)) (J (J3 0)))) (K (J3 0) (K (J3 0) (J (J3 0)) (J (J3 0))) (K (J3 0) (J (J3 0)) (J (J3 0)))))))) (K (J3 0) (K (J3 0) (K (J3 0) (K (J3 0) (K (J3 0) (K (J3 0) (K (J3 0) (J (J3 2)) .leaf) (J (J3 0))) (K (J3 0) (J (J3 0)) (J (J3 0)))) (K (J3 0) (K (J3 0) (J (J3 0)) (J (J3 0))) (K (J3 0) (J (J3 0)) (J (J3 0))))) (K (J3 0) (K (J3 0) (K (J3 0) (J (J3 0)) (J (J3 0))) (K (J3 0) (J (J3 0)) (J (J3 0)))) (K (J3 0) (K (J3 0) (J (J3 0)) (J (J3 0))) (K (J3 0) (J (J3 0)) (J (J3 0)))))) (K (J3 0) (K (J3 0) (K (J3 0) (K (J3 0) (J (J3 0)) (J (J3 0))) (K (J3 0) (J (J3 0)) (J (J3 0)))) (K (J3 0) (K (J3 0) (J (J3 0)) (J (J3 0))) (K (J3 0) (J (J3 0)) (J (J3 0))))) (K (J3 0) (K (J3 0) (K (J3 0) (J (J3 0)) (J (J3 0))) (K (J3 0) (J (J3 0)) (J (J3 0)))) (K (J3 0) (K (J3 0) (J (J3 0)) (J (J3 0))) (K (J3 0) (J (J3 0)) (J (J3 0))))))) (K (J3 0) (K (J3 0) (K (J3 0) (K (J3 0) (K (J3 0) (J (J3 0)) (J (J3 0))) (K (J3 0) (J (J3 0)) (J (J3 0)))) (K (J3 0) (K (J3 0) (J (J3 0)) (J (J3 0))) (K (J3 0) (J (J3 0)) (J (J3 0))))) (K (J3 0) (K (J3 0) (K (J3 0) (J (J3 0)) (J (J3 0))) (K (J3 0) (J (J3 0)) (J (J3 0)))) (K (J3 0) (K (J3 0) (J (J3 0)) (J (J3 0))) (K (J3 0) (J (J3 0)) (J (J3 0)))))) (K (J3 0) (K (J3 0) (K (J3 0) (K (J3 0) (J (J3 0)) (J (J3 0))) (K (J3 0) (J (J3 0)) (J (J3 0)))) (K (J3 0) (K (J3 0) (J (J3 0)) (J (J3 0))) (K (J3 0) (J (J3 0)) (J (J3 0))))) (K (J3 0) (K (J3 0) (K (J3 0) (J (J3 0)) (J (J3 0))) (K (J3 2) (J (J3 0)) (J (J3 0)))) (K (J3 0) (K (J3 0) (J (J3 0)) (J (J3 0))) (K (J3 0) (J (J3 0)) (J (J3 0))))))))) 258)]
def c34 : Value := (.tuple ⟨[(Js 3668 0 11 4611686018427387906), (J3 0)]⟩)
def d34 : OL := [(3668, .cells (K (J3 18) (K (J3 33) (K (J3 1) (K (J3 1) (J (J3 1)) .leaf) (K (J3 1) (J (J3 1)) .leaf)) (K (J3 67) (K (J3 8) (J (J3 136)) .leaf) (K (J3 8) (J (J3 1)) .leaf))) (K (J3 3) (K (J3 18) (K (J3 17) (J (J3 18)) .leaf) (K (J3 17) (J (J3 0)) .leaf)) (K (J3 3) (K (J3 2) (J (J3 2)) .leaf) (J (J3 2))))) 22)]
theorem r34 : chkRun (denF envT (den envT (tabS tel34) 1000000 60) (xdraw envT (den envT (tabS tel34) 1000000 60)) 1000000 363 a34 (ofL (bare b34) 1)) (bare b34) 1 c34 d34 3669 = true := by kernel_rfl
noncomputable def tel35 : PT Fun := addT tel34 363 (memo a34 b34 1 c34 d34 3669)
theorem tel35_ok : TabOK Tryz.prog envT tel35 := tel34_ok.add (memo_ok (run_of_den envT_ok (tabS_sound envT_ok tel34_ok) r34)) (fnS (by kernel_rfl))
def a35 : List Value := [(J3 7), (Js 0 0 19 19)]
def b35 : List (Nat × Bool × AObj) := [(0, false, .cells (K (J3 1) (K (J3 0) (K (J3 2) (K (J3 0) (J (J3 0)) .leaf) (J (J3 0))) (K (J3 0) (K (J3 0) (J (J3 2)) .leaf) (J (J3 0)))) (K (J3 3) (K (J3 0) (K (J3 0) (J (J3 0)) .leaf) (J (J3 0))) (K (J3 0) (K (J3 0) (J (J3 3)) .leaf) (J (J3 0))))) 19)]
def c35 : Value := (.tuple ⟨[(Js 161 0 19 19), (J3 0)]⟩)
def d35 : OL := [(161, .cells (K (J3 3) (K (J3 0) (K (J3 3) (K (J3 0) (J (J3 0)) .leaf) (J (J3 0))) (K (J3 0) (K (J3 0) (J (J3 2)) .leaf) (J (J3 0)))) (K (J3 2) (K (J3 0) (K (J3 0) (J (J3 0)) .leaf) (J (J3 0))) (K (J3 0) (K (J3 0) (J (J3 2)) .leaf) (J (J3 0))))) 19)]
theorem r35 : chkRun (denF envT (den envT (tabS tel35) 1000000 60) (xdraw envT (den envT (tabS tel35) 1000000 60)) 1000000 350 a35 (ofL (bare b35) 1)) (bare b35) 1 c35 d35 2155 = true := by kernel_rfl
noncomputable def tel36 : PT Fun := addT tel35 350 (memo a35 b35 1 c35 d35 2155)
theorem tel36_ok : TabOK Tryz.prog envT tel36 := tel35_ok.add (memo_ok (run_of_den envT_ok (tabS_sound envT_ok tel35_ok) r35)) (fnS (by kernel_rfl))
def a36 : List Value := [(J3 0), (Js 0 0 4 4)]
def b36 : List (Nat × Bool × AObj) := [(0, false, .cells (K (J4 110) (K (J3 0) (K (J4 101) (J (J3 0)) (J (J3 0))) (K (J3 0) (J (J4 33)) .leaf)) (K (J3 0) (K (J3 0) (J (J3 0)) .leaf) (K (J4 119) (J (J3 0)) .leaf))) 12)]
def c36 : Value := (.tuple ⟨[(J3 1), (J3 0)]⟩)
def d36 : OL := []
theorem r36 : chkRun (denF envT (den envT (tabS tel36) 1000000 60) (xdraw envT (den envT (tabS tel36) 1000000 60)) 1000000 257 a36 (ofL (bare b36) 1)) (bare b36) 1 c36 d36 11193 = true := by kernel_rfl
noncomputable def tel37 : PT Fun := addT tel36 257 (memo a36 b36 1 c36 d36 11193)
theorem tel37_ok : TabOK Tryz.prog envT tel37 := tel36_ok.add (memo_ok (run_of_den envT_ok (tabS_sound envT_ok tel36_ok) r36)) (fnS (by kernel_rfl))
def a37 : List Value := [(J3 1), (J3 0), (Js 0 0 4 4)]
def b37 : List (Nat × Bool × AObj) := [(0, false, .cells (K (J4 110) (K (J3 0) (K (J4 101) (J (J3 0)) (J (J3 0))) (K (J3 0) (J (J4 33)) .leaf)) (K (J3 0) (K (J3 0) (J (J3 0)) .leaf) (K (J4 119) (J (J3 0)) .leaf))) 12)]
def c37 : Value := (.tuple ⟨[(J3 42), (J3 0)]⟩)
def d37 : OL := []
theorem r37 : chkRun (denF envT (den envT (tabS tel37) 1000000 60) (xdraw envT (den envT (tabS tel37) 1000000 60)) 1000000 258 a37 (ofL (bare b37) 1)) (bare b37) 1 c37 d37 96 = true := by kernel_rfl
noncomputable def tel38 : PT Fun := addT tel37 258 (memo a37 b37 1 c37 d37 96)
theorem tel38_ok : TabOK Tryz.prog envT tel38 := tel37_ok.add (memo_ok (run_of_den envT_ok (tabS_sound envT_ok tel37_ok) r37)) (fnS (by kernel_rfl))
def a38 : List Value := [(Js 0 0 4 4611686018427387905), (.agg ⟨[(J3 100), (J3 10), (.bool false), (J3 50)]⟩)]
def b38 : List (Nat × Bool × AObj) := [(0, false, .cells (K (J4 110) (K (J4 101) (J (J4 33)) .leaf) (J (J4 119))) 4)]
def c38 : Value := (.tuple ⟨[(Js 12036 0 6 4611686018427387905), (J3 0)]⟩)
def d38 : OL := [(12036, .cells (K (J4 203) (K (J4 75) (J (J4 87)) (J (J4 0))) (K (J4 45) (J (J4 4)) .leaf)) 6)]
theorem r38 : chkRun (denF envT (den envT (tabS tel38) 1000000 60) (xdraw envT (den envT (tabS tel38) 1000000 60)) 1000000 130 a38 (ofL (bare b38) 1)) (bare b38) 1 c38 d38 12037 = true := by kernel_rfl
noncomputable def tel39 : PT Fun := addT tel38 130 (memo a38 b38 1 c38 d38 12037)
theorem tel39_ok : TabOK Tryz.prog envT tel39 := tel38_ok.add (memo_ok (run_of_den envT_ok (tabS_sound envT_ok tel38_ok) r38)) (fnS (by kernel_rfl))
def a39 : List Value := [(.agg ⟨[(J3 3), (J3 4), (J6 1063113957), (J6 2562107784), (J3 64), (J3 100)]⟩), (.agg ⟨[(J3 100), (J3 10), (.bool false), (J3 50)]⟩), (Js 0 0 1 4611686018427387908)]
def b39 : List (Nat × Bool × AObj) := [(0, true, .cells (K (J3 0) (K (Js 1 0 1 4611686018427387907) (J (Js 2 0 4 4611686018427387905)) .leaf) (J (.slice none 0 0))) 4),
  (1, false, .cells (K (J3 0) (J (J3 4)) (J (J3 0))) 3),
  (2, false, .cells (K (J4 110) (K (J4 101) (J (J4 33)) .leaf) (J (J4 119))) 4)]
def c39 : Value := (.tuple ⟨[(Js 23262 0 43 4611686018427387905), (J3 0)]⟩)
def d39 : OL := [(23262, .cells (K (J4 83) (K (J4 65) (K (J4 82) (K (J4 64) (K (J4 182) (J (J4 0)) .leaf) (K (J4 0) (J (J4 217)) .leaf)) (K (J4 93) (K (J4 190) (J (J4 45)) .leaf) (J (J4 6)))) (K (J4 3) (K (J4 229) (K (J4 120) (J (J4 203)) .leaf) (K (J4 5) (J (J4 83)) .leaf)) (K (J4 136) (K (J4 0) (J (J4 4)) .leaf) (J (J4 96))))) (K (J4 80) (K (J4 1) (K (J4 100) (K (J4 152) (J (J4 0)) .leaf) (K (J4 4) (J (J4 40)) .leaf)) (K (J4 63) (K (J4 40) (J (J4 87)) .leaf) (J (J4 99)))) (K (J4 4) (K (J4 212) (K (J4 167) (J (J4 75)) .leaf) (K (J4 0) (J (J4 66)) .leaf)) (K (J4 169) (K (J4 3) (J (J4 0)) .leaf) (J (J4 97)))))) 43)]
theorem r39 : chkRun (denF envT (den envT (tabS tel39) 1000000 60) (xdraw envT (den envT (tabS tel39) 1000000 60)) 1000000 78 a39 (ofL (bare b39) 3)) (bare b39) 3 c39 d39 23263 = true := by kernel_rfl
noncomputable def tel40 : PT Fun := addT tel39 78 (memo a39 b39 3 c39 d39 23263)
theorem tel40_ok : TabOK Tryz.prog envT tel40 := tel39_ok.add (memo_ok (run_of_den envT_ok (tabS_sound envT_ok tel39_ok) r39)) (fnS (by kernel_rfl))
end Go.Proofs.YtegemcnnnngmkaaGreat
