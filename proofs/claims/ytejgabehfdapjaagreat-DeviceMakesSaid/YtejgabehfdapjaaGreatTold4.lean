/- Told runs: what functions of the program come to from a small memory. Conditions: none. -/
import Derived.Test.YtejgabehfdapjaaGreatTold3
namespace Go.Proofs.YtejgabehfdapjaaGreat
open Go.ChangeShapes Go.WideShapes Go.ChangeAt Go.RowKit Go.Conc Go.Den
def ob46:AObj:=.cells (tL J3 (List.replicate 33 0++[3]++List.replicate 67 0++[3,0,0,0,0,0,0,0,0,2,0,0,0,0,0,0,0,0,2]++List.replicate 136 0++[2,0])) 258 7
def ob47:AObj:=.cells (tL J3 [18,33,3,1,18,67,3,1,17,8,2,1,17,8,2,1,18,136,2,1,0,1]) 22 767
def a34:List Value:=[(Js 0 0 258 4611686018427387905)]
def b34:List (Nat × Bool × AObj):=[(0,false,ob46)]
def c34:Value:=(.tuple ⟨[(Js 3668 0 11 4611686018427387906),(J3 0)]⟩)
def d34:OL:=[(3668,ob47)]
theorem r34:chkRun (denF envT (den envT (tabS tel34) 1000000 60) (xdraw envT (den envT (tabS tel34) 1000000 60)) 1000000 366 a34 (ofL (bare b34) 1)) (bare b34) 1 c34 d34 3669=true:=by kernel_rfl
noncomputable def tel35:PT Fun:=addT tel34 366 (memo a34 b34 1 c34 d34 3669)
theorem tel35_ok:TabOK Tryz.prog envT tel35:=tel34_ok.add (memo_ok (run_of_den envT_ok (tabS_sound envT_ok tel34_ok) r34)) (fnS (by kernel_rfl))
def ob48:AObj:=.cells (tL J3 ([1,0,3,2]++List.replicate 13 0++[2,3])) 19 760
def ob49:AObj:=.cells (tL J3 ([3,0,2,3]++List.replicate 13 0++[2,2])) 19 0
def a35:List Value:=[(J3 7),(Js 0 0 19 19)]
def b35:List (Nat × Bool × AObj):=[(0,false,ob48)]
def c35:Value:=(.tuple ⟨[(Js 161 0 19 19),(J3 0)]⟩)
def d35:OL:=[(161,ob49)]
theorem r35:chkRun (denF envT (den envT (tabS tel35) 1000000 60) (xdraw envT (den envT (tabS tel35) 1000000 60)) 1000000 335 a35 (ofL (bare b35) 1)) (bare b35) 1 c35 d35 2155=true:=by kernel_rfl
noncomputable def tel36:PT Fun:=addT tel35 335 (memo a35 b35 1 c35 d35 2155)
theorem tel36_ok:TabOK Tryz.prog envT tel36:=tel35_ok.add (memo_ok (run_of_den envT_ok (tabS_sound envT_ok tel35_ok) r35)) (fnS (by kernel_rfl))
def a36:List Value:=[(J3 0),(Js 0 0 4 4)]
def b36:List (Nat × Bool × AObj):=[(0,false,ob17)]
def c36:Value:=(.tuple ⟨[(J3 1),(J3 0)]⟩)
def d36:OL:=[]
theorem r36:chkRun (denF envT (den envT (tabS tel36) 1000000 60) (xdraw envT (den envT (tabS tel36) 1000000 60)) 1000000 228 a36 (ofL (bare b36) 1)) (bare b36) 1 c36 d36 11193=true:=by kernel_rfl
noncomputable def tel37:PT Fun:=addT tel36 228 (memo a36 b36 1 c36 d36 11193)
theorem tel37_ok:TabOK Tryz.prog envT tel37:=tel36_ok.add (memo_ok (run_of_den envT_ok (tabS_sound envT_ok tel36_ok) r36)) (fnS (by kernel_rfl))
def a37:List Value:=[(J3 1),(J3 0),(Js 0 0 4 4)]
def b37:List (Nat × Bool × AObj):=[(0,false,ob17)]
def c37:Value:=(.tuple ⟨[(J3 42),(J3 0)]⟩)
def d37:OL:=[]
theorem r37:chkRun (denF envT (den envT (tabS tel37) 1000000 60) (xdraw envT (den envT (tabS tel37) 1000000 60)) 1000000 229 a37 (ofL (bare b37) 1)) (bare b37) 1 c37 d37 96=true:=by kernel_rfl
noncomputable def tel38:PT Fun:=addT tel37 229 (memo a37 b37 1 c37 d37 96)
theorem tel38_ok:TabOK Tryz.prog envT tel38:=tel37_ok.add (memo_ok (run_of_den envT_ok (tabS_sound envT_ok tel37_ok) r37)) (fnS (by kernel_rfl))
def a38:List Value:=[(Js 0 0 4 4611686018427387905),(.agg ⟨[(J3 100),(J3 10),(.bool false),(J3 50)]⟩)]
def b38:List (Nat × Bool × AObj):=[(0,false,(.cells (K (J4 110) (K (J4 101) (J (J4 33)) .leaf) (J (J4 119))) 4 11))]
def c38:Value:=(.tuple ⟨[(Js 12036 0 6 4611686018427387905),(J3 0)]⟩)
def d38:OL:=[(12036,(.cells (K (J4 203) (K (J4 75) (J (J4 87)) (J (J4 0))) (K (J4 45) (J (J4 4)) .leaf)) 6 11))]
theorem r38:chkRun (denF envT (den envT (tabS tel38) 1000000 60) (xdraw envT (den envT (tabS tel38) 1000000 60)) 1000000 97 a38 (ofL (bare b38) 1)) (bare b38) 1 c38 d38 12037=true:=by kernel_rfl
noncomputable def tel39:PT Fun:=addT tel38 97 (memo a38 b38 1 c38 d38 12037)
theorem tel39_ok:TabOK Tryz.prog envT tel39:=tel38_ok.add (memo_ok (run_of_den envT_ok (tabS_sound envT_ok tel38_ok) r38)) (fnS (by kernel_rfl))
def ob50:AObj:=.cells (tL J4 [83,65,80,82,1,3,4,64,100,229,212,93,63,136,169,182,152,120,167,190,40,0,3,0,4,5,0,6,99,96,97,0,0,203,75,45,87,4,0,217,40,83,66]) 43 11
def a39:List Value:=[(.agg ⟨[(J3 3),(J3 4),(J6 1063113957),(J6 2562107784),(J3 64),(J3 100)]⟩),(.agg ⟨[(J3 100),(J3 10),(.bool false),(J3 50)]⟩),(Js 0 0 1 4611686018427387908)]
def b39:List (Nat × Bool × AObj):=[(0,true,(.cells (K (J3 0) (K (Js 1 0 1 4611686018427387907) (J (Js 2 0 4 4611686018427387905)) .leaf) (J (.slice none 0 0))) 4 401)),
  (1,false,(.cells (K (J3 0) (J (J3 4)) (J (J3 0))) 3 537)),
  (2,false,(.cells (K (J4 110) (K (J4 101) (J (J4 33)) .leaf) (J (J4 119))) 4 11))]
def c39:Value:=(.tuple ⟨[(Js 23262 0 43 4611686018427387905),(J3 0)]⟩)
def d39:OL:=[(23262,ob50)]
theorem r39:chkRun (denF envT (den envT (tabS tel39) 1000000 60) (xdraw envT (den envT (tabS tel39) 1000000 60)) 1000000 49 a39 (ofL (bare b39) 3)) (bare b39) 3 c39 d39 23263=true:=by kernel_rfl
noncomputable def tel40:PT Fun:=addT tel39 49 (memo a39 b39 3 c39 d39 23263)
theorem tel40_ok:TabOK Tryz.prog envT tel40:=tel39_ok.add (memo_ok (run_of_den envT_ok (tabS_sound envT_ok tel39_ok) r39)) (fnS (by kernel_rfl))
end Go.Proofs.YtejgabehfdapjaaGreat
