/- Told runs: what functions of the program come to from a small memory. Conditions: none. -/
import Derived.Test.YtejgabehfdapjaaGreatMapFn
namespace Go.Proofs.YtejgabehfdapjaaGreat
open Go.ChangeShapes Go.WideShapes Go.ChangeAt Go.RowKit Go.Conc Go.Den
def ob0:AObj:=.cells (tL J3 (List.replicate 101 0++[1,1,1,1,1,1,1,1,2,2,2]++List.replicate 144 3)) 256 0
def ob1:AObj:=.cells (tL J3 (List.replicate 100 0++[1,1,1,1,1,1,1,1,2,2,2]++List.replicate 145 3)) 256 0
def a0:List Value:=[(J3 256),(Js 0 0 3 3)]
def b0:List (Nat × Bool × AObj):=[(0,false,(.cells (K (J3 111) (J (J3 108)) (J (J3 100))) 3 0))]
def c0:Value:=(.tuple ⟨[(Js 2 0 256 256),(Js 4 0 256 256)]⟩)
def d0:OL:=[(2,ob0),
  (4,ob1)]
theorem r0:chkRun (denF envT (den envT (tabS tel0) 1000000 60) (xdraw envT (den envT (tabS tel0) 1000000 60)) 1000000 330 a0 (ofL (bare b0) 1)) (bare b0) 1 c0 d0 7=true:=by kernel_rfl
noncomputable def tel1:PT Fun:=addT tel0 330 (memo a0 b0 1 c0 d0 7)
theorem tel1_ok:TabOK Tryz.prog envT tel1:=tel0_ok.add (memo_ok (run_of_den envT_ok (tabS_sound envT_ok tel0_ok) r0)) (fnS (by kernel_rfl))
def a1:List Value:=[(J3 256),(Js 0 0 3 3),(Js 1 0 3 3),(.slice none 0 0)]
def b1:List (Nat × Bool × AObj):=[(0,false,(.cells (K (J3 111) (J (J3 108)) (J (J3 100))) 3 0)),
  (1,false,(.cells (K (.bool false) (J (.bool false)) (J (.bool false))) 3 0))]
def c1:Value:=(Js 2 0 3 3)
def d1:OL:=[(2,(.cells (K (J3 2) (J (J3 1)) (J (J3 0))) 3 0))]
theorem r1:chkRun (denF envT (den envT (tabS tel1) 1000000 60) (xdraw envT (den envT (tabS tel1) 1000000 60)) 1000000 300 a1 (ofL (bare b1) 2)) (bare b1) 2 c1 d1 10=true:=by kernel_rfl
noncomputable def tel2:PT Fun:=addT tel1 300 (memo a1 b1 2 c1 d1 10)
theorem tel2_ok:TabOK Tryz.prog envT tel2:=tel1_ok.add (memo_ok (run_of_den envT_ok (tabS_sound envT_ok tel1_ok) r1)) (fnS (by kernel_rfl))
def ob2:AObj:=.cells (PT.ofList [Jp 1 0,Js 2 0 3 3,Js 3 0 4 4,J3 0,J3 0,J3 0,J3 0,J3 0,J3 0,J3 0,J3 0,.slice none 0 0] 0 .leaf) 12 0
def ob3:AObj:=.cells (PT.ofList [Jp 1 0,Js 2 0 3 3,Js 3 0 4 4,J3 0,J3 0,J3 0,J3 4,J3 0,J3 0,J3 0,J3 3,.slice none 0 0] 0 .leaf) 12 0
def a2:List Value:=[(Jp 0 0)]
def b2:List (Nat × Bool × AObj):=[(0,true,ob2),
  (1,true,(.cells (K (.bool true) (K (Js 4 0 3 3) (J (Js 5 0 3 3)) .leaf) (K (Js 6 0 3 3) (J (Js 7 0 3 3)) .leaf)) 5 0)),
  (2,false,(.cells (K (J4 111) (J (J4 108)) (J (J4 100))) 3 0)),
  (3,false,(.cells (K (J4 110) (K (J4 101) (J (J4 33)) .leaf) (J (J4 119))) 4 0)),
  (4,false,(.cells (K (J4 111) (J (J4 108)) (J (J4 100))) 3 0)),
  (5,false,(.cells (K (J3 2) (J (J3 1)) (J (J3 0))) 3 0)),
  (6,false,(.cells (K (J3 2) (J (J3 1)) (J (J3 0))) 3 0)),
  (7,false,(.cells (K (J3 0) (J (J3 0)) (J (J3 0))) 3 0))]
def c2:Value:=(.tuple ⟨[]⟩)
def d2:OL:=[(0,ob3)]
theorem r2:chkRun (denF envT (den envT (tabS tel2) 1000000 60) (xdraw envT (den envT (tabS tel2) 1000000 60)) 1000000 177 a2 (ofL (bare b2) 8)) (bare b2) 8 c2 d2 1243=true:=by kernel_rfl
noncomputable def tel3:PT Fun:=addT tel2 177 (memo a2 b2 8 c2 d2 1243)
theorem tel3_ok:TabOK Tryz.prog envT tel3:=tel2_ok.add (memo_ok (run_of_den envT_ok (tabS_sound envT_ok tel2_ok) r2)) (fnS (by kernel_rfl))
def ob4:AObj:=.cells (tL J3 (List.replicate 144 8++List.replicate 112 9++List.replicate 24 7++[8,8,8,8,8,8,8,8])) 288 0
def ob5:AObj:=.cells (tL J3 (List.replicate 32 5)) 32 0
def a3:List Value:=[]
def b3:List (Nat × Bool × AObj):=[]
def c3:Value:=(.tuple ⟨[(Js 0 0 288 288),(Js 1 0 32 32)]⟩)
def d3:OL:=[(0,ob4),
  (1,ob5)]
theorem r3:chkRun (denF envT (den envT (tabS tel3) 1000000 60) (xdraw envT (den envT (tabS tel3) 1000000 60)) 1000000 309 a3 (ofL (bare b3) 0)) (bare b3) 0 c3 d3 2=true:=by kernel_rfl
noncomputable def tel4:PT Fun:=addT tel3 309 (memo a3 b3 0 c3 d3 2)
theorem tel4_ok:TabOK Tryz.prog envT tel4:=tel3_ok.add (memo_ok (run_of_den envT_ok (tabS_sound envT_ok tel3_ok) r3)) (fnS (by kernel_rfl))
def a4:List Value:=[(J3 0),(Js 0 0 3 3)]
def b4:List (Nat × Bool × AObj):=[(0,false,(.cells (K (J4 0) (K (J3 0) (K (J4 4) (J (J3 0)) .leaf) (J (J3 0))) (K (J3 0) (K (J3 0) (J (J3 0)) .leaf) (J (J4 0)))) 9 723))]
def c4:Value:=(.tuple ⟨[(J3 34),(J3 0)]⟩)
def d4:OL:=[]
theorem r4:chkRun (denF envT (den envT (tabS tel4) 1000000 60) (xdraw envT (den envT (tabS tel4) 1000000 60)) 1000000 275 a4 (ofL (bare b4) 1)) (bare b4) 1 c4 d4 57=true:=by kernel_rfl
noncomputable def tel5:PT Fun:=addT tel4 275 (memo a4 b4 1 c4 d4 57)
theorem tel5_ok:TabOK Tryz.prog envT tel5:=tel4_ok.add (memo_ok (run_of_den envT_ok (tabS_sound envT_ok tel4_ok) r4)) (fnS (by kernel_rfl))
def ob6:AObj:=.cells (tL J3 ([2,0,0,0,1]++List.replicate 251 0++[1]++List.replicate 29 0)) 286 1028
def a5:List Value:=[(Js 0 0 286 286)]
def b5:List (Nat × Bool × AObj):=[(0,false,ob6)]
def c5:Value:=(J3 0)
def d5:OL:=[]
theorem r5:chkRun (denF envT (den envT (tabS tel5) 1000000 60) (xdraw envT (den envT (tabS tel5) 1000000 60)) 1000000 359 a5 (ofL (bare b5) 1)) (bare b5) 1 c5 d5 1=true:=by kernel_rfl
noncomputable def tel6:PT Fun:=addT tel5 359 (memo a5 b5 1 c5 d5 1)
theorem tel6_ok:TabOK Tryz.prog envT tel6:=tel5_ok.add (memo_ok (run_of_den envT_ok (tabS_sound envT_ok tel5_ok) r5)) (fnS (by kernel_rfl))
def ob7:AObj:=.cells (PT.ofList [J3 1,J3 4,.slice none 0 0,J3 1,J3 256,.slice none 0 0,J3 2,J3 0,.slice none 0 0] 0 .leaf) 9 1091
def a6:List Value:=[(Js 0 0 286 286)]
def b6:List (Nat × Bool × AObj):=[(0,false,ob6)]
def c6:Value:=(Js 6 0 3 4611686018427387907)
def d6:OL:=[(6,ob7)]
theorem r6:chkRun (denF envT (den envT (tabS tel6) 1000000 60) (xdraw envT (den envT (tabS tel6) 1000000 60)) 1000000 360 a6 (ofL (bare b6) 1)) (bare b6) 1 c6 d6 117=true:=by kernel_rfl
noncomputable def tel7:PT Fun:=addT tel6 360 (memo a6 b6 1 c6 d6 117)
theorem tel7_ok:TabOK Tryz.prog envT tel7:=tel6_ok.add (memo_ok (run_of_den envT_ok (tabS_sound envT_ok tel6_ok) r6)) (fnS (by kernel_rfl))
end Go.Proofs.YtejgabehfdapjaaGreat
