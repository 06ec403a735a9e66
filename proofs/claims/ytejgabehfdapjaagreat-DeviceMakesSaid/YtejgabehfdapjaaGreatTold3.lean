/- Told runs: what functions of the program come to from a small memory. Conditions: none. -/
import Derived.Test.YtejgabehfdapjaaGreatTold2
namespace Go.Proofs.YtejgabehfdapjaaGreat
open Go.ChangeShapes Go.WideShapes Go.ChangeAt Go.RowKit Go.Conc Go.Den
def ob18:AObj:=.cells (tL J3 (List.replicate 33 0++[1]++List.replicate 67 0++[1,0,0,0,0,0,0,0,0,1,0,0,0,0,0,0,0,0,1]++List.replicate 136 0++[1]++List.replicate 29 0)) 286 1028
def a26:List Value:=[(Js 0 0 286 286)]
def b26:List (Nat × Bool × AObj):=[(0,false,ob18)]
def c26:Value:=(J3 0)
def d26:OL:=[]
theorem r26:chkRun (denF envT (den envT (tabS tel26) 1000000 60) (xdraw envT (den envT (tabS tel26) 1000000 60)) 1000000 359 a26 (ofL (bare b26) 1)) (bare b26) 1 c26 d26 1=true:=by kernel_rfl
noncomputable def tel27:PT Fun:=addT tel26 359 (memo a26 b26 1 c26 d26 1)
theorem tel27_ok:TabOK Tryz.prog envT tel27:=tel26_ok.add (memo_ok (run_of_den envT_ok (tabS_sound envT_ok tel26_ok) r26)) (fnS (by kernel_rfl))
def ob19:AObj:=.cells (PT.ofList [J3 1,J3 33,.slice none 0 0,J3 1,J3 101,.slice none 0 0,J3 1,J3 110,.slice none 0 0,J3 1,J3 119,.slice none 0 0,J3 1,J3 256,.slice none 0 0] 0 .leaf) 15 1091
def a27:List Value:=[(Js 0 0 286 286)]
def b27:List (Nat × Bool × AObj):=[(0,false,ob18)]
def c27:Value:=(Js 10 0 5 4611686018427387907)
def d27:OL:=[(10,ob19)]
theorem r27:chkRun (denF envT (den envT (tabS tel27) 1000000 60) (xdraw envT (den envT (tabS tel27) 1000000 60)) 1000000 360 a27 (ofL (bare b27) 1)) (bare b27) 1 c27 d27 87=true:=by kernel_rfl
noncomputable def tel28:PT Fun:=addT tel27 360 (memo a27 b27 1 c27 d27 87)
theorem tel28_ok:TabOK Tryz.prog envT tel28:=tel27_ok.add (memo_ok (run_of_den envT_ok (tabS_sound envT_ok tel27_ok) r27)) (fnS (by kernel_rfl))
def ob20:AObj:=.cells (PT.ofList [J3 2,J3 0,Js 2 0 2 8,J3 2,J3 0,Js 2 6 2 6,J3 3,J3 0,Js 2 12 2 4,J3 5,J3 0,Js 2 18 2 2] 0 .leaf) 12 1091
def ob21:AObj:=.cells (PT.ofList [J3 1,J3 33,.slice none 0 0,J3 1,J3 101,.slice none 0 0,J3 1,J3 110,.slice none 0 0,J3 1,J3 119,.slice none 0 0,J3 1,J3 256,.slice none 0 0,J3 2,J3 0,Js 3 0 2 7,J3 2,J3 0,Js 3 6 2 5,J3 3,J3 0,Js 3 12 2 3] 0 .leaf) 24 0
def ob22:AObj:=.cells (PT.ofList [J3 1,J3 33,.slice none 0 0,J3 1,J3 101,.slice none 0 0,J3 1,J3 110,.slice none 0 0,J3 1,J3 119,.slice none 0 0,J3 1,J3 256,.slice none 0 0,J3 2,J3 0,Js 0 0 2 4611686018427387907,J3 2,J3 0,Js 0 6 2 4611686018427387907] 0 .leaf) 21 0
def ob23:AObj:=.cells (PT.ofList [J3 1,J3 33,.slice none 0 0,J3 1,J3 101,.slice none 0 0,J3 1,J3 110,.slice none 0 0,J3 1,J3 119,.slice none 0 0,J3 1,J3 256,.slice none 0 0,J3 2,J3 0,Js 2 0 2 8,J3 2,J3 0,Js 2 6 2 6,J3 3,J3 0,Js 2 12 2 4,J3 5,J3 0,Js 2 18 2 2] 0 .leaf) 27 0
def a28:List Value:=[(Js 0 0 5 4611686018427387907),(Js 1 0 4 4611686018427387907)]
def b28:List (Nat × Bool × AObj):=[(0,false,ob19),
  (1,true,ob20),
  (2,true,ob21),
  (3,true,ob22)]
def c28:Value:=(Js 4 0 9 9)
def d28:OL:=[(4,ob23)]
theorem r28:chkRun (denF envT (den envT (tabS tel28) 1000000 60) (xdraw envT (den envT (tabS tel28) 1000000 60)) 1000000 361 a28 (ofL (bare b28) 4)) (bare b28) 4 c28 d28 266=true:=by kernel_rfl
noncomputable def tel29:PT Fun:=addT tel28 361 (memo a28 b28 4 c28 d28 266)
theorem tel29_ok:TabOK Tryz.prog envT tel29:=tel28_ok.add (memo_ok (run_of_den envT_ok (tabS_sound envT_ok tel28_ok) r28)) (fnS (by kernel_rfl))
def ob24:AObj:=.cells (PT.ofList [J3 2,J3 0,Js 2 0 2 9,J3 2,J3 0,Js 2 6 2 7,J3 3,J3 0,Js 2 12 2 5,J3 5,J3 0,Js 2 18 2 3] 0 .leaf) 12 1091
def ob25:AObj:=.cells (PT.ofList [J3 1,J3 33,.slice none 0 0,J3 1,J3 101,.slice none 0 0,J3 1,J3 110,.slice none 0 0,J3 1,J3 119,.slice none 0 0,J3 1,J3 256,.slice none 0 0,J3 2,J3 0,Js 3 0 2 8,J3 2,J3 0,Js 3 6 2 6,J3 3,J3 0,Js 3 12 2 4,J3 5,J3 0,Js 3 18 2 2] 0 .leaf) 27 0
def ob26:AObj:=.cells (PT.ofList [J3 1,J3 33,.slice none 0 0,J3 1,J3 101,.slice none 0 0,J3 1,J3 110,.slice none 0 0,J3 1,J3 119,.slice none 0 0,J3 1,J3 256,.slice none 0 0,J3 2,J3 0,Js 4 0 2 7,J3 2,J3 0,Js 4 6 2 5,J3 3,J3 0,Js 4 12 2 3] 0 .leaf) 24 0
def ob27:AObj:=.cells (PT.ofList [J3 1,J3 33,.slice none 0 0,J3 1,J3 101,.slice none 0 0,J3 1,J3 110,.slice none 0 0,J3 1,J3 119,.slice none 0 0,J3 1,J3 256,.slice none 0 0,J3 2,J3 0,Js 2 0 2 9,J3 2,J3 0,Js 2 6 2 7,J3 3,J3 0,Js 2 12 2 5,J3 5,J3 0,Js 2 18 2 3] 0 .leaf) 27 0
def a29:List Value:=[(Js 0 0 5 4611686018427387907),(Js 1 0 4 4611686018427387907)]
def b29:List (Nat × Bool × AObj):=[(0,false,ob19),
  (1,true,ob24),
  (2,true,ob25),
  (3,true,ob26),
  (4,true,ob22)]
def c29:Value:=(Js 5 0 9 9)
def d29:OL:=[(5,ob27)]
theorem r29:chkRun (denF envT (den envT (tabS tel29) 1000000 60) (xdraw envT (den envT (tabS tel29) 1000000 60)) 1000000 361 a29 (ofL (bare b29) 5)) (bare b29) 5 c29 d29 267=true:=by kernel_rfl
noncomputable def tel30:PT Fun:=addT tel29 361 (memo a29 b29 5 c29 d29 267)
theorem tel30_ok:TabOK Tryz.prog envT tel30:=tel29_ok.add (memo_ok (run_of_den envT_ok (tabS_sound envT_ok tel29_ok) r29)) (fnS (by kernel_rfl))
def ob28:AObj:=.cells (PT.ofList [J3 1,J3 33,.slice none 0 0,J3 1,J3 101,.slice none 0 0,J3 1,J3 110,.slice none 0 0,J3 1,J3 119,.slice none 0 0,J3 1,J3 256,.slice none 0 0,J3 2,J3 0,Js 3 0 2 9,J3 2,J3 0,Js 3 6 2 7,J3 3,J3 0,Js 3 12 2 5,J3 5,J3 0,Js 3 18 2 3] 0 .leaf) 27 0
def ob29:AObj:=.cells (PT.ofList [J3 1,J3 33,.slice none 0 0,J3 1,J3 101,.slice none 0 0,J3 1,J3 110,.slice none 0 0,J3 1,J3 119,.slice none 0 0,J3 1,J3 256,.slice none 0 0,J3 2,J3 0,Js 4 0 2 8,J3 2,J3 0,Js 4 6 2 6,J3 3,J3 0,Js 4 12 2 4,J3 5,J3 0,Js 4 18 2 2] 0 .leaf) 27 0
def ob30:AObj:=.cells (PT.ofList [J3 1,J3 33,.slice none 0 0,J3 1,J3 101,.slice none 0 0,J3 1,J3 110,.slice none 0 0,J3 1,J3 119,.slice none 0 0,J3 1,J3 256,.slice none 0 0,J3 2,J3 0,Js 5 0 2 7,J3 2,J3 0,Js 5 6 2 5,J3 3,J3 0,Js 5 12 2 3] 0 .leaf) 24 0
def a30:List Value:=[(Js 0 0 5 4611686018427387907),(Js 1 0 4 4611686018427387907)]
def b30:List (Nat × Bool × AObj):=[(0,false,ob19),
  (1,true,ob24),
  (2,true,ob28),
  (3,true,ob29),
  (4,true,ob30),
  (5,true,ob22)]
def c30:Value:=(Js 6 0 9 9)
def d30:OL:=[(6,ob27)]
theorem r30:chkRun (denF envT (den envT (tabS tel30) 1000000 60) (xdraw envT (den envT (tabS tel30) 1000000 60)) 1000000 361 a30 (ofL (bare b30) 6)) (bare b30) 6 c30 d30 268=true:=by kernel_rfl
noncomputable def tel31:PT Fun:=addT tel30 361 (memo a30 b30 6 c30 d30 268)
theorem tel31_ok:TabOK Tryz.prog envT tel31:=tel30_ok.add (memo_ok (run_of_den envT_ok (tabS_sound envT_ok tel30_ok) r30)) (fnS (by kernel_rfl))
def ob31:AObj:=.cells (PT.ofList [J3 1,J3 33,.slice none 0 0,J3 1,J3 101,.slice none 0 0,J3 1,J3 110,.slice none 0 0,J3 1,J3 119,.slice none 0 0,J3 1,J3 256,.slice none 0 0,J3 2,J3 0,Js 5 0 2 9,J3 2,J3 0,Js 5 6 2 7,J3 3,J3 0,Js 5 12 2 5,J3 5,J3 0,Js 5 18 2 3] 0 .leaf) 27 0
def ob32:AObj:=.cells (tL J3 (List.replicate 286 0)) 286 0
def ob33:AObj:=.cells (PT.ofList [J3 1,J3 33,.slice none 0 0,J3 1,J3 101,.slice none 0 0,J3 1,J3 110,.slice none 0 0,J3 1,J3 119,.slice none 0 0,J3 1,J3 256,.slice none 0 0,J3 2,J3 0,Js 6 0 2 9,J3 2,J3 0,Js 6 6 2 7,J3 3,J3 0,Js 6 12 2 5,J3 5,J3 0,Js 6 18 2 3] 0 .leaf) 27 0
def ob34:AObj:=.cells (PT.ofList [J3 1,J3 33,.slice none 0 0,J3 1,J3 101,.slice none 0 0,J3 1,J3 110,.slice none 0 0,J3 1,J3 119,.slice none 0 0,J3 1,J3 256,.slice none 0 0,J3 2,J3 0,Js 7 0 2 9,J3 2,J3 0,Js 7 6 2 7,J3 3,J3 0,Js 7 12 2 5,J3 5,J3 0,Js 7 18 2 3] 0 .leaf) 27 0
def ob35:AObj:=.cells (PT.ofList [J3 1,J3 33,.slice none 0 0,J3 1,J3 101,.slice none 0 0,J3 1,J3 110,.slice none 0 0,J3 1,J3 119,.slice none 0 0,J3 1,J3 256,.slice none 0 0,J3 2,J3 0,Js 8 0 2 9,J3 2,J3 0,Js 8 6 2 7,J3 3,J3 0,Js 8 12 2 5,J3 5,J3 0,Js 8 18 2 3] 0 .leaf) 27 0
def ob36:AObj:=.cells (PT.ofList [J3 1,J3 33,.slice none 0 0,J3 1,J3 101,.slice none 0 0,J3 1,J3 110,.slice none 0 0,J3 1,J3 119,.slice none 0 0,J3 1,J3 256,.slice none 0 0,J3 2,J3 0,Js 9 0 2 9,J3 2,J3 0,Js 9 6 2 7,J3 3,J3 0,Js 9 12 2 5,J3 5,J3 0,Js 9 18 2 3] 0 .leaf) 27 0
def ob37:AObj:=.cells (PT.ofList [J3 1,J3 33,.slice none 0 0,J3 1,J3 101,.slice none 0 0,J3 1,J3 110,.slice none 0 0,J3 1,J3 119,.slice none 0 0,J3 1,J3 256,.slice none 0 0,J3 2,J3 0,Js 10 0 2 9,J3 2,J3 0,Js 10 6 2 7,J3 3,J3 0,Js 10 12 2 5,J3 5,J3 0,Js 10 18 2 3] 0 .leaf) 27 0
def ob38:AObj:=.cells (PT.ofList [J3 1,J3 33,.slice none 0 0,J3 1,J3 101,.slice none 0 0,J3 1,J3 110,.slice none 0 0,J3 1,J3 119,.slice none 0 0,J3 1,J3 256,.slice none 0 0,J3 2,J3 0,Js 11 0 2 9,J3 2,J3 0,Js 11 6 2 7,J3 3,J3 0,Js 11 12 2 5,J3 5,J3 0,Js 11 18 2 3] 0 .leaf) 27 0
def ob39:AObj:=.cells (PT.ofList [J3 1,J3 33,.slice none 0 0,J3 1,J3 101,.slice none 0 0,J3 1,J3 110,.slice none 0 0,J3 1,J3 119,.slice none 0 0,J3 1,J3 256,.slice none 0 0,J3 2,J3 0,Js 12 0 2 9,J3 2,J3 0,Js 12 6 2 7,J3 3,J3 0,Js 12 12 2 5,J3 5,J3 0,Js 12 18 2 3] 0 .leaf) 27 0
def ob40:AObj:=.cells (PT.ofList [J3 1,J3 33,.slice none 0 0,J3 1,J3 101,.slice none 0 0,J3 1,J3 110,.slice none 0 0,J3 1,J3 119,.slice none 0 0,J3 1,J3 256,.slice none 0 0,J3 2,J3 0,Js 13 0 2 9,J3 2,J3 0,Js 13 6 2 7,J3 3,J3 0,Js 13 12 2 5,J3 5,J3 0,Js 13 18 2 3] 0 .leaf) 27 0
def ob41:AObj:=.cells (PT.ofList [J3 1,J3 33,.slice none 0 0,J3 1,J3 101,.slice none 0 0,J3 1,J3 110,.slice none 0 0,J3 1,J3 119,.slice none 0 0,J3 1,J3 256,.slice none 0 0,J3 2,J3 0,Js 14 0 2 9,J3 2,J3 0,Js 14 6 2 7,J3 3,J3 0,Js 14 12 2 5,J3 5,J3 0,Js 14 18 2 3] 0 .leaf) 27 0
def ob42:AObj:=.cells (PT.ofList [J3 1,J3 33,.slice none 0 0,J3 1,J3 101,.slice none 0 0,J3 1,J3 110,.slice none 0 0,J3 1,J3 119,.slice none 0 0,J3 1,J3 256,.slice none 0 0,J3 2,J3 0,Js 15 0 2 8,J3 2,J3 0,Js 15 6 2 6,J3 3,J3 0,Js 15 12 2 4,J3 5,J3 0,Js 15 18 2 2] 0 .leaf) 27 0
def ob43:AObj:=.cells (PT.ofList [J3 1,J3 33,.slice none 0 0,J3 1,J3 101,.slice none 0 0,J3 1,J3 110,.slice none 0 0,J3 1,J3 119,.slice none 0 0,J3 1,J3 256,.slice none 0 0,J3 2,J3 0,Js 16 0 2 7,J3 2,J3 0,Js 16 6 2 5,J3 3,J3 0,Js 16 12 2 3] 0 .leaf) 24 0
def ob44:AObj:=.cells (PT.ofList [J3 1,J3 33,.slice none 0 0,J3 1,J3 101,.slice none 0 0,J3 1,J3 110,.slice none 0 0,J3 1,J3 119,.slice none 0 0,J3 1,J3 256,.slice none 0 0,J3 2,J3 0,Js 17 0 2 4611686018427387907,J3 2,J3 0,Js 17 6 2 4611686018427387907] 0 .leaf) 21 0
def ob45:AObj:=.cells (tL J3 (List.replicate 33 0++[3]++List.replicate 67 0++[3,0,0,0,0,0,0,0,0,2,0,0,0,0,0,0,0,0,2]++List.replicate 136 0++[2]++List.replicate 29 0)) 286 0
def a31:List Value:=[(Js 0 0 8 9),(Jp 1 0),(Jp 2 0)]
def b31:List (Nat × Bool × AObj):=[(0,true,ob28),
  (1,true,(.cells (J (Js 4 0 286 286)) 1 670)),
  (2,true,(.cells (J (.func (.func 363) ⟨[]⟩ ⟨[(Jp 1 0),(Jp 2 0)]⟩)) 1 1098)),
  (3,true,ob31),
  (4,false,ob32),
  (5,true,ob33),
  (6,true,ob34),
  (7,true,ob35),
  (8,true,ob36),
  (9,true,ob37),
  (10,true,ob38),
  (11,true,ob39),
  (12,true,ob40),
  (13,true,ob41),
  (14,true,ob42),
  (15,true,ob43),
  (16,true,ob44),
  (17,false,ob19)]
def c31:Value:=(.tuple ⟨[]⟩)
def d31:OL:=[(4,ob45)]
theorem r31:chkRun (denF envT (den envT (tabS tel31) 1000000 60) (xdraw envT (den envT (tabS tel31) 1000000 60)) 1000000 363 a31 (ofL (bare b31) 18)) (bare b31) 18 c31 d31 34=true:=by kernel_rfl
noncomputable def tel32:PT Fun:=addT tel31 363 (memo a31 b31 18 c31 d31 34)
theorem tel32_ok:TabOK Tryz.prog envT tel32:=tel31_ok.add (memo_ok (run_of_den envT_ok (tabS_sound envT_ok tel31_ok) r31)) (fnS (by kernel_rfl))
def a32:List Value:=[(J3 15),(Js 0 0 286 286)]
def b32:List (Nat × Bool × AObj):=[(0,false,ob18)]
def c32:Value:=(.tuple ⟨[(Js 87 0 286 286),(J3 0)]⟩)
def d32:OL:=[(87,ob45)]
theorem r32:chkRun (denF envT (den envT (tabS tel32) 1000000 60) (xdraw envT (den envT (tabS tel32) 1000000 60)) 1000000 335 a32 (ofL (bare b32) 1)) (bare b32) 1 c32 d32 4913=true:=by kernel_rfl
noncomputable def tel33:PT Fun:=addT tel32 335 (memo a32 b32 1 c32 d32 4913)
theorem tel33_ok:TabOK Tryz.prog envT tel33:=tel32_ok.add (memo_ok (run_of_den envT_ok (tabS_sound envT_ok tel32_ok) r32)) (fnS (by kernel_rfl))
def a33:List Value:=[(Js 0 0 286 286)]
def b33:List (Nat × Bool × AObj):=[(0,false,ob45)]
def c33:Value:=(.tuple ⟨[(.agg ⟨[(J3 0),(J3 0),(J3 3),(J3 2),(J3 0),(J3 0),(J3 0),(J3 0),(J3 0),(J3 0),(J3 0),(J3 0),(J3 0),(J3 0),(J3 0),(J3 0)]⟩),(.bool true)]⟩)
def d33:OL:=[]
theorem r33:chkRun (denF envT (den envT (tabS tel33) 1000000 60) (xdraw envT (den envT (tabS tel33) 1000000 60)) 1000000 339 a33 (ofL (bare b33) 1)) (bare b33) 1 c33 d33 3=true:=by kernel_rfl
noncomputable def tel34:PT Fun:=addT tel33 339 (memo a33 b33 1 c33 d33 3)
theorem tel34_ok:TabOK Tryz.prog envT tel34:=tel33_ok.add (memo_ok (run_of_den envT_ok (tabS_sound envT_ok tel33_ok) r33)) (fnS (by kernel_rfl))
end Go.Proofs.YtejgabehfdapjaaGreat
