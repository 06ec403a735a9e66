/- Told runs: what functions of the program come to from a small memory. Conditions: none. -/
import Derived.Test.YtejgabehfdapjaaGreatTold4
import Derived.Test.YtejgabehfdapjaaGreatDenN
namespace Go.Proofs.YtejgabehfdapjaaGreat
open Go.ChangeShapes Go.WideShapes Go.ChangeAt Go.RowKit Go.Conc Go.Den
def a40:List Value:=[(Js 0 0 3 3),(Js 1 0 4 4),(.agg ⟨[(J3 64),(J3 100),(J3 10),(.bool false),(J3 50)]⟩)]
def b40:List (Nat × Bool × AObj):=[(0,false,(.cells (K (J4 111) (J (J4 108)) (J (J4 100))) 3 0)),
  (1,false,(.cells (K (J4 110) (K (J4 101) (J (J4 33)) .leaf) (J (J4 119))) 4 0))]
def c40:Value:=(.tuple ⟨[(Js 25255 0 43 4611686018427387905),(J3 0)]⟩)
def d40:OL:=[(25255,ob50)]
theorem r40:chkRun (denF envT (den envT (tabS tel40) 1000000 60) (xdraw envT (den envT (tabS tel40) 1000000 60)) 1000000 17 a40 (ofL (bare b40) 2)) (bare b40) 2 c40 d40 25256=true:=by kernel_rfl
noncomputable def tel41:PT Fun:=addT tel40 17 (memo a40 b40 2 c40 d40 25256)
theorem tel41_ok:TabOK Tryz.prog envT tel41:=tel40_ok.add (memo_ok (run_of_den envT_ok (tabS_sound envT_ok tel40_ok) r40)) (fnS (by kernel_rfl))
def ob51:AObj:=.cells (tL J4 (List.replicate 64 0)) 64 0
def ob52:AObj:=.cells (tL J4 (List.replicate 64 255)) 64 0
def a41:List Value:=[(Js 0 0 64 64)]
def b41:List (Nat × Bool × AObj):=[(0,false,ob51)]
def c41:Value:=(.tuple ⟨[]⟩)
def d41:OL:=[(0,ob52)]
theorem r41:chkRun (denF envT (den envT (tabS tel41) 1000000 60) (xdraw envT (den envT (tabS tel41) 1000000 60)) 1000000 127 a41 (ofL (bare b41) 1)) (bare b41) 1 c41 d41 1=true:=by kernel_rfl
noncomputable def tel42:PT Fun:=addT tel41 127 (memo a41 b41 1 c41 d41 1)
theorem tel42_ok:TabOK Tryz.prog envT tel42:=tel41_ok.add (memo_ok (run_of_den envT_ok (tabS_sound envT_ok tel41_ok) r41)) (fnS (by kernel_rfl))
def a42:List Value:=[(Js 0 0 64 64)]
def b42:List (Nat × Bool × AObj):=[(0,false,ob52)]
def c42:Value:=(.tuple ⟨[]⟩)
def d42:OL:=[]
theorem r42:chkRun (denF envT (den envT (tabS tel42) 1000000 60) (xdraw envT (den envT (tabS tel42) 1000000 60)) 1000000 127 a42 (ofL (bare b42) 1)) (bare b42) 1 c42 d42 1=true:=by kernel_rfl
noncomputable def tel43:PT Fun:=addT tel42 127 (memo a42 b42 1 c42 d42 1)
theorem tel43_ok:TabOK Tryz.prog envT tel43:=tel42_ok.add (memo_ok (run_of_den envT_ok (tabS_sound envT_ok tel42_ok) r42)) (fnS (by kernel_rfl))
def ob53:AObj:=.cells (PT.ofList [J3 64,J3 2,J3 0,.map (some 4),Js 15 0 3 3,Js 24 0 0 0,Js 466 0 2 4611686018427387907,J3 0,.slice none 0 0,.bool false,.map (some 5),J3 0] 0 .leaf) 12 0
def ob54:AObj:=.cells (tL J4 ([98,116,48,49,1,0,0,0,0,0,0,0,0,1,0,0,0,3,0,0,0,229,212,93,63]++List.replicate 14 0++[205,18,145,252]++List.replicate 21 255)) 64 0
def a43:List Value:=[(.agg ⟨[(J3 64),(J3 2)]⟩),(Js 0 0 3 3),(J3 1)]
def b43:List (Nat × Bool × AObj):=[(0,false,(.cells (K (J4 111) (J (J4 108)) (J (J4 100))) 3 0))]
def c43:Value:=(.tuple ⟨[(Jp 488 0),(J3 0)]⟩)
def d43:OL:=[(488,(.cells (K (Jp 6 0) (K (J3 0) (J (J3 0)) (J (J6 0))) (K (J3 0) (J (J3 0)) (J (.pointer none)))) 7 0)),
  (6,ob53),
  (4,(.map [((.agg ⟨[(J3 2),(J3 0)]⟩),(Jp 74 0)),((.agg ⟨[(J3 2),(J3 1)]⟩),(Jp 133 0))] [0,1] 2)),
  (24,(.cells .leaf 0 0)),
  (15,(.cells (K (J4 111) (J (J4 108)) (J (J4 100))) 3 0)),
  (466,(.cells (K (J3 1) (K (J3 2) (J (J3 2)) (J (J3 0))) (K (J3 0) (J (J3 2)) .leaf)) 6 303)),
  (5,(.map [((.agg ⟨[(J3 2),(J3 0)]⟩),(J3 1))] [0] 1)),
  (74,(.cells (K (Js 67 0 64 64) (J (.bool false)) .leaf) 2 0)),
  (133,(.cells (K (Js 126 0 64 64) (J (.bool true)) .leaf) 2 0)),
  (67,ob54),
  (126,ob52)]
theorem r43:chkRun (denF envT (den envT (tabS tel43) 1000000 60) (xdraw envT (den envT (tabS tel43) 1000000 60)) 1000000 4 a43 (ofL (bare b43) 1)) (bare b43) 1 c43 d43 489=true:=by kernel_rfl
noncomputable def tel44:PT Fun:=addT tel43 4 (memo a43 b43 1 c43 d43 489)
theorem tel44_ok:TabOK Tryz.prog envT tel44:=tel43_ok.add (memo_ok (run_of_den envT_ok (tabS_sound envT_ok tel43_ok) r43)) (fnS (by kernel_rfl))
def a44:List Value:=[(Js 0 0 64 64)]
def b44:List (Nat × Bool × AObj):=[(0,false,ob54)]
def c44:Value:=(.tuple ⟨[(.agg ⟨[(J3 1),(J3 0),(J3 1),(J3 3),(J6 1063113957),(J3 0),(J3 0),(J3 0),(J6 0),(J3 0)]⟩),(J3 0)]⟩)
def d44:OL:=[]
theorem r44:chkRun (denF envT (den envT (tabS tel44) 1000000 60) (xdraw envT (den envT (tabS tel44) 1000000 60)) 1000000 72 a44 (ofL (bare b44) 1)) (bare b44) 1 c44 d44 195=true:=by kernel_rfl
noncomputable def tel45:PT Fun:=addT tel44 72 (memo a44 b44 1 c44 d44 195)
theorem tel45_ok:TabOK Tryz.prog envT tel45:=tel44_ok.add (memo_ok (run_of_den envT_ok (tabS_sound envT_ok tel44_ok) r44)) (fnS (by kernel_rfl))
def ob55:AObj:=.cells (PT.ofList [J3 64,J3 2,J3 0,.map (some 2),Js 4 0 3 3,Js 3 0 0 0,Js 5 0 2 4611686018427387907,J3 0,.slice none 0 0,.bool false,.map (some 6),J3 0] 0 .leaf) 12 0
def ob56:AObj:=.cells (tL J4 ([111,108,100]++List.replicate 61 255)) 64 0
def a45:List Value:=[(Jp 0 0)]
def b45:List (Nat × Bool × AObj):=[(0,true,(.cells (K (Jp 1 0) (K (J3 0) (J (J3 0)) (J (J6 0))) (K (J3 0) (J (J3 0)) (J (.pointer none)))) 7 0)),
  (1,true,ob55),
  (2,true,(.map [((.agg ⟨[(J3 2),(J3 0)]⟩),(Jp 7 0)),((.agg ⟨[(J3 2),(J3 1)]⟩),(Jp 8 0))] [0,1] 2)),
  (3,false,(.cells .leaf 0 0)),
  (4,false,(.cells (K (J4 111) (J (J4 108)) (J (J4 100))) 3 0)),
  (5,false,(.cells (K (J3 1) (K (J3 2) (J (J3 2)) (J (J3 0))) (K (J3 0) (J (J3 2)) .leaf)) 6 303)),
  (6,false,(.map [((.agg ⟨[(J3 2),(J3 0)]⟩),(J3 1))] [0] 1)),
  (7,true,(.cells (K (Js 9 0 64 64) (J (.bool false)) .leaf) 2 0)),
  (8,true,(.cells (K (Js 10 0 64 64) (J (.bool true)) .leaf) 2 0)),
  (9,false,ob54),
  (10,false,ob52)]
def c45:Value:=(.tuple ⟨[(.agg ⟨[(J3 0),(J3 1),(J3 3),(J6 1063113957)]⟩),(J3 0)]⟩)
def d45:OL:=[(0,(.cells (K (Jp 1 0) (K (J3 1) (J (J3 1)) (J (J6 1063113957))) (K (J3 0) (J (J3 3)) (J (.pointer none)))) 7 0)),
  (2,(.map [((.agg ⟨[(J3 2),(J3 0)]⟩),(Jp 7 0)),((.agg ⟨[(J3 2),(J3 1)]⟩),(Jp 8 0)),((.agg ⟨[(J3 0),(J3 0)]⟩),(Jp 351 0))] [0,1,2] 3)),
  (351,(.cells (K (Js 344 0 64 64) (J (.bool false)) .leaf) 2 0)),
  (344,ob56)]
theorem r45:chkRun (denF envT (den envT (tabS tel45) 1000000 60) (xdraw envT (den envT (tabS tel45) 1000000 60)) 1000000 19 a45 (ofL (bare b45) 11)) (bare b45) 11 c45 d45 433=true:=by kernel_rfl
noncomputable def tel46:PT Fun:=addT tel45 19 (memo a45 b45 11 c45 d45 433)
theorem tel46_ok:TabOK Tryz.prog envT tel46:=tel45_ok.add (memo_ok (run_of_den envT_ok (tabS_sound envT_ok tel45_ok) r45)) (fnS (by kernel_rfl))
def a46:List Value:=[(Jp 0 0),(.func (.func 160) ⟨[]⟩ ⟨[]⟩)]
def b46:List (Nat × Bool × AObj):=[(0,true,(.cells (K (J2 1) (K (J6 0) (J (J3 0)) .leaf) (J (.map (some 1)))) 4 0)),
  (1,false,(.map [((.string ⟨#[112,97,103,101]⟩),(.agg ⟨[(J3 64),(J3 64)]⟩))] [0] 1))]
def c46:Value:=(J3 64)
def d46:OL:=[]
theorem r46:mapChk envT (den envT (tabS tel46) 1000000 60) mfi159 mAs159 mAt159 mz159 mB159 0 12 13 14 5 [1,12] [64] 2 2 a46 (bare b46) 2 c46 d46 5=true:=by kernel_rfl
noncomputable def tel47:PT Fun:=addT tel46 159 (memo a46 b46 2 c46 d46 5)
theorem tel47_ok:TabOK Tryz.prog envT tel47:=tel46_ok.add (memo_ok (mapRun envT_ok (den_sound envT_ok (tabS_sound envT_ok tel46_ok) 1000000 60) mE159 mbody159 mops159 mh0159 mh1159 mh2159 mh3159 mh4159 mh5159 r46)) (fnS (by kernel_rfl))
def ob57:AObj:=.map [((.string ⟨#[112,97,103,101]⟩),(.agg ⟨[(J3 64),(J3 64)]⟩)),((.string ⟨#[115,119,101,108,108]⟩),(.agg ⟨[(J3 3935),(J3 3935)]⟩))] [0,1] 2
def a47:List Value:=[(Jp 0 0),(.func (.func 160) ⟨[]⟩ ⟨[]⟩)]
def b47:List (Nat × Bool × AObj):=[(0,true,(.cells (K (J2 1) (K (J6 0) (J (J3 64)) .leaf) (J (.map (some 1)))) 4 0)),
  (1,false,ob57)]
def c47:Value:=(J3 3999)
def d47:OL:=[]
theorem r47:mapChk envT (den envT (tabS tel47) 1000000 60) mfi159 mAs159 mAt159 mz159 mB159 0 12 13 14 5 [1,12] [64,3935] 2 4 a47 (bare b47) 2 c47 d47 7=true:=by kernel_rfl
noncomputable def tel48:PT Fun:=addT tel47 159 (memo a47 b47 2 c47 d47 7)
theorem tel48_ok:TabOK Tryz.prog envT tel48:=tel47_ok.add (memo_ok (mapRun envT_ok (den_sound envT_ok (tabS_sound envT_ok tel47_ok) 1000000 60) mE159 mbody159 mops159 mh0159 mh1159 mh2159 mh3159 mh4159 mh5159 r47)) (fnS (by kernel_rfl))
def ob58:AObj:=.map [((.string ⟨#[112,97,103,101]⟩),(.agg ⟨[(J3 64),(J3 64)]⟩)),((.string ⟨#[115,119,101,108,108]⟩),(.agg ⟨[(J3 3935),(J3 3935)]⟩)),((.string ⟨#[112,97,114,115,101]⟩),(.agg ⟨[(J3 64),(J3 64)]⟩))] [0,1,2] 3
def a48:List Value:=[(Jp 0 0),(.func (.func 160) ⟨[]⟩ ⟨[]⟩)]
def b48:List (Nat × Bool × AObj):=[(0,true,(.cells (K (J2 1) (K (J6 0) (J (J3 3999)) .leaf) (J (.map (some 1)))) 4 0)),
  (1,false,ob58)]
def c48:Value:=(J3 4063)
def d48:OL:=[]
theorem r48:mapChk envT (den envT (tabS tel48) 1000000 60) mfi159 mAs159 mAt159 mz159 mB159 0 12 13 14 5 [1,12] [64,3935,64] 2 8 a48 (bare b48) 2 c48 d48 9=true:=by kernel_rfl
noncomputable def tel49:PT Fun:=addT tel48 159 (memo a48 b48 2 c48 d48 9)
theorem tel49_ok:TabOK Tryz.prog envT tel49:=tel48_ok.add (memo_ok (mapRun envT_ok (den_sound envT_ok (tabS_sound envT_ok tel48_ok) 1000000 60) mE159 mbody159 mops159 mh0159 mh1159 mh2159 mh3159 mh4159 mh5159 r48)) (fnS (by kernel_rfl))
def ob59:AObj:=.map [((.string ⟨#[112,97,103,101]⟩),(.agg ⟨[(J3 64),(J3 64)]⟩)),((.string ⟨#[115,119,101,108,108]⟩),(.agg ⟨[(J3 3935),(J3 3935)]⟩)),((.string ⟨#[112,97,114,115,101]⟩),(.agg ⟨[(J3 64),(J3 64)]⟩)),((.string ⟨#[99,111,110,116,114,111,108]⟩),(.agg ⟨[(J3 384),(J3 384)]⟩))] [0,1,2,3] 4
def a49:List Value:=[(Jp 0 0),(.func (.func 160) ⟨[]⟩ ⟨[]⟩)]
def b49:List (Nat × Bool × AObj):=[(0,true,(.cells (K (J2 1) (K (J6 0) (J (J3 4063)) .leaf) (J (.map (some 1)))) 4 0)),
  (1,false,ob59)]
def c49:Value:=(J3 4447)
def d49:OL:=[]
theorem r49:mapChk envT (den envT (tabS tel49) 1000000 60) mfi159 mAs159 mAt159 mz159 mB159 0 12 13 14 5 [1,12] [64,3935,64,384] 2 16 a49 (bare b49) 2 c49 d49 11=true:=by kernel_rfl
noncomputable def tel50:PT Fun:=addT tel49 159 (memo a49 b49 2 c49 d49 11)
theorem tel50_ok:TabOK Tryz.prog envT tel50:=tel49_ok.add (memo_ok (mapRun envT_ok (den_sound envT_ok (tabS_sound envT_ok tel49_ok) 1000000 60) mE159 mbody159 mops159 mh0159 mh1159 mh2159 mh3159 mh4159 mh5159 r49)) (fnS (by kernel_rfl))
def ob60:AObj:=.map [((.string ⟨#[112,97,103,101]⟩),(.agg ⟨[(J3 64),(J3 64)]⟩)),((.string ⟨#[115,119,101,108,108]⟩),(.agg ⟨[(J3 3935),(J3 3935)]⟩)),((.string ⟨#[112,97,114,115,101]⟩),(.agg ⟨[(J3 64),(J3 64)]⟩)),((.string ⟨#[99,111,110,116,114,111,108]⟩),(.agg ⟨[(J3 384),(J3 384)]⟩)),((.string ⟨#[100,105,102,102]⟩),(.agg ⟨[(J3 64),(J3 64)]⟩))] [0,1,2,3,4] 5
def a50:List Value:=[(Jp 0 0),(.func (.func 160) ⟨[]⟩ ⟨[]⟩)]
def b50:List (Nat × Bool × AObj):=[(0,true,(.cells (K (J2 1) (K (J6 0) (J (J3 4447)) .leaf) (J (.map (some 1)))) 4 0)),
  (1,false,ob60)]
def c50:Value:=(J3 4511)
def d50:OL:=[]
theorem r50:mapChk envT (den envT (tabS tel50) 1000000 60) mfi159 mAs159 mAt159 mz159 mB159 0 12 13 14 5 [1,12] [64,3935,64,384,64] 2 32 a50 (bare b50) 2 c50 d50 13=true:=by kernel_rfl
noncomputable def tel51:PT Fun:=addT tel50 159 (memo a50 b50 2 c50 d50 13)
theorem tel51_ok:TabOK Tryz.prog envT tel51:=tel50_ok.add (memo_ok (mapRun envT_ok (den_sound envT_ok (tabS_sound envT_ok tel50_ok) 1000000 60) mE159 mbody159 mops159 mh0159 mh1159 mh2159 mh3159 mh4159 mh5159 r50)) (fnS (by kernel_rfl))
def ob61:AObj:=.map [((.string ⟨#[112,97,103,101]⟩),(.agg ⟨[(J3 64),(J3 64)]⟩)),((.string ⟨#[115,119,101,108,108]⟩),(.agg ⟨[(J3 3935),(J3 3935)]⟩)),((.string ⟨#[112,97,114,115,101]⟩),(.agg ⟨[(J3 64),(J3 64)]⟩)),((.string ⟨#[99,111,110,116,114,111,108]⟩),(.agg ⟨[(J3 384),(J3 384)]⟩)),((.string ⟨#[100,105,102,102]⟩),(.agg ⟨[(J3 64),(J3 64)]⟩)),((.string ⟨#[101,120,116,114,97]⟩),(.agg ⟨[(J3 64),(J3 64)]⟩))] [0,1,2,3,4,5] 6
def a51:List Value:=[(Jp 0 0),(.func (.func 160) ⟨[]⟩ ⟨[]⟩)]
def b51:List (Nat × Bool × AObj):=[(0,true,(.cells (K (J2 1) (K (J6 0) (J (J3 4511)) .leaf) (J (.map (some 1)))) 4 0)),
  (1,false,ob61)]
def c51:Value:=(J3 4575)
def d51:OL:=[]
theorem r51:mapChk envT (den envT (tabS tel51) 1000000 60) mfi159 mAs159 mAt159 mz159 mB159 0 12 13 14 5 [1,12] [64,3935,64,384,64,64] 2 64 a51 (bare b51) 2 c51 d51 15=true:=by kernel_rfl
noncomputable def tel52:PT Fun:=addT tel51 159 (memo a51 b51 2 c51 d51 15)
theorem tel52_ok:TabOK Tryz.prog envT tel52:=tel51_ok.add (memo_ok (mapRun envT_ok (den_sound envT_ok (tabS_sound envT_ok tel51_ok) 1000000 60) mE159 mbody159 mops159 mh0159 mh1159 mh2159 mh3159 mh4159 mh5159 r51)) (fnS (by kernel_rfl))
end Go.Proofs.YtejgabehfdapjaaGreat
