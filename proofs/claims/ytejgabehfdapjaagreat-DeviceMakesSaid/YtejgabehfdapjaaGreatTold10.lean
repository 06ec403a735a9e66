/- Told runs: what functions of the program come to from a small memory. Conditions: none. -/
import Derived.Test.YtejgabehfdapjaaGreatTold9
namespace Go.Proofs.YtejgabehfdapjaaGreat
open Go.ChangeShapes Go.WideShapes Go.ChangeAt Go.RowKit Go.Conc Go.Den
def ob78:AObj:=.cells (tS J3 ([288,0,0,0,0,0,0,0,24,152,112,0,0,0,0,0,0,256,257,258,259,260,261,262,263,264,265,266,267,268,269,270,271,272,273,274,275,276,277,278,279,0,1,2,3,4,5,6,7,8,9,10,11,12,13,14,15,16,17,18,19,20,21,22,23,24,25,26,27,28,29,30,31,32,33,34,35,36,37,38,39,40,41,42,43,44,45,46,47,48,49,50,51,52,53,54,55,56,57,58,59,60,61,62,63,64,65,66,67,68,69,70,71,72,73,74,75,76,77,78,79,80,81,82,83,84,85,86,87,88,89,90,91,92,93,94,95,96,97,98,99,100,101,102,103,104,105,106,107,108,109,110,111,112,113,114,115,116,117,118,119,120,121,122,123,124,125,126,127,128,129,130,131,132,133,134,135,136,137,138,139,140,141,142,143,280,281,282,283,284,285,286,287,144,145,146,147,148,149,150,151,152,153,154,155,156,157]++List.replicate 98 0++[189])) 306 0
def cm56_10:List Value:=[(Jp 0 0),(Js 1 0 288 288),(.chan none),(.chan none),(J3 0),(J3 0),(Jp 8 0),(.bool true),(J3 288),(.chan none),(J3 0),(J3 9),(J3 157),(J3 9),(Jp 0 0),(.bool false),(.bool false),(Jp 0 0),(Jp 0 0),(Jp 0 0),(J3 288),(.bool false),(.bool false),(Js 1 0 288 288),(J3 288),(Jp 0 0),(Jp 0 0),(Jp 0 0),(J3 288),(.bool false),(Js 1 0 288 288),(J3 0),(J3 0),(.bool false),(.chan none),(.tuple ⟨[(.agg ⟨[(J3 0),(J3 0),(J3 0),(J3 0),(J3 0),(J3 0),(J3 0),(J3 24),(J3 152),(J3 112),(J3 0),(J3 0),(J3 0),(J3 0),(J3 0),(J3 0)]⟩),(.bool true)]⟩),(Js 1 0 288 288),(.tuple ⟨[(.agg ⟨[(J3 0),(J3 0),(J3 0),(J3 0),(J3 0),(J3 0),(J3 0),(J3 24),(J3 152),(J3 112),(J3 0),(J3 0),(J3 0),(J3 0),(J3 0),(J3 0)]⟩),(.bool true)]⟩),(.agg ⟨[(J3 0),(J3 0),(J3 0),(J3 0),(J3 0),(J3 0),(J3 0),(J3 24),(J3 152),(J3 112),(J3 0),(J3 0),(J3 0),(J3 0),(J3 0),(J3 0)]⟩),(.bool true),(.agg ⟨[(J3 0),(J3 0),(J3 0),(J3 0),(J3 0),(J3 0),(J3 0),(J3 24),(J3 152),(J3 112),(J3 0),(J3 0),(J3 0),(J3 0),(J3 0),(J3 0)]⟩),(J3 16),(.bool false),(J3 0),(J3 288),(J3 0),(J3 288),(J3 16),(Jp 0 0),(Jp 0 0),(Jp 0 305),(Jp 0 0),(.agg ⟨[(J3 0),(J3 0),(J3 0),(J3 0),(J3 0),(J3 0),(J3 0),(J3 24),(J3 152),(J3 112),(J3 0),(J3 0),(J3 0),(J3 0),(J3 0),(J3 0)]⟩),(Jp 0 0),(Jp 0 1),(J3 9),(.bool true),(J3 9),(Js 1 0 288 288),(J3 288),(J3 157),(.bool true),(J3 157),(Jp 1 157),(J3 9),(Jp 0 0),(Jp 0 0),(Jp 0 305),(J3 189),(J3 288),(.bool false),(J3 9),(J3 9),(.bool true),(.bool true),(J3 9),(.bool true),(.bool true),(Jp 0 0),(Jp 0 0),(Jp 0 0),(Jp 0 305),(J3 189),(J3 157),(Jp 0 0),(Jp 0 17),(Jp 0 206),(Jp 0 0),(Jp 0 0),(Jp 0 305),(J3 188),(J3 189),(Jp 0 0),(Jp 0 305),(J3 157),(J3 9)]
noncomputable def ck56_10:List Item:=[.code (atP fi317.body [2,1,2,2,2,2,2,2,2,2,2,2,1,2,1,1,2,2,1,1,2,2,1,1,2,2,1,1,2,2,2,1,2]),.inBlock 5,.code (atP fi317.body [2,1,2,2,2,2,2,2,2,2,2,2,1,2,1,1,2,2,1,1,2,2,1,1,2,2,2]),.inLoop (atP fi317.body [2,1,2,2,2,2,2,2,2,2,2,2,1,2,1,1,2,2,1,1,2,2,1,1]),.inBlock 4,.inBlock 3,.code (atP fi317.body [2,1,2,2,2,2,2,2,2,2,2,2,1,2,1,1,2,2,2]),.inLoop (atP fi317.body [2,1,2,2,2,2,2,2,2,2,2,2,1,2,1,1]),.inBlock 2,.code (atP fi317.body [2,1,2,2,2,2,2,2,2,2,2,2,2]),.inScope (atP fi317.body [2,1])]
def ch56_10:AH:=⟨1909,(.node (some ob78) (.node (some ob4) .leaf .leaf) (.node none (.node none (.node (some ob75) .leaf .leaf) .leaf) .leaf)),[]⟩
theorem st56_10:stepsF envT (den envT (tabS tel56) 1000000 60) (xdraw envT (den envT (tabS tel56) 1000000 60)) 317 5833 cm56_9 ck56_9 ch56_9=some (cm56_10,ck56_10,ch56_10):=by kernel_rfl
theorem sp56_10:stepsF envT (den envT (tabS tel56) 1000000 60) (xdraw envT (den envT (tabS tel56) 1000000 60)) 317 58581 cm56_0 ck56_0 ch56_0=some (cm56_10,ck56_10,ch56_10):=steps_trans (n:=52748) (m:=5833) sp56_9 st56_10
theorem re56:chkRun (finF envT (den envT (tabS tel56) 1000000 60) fi317 [] (frun envT (den envT (tabS tel56) 1000000 60) (xdraw envT (den envT (tabS tel56) 1000000 60)) 317 none 941419 cm56_10 ck56_10 ch56_10)) (bare b56) 2 c56 d56 2889=true:=by kernel_rfl
theorem r56:chkRun (denF envT (den envT (tabS tel56) 1000000 60) (xdraw envT (den envT (tabS tel56) 1000000 60)) 1000000 317 a56 (ofL (bare b56) 2)) (bare b56) 2 c56 d56 2889=true:=chk_steps (N:=1000000) (n:=58581) (m:=941419) fi317_ok (by kernel_rfl) sp56_10 re56
noncomputable def tel57:PT Fun:=addT tel56 317 (memo a56 b56 2 c56 d56 2889)
theorem tel57_ok:TabOK Tryz.prog envT tel57:=tel56_ok.add (memo_ok (run_of_den envT_ok (tabS_sound envT_ok tel56_ok) r56)) (fnS (by kernel_rfl))
def ob79:AObj:=.cells (tS J3 ([32,0,0,0,0,0,32,0,0,0,0,0,0,0,0,0,0,0,1,2,3,4,5,6,7,8,9,10,11,12,13,14,15,16,17,18,19,20,21,22,23,24,25,26,27,28,29,30,31]++List.replicate 256 0++[32])) 306 0
def a57:List Value:=[(Jp 0 0),(Js 1 0 32 32)]
def b57:List (Nat × Bool × AObj):=[(0,false,ob67),
  (1,false,ob5)]
def c57:Value:=(J3 0)
def d57:OL:=[(0,ob79)]
theorem r57:chkRun (denF envT (den envT (tabS tel57) 1000000 60) (xdraw envT (den envT (tabS tel57) 1000000 60)) 1000000 317 a57 (ofL (bare b57) 2)) (bare b57) 2 c57 d57 329=true:=by kernel_rfl
noncomputable def tel58:PT Fun:=addT tel57 317 (memo a57 b57 2 c57 d57 329)
theorem tel58_ok:TabOK Tryz.prog envT tel58:=tel57_ok.add (memo_ok (run_of_den envT_ok (tabS_sound envT_ok tel57_ok) r57)) (fnS (by kernel_rfl))
def ob80:AObj:=.cells (tV 16 [Jp 1 0,J3 100,J3 3,J7 3084,J3 13,J3 3,Jp 4 0,Jp 2 0,Jp 3 0,J3 4,.bool true,J3 0,J3 0,J3 0,J3 0,J3 0,J3 0,.slice none 0 0]) 18 0
def ob81:AObj:=.cells (tV 16 [Jp 6 0,.func (.func 233) ⟨[(Jp 3 0)]⟩ ⟨[]⟩,J3 0,J3 0,J3 0,J3 0,J3 0,J3 0,J3 0,J3 0,J3 0,J3 0,J3 0,J3 0,J3 0,J3 0,J3 0,J3 0,J3 0,J3 0,J3 0,J3 0,J3 0,J3 0,J3 0,.slice none 0 0,J3 0,J3 0,J3 0,.bool false,.bool false]) 31 0
def ob82:AObj:=.cells (tV 16 [Jp 1 0,J3 100,J3 3,J7 12,J3 5,J3 11,Jp 4 0,Jp 2 0,Jp 3 0,J3 4,.bool true,J3 0,J3 0,J3 0,J3 0,J3 0,J3 0,Js 70 0 1 4611686018427387905]) 18 0
def a58:List Value:=[(Jp 0 0)]
def b58:List (Nat × Bool × AObj):=[(0,true,ob80),
  (1,true,(.cells (K (Js 5 0 100 100) (J (J3 0)) (J (J3 0))) 3 0)),
  (2,false,ob79),
  (3,true,ob81),
  (4,false,ob74),
  (5,false,ob70),
  (6,false,ob71)]
def c58:Value:=(.bool true)
def d58:OL:=[(0,ob82),
  (1,(.cells (K (Js 5 0 100 100) (J (J3 1)) (J (J3 1))) 3 0)),
  (70,(.cells (J (J4 0)) 1 11))]
theorem r58:chkRun (denF envT (den envT (tabS tel58) 1000000 60) (xdraw envT (den envT (tabS tel58) 1000000 60)) 1000000 323 a58 (ofL (bare b58) 7)) (bare b58) 7 c58 d58 71=true:=by kernel_rfl
noncomputable def tel59:PT Fun:=addT tel58 323 (memo a58 b58 7 c58 d58 71)
theorem tel59_ok:TabOK Tryz.prog envT tel59:=tel58_ok.add (memo_ok (run_of_den envT_ok (tabS_sound envT_ok tel58_ok) r58)) (fnS (by kernel_rfl))
def ob83:AObj:=.cells (tV 16 [Jp 2 0,J3 100,J3 3,J7 0,J3 0,J3 0,Jp 5 0,Jp 3 0,Jp 4 0,J3 0,.bool false,J3 0,J3 0,J3 0,J3 0,J3 0,J3 0,.slice none 0 0]) 18 0
def ob84:AObj:=.cells (tV 16 [Jp 7 0,.func (.func 233) ⟨[(Jp 4 0)]⟩ ⟨[]⟩,J3 0,J3 0,J3 0,J3 0,J3 0,J3 0,J3 0,J3 0,J3 0,J3 0,J3 0,J3 0,J3 0,J3 0,J3 0,J3 0,J3 0,J3 0,J3 0,J3 0,J3 0,J3 0,J3 0,.slice none 0 0,J3 0,J3 0,J3 0,.bool false,.bool false]) 31 0
def ob85:AObj:=.cells (tV 16 [Jp 2 0,J3 100,J3 3,J7 0,J3 6,J3 34,Jp 5 0,Jp 3 0,Jp 4 0,J3 9,.bool true,J3 0,J3 0,J3 0,J3 0,J3 0,J3 0,.slice none 0 0]) 18 0
def ob86:AObj:=.cells (tS J4 ([0,4]++List.replicate 98 0)) 100 0
def a59:List Value:=[(Jp 0 0),(Js 1 0 5 4611686018427387905),(J3 4)]
def b59:List (Nat × Bool × AObj):=[(0,true,ob83),
  (1,false,(.cells (K (J4 99) (K (J4 96) (J (J4 0)) .leaf) (K (J4 97) (J (J4 0)) .leaf)) 5 11)),
  (2,true,(.cells (K (Js 6 0 100 100) (J (J3 0)) (J (J3 0))) 3 0)),
  (3,false,ob67),
  (4,true,ob84),
  (5,false,ob69),
  (6,false,ob70),
  (7,false,ob71)]
def c59:Value:=(.tuple ⟨[(Js 3567 0 3 4611686018427387905),(J3 5),(J3 0)]⟩)
def d59:OL:=[(3567,(.cells (K (J4 0) (J (J4 4)) (J (J4 0))) 3 11)),
  (0,ob85),
  (2,(.cells (K (Js 6 0 100 100) (J (J3 3)) (J (J3 3))) 3 0)),
  (3,ob79),
  (5,ob74),
  (6,ob86)]
theorem r59:chkRun (denF envT (den envT (tabS tel59) 1000000 60) (xdraw envT (den envT (tabS tel59) 1000000 60)) 1000000 205 a59 (ofL (bare b59) 8)) (bare b59) 8 c59 d59 3625=true:=by kernel_rfl
noncomputable def tel60:PT Fun:=addT tel59 205 (memo a59 b59 8 c59 d59 3625)
theorem tel60_ok:TabOK Tryz.prog envT tel60:=tel59_ok.add (memo_ok (run_of_den envT_ok (tabS_sound envT_ok tel59_ok) r59)) (fnS (by kernel_rfl))
def a60:List Value:=[(Jp 0 0),(Js 1 0 288 288)]
def b60:List (Nat × Bool × AObj):=[(0,false,ob74),
  (1,false,ob4)]
def c60:Value:=(J3 0)
def d60:OL:=[]
noncomputable def cm60_0:List Value:=a60++List.replicate (fi317.ntmps - a60.length) undV
noncomputable def ck60_0:List Item:=[.code fi317.body]
noncomputable def ch60_0:AH:=ofL (bare b60) 2
end Go.Proofs.YtejgabehfdapjaaGreat
