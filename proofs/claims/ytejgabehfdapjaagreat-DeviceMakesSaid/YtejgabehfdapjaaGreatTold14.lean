/- Told runs: what functions of the program come to from a small memory. Conditions: none. -/
import Derived.Test.YtejgabehfdapjaaGreatTold13
namespace Go.Proofs.YtejgabehfdapjaaGreat
open Go.ChangeShapes Go.WideShapes Go.ChangeAt Go.RowKit Go.Conc Go.Den
def ob89:AObj:=.cells (tS J3 [288,0,0,0,0,0,0,0,24,152,112,0,0,0,0,0,0,256,257,258,259,260,261,262,263,264,265,266,267,268,269,270,271,272,273,274,275,276,277,278,279,0,1,2,3,4,5,6,7,8,9,10,11,12,13,14,15,16,17,18,19,20,21,22,23,24,25,26,27,28,29,30,31,32,33,34,35,36,37,38,39,40,41,42,43,44,45,46,47,48,49,50,51,52,53,54,55,56,57,58,59,60,61,62,63,64,65,66,67,68,69,70,71,72,73,74,75,76,77,78,79,80,81,82,83,84,85,86,87,88,89,90,91,92,93,94,95,96,97,98,99,100,101,102,103,104,105,106,107,108,109,110,111,112,113,114,115,116,117,118,119,120,121,122,123,124,125,126,127,128,129,130,131,132,133,134,135,136,137,138,139,140,141,142,143,280,281,282,283,284,285,286,287,144,145,146,147,148,149,150,151,152,153,154,155,156,157,158,159,160,161,162,163,164,165,166,167,168,169,170,171,172,173,174,175,176,177,178,179,180,181,182,183,184,185,186,187,188,189,190,191,192,193,194,195,196,197,198,199,200,201,202,203,204,205,206,207,208,209,210,211,212,213,214,215,216,217,218,219,220,221,222,223,224,225,226,227,228,229,230,231,232,233,234,235,236,237,238,239,240,241,242,243,244,245,246,247,248,249,250,251,252,253,254,255,189]) 306 0
def cm60_10:List Value:=[(Jp 0 0),(Js 1 0 288 288),(.chan none),(.chan none),(J3 0),(J3 0),(Jp 8 0),(.bool true),(J3 288),(.chan none),(J3 0),(J3 9),(J3 157),(J3 9),(Jp 0 0),(.bool false),(.bool false),(Jp 0 0),(Jp 0 0),(Jp 0 0),(J3 288),(.bool false),(.bool false),(Js 1 0 288 288),(J3 288),(Jp 0 0),(Jp 0 0),(Jp 0 0),(J3 288),(.bool false),(Js 1 0 288 288),(J3 0),(J3 0),(.bool false),(.chan none),(.tuple ⟨[(.agg ⟨[(J3 0),(J3 0),(J3 0),(J3 0),(J3 0),(J3 0),(J3 0),(J3 24),(J3 152),(J3 112),(J3 0),(J3 0),(J3 0),(J3 0),(J3 0),(J3 0)]⟩),(.bool true)]⟩),(Js 1 0 288 288),(.tuple ⟨[(.agg ⟨[(J3 0),(J3 0),(J3 0),(J3 0),(J3 0),(J3 0),(J3 0),(J3 24),(J3 152),(J3 112),(J3 0),(J3 0),(J3 0),(J3 0),(J3 0),(J3 0)]⟩),(.bool true)]⟩),(.agg ⟨[(J3 0),(J3 0),(J3 0),(J3 0),(J3 0),(J3 0),(J3 0),(J3 24),(J3 152),(J3 112),(J3 0),(J3 0),(J3 0),(J3 0),(J3 0),(J3 0)]⟩),(.bool true),(.agg ⟨[(J3 0),(J3 0),(J3 0),(J3 0),(J3 0),(J3 0),(J3 0),(J3 24),(J3 152),(J3 112),(J3 0),(J3 0),(J3 0),(J3 0),(J3 0),(J3 0)]⟩),(J3 16),(.bool false),(J3 0),(J3 288),(J3 0),(J3 288),(J3 16),(Jp 0 0),(Jp 0 0),(Jp 0 305),(Jp 0 0),(.agg ⟨[(J3 0),(J3 0),(J3 0),(J3 0),(J3 0),(J3 0),(J3 0),(J3 24),(J3 152),(J3 112),(J3 0),(J3 0),(J3 0),(J3 0),(J3 0),(J3 0)]⟩),(Jp 0 0),(Jp 0 1),(J3 9),(.bool true),(J3 9),(Js 1 0 288 288),(J3 288),(J3 157),(.bool true),(J3 157),(Jp 1 157),(J3 9),(Jp 0 0),(Jp 0 0),(Jp 0 305),(J3 189),(J3 288),(.bool false),(J3 9),(J3 9),(.bool true),(.bool true),(J3 9),(.bool true),(.bool true),(Jp 0 0),(Jp 0 0),(Jp 0 0),(Jp 0 305),(J3 189),(J3 157),(Jp 0 0),(Jp 0 17),(Jp 0 206),(Jp 0 0),(Jp 0 0),(Jp 0 305),(J3 188),(J3 189),(Jp 0 0),(Jp 0 305),(J3 157),(J3 9)]
noncomputable def ck60_10:List Item:=[.code (atP fi317.body [2,1,2,2,2,2,2,2,2,2,2,2,1,2,1,1,2,2,1,1,2,2,1,1,2,2,1,1,2,2,2,1,2]),.inBlock 5,.code (atP fi317.body [2,1,2,2,2,2,2,2,2,2,2,2,1,2,1,1,2,2,1,1,2,2,1,1,2,2,2]),.inLoop (atP fi317.body [2,1,2,2,2,2,2,2,2,2,2,2,1,2,1,1,2,2,1,1,2,2,1,1]),.inBlock 4,.inBlock 3,.code (atP fi317.body [2,1,2,2,2,2,2,2,2,2,2,2,1,2,1,1,2,2,2]),.inLoop (atP fi317.body [2,1,2,2,2,2,2,2,2,2,2,2,1,2,1,1]),.inBlock 2,.code (atP fi317.body [2,1,2,2,2,2,2,2,2,2,2,2,2]),.inScope (atP fi317.body [2,1])]
def ch60_10:AH:=⟨1909,(.node (some ob89) (.node (some ob4) .leaf .leaf) (.node none (.node none (.node (some ob75) .leaf .leaf) .leaf) .leaf)),[]⟩
theorem st60_10:stepsF envT (den envT (tabS tel60) 1000000 60) (xdraw envT (den envT (tabS tel60) 1000000 60)) 317 5833 cm60_9 ck60_9 ch60_9=some (cm60_10,ck60_10,ch60_10):=by kernel_rfl
theorem sp60_10:stepsF envT (den envT (tabS tel60) 1000000 60) (xdraw envT (den envT (tabS tel60) 1000000 60)) 317 58581 cm60_0 ck60_0 ch60_0=some (cm60_10,ck60_10,ch60_10):=steps_trans (n:=52748) (m:=5833) sp60_9 st60_10
theorem re60:chkRun (finF envT (den envT (tabS tel60) 1000000 60) fi317 [] (frun envT (den envT (tabS tel60) 1000000 60) (xdraw envT (den envT (tabS tel60) 1000000 60)) 317 none 941419 cm60_10 ck60_10 ch60_10)) (bare b60) 2 c60 d60 2889=true:=by kernel_rfl
theorem r60:chkRun (denF envT (den envT (tabS tel60) 1000000 60) (xdraw envT (den envT (tabS tel60) 1000000 60)) 1000000 317 a60 (ofL (bare b60) 2)) (bare b60) 2 c60 d60 2889=true:=chk_steps (N:=1000000) (n:=58581) (m:=941419) fi317_ok (by kernel_rfl) sp60_10 re60
noncomputable def tel61:PT Fun:=addT tel60 317 (memo a60 b60 2 c60 d60 2889)
theorem tel61_ok:TabOK Tryz.prog envT tel61:=tel60_ok.add (memo_ok (run_of_den envT_ok (tabS_sound envT_ok tel60_ok) r60)) (fnS (by kernel_rfl))
def a61:List Value:=[(Jp 0 0),(Js 1 0 32 32)]
def b61:List (Nat × Bool × AObj):=[(0,false,ob79),
  (1,false,ob5)]
def c61:Value:=(J3 0)
def d61:OL:=[]
theorem r61:chkRun (denF envT (den envT (tabS tel61) 1000000 60) (xdraw envT (den envT (tabS tel61) 1000000 60)) 1000000 317 a61 (ofL (bare b61) 2)) (bare b61) 2 c61 d61 329=true:=by kernel_rfl
noncomputable def tel62:PT Fun:=addT tel61 317 (memo a61 b61 2 c61 d61 329)
theorem tel62_ok:TabOK Tryz.prog envT tel62:=tel61_ok.add (memo_ok (run_of_den envT_ok (tabS_sound envT_ok tel61_ok) r61)) (fnS (by kernel_rfl))
def ob90:AObj:=.cells (tV 16 [Jp 1 0,J3 100,J3 4,J7 2425,J3 13,J3 3,Jp 4 0,Jp 2 0,Jp 3 0,J3 4,.bool true,J3 0,J3 0,J3 0,J3 0,J3 0,J3 0,.slice none 0 0]) 18 0
def ob91:AObj:=.cells (tV 16 [Jp 1 0,J3 100,J3 4,J7 9,J3 5,J3 11,Jp 4 0,Jp 2 0,Jp 3 0,J3 4,.bool true,J3 0,J3 0,J3 0,J3 0,J3 0,J3 0,Js 70 0 1 4611686018427387905]) 18 0
def ob92:AObj:=.cells (tS J4 ([110]++List.replicate 99 0)) 100 0
def a62:List Value:=[(Jp 0 0)]
def b62:List (Nat × Bool × AObj):=[(0,true,ob90),
  (1,true,(.cells (K (Js 5 0 100 100) (J (J3 0)) (J (J3 0))) 3 0)),
  (2,false,ob79),
  (3,true,ob81),
  (4,false,ob74),
  (5,false,ob70),
  (6,false,ob71)]
def c62:Value:=(.bool true)
def d62:OL:=[(0,ob91),
  (1,(.cells (K (Js 5 0 100 100) (J (J3 1)) (J (J3 1))) 3 0)),
  (5,ob92),
  (70,(.cells (J (J4 110)) 1 11))]
theorem r62:chkRun (denF envT (den envT (tabS tel62) 1000000 60) (xdraw envT (den envT (tabS tel62) 1000000 60)) 1000000 323 a62 (ofL (bare b62) 7)) (bare b62) 7 c62 d62 71=true:=by kernel_rfl
noncomputable def tel63:PT Fun:=addT tel62 323 (memo a62 b62 7 c62 d62 71)
theorem tel63_ok:TabOK Tryz.prog envT tel63:=tel62_ok.add (memo_ok (run_of_den envT_ok (tabS_sound envT_ok tel62_ok) r62)) (fnS (by kernel_rfl))
def ob93:AObj:=.cells (tV 16 [Jp 1 0,J3 100,J3 4,J7 0,J3 13,J3 35,Jp 5 0,Jp 2 0,Jp 4 0,J3 4,.bool true,J3 0,J3 0,J3 0,J3 0,J3 0,J3 0,Js 3 0 4 4611686018427387905]) 18 0
def ob94:AObj:=.cells (tS J4 ([110,101,119,33]++List.replicate 96 0)) 100 0
def ob95:AObj:=.cells (tV 16 [Jp 1 0,J3 100,J3 4,J7 0,J3 6,J3 42,Jp 5 0,Jp 2 0,Jp 4 0,J3 9,.bool true,J3 0,J3 0,J3 0,J3 0,J3 0,J3 0,Js 3 0 4 4611686018427387905]) 18 0
def a63:List Value:=[(Jp 0 0)]
def b63:List (Nat × Bool × AObj):=[(0,true,ob93),
  (1,true,(.cells (K (Js 6 0 100 100) (J (J3 4)) (J (J3 4))) 3 0)),
  (2,false,ob79),
  (3,false,(.cells (K (J4 110) (K (J4 101) (J (J4 33)) .leaf) (J (J4 119))) 4 11)),
  (4,true,ob84),
  (5,false,ob74),
  (6,false,ob94),
  (7,false,ob71)]
def c63:Value:=(.bool true)
def d63:OL:=[(0,ob95)]
theorem r63:chkRun (denF envT (den envT (tabS tel63) 1000000 60) (xdraw envT (den envT (tabS tel63) 1000000 60)) 1000000 323 a63 (ofL (bare b63) 8)) (bare b63) 8 c63 d63 28=true:=by kernel_rfl
noncomputable def tel64:PT Fun:=addT tel63 323 (memo a63 b63 8 c63 d63 28)
theorem tel64_ok:TabOK Tryz.prog envT tel64:=tel63_ok.add (memo_ok (run_of_den envT_ok (tabS_sound envT_ok tel63_ok) r63)) (fnS (by kernel_rfl))
end Go.Proofs.YtejgabehfdapjaaGreat
