/- Told runs: what functions of the program come to from a small memory. Conditions: none. -/
import Derived.Test.YtejgabehfdapjaaGreatTold5
namespace Go.Proofs.YtejgabehfdapjaaGreat
open Go.ChangeShapes Go.WideShapes Go.ChangeAt Go.RowKit Go.Conc Go.Den
def ob62:AObj:=.map [((.string ⟨#[112,97,103,101]⟩),(.agg ⟨[(J3 64),(J3 64)]⟩)),((.string ⟨#[115,119,101,108,108]⟩),(.agg ⟨[(J3 3935),(J3 3935)]⟩)),((.string ⟨#[112,97,114,115,101]⟩),(.agg ⟨[(J3 64),(J3 64)]⟩)),((.string ⟨#[99,111,110,116,114,111,108]⟩),(.agg ⟨[(J3 384),(J3 384)]⟩)),((.string ⟨#[100,105,102,102]⟩),(.agg ⟨[(J3 64),(J3 64)]⟩)),((.string ⟨#[101,120,116,114,97]⟩),(.agg ⟨[(J3 64),(J3 64)]⟩)),((.string ⟨#[110,117,109,98,101,114,115]⟩),(.agg ⟨[(J3 64),(J3 64)]⟩))] [0,1,2,3,4,5,6] 7
def a52:List Value:=[(Jp 0 0),(.func (.func 160) ⟨[]⟩ ⟨[]⟩)]
def b52:List (Nat × Bool × AObj):=[(0,true,(.cells (K (J2 1) (K (J6 0) (J (J3 4575)) .leaf) (J (.map (some 1)))) 4 0)),
  (1,false,ob62)]
def c52:Value:=(J3 4639)
def d52:OL:=[]
theorem r52:mapChk envT (den envT (tabS tel52) 1000000 60) mfi159 mAs159 mAt159 mz159 mB159 0 12 13 14 5 [1,12] [64,3935,64,384,64,64,64] 2 128 a52 (bare b52) 2 c52 d52 17=true:=by kernel_rfl
noncomputable def tel53:PT Fun:=addT tel52 159 (memo a52 b52 2 c52 d52 17)
theorem tel53_ok:TabOK Tryz.prog envT tel53:=tel52_ok.add (memo_ok (mapRun envT_ok (den_sound envT_ok (tabS_sound envT_ok tel52_ok) 1000000 60) mE159 mbody159 mops159 mh0159 mh1159 mh2159 mh3159 mh4159 mh5159 r52)) (fnS (by kernel_rfl))
def ob63:AObj:=.cells (PT.ofList [Jp 321 0,Jp 1 0,Jp 312 0,Jp 322 0,Jp 317 0,J3 0,J3 64,J3 100,J3 0,J3 0,J6 0,J6 0,J3 0,J3 0,.bool false,J3 0,J3 0,J3 0,J3 0,J3 0,J3 0,J3 0,J3 0,J3 0,Js 327 0 0 384,Js 329 0 0 64,Js 331 0 0 64,J3 0,J6 0,J3 0,.bool false] 0 .leaf) 31 0
def ob64:AObj:=.cells (PT.ofList [J6 0,J6 0,J7 0,J3 0,J7 0,J3 0,J3 0,J3 0,J6 0,J6 0,J3 0,J3 0,.bool false,J3 0,J3 0,.bool true,J3 0,J3 0,J3 0,J3 0,J3 0,J3 0,J3 0,J3 0,J3 0,J3 0,J3 0,J3 0,J3 0,J3 0,J3 0,J3 0,J3 0,J3 0,J3 0,.bool false,J3 0] 0 .leaf) 37 0
def ob65:AObj:=.cells (PT.ofList [Jp 314 0,J3 100,J3 0,J7 0,J3 0,J3 0,Jp 318 0,Jp 319 0,Jp 316 0,J3 0,.bool false,J3 0,J3 0,J3 0,J3 0,J3 0,J3 0,.slice none 0 0] 0 .leaf) 18 0
def ob66:AObj:=.cells (tL J4 (List.replicate 384 0)) 384 0
def ob67:AObj:=.cells (tL J3 ([32]++List.replicate 305 0)) 306 0
def ob68:AObj:=.cells (PT.ofList [Jp 315 0,.func (.func 233) ⟨[(Jp 316 0)]⟩ ⟨[]⟩,J3 0,J3 0,J3 0,J3 0,J3 0,J3 0,J3 0,J3 0,J3 0,J3 0,J3 0,J3 0,J3 0,J3 0,J3 0,J3 0,J3 0,J3 0,J3 0,J3 0,J3 0,J3 0,J3 0,.slice none 0 0,J3 0,J3 0,J3 0,.bool false,.bool false] 0 .leaf) 31 0
def ob69:AObj:=.cells (tL J3 ([288]++List.replicate 305 0)) 306 0
def ob70:AObj:=.cells (tL J4 (List.replicate 100 0)) 100 0
def ob71:AObj:=.cells (tL J3 ([19]++List.replicate 305 0)) 306 0
def a53:List Value:=[(Jp 0 0),(J3 64),(J3 100)]
def b53:List (Nat × Bool × AObj):=[(0,true,(.cells (K (Jp 1 0) (K (J3 1) (J (J3 1)) (J (J6 1063113957))) (K (J3 0) (J (J3 3)) (J (.pointer none)))) 7 0)),
  (1,true,ob55),
  (2,true,(.map [((.agg ⟨[(J3 2),(J3 0)]⟩),(Jp 7 0)),((.agg ⟨[(J3 2),(J3 1)]⟩),(Jp 8 0)),((.agg ⟨[(J3 0),(J3 0)]⟩),(Jp 9 0))] [0,1,2] 3)),
  (3,false,(.cells .leaf 0 0)),
  (4,false,(.cells (K (J4 111) (J (J4 108)) (J (J4 100))) 3 0)),
  (5,false,(.cells (K (J3 1) (K (J3 2) (J (J3 2)) (J (J3 0))) (K (J3 0) (J (J3 2)) .leaf)) 6 303)),
  (6,false,(.map [((.agg ⟨[(J3 2),(J3 0)]⟩),(J3 1))] [0] 1)),
  (7,true,(.cells (K (Js 10 0 64 64) (J (.bool false)) .leaf) 2 0)),
  (8,true,(.cells (K (Js 11 0 64 64) (J (.bool true)) .leaf) 2 0)),
  (9,true,(.cells (K (Js 12 0 64 64) (J (.bool false)) .leaf) 2 0)),
  (10,false,ob54),
  (11,false,ob52),
  (12,false,ob56)]
def c53:Value:=(J3 0)
def d53:OL:=[(0,(.cells (K (Jp 1 0) (K (J3 2) (J (J3 1)) (J (J6 1063113957))) (K (J3 0) (J (J3 3)) (J (Jp 323 0)))) 7 0)),
  (323,ob63),
  (321,(.cells (K (J2 0) (K (J6 0) (J (J3 4639)) .leaf) (J (.map (some 320)))) 4 0)),
  (322,ob64),
  (329,ob51),
  (312,(.cells (K (Jp 1 0) (K (J3 1) (K (Js 307 0 64 64) (J (.bool false)) .leaf) (J (J3 0))) (K (J3 128) (K (J3 0) (J (J3 0)) .leaf) (J (J3 0)))) 9 0)),
  (317,ob65),
  (327,ob66),
  (331,ob51),
  (320,ob62),
  (307,ob51),
  (314,(.cells (K (Js 313 0 100 100) (J (J3 0)) (J (J3 0))) 3 0)),
  (319,ob67),
  (316,ob68),
  (318,ob69),
  (313,ob70),
  (315,ob71)]
theorem r53:chkRun (denF envT (den envT (tabS tel53) 1000000 60) (xdraw envT (den envT (tabS tel53) 1000000 60)) 1000000 20 a53 (ofL (bare b53) 13)) (bare b53) 13 c53 d53 742=true:=by kernel_rfl
noncomputable def tel54:PT Fun:=addT tel53 20 (memo a53 b53 13 c53 d53 742)
theorem tel54_ok:TabOK Tryz.prog envT tel54:=tel53_ok.add (memo_ok (run_of_den envT_ok (tabS_sound envT_ok tel53_ok) r53)) (fnS (by kernel_rfl))
def ob72:AObj:=.cells (PT.ofList [J6 558161692,J6 683583352,J7 0,J3 0,J7 0,J3 0,J3 3,J3 4,J6 1063113957,J6 2562107784,J3 64,J3 100,.bool true,J3 0,J3 21,.bool true,J3 4,J3 3,J3 4,J3 64,J3 100,J3 0,J3 0,J3 0,J3 0,J3 0,J3 0,J3 0,J3 0,J3 0,J3 0,J3 0,J3 0,J3 0,J3 0,.bool false,J3 0] 0 .leaf) 37 0
def a54:List Value:=[(Jp 0 0),(Js 1 0 43 4611686018427387905)]
def b54:List (Nat × Bool × AObj):=[(0,false,ob64),
  (1,false,ob50)]
def c54:Value:=(.tuple ⟨[(.agg ⟨[(J3 1),(J3 3),(J3 4),(J6 1063113957),(J6 2562107784),(J3 64),(J3 100),(J3 0),(J3 0),(J3 0),(J3 0),(J3 0),(J3 0),(J3 0),(J3 0),(.slice none 0 0)]⟩),(J3 21),(J3 0)]⟩)
def d54:OL:=[(0,ob72)]
theorem r54:chkRun (denF envT (den envT (tabS tel54) 1000000 60) (xdraw envT (den envT (tabS tel54) 1000000 60)) 1000000 115 a54 (ofL (bare b54) 2)) (bare b54) 2 c54 d54 529=true:=by kernel_rfl
noncomputable def tel55:PT Fun:=addT tel54 115 (memo a54 b54 2 c54 d54 529)
theorem tel55_ok:TabOK Tryz.prog envT tel55:=tel54_ok.add (memo_ok (run_of_den envT_ok (tabS_sound envT_ok tel54_ok) r54)) (fnS (by kernel_rfl))
def ob73:AObj:=.cells (PT.ofList [J6 2379822027,J6 3730067007,J7 0,J3 0,J7 0,J3 0,J3 3,J3 4,J6 1063113957,J6 2562107784,J3 64,J3 100,.bool true,J3 4,J3 28,.bool true,J3 5,J3 0,J3 3,J3 0,J3 4,J3 5,J3 0,J3 6,J3 0,J3 1,J3 0,J3 3,J3 0,J3 4,J3 5,J3 0,J3 6,J3 0,J3 5,.bool false,J3 0] 0 .leaf) 37 0
def a55:List Value:=[(Jp 0 0),(Js 1 21 22 4611686018427387905)]
def b55:List (Nat × Bool × AObj):=[(0,false,ob72),
  (1,false,ob50)]
def c55:Value:=(.tuple ⟨[(.agg ⟨[(J3 2),(J3 0),(J3 0),(J6 0),(J6 0),(J3 0),(J3 0),(J3 0),(J3 3),(J3 0),(J3 4),(J3 5),(J3 0),(J3 6),(J3 0),(.slice none 0 0)]⟩),(J3 7),(J3 0)]⟩)
def d55:OL:=[(0,ob73)]
theorem r55:chkRun (denF envT (den envT (tabS tel55) 1000000 60) (xdraw envT (den envT (tabS tel55) 1000000 60)) 1000000 115 a55 (ofL (bare b55) 2)) (bare b55) 2 c55 d55 370=true:=by kernel_rfl
noncomputable def tel56:PT Fun:=addT tel55 115 (memo a55 b55 2 c55 d55 370)
theorem tel56_ok:TabOK Tryz.prog envT tel56:=tel55_ok.add (memo_ok (run_of_den envT_ok (tabS_sound envT_ok tel55_ok) r55)) (fnS (by kernel_rfl))
noncomputable def fi317:FI:=match envT.fn 317 with | some x=>x | none=>⟨.skip,0,#[]⟩
theorem fi317_ok:envT.fn 317=some fi317:=by kernel_rfl
def ob74:AObj:=.cells (tL J3 [288,0,0,0,0,0,0,0,24,152,112,0,0,0,0,0,0,256,257,258,259,260,261,262,263,264,265,266,267,268,269,270,271,272,273,274,275,276,277,278,279,0,1,2,3,4,5,6,7,8,9,10,11,12,13,14,15,16,17,18,19,20,21,22,23,24,25,26,27,28,29,30,31,32,33,34,35,36,37,38,39,40,41,42,43,44,45,46,47,48,49,50,51,52,53,54,55,56,57,58,59,60,61,62,63,64,65,66,67,68,69,70,71,72,73,74,75,76,77,78,79,80,81,82,83,84,85,86,87,88,89,90,91,92,93,94,95,96,97,98,99,100,101,102,103,104,105,106,107,108,109,110,111,112,113,114,115,116,117,118,119,120,121,122,123,124,125,126,127,128,129,130,131,132,133,134,135,136,137,138,139,140,141,142,143,280,281,282,283,284,285,286,287,144,145,146,147,148,149,150,151,152,153,154,155,156,157,158,159,160,161,162,163,164,165,166,167,168,169,170,171,172,173,174,175,176,177,178,179,180,181,182,183,184,185,186,187,188,189,190,191,192,193,194,195,196,197,198,199,200,201,202,203,204,205,206,207,208,209,210,211,212,213,214,215,216,217,218,219,220,221,222,223,224,225,226,227,228,229,230,231,232,233,234,235,236,237,238,239,240,241,242,243,244,245,246,247,248,249,250,251,252,253,254,255,288]) 306 0
def a56:List Value:=[(Jp 0 0),(Js 1 0 288 288)]
def b56:List (Nat × Bool × AObj):=[(0,false,ob69),
  (1,false,ob4)]
def c56:Value:=(J3 0)
def d56:OL:=[(0,ob74)]
noncomputable def cm56_0:List Value:=a56++List.replicate (fi317.ntmps - a56.length) undV
noncomputable def ck56_0:List Item:=[.code fi317.body]
noncomputable def ch56_0:AH:=ofL (bare b56) 2
end Go.Proofs.YtejgabehfdapjaaGreat
