/- Told runs: what functions of the program come to from a small memory. Conditions: none. -/
import Derived.Test.YtejgabehfdapjaaGreatTold1
namespace Go.Proofs.YtejgabehfdapjaaGreat
open Go.ChangeShapes Go.WideShapes Go.ChangeAt Go.RowKit Go.Conc Go.Den
def ob13:AObj:=.cells (tL J3 ([1,1,2]++List.replicate 14 0++[1,2])) 19 760
def ob14:AObj:=.cells (tL J3 ([3,3,2]++List.replicate 14 0++[2,2])) 19 0
def a13:List Value:=[(J3 7),(Js 0 0 19 19)]
def b13:List (Nat × Bool × AObj):=[(0,false,ob13)]
def c13:Value:=(.tuple ⟨[(Js 124 0 19 19),(J3 0)]⟩)
def d13:OL:=[(124,ob14)]
theorem r13:chkRun (denF envT (den envT (tabS tel13) 1000000 60) (xdraw envT (den envT (tabS tel13) 1000000 60)) 1000000 335 a13 (ofL (bare b13) 1)) (bare b13) 1 c13 d13 2118=true:=by kernel_rfl
noncomputable def tel14:PT Fun:=addT tel13 335 (memo a13 b13 1 c13 d13 2118)
theorem tel14_ok:TabOK Tryz.prog envT tel14:=tel13_ok.add (memo_ok (run_of_den envT_ok (tabS_sound envT_ok tel13_ok) r13)) (fnS (by kernel_rfl))
def a14:List Value:=[(J3 1),(J3 0),(Js 0 0 3 3)]
def b14:List (Nat × Bool × AObj):=[(0,false,(.cells (K (J4 0) (K (J3 0) (K (J4 4) (J (J3 0)) .leaf) (J (J3 0))) (K (J3 0) (K (J3 0) (J (J3 0)) .leaf) (J (J4 0)))) 9 723))]
def c14:Value:=(.tuple ⟨[(J3 34),(J3 0)]⟩)
def d14:OL:=[]
theorem r14:chkRun (denF envT (den envT (tabS tel14) 1000000 60) (xdraw envT (den envT (tabS tel14) 1000000 60)) 1000000 229 a14 (ofL (bare b14) 1)) (bare b14) 1 c14 d14 73=true:=by kernel_rfl
noncomputable def tel15:PT Fun:=addT tel14 229 (memo a14 b14 1 c14 d14 73)
theorem tel15_ok:TabOK Tryz.prog envT tel15:=tel14_ok.add (memo_ok (run_of_den envT_ok (tabS_sound envT_ok tel14_ok) r14)) (fnS (by kernel_rfl))
def a15:List Value:=[(Js 0 0 288 288)]
def b15:List (Nat × Bool × AObj):=[(0,false,ob4)]
def c15:Value:=(.tuple ⟨[(.agg ⟨[(J3 0),(J3 0),(J3 0),(J3 0),(J3 0),(J3 0),(J3 0),(J3 24),(J3 152),(J3 112),(J3 0),(J3 0),(J3 0),(J3 0),(J3 0),(J3 0)]⟩),(.bool true)]⟩)
def d15:OL:=[]
theorem r15:chkRun (denF envT (den envT (tabS tel15) 1000000 60) (xdraw envT (den envT (tabS tel15) 1000000 60)) 1000000 339 a15 (ofL (bare b15) 1)) (bare b15) 1 c15 d15 3=true:=by kernel_rfl
noncomputable def tel16:PT Fun:=addT tel15 339 (memo a15 b15 1 c15 d15 3)
theorem tel16_ok:TabOK Tryz.prog envT tel16:=tel15_ok.add (memo_ok (run_of_den envT_ok (tabS_sound envT_ok tel15_ok) r15)) (fnS (by kernel_rfl))
def a16:List Value:=[(Js 0 0 288 288)]
def b16:List (Nat × Bool × AObj):=[(0,false,ob4)]
def c16:Value:=(J3 0)
def d16:OL:=[]
theorem r16:chkRun (denF envT (den envT (tabS tel16) 1000000 60) (xdraw envT (den envT (tabS tel16) 1000000 60)) 1000000 338 a16 (ofL (bare b16) 1)) (bare b16) 1 c16 d16 5=true:=by kernel_rfl
noncomputable def tel17:PT Fun:=addT tel16 338 (memo a16 b16 1 c16 d16 5)
theorem tel17_ok:TabOK Tryz.prog envT tel17:=tel16_ok.add (memo_ok (run_of_den envT_ok (tabS_sound envT_ok tel16_ok) r16)) (fnS (by kernel_rfl))
def a17:List Value:=[(.agg ⟨[(J3 0),(J3 0),(J3 0),(J3 0),(J3 0),(J3 0),(J3 0),(J3 24),(J3 152),(J3 112),(J3 0),(J3 0),(J3 0),(J3 0),(J3 0),(J3 0)]⟩)]
def b17:List (Nat × Bool × AObj):=[]
def c17:Value:=(.agg ⟨[(J3 0),(J3 0),(J3 0),(J3 0),(J3 0),(J3 0),(J3 0),(J3 0),(J3 48),(J3 400),(J3 1024),(J3 2048),(J3 4096),(J3 8192),(J3 16384),(J3 32768)]⟩)
def d17:OL:=[]
theorem r17:chkRun (denF envT (den envT (tabS tel17) 1000000 60) (xdraw envT (den envT (tabS tel17) 1000000 60)) 1000000 377 a17 (ofL (bare b17) 0)) (bare b17) 0 c17 d17 3=true:=by kernel_rfl
noncomputable def tel18:PT Fun:=addT tel17 377 (memo a17 b17 0 c17 d17 3)
theorem tel18_ok:TabOK Tryz.prog envT tel18:=tel17_ok.add (memo_ok (run_of_den envT_ok (tabS_sound envT_ok tel17_ok) r17)) (fnS (by kernel_rfl))
def ob15:AObj:=.cells (tL J3 [48,49,50,51,52,53,54,55,56,57,58,59,60,61,62,63,64,65,66,67,68,69,70,71,72,73,74,75,76,77,78,79,80,81,82,83,84,85,86,87,88,89,90,91,92,93,94,95,96,97,98,99,100,101,102,103,104,105,106,107,108,109,110,111,112,113,114,115,116,117,118,119,120,121,122,123,124,125,126,127,128,129,130,131,132,133,134,135,136,137,138,139,140,141,142,143,144,145,146,147,148,149,150,151,152,153,154,155,156,157,158,159,160,161,162,163,164,165,166,167,168,169,170,171,172,173,174,175,176,177,178,179,180,181,182,183,184,185,186,187,188,189,190,191,400,401,402,403,404,405,406,407,408,409,410,411,412,413,414,415,416,417,418,419,420,421,422,423,424,425,426,427,428,429,430,431,432,433,434,435,436,437,438,439,440,441,442,443,444,445,446,447,448,449,450,451,452,453,454,455,456,457,458,459,460,461,462,463,464,465,466,467,468,469,470,471,472,473,474,475,476,477,478,479,480,481,482,483,484,485,486,487,488,489,490,491,492,493,494,495,496,497,498,499,500,501,502,503,504,505,506,507,508,509,510,511,0,1,2,3,4,5,6,7,8,9,10,11,12,13,14,15,16,17,18,19,20,21,22,23,192,193,194,195,196,197,198,199]) 288 0
def a18:List Value:=[(Js 0 0 288 288)]
def b18:List (Nat × Bool × AObj):=[(0,false,ob4)]
def c18:Value:=(.tuple ⟨[(Js 12 0 288 288),(J3 0)]⟩)
def d18:OL:=[(12,ob15)]
theorem r18:chkRun (denF envT (den envT (tabS tel18) 1000000 60) (xdraw envT (den envT (tabS tel18) 1000000 60)) 1000000 356 a18 (ofL (bare b18) 1)) (bare b18) 1 c18 d18 13=true:=by kernel_rfl
noncomputable def tel19:PT Fun:=addT tel18 356 (memo a18 b18 1 c18 d18 13)
theorem tel19_ok:TabOK Tryz.prog envT tel19:=tel18_ok.add (memo_ok (run_of_den envT_ok (tabS_sound envT_ok tel18_ok) r18)) (fnS (by kernel_rfl))
def a19:List Value:=[(Js 0 0 288 288)]
def b19:List (Nat × Bool × AObj):=[(0,false,ob4)]
def c19:Value:=(.tuple ⟨[(Jp 14 0),(J3 0)]⟩)
def d19:OL:=[(14,(.cells (K (Js 13 0 288 288) (J (Js 12 0 288 288)) .leaf) 2 0)),
  (13,ob4),
  (12,ob15)]
theorem r19:chkRun (denF envT (den envT (tabS tel19) 1000000 60) (xdraw envT (den envT (tabS tel19) 1000000 60)) 1000000 333 a19 (ofL (bare b19) 1)) (bare b19) 1 c19 d19 15=true:=by kernel_rfl
noncomputable def tel20:PT Fun:=addT tel19 333 (memo a19 b19 1 c19 d19 15)
theorem tel20_ok:TabOK Tryz.prog envT tel20:=tel19_ok.add (memo_ok (run_of_den envT_ok (tabS_sound envT_ok tel19_ok) r19)) (fnS (by kernel_rfl))
def a20:List Value:=[(Js 0 0 32 32)]
def b20:List (Nat × Bool × AObj):=[(0,false,ob5)]
def c20:Value:=(.tuple ⟨[(.agg ⟨[(J3 0),(J3 0),(J3 0),(J3 0),(J3 0),(J3 32),(J3 0),(J3 0),(J3 0),(J3 0),(J3 0),(J3 0),(J3 0),(J3 0),(J3 0),(J3 0)]⟩),(.bool true)]⟩)
def d20:OL:=[]
theorem r20:chkRun (denF envT (den envT (tabS tel20) 1000000 60) (xdraw envT (den envT (tabS tel20) 1000000 60)) 1000000 339 a20 (ofL (bare b20) 1)) (bare b20) 1 c20 d20 3=true:=by kernel_rfl
noncomputable def tel21:PT Fun:=addT tel20 339 (memo a20 b20 1 c20 d20 3)
theorem tel21_ok:TabOK Tryz.prog envT tel21:=tel20_ok.add (memo_ok (run_of_den envT_ok (tabS_sound envT_ok tel20_ok) r20)) (fnS (by kernel_rfl))
def a21:List Value:=[(Js 0 0 32 32)]
def b21:List (Nat × Bool × AObj):=[(0,false,ob5)]
def c21:Value:=(J3 0)
def d21:OL:=[]
theorem r21:chkRun (denF envT (den envT (tabS tel21) 1000000 60) (xdraw envT (den envT (tabS tel21) 1000000 60)) 1000000 338 a21 (ofL (bare b21) 1)) (bare b21) 1 c21 d21 5=true:=by kernel_rfl
noncomputable def tel22:PT Fun:=addT tel21 338 (memo a21 b21 1 c21 d21 5)
theorem tel22_ok:TabOK Tryz.prog envT tel22:=tel21_ok.add (memo_ok (run_of_den envT_ok (tabS_sound envT_ok tel21_ok) r21)) (fnS (by kernel_rfl))
def ob16:AObj:=.cells (tL J3 [0,1,2,3,4,5,6,7,8,9,10,11,12,13,14,15,16,17,18,19,20,21,22,23,24,25,26,27,28,29,30,31]) 32 0
def a22:List Value:=[(Js 0 0 32 32)]
def b22:List (Nat × Bool × AObj):=[(0,false,ob5)]
def c22:Value:=(.tuple ⟨[(Jp 14 0),(J3 0)]⟩)
def d22:OL:=[(14,(.cells (K (Js 13 0 32 32) (J (Js 12 0 32 32)) .leaf) 2 0)),
  (13,ob5),
  (12,ob16)]
theorem r22:chkRun (denF envT (den envT (tabS tel22) 1000000 60) (xdraw envT (den envT (tabS tel22) 1000000 60)) 1000000 333 a22 (ofL (bare b22) 1)) (bare b22) 1 c22 d22 15=true:=by kernel_rfl
noncomputable def tel23:PT Fun:=addT tel22 333 (memo a22 b22 1 c22 d22 15)
theorem tel23_ok:TabOK Tryz.prog envT tel23:=tel22_ok.add (memo_ok (run_of_den envT_ok (tabS_sound envT_ok tel22_ok) r22)) (fnS (by kernel_rfl))
def a23:List Value:=[(Js 0 0 3 4611686018427387905),(Js 1 0 3 4611686018427387907),(J3 50)]
def b23:List (Nat × Bool × AObj):=[(0,false,(.cells (K (J4 0) (J (J4 4)) (J (J4 0))) 3 11)),
  (1,false,(.cells (K (J4 0) (K (J3 0) (K (J4 4) (J (J3 0)) .leaf) (J (J3 0))) (K (J3 0) (K (J3 0) (J (J3 0)) .leaf) (J (J4 0)))) 9 723))]
def c23:Value:=(Js 11006 0 5 4611686018427387905)
def d23:OL:=[(11006,(.cells (K (J4 99) (K (J4 96) (J (J4 0)) .leaf) (K (J4 97) (J (J4 0)) .leaf)) 5 11))]
theorem r23:chkRun (denF envT (den envT (tabS tel23) 1000000 60) (xdraw envT (den envT (tabS tel23) 1000000 60)) 1000000 145 a23 (ofL (bare b23) 2)) (bare b23) 2 c23 d23 11007=true:=by kernel_rfl
noncomputable def tel24:PT Fun:=addT tel23 145 (memo a23 b23 2 c23 d23 11007)
theorem tel24_ok:TabOK Tryz.prog envT tel24:=tel23_ok.add (memo_ok (run_of_den envT_ok (tabS_sound envT_ok tel23_ok) r23)) (fnS (by kernel_rfl))
def ob17:AObj:=.cells (PT.ofList [J4 110,J3 0,J3 0,J4 101,J3 0,J3 0,J4 119,J3 0,J3 0,J4 33,J3 0,J3 0] 0 .leaf) 12 723
def a24:List Value:=[(Js 0 0 4 4)]
def b24:List (Nat × Bool × AObj):=[(0,false,ob17)]
def c24:Value:=(J3 0)
def d24:OL:=[]
theorem r24:chkRun (denF envT (den envT (tabS tel24) 1000000 60) (xdraw envT (den envT (tabS tel24) 1000000 60)) 1000000 270 a24 (ofL (bare b24) 1)) (bare b24) 1 c24 d24 21=true:=by kernel_rfl
noncomputable def tel25:PT Fun:=addT tel24 270 (memo a24 b24 1 c24 d24 21)
theorem tel25_ok:TabOK Tryz.prog envT tel25:=tel24_ok.add (memo_ok (run_of_den envT_ok (tabS_sound envT_ok tel24_ok) r24)) (fnS (by kernel_rfl))
def a25:List Value:=[(J3 0),(Js 0 0 4 4)]
def b25:List (Nat × Bool × AObj):=[(0,false,ob17)]
def c25:Value:=(.tuple ⟨[(J3 42),(J3 0)]⟩)
def d25:OL:=[]
theorem r25:chkRun (denF envT (den envT (tabS tel25) 1000000 60) (xdraw envT (den envT (tabS tel25) 1000000 60)) 1000000 275 a25 (ofL (bare b25) 1)) (bare b25) 1 c25 d25 75=true:=by kernel_rfl
noncomputable def tel26:PT Fun:=addT tel25 275 (memo a25 b25 1 c25 d25 75)
theorem tel26_ok:TabOK Tryz.prog envT tel26:=tel25_ok.add (memo_ok (run_of_den envT_ok (tabS_sound envT_ok tel25_ok) r25)) (fnS (by kernel_rfl))
end Go.Proofs.YtejgabehfdapjaaGreat
