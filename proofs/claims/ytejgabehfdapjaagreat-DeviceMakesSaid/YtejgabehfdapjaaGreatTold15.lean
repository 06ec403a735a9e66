/- Told runs: what functions of the program come to from a small memory. Conditions: none. -/
import Derived.Test.YtejgabehfdapjaaGreatTold14
namespace Go.Proofs.YtejgabehfdapjaaGreat
open Go.ChangeShapes Go.WideShapes Go.ChangeAt Go.RowKit Go.Conc Go.Den
def ob96:AObj:=.cells (tV 16 [Jp 2 0,J3 100,J3 4,J7 0,J3 0,J3 0,Jp 5 0,Jp 3 0,Jp 4 0,J3 0,.bool true,J3 0,J3 0,J3 0,J3 0,J3 0,J3 0,.slice none 0 0]) 18 0
def ob97:AObj:=.cells (tV 16 [Jp 2 0,J3 100,J3 4,J7 0,J3 6,J3 42,Jp 5 0,Jp 3 0,Jp 4 0,J3 9,.bool true,J3 0,J3 0,J3 0,J3 0,J3 0,J3 0,Js 3668 0 4 4611686018427387905]) 18 0
def a64:List Value:=[(Jp 0 0),(Js 1 0 6 4611686018427387905),(J3 5)]
def b64:List (Nat × Bool × AObj):=[(0,true,ob96),
  (1,false,(.cells (K (J4 203) (K (J4 75) (J (J4 87)) (J (J4 0))) (K (J4 45) (J (J4 4)) .leaf)) 6 11)),
  (2,true,(.cells (K (Js 6 0 100 100) (J (J3 0)) (J (J3 0))) 3 0)),
  (3,false,ob79),
  (4,true,ob84),
  (5,false,ob74),
  (6,false,ob70),
  (7,false,ob71)]
def c64:Value:=(.tuple ⟨[(J3 6),(J3 0)]⟩)
def d64:OL:=[(0,ob97),
  (2,(.cells (K (Js 6 0 100 100) (J (J3 4)) (J (J3 4))) 3 0)),
  (6,ob94),
  (3668,(.cells (K (J4 110) (K (J4 101) (J (J4 33)) .leaf) (J (J4 119))) 4 11))]
theorem r64:chkRun (denF envT (den envT (tabS tel64) 1000000 60) (xdraw envT (den envT (tabS tel64) 1000000 60)) 1000000 251 a64 (ofL (bare b64) 8)) (bare b64) 8 c64 d64 3726=true:=by kernel_rfl
noncomputable def tel65:PT Fun:=addT tel64 251 (memo a64 b64 8 c64 d64 3726)
theorem tel65_ok:TabOK Tryz.prog envT tel65:=tel64_ok.add (memo_ok (run_of_den envT_ok (tabS_sound envT_ok tel64_ok) r64)) (fnS (by kernel_rfl))
def ob98:AObj:=.cells (tV 16 [J3 64,J3 2,J3 0,.map (some 4),Js 6 0 3 3,Js 5 0 0 0,Js 7 0 2 4611686018427387907,J3 0,.slice none 0 0,.bool false,.map (some 8),J3 0]) 12 0
def ob99:AObj:=.cells (tV 16 [Jp 9 0,Jp 2 0,Jp 12 0,Jp 10 0,Jp 13 0,J3 0,J3 64,J3 100,J3 0,J3 0,J6 0,J6 0,J3 0,J3 0,.bool false,J3 0,J3 0,J3 0,J3 0,J3 0,J3 0,J3 0,J3 0,J3 0,Js 14 0 0 384,Js 11 0 0 64,Js 15 0 0 64,J3 0,J6 0,J3 0,.bool false]) 31 0
def ob100:AObj:=.cells (tV 16 [Jp 21 0,J3 100,J3 0,J7 0,J3 0,J3 0,Jp 24 0,Jp 22 0,Jp 23 0,J3 0,.bool false,J3 0,J3 0,J3 0,J3 0,J3 0,J3 0,.slice none 0 0]) 18 0
def ob101:AObj:=.cells (tV 16 [Jp 29 0,.func (.func 233) ⟨[(Jp 23 0)]⟩ ⟨[]⟩,J3 0,J3 0,J3 0,J3 0,J3 0,J3 0,J3 0,J3 0,J3 0,J3 0,J3 0,J3 0,J3 0,J3 0,J3 0,J3 0,J3 0,J3 0,J3 0,J3 0,J3 0,J3 0,J3 0,.slice none 0 0,J3 0,J3 0,J3 0,.bool false,.bool false]) 31 0
def ob102:AObj:=.cells (tV 16 [Jp 9 0,Jp 2 0,Jp 12 0,Jp 10 0,Jp 13 0,J3 0,J3 64,J3 100,J3 3,J3 4,J6 1063113957,J6 2562107784,J3 64,J3 100,.bool true,J3 0,J3 3,J3 0,J3 4,J3 5,J3 0,J3 6,J3 2,J3 0,Js 14 0 3 384,Js 11 0 0 64,Js 15 0 4 64,J3 4,J6 2562107784,J3 0,.bool false]) 31 0
def ob103:AObj:=.cells (tV 16 [J6 558161692,J6 1112746201,J7 0,J3 0,J7 1112746201,J3 4,J3 3,J3 4,J6 1063113957,J6 2562107784,J3 64,J3 100,.bool true,J3 4,J3 43,.bool true,J3 6,J3 0,J3 3,J3 0,J3 4,J3 5,J3 0,J3 6,J3 0,J3 1,J3 0,J3 3,J3 0,J3 4,J3 5,J3 0,J3 6,J3 3,J3 0,.bool true,J3 0]) 37 0
def ob104:AObj:=.cells (tV 16 [Jp 21 0,J3 100,J3 4,J7 0,J3 6,J3 42,Jp 24 0,Jp 22 0,Jp 23 0,J3 9,.bool true,J3 0,J3 0,J3 0,J3 0,J3 0,J3 0,.slice none 0 0]) 18 0
def ob105:AObj:=.cells (tS J4 ([0,4]++List.replicate 382 0)) 384 0
def ob106:AObj:=.cells (tS J4 ([110,101,119,33]++List.replicate 60 0)) 64 0
def a65:List Value:=[(Jp 0 0),(Js 1 0 43 4611686018427387905)]
def b65:List (Nat × Bool × AObj):=[(0,true,(.cells (K (Jp 2 0) (K (J3 2) (J (J3 1)) (J (J6 1063113957))) (K (J3 0) (J (J3 3)) (J (Jp 3 0)))) 7 0)),
  (1,false,ob50),
  (2,true,ob98),
  (3,true,ob99),
  (4,true,(.map [((.agg ⟨[(J3 2),(J3 0)]⟩),(Jp 16 0)),((.agg ⟨[(J3 2),(J3 1)]⟩),(Jp 17 0)),((.agg ⟨[(J3 0),(J3 0)]⟩),(Jp 18 0))] [0,1,2] 3)),
  (5,false,(.cells .leaf 0 0)),
  (6,false,(.cells (K (J4 111) (J (J4 108)) (J (J4 100))) 3 0)),
  (7,false,(.cells (K (J3 1) (K (J3 2) (J (J3 2)) (J (J3 0))) (K (J3 0) (J (J3 2)) .leaf)) 6 303)),
  (8,false,(.map [((.agg ⟨[(J3 2),(J3 0)]⟩),(J3 1))] [0] 1)),
  (9,true,(.cells (K (J2 0) (K (J6 0) (J (J3 4639)) .leaf) (J (.map (some 19)))) 4 0)),
  (10,false,ob64),
  (11,false,ob51),
  (12,true,(.cells (K (Jp 2 0) (K (J3 1) (K (Js 20 0 64 64) (J (.bool false)) .leaf) (J (J3 0))) (K (J3 128) (K (J3 0) (J (J3 0)) .leaf) (J (J3 0)))) 9 0)),
  (13,true,ob100),
  (14,false,ob66),
  (15,false,ob51),
  (16,true,(.cells (K (Js 25 0 64 64) (J (.bool false)) .leaf) 2 0)),
  (17,true,(.cells (K (Js 26 0 64 64) (J (.bool true)) .leaf) 2 0)),
  (18,true,(.cells (K (Js 27 0 64 64) (J (.bool false)) .leaf) 2 0)),
  (19,false,ob62),
  (20,false,ob51),
  (21,true,(.cells (K (Js 28 0 100 100) (J (J3 0)) (J (J3 0))) 3 0)),
  (22,false,ob67),
  (23,true,ob101),
  (24,false,ob69),
  (25,false,ob54),
  (26,false,ob52),
  (27,false,ob56),
  (28,false,ob70),
  (29,false,ob71)]
def c65:Value:=(J3 0)
def d65:OL:=[(3,ob102),
  (10,ob103),
  (12,(.cells (K (Jp 2 0) (K (J3 1) (K (Js 20 0 64 64) (J (.bool false)) .leaf) (J (J3 0))) (K (J3 128) (K (J3 4) (J (J3 0)) .leaf) (J (J3 4)))) 9 0)),
  (13,ob104),
  (14,ob105),
  (15,ob106),
  (20,ob106),
  (21,(.cells (K (Js 28 0 100 100) (J (J3 4)) (J (J3 4))) 3 0)),
  (22,ob79),
  (24,ob74),
  (28,ob94)]
theorem r65:chkRun (denF envT (den envT (tabS tel65) 1000000 60) (xdraw envT (den envT (tabS tel65) 1000000 60)) 1000000 21 a65 (ofL (bare b65) 30)) (bare b65) 30 c65 d65 9109=true:=by kernel_rfl
noncomputable def tel66:PT Fun:=addT tel65 21 (memo a65 b65 30 c65 d65 9109)
theorem tel66_ok:TabOK Tryz.prog envT tel66:=tel65_ok.add (memo_ok (run_of_den envT_ok (tabS_sound envT_ok tel65_ok) r65)) (fnS (by kernel_rfl))
def ob107:AObj:=.cells (tV 16 [J3 64,J3 2,J3 0,.map (some 1),Js 3 0 3 3,Js 2 0 0 0,Js 4 0 4 4611686018427387907,J3 0,.slice none 0 0,.bool false,.map (some 5),J3 0]) 12 0
def ob108:AObj:=.map [((.agg ⟨[(J3 2),(J3 0)]⟩),(Jp 6 0)),((.agg ⟨[(J3 2),(J3 1)]⟩),(Jp 7 0)),((.agg ⟨[(J3 0),(J3 0)]⟩),(Jp 8 0)),((.agg ⟨[(J3 1),(J3 0)]⟩),(Jp 9 0))] [0,1,2,3] 4
def ob109:AObj:=.cells (tS J3 [1,2,0,2,2,0,1,1,0,2,1,0]) 12 303
def ob110:AObj:=.cells (tS J4 ([110,101,119,33]++List.replicate 60 255)) 64 0
def a66:List Value:=[(Jp 0 0)]
def b66:List (Nat × Bool × AObj):=[(0,true,ob107),
  (1,true,ob108),
  (2,false,(.cells .leaf 0 0)),
  (3,false,(.cells (K (J4 111) (J (J4 108)) (J (J4 100))) 3 0)),
  (4,false,ob109),
  (5,false,(.map [((.agg ⟨[(J3 2),(J3 0)]⟩),(J3 1)),((.agg ⟨[(J3 1),(J3 0)]⟩),(J3 1))] [0,1] 2)),
  (6,true,(.cells (K (Js 10 0 64 64) (J (.bool false)) .leaf) 2 0)),
  (7,true,(.cells (K (Js 11 0 64 64) (J (.bool true)) .leaf) 2 0)),
  (8,true,(.cells (K (Js 12 0 64 64) (J (.bool false)) .leaf) 2 0)),
  (9,true,(.cells (K (Js 13 0 64 64) (J (.bool false)) .leaf) 2 0)),
  (10,false,ob54),
  (11,false,ob52),
  (12,false,ob56),
  (13,false,ob110)]
def c66:Value:=(.tuple ⟨[(.agg ⟨[(J3 1),(J3 0),(J3 1),(J3 3),(J6 1063113957),(J3 0),(J3 0),(J3 0),(J6 0),(J3 0)]⟩),(J3 0),(J3 0)]⟩)
def d66:OL:=[]
theorem r66:chkRun (denF envT (den envT (tabS tel66) 1000000 60) (xdraw envT (den envT (tabS tel66) 1000000 60)) 1000000 38 a66 (ofL (bare b66) 14)) (bare b66) 14 c66 d66 287=true:=by kernel_rfl
noncomputable def tel67:PT Fun:=addT tel66 38 (memo a66 b66 14 c66 d66 287)
theorem tel67_ok:TabOK Tryz.prog envT tel67:=tel66_ok.add (memo_ok (run_of_den envT_ok (tabS_sound envT_ok tel66_ok) r66)) (fnS (by kernel_rfl))
def ob111:AObj:=.cells (tV 16 [J3 64,J3 2,J3 0,.map (some 1),Js 3 0 3 3,Js 2 0 0 0,Js 4 0 6 4611686018427387907,J3 0,.slice none 0 0,.bool false,.map (some 5),J3 0]) 12 0
def ob112:AObj:=.cells (tS J3 [1,2,0,2,2,0,1,1,0,2,1,0,1,2,1,2,2,1]) 18 303
def ob113:AObj:=.cells (tS J4 ([98,116,48,49,2,0,0,0,0,0,0,0,0,1,0,0,0,3,0,0,0,229,212,93,63,1,2,0,0,0,4,0,0,0,136,169,182,152,3,51,87,74,135]++List.replicate 21 255)) 64 0
def a67:List Value:=[(Jp 0 0)]
def b67:List (Nat × Bool × AObj):=[(0,true,ob111),
  (1,true,ob108),
  (2,false,(.cells .leaf 0 0)),
  (3,false,(.cells (K (J4 111) (J (J4 108)) (J (J4 100))) 3 0)),
  (4,false,ob112),
  (5,false,(.map [((.agg ⟨[(J3 2),(J3 0)]⟩),(J3 1)),((.agg ⟨[(J3 1),(J3 0)]⟩),(J3 1)),((.agg ⟨[(J3 2),(J3 1)]⟩),(J3 1))] [0,1,2] 3)),
  (6,true,(.cells (K (Js 10 0 64 64) (J (.bool false)) .leaf) 2 0)),
  (7,true,(.cells (K (Js 11 0 64 64) (J (.bool false)) .leaf) 2 0)),
  (8,true,(.cells (K (Js 12 0 64 64) (J (.bool false)) .leaf) 2 0)),
  (9,true,(.cells (K (Js 13 0 64 64) (J (.bool false)) .leaf) 2 0)),
  (10,false,ob54),
  (11,false,ob113),
  (12,false,ob56),
  (13,false,ob110)]
def c67:Value:=(.tuple ⟨[(.agg ⟨[(J3 2),(J3 0),(J3 1),(J3 3),(J6 1063113957),(J3 1),(J3 2),(J3 4),(J6 2562107784),(J3 3)]⟩),(J3 1),(J3 0)]⟩)
def d67:OL:=[]
theorem r67:chkRun (denF envT (den envT (tabS tel67) 1000000 60) (xdraw envT (den envT (tabS tel67) 1000000 60)) 1000000 38 a67 (ofL (bare b67) 14)) (bare b67) 14 c67 d67 480=true:=by kernel_rfl
noncomputable def tel68:PT Fun:=addT tel67 38 (memo a67 b67 14 c67 d67 480)
theorem tel68_ok:TabOK Tryz.prog envT tel68:=tel67_ok.add (memo_ok (run_of_den envT_ok (tabS_sound envT_ok tel67_ok) r67)) (fnS (by kernel_rfl))
def a68:List Value:=[]
def b68:List (Nat × Bool × AObj):=[]
def c68:Value:=(.bool true)
def d68:OL:=[]
theorem r68:chkRun (denF envT (den envT (tabS tel68) 1000000 60) (xdraw envT (den envT (tabS tel68) 1000000 60)) 1000000 7 a68 (ofL (bare b68) 0)) (bare b68) 0 c68 d68 38501=true:=by kernel_rfl
noncomputable def tel69:PT Fun:=addT tel68 7 (memo a68 b68 0 c68 d68 38501)
theorem tel69_ok:TabOK Tryz.prog envT tel69:=tel68_ok.add (memo_ok (run_of_den envT_ok (tabS_sound envT_ok tel68_ok) r68)) (fnS (by kernel_rfl))
end Go.Proofs.YtejgabehfdapjaaGreat
