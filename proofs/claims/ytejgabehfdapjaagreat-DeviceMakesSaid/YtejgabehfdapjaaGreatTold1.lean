/- Told runs: what functions of the program come to from a small memory. Conditions: none. -/
import Derived.Test.YtejgabehfdapjaaGreatTold0
namespace Go.Proofs.YtejgabehfdapjaaGreat
open Go.ChangeShapes Go.WideShapes Go.ChangeAt Go.RowKit Go.Conc Go.Den
def ob8:AObj:=.cells (tL J3 (List.replicate 30 0)) 30 1030
def ob9:AObj:=.cells (tL J3 (List.replicate 30 0)) 30 0
def a7:List Value:=[(J3 15),(Js 0 0 30 30)]
def b7:List (Nat × Bool × AObj):=[(0,false,ob8)]
def c7:Value:=(.tuple ⟨[(Js 1 0 30 30),(J3 0)]⟩)
def d7:OL:=[(1,ob9)]
theorem r7:chkRun (denF envT (den envT (tabS tel7) 1000000 60) (xdraw envT (den envT (tabS tel7) 1000000 60)) 1000000 335 a7 (ofL (bare b7) 1)) (bare b7) 1 c7 d7 18=true:=by kernel_rfl
noncomputable def tel8:PT Fun:=addT tel7 335 (memo a7 b7 1 c7 d7 18)
theorem tel8_ok:TabOK Tryz.prog envT tel8:=tel7_ok.add (memo_ok (run_of_den envT_ok (tabS_sound envT_ok tel7_ok) r7)) (fnS (by kernel_rfl))
def ob10:AObj:=.cells (tL J3 ([1,0,0,0,2]++List.replicate 251 0++[2]++List.replicate 29 0)) 286 0
def a8:List Value:=[(Js 0 0 3 3)]
def b8:List (Nat × Bool × AObj):=[(0,false,(.cells (K (J4 0) (K (J3 0) (K (J4 4) (J (J3 0)) .leaf) (J (J3 0))) (K (J3 0) (K (J3 0) (J (J3 0)) .leaf) (J (J4 0)))) 9 723))]
def c8:Value:=(.tuple ⟨[(Js 152 0 286 286),(Js 2804 0 30 30),(J3 0)]⟩)
def d8:OL:=[(152,ob10),
  (2804,ob9)]
theorem r8:chkRun (denF envT (den envT (tabS tel8) 1000000 60) (xdraw envT (den envT (tabS tel8) 1000000 60)) 1000000 312 a8 (ofL (bare b8) 1)) (bare b8) 1 c8 d8 2821=true:=by kernel_rfl
noncomputable def tel9:PT Fun:=addT tel8 312 (memo a8 b8 1 c8 d8 2821)
theorem tel9_ok:TabOK Tryz.prog envT tel9:=tel8_ok.add (memo_ok (run_of_den envT_ok (tabS_sound envT_ok tel8_ok) r8)) (fnS (by kernel_rfl))
def a9:List Value:=[(Js 0 0 286 286)]
def b9:List (Nat × Bool × AObj):=[(0,false,ob10)]
def c9:Value:=(.tuple ⟨[(.agg ⟨[(J3 0),(J3 1),(J3 2),(J3 0),(J3 0),(J3 0),(J3 0),(J3 0),(J3 0),(J3 0),(J3 0),(J3 0),(J3 0),(J3 0),(J3 0),(J3 0)]⟩),(.bool true)]⟩)
def d9:OL:=[]
theorem r9:chkRun (denF envT (den envT (tabS tel9) 1000000 60) (xdraw envT (den envT (tabS tel9) 1000000 60)) 1000000 339 a9 (ofL (bare b9) 1)) (bare b9) 1 c9 d9 3=true:=by kernel_rfl
noncomputable def tel10:PT Fun:=addT tel9 339 (memo a9 b9 1 c9 d9 3)
theorem tel10_ok:TabOK Tryz.prog envT tel10:=tel9_ok.add (memo_ok (run_of_den envT_ok (tabS_sound envT_ok tel9_ok) r9)) (fnS (by kernel_rfl))
def a10:List Value:=[(Js 0 0 30 30)]
def b10:List (Nat × Bool × AObj):=[(0,false,ob9)]
def c10:Value:=(J3 0)
def d10:OL:=[]
theorem r10:chkRun (denF envT (den envT (tabS tel10) 1000000 60) (xdraw envT (den envT (tabS tel10) 1000000 60)) 1000000 338 a10 (ofL (bare b10) 1)) (bare b10) 1 c10 d10 5=true:=by kernel_rfl
noncomputable def tel11:PT Fun:=addT tel10 338 (memo a10 b10 1 c10 d10 5)
theorem tel11_ok:TabOK Tryz.prog envT tel11:=tel10_ok.add (memo_ok (run_of_den envT_ok (tabS_sound envT_ok tel10_ok) r10)) (fnS (by kernel_rfl))
def a11:List Value:=[(Js 0 0 30 30),(J3 1)]
def b11:List (Nat × Bool × AObj):=[(0,false,ob9)]
def c11:Value:=(Js 0 0 1 30)
def d11:OL:=[]
theorem r11:chkRun (denF envT (den envT (tabS tel11) 1000000 60) (xdraw envT (den envT (tabS tel11) 1000000 60)) 1000000 365 a11 (ofL (bare b11) 1)) (bare b11) 1 c11 d11 1=true:=by kernel_rfl
noncomputable def tel12:PT Fun:=addT tel11 365 (memo a11 b11 1 c11 d11 1)
theorem tel12_ok:TabOK Tryz.prog envT tel12:=tel11_ok.add (memo_ok (run_of_den envT_ok (tabS_sound envT_ok tel11_ok) r11)) (fnS (by kernel_rfl))
def ob11:AObj:=.cells (tL J3 ([1,0,0,0,2]++List.replicate 251 0++[2,0])) 258 7
def ob12:AObj:=.cells (tL J3 [1,1,17,3,2,1,18,138,18,113,2,1,0,1]) 14 767
def a12:List Value:=[(Js 0 0 258 4611686018427387905)]
def b12:List (Nat × Bool × AObj):=[(0,false,ob11)]
def c12:Value:=(.tuple ⟨[(Js 5230 0 7 4611686018427387906),(J3 0)]⟩)
def d12:OL:=[(5230,ob12)]
theorem r12:chkRun (denF envT (den envT (tabS tel12) 1000000 60) (xdraw envT (den envT (tabS tel12) 1000000 60)) 1000000 366 a12 (ofL (bare b12) 1)) (bare b12) 1 c12 d12 5231=true:=by kernel_rfl
noncomputable def tel13:PT Fun:=addT tel12 366 (memo a12 b12 1 c12 d12 5231)
theorem tel13_ok:TabOK Tryz.prog envT tel13:=tel12_ok.add (memo_ok (run_of_den envT_ok (tabS_sound envT_ok tel12_ok) r12)) (fnS (by kernel_rfl))
end Go.Proofs.YtejgabehfdapjaaGreat
