/- Told runs: what functions of the program come to from a small memory. Conditions: none. -/
import Derived.Test.YtdkiegheiplkkaaGreatToldEnv
namespace Go.Proofs.YtdkiegheiplkkaaGreat
open Go.ChangeShapes Go.WideShapes Go.ChangeAt Go.RowKit Go.Conc Go.Den
def a0 : List Value := [(J3 256), (Js 0 0 1 1)]
def b0 : List (Nat × Bool × AObj) := [(0, false, .cells (J (J3 97)) 1)]
def c0 : Value := (.tuple ⟨[(Js 2 0 256 256), (Js 4 0 256 256)]⟩)
def d0 : OL := [(2, .cells (K (J3 0) (K (J3 0) (K (J3 0) (K (J3 0) (K (J3 0) (K (J3 0) (K (J3 0) (K (J3 1) (J (J3 1)) .leaf) (J (J3 1))) (K (J3 0) (J (J3 1)) (J (J3 1)))) (K (J3 0) (K (J3 0) (J (J3 1)) (J (J3 1))) (K (J3 1) (J (J3 1)) (J (J3 1))))) (K (J3 0) (K (J3 0) (K (J3 0) (J (J3 1)) (J (J3 1))) (K (J3 1) (J (J3 1)) (J (J3 1)))) (K (J3 0) (K (J3 0) (J (J3 1)) (J (J3 1))) (K (J3 1) (J (J3 1)) (J (J3 1)))))) (K (J3 0) (K (J3 0) (K (J3 0) (K (J3 0) (J (J3 1)) (J (J3 1))) (K (J3 1) (J (J3 1)) (J (J3 1)))) (K (J3 0) (K (J3 0) (J (J3 1)) (J (J3 1))) (K (J3 1) (J (J3 1)) (J (J3 1))))) (K (J3 0) (K (J3 0) (K (J3 0) (J (J3 1)) (J (J3 1))) (K (J3 1) (J (J3 1)) (J (J3 1)))) (K (J3 0) (K (J3 0) (J (J3 1)) (J (J3 1))) (K (J3 1) (J (J3 1)) (J (J3 1))))))) (K (J3 0) (K (J3 0) (K (J3 0) (K (J3 0) (K (J3 0) (J (J3 1)) (J (J3 1))) (K (J3 0) (J (J3 1)) (J (J3 1)))) (K (J3 0) (K (J3 0) (J (J3 1)) (J (J3 1))) (K (J3 1) (J (J3 1)) (J (J3 1))))) (K (J3 0) (K (J3 0) (K (J3 0) (J (J3 1)) (J (J3 1))) (K (J3 1) (J (J3 1)) (J (J3 1)))) (K (J3 0) (K (J3 0) (J (J3 1)) (J (J3 1))) (K (J3 1) (J (J3 1)) (J (J3 1)))))) (K (J3 0) (K (J3 0) (K (J3 0) (K (J3 0) (J (J3 1)) (J (J3 1))) (K (J3 1) (J (J3 1)) (J (J3 1)))) (K (J3 0) (K (J3 0) (J (J3 1)) (J (J3 1))) (K (J3 1) (J (J3 1)) (J (J3 1))))) (K (J3 0) (K (J3 0) (K (J3 0) (J (J3 1)) (J (J3 1))) (K (J3 1) (J (J3 1)) (J (J3 1)))) (K (J3 0) (K (J3 0) (J (J3 1)) (J (J3 1))) (K (J3 1) (J (J3 1)) (J (J3 1)))))))) (K (J3 0) (K (J3 0) (K (J3 0) (K (J3 0) (K (J3 0) (K (J3 0) (J (J3 1)) (J (J3 1))) (K (J3 0) (J (J3 1)) (J (J3 1)))) (K (J3 0) (K (J3 0) (J (J3 1)) (J (J3 1))) (K (J3 1) (J (J3 1)) (J (J3 1))))) (K (J3 0) (K (J3 0) (K (J3 0) (J (J3 1)) (J (J3 1))) (K (J3 1) (J (J3 1)) (J (J3 1)))) (K (J3 0) (K (J3 0) (J (J3 1)) (J (J3 1))) (K (J3 1) (J (J3 1)) (J (J3 1)))))) (K (J3 0) (K (J3 0) (K (J3 0) (K (J3 0) (J (J3 1)) (J (J3 1))) (K (J3 1) (J (J3 1)) (J (J3 1)))) (K (J3 0) (K (J3 0) (J (J3 1)) (J (J3 1))) (K (J3 1) (J (J3 1)) (J (J3 1))))) (K (J3 0) (K (J3 0) (K (J3 0) (J (J3 1)) (J (J3 1))) (K (J3 1) (J (J3 1)) (J (J3 1)))) (K (J3 0) (K (J3 0) (J (J3 1)) (J (J3 1))) (K (J3 1) (J (J3 1)) (J (J3 1))))))) (K (J3 0) (K (J3 0) (K (J3 0) (K (J3 0) (K (J3 0) (J (J3 1)) (J (J3 1))) (K (J3 1) (J (J3 1)) (J (J3 1)))) (K (J3 0) (K (J3 0) (J (J3 1)) (J (J3 1))) (K (J3 1) (J (J3 1)) (J (J3 1))))) (K (J3 0) (K (J3 0) (K (J3 0) (J (J3 1)) (J (J3 1))) (K (J3 1) (J (J3 1)) (J (J3 1)))) (K (J3 0) (K (J3 0) (J (J3 1)) (J (J3 1))) (K (J3 1) (J (J3 1)) (J (J3 1)))))) (K (J3 0) (K (J3 0) (K (J3 0) (K (J3 0) (J (J3 1)) (J (J3 1))) (K (J3 1) (J (J3 1)) (J (J3 1)))) (K (J3 0) (K (J3 0) (J (J3 1)) (J (J3 1))) (K (J3 1) (J (J3 1)) (J (J3 1))))) (K (J3 0) (K (J3 0) (K (J3 0) (J (J3 1)) (J (J3 1))) (K (J3 1) (J (J3 1)) (J (J3 1)))) (K (J3 0) (K (J3 0) (J (J3 1)) (J (J3 1))) (K (J3 1) (J (J3 1)) (J (J3 1))))))))) 256),
  (4, .cells (K (J3 0) (K (J3 0) (K (J3 0) (K (J3 0) (K (J3 0) (K (J3 0) (K (J3 0) (K (J3 1) (J (J3 1)) .leaf) (J (J3 1))) (K (J3 0) (J (J3 1)) (J (J3 1)))) (K (J3 0) (K (J3 0) (J (J3 1)) (J (J3 1))) (K (J3 1) (J (J3 1)) (J (J3 1))))) (K (J3 0) (K (J3 0) (K (J3 0) (J (J3 1)) (J (J3 1))) (K (J3 1) (J (J3 1)) (J (J3 1)))) (K (J3 0) (K (J3 0) (J (J3 1)) (J (J3 1))) (K (J3 1) (J (J3 1)) (J (J3 1)))))) (K (J3 0) (K (J3 0) (K (J3 0) (K (J3 0) (J (J3 1)) (J (J3 1))) (K (J3 1) (J (J3 1)) (J (J3 1)))) (K (J3 0) (K (J3 0) (J (J3 1)) (J (J3 1))) (K (J3 1) (J (J3 1)) (J (J3 1))))) (K (J3 0) (K (J3 0) (K (J3 0) (J (J3 1)) (J (J3 1))) (K (J3 1) (J (J3 1)) (J (J3 1)))) (K (J3 0) (K (J3 0) (J (J3 1)) (J (J3 1))) (K (J3 1) (J (J3 1)) (J (J3 1))))))) (K (J3 0) (K (J3 0) (K (J3 0) (K (J3 0) (K (J3 0) (J (J3 1)) (J (J3 1))) (K (J3 1) (J (J3 1)) (J (J3 1)))) (K (J3 0) (K (J3 0) (J (J3 1)) (J (J3 1))) (K (J3 1) (J (J3 1)) (J (J3 1))))) (K (J3 0) (K (J3 0) (K (J3 0) (J (J3 1)) (J (J3 1))) (K (J3 1) (J (J3 1)) (J (J3 1)))) (K (J3 0) (K (J3 0) (J (J3 1)) (J (J3 1))) (K (J3 1) (J (J3 1)) (J (J3 1)))))) (K (J3 0) (K (J3 0) (K (J3 0) (K (J3 0) (J (J3 1)) (J (J3 1))) (K (J3 1) (J (J3 1)) (J (J3 1)))) (K (J3 0) (K (J3 0) (J (J3 1)) (J (J3 1))) (K (J3 1) (J (J3 1)) (J (J3 1))))) (K (J3 0) (K (J3 0) (K (J3 0) (J (J3 1)) (J (J3 1))) (K (J3 1) (J (J3 1)) (J (J3 1)))) (K (J3 0) (K (J3 0) (J (J3 1)) (J (J3 1))) (K (J3 1) (J (J3 1)) (J (J3 1)))))))) (K (J3 0) (K (J3 0) (K (J3 0) (K (J3 0) (K (J3 0) (K (J3 0) (J (J3 1)) (J (J3 1))) (K (J3 0) (J (J3 1)) (J (J3 1)))) (K (J3 0) (K (J3 0) (J (J3 1)) (J (J3 1))) (K (J3 1) (J (J3 1)) (J (J3 1))))) (K (J3 0) (K (J3 0) (K (J3 0) (J (J3 1)) (J (J3 1))) (K (J3 1) (J (J3 1)) (J (J3 1)))) (K (J3 0) (K (J3 0) (J (J3 1)) (J (J3 1))) (K (J3 1) (J (J3 1)) (J (J3 1)))))) (K (J3 0) (K (J3 0) (K (J3 0) (K (J3 0) (J (J3 1)) (J (J3 1))) (K (J3 1) (J (J3 1)) (J (J3 1)))) (K (J3 0) (K (J3 0) (J (J3 1)) (J (J3 1))) (K (J3 1) (J (J3 1)) (J (J3 1))))) (K (J3 0) (K (J3 0) (K (J3 0) (J (J3 1)) (J (J3 1))) (K (J3 1) (J (J3 1)) (J (J3 1)))) (K (J3 0) (K (J3 0) (J (J3 1)) (J (J3 1))) (K (J3 1) (J (J3 1)) (J (J3 1))))))) (K (J3 0) (K (J3 0) (K (J3 0) (K (J3 0) (K (J3 0) (J (J3 1)) (J (J3 1))) (K (J3 1) (J (J3 1)) (J (J3 1)))) (K (J3 0) (K (J3 0) (J (J3 1)) (J (J3 1))) (K (J3 1) (J (J3 1)) (J (J3 1))))) (K (J3 0) (K (J3 0) (K (J3 0) (J (J3 1)) (J (J3 1))) (K (J3 1) (J (J3 1)) (J (J3 1)))) (K (J3 0) (K (J3 0) (J (J3 1)) (J (J3 1))) (K (J3 1) (J (J3 1)) (J (J3 1)))))) (K (J3 0) (K (J3 0) (K (J3 0) (K (J3 0) (J (J3 1)) (J (J3 1))) (K (J3 1) (J (J3 1)) (J (J3 1)))) (K (J3 0) (K (J3 0) (J (J3 1)) (J (J3 1))) (K (J3 1) (J (J3 1)) (J (J3 1))))) (K (J3 0) (K (J3 0) (K (J3 0) (J (J3 1)) (J (J3 1))) (K (J3 1) (J (J3 1)) (J (J3 1)))) (K (J3 0) (K (J3 0) (J (J3 1)) (J (J3 1))) (K (J3 1) (J (J3 1)) (J (J3 1))))))))) 256)]
theorem r0 : chkRun (denF envT (den envT (tabS tel0) 1000000 60) (xdraw envT (den envT (tabS tel0) 1000000 60)) 1000000 230 a0 (ofL (bare b0) 1)) (bare b0) 1 c0 d0 7 = true := by kernel_rfl
noncomputable def tel1 : PT Fun := addT tel0 230 (memo a0 b0 1 c0 d0 7)
theorem tel1_ok : TabOK Tryz.prog envT tel1 := tel0_ok.add (memo_ok (run_of_den envT_ok (tabS_sound envT_ok tel0_ok) r0)) (fnS (by kernel_rfl))
def a1 : List Value := [(J3 256), (Js 0 0 1 1), (Js 1 0 1 1), (.slice none 0 0)]
def b1 : List (Nat × Bool × AObj) := [(0, false, .cells (J (J3 97)) 1),
  (1, false, .cells (J (.bool false)) 1)]
def c1 : Value := (Js 2 0 1 1)
def d1 : OL := [(2, .cells (J (J3 0)) 1)]
theorem r1 : chkRun (denF envT (den envT (tabS tel1) 1000000 60) (xdraw envT (den envT (tabS tel1) 1000000 60)) 1000000 203 a1 (ofL (bare b1) 2)) (bare b1) 2 c1 d1 10 = true := by kernel_rfl
noncomputable def tel2 : PT Fun := addT tel1 203 (memo a1 b1 2 c1 d1 10)
theorem tel2_ok : TabOK Tryz.prog envT tel2 := tel1_ok.add (memo_ok (run_of_den envT_ok (tabS_sound envT_ok tel1_ok) r1)) (fnS (by kernel_rfl))
def a2 : List Value := [(J3 256), (Js 0 0 1 1)]
def b2 : List (Nat × Bool × AObj) := [(0, false, .cells (J (J3 97)) 1)]
def c2 : Value := (.tuple ⟨[(Js 12 0 1 1), (J3 0)]⟩)
def d2 : OL := [(12, .cells (J (J3 0)) 1)]
theorem r2 : chkRun (denF envT (den envT (tabS tel2) 1000000 60) (xdraw envT (den envT (tabS tel2) 1000000 60)) 1000000 141 a2 (ofL (bare b2) 1)) (bare b2) 1 c2 d2 20 = true := by kernel_rfl
noncomputable def tel3 : PT Fun := addT tel2 141 (memo a2 b2 1 c2 d2 20)
theorem tel3_ok : TabOK Tryz.prog envT tel3 := tel2_ok.add (memo_ok (run_of_den envT_ok (tabS_sound envT_ok tel2_ok) r2)) (fnS (by kernel_rfl))
def a3 : List Value := [(Jp 0 0), (.slice none 0 0)]
def b3 : List (Nat × Bool × AObj) := [(0, true, .cells (K (.bool true) (K (Js 1 0 1 1) (J (Js 2 0 1 1)) .leaf) (K (Js 3 0 1 1) (J (Js 4 0 1 1)) .leaf)) 5),
  (1, false, .cells (J (J4 97)) 1),
  (2, false, .cells (J (J3 0)) 1),
  (3, false, .cells (J (J3 0)) 1),
  (4, false, .cells (J (J3 0)) 1)]
def c3 : Value := (.tuple ⟨[(J3 0), (J3 1), (J3 0)]⟩)
def d3 : OL := []
theorem r3 : chkRun (denF envT (den envT (tabS tel3) 1000000 60) (xdraw envT (den envT (tabS tel3) 1000000 60)) 1000000 115 a3 (ofL (bare b3) 5)) (bare b3) 5 c3 d3 68 = true := by kernel_rfl
noncomputable def tel4 : PT Fun := addT tel3 115 (memo a3 b3 5 c3 d3 68)
theorem tel4_ok : TabOK Tryz.prog envT tel4 := tel3_ok.add (memo_ok (run_of_den envT_ok (tabS_sound envT_ok tel3_ok) r3)) (fnS (by kernel_rfl))
def a4 : List Value := [(.agg ⟨[(Js 0 0 1 4611686018427387907), (.slice none 0 0), (Js 1 0 1 4611686018427387905)]⟩), (J3 64)]
def b4 : List (Nat × Bool × AObj) := [(0, false, .cells (K (J3 0) (J (J3 1)) (J (J3 0))) 3),
  (1, false, .cells (J (J4 98)) 1)]
def c4 : Value := (.tuple ⟨[(Js 43 0 1 4611686018427387908), (J3 0)]⟩)
def d4 : OL := [(43, .cells (K (J3 0) (K (Js 28 0 1 4611686018427387907) (J (Js 41 0 1 4611686018427387905)) .leaf) (J (.slice none 0 0))) 4),
  (28, .cells (K (J3 0) (J (J3 1)) (J (J3 0))) 3),
  (41, .cells (J (J4 98)) 1)]
theorem r4 : chkRun (denF envT (den envT (tabS tel4) 1000000 60) (xdraw envT (den envT (tabS tel4) 1000000 60)) 1000000 87 a4 (ofL (bare b4) 2)) (bare b4) 2 c4 d4 44 = true := by kernel_rfl
noncomputable def tel5 : PT Fun := addT tel4 87 (memo a4 b4 2 c4 d4 44)
theorem tel5_ok : TabOK Tryz.prog envT tel5 := tel4_ok.add (memo_ok (run_of_den envT_ok (tabS_sound envT_ok tel4_ok) r4)) (fnS (by kernel_rfl))
end Go.Proofs.YtdkiegheiplkkaaGreat
