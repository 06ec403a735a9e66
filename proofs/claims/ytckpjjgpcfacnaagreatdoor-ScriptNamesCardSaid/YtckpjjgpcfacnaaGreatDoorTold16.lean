/- Told runs: what functions of the program come to from a small memory. Conditions: none. -/
import Derived.Test.YtckpjjgpcfacnaaGreatDoorTold15
namespace Go.Proofs.YtckpjjgpcfacnaaGreatDoor
open Go.ChangeShapes Go.WideShapes Go.ChangeAt Go.RowKit Go.Conc Go.Den
def ob112 : AObj := .cells (K (Jp 2 0) (K (Jp 3 0) (K (Jp 4 0) (K (J3 100) (J (J3 0)) (J (J3 4))) (K (J6 2562107784) (J (J3 5)) (J (J3 0)))) (K (J3 0) (K (J3 4) (J (J3 0)) (J (Js 5 0 0 64))) (K (J3 100) (J (J3 6)) (J (J3 0))))) (K (Jp 6 0) (K (Jp 7 0) (K (J3 3) (J (J3 3)) (J (Js 8 0 3 384))) (K (J3 64) (J (J3 0)) (J (J6 0)))) (K (J3 64) (K (J6 1063113957) (J (J3 4)) (J (Js 9 0 1 64))) (K (.bool true) (J (J3 2)) (J (.bool false)))))) 31 0
def ob113 : AObj := .cells (K (J6 1112746201) (K (J6 3730067007) (K (J3 0) (K (J3 4) (K (.bool true) (J (J3 0)) .leaf) (J (J3 6))) (K (J3 100) (K (J3 0) (J (.bool false)) .leaf) (J (J3 3)))) (K (J3 0) (K (J6 2562107784) (K (J3 0) (J (J3 3)) .leaf) (J (J3 1))) (K (J3 4) (J (J3 5)) (J (J3 4))))) (K (J7 0) (K (J7 0) (K (J6 1063113957) (K (J3 6) (J (J3 6)) .leaf) (J (J3 0))) (K (.bool true) (K (J3 4) (J (J3 0)) .leaf) (J (J3 0)))) (K (J3 3) (K (J3 64) (K (J3 3) (J (J3 0)) .leaf) (J (J3 0))) (K (J3 39) (J (J3 0)) (J (J3 5)))))) 37 0
def ob114 : AObj := .cells (K (Jp 17 0) (K (J3 100) (K (J7 9) (K (Jp 18 0) (J (J3 0)) .leaf) (J (J3 0))) (K (J3 11) (K (J3 4) (J (.slice none 0 0)) .leaf) (J (J3 0)))) (K (J3 4) (K (J3 5) (K (Jp 19 0) (J (J3 0)) .leaf) (J (J3 0))) (K (Jp 20 0) (J (.bool true)) (J (J3 0))))) 18 0
def ob115 : AObj := .cells (K (Jp 2 0) (K (Jp 3 0) (K (Jp 4 0) (K (J3 100) (J (J3 0)) (J (J3 0))) (K (J6 2562107784) (J (J3 5)) (J (J3 0)))) (K (J3 0) (K (J3 4) (J (J3 0)) (J (Js 5 0 0 64))) (K (J3 100) (J (J3 6)) (J (J3 0))))) (K (Jp 6 0) (K (Jp 7 0) (K (J3 3) (J (J3 3)) (J (Js 8 0 3 384))) (K (J3 64) (J (J3 0)) (J (J6 0)))) (K (J3 64) (K (J6 1063113957) (J (J3 4)) (J (Js 9 0 4 64))) (K (.bool true) (J (J3 2)) (J (.bool false)))))) 31 0
def ob116 : AObj := .cells (K (Jp 17 0) (K (J3 100) (K (J7 0) (K (Jp 18 0) (J (J3 0)) .leaf) (J (J3 0))) (K (J3 42) (K (J3 9) (J (.slice none 0 0)) .leaf) (J (J3 0)))) (K (J3 4) (K (J3 6) (K (Jp 19 0) (J (J3 0)) .leaf) (J (J3 0))) (K (Jp 20 0) (J (.bool true)) (J (J3 0))))) 18 0
def ob117 : AObj := .cells (K (J4 110) (K (J4 101) (K (J4 33) (K (J4 0) (K (J4 0) (K (J4 0) (J (J4 0)) .leaf) (J (J4 0))) (K (J4 0) (J (J4 0)) (J (J4 0)))) (K (J4 0) (K (J4 0) (J (J4 0)) (J (J4 0))) (K (J4 0) (J (J4 0)) (J (J4 0))))) (K (J4 0) (K (J4 0) (K (J4 0) (J (J4 0)) (J (J4 0))) (K (J4 0) (J (J4 0)) (J (J4 0)))) (K (J4 0) (K (J4 0) (J (J4 0)) (J (J4 0))) (K (J4 0) (J (J4 0)) (J (J4 0)))))) (K (J4 119) (K (J4 0) (K (J4 0) (K (J4 0) (J (J4 0)) (J (J4 0))) (K (J4 0) (J (J4 0)) (J (J4 0)))) (K (J4 0) (K (J4 0) (J (J4 0)) (J (J4 0))) (K (J4 0) (J (J4 0)) (J (J4 0))))) (K (J4 0) (K (J4 0) (K (J4 0) (J (J4 0)) (J (J4 0))) (K (J4 0) (J (J4 0)) (J (J4 0)))) (K (J4 0) (K (J4 0) (J (J4 0)) (J (J4 0))) (K (J4 0) (J (J4 0)) (J (J4 0))))))) 64 0
def ob118 : AObj := .cells (K (J4 110) (K (J4 101) (K (J4 33) (K (J4 0) (K (J4 0) (K (J4 0) (J (J4 0)) (J (J4 0))) (K (J4 0) (J (J4 0)) .leaf)) (K (J4 0) (K (J4 0) (J (J4 0)) .leaf) (K (J4 0) (J (J4 0)) .leaf))) (K (J4 0) (K (J4 0) (K (J4 0) (J (J4 0)) (J (J4 0))) (K (J4 0) (J (J4 0)) .leaf)) (K (J4 0) (K (J4 0) (J (J4 0)) .leaf) (K (J4 0) (J (J4 0)) .leaf)))) (K (J4 0) (K (J4 0) (K (J4 0) (K (J4 0) (J (J4 0)) (J (J4 0))) (K (J4 0) (J (J4 0)) .leaf)) (K (J4 0) (K (J4 0) (J (J4 0)) .leaf) (K (J4 0) (J (J4 0)) .leaf))) (K (J4 0) (K (J4 0) (K (J4 0) (J (J4 0)) .leaf) (K (J4 0) (J (J4 0)) .leaf)) (K (J4 0) (K (J4 0) (J (J4 0)) .leaf) (K (J4 0) (J (J4 0)) .leaf))))) (K (J4 119) (K (J4 0) (K (J4 0) (K (J4 0) (K (J4 0) (J (J4 0)) (J (J4 0))) (K (J4 0) (J (J4 0)) .leaf)) (K (J4 0) (K (J4 0) (J (J4 0)) .leaf) (K (J4 0) (J (J4 0)) .leaf))) (K (J4 0) (K (J4 0) (K (J4 0) (J (J4 0)) .leaf) (K (J4 0) (J (J4 0)) .leaf)) (K (J4 0) (K (J4 0) (J (J4 0)) .leaf) (K (J4 0) (J (J4 0)) .leaf)))) (K (J4 0) (K (J4 0) (K (J4 0) (K (J4 0) (J (J4 0)) (J (J4 0))) (K (J4 0) (J (J4 0)) .leaf)) (K (J4 0) (K (J4 0) (J (J4 0)) .leaf) (K (J4 0) (J (J4 0)) .leaf))) (K (J4 0) (K (J4 0) (K (J4 0) (J (J4 0)) .leaf) (K (J4 0) (J (J4 0)) .leaf)) (K (J4 0) (K (J4 0) (J (J4 0)) .leaf) (K (J4 0) (J (J4 0)) .leaf)))))) 100 0
def a78 : List Value := [(Jp 0 0), (Js 1 0 4 4611686018427387905)]
def b78 : List (Nat × Bool × AObj) := [(0, true, ob112),
  (1, false, (.cells (K (J4 45) (K (J4 87) (J (J4 0)) .leaf) (J (J4 4))) 4 11)),
  (2, true, (.cells (K (J2 0) (K (J6 0) (J (J3 4639)) .leaf) (J (.map (some 10)))) 4 0)),
  (3, true, ob96),
  (4, false, ob113),
  (5, false, ob53),
  (6, true, (.cells (K (Jp 3 0) (K (J3 1) (K (Js 16 0 64 64) (J (.bool false)) .leaf) (J (J3 0))) (K (J3 128) (K (J3 0) (J (J3 0)) .leaf) (J (J3 0)))) 9 0)),
  (7, true, ob114),
  (8, false, ob102),
  (9, false, ob111),
  (10, false, ob64),
  (11, true, (.map [((.agg ⟨[(J3 2), (J3 0)]⟩), (Jp 21 0)), ((.agg ⟨[(J3 2), (J3 1)]⟩), (Jp 22 0)), ((.agg ⟨[(J3 0), (J3 0)]⟩), (Jp 23 0))] [0, 1, 2] 3)),
  (12, false, (.cells .leaf 0 0)),
  (13, false, (.cells (K (J4 111) (J (J4 108)) (J (J4 100))) 3 0)),
  (14, false, (.cells (K (J3 1) (K (J3 2) (J (J3 2)) (J (J3 0))) (K (J3 0) (J (J3 2)) .leaf)) 6 913)),
  (15, false, (.map [((.agg ⟨[(J3 2), (J3 0)]⟩), (J3 1))] [0] 1)),
  (16, false, ob53),
  (17, true, (.cells (K (Js 24 0 100 100) (J (J3 1)) (J (J3 1))) 3 0)),
  (18, false, ob89),
  (19, true, ob99),
  (20, false, ob84),
  (21, true, (.cells (K (Js 26 0 64 64) (J (.bool false)) .leaf) 2 0)),
  (22, true, (.cells (K (Js 27 0 64 64) (J (.bool true)) .leaf) 2 0)),
  (23, true, (.cells (K (Js 28 0 64 64) (J (.bool false)) .leaf) 2 0)),
  (24, false, ob107),
  (25, false, ob73),
  (26, false, ob56),
  (27, false, ob54),
  (28, false, ob58)]
def c78 : Value := (J3 0)
def d78 : OL := [(0, ob115),
  (7, ob116),
  (9, ob117),
  (17, (.cells (K (Js 24 0 100 100) (J (J3 4)) (J (J3 4))) 3 0)),
  (24, ob118)]
theorem r78 : chkRun (denF envT (den envT (tabS tel78) 1000000 60) (xdraw envT (den envT (tabS tel78) 1000000 60)) 1000000 260 a78 (ofL (bare b78) 29)) (bare b78) 29 c78 d78 485 = true := by kernel_rfl
noncomputable def tel79 : PT Fun := addT tel78 260 (memo a78 b78 29 c78 d78 485)
theorem tel79_ok : TabOK Tryz.prog envT tel79 := tel78_ok.add (memo_ok (run_of_den envT_ok (tabS_sound envT_ok tel78_ok) r78)) (fnS (by kernel_rfl))
def ob119 : AObj := .cells (K (Jp 9 0) (K (Jp 2 0) (K (Jp 10 0) (K (J3 100) (J (J3 0)) (J (J3 0))) (K (J6 2562107784) (J (J3 5)) (J (J3 4)))) (K (J3 0) (K (J3 4) (J (J3 0)) (J (Js 11 0 0 64))) (K (J3 100) (J (J3 6)) (J (J3 0))))) (K (Jp 12 0) (K (Jp 13 0) (K (J3 3) (J (J3 3)) (J (Js 14 0 3 384))) (K (J3 64) (J (J3 0)) (J (J6 2562107784)))) (K (J3 64) (K (J6 1063113957) (J (J3 4)) (J (Js 15 0 4 64))) (K (.bool true) (J (J3 2)) (J (.bool false)))))) 31 0
def ob120 : AObj := .cells (K (J6 3527457957) (K (J6 1112746201) (K (J3 0) (K (J3 4) (K (.bool true) (J (J3 0)) .leaf) (J (J3 6))) (K (J3 100) (K (J3 0) (J (.bool false)) .leaf) (J (J3 3)))) (K (J3 1) (K (J6 2562107784) (K (J3 0) (J (J3 3)) .leaf) (J (J3 1))) (K (J3 4) (J (J3 5)) (J (J3 4))))) (K (J7 0) (K (J7 217) (K (J6 1063113957) (K (J3 6) (J (J3 6)) .leaf) (J (J3 0))) (K (.bool true) (K (J3 4) (J (J3 0)) .leaf) (J (J3 0)))) (K (J3 3) (K (J3 64) (K (J3 3) (J (J3 0)) .leaf) (J (J3 0))) (K (J3 40) (J (J3 0)) (J (J3 5)))))) 37 0
def ob121 : AObj := .cells (K (Jp 21 0) (K (J3 100) (K (J7 0) (K (Jp 22 0) (J (J3 0)) .leaf) (J (J3 0))) (K (J3 42) (K (J3 9) (J (.slice none 0 0)) .leaf) (J (J3 0)))) (K (J3 4) (K (J3 6) (K (Jp 23 0) (J (J3 0)) .leaf) (J (J3 0))) (K (Jp 24 0) (J (.bool true)) (J (J3 0))))) 18 0
def a79 : List Value := [(Jp 0 0), (Js 1 35 5 4611686018427387905)]
def b79 : List (Nat × Bool × AObj) := [(0, true, (.cells (K (Jp 2 0) (K (J3 2) (J (J3 1)) (J (J6 1063113957))) (K (J3 0) (J (J3 3)) (J (Jp 3 0)))) 7 0)),
  (1, false, ob52),
  (2, true, ob74),
  (3, true, ob108),
  (4, true, (.map [((.agg ⟨[(J3 2), (J3 0)]⟩), (Jp 16 0)), ((.agg ⟨[(J3 2), (J3 1)]⟩), (Jp 17 0)), ((.agg ⟨[(J3 0), (J3 0)]⟩), (Jp 18 0))] [0, 1, 2] 3)),
  (5, false, (.cells .leaf 0 0)),
  (6, false, (.cells (K (J4 111) (J (J4 108)) (J (J4 100))) 3 0)),
  (7, false, (.cells (K (J3 1) (K (J3 2) (J (J3 2)) (J (J3 0))) (K (J3 0) (J (J3 2)) .leaf)) 6 913)),
  (8, false, (.map [((.agg ⟨[(J3 2), (J3 0)]⟩), (J3 1))] [0] 1)),
  (9, true, (.cells (K (J2 0) (K (J6 0) (J (J3 4639)) .leaf) (J (.map (some 19)))) 4 0)),
  (10, false, ob109),
  (11, false, ob53),
  (12, true, (.cells (K (Jp 2 0) (K (J3 1) (K (Js 20 0 64 64) (J (.bool false)) .leaf) (J (J3 0))) (K (J3 128) (K (J3 0) (J (J3 0)) .leaf) (J (J3 0)))) 9 0)),
  (13, true, ob110),
  (14, false, ob102),
  (15, false, ob111),
  (16, true, (.cells (K (Js 25 0 64 64) (J (.bool false)) .leaf) 2 0)),
  (17, true, (.cells (K (Js 26 0 64 64) (J (.bool true)) .leaf) 2 0)),
  (18, true, (.cells (K (Js 27 0 64 64) (J (.bool false)) .leaf) 2 0)),
  (19, false, ob64),
  (20, false, ob53),
  (21, true, (.cells (K (Js 28 0 100 100) (J (J3 1)) (J (J3 1))) 3 0)),
  (22, false, ob89),
  (23, true, ob77),
  (24, false, ob84),
  (25, false, ob56),
  (26, false, ob54),
  (27, false, ob58),
  (28, false, ob107),
  (29, false, ob73)]
def c79 : Value := (J3 0)
def d79 : OL := [(3, ob119),
  (10, ob120),
  (12, (.cells (K (Jp 2 0) (K (J3 1) (K (Js 20 0 64 64) (J (.bool false)) .leaf) (J (J3 0))) (K (J3 128) (K (J3 4) (J (J3 0)) .leaf) (J (J3 4)))) 9 0)),
  (13, ob121),
  (15, ob117),
  (20, ob117),
  (21, (.cells (K (Js 28 0 100 100) (J (J3 4)) (J (J3 4))) 3 0)),
  (28, ob118)]
theorem r79 : chkRun (denF envT (den envT (tabS tel79) 1000000 60) (xdraw envT (den envT (tabS tel79) 1000000 60)) 1000000 73 a79 (ofL (bare b79) 30)) (bare b79) 30 c79 d79 809 = true := by kernel_rfl
noncomputable def tel80 : PT Fun := addT tel79 73 (memo a79 b79 30 c79 d79 809)
theorem tel80_ok : TabOK Tryz.prog envT tel80 := tel79_ok.add (memo_ok (run_of_den envT_ok (tabS_sound envT_ok tel79_ok) r79)) (fnS (by kernel_rfl))
def ob122 : AObj := .cells (K (J6 558161692) (K (J6 1112746201) (K (J3 0) (K (J3 4) (K (.bool true) (J (J3 0)) .leaf) (J (J3 6))) (K (J3 100) (K (J3 0) (J (.bool true)) .leaf) (J (J3 3)))) (K (J3 4) (K (J6 2562107784) (K (J3 0) (J (J3 3)) .leaf) (J (J3 1))) (K (J3 4) (J (J3 5)) (J (J3 4))))) (K (J7 0) (K (J7 1112746201) (K (J6 1063113957) (K (J3 6) (J (J3 6)) .leaf) (J (J3 0))) (K (.bool true) (K (J3 4) (J (J3 0)) .leaf) (J (J3 0)))) (K (J3 3) (K (J3 64) (K (J3 3) (J (J3 0)) .leaf) (J (J3 0))) (K (J3 43) (J (J3 0)) (J (J3 5)))))) 37 0
def a80 : List Value := [(Jp 0 0), (Js 1 40 3 4611686018427387905)]
def b80 : List (Nat × Bool × AObj) := [(0, true, (.cells (K (Jp 2 0) (K (J3 2) (J (J3 1)) (J (J6 1063113957))) (K (J3 0) (J (J3 3)) (J (Jp 3 0)))) 7 0)),
  (1, false, ob52),
  (2, true, ob74),
  (3, true, ob119),
  (4, true, (.map [((.agg ⟨[(J3 2), (J3 0)]⟩), (Jp 16 0)), ((.agg ⟨[(J3 2), (J3 1)]⟩), (Jp 17 0)), ((.agg ⟨[(J3 0), (J3 0)]⟩), (Jp 18 0))] [0, 1, 2] 3)),
  (5, false, (.cells .leaf 0 0)),
  (6, false, (.cells (K (J4 111) (J (J4 108)) (J (J4 100))) 3 0)),
  (7, false, (.cells (K (J3 1) (K (J3 2) (J (J3 2)) (J (J3 0))) (K (J3 0) (J (J3 2)) .leaf)) 6 913)),
  (8, false, (.map [((.agg ⟨[(J3 2), (J3 0)]⟩), (J3 1))] [0] 1)),
  (9, true, (.cells (K (J2 0) (K (J6 0) (J (J3 4639)) .leaf) (J (.map (some 19)))) 4 0)),
  (10, false, ob120),
  (11, false, ob53),
  (12, true, (.cells (K (Jp 2 0) (K (J3 1) (K (Js 20 0 64 64) (J (.bool false)) .leaf) (J (J3 0))) (K (J3 128) (K (J3 4) (J (J3 0)) .leaf) (J (J3 4)))) 9 0)),
  (13, true, ob121),
  (14, false, ob102),
  (15, false, ob117),
  (16, true, (.cells (K (Js 25 0 64 64) (J (.bool false)) .leaf) 2 0)),
  (17, true, (.cells (K (Js 26 0 64 64) (J (.bool true)) .leaf) 2 0)),
  (18, true, (.cells (K (Js 27 0 64 64) (J (.bool false)) .leaf) 2 0)),
  (19, false, ob64),
  (20, false, ob117),
  (21, true, (.cells (K (Js 28 0 100 100) (J (J3 4)) (J (J3 4))) 3 0)),
  (22, false, ob89),
  (23, true, ob77),
  (24, false, ob84),
  (25, false, ob56),
  (26, false, ob54),
  (27, false, ob58),
  (28, false, ob118),
  (29, false, ob73)]
def c80 : Value := (J3 0)
def d80 : OL := [(10, ob122)]
theorem r80 : chkRun (denF envT (den envT (tabS tel80) 1000000 60) (xdraw envT (den envT (tabS tel80) 1000000 60)) 1000000 73 a80 (ofL (bare b80) 30)) (bare b80) 30 c80 d80 118 = true := by kernel_rfl
noncomputable def tel81 : PT Fun := addT tel80 73 (memo a80 b80 30 c80 d80 118)
theorem tel81_ok : TabOK Tryz.prog envT tel81 := tel80_ok.add (memo_ok (run_of_den envT_ok (tabS_sound envT_ok tel80_ok) r80)) (fnS (by kernel_rfl))
def a81 : List Value := [(Jp 0 0), (Js 1 0 43 4611686018427387905), (J3 5)]
def b81 : List (Nat × Bool × AObj) := [(0, true, (.cells (K (Jp 2 0) (K (J3 2) (J (J3 1)) (J (J6 1063113957))) (K (J3 0) (J (J3 3)) (J (Jp 3 0)))) 7 0)),
  (1, false, ob52),
  (2, true, ob74),
  (3, true, ob75),
  (4, true, (.map [((.agg ⟨[(J3 2), (J3 0)]⟩), (Jp 16 0)), ((.agg ⟨[(J3 2), (J3 1)]⟩), (Jp 17 0)), ((.agg ⟨[(J3 0), (J3 0)]⟩), (Jp 18 0))] [0, 1, 2] 3)),
  (5, false, (.cells .leaf 0 0)),
  (6, false, (.cells (K (J4 111) (J (J4 108)) (J (J4 100))) 3 0)),
  (7, false, (.cells (K (J3 1) (K (J3 2) (J (J3 2)) (J (J3 0))) (K (J3 0) (J (J3 2)) .leaf)) 6 913)),
  (8, false, (.map [((.agg ⟨[(J3 2), (J3 0)]⟩), (J3 1))] [0] 1)),
  (9, true, (.cells (K (J2 0) (K (J6 0) (J (J3 4639)) .leaf) (J (.map (some 19)))) 4 0)),
  (10, false, ob66),
  (11, false, ob53),
  (12, true, (.cells (K (Jp 2 0) (K (J3 1) (K (Js 20 0 64 64) (J (.bool false)) .leaf) (J (J3 0))) (K (J3 128) (K (J3 0) (J (J3 0)) .leaf) (J (J3 0)))) 9 0)),
  (13, true, ob76),
  (14, false, ob68),
  (15, false, ob53),
  (16, true, (.cells (K (Js 25 0 64 64) (J (.bool false)) .leaf) 2 0)),
  (17, true, (.cells (K (Js 26 0 64 64) (J (.bool true)) .leaf) 2 0)),
  (18, true, (.cells (K (Js 27 0 64 64) (J (.bool false)) .leaf) 2 0)),
  (19, false, ob64),
  (20, false, ob53),
  (21, true, (.cells (K (Js 28 0 100 100) (J (J3 0)) (J (J3 0))) 3 0)),
  (22, false, ob69),
  (23, true, ob77),
  (24, false, ob71),
  (25, false, ob56),
  (26, false, ob54),
  (27, false, ob58),
  (28, false, ob72),
  (29, false, ob73)]
def c81 : Value := (J3 0)
def d81 : OL := [(3, ob119),
  (10, ob122),
  (12, (.cells (K (Jp 2 0) (K (J3 1) (K (Js 20 0 64 64) (J (.bool false)) .leaf) (J (J3 0))) (K (J3 128) (K (J3 4) (J (J3 0)) .leaf) (J (J3 4)))) 9 0)),
  (13, ob121),
  (14, ob102),
  (15, ob117),
  (20, ob117),
  (21, (.cells (K (Js 28 0 100 100) (J (J3 4)) (J (J3 4))) 3 0)),
  (22, ob89),
  (24, ob84),
  (28, ob118)]
theorem r81 : chkRun (denF envT (den envT (tabS tel81) 1000000 60) (xdraw envT (den envT (tabS tel81) 1000000 60)) 1000000 74 a81 (ofL (bare b81) 30)) (bare b81) 30 c81 d81 9557 = true := by kernel_rfl
noncomputable def tel82 : PT Fun := addT tel81 74 (memo a81 b81 30 c81 d81 9557)
theorem tel82_ok : TabOK Tryz.prog envT tel82 := tel81_ok.add (memo_ok (run_of_den envT_ok (tabS_sound envT_ok tel81_ok) r81)) (fnS (by kernel_rfl))
def ob123 : AObj := .cells (K (J3 64) (K (J3 2) (K (.map (some 1)) (J (J3 0)) (J (J3 0))) (K (Js 2 0 0 0) (J (.bool false)) .leaf)) (K (J3 0) (K (Js 3 0 3 3) (J (.slice none 0 0)) .leaf) (K (Js 4 0 4 4611686018427387907) (J (.map (some 5))) .leaf))) 12 0
def ob124 : AObj := .map [((.agg ⟨[(J3 2), (J3 0)]⟩), (Jp 6 0)), ((.agg ⟨[(J3 2), (J3 1)]⟩), (Jp 7 0)), ((.agg ⟨[(J3 0), (J3 0)]⟩), (Jp 8 0)), ((.agg ⟨[(J3 1), (J3 0)]⟩), (Jp 9 0))] [0, 1, 2, 3] 4
def ob125 : AObj := .cells (K (J3 1) (K (J3 2) (K (J3 2) (J (J3 1)) (J (J3 0))) (K (J3 0) (J (J3 2)) .leaf)) (K (J3 0) (K (J3 2) (J (J3 0)) .leaf) (K (J3 1) (J (J3 1)) .leaf))) 12 913
def ob126 : AObj := .cells (K (J4 110) (K (J4 101) (K (J4 33) (K (J4 255) (K (J4 255) (K (J4 255) (J (J4 255)) .leaf) (J (J4 255))) (K (J4 255) (J (J4 255)) (J (J4 255)))) (K (J4 255) (K (J4 255) (J (J4 255)) (J (J4 255))) (K (J4 255) (J (J4 255)) (J (J4 255))))) (K (J4 255) (K (J4 255) (K (J4 255) (J (J4 255)) (J (J4 255))) (K (J4 255) (J (J4 255)) (J (J4 255)))) (K (J4 255) (K (J4 255) (J (J4 255)) (J (J4 255))) (K (J4 255) (J (J4 255)) (J (J4 255)))))) (K (J4 119) (K (J4 255) (K (J4 255) (K (J4 255) (J (J4 255)) (J (J4 255))) (K (J4 255) (J (J4 255)) (J (J4 255)))) (K (J4 255) (K (J4 255) (J (J4 255)) (J (J4 255))) (K (J4 255) (J (J4 255)) (J (J4 255))))) (K (J4 255) (K (J4 255) (K (J4 255) (J (J4 255)) (J (J4 255))) (K (J4 255) (J (J4 255)) (J (J4 255)))) (K (J4 255) (K (J4 255) (J (J4 255)) (J (J4 255))) (K (J4 255) (J (J4 255)) (J (J4 255))))))) 64 0
def a82 : List Value := [(Jp 0 0)]
def b82 : List (Nat × Bool × AObj) := [(0, true, ob123),
  (1, true, ob124),
  (2, false, (.cells .leaf 0 0)),
  (3, false, (.cells (K (J4 111) (J (J4 108)) (J (J4 100))) 3 0)),
  (4, false, ob125),
  (5, false, (.map [((.agg ⟨[(J3 2), (J3 0)]⟩), (J3 1)), ((.agg ⟨[(J3 1), (J3 0)]⟩), (J3 1))] [0, 1] 2)),
  (6, true, (.cells (K (Js 10 0 64 64) (J (.bool false)) .leaf) 2 0)),
  (7, true, (.cells (K (Js 11 0 64 64) (J (.bool true)) .leaf) 2 0)),
  (8, true, (.cells (K (Js 12 0 64 64) (J (.bool false)) .leaf) 2 0)),
  (9, true, (.cells (K (Js 13 0 64 64) (J (.bool false)) .leaf) 2 0)),
  (10, false, ob56),
  (11, false, ob54),
  (12, false, ob58),
  (13, false, ob126)]
def c82 : Value := (.tuple ⟨[(.agg ⟨[(J3 1), (J3 0), (J3 1), (J3 3), (J6 1063113957), (J3 0), (J3 0), (J3 0), (J6 0), (J3 0)]⟩), (J3 0), (J3 0)]⟩)
def d82 : OL := []
theorem r82 : chkRun (denF envT (den envT (tabS tel82) 1000000 60) (xdraw envT (den envT (tabS tel82) 1000000 60)) 1000000 115 a82 (ofL (bare b82) 14)) (bare b82) 14 c82 d82 287 = true := by kernel_rfl
noncomputable def tel83 : PT Fun := addT tel82 115 (memo a82 b82 14 c82 d82 287)
theorem tel83_ok : TabOK Tryz.prog envT tel83 := tel82_ok.add (memo_ok (run_of_den envT_ok (tabS_sound envT_ok tel82_ok) r82)) (fnS (by kernel_rfl))
def ob127 : AObj := .cells (K (J4 98) (K (J4 116) (K (J4 49) (K (J4 0) (K (J4 0) (K (J4 0) (J (J4 255)) .leaf) (J (J4 255))) (K (J4 93) (J (J4 51)) (J (J4 255)))) (K (J4 0) (K (J4 0) (J (J4 169)) (J (J4 255))) (K (J4 0) (J (J4 255)) (J (J4 255))))) (K (J4 0) (K (J4 0) (K (J4 3) (J (J4 0)) (J (J4 255))) (K (J4 1) (J (J4 74)) (J (J4 255)))) (K (J4 1) (K (J4 229) (J (J4 152)) (J (J4 255))) (K (J4 0) (J (J4 255)) (J (J4 255)))))) (K (J4 48) (K (J4 2) (K (J4 0) (K (J4 0) (J (J4 0)) (J (J4 255))) (K (J4 63) (J (J4 87)) (J (J4 255)))) (K (J4 0) (K (J4 0) (J (J4 182)) (J (J4 255))) (K (J4 0) (J (J4 255)) (J (J4 255))))) (K (J4 0) (K (J4 0) (K (J4 0) (J (J4 136)) (J (J4 255))) (K (J4 2) (J (J4 135)) (J (J4 255)))) (K (J4 0) (K (J4 212) (J (J4 3)) (J (J4 255))) (K (J4 4) (J (J4 255)) (J (J4 255))))))) 64 0
def a83 : List Value := [(Js 0 0 64 64)]
def b83 : List (Nat × Bool × AObj) := [(0, false, ob127)]
def c83 : Value := (.tuple ⟨[(.agg ⟨[(J3 2), (J3 0), (J3 1), (J3 3), (J6 1063113957), (J3 1), (J3 2), (J3 4), (J6 2562107784), (J3 3)]⟩), (J3 0)]⟩)
def d83 : OL := []
theorem r83 : chkRun (denF envT (den envT (tabS tel83) 1000000 60) (xdraw envT (den envT (tabS tel83) 1000000 60)) 1000000 183 a83 (ofL (bare b83) 1)) (bare b83) 1 c83 d83 196 = true := by kernel_rfl
noncomputable def tel84 : PT Fun := addT tel83 183 (memo a83 b83 1 c83 d83 196)
theorem tel84_ok : TabOK Tryz.prog envT tel84 := tel83_ok.add (memo_ok (run_of_den envT_ok (tabS_sound envT_ok tel83_ok) r83)) (fnS (by kernel_rfl))
def ob128 : AObj := .cells (K (J3 64) (K (J3 2) (K (.map (some 1)) (J (J3 0)) (J (J3 0))) (K (Js 2 0 0 0) (J (.bool false)) .leaf)) (K (J3 0) (K (Js 3 0 3 3) (J (.slice none 0 0)) .leaf) (K (Js 4 0 6 4611686018427387907) (J (.map (some 5))) .leaf))) 12 0
def ob129 : AObj := .cells (K (J3 1) (K (J3 2) (K (J3 2) (K (J3 1) (J (J3 2)) .leaf) (J (J3 0))) (K (J3 0) (K (J3 2) (J (J3 1)) .leaf) (J (J3 2)))) (K (J3 0) (K (J3 2) (K (J3 0) (J (J3 2)) .leaf) (J (J3 1))) (K (J3 1) (J (J3 1)) (J (J3 1))))) 18 913
def a84 : List Value := [(Jp 0 0)]
def b84 : List (Nat × Bool × AObj) := [(0, true, ob128),
  (1, true, ob124),
  (2, false, (.cells .leaf 0 0)),
  (3, false, (.cells (K (J4 111) (J (J4 108)) (J (J4 100))) 3 0)),
  (4, false, ob129),
  (5, false, (.map [((.agg ⟨[(J3 2), (J3 0)]⟩), (J3 1)), ((.agg ⟨[(J3 1), (J3 0)]⟩), (J3 1)), ((.agg ⟨[(J3 2), (J3 1)]⟩), (J3 1))] [0, 1, 2] 3)),
  (6, true, (.cells (K (Js 10 0 64 64) (J (.bool false)) .leaf) 2 0)),
  (7, true, (.cells (K (Js 11 0 64 64) (J (.bool false)) .leaf) 2 0)),
  (8, true, (.cells (K (Js 12 0 64 64) (J (.bool false)) .leaf) 2 0)),
  (9, true, (.cells (K (Js 13 0 64 64) (J (.bool false)) .leaf) 2 0)),
  (10, false, ob56),
  (11, false, ob127),
  (12, false, ob58),
  (13, false, ob126)]
def c84 : Value := (.tuple ⟨[(.agg ⟨[(J3 2), (J3 0), (J3 1), (J3 3), (J6 1063113957), (J3 1), (J3 2), (J3 4), (J6 2562107784), (J3 3)]⟩), (J3 1), (J3 0)]⟩)
def d84 : OL := []
theorem r84 : chkRun (denF envT (den envT (tabS tel84) 1000000 60) (xdraw envT (den envT (tabS tel84) 1000000 60)) 1000000 115 a84 (ofL (bare b84) 14)) (bare b84) 14 c84 d84 480 = true := by kernel_rfl
noncomputable def tel85 : PT Fun := addT tel84 115 (memo a84 b84 14 c84 d84 480)
theorem tel85_ok : TabOK Tryz.prog envT tel85 := tel84_ok.add (memo_ok (run_of_den envT_ok (tabS_sound envT_ok tel84_ok) r84)) (fnS (by kernel_rfl))
def ob130 : AObj := .cells (K (J3 64) (K (J3 2) (K (.map (some 9)) (J (J3 0)) (J (J3 0))) (K (Js 10 0 0 0) (J (.bool false)) .leaf)) (K (J3 1) (K (Js 11 0 3 3) (J (.slice none 0 0)) .leaf) (K (Js 12 0 8 4611686018427387907) (J (.map (some 13))) .leaf))) 12 0
def ob131 : AObj := .map [((.agg ⟨[(J3 2), (J3 0)]⟩), (Jp 14 0)), ((.agg ⟨[(J3 2), (J3 1)]⟩), (Jp 15 0)), ((.agg ⟨[(J3 0), (J3 0)]⟩), (Jp 16 0)), ((.agg ⟨[(J3 1), (J3 0)]⟩), (Jp 17 0))] [0, 1, 2, 3] 4
def ob132 : AObj := .cells (K (J3 1) (K (J3 2) (K (J3 2) (K (J3 1) (J (J3 2)) (J (J3 0))) (K (J3 0) (J (J3 2)) .leaf)) (K (J3 0) (K (J3 2) (J (J3 1)) .leaf) (K (J3 2) (J (J3 2)) .leaf))) (K (J3 0) (K (J3 2) (K (J3 0) (J (J3 2)) .leaf) (K (J3 1) (J (J3 0)) .leaf)) (K (J3 1) (K (J3 1) (J (J3 1)) .leaf) (K (J3 1) (J (J3 2)) .leaf)))) 24 913
def ob133 : AObj := .cells (K (J4 98) (K (J4 116) (K (J4 49) (K (J4 0) (K (J4 0) (K (J4 0) (J (J4 255)) .leaf) (J (J4 255))) (K (J4 93) (J (J4 109)) (J (J4 255)))) (K (J4 0) (K (J4 0) (J (J4 169)) (J (J4 255))) (K (J4 0) (J (J4 255)) (J (J4 255))))) (K (J4 0) (K (J4 0) (K (J4 3) (J (J4 0)) (J (J4 255))) (K (J4 1) (J (J4 211)) (J (J4 255)))) (K (J4 1) (K (J4 229) (J (J4 152)) (J (J4 255))) (K (J4 0) (J (J4 255)) (J (J4 255)))))) (K (J4 48) (K (J4 3) (K (J4 0) (K (J4 0) (J (J4 0)) (J (J4 255))) (K (J4 63) (J (J4 112)) (J (J4 255)))) (K (J4 0) (K (J4 0) (J (J4 182)) (J (J4 255))) (K (J4 0) (J (J4 255)) (J (J4 255))))) (K (J4 0) (K (J4 0) (K (J4 0) (J (J4 136)) (J (J4 255))) (K (J4 2) (J (J4 63)) (J (J4 255)))) (K (J4 0) (K (J4 212) (J (J4 2)) (J (J4 255))) (K (J4 4) (J (J4 255)) (J (J4 255))))))) 64 0
def a85 : List Value := [(Jp 0 0), (.agg ⟨[(J3 10), (.string ⟨#[115, 97, 109, 101]⟩), (Js 1 0 1 4611686018427387905), (.slice none 0 0), (.slice none 0 0)]⟩)]
def b85 : List (Nat × Bool × AObj) := [(0, true, (.cells (K (.map (some 2)) (J (.map (some 3))) (J (Jp 4 0))) 3 0)),
  (1, false, (.cells (J (.string ⟨#[98]⟩)) 1 19)),
  (2, true, (.map [((.string ⟨#[97]⟩), (Js 5 0 3 4611686018427387905)), ((.string ⟨#[98]⟩), (Js 6 0 4 4611686018427387905))] [0, 1] 2)),
  (3, true, (.map [((.string ⟨#[112]⟩), (Js 7 0 43 4611686018427387905))] [0] 1)),
  (4, true, (.cells (K (Jp 8 0) (K (J3 1) (J (J3 2)) (J (J6 2562107784))) (K (J3 1) (J (J3 4)) (J (.pointer none)))) 7 0)),
  (5, false, (.cells (K (J4 111) (J (J4 108)) (J (J4 100))) 3 11)),
  (6, false, (.cells (K (J4 110) (K (J4 101) (J (J4 33)) .leaf) (J (J4 119))) 4 11)),
  (7, false, ob52),
  (8, true, ob130),
  (9, true, ob131),
  (10, false, (.cells .leaf 0 0)),
  (11, false, (.cells (K (J4 111) (J (J4 108)) (J (J4 100))) 3 0)),
  (12, false, ob132),
  (13, false, (.map [((.agg ⟨[(J3 2), (J3 0)]⟩), (J3 2)), ((.agg ⟨[(J3 1), (J3 0)]⟩), (J3 1)), ((.agg ⟨[(J3 2), (J3 1)]⟩), (J3 1))] [0, 1, 2] 3)),
  (14, true, (.cells (K (Js 18 0 64 64) (J (.bool false)) .leaf) 2 0)),
  (15, true, (.cells (K (Js 19 0 64 64) (J (.bool false)) .leaf) 2 0)),
  (16, true, (.cells (K (Js 20 0 64 64) (J (.bool false)) .leaf) 2 0)),
  (17, true, (.cells (K (Js 21 0 64 64) (J (.bool false)) .leaf) 2 0)),
  (18, false, ob133),
  (19, false, ob127),
  (20, false, ob58),
  (21, false, ob126)]
def c85 : Value := (.string ⟨#[121, 101, 115]⟩)
def d85 : OL := []
theorem r85 : chkRun (denF envT (den envT (tabS tel85) 1000000 60) (xdraw envT (den envT (tabS tel85) 1000000 60)) 1000000 14 a85 (ofL (bare b85) 22)) (bare b85) 22 c85 d85 178 = true := by kernel_rfl
noncomputable def tel86 : PT Fun := addT tel85 14 (memo a85 b85 22 c85 d85 178)
theorem tel86_ok : TabOK Tryz.prog envT tel86 := tel85_ok.add (memo_ok (run_of_den envT_ok (tabS_sound envT_ok tel85_ok) r85)) (fnS (by kernel_rfl))
def ob134 : AObj := .cells (K (J3 64) (K (J3 2) (K (.map (some 1)) (J (J3 0)) (J (J3 0))) (K (Js 2 0 0 0) (J (.bool false)) .leaf)) (K (J3 1) (K (Js 3 0 3 3) (J (.slice none 0 0)) .leaf) (K (Js 4 0 8 4611686018427387907) (J (.map (some 5))) .leaf))) 12 0
def a86 : List Value := [(Jp 0 0)]
def b86 : List (Nat × Bool × AObj) := [(0, true, ob134),
  (1, true, ob124),
  (2, false, (.cells .leaf 0 0)),
  (3, false, (.cells (K (J4 111) (J (J4 108)) (J (J4 100))) 3 0)),
  (4, false, ob132),
  (5, false, (.map [((.agg ⟨[(J3 2), (J3 0)]⟩), (J3 2)), ((.agg ⟨[(J3 1), (J3 0)]⟩), (J3 1)), ((.agg ⟨[(J3 2), (J3 1)]⟩), (J3 1))] [0, 1, 2] 3)),
  (6, true, (.cells (K (Js 10 0 64 64) (J (.bool false)) .leaf) 2 0)),
  (7, true, (.cells (K (Js 11 0 64 64) (J (.bool false)) .leaf) 2 0)),
  (8, true, (.cells (K (Js 12 0 64 64) (J (.bool false)) .leaf) 2 0)),
  (9, true, (.cells (K (Js 13 0 64 64) (J (.bool false)) .leaf) 2 0)),
  (10, false, ob133),
  (11, false, ob127),
  (12, false, ob58),
  (13, false, ob126)]
def c86 : Value := (.tuple ⟨[(.agg ⟨[(J3 3), (J3 0), (J3 1), (J3 3), (J6 1063113957), (J3 1), (J3 2), (J3 4), (J6 2562107784), (J3 2)]⟩), (J3 0), (J3 0)]⟩)
def d86 : OL := []
theorem r86 : chkRun (denF envT (den envT (tabS tel86) 1000000 60) (xdraw envT (den envT (tabS tel86) 1000000 60)) 1000000 115 a86 (ofL (bare b86) 14)) (bare b86) 14 c86 d86 481 = true := by kernel_rfl
noncomputable def tel87 : PT Fun := addT tel86 115 (memo a86 b86 14 c86 d86 481)
theorem tel87_ok : TabOK Tryz.prog envT tel87 := tel86_ok.add (memo_ok (run_of_den envT_ok (tabS_sound envT_ok tel86_ok) r86)) (fnS (by kernel_rfl))
def ob135 : AObj := .cells (K (J3 64) (K (J3 2) (K (.map (some 8)) (J (J3 0)) (J (J3 0))) (K (Js 9 0 0 0) (J (.bool false)) .leaf)) (K (J3 1) (K (Js 10 0 3 3) (J (.slice none 0 0)) .leaf) (K (Js 11 0 10 4611686018427387907) (J (.map (some 12))) .leaf))) 12 0
def ob136 : AObj := .map [((.agg ⟨[(J3 2), (J3 0)]⟩), (Jp 13 0)), ((.agg ⟨[(J3 2), (J3 1)]⟩), (Jp 14 0)), ((.agg ⟨[(J3 0), (J3 0)]⟩), (Jp 15 0)), ((.agg ⟨[(J3 1), (J3 0)]⟩), (Jp 16 0))] [0, 1, 2, 3] 4
def ob137 : AObj := .cells (K (J3 1) (K (J3 2) (K (J3 2) (K (J3 1) (J (J3 2)) (J (J3 0))) (K (J3 0) (J (J3 2)) (J (J3 2)))) (K (J3 0) (K (J3 2) (J (J3 1)) (J (J3 2))) (K (J3 2) (J (J3 2)) (J (J3 1))))) (K (J3 0) (K (J3 2) (K (J3 0) (J (J3 2)) (J (J3 1))) (K (J3 1) (J (J3 0)) (J (J3 2)))) (K (J3 1) (K (J3 1) (J (J3 1)) (J (J3 1))) (K (J3 1) (J (J3 2)) .leaf)))) 30 913
def ob138 : AObj := .cells (K (J4 98) (K (J4 116) (K (J4 49) (K (J4 0) (K (J4 0) (K (J4 0) (J (J4 255)) .leaf) (J (J4 255))) (K (J4 182) (J (J4 117)) (J (J4 255)))) (K (J4 0) (K (J4 0) (J (J4 0)) (J (J4 255))) (K (J4 0) (J (J4 255)) (J (J4 255))))) (K (J4 0) (K (J4 0) (K (J4 4) (J (J4 0)) (J (J4 255))) (K (J4 0) (J (J4 217)) (J (J4 255)))) (K (J4 2) (K (J4 136) (J (J4 0)) (J (J4 255))) (K (J4 0) (J (J4 255)) (J (J4 255)))))) (K (J4 48) (K (J4 4) (K (J4 0) (K (J4 0) (J (J4 0)) (J (J4 255))) (K (J4 152) (J (J4 126)) (J (J4 255)))) (K (J4 1) (K (J4 0) (J (J4 0)) (J (J4 255))) (K (J4 0) (J (J4 255)) (J (J4 255))))) (K (J4 0) (K (J4 0) (K (J4 0) (J (J4 0)) (J (J4 255))) (K (J4 0) (J (J4 66)) (J (J4 255)))) (K (J4 0) (K (J4 169) (J (J4 0)) (J (J4 255))) (K (J4 0) (J (J4 255)) (J (J4 255))))))) 64 0
def a87 : List Value := [(Jp 0 0), (.agg ⟨[(J3 12), (.string ⟨#[115, 116, 97, 116, 101]⟩), (.slice none 0 0), (.slice none 0 0), (.slice none 0 0)]⟩)]
def b87 : List (Nat × Bool × AObj) := [(0, true, (.cells (K (.map (some 1)) (J (.map (some 2))) (J (Jp 3 0))) 3 0)),
  (1, true, (.map [((.string ⟨#[97]⟩), (Js 4 0 3 4611686018427387905)), ((.string ⟨#[98]⟩), (Js 5 0 4 4611686018427387905))] [0, 1] 2)),
  (2, true, (.map [((.string ⟨#[112]⟩), (Js 6 0 43 4611686018427387905))] [0] 1)),
  (3, true, (.cells (K (Jp 7 0) (K (J3 1) (J (J3 2)) (J (J6 2562107784))) (K (J3 1) (J (J3 4)) (J (.pointer none)))) 7 0)),
  (4, false, (.cells (K (J4 111) (J (J4 108)) (J (J4 100))) 3 11)),
  (5, false, (.cells (K (J4 110) (K (J4 101) (J (J4 33)) .leaf) (J (J4 119))) 4 11)),
  (6, false, ob52),
  (7, true, ob135),
  (8, true, ob136),
  (9, false, (.cells .leaf 0 0)),
  (10, false, (.cells (K (J4 111) (J (J4 108)) (J (J4 100))) 3 0)),
  (11, false, ob137),
  (12, false, (.map [((.agg ⟨[(J3 2), (J3 0)]⟩), (J3 2)), ((.agg ⟨[(J3 1), (J3 0)]⟩), (J3 1)), ((.agg ⟨[(J3 2), (J3 1)]⟩), (J3 2))] [0, 1, 2] 3)),
  (13, true, (.cells (K (Js 17 0 64 64) (J (.bool false)) .leaf) 2 0)),
  (14, true, (.cells (K (Js 18 0 64 64) (J (.bool false)) .leaf) 2 0)),
  (15, true, (.cells (K (Js 19 0 64 64) (J (.bool false)) .leaf) 2 0)),
  (16, true, (.cells (K (Js 20 0 64 64) (J (.bool false)) .leaf) 2 0)),
  (17, false, ob133),
  (18, false, ob138),
  (19, false, ob58),
  (20, false, ob126)]
def c87 : Value := (.string ⟨#[111, 110, 32, 114, 117, 110, 115, 32, 50, 32, 113, 117, 105, 101, 116, 32, 111, 112, 115, 32, 49, 48]⟩)
def d87 : OL := []
theorem r87 : chkRun (denF envT (den envT (tabS tel87) 1000000 60) (xdraw envT (den envT (tabS tel87) 1000000 60)) 1000000 14 a87 (ofL (bare b87) 21)) (bare b87) 21 c87 d87 37 = true := by kernel_rfl
noncomputable def tel88 : PT Fun := addT tel87 14 (memo a87 b87 21 c87 d87 37)
theorem tel88_ok : TabOK Tryz.prog envT tel88 := tel87_ok.add (memo_ok (run_of_den envT_ok (tabS_sound envT_ok tel87_ok) r87)) (fnS (by kernel_rfl))
end Go.Proofs.YtckpjjgpcfacnaaGreatDoor
