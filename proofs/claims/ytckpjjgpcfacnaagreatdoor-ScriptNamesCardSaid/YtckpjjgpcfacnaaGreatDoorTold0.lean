/- Told runs: what functions of the program come to from a small memory. Conditions: none. -/
import Derived.Test.YtckpjjgpcfacnaaGreatDoorMapFn
namespace Go.Proofs.YtckpjjgpcfacnaaGreatDoor
open Go.ChangeShapes Go.WideShapes Go.ChangeAt Go.RowKit Go.Conc Go.Den
def ob0 : AObj := .cells (K (.string ⟨#[105, 109, 97, 103, 101, 32, 97, 32, 34, 111, 108, 100, 34]⟩) (K (.string ⟨#[105, 109, 97, 103, 101, 32, 98, 32, 34, 110, 101, 119, 33, 34]⟩) (K (.string ⟨#[100, 101, 118, 105, 99, 101, 32, 54, 52, 32, 50, 32, 49, 32, 97]⟩) (J (.string ⟨#[102, 105, 110, 105, 115, 104, 32, 50, 32, 51]⟩)) (J (.string ⟨#[115, 116, 97, 116, 101]⟩))) (K (.string ⟨#[98, 101, 103, 105, 110, 32, 54, 52, 32, 49, 48, 48]⟩) (J (.string ⟨#[115, 97, 109, 101, 32, 98]⟩)) .leaf)) (K (.string ⟨#[112, 97, 116, 99, 104, 32, 112, 32, 97, 32, 98, 32, 54, 52, 32, 49, 48, 48, 32, 49, 48, 32, 48, 32, 53, 48]⟩) (K (.string ⟨#[115, 116, 97, 114, 116]⟩) (J (.string ⟨#[115, 116, 97, 114, 116]⟩)) .leaf) (K (.string ⟨#[112, 111, 117, 114, 32, 112, 32, 53]⟩) (J (.string ⟨#[99, 111, 110, 102, 105, 114, 109]⟩)) .leaf))) 12 0
def a0 : List Value := [(.string ⟨#[105, 109, 97, 103, 101, 32, 97, 32, 34, 111, 108, 100, 34, 10, 105, 109, 97, 103, 101, 32, 98, 32, 34, 110, 101, 119, 33, 34, 10, 112, 97, 116, 99, 104, 32, 112, 32, 97, 32, 98, 32, 54, 52, 32, 49, 48, 48, 32, 49, 48, 32, 48, 32, 53, 48, 10, 100, 101, 118, 105, 99, 101, 32, 54, 52, 32, 50, 32, 49, 32, 97, 10, 115, 116, 97, 114, 116, 10, 98, 101, 103, 105, 110, 32, 54, 52, 32, 49, 48, 48, 10, 112, 111, 117, 114, 32, 112, 32, 53, 10, 102, 105, 110, 105, 115, 104, 32, 50, 32, 51, 10, 115, 116, 97, 114, 116, 10, 115, 97, 109, 101, 32, 98, 10, 99, 111, 110, 102, 105, 114, 109, 10, 115, 116, 97, 116, 101]⟩), (.string ⟨#[10]⟩)]
def b0 : List (Nat × Bool × AObj) := []
def c0 : Value := (Js 0 0 12 12)
def d0 : OL := [(0, ob0)]
theorem r0 : chkRun (denF envT (den envT (tabS tel0) 1000000 60) (xdraw envT (den envT (tabS tel0) 1000000 60)) 1000000 16 a0 (ofL (bare b0) 0)) (bare b0) 0 c0 d0 1 = true := by kernel_rfl
noncomputable def tel1 : PT Fun := addT tel0 16 (memo a0 b0 0 c0 d0 1)
theorem tel1_ok : TabOK Tryz.prog envT tel1 := tel0_ok.add (memo_ok (run_of_den envT_ok (tabS_sound envT_ok tel0_ok) r0)) (fnS (by kernel_rfl))
def a1 : List Value := [(.string ⟨#[105, 109, 97, 103, 101, 32, 98, 32, 34, 110, 101, 119, 33, 34]⟩)]
def b1 : List (Nat × Bool × AObj) := []
def c1 : Value := (.tuple ⟨[(.agg ⟨[(J3 0), (.string ⟨#[105, 109, 97, 103, 101]⟩), (Js 27 0 1 4611686018427387905), (.slice none 0 0), (Js 67 0 4 4611686018427387905)]⟩), (.bool true)]⟩)
def d1 : OL := [(27, (.cells (J (.string ⟨#[98]⟩)) 1 19)),
  (67, (.cells (K (J4 110) (K (J4 101) (J (J4 33)) .leaf) (J (J4 119))) 4 11))]
theorem r1 : chkRun (denF envT (den envT (tabS tel1) 1000000 60) (xdraw envT (den envT (tabS tel1) 1000000 60)) 1000000 18 a1 (ofL (bare b1) 0)) (bare b1) 0 c1 d1 68 = true := by kernel_rfl
noncomputable def tel2 : PT Fun := addT tel1 18 (memo a1 b1 0 c1 d1 68)
theorem tel2_ok : TabOK Tryz.prog envT tel2 := tel1_ok.add (memo_ok (run_of_den envT_ok (tabS_sound envT_ok tel1_ok) r1)) (fnS (by kernel_rfl))
def a2 : List Value := [(.string ⟨#[112, 97, 116, 99, 104, 32, 112, 32, 97, 32, 98, 32, 54, 52, 32, 49, 48, 48, 32, 49, 48, 32, 48, 32, 53, 48]⟩)]
def b2 : List (Nat × Bool × AObj) := []
def c2 : Value := (.tuple ⟨[(.agg ⟨[(J3 0), (.string ⟨#[112, 97, 116, 99, 104]⟩), (Js 57 0 3 4611686018427387905), (Js 102 0 5 4611686018427387905), (.slice none 0 0)]⟩), (.bool true)]⟩)
def d2 : OL := [(57, (.cells (K (.string ⟨#[112]⟩) (J (.string ⟨#[97]⟩)) (J (.string ⟨#[98]⟩))) 3 19)),
  (102, (.cells (K (J3 64) (K (J3 100) (J (J3 0)) .leaf) (K (J3 10) (J (J3 50)) .leaf)) 5 7))]
theorem r2 : chkRun (denF envT (den envT (tabS tel2) 1000000 60) (xdraw envT (den envT (tabS tel2) 1000000 60)) 1000000 18 a2 (ofL (bare b2) 0)) (bare b2) 0 c2 d2 103 = true := by kernel_rfl
noncomputable def tel3 : PT Fun := addT tel2 18 (memo a2 b2 0 c2 d2 103)
theorem tel3_ok : TabOK Tryz.prog envT tel3 := tel2_ok.add (memo_ok (run_of_den envT_ok (tabS_sound envT_ok tel2_ok) r2)) (fnS (by kernel_rfl))
def a3 : List Value := [(.string ⟨#[100, 101, 118, 105, 99, 101, 32, 54, 52, 32, 50, 32, 49, 32, 97]⟩)]
def b3 : List (Nat × Bool × AObj) := []
def c3 : Value := (.tuple ⟨[(.agg ⟨[(J3 0), (.string ⟨#[100, 101, 118, 105, 99, 101]⟩), (Js 58 0 1 4611686018427387905), (Js 49 0 3 4611686018427387905), (.slice none 0 0)]⟩), (.bool true)]⟩)
def d3 : OL := [(58, (.cells (J (.string ⟨#[97]⟩)) 1 19)),
  (49, (.cells (K (J3 64) (J (J3 2)) (J (J3 1))) 3 7))]
theorem r3 : chkRun (denF envT (den envT (tabS tel3) 1000000 60) (xdraw envT (den envT (tabS tel3) 1000000 60)) 1000000 18 a3 (ofL (bare b3) 0)) (bare b3) 0 c3 d3 59 = true := by kernel_rfl
noncomputable def tel4 : PT Fun := addT tel3 18 (memo a3 b3 0 c3 d3 59)
theorem tel4_ok : TabOK Tryz.prog envT tel4 := tel3_ok.add (memo_ok (run_of_den envT_ok (tabS_sound envT_ok tel3_ok) r3)) (fnS (by kernel_rfl))
def ob1 : AObj := .cells (K (J3 1) (K (.string ⟨#[105, 109, 97, 103, 101]⟩) (K (.slice none 0 0) (K (Js 116 0 1 4611686018427387905) (K (J3 4) (J (.string ⟨#[112, 111, 117, 114]⟩)) (J (Js 669 0 1 4611686018427387905))) (K (.slice none 0 0) (J (.slice none 0 0)) (J (J3 12)))) (K (.string ⟨#[112, 97, 116, 99, 104]⟩) (K (.slice none 0 0) (J (J3 8)) (J (.string ⟨#[99, 111, 110, 102, 105, 114, 109]⟩))) (K (.slice none 0 0) (J (.slice none 0 0)) (J (.slice none 0 0))))) (K (J3 2) (K (Js 156 0 4 4611686018427387905) (K (Js 383 0 1 4611686018427387905) (J (Js 528 0 1 4611686018427387905)) (J (.slice none 0 0))) (K (J3 6) (J (.string ⟨#[115, 116, 97, 114, 116]⟩)) (J (.slice none 0 0)))) (K (Js 286 0 5 4611686018427387905) (K (.string ⟨#[115, 116, 97, 114, 116]⟩) (J (.slice none 0 0)) (J (.slice none 0 0))) (K (.slice none 0 0) (J (J3 10)) .leaf)))) (K (Js 31 0 1 4611686018427387905) (K (Js 61 0 3 4611686018427387905) (K (.slice none 0 0) (K (.string ⟨#[100, 101, 118, 105, 99, 101]⟩) (J (Js 519 0 1 4611686018427387905)) (J (.slice none 0 0))) (K (.slice none 0 0) (J (J3 9)) (J (.string ⟨#[115, 116, 97, 116, 101]⟩)))) (K (Js 241 0 3 4611686018427387905) (K (J3 5) (J (.string ⟨#[102, 105, 110, 105, 115, 104]⟩)) (J (.slice none 0 0))) (K (Js 473 0 2 4611686018427387905) (J (.slice none 0 0)) .leaf))) (K (.string ⟨#[105, 109, 97, 103, 101]⟩) (K (J3 3) (K (Js 374 0 3 4611686018427387905) (J (.slice none 0 0)) (J (J3 11))) (K (.string ⟨#[98, 101, 103, 105, 110]⟩) (J (.slice none 0 0)) (J (.slice none 0 0)))) (K (.slice none 0 0) (K (.slice none 0 0) (J (Js 592 0 2 4611686018427387905)) (J (.slice none 0 0))) (K (J3 7) (J (.string ⟨#[115, 97, 109, 101]⟩)) .leaf))))) 60 83
def a4 : List Value := [(.string ⟨#[105, 109, 97, 103, 101, 32, 97, 32, 34, 111, 108, 100, 34, 10, 105, 109, 97, 103, 101, 32, 98, 32, 34, 110, 101, 119, 33, 34, 10, 112, 97, 116, 99, 104, 32, 112, 32, 97, 32, 98, 32, 54, 52, 32, 49, 48, 48, 32, 49, 48, 32, 48, 32, 53, 48, 10, 100, 101, 118, 105, 99, 101, 32, 54, 52, 32, 50, 32, 49, 32, 97, 10, 115, 116, 97, 114, 116, 10, 98, 101, 103, 105, 110, 32, 54, 52, 32, 49, 48, 48, 10, 112, 111, 117, 114, 32, 112, 32, 53, 10, 102, 105, 110, 105, 115, 104, 32, 50, 32, 51, 10, 115, 116, 97, 114, 116, 10, 115, 97, 109, 101, 32, 98, 10, 99, 111, 110, 102, 105, 114, 109, 10, 115, 116, 97, 116, 101, 10]⟩)]
def b4 : List (Nat × Bool × AObj) := []
def c4 : Value := (.tuple ⟨[(Js 762 0 12 4611686018427387909), (J3 0), (J3 0)]⟩)
def d4 : OL := [(762, ob1),
  (116, (.cells (J (.string ⟨#[98]⟩)) 1 19)),
  (669, (.cells (J (.string ⟨#[98]⟩)) 1 19)),
  (156, (.cells (K (J4 110) (K (J4 101) (J (J4 33)) .leaf) (J (J4 119))) 4 11)),
  (383, (.cells (J (.string ⟨#[97]⟩)) 1 19)),
  (528, (.cells (J (J3 5)) 1 7)),
  (286, (.cells (K (J3 64) (K (J3 100) (J (J3 0)) .leaf) (K (J3 10) (J (J3 50)) .leaf)) 5 7)),
  (31, (.cells (J (.string ⟨#[97]⟩)) 1 19)),
  (61, (.cells (K (J4 111) (J (J4 108)) (J (J4 100))) 3 11)),
  (519, (.cells (J (.string ⟨#[112]⟩)) 1 19)),
  (241, (.cells (K (.string ⟨#[112]⟩) (J (.string ⟨#[97]⟩)) (J (.string ⟨#[98]⟩))) 3 19)),
  (473, (.cells (K (J3 64) (J (J3 100)) .leaf) 2 7)),
  (374, (.cells (K (J3 64) (J (J3 2)) (J (J3 1))) 3 7)),
  (592, (.cells (K (J3 2) (J (J3 3)) .leaf) 2 7))]
theorem r4 : chkRun (denF envT (den envT (tabS tel4) 1000000 60) (xdraw envT (den envT (tabS tel4) 1000000 60)) 1000000 9 a4 (ofL (bare b4) 0)) (bare b4) 0 c4 d4 763 = true := by kernel_rfl
noncomputable def tel5 : PT Fun := addT tel4 9 (memo a4 b4 0 c4 d4 763)
theorem tel5_ok : TabOK Tryz.prog envT tel5 := tel4_ok.add (memo_ok (run_of_den envT_ok (tabS_sound envT_ok tel4_ok) r4)) (fnS (by kernel_rfl))
def a5 : List Value := [(J6 1063113957)]
def b5 : List (Nat × Bool × AObj) := [(0, false, (glTab))]
def c5 : Value := (.string ⟨#[51, 102, 53, 100, 100, 52, 101, 53]⟩)
def d5 : OL := []
theorem r5 : chkRun (denF envT (den envT (tabS tel5) 1000000 60) (xdraw envT (den envT (tabS tel5) 1000000 60)) 1000000 79 a5 (ofL (bare b5) 1)) (bare b5) 1 c5 d5 2 = true := by kernel_rfl
noncomputable def tel6 : PT Fun := addT tel5 79 (memo a5 b5 1 c5 d5 2)
theorem tel6_ok : TabOK Tryz.prog envT tel6 := tel5_ok.add (memo_ok (run_of_den envT_ok (tabS_sound envT_ok tel5_ok) r5)) (fnS (by kernel_rfl))
def a6 : List Value := [(Jp 1 0), (.agg ⟨[(J3 1), (.string ⟨#[105, 109, 97, 103, 101]⟩), (Js 2 0 1 4611686018427387905), (.slice none 0 0), (Js 3 0 3 4611686018427387905)]⟩), (Js 3 0 3 4611686018427387905), (J3 0)]
def b6 : List (Nat × Bool × AObj) := [(0, false, (glTab)),
  (1, true, (.cells (K (.map (some 4)) (J (.map (some 5))) (J (.pointer none))) 3 0)),
  (2, false, (.cells (J (.string ⟨#[97]⟩)) 1 19)),
  (3, false, (.cells (K (J4 111) (J (J4 108)) (J (J4 100))) 3 11)),
  (4, false, (.map [] [] 0)),
  (5, false, (.map [] [] 0))]
def c6 : Value := (.string ⟨#[98, 121, 116, 101, 115, 32, 51, 32, 51, 102, 53, 100, 100, 52, 101, 53]⟩)
def d6 : OL := [(4, (.map [((.string ⟨#[97]⟩), (Js 3 0 3 4611686018427387905))] [0] 1))]
theorem r6 : exChk envT (den envT (tabS tel6) 1000000 60) xfi65 1000 [0, 2, 3, 5, 8, 9, 10, 41, 42, 43, 48] 0 a6 (bare b6) 6 c6 d6 23 = true := by kernel_rfl
noncomputable def tel7 : PT Fun := addT tel6 65 (memo a6 b6 6 c6 d6 23)
theorem tel7_ok : TabOK Tryz.prog envT tel7 := tel6_ok.add (memo_ok (exChk_run envT_ok (den_sound envT_ok (tabS_sound envT_ok tel6_ok) 1000000 60) xE65 r6)) (fnS (by kernel_rfl))
def a7 : List Value := [(J6 2562107784)]
def b7 : List (Nat × Bool × AObj) := [(0, false, (glTab))]
def c7 : Value := (.string ⟨#[57, 56, 98, 54, 97, 57, 56, 56]⟩)
def d7 : OL := []
theorem r7 : chkRun (denF envT (den envT (tabS tel7) 1000000 60) (xdraw envT (den envT (tabS tel7) 1000000 60)) 1000000 79 a7 (ofL (bare b7) 1)) (bare b7) 1 c7 d7 2 = true := by kernel_rfl
noncomputable def tel8 : PT Fun := addT tel7 79 (memo a7 b7 1 c7 d7 2)
theorem tel8_ok : TabOK Tryz.prog envT tel8 := tel7_ok.add (memo_ok (run_of_den envT_ok (tabS_sound envT_ok tel7_ok) r7)) (fnS (by kernel_rfl))
def a8 : List Value := [(Jp 1 0), (.agg ⟨[(J3 2), (.string ⟨#[105, 109, 97, 103, 101]⟩), (Js 2 0 1 4611686018427387905), (.slice none 0 0), (Js 3 0 4 4611686018427387905)]⟩), (Js 3 0 4 4611686018427387905), (J3 0)]
def b8 : List (Nat × Bool × AObj) := [(0, false, (glTab)),
  (1, true, (.cells (K (.map (some 4)) (J (.map (some 5))) (J (.pointer none))) 3 0)),
  (2, false, (.cells (J (.string ⟨#[98]⟩)) 1 19)),
  (3, false, (.cells (K (J4 110) (K (J4 101) (J (J4 33)) .leaf) (J (J4 119))) 4 11)),
  (4, true, (.map [((.string ⟨#[97]⟩), (Js 6 0 3 4611686018427387905))] [0] 1)),
  (5, false, (.map [] [] 0)),
  (6, false, (.cells (K (J4 111) (J (J4 108)) (J (J4 100))) 3 11))]
def c8 : Value := (.string ⟨#[98, 121, 116, 101, 115, 32, 52, 32, 57, 56, 98, 54, 97, 57, 56, 56]⟩)
def d8 : OL := [(4, (.map [((.string ⟨#[97]⟩), (Js 6 0 3 4611686018427387905)), ((.string ⟨#[98]⟩), (Js 3 0 4 4611686018427387905))] [0, 1] 2))]
theorem r8 : exChk envT (den envT (tabS tel8) 1000000 60) xfi65 1000 [0, 2, 3, 5, 8, 9, 10, 41, 42, 43, 48] 0 a8 (bare b8) 7 c8 d8 24 = true := by kernel_rfl
noncomputable def tel9 : PT Fun := addT tel8 65 (memo a8 b8 7 c8 d8 24)
theorem tel9_ok : TabOK Tryz.prog envT tel9 := tel8_ok.add (memo_ok (exChk_run envT_ok (den_sound envT_ok (tabS_sound envT_ok tel8_ok) 1000000 60) xE65 r8)) (fnS (by kernel_rfl))
def ob2 : AObj := .cells (K (J3 0) (K (J3 0) (K (J3 0) (K (J3 0) (K (J3 0) (K (J3 0) (K (J3 0) (K (J3 3) (J (J3 3)) .leaf) (J (J3 3))) (K (J3 0) (J (J3 3)) (J (J3 3)))) (K (J3 0) (K (J3 0) (J (J3 3)) (J (J3 3))) (K (J3 2) (J (J3 3)) (J (J3 3))))) (K (J3 0) (K (J3 0) (K (J3 0) (J (J3 3)) (J (J3 3))) (K (J3 1) (J (J3 3)) (J (J3 3)))) (K (J3 0) (K (J3 0) (J (J3 3)) (J (J3 3))) (K (J3 3) (J (J3 3)) (J (J3 3)))))) (K (J3 0) (K (J3 0) (K (J3 0) (K (J3 0) (J (J3 3)) (J (J3 3))) (K (J3 0) (J (J3 3)) (J (J3 3)))) (K (J3 0) (K (J3 0) (J (J3 3)) (J (J3 3))) (K (J3 3) (J (J3 3)) (J (J3 3))))) (K (J3 0) (K (J3 0) (K (J3 0) (J (J3 3)) (J (J3 3))) (K (J3 1) (J (J3 3)) (J (J3 3)))) (K (J3 0) (K (J3 0) (J (J3 3)) (J (J3 3))) (K (J3 3) (J (J3 3)) (J (J3 3))))))) (K (J3 0) (K (J3 0) (K (J3 0) (K (J3 0) (K (J3 0) (J (J3 3)) (J (J3 3))) (K (J3 0) (J (J3 3)) (J (J3 3)))) (K (J3 0) (K (J3 0) (J (J3 3)) (J (J3 3))) (K (J3 3) (J (J3 3)) (J (J3 3))))) (K (J3 0) (K (J3 0) (K (J3 0) (J (J3 3)) (J (J3 3))) (K (J3 1) (J (J3 3)) (J (J3 3)))) (K (J3 0) (K (J3 0) (J (J3 3)) (J (J3 3))) (K (J3 3) (J (J3 3)) (J (J3 3)))))) (K (J3 0) (K (J3 0) (K (J3 0) (K (J3 0) (J (J3 3)) (J (J3 3))) (K (J3 1) (J (J3 3)) (J (J3 3)))) (K (J3 0) (K (J3 0) (J (J3 3)) (J (J3 3))) (K (J3 3) (J (J3 3)) (J (J3 3))))) (K (J3 0) (K (J3 0) (K (J3 0) (J (J3 3)) (J (J3 3))) (K (J3 2) (J (J3 3)) (J (J3 3)))) (K (J3 0) (K (J3 0) (J (J3 3)) (J (J3 3))) (K (J3 3) (J (J3 3)) (J (J3 3)))))))) (K (J3 0) (K (J3 0) (K (J3 0) (K (J3 0) (K (J3 0) (K (J3 0) (J (J3 3)) (J (J3 3))) (K (J3 0) (J (J3 3)) (J (J3 3)))) (K (J3 0) (K (J3 0) (J (J3 3)) (J (J3 3))) (K (J3 3) (J (J3 3)) (J (J3 3))))) (K (J3 0) (K (J3 0) (K (J3 0) (J (J3 3)) (J (J3 3))) (K (J3 1) (J (J3 3)) (J (J3 3)))) (K (J3 0) (K (J3 0) (J (J3 3)) (J (J3 3))) (K (J3 3) (J (J3 3)) (J (J3 3)))))) (K (J3 0) (K (J3 0) (K (J3 0) (K (J3 0) (J (J3 3)) (J (J3 3))) (K (J3 0) (J (J3 3)) (J (J3 3)))) (K (J3 0) (K (J3 0) (J (J3 3)) (J (J3 3))) (K (J3 3) (J (J3 3)) (J (J3 3))))) (K (J3 0) (K (J3 0) (K (J3 0) (J (J3 3)) (J (J3 3))) (K (J3 1) (J (J3 3)) (J (J3 3)))) (K (J3 0) (K (J3 0) (J (J3 3)) (J (J3 3))) (K (J3 3) (J (J3 3)) (J (J3 3))))))) (K (J3 0) (K (J3 0) (K (J3 0) (K (J3 0) (K (J3 0) (J (J3 3)) (J (J3 3))) (K (J3 0) (J (J3 3)) (J (J3 3)))) (K (J3 0) (K (J3 0) (J (J3 3)) (J (J3 3))) (K (J3 3) (J (J3 3)) (J (J3 3))))) (K (J3 0) (K (J3 0) (K (J3 0) (J (J3 3)) (J (J3 3))) (K (J3 1) (J (J3 3)) (J (J3 3)))) (K (J3 0) (K (J3 0) (J (J3 3)) (J (J3 3))) (K (J3 3) (J (J3 3)) (J (J3 3)))))) (K (J3 0) (K (J3 0) (K (J3 0) (K (J3 0) (J (J3 3)) (J (J3 3))) (K (J3 1) (J (J3 3)) (J (J3 3)))) (K (J3 0) (K (J3 0) (J (J3 3)) (J (J3 3))) (K (J3 3) (J (J3 3)) (J (J3 3))))) (K (J3 0) (K (J3 0) (K (J3 0) (J (J3 3)) (J (J3 3))) (K (J3 2) (J (J3 3)) (J (J3 3)))) (K (J3 0) (K (J3 0) (J (J3 3)) (J (J3 3))) (K (J3 3) (J (J3 3)) (J (J3 3))))))))) 256 0
def ob3 : AObj := .cells (K (J3 0) (K (J3 0) (K (J3 0) (K (J3 0) (K (J3 0) (K (J3 0) (K (J3 0) (K (J3 3) (J (J3 3)) .leaf) (J (J3 3))) (K (J3 0) (J (J3 3)) (J (J3 3)))) (K (J3 0) (K (J3 0) (J (J3 3)) (J (J3 3))) (K (J3 3) (J (J3 3)) (J (J3 3))))) (K (J3 0) (K (J3 0) (K (J3 0) (J (J3 3)) (J (J3 3))) (K (J3 1) (J (J3 3)) (J (J3 3)))) (K (J3 0) (K (J3 0) (J (J3 3)) (J (J3 3))) (K (J3 3) (J (J3 3)) (J (J3 3)))))) (K (J3 0) (K (J3 0) (K (J3 0) (K (J3 0) (J (J3 3)) (J (J3 3))) (K (J3 0) (J (J3 3)) (J (J3 3)))) (K (J3 0) (K (J3 0) (J (J3 3)) (J (J3 3))) (K (J3 3) (J (J3 3)) (J (J3 3))))) (K (J3 0) (K (J3 0) (K (J3 0) (J (J3 3)) (J (J3 3))) (K (J3 1) (J (J3 3)) (J (J3 3)))) (K (J3 0) (K (J3 0) (J (J3 3)) (J (J3 3))) (K (J3 3) (J (J3 3)) (J (J3 3))))))) (K (J3 0) (K (J3 0) (K (J3 0) (K (J3 0) (K (J3 0) (J (J3 3)) (J (J3 3))) (K (J3 0) (J (J3 3)) (J (J3 3)))) (K (J3 0) (K (J3 0) (J (J3 3)) (J (J3 3))) (K (J3 3) (J (J3 3)) (J (J3 3))))) (K (J3 0) (K (J3 0) (K (J3 0) (J (J3 3)) (J (J3 3))) (K (J3 1) (J (J3 3)) (J (J3 3)))) (K (J3 0) (K (J3 0) (J (J3 3)) (J (J3 3))) (K (J3 3) (J (J3 3)) (J (J3 3)))))) (K (J3 0) (K (J3 0) (K (J3 0) (K (J3 0) (J (J3 3)) (J (J3 3))) (K (J3 1) (J (J3 3)) (J (J3 3)))) (K (J3 0) (K (J3 0) (J (J3 3)) (J (J3 3))) (K (J3 3) (J (J3 3)) (J (J3 3))))) (K (J3 0) (K (J3 0) (K (J3 0) (J (J3 3)) (J (J3 3))) (K (J3 2) (J (J3 3)) (J (J3 3)))) (K (J3 0) (K (J3 0) (J (J3 3)) (J (J3 3))) (K (J3 3) (J (J3 3)) (J (J3 3)))))))) (K (J3 0) (K (J3 0) (K (J3 0) (K (J3 0) (K (J3 0) (K (J3 0) (J (J3 3)) (J (J3 3))) (K (J3 0) (J (J3 3)) (J (J3 3)))) (K (J3 0) (K (J3 0) (J (J3 3)) (J (J3 3))) (K (J3 3) (J (J3 3)) (J (J3 3))))) (K (J3 0) (K (J3 0) (K (J3 0) (J (J3 3)) (J (J3 3))) (K (J3 1) (J (J3 3)) (J (J3 3)))) (K (J3 0) (K (J3 0) (J (J3 3)) (J (J3 3))) (K (J3 3) (J (J3 3)) (J (J3 3)))))) (K (J3 0) (K (J3 0) (K (J3 0) (K (J3 0) (J (J3 3)) (J (J3 3))) (K (J3 1) (J (J3 3)) (J (J3 3)))) (K (J3 0) (K (J3 0) (J (J3 3)) (J (J3 3))) (K (J3 3) (J (J3 3)) (J (J3 3))))) (K (J3 0) (K (J3 0) (K (J3 0) (J (J3 3)) (J (J3 3))) (K (J3 2) (J (J3 3)) (J (J3 3)))) (K (J3 0) (K (J3 0) (J (J3 3)) (J (J3 3))) (K (J3 3) (J (J3 3)) (J (J3 3))))))) (K (J3 0) (K (J3 0) (K (J3 0) (K (J3 0) (K (J3 0) (J (J3 3)) (J (J3 3))) (K (J3 0) (J (J3 3)) (J (J3 3)))) (K (J3 0) (K (J3 0) (J (J3 3)) (J (J3 3))) (K (J3 3) (J (J3 3)) (J (J3 3))))) (K (J3 0) (K (J3 0) (K (J3 0) (J (J3 3)) (J (J3 3))) (K (J3 1) (J (J3 3)) (J (J3 3)))) (K (J3 0) (K (J3 0) (J (J3 3)) (J (J3 3))) (K (J3 3) (J (J3 3)) (J (J3 3)))))) (K (J3 0) (K (J3 0) (K (J3 0) (K (J3 0) (J (J3 3)) (J (J3 3))) (K (J3 1) (J (J3 3)) (J (J3 3)))) (K (J3 0) (K (J3 0) (J (J3 3)) (J (J3 3))) (K (J3 3) (J (J3 3)) (J (J3 3))))) (K (J3 0) (K (J3 0) (K (J3 0) (J (J3 3)) (J (J3 3))) (K (J3 2) (J (J3 3)) (J (J3 3)))) (K (J3 0) (K (J3 0) (J (J3 3)) (J (J3 3))) (K (J3 3) (J (J3 3)) (J (J3 3))))))))) 256 0
def a9 : List Value := [(J3 256), (Js 0 0 3 3)]
def b9 : List (Nat × Bool × AObj) := [(0, false, (.cells (K (J3 111) (J (J3 108)) (J (J3 100))) 3 0))]
def c9 : Value := (.tuple ⟨[(Js 2 0 256 256), (Js 4 0 256 256)]⟩)
def d9 : OL := [(2, ob2),
  (4, ob3)]
theorem r9 : chkRun (denF envT (den envT (tabS tel9) 1000000 60) (xdraw envT (den envT (tabS tel9) 1000000 60)) 1000000 424 a9 (ofL (bare b9) 1)) (bare b9) 1 c9 d9 7 = true := by kernel_rfl
noncomputable def tel10 : PT Fun := addT tel9 424 (memo a9 b9 1 c9 d9 7)
theorem tel10_ok : TabOK Tryz.prog envT tel10 := tel9_ok.add (memo_ok (run_of_den envT_ok (tabS_sound envT_ok tel9_ok) r9)) (fnS (by kernel_rfl))
def a10 : List Value := [(J3 256), (Js 0 0 3 3), (Js 1 0 3 3), (.slice none 0 0)]
def b10 : List (Nat × Bool × AObj) := [(0, false, (.cells (K (J3 111) (J (J3 108)) (J (J3 100))) 3 0)),
  (1, false, (.cells (K (.bool false) (J (.bool false)) (J (.bool false))) 3 0))]
def c10 : Value := (Js 2 0 3 3)
def d10 : OL := [(2, (.cells (K (J3 2) (J (J3 1)) (J (J3 0))) 3 0))]
theorem r10 : chkRun (denF envT (den envT (tabS tel10) 1000000 60) (xdraw envT (den envT (tabS tel10) 1000000 60)) 1000000 395 a10 (ofL (bare b10) 2)) (bare b10) 2 c10 d10 10 = true := by kernel_rfl
noncomputable def tel11 : PT Fun := addT tel10 395 (memo a10 b10 2 c10 d10 10)
theorem tel11_ok : TabOK Tryz.prog envT tel11 := tel10_ok.add (memo_ok (run_of_den envT_ok (tabS_sound envT_ok tel10_ok) r10)) (fnS (by kernel_rfl))
def ob4 : AObj := .cells (K (Jp 1 0) (K (Js 2 0 3 3) (K (J3 0) (J (J3 0)) (J (.slice none 0 0))) (K (J3 0) (J (J3 0)) .leaf)) (K (Js 3 0 4 4611686018427387905) (K (J3 0) (J (J3 0)) .leaf) (K (J3 0) (J (J3 0)) .leaf))) 12 0
def ob5 : AObj := .cells (K (Jp 1 0) (K (Js 2 0 3 3) (K (J3 0) (J (J3 0)) (J (.slice none 0 0))) (K (J3 0) (J (J3 0)) .leaf)) (K (Js 3 0 4 4611686018427387905) (K (J3 0) (J (J3 0)) .leaf) (K (J3 4) (J (J3 3)) .leaf))) 12 0
def a11 : List Value := [(Jp 0 0)]
def b11 : List (Nat × Bool × AObj) := [(0, true, ob4),
  (1, true, (.cells (K (.bool true) (K (Js 4 0 3 3) (J (Js 5 0 3 3)) .leaf) (K (Js 6 0 3 3) (J (Js 7 0 3 3)) .leaf)) 5 0)),
  (2, false, (.cells (K (J4 111) (J (J4 108)) (J (J4 100))) 3 0)),
  (3, false, (.cells (K (J4 110) (K (J4 101) (J (J4 33)) .leaf) (J (J4 119))) 4 11)),
  (4, false, (.cells (K (J4 111) (J (J4 108)) (J (J4 100))) 3 0)),
  (5, false, (.cells (K (J3 2) (J (J3 1)) (J (J3 0))) 3 0)),
  (6, false, (.cells (K (J3 2) (J (J3 1)) (J (J3 0))) 3 0)),
  (7, false, (.cells (K (J3 0) (J (J3 0)) (J (J3 0))) 3 0))]
def c11 : Value := (.tuple ⟨[]⟩)
def d11 : OL := [(0, ob5)]
theorem r11 : chkRun (denF envT (den envT (tabS tel11) 1000000 60) (xdraw envT (den envT (tabS tel11) 1000000 60)) 1000000 275 a11 (ofL (bare b11) 8)) (bare b11) 8 c11 d11 1243 = true := by kernel_rfl
noncomputable def tel12 : PT Fun := addT tel11 275 (memo a11 b11 8 c11 d11 1243)
theorem tel12_ok : TabOK Tryz.prog envT tel12 := tel11_ok.add (memo_ok (run_of_den envT_ok (tabS_sound envT_ok tel11_ok) r11)) (fnS (by kernel_rfl))
end Go.Proofs.YtckpjjgpcfacnaaGreatDoor
