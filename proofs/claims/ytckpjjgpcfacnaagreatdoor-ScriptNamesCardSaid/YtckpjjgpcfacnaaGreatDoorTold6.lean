/- Told runs: what functions of the program come to from a small memory. Conditions: none. -/
import Derived.Test.YtckpjjgpcfacnaaGreatDoorTold5
namespace Go.Proofs.YtckpjjgpcfacnaaGreatDoor
open Go.ChangeShapes Go.WideShapes Go.ChangeAt Go.RowKit Go.Conc Go.Den
def a50 : List Value := [(Jp 1 0), (.agg ⟨[(J3 3), (.string ⟨#[112, 97, 116, 99, 104]⟩), (Js 2 0 3 4611686018427387905), (Js 3 0 5 4611686018427387905), (.slice none 0 0)]⟩)]
def b50 : List (Nat × Bool × AObj) := [(0, false, (glTab)),
  (1, true, (.cells (K (.map (some 4)) (J (.map (some 5))) (J (.pointer none))) 3 0)),
  (2, false, (.cells (K (.string ⟨#[112]⟩) (J (.string ⟨#[97]⟩)) (J (.string ⟨#[98]⟩))) 3 19)),
  (3, false, (.cells (K (J3 64) (K (J3 100) (J (J3 0)) .leaf) (K (J3 10) (J (J3 50)) .leaf)) 5 7)),
  (4, true, (.map [((.string ⟨#[97]⟩), (Js 6 0 3 4611686018427387905)), ((.string ⟨#[98]⟩), (Js 7 0 4 4611686018427387905))] [0, 1] 2)),
  (5, false, (.map [] [] 0)),
  (6, false, (.cells (K (J4 111) (J (J4 108)) (J (J4 100))) 3 11)),
  (7, false, (.cells (K (J4 110) (K (J4 101) (J (J4 33)) .leaf) (J (J4 119))) 4 11))]
def c50 : Value := (.string ⟨#[98, 121, 116, 101, 115, 32, 52, 51, 32, 50, 49, 52, 52, 100, 102, 49, 99]⟩)
def d50 : OL := [(5, (.map [((.string ⟨#[112]⟩), (Js 25320 0 43 4611686018427387905))] [0] 1)),
  (25320, ob52)]
theorem r50 : chkRun (denF envT (den envT (tabS tel50) 1000000 60) (xdraw envT (den envT (tabS tel50) 1000000 60)) 1000000 14 a50 (ofL (bare b50) 8)) (bare b50) 8 c50 d50 25338 = true := by kernel_rfl
noncomputable def tel51 : PT Fun := addT tel50 14 (memo a50 b50 8 c50 d50 25338)
theorem tel51_ok : TabOK Tryz.prog envT tel51 := tel50_ok.add (memo_ok (run_of_den envT_ok (tabS_sound envT_ok tel50_ok) r50)) (fnS (by kernel_rfl))
def ob53 : AObj := .cells (K (J4 0) (K (J4 0) (K (J4 0) (K (J4 0) (K (J4 0) (K (J4 0) (J (J4 0)) .leaf) (J (J4 0))) (K (J4 0) (J (J4 0)) (J (J4 0)))) (K (J4 0) (K (J4 0) (J (J4 0)) (J (J4 0))) (K (J4 0) (J (J4 0)) (J (J4 0))))) (K (J4 0) (K (J4 0) (K (J4 0) (J (J4 0)) (J (J4 0))) (K (J4 0) (J (J4 0)) (J (J4 0)))) (K (J4 0) (K (J4 0) (J (J4 0)) (J (J4 0))) (K (J4 0) (J (J4 0)) (J (J4 0)))))) (K (J4 0) (K (J4 0) (K (J4 0) (K (J4 0) (J (J4 0)) (J (J4 0))) (K (J4 0) (J (J4 0)) (J (J4 0)))) (K (J4 0) (K (J4 0) (J (J4 0)) (J (J4 0))) (K (J4 0) (J (J4 0)) (J (J4 0))))) (K (J4 0) (K (J4 0) (K (J4 0) (J (J4 0)) (J (J4 0))) (K (J4 0) (J (J4 0)) (J (J4 0)))) (K (J4 0) (K (J4 0) (J (J4 0)) (J (J4 0))) (K (J4 0) (J (J4 0)) (J (J4 0))))))) 64 0
def ob54 : AObj := .cells (K (J4 255) (K (J4 255) (K (J4 255) (K (J4 255) (K (J4 255) (K (J4 255) (J (J4 255)) .leaf) (J (J4 255))) (K (J4 255) (J (J4 255)) (J (J4 255)))) (K (J4 255) (K (J4 255) (J (J4 255)) (J (J4 255))) (K (J4 255) (J (J4 255)) (J (J4 255))))) (K (J4 255) (K (J4 255) (K (J4 255) (J (J4 255)) (J (J4 255))) (K (J4 255) (J (J4 255)) (J (J4 255)))) (K (J4 255) (K (J4 255) (J (J4 255)) (J (J4 255))) (K (J4 255) (J (J4 255)) (J (J4 255)))))) (K (J4 255) (K (J4 255) (K (J4 255) (K (J4 255) (J (J4 255)) (J (J4 255))) (K (J4 255) (J (J4 255)) (J (J4 255)))) (K (J4 255) (K (J4 255) (J (J4 255)) (J (J4 255))) (K (J4 255) (J (J4 255)) (J (J4 255))))) (K (J4 255) (K (J4 255) (K (J4 255) (J (J4 255)) (J (J4 255))) (K (J4 255) (J (J4 255)) (J (J4 255)))) (K (J4 255) (K (J4 255) (J (J4 255)) (J (J4 255))) (K (J4 255) (J (J4 255)) (J (J4 255))))))) 64 0
def a51 : List Value := [(Js 0 0 64 64)]
def b51 : List (Nat × Bool × AObj) := [(0, false, ob53)]
def c51 : Value := (.tuple ⟨[]⟩)
def d51 : OL := [(0, ob54)]
theorem r51 : chkRun (denF envT (den envT (tabS tel51) 1000000 60) (xdraw envT (den envT (tabS tel51) 1000000 60)) 1000000 268 a51 (ofL (bare b51) 1)) (bare b51) 1 c51 d51 1 = true := by kernel_rfl
noncomputable def tel52 : PT Fun := addT tel51 268 (memo a51 b51 1 c51 d51 1)
theorem tel52_ok : TabOK Tryz.prog envT tel52 := tel51_ok.add (memo_ok (run_of_den envT_ok (tabS_sound envT_ok tel51_ok) r51)) (fnS (by kernel_rfl))
def a52 : List Value := [(Js 0 0 64 64)]
def b52 : List (Nat × Bool × AObj) := [(0, false, ob54)]
def c52 : Value := (.tuple ⟨[]⟩)
def d52 : OL := []
theorem r52 : chkRun (denF envT (den envT (tabS tel52) 1000000 60) (xdraw envT (den envT (tabS tel52) 1000000 60)) 1000000 268 a52 (ofL (bare b52) 1)) (bare b52) 1 c52 d52 1 = true := by kernel_rfl
noncomputable def tel53 : PT Fun := addT tel52 268 (memo a52 b52 1 c52 d52 1)
theorem tel53_ok : TabOK Tryz.prog envT tel53 := tel52_ok.add (memo_ok (run_of_den envT_ok (tabS_sound envT_ok tel52_ok) r52)) (fnS (by kernel_rfl))
def ob55 : AObj := .cells (K (J3 64) (K (J3 2) (K (.map (some 50)) (J (J3 0)) (J (J3 0))) (K (Js 70 0 0 0) (J (.bool false)) .leaf)) (K (J3 0) (K (Js 61 0 3 3) (J (.slice none 0 0)) .leaf) (K (Js 512 0 2 4611686018427387907) (J (.map (some 51))) .leaf))) 12 0
def ob56 : AObj := .cells (K (J4 98) (K (J4 116) (K (J4 49) (K (J4 0) (K (J4 0) (K (J4 0) (J (J4 255)) .leaf) (J (J4 255))) (K (J4 93) (J (J4 205)) (J (J4 255)))) (K (J4 0) (K (J4 0) (J (J4 0)) (J (J4 255))) (K (J4 0) (J (J4 255)) (J (J4 255))))) (K (J4 0) (K (J4 0) (K (J4 3) (J (J4 0)) (J (J4 255))) (K (J4 0) (J (J4 145)) (J (J4 255)))) (K (J4 1) (K (J4 229) (J (J4 0)) (J (J4 255))) (K (J4 0) (J (J4 255)) (J (J4 255)))))) (K (J4 48) (K (J4 1) (K (J4 0) (K (J4 0) (J (J4 0)) (J (J4 255))) (K (J4 63) (J (J4 18)) (J (J4 255)))) (K (J4 0) (K (J4 0) (J (J4 0)) (J (J4 255))) (K (J4 0) (J (J4 255)) (J (J4 255))))) (K (J4 0) (K (J4 0) (K (J4 0) (J (J4 0)) (J (J4 255))) (K (J4 0) (J (J4 252)) (J (J4 255)))) (K (J4 0) (K (J4 212) (J (J4 0)) (J (J4 255))) (K (J4 0) (J (J4 255)) (J (J4 255))))))) 64 0
def a53 : List Value := [(Jp 0 0), (.agg ⟨[(J3 4), (.string ⟨#[100, 101, 118, 105, 99, 101]⟩), (Js 1 0 1 4611686018427387905), (Js 2 0 3 4611686018427387905), (.slice none 0 0)]⟩)]
def b53 : List (Nat × Bool × AObj) := [(0, true, (.cells (K (.map (some 3)) (J (.map (some 4))) (J (.pointer none))) 3 0)),
  (1, false, (.cells (J (.string ⟨#[97]⟩)) 1 19)),
  (2, false, (.cells (K (J3 64) (J (J3 2)) (J (J3 1))) 3 7)),
  (3, true, (.map [((.string ⟨#[97]⟩), (Js 5 0 3 4611686018427387905)), ((.string ⟨#[98]⟩), (Js 6 0 4 4611686018427387905))] [0, 1] 2)),
  (4, true, (.map [((.string ⟨#[112]⟩), (Js 7 0 43 4611686018427387905))] [0] 1)),
  (5, false, (.cells (K (J4 111) (J (J4 108)) (J (J4 100))) 3 11)),
  (6, false, (.cells (K (J4 110) (K (J4 101) (J (J4 33)) .leaf) (J (J4 119))) 4 11)),
  (7, false, ob52)]
def c53 : Value := (.string ⟨#[111, 107]⟩)
def d53 : OL := [(0, (.cells (K (.map (some 3)) (J (.map (some 4))) (J (Jp 534 0))) 3 0)),
  (534, (.cells (K (Jp 52 0) (K (J3 0) (J (J3 0)) (J (J6 0))) (K (J3 0) (J (J3 0)) (J (.pointer none)))) 7 0)),
  (52, ob55),
  (50, (.map [((.agg ⟨[(J3 2), (J3 0)]⟩), (Jp 120 0)), ((.agg ⟨[(J3 2), (J3 1)]⟩), (Jp 179 0))] [0, 1] 2)),
  (70, (.cells .leaf 0 0)),
  (61, (.cells (K (J4 111) (J (J4 108)) (J (J4 100))) 3 0)),
  (512, (.cells (K (J3 1) (K (J3 2) (J (J3 2)) (J (J3 0))) (K (J3 0) (J (J3 2)) .leaf)) 6 913)),
  (51, (.map [((.agg ⟨[(J3 2), (J3 0)]⟩), (J3 1))] [0] 1)),
  (120, (.cells (K (Js 113 0 64 64) (J (.bool false)) .leaf) 2 0)),
  (179, (.cells (K (Js 172 0 64 64) (J (.bool true)) .leaf) 2 0)),
  (113, ob56),
  (172, ob54)]
theorem r53 : chkRun (denF envT (den envT (tabS tel53) 1000000 60) (xdraw envT (den envT (tabS tel53) 1000000 60)) 1000000 14 a53 (ofL (bare b53) 8)) (bare b53) 8 c53 d53 535 = true := by kernel_rfl
noncomputable def tel54 : PT Fun := addT tel53 14 (memo a53 b53 8 c53 d53 535)
theorem tel54_ok : TabOK Tryz.prog envT tel54 := tel53_ok.add (memo_ok (run_of_den envT_ok (tabS_sound envT_ok tel53_ok) r53)) (fnS (by kernel_rfl))
def a54 : List Value := [(Js 0 0 64 64)]
def b54 : List (Nat × Bool × AObj) := [(0, false, ob56)]
def c54 : Value := (.tuple ⟨[(.agg ⟨[(J3 1), (J3 0), (J3 1), (J3 3), (J6 1063113957), (J3 0), (J3 0), (J3 0), (J6 0), (J3 0)]⟩), (J3 0)]⟩)
def d54 : OL := []
theorem r54 : chkRun (denF envT (den envT (tabS tel54) 1000000 60) (xdraw envT (den envT (tabS tel54) 1000000 60)) 1000000 183 a54 (ofL (bare b54) 1)) (bare b54) 1 c54 d54 195 = true := by kernel_rfl
noncomputable def tel55 : PT Fun := addT tel54 183 (memo a54 b54 1 c54 d54 195)
theorem tel55_ok : TabOK Tryz.prog envT tel55 := tel54_ok.add (memo_ok (run_of_den envT_ok (tabS_sound envT_ok tel54_ok) r54)) (fnS (by kernel_rfl))
def ob57 : AObj := .cells (K (J3 64) (K (J3 2) (K (.map (some 9)) (J (J3 0)) (J (J3 0))) (K (Js 10 0 0 0) (J (.bool false)) .leaf)) (K (J3 0) (K (Js 11 0 3 3) (J (.slice none 0 0)) .leaf) (K (Js 12 0 2 4611686018427387907) (J (.map (some 13))) .leaf))) 12 0
def ob58 : AObj := .cells (K (J4 111) (K (J4 108) (K (J4 255) (K (J4 255) (K (J4 255) (K (J4 255) (J (J4 255)) .leaf) (J (J4 255))) (K (J4 255) (J (J4 255)) (J (J4 255)))) (K (J4 255) (K (J4 255) (J (J4 255)) (J (J4 255))) (K (J4 255) (J (J4 255)) (J (J4 255))))) (K (J4 255) (K (J4 255) (K (J4 255) (J (J4 255)) (J (J4 255))) (K (J4 255) (J (J4 255)) (J (J4 255)))) (K (J4 255) (K (J4 255) (J (J4 255)) (J (J4 255))) (K (J4 255) (J (J4 255)) (J (J4 255)))))) (K (J4 100) (K (J4 255) (K (J4 255) (K (J4 255) (J (J4 255)) (J (J4 255))) (K (J4 255) (J (J4 255)) (J (J4 255)))) (K (J4 255) (K (J4 255) (J (J4 255)) (J (J4 255))) (K (J4 255) (J (J4 255)) (J (J4 255))))) (K (J4 255) (K (J4 255) (K (J4 255) (J (J4 255)) (J (J4 255))) (K (J4 255) (J (J4 255)) (J (J4 255)))) (K (J4 255) (K (J4 255) (J (J4 255)) (J (J4 255))) (K (J4 255) (J (J4 255)) (J (J4 255))))))) 64 0
def a55 : List Value := [(Jp 1 0), (.agg ⟨[(J3 5), (.string ⟨#[115, 116, 97, 114, 116]⟩), (.slice none 0 0), (.slice none 0 0), (.slice none 0 0)]⟩)]
def b55 : List (Nat × Bool × AObj) := [(0, false, (glTab)),
  (1, true, (.cells (K (.map (some 2)) (J (.map (some 3))) (J (Jp 4 0))) 3 0)),
  (2, true, (.map [((.string ⟨#[97]⟩), (Js 5 0 3 4611686018427387905)), ((.string ⟨#[98]⟩), (Js 6 0 4 4611686018427387905))] [0, 1] 2)),
  (3, true, (.map [((.string ⟨#[112]⟩), (Js 7 0 43 4611686018427387905))] [0] 1)),
  (4, true, (.cells (K (Jp 8 0) (K (J3 0) (J (J3 0)) (J (J6 0))) (K (J3 0) (J (J3 0)) (J (.pointer none)))) 7 0)),
  (5, false, (.cells (K (J4 111) (J (J4 108)) (J (J4 100))) 3 11)),
  (6, false, (.cells (K (J4 110) (K (J4 101) (J (J4 33)) .leaf) (J (J4 119))) 4 11)),
  (7, false, ob52),
  (8, true, ob57),
  (9, true, (.map [((.agg ⟨[(J3 2), (J3 0)]⟩), (Jp 14 0)), ((.agg ⟨[(J3 2), (J3 1)]⟩), (Jp 15 0))] [0, 1] 2)),
  (10, false, (.cells .leaf 0 0)),
  (11, false, (.cells (K (J4 111) (J (J4 108)) (J (J4 100))) 3 0)),
  (12, false, (.cells (K (J3 1) (K (J3 2) (J (J3 2)) (J (J3 0))) (K (J3 0) (J (J3 2)) .leaf)) 6 913)),
  (13, false, (.map [((.agg ⟨[(J3 2), (J3 0)]⟩), (J3 1))] [0] 1)),
  (14, true, (.cells (K (Js 16 0 64 64) (J (.bool false)) .leaf) 2 0)),
  (15, true, (.cells (K (Js 17 0 64 64) (J (.bool true)) .leaf) 2 0)),
  (16, false, ob56),
  (17, false, ob54)]
def c55 : Value := (.string ⟨#[114, 117, 110, 115, 32, 48, 32, 49, 32, 51, 32, 51, 102, 53, 100, 100, 52, 101, 53]⟩)
def d55 : OL := [(4, (.cells (K (Jp 8 0) (K (J3 1) (J (J3 1)) (J (J6 1063113957))) (K (J3 0) (J (J3 3)) (J (.pointer none)))) 7 0)),
  (9, (.map [((.agg ⟨[(J3 2), (J3 0)]⟩), (Jp 14 0)), ((.agg ⟨[(J3 2), (J3 1)]⟩), (Jp 15 0)), ((.agg ⟨[(J3 0), (J3 0)]⟩), (Jp 369 0))] [0, 1, 2] 3)),
  (369, (.cells (K (Js 362 0 64 64) (J (.bool false)) .leaf) 2 0)),
  (362, ob58)]
theorem r55 : chkRun (denF envT (den envT (tabS tel55) 1000000 60) (xdraw envT (den envT (tabS tel55) 1000000 60)) 1000000 14 a55 (ofL (bare b55) 18)) (bare b55) 18 c55 d55 467 = true := by kernel_rfl
noncomputable def tel56 : PT Fun := addT tel55 14 (memo a55 b55 18 c55 d55 467)
theorem tel56_ok : TabOK Tryz.prog envT tel56 := tel55_ok.add (memo_ok (run_of_den envT_ok (tabS_sound envT_ok tel55_ok) r55)) (fnS (by kernel_rfl))
def a56 : List Value := [(Jp 0 0), (.func (.func 256) ⟨[]⟩ ⟨[]⟩)]
def b56 : List (Nat × Bool × AObj) := [(0, true, (.cells (K (J2 1) (K (J6 0) (J (J3 0)) .leaf) (J (.map (some 1)))) 4 0)),
  (1, false, (.map [((.string ⟨#[112, 97, 103, 101]⟩), (.agg ⟨[(J3 64), (J3 64)]⟩))] [0] 1))]
def c56 : Value := (J3 64)
def d56 : OL := []
theorem r56 : mapChk envT (den envT (tabS tel56) 1000000 60) mfi255 mAs255 mAt255 mz255 mB255 0 12 13 14 5 [1, 12] [64] 2 2 a56 (bare b56) 2 c56 d56 5 = true := by kernel_rfl
noncomputable def tel57 : PT Fun := addT tel56 255 (memo a56 b56 2 c56 d56 5)
theorem tel57_ok : TabOK Tryz.prog envT tel57 := tel56_ok.add (memo_ok (mapRun envT_ok (den_sound envT_ok (tabS_sound envT_ok tel56_ok) 1000000 60) mE255 mbody255 mops255 mh0255 mh1255 mh2255 mh3255 mh4255 mh5255 r56)) (fnS (by kernel_rfl))
def ob59 : AObj := .map [((.string ⟨#[112, 97, 103, 101]⟩), (.agg ⟨[(J3 64), (J3 64)]⟩)), ((.string ⟨#[115, 119, 101, 108, 108]⟩), (.agg ⟨[(J3 3935), (J3 3935)]⟩))] [0, 1] 2
def a57 : List Value := [(Jp 0 0), (.func (.func 256) ⟨[]⟩ ⟨[]⟩)]
def b57 : List (Nat × Bool × AObj) := [(0, true, (.cells (K (J2 1) (K (J6 0) (J (J3 64)) .leaf) (J (.map (some 1)))) 4 0)),
  (1, false, ob59)]
def c57 : Value := (J3 3999)
def d57 : OL := []
theorem r57 : mapChk envT (den envT (tabS tel57) 1000000 60) mfi255 mAs255 mAt255 mz255 mB255 0 12 13 14 5 [1, 12] [64, 3935] 2 4 a57 (bare b57) 2 c57 d57 7 = true := by kernel_rfl
noncomputable def tel58 : PT Fun := addT tel57 255 (memo a57 b57 2 c57 d57 7)
theorem tel58_ok : TabOK Tryz.prog envT tel58 := tel57_ok.add (memo_ok (mapRun envT_ok (den_sound envT_ok (tabS_sound envT_ok tel57_ok) 1000000 60) mE255 mbody255 mops255 mh0255 mh1255 mh2255 mh3255 mh4255 mh5255 r57)) (fnS (by kernel_rfl))
def ob60 : AObj := .map [((.string ⟨#[112, 97, 103, 101]⟩), (.agg ⟨[(J3 64), (J3 64)]⟩)), ((.string ⟨#[115, 119, 101, 108, 108]⟩), (.agg ⟨[(J3 3935), (J3 3935)]⟩)), ((.string ⟨#[112, 97, 114, 115, 101]⟩), (.agg ⟨[(J3 64), (J3 64)]⟩))] [0, 1, 2] 3
def a58 : List Value := [(Jp 0 0), (.func (.func 256) ⟨[]⟩ ⟨[]⟩)]
def b58 : List (Nat × Bool × AObj) := [(0, true, (.cells (K (J2 1) (K (J6 0) (J (J3 3999)) .leaf) (J (.map (some 1)))) 4 0)),
  (1, false, ob60)]
def c58 : Value := (J3 4063)
def d58 : OL := []
theorem r58 : mapChk envT (den envT (tabS tel58) 1000000 60) mfi255 mAs255 mAt255 mz255 mB255 0 12 13 14 5 [1, 12] [64, 3935, 64] 2 8 a58 (bare b58) 2 c58 d58 9 = true := by kernel_rfl
noncomputable def tel59 : PT Fun := addT tel58 255 (memo a58 b58 2 c58 d58 9)
theorem tel59_ok : TabOK Tryz.prog envT tel59 := tel58_ok.add (memo_ok (mapRun envT_ok (den_sound envT_ok (tabS_sound envT_ok tel58_ok) 1000000 60) mE255 mbody255 mops255 mh0255 mh1255 mh2255 mh3255 mh4255 mh5255 r58)) (fnS (by kernel_rfl))
def ob61 : AObj := .map [((.string ⟨#[112, 97, 103, 101]⟩), (.agg ⟨[(J3 64), (J3 64)]⟩)), ((.string ⟨#[115, 119, 101, 108, 108]⟩), (.agg ⟨[(J3 3935), (J3 3935)]⟩)), ((.string ⟨#[112, 97, 114, 115, 101]⟩), (.agg ⟨[(J3 64), (J3 64)]⟩)), ((.string ⟨#[99, 111, 110, 116, 114, 111, 108]⟩), (.agg ⟨[(J3 384), (J3 384)]⟩))] [0, 1, 2, 3] 4
def a59 : List Value := [(Jp 0 0), (.func (.func 256) ⟨[]⟩ ⟨[]⟩)]
def b59 : List (Nat × Bool × AObj) := [(0, true, (.cells (K (J2 1) (K (J6 0) (J (J3 4063)) .leaf) (J (.map (some 1)))) 4 0)),
  (1, false, ob61)]
def c59 : Value := (J3 4447)
def d59 : OL := []
theorem r59 : mapChk envT (den envT (tabS tel59) 1000000 60) mfi255 mAs255 mAt255 mz255 mB255 0 12 13 14 5 [1, 12] [64, 3935, 64, 384] 2 16 a59 (bare b59) 2 c59 d59 11 = true := by kernel_rfl
noncomputable def tel60 : PT Fun := addT tel59 255 (memo a59 b59 2 c59 d59 11)
theorem tel60_ok : TabOK Tryz.prog envT tel60 := tel59_ok.add (memo_ok (mapRun envT_ok (den_sound envT_ok (tabS_sound envT_ok tel59_ok) 1000000 60) mE255 mbody255 mops255 mh0255 mh1255 mh2255 mh3255 mh4255 mh5255 r59)) (fnS (by kernel_rfl))
def ob62 : AObj := .map [((.string ⟨#[112, 97, 103, 101]⟩), (.agg ⟨[(J3 64), (J3 64)]⟩)), ((.string ⟨#[115, 119, 101, 108, 108]⟩), (.agg ⟨[(J3 3935), (J3 3935)]⟩)), ((.string ⟨#[112, 97, 114, 115, 101]⟩), (.agg ⟨[(J3 64), (J3 64)]⟩)), ((.string ⟨#[99, 111, 110, 116, 114, 111, 108]⟩), (.agg ⟨[(J3 384), (J3 384)]⟩)), ((.string ⟨#[100, 105, 102, 102]⟩), (.agg ⟨[(J3 64), (J3 64)]⟩))] [0, 1, 2, 3, 4] 5
def a60 : List Value := [(Jp 0 0), (.func (.func 256) ⟨[]⟩ ⟨[]⟩)]
def b60 : List (Nat × Bool × AObj) := [(0, true, (.cells (K (J2 1) (K (J6 0) (J (J3 4447)) .leaf) (J (.map (some 1)))) 4 0)),
  (1, false, ob62)]
def c60 : Value := (J3 4511)
def d60 : OL := []
theorem r60 : mapChk envT (den envT (tabS tel60) 1000000 60) mfi255 mAs255 mAt255 mz255 mB255 0 12 13 14 5 [1, 12] [64, 3935, 64, 384, 64] 2 32 a60 (bare b60) 2 c60 d60 13 = true := by kernel_rfl
noncomputable def tel61 : PT Fun := addT tel60 255 (memo a60 b60 2 c60 d60 13)
theorem tel61_ok : TabOK Tryz.prog envT tel61 := tel60_ok.add (memo_ok (mapRun envT_ok (den_sound envT_ok (tabS_sound envT_ok tel60_ok) 1000000 60) mE255 mbody255 mops255 mh0255 mh1255 mh2255 mh3255 mh4255 mh5255 r60)) (fnS (by kernel_rfl))
def ob63 : AObj := .map [((.string ⟨#[112, 97, 103, 101]⟩), (.agg ⟨[(J3 64), (J3 64)]⟩)), ((.string ⟨#[115, 119, 101, 108, 108]⟩), (.agg ⟨[(J3 3935), (J3 3935)]⟩)), ((.string ⟨#[112, 97, 114, 115, 101]⟩), (.agg ⟨[(J3 64), (J3 64)]⟩)), ((.string ⟨#[99, 111, 110, 116, 114, 111, 108]⟩), (.agg ⟨[(J3 384), (J3 384)]⟩)), ((.string ⟨#[100, 105, 102, 102]⟩), (.agg ⟨[(J3 64), (J3 64)]⟩)), ((.string ⟨#[101, 120, 116, 114, 97]⟩), (.agg ⟨[(J3 64), (J3 64)]⟩))] [0, 1, 2, 3, 4, 5] 6
def a61 : List Value := [(Jp 0 0), (.func (.func 256) ⟨[]⟩ ⟨[]⟩)]
def b61 : List (Nat × Bool × AObj) := [(0, true, (.cells (K (J2 1) (K (J6 0) (J (J3 4511)) .leaf) (J (.map (some 1)))) 4 0)),
  (1, false, ob63)]
def c61 : Value := (J3 4575)
def d61 : OL := []
theorem r61 : mapChk envT (den envT (tabS tel61) 1000000 60) mfi255 mAs255 mAt255 mz255 mB255 0 12 13 14 5 [1, 12] [64, 3935, 64, 384, 64, 64] 2 64 a61 (bare b61) 2 c61 d61 15 = true := by kernel_rfl
noncomputable def tel62 : PT Fun := addT tel61 255 (memo a61 b61 2 c61 d61 15)
theorem tel62_ok : TabOK Tryz.prog envT tel62 := tel61_ok.add (memo_ok (mapRun envT_ok (den_sound envT_ok (tabS_sound envT_ok tel61_ok) 1000000 60) mE255 mbody255 mops255 mh0255 mh1255 mh2255 mh3255 mh4255 mh5255 r61)) (fnS (by kernel_rfl))
end Go.Proofs.YtckpjjgpcfacnaaGreatDoor
