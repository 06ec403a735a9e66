/- Told runs: what functions of the program come to from a small memory. Conditions: none. -/
import Derived.Test.YtckpjjgpcfacnaaGreatDoorTold4
namespace Go.Proofs.YtckpjjgpcfacnaaGreatDoor
open Go.ChangeShapes Go.WideShapes Go.ChangeAt Go.RowKit Go.Conc Go.Den
def ob48 : AObj := .cells (K (J3 0) (K (J3 0) (K (J3 0) (K (J3 0) (K (J3 0) (K (J3 0) (K (J3 0) (K (J3 0) (J (J3 0)) .leaf) (J (J3 0))) (K (J3 0) (J (J3 0)) (J (J3 0)))) (K (J3 0) (K (J3 0) (J (J3 0)) (J (J3 0))) (K (J3 0) (J (J3 0)) (J (J3 0))))) (K (J3 0) (K (J3 0) (K (J3 0) (J (J3 0)) (J (J3 0))) (K (J3 0) (J (J3 0)) (J (J3 0)))) (K (J3 0) (K (J3 0) (J (J3 0)) (J (J3 0))) (K (J3 2) (J (J3 0)) (J (J3 0)))))) (K (J3 0) (K (J3 0) (K (J3 0) (K (J3 0) (J (J3 0)) (J (J3 0))) (K (J3 0) (J (J3 0)) (J (J3 0)))) (K (J3 0) (K (J3 0) (J (J3 0)) (J (J3 0))) (K (J3 0) (J (J3 0)) (J (J3 0))))) (K (J3 0) (K (J3 0) (K (J3 0) (J (J3 0)) (J (J3 0))) (K (J3 0) (J (J3 0)) (J (J3 0)))) (K (J3 0) (K (J3 0) (J (J3 0)) (J (J3 0))) (K (J3 0) (J (J3 0)) (J (J3 0))))))) (K (J3 0) (K (J3 0) (K (J3 0) (K (J3 3) (K (J3 0) (K (J3 0) (J (J3 0)) .leaf) (J (J3 0))) (K (J3 0) (J (J3 0)) (J (J3 0)))) (K (J3 0) (K (J3 0) (J (J3 0)) (J (J3 0))) (K (J3 0) (J (J3 0)) (J (J3 0))))) (K (J3 0) (K (J3 0) (K (J3 0) (J (J3 0)) (J (J3 0))) (K (J3 0) (J (J3 0)) (J (J3 0)))) (K (J3 0) (K (J3 0) (J (J3 0)) (J (J3 0))) (K (J3 0) (J (J3 0)) (J (J3 0)))))) (K (J3 0) (K (J3 0) (K (J3 0) (K (J3 0) (J (J3 0)) (J (J3 0))) (K (J3 3) (J (J3 0)) (J (J3 0)))) (K (J3 0) (K (J3 0) (J (J3 0)) (J (J3 0))) (K (J3 0) (J (J3 0)) (J (J3 0))))) (K (J3 0) (K (J3 0) (K (J3 0) (J (J3 0)) (J (J3 0))) (K (J3 0) (J (J3 0)) (J (J3 0)))) (K (J3 0) (K (J3 0) (J (J3 0)) (J (J3 0))) (K (J3 0) (J (J3 0)) (J (J3 0)))))))) (K (J3 0) (K (J3 0) (K (J3 0) (K (J3 0) (K (J3 0) (K (J3 0) (K (J3 0) (J (J3 2)) .leaf) (J (J3 0))) (K (J3 0) (J (J3 0)) (J (J3 0)))) (K (J3 0) (K (J3 0) (J (J3 0)) (J (J3 0))) (K (J3 0) (J (J3 0)) (J (J3 0))))) (K (J3 0) (K (J3 0) (K (J3 0) (J (J3 0)) (J (J3 0))) (K (J3 0) (J (J3 0)) (J (J3 0)))) (K (J3 0) (K (J3 0) (J (J3 0)) (J (J3 0))) (K (J3 0) (J (J3 0)) (J (J3 0)))))) (K (J3 0) (K (J3 0) (K (J3 0) (K (J3 0) (J (J3 0)) (J (J3 0))) (K (J3 0) (J (J3 0)) (J (J3 0)))) (K (J3 0) (K (J3 0) (J (J3 0)) (J (J3 0))) (K (J3 0) (J (J3 0)) (J (J3 0))))) (K (J3 0) (K (J3 0) (K (J3 0) (J (J3 0)) (J (J3 0))) (K (J3 0) (J (J3 0)) (J (J3 0)))) (K (J3 0) (K (J3 0) (J (J3 0)) (J (J3 0))) (K (J3 0) (J (J3 0)) (J (J3 0))))))) (K (J3 0) (K (J3 0) (K (J3 0) (K (J3 0) (K (J3 0) (J (J3 0)) (J (J3 0))) (K (J3 0) (J (J3 0)) (J (J3 0)))) (K (J3 0) (K (J3 0) (J (J3 0)) (J (J3 0))) (K (J3 0) (J (J3 0)) (J (J3 0))))) (K (J3 0) (K (J3 0) (K (J3 0) (J (J3 0)) (J (J3 0))) (K (J3 0) (J (J3 0)) (J (J3 0)))) (K (J3 0) (K (J3 0) (J (J3 0)) (J (J3 0))) (K (J3 0) (J (J3 0)) (J (J3 0)))))) (K (J3 0) (K (J3 0) (K (J3 0) (K (J3 0) (J (J3 0)) (J (J3 0))) (K (J3 0) (J (J3 0)) (J (J3 0)))) (K (J3 0) (K (J3 0) (J (J3 0)) (J (J3 0))) (K (J3 0) (J (J3 0)) (J (J3 0))))) (K (J3 0) (K (J3 0) (K (J3 0) (J (J3 0)) (J (J3 0))) (K (J3 2) (J (J3 0)) (J (J3 0)))) (K (J3 0) (K (J3 0) (J (J3 0)) (J (J3 0))) (K (J3 0) (J (J3 0)) (J (J3 0))))))))) 258 7
def ob49 : AObj := .cells (K (J3 18) (K (J3 33) (K (J3 1) (K (J3 1) (J (J3 1)) .leaf) (K (J3 1) (J (J3 1)) .leaf)) (K (J3 67) (K (J3 8) (J (J3 136)) .leaf) (K (J3 8) (J (J3 1)) .leaf))) (K (J3 3) (K (J3 18) (K (J3 17) (J (J3 18)) .leaf) (K (J3 17) (J (J3 0)) .leaf)) (K (J3 3) (K (J3 2) (J (J3 2)) .leaf) (J (J3 2))))) 22 931
def a43 : List Value := [(Js 0 0 258 4611686018427387905)]
def b43 : List (Nat × Bool × AObj) := [(0, false, ob48)]
def c43 : Value := (.tuple ⟨[(Js 3668 0 11 4611686018427387906), (J3 0)]⟩)
def d43 : OL := [(3668, ob49)]
theorem r43 : chkRun (denF envT (den envT (tabS tel43) 1000000 60) (xdraw envT (den envT (tabS tel43) 1000000 60)) 1000000 460 a43 (ofL (bare b43) 1)) (bare b43) 1 c43 d43 3669 = true := by kernel_rfl
noncomputable def tel44 : PT Fun := addT tel43 460 (memo a43 b43 1 c43 d43 3669)
theorem tel44_ok : TabOK Tryz.prog envT tel44 := tel43_ok.add (memo_ok (run_of_den envT_ok (tabS_sound envT_ok tel43_ok) r43)) (fnS (by kernel_rfl))
def ob50 : AObj := .cells (K (J3 1) (K (J3 0) (K (J3 2) (K (J3 0) (J (J3 0)) .leaf) (J (J3 0))) (K (J3 0) (K (J3 0) (J (J3 2)) .leaf) (J (J3 0)))) (K (J3 3) (K (J3 0) (K (J3 0) (J (J3 0)) .leaf) (J (J3 0))) (K (J3 0) (K (J3 0) (J (J3 3)) .leaf) (J (J3 0))))) 19 924
def ob51 : AObj := .cells (K (J3 3) (K (J3 0) (K (J3 3) (K (J3 0) (J (J3 0)) .leaf) (J (J3 0))) (K (J3 0) (K (J3 0) (J (J3 2)) .leaf) (J (J3 0)))) (K (J3 2) (K (J3 0) (K (J3 0) (J (J3 0)) .leaf) (J (J3 0))) (K (J3 0) (K (J3 0) (J (J3 2)) .leaf) (J (J3 0))))) 19 0
def a44 : List Value := [(J3 7), (Js 0 0 19 19)]
def b44 : List (Nat × Bool × AObj) := [(0, false, ob50)]
def c44 : Value := (.tuple ⟨[(Js 161 0 19 19), (J3 0)]⟩)
def d44 : OL := [(161, ob51)]
theorem r44 : chkRun (denF envT (den envT (tabS tel44) 1000000 60) (xdraw envT (den envT (tabS tel44) 1000000 60)) 1000000 429 a44 (ofL (bare b44) 1)) (bare b44) 1 c44 d44 2155 = true := by kernel_rfl
noncomputable def tel45 : PT Fun := addT tel44 429 (memo a44 b44 1 c44 d44 2155)
theorem tel45_ok : TabOK Tryz.prog envT tel45 := tel44_ok.add (memo_ok (run_of_den envT_ok (tabS_sound envT_ok tel44_ok) r44)) (fnS (by kernel_rfl))
def a45 : List Value := [(J3 0), (Js 0 0 4 4)]
def b45 : List (Nat × Bool × AObj) := [(0, false, ob19)]
def c45 : Value := (.tuple ⟨[(J3 1), (J3 0)]⟩)
def d45 : OL := []
theorem r45 : chkRun (denF envT (den envT (tabS tel45) 1000000 60) (xdraw envT (den envT (tabS tel45) 1000000 60)) 1000000 323 a45 (ofL (bare b45) 1)) (bare b45) 1 c45 d45 11193 = true := by kernel_rfl
noncomputable def tel46 : PT Fun := addT tel45 323 (memo a45 b45 1 c45 d45 11193)
theorem tel46_ok : TabOK Tryz.prog envT tel46 := tel45_ok.add (memo_ok (run_of_den envT_ok (tabS_sound envT_ok tel45_ok) r45)) (fnS (by kernel_rfl))
def a46 : List Value := [(J3 1), (J3 0), (Js 0 0 4 4)]
def b46 : List (Nat × Bool × AObj) := [(0, false, ob19)]
def c46 : Value := (.tuple ⟨[(J3 42), (J3 0)]⟩)
def d46 : OL := []
theorem r46 : chkRun (denF envT (den envT (tabS tel46) 1000000 60) (xdraw envT (den envT (tabS tel46) 1000000 60)) 1000000 324 a46 (ofL (bare b46) 1)) (bare b46) 1 c46 d46 96 = true := by kernel_rfl
noncomputable def tel47 : PT Fun := addT tel46 324 (memo a46 b46 1 c46 d46 96)
theorem tel47_ok : TabOK Tryz.prog envT tel47 := tel46_ok.add (memo_ok (run_of_den envT_ok (tabS_sound envT_ok tel46_ok) r46)) (fnS (by kernel_rfl))
def a47 : List Value := [(Js 0 0 4 4611686018427387905), (.agg ⟨[(J3 100), (J3 10), (.bool false), (J3 50)]⟩)]
def b47 : List (Nat × Bool × AObj) := [(0, false, (.cells (K (J4 110) (K (J4 101) (J (J4 33)) .leaf) (J (J4 119))) 4 11))]
def c47 : Value := (.tuple ⟨[(Js 12036 0 6 4611686018427387905), (J3 0)]⟩)
def d47 : OL := [(12036, (.cells (K (J4 203) (K (J4 75) (J (J4 87)) (J (J4 0))) (K (J4 45) (J (J4 4)) .leaf)) 6 11))]
theorem r47 : chkRun (denF envT (den envT (tabS tel47) 1000000 60) (xdraw envT (den envT (tabS tel47) 1000000 60)) 1000000 157 a47 (ofL (bare b47) 1)) (bare b47) 1 c47 d47 12037 = true := by kernel_rfl
noncomputable def tel48 : PT Fun := addT tel47 157 (memo a47 b47 1 c47 d47 12037)
theorem tel48_ok : TabOK Tryz.prog envT tel48 := tel47_ok.add (memo_ok (run_of_den envT_ok (tabS_sound envT_ok tel47_ok) r47)) (fnS (by kernel_rfl))
def ob52 : AObj := .cells (K (J4 83) (K (J4 65) (K (J4 82) (K (J4 64) (K (J4 182) (J (J4 0)) .leaf) (K (J4 0) (J (J4 217)) .leaf)) (K (J4 93) (K (J4 190) (J (J4 45)) .leaf) (J (J4 6)))) (K (J4 3) (K (J4 229) (K (J4 120) (J (J4 203)) .leaf) (K (J4 5) (J (J4 83)) .leaf)) (K (J4 136) (K (J4 0) (J (J4 4)) .leaf) (J (J4 96))))) (K (J4 80) (K (J4 1) (K (J4 100) (K (J4 152) (J (J4 0)) .leaf) (K (J4 4) (J (J4 40)) .leaf)) (K (J4 63) (K (J4 40) (J (J4 87)) .leaf) (J (J4 99)))) (K (J4 4) (K (J4 212) (K (J4 167) (J (J4 75)) .leaf) (K (J4 0) (J (J4 66)) .leaf)) (K (J4 169) (K (J4 3) (J (J4 0)) .leaf) (J (J4 97)))))) 43 11
def a48 : List Value := [(.agg ⟨[(J3 3), (J3 4), (J6 1063113957), (J6 2562107784), (J3 64), (J3 100)]⟩), (.agg ⟨[(J3 100), (J3 10), (.bool false), (J3 50)]⟩), (Js 0 0 1 4611686018427387908)]
def b48 : List (Nat × Bool × AObj) := [(0, true, (.cells (K (J3 0) (K (Js 1 0 1 4611686018427387907) (J (Js 2 0 4 4611686018427387905)) .leaf) (J (.slice none 0 0))) 4 403)),
  (1, false, (.cells (K (J3 0) (J (J3 4)) (J (J3 0))) 3 457)),
  (2, false, (.cells (K (J4 110) (K (J4 101) (J (J4 33)) .leaf) (J (J4 119))) 4 11))]
def c48 : Value := (.tuple ⟨[(Js 23262 0 43 4611686018427387905), (J3 0)]⟩)
def d48 : OL := [(23262, ob52)]
theorem r48 : chkRun (denF envT (den envT (tabS tel48) 1000000 60) (xdraw envT (den envT (tabS tel48) 1000000 60)) 1000000 100 a48 (ofL (bare b48) 3)) (bare b48) 3 c48 d48 23263 = true := by kernel_rfl
noncomputable def tel49 : PT Fun := addT tel48 100 (memo a48 b48 3 c48 d48 23263)
theorem tel49_ok : TabOK Tryz.prog envT tel49 := tel48_ok.add (memo_ok (run_of_den envT_ok (tabS_sound envT_ok tel48_ok) r48)) (fnS (by kernel_rfl))
def a49 : List Value := [(Jp 1 0), (.agg ⟨[(J3 3), (.string ⟨#[112, 97, 116, 99, 104]⟩), (Js 2 0 3 4611686018427387905), (Js 3 0 5 4611686018427387905), (.slice none 0 0)]⟩), (Js 4 0 43 4611686018427387905), (J3 0)]
def b49 : List (Nat × Bool × AObj) := [(0, false, (glTab)),
  (1, true, (.cells (K (.map (some 5)) (J (.map (some 6))) (J (.pointer none))) 3 0)),
  (2, false, (.cells (K (.string ⟨#[112]⟩) (J (.string ⟨#[97]⟩)) (J (.string ⟨#[98]⟩))) 3 19)),
  (3, false, (.cells (K (J3 64) (K (J3 100) (J (J3 0)) .leaf) (K (J3 10) (J (J3 50)) .leaf)) 5 7)),
  (4, false, ob52),
  (5, true, (.map [((.string ⟨#[97]⟩), (Js 7 0 3 4611686018427387905)), ((.string ⟨#[98]⟩), (Js 8 0 4 4611686018427387905))] [0, 1] 2)),
  (6, false, (.map [] [] 0)),
  (7, false, (.cells (K (J4 111) (J (J4 108)) (J (J4 100))) 3 11)),
  (8, false, (.cells (K (J4 110) (K (J4 101) (J (J4 33)) .leaf) (J (J4 119))) 4 11))]
def c49 : Value := (.string ⟨#[98, 121, 116, 101, 115, 32, 52, 51, 32, 50, 49, 52, 52, 100, 102, 49, 99]⟩)
def d49 : OL := [(6, (.map [((.string ⟨#[112]⟩), (Js 4 0 43 4611686018427387905))] [0] 1))]
theorem r49 : exChk envT (den envT (tabS tel49) 1000000 60) xfi65 1000 [0, 2, 3, 5, 8, 9, 10, 41, 42, 43, 48] 0 a49 (bare b49) 9 c49 d49 26 = true := by kernel_rfl
noncomputable def tel50 : PT Fun := addT tel49 65 (memo a49 b49 9 c49 d49 26)
theorem tel50_ok : TabOK Tryz.prog envT tel50 := tel49_ok.add (memo_ok (exChk_run envT_ok (den_sound envT_ok (tabS_sound envT_ok tel49_ok) 1000000 60) xE65 r49)) (fnS (by kernel_rfl))
end Go.Proofs.YtckpjjgpcfacnaaGreatDoor
