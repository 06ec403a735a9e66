/- Told runs: what functions of the program come to from a small memory. Conditions: none. -/
import Derived.Test.YtckpjjgpcfacnaaGreatDoorTold6
namespace Go.Proofs.YtckpjjgpcfacnaaGreatDoor
open Go.ChangeShapes Go.WideShapes Go.ChangeAt Go.RowKit Go.Conc Go.Den
def ob64 : AObj := .map [((.string ⟨#[112, 97, 103, 101]⟩), (.agg ⟨[(J3 64), (J3 64)]⟩)), ((.string ⟨#[115, 119, 101, 108, 108]⟩), (.agg ⟨[(J3 3935), (J3 3935)]⟩)), ((.string ⟨#[112, 97, 114, 115, 101]⟩), (.agg ⟨[(J3 64), (J3 64)]⟩)), ((.string ⟨#[99, 111, 110, 116, 114, 111, 108]⟩), (.agg ⟨[(J3 384), (J3 384)]⟩)), ((.string ⟨#[100, 105, 102, 102]⟩), (.agg ⟨[(J3 64), (J3 64)]⟩)), ((.string ⟨#[101, 120, 116, 114, 97]⟩), (.agg ⟨[(J3 64), (J3 64)]⟩)), ((.string ⟨#[110, 117, 109, 98, 101, 114, 115]⟩), (.agg ⟨[(J3 64), (J3 64)]⟩))] [0, 1, 2, 3, 4, 5, 6] 7
def a62 : List Value := [(Jp 0 0), (.func (.func 256) ⟨[]⟩ ⟨[]⟩)]
def b62 : List (Nat × Bool × AObj) := [(0, true, (.cells (K (J2 1) (K (J6 0) (J (J3 4575)) .leaf) (J (.map (some 1)))) 4 0)),
  (1, false, ob64)]
def c62 : Value := (J3 4639)
def d62 : OL := []
theorem r62 : mapChk envT (den envT (tabS tel62) 1000000 60) mfi255 mAs255 mAt255 mz255 mB255 0 12 13 14 5 [1, 12] [64, 3935, 64, 384, 64, 64, 64] 2 128 a62 (bare b62) 2 c62 d62 17 = true := by kernel_rfl
noncomputable def tel63 : PT Fun := addT tel62 255 (memo a62 b62 2 c62 d62 17)
theorem tel63_ok : TabOK Tryz.prog envT tel63 := tel62_ok.add (memo_ok (mapRun envT_ok (den_sound envT_ok (tabS_sound envT_ok tel62_ok) 1000000 60) mE255 mbody255 mops255 mh0255 mh1255 mh2255 mh3255 mh4255 mh5255 r62)) (fnS (by kernel_rfl))
def ob65 : AObj := .cells (K (Jp 354 0) (K (Jp 8 0) (K (Jp 355 0) (K (J3 100) (J (J3 0)) (J (J3 0))) (K (J6 0) (J (J3 0)) (J (J3 0)))) (K (J3 0) (K (J3 0) (J (J3 0)) (J (Js 362 0 0 64))) (K (J3 0) (J (J3 0)) (J (J3 0))))) (K (Jp 345 0) (K (Jp 350 0) (K (J3 0) (J (J3 0)) (J (Js 360 0 0 384))) (K (J3 0) (J (J3 0)) (J (J6 0)))) (K (J3 64) (K (J6 0) (J (J3 0)) (J (Js 364 0 0 64))) (K (.bool false) (J (J3 0)) (J (.bool false)))))) 31 0
def ob66 : AObj := .cells (K (J6 0) (K (J6 0) (K (J3 0) (K (J3 0) (K (.bool true) (J (J3 0)) .leaf) (J (J3 0))) (K (J3 0) (K (J3 0) (J (.bool false)) .leaf) (J (J3 0)))) (K (J3 0) (K (J6 0) (K (J3 0) (J (J3 0)) .leaf) (J (J3 0))) (K (J3 0) (J (J3 0)) (J (J3 0))))) (K (J7 0) (K (J7 0) (K (J6 0) (K (J3 0) (J (J3 0)) .leaf) (J (J3 0))) (K (.bool false) (K (J3 0) (J (J3 0)) .leaf) (J (J3 0)))) (K (J3 0) (K (J3 0) (K (J3 0) (J (J3 0)) .leaf) (J (J3 0))) (K (J3 0) (J (J3 0)) (J (J3 0)))))) 37 0
def ob67 : AObj := .cells (K (Jp 347 0) (K (J3 100) (K (J7 0) (K (Jp 352 0) (J (J3 0)) .leaf) (J (J3 0))) (K (J3 0) (K (J3 0) (J (.slice none 0 0)) .leaf) (J (J3 0)))) (K (J3 0) (K (J3 0) (K (Jp 349 0) (J (J3 0)) .leaf) (J (J3 0))) (K (Jp 351 0) (J (.bool false)) (J (J3 0))))) 18 0
def ob68 : AObj := .cells (K (J4 0) (K (J4 0) (K (J4 0) (K (J4 0) (K (J4 0) (K (J4 0) (K (J4 0) (K (J4 0) (J (J4 0)) (J (J4 0))) (K (J4 0) (J (J4 0)) .leaf)) (K (J4 0) (K (J4 0) (J (J4 0)) .leaf) (K (J4 0) (J (J4 0)) .leaf))) (K (J4 0) (K (J4 0) (K (J4 0) (J (J4 0)) .leaf) (K (J4 0) (J (J4 0)) .leaf)) (K (J4 0) (K (J4 0) (J (J4 0)) .leaf) (K (J4 0) (J (J4 0)) .leaf)))) (K (J4 0) (K (J4 0) (K (J4 0) (K (J4 0) (J (J4 0)) .leaf) (K (J4 0) (J (J4 0)) .leaf)) (K (J4 0) (K (J4 0) (J (J4 0)) .leaf) (K (J4 0) (J (J4 0)) .leaf))) (K (J4 0) (K (J4 0) (K (J4 0) (J (J4 0)) .leaf) (K (J4 0) (J (J4 0)) .leaf)) (K (J4 0) (K (J4 0) (J (J4 0)) .leaf) (K (J4 0) (J (J4 0)) .leaf))))) (K (J4 0) (K (J4 0) (K (J4 0) (K (J4 0) (K (J4 0) (J (J4 0)) .leaf) (K (J4 0) (J (J4 0)) .leaf)) (K (J4 0) (K (J4 0) (J (J4 0)) .leaf) (K (J4 0) (J (J4 0)) .leaf))) (K (J4 0) (K (J4 0) (K (J4 0) (J (J4 0)) .leaf) (K (J4 0) (J (J4 0)) .leaf)) (K (J4 0) (K (J4 0) (J (J4 0)) .leaf) (K (J4 0) (J (J4 0)) .leaf)))) (K (J4 0) (K (J4 0) (K (J4 0) (K (J4 0) (J (J4 0)) .leaf) (K (J4 0) (J (J4 0)) .leaf)) (K (J4 0) (K (J4 0) (J (J4 0)) .leaf) (K (J4 0) (J (J4 0)) .leaf))) (K (J4 0) (K (J4 0) (K (J4 0) (J (J4 0)) .leaf) (K (J4 0) (J (J4 0)) .leaf)) (K (J4 0) (K (J4 0) (J (J4 0)) .leaf) (K (J4 0) (J (J4 0)) .leaf)))))) (K (J4 0) (K (J4 0) (K (J4 0) (K (J4 0) (K (J4 0) (K (J4 0) (J (J4 0)) .leaf) (K (J4 0) (J (J4 0)) .leaf)) (K (J4 0) (K (J4 0) (J (J4 0)) .leaf) (K (J4 0) (J (J4 0)) .leaf))) (K (J4 0) (K (J4 0) (K (J4 0) (J (J4 0)) .leaf) (K (J4 0) (J (J4 0)) .leaf)) (K (J4 0) (K (J4 0) (J (J4 0)) .leaf) (K (J4 0) (J (J4 0)) .leaf)))) (K (J4 0) (K (J4 0) (K (J4 0) (K (J4 0) (J (J4 0)) .leaf) (K (J4 0) (J (J4 0)) .leaf)) (K (J4 0) (K (J4 0) (J (J4 0)) .leaf) (K (J4 0) (J (J4 0)) .leaf))) (K (J4 0) (K (J4 0) (K (J4 0) (J (J4 0)) .leaf) (K (J4 0) (J (J4 0)) .leaf)) (K (J4 0) (K (J4 0) (J (J4 0)) .leaf) (K (J4 0) (J (J4 0)) .leaf))))) (K (J4 0) (K (J4 0) (K (J4 0) (K (J4 0) (K (J4 0) (J (J4 0)) .leaf) (K (J4 0) (J (J4 0)) .leaf)) (K (J4 0) (K (J4 0) (J (J4 0)) .leaf) (K (J4 0) (J (J4 0)) .leaf))) (K (J4 0) (K (J4 0) (K (J4 0) (J (J4 0)) .leaf) (K (J4 0) (J (J4 0)) .leaf)) (K (J4 0) (K (J4 0) (J (J4 0)) .leaf) (K (J4 0) (J (J4 0)) .leaf)))) (K (J4 0) (K (J4 0) (K (J4 0) (K (J4 0) (J (J4 0)) .leaf) (K (J4 0) (J (J4 0)) .leaf)) (K (J4 0) (K (J4 0) (J (J4 0)) .leaf) (K (J4 0) (J (J4 0)) .leaf))) (K (J4 0) (K (J4 0) (K (J4 0) (J (J4 0)) .leaf) (K (J4 0) (J (J4 0)) .leaf)) (K (J4 0) (K (J4 0) (J (J4 0)) .leaf) (K (J4 0) (J (J4 0)) .leaf))))))) (K (J4 0) (K (J4 0) (K (J4 0) (K (J4 0) (K (J4 0) (K (J4 0) (K (J4 0) (J (J4 0)) .leaf) (K (J4 0) (J (J4 0)) .leaf)) (K (J4 0) (K (J4 0) (J (J4 0)) .leaf) (K (J4 0) (J (J4 0)) .leaf))) (K (J4 0) (K (J4 0) (K (J4 0) (J (J4 0)) .leaf) (K (J4 0) (J (J4 0)) .leaf)) (K (J4 0) (K (J4 0) (J (J4 0)) .leaf) (K (J4 0) (J (J4 0)) .leaf)))) (K (J4 0) (K (J4 0) (K (J4 0) (K (J4 0) (J (J4 0)) .leaf) (K (J4 0) (J (J4 0)) .leaf)) (K (J4 0) (K (J4 0) (J (J4 0)) .leaf) (K (J4 0) (J (J4 0)) .leaf))) (K (J4 0) (K (J4 0) (K (J4 0) (J (J4 0)) .leaf) (K (J4 0) (J (J4 0)) .leaf)) (K (J4 0) (K (J4 0) (J (J4 0)) .leaf) (K (J4 0) (J (J4 0)) .leaf))))) (K (J4 0) (K (J4 0) (K (J4 0) (K (J4 0) (K (J4 0) (J (J4 0)) .leaf) (K (J4 0) (J (J4 0)) .leaf)) (K (J4 0) (K (J4 0) (J (J4 0)) .leaf) (K (J4 0) (J (J4 0)) .leaf))) (K (J4 0) (K (J4 0) (K (J4 0) (J (J4 0)) .leaf) (K (J4 0) (J (J4 0)) .leaf)) (K (J4 0) (K (J4 0) (J (J4 0)) .leaf) (K (J4 0) (J (J4 0)) .leaf)))) (K (J4 0) (K (J4 0) (K (J4 0) (K (J4 0) (J (J4 0)) .leaf) (K (J4 0) (J (J4 0)) .leaf)) (K (J4 0) (K (J4 0) (J (J4 0)) .leaf) (K (J4 0) (J (J4 0)) .leaf))) (K (J4 0) (K (J4 0) (K (J4 0) (J (J4 0)) .leaf) (K (J4 0) (J (J4 0)) .leaf)) (K (J4 0) (K (J4 0) (J (J4 0)) .leaf) (K (J4 0) (J (J4 0)) .leaf)))))) (K (J4 0) (K (J4 0) (K (J4 0) (K (J4 0) (K (J4 0) (K (J4 0) (J (J4 0)) .leaf) (K (J4 0) (J (J4 0)) .leaf)) (K (J4 0) (K (J4 0) (J (J4 0)) .leaf) (K (J4 0) (J (J4 0)) .leaf))) (K (J4 0) (K (J4 0) (K (J4 0) (J (J4 0)) .leaf) (K (J4 0) (J (J4 0)) .leaf)) (K (J4 0) (K (J4 0) (J (J4 0)) .leaf) (K (J4 0) (J (J4 0)) .leaf)))) (K (J4 0) (K (J4 0) (K (J4 0) (K (J4 0) (J (J4 0)) .leaf) (K (J4 0) (J (J4 0)) .leaf)) (K (J4 0) (K (J4 0) (J (J4 0)) .leaf) (K (J4 0) (J (J4 0)) .leaf))) (K (J4 0) (K (J4 0) (K (J4 0) (J (J4 0)) .leaf) (K (J4 0) (J (J4 0)) .leaf)) (K (J4 0) (K (J4 0) (J (J4 0)) .leaf) (K (J4 0) (J (J4 0)) .leaf))))) (K (J4 0) (K (J4 0) (K (J4 0) (K (J4 0) (K (J4 0) (J (J4 0)) .leaf) (K (J4 0) (J (J4 0)) .leaf)) (K (J4 0) (K (J4 0) (J (J4 0)) .leaf) (K (J4 0) (J (J4 0)) .leaf))) (K (J4 0) (K (J4 0) (K (J4 0) (J (J4 0)) .leaf) (K (J4 0) (J (J4 0)) .leaf)) (K (J4 0) (K (J4 0) (J (J4 0)) .leaf) (K (J4 0) (J (J4 0)) .leaf)))) (K (J4 0) (K (J4 0) (K (J4 0) (K (J4 0) (J (J4 0)) .leaf) (K (J4 0) (J (J4 0)) .leaf)) (K (J4 0) (K (J4 0) (J (J4 0)) .leaf) (K (J4 0) (J (J4 0)) .leaf))) (K (J4 0) (K (J4 0) (K (J4 0) (J (J4 0)) .leaf) (K (J4 0) (J (J4 0)) .leaf)) (K (J4 0) (K (J4 0) (J (J4 0)) .leaf) (K (J4 0) (J (J4 0)) .leaf)))))))) 384 0
def ob69 : AObj := .cells (K (J3 32) (K (J3 0) (K (J3 0) (K (J3 0) (K (J3 0) (K (J3 0) (K (J3 0) (K (J3 0) (J (J3 0)) .leaf) (J (J3 0))) (K (J3 0) (K (J3 0) (J (J3 0)) .leaf) (J (J3 0)))) (K (J3 0) (K (J3 0) (K (J3 0) (J (J3 0)) .leaf) (J (J3 0))) (K (J3 0) (K (J3 0) (J (J3 0)) .leaf) (J (J3 0))))) (K (J3 0) (K (J3 0) (K (J3 0) (K (J3 0) (J (J3 0)) .leaf) (J (J3 0))) (K (J3 0) (K (J3 0) (J (J3 0)) .leaf) (J (J3 0)))) (K (J3 0) (K (J3 0) (K (J3 0) (J (J3 0)) .leaf) (J (J3 0))) (K (J3 0) (J (J3 0)) (J (J3 0)))))) (K (J3 0) (K (J3 0) (K (J3 0) (K (J3 0) (K (J3 0) (J (J3 0)) .leaf) (J (J3 0))) (K (J3 0) (K (J3 0) (J (J3 0)) .leaf) (J (J3 0)))) (K (J3 0) (K (J3 0) (K (J3 0) (J (J3 0)) .leaf) (J (J3 0))) (K (J3 0) (J (J3 0)) (J (J3 0))))) (K (J3 0) (K (J3 0) (K (J3 0) (K (J3 0) (J (J3 0)) .leaf) (J (J3 0))) (K (J3 0) (K (J3 0) (J (J3 0)) .leaf) (J (J3 0)))) (K (J3 0) (K (J3 0) (K (J3 0) (J (J3 0)) .leaf) (J (J3 0))) (K (J3 0) (J (J3 0)) (J (J3 0))))))) (K (J3 0) (K (J3 0) (K (J3 0) (K (J3 0) (K (J3 0) (K (J3 0) (J (J3 0)) .leaf) (J (J3 0))) (K (J3 0) (K (J3 0) (J (J3 0)) .leaf) (J (J3 0)))) (K (J3 0) (K (J3 0) (K (J3 0) (J (J3 0)) .leaf) (J (J3 0))) (K (J3 0) (K (J3 0) (J (J3 0)) .leaf) (J (J3 0))))) (K (J3 0) (K (J3 0) (K (J3 0) (K (J3 0) (J (J3 0)) .leaf) (J (J3 0))) (K (J3 0) (K (J3 0) (J (J3 0)) .leaf) (J (J3 0)))) (K (J3 0) (K (J3 0) (K (J3 0) (J (J3 0)) .leaf) (J (J3 0))) (K (J3 0) (J (J3 0)) (J (J3 0)))))) (K (J3 0) (K (J3 0) (K (J3 0) (K (J3 0) (K (J3 0) (J (J3 0)) .leaf) (J (J3 0))) (K (J3 0) (K (J3 0) (J (J3 0)) .leaf) (J (J3 0)))) (K (J3 0) (K (J3 0) (K (J3 0) (J (J3 0)) .leaf) (J (J3 0))) (K (J3 0) (J (J3 0)) (J (J3 0))))) (K (J3 0) (K (J3 0) (K (J3 0) (K (J3 0) (J (J3 0)) .leaf) (J (J3 0))) (K (J3 0) (K (J3 0) (J (J3 0)) .leaf) (J (J3 0)))) (K (J3 0) (K (J3 0) (K (J3 0) (J (J3 0)) .leaf) (J (J3 0))) (K (J3 0) (J (J3 0)) (J (J3 0)))))))) (K (J3 0) (K (J3 0) (K (J3 0) (K (J3 0) (K (J3 0) (K (J3 0) (K (J3 0) (J (J3 0)) .leaf) (J (J3 0))) (K (J3 0) (K (J3 0) (J (J3 0)) .leaf) (J (J3 0)))) (K (J3 0) (K (J3 0) (K (J3 0) (J (J3 0)) .leaf) (J (J3 0))) (K (J3 0) (K (J3 0) (J (J3 0)) .leaf) (J (J3 0))))) (K (J3 0) (K (J3 0) (K (J3 0) (K (J3 0) (J (J3 0)) .leaf) (J (J3 0))) (K (J3 0) (K (J3 0) (J (J3 0)) .leaf) (J (J3 0)))) (K (J3 0) (K (J3 0) (K (J3 0) (J (J3 0)) .leaf) (J (J3 0))) (K (J3 0) (J (J3 0)) (J (J3 0)))))) (K (J3 0) (K (J3 0) (K (J3 0) (K (J3 0) (K (J3 0) (J (J3 0)) .leaf) (J (J3 0))) (K (J3 0) (K (J3 0) (J (J3 0)) .leaf) (J (J3 0)))) (K (J3 0) (K (J3 0) (K (J3 0) (J (J3 0)) .leaf) (J (J3 0))) (K (J3 0) (J (J3 0)) (J (J3 0))))) (K (J3 0) (K (J3 0) (K (J3 0) (K (J3 0) (J (J3 0)) .leaf) (J (J3 0))) (K (J3 0) (K (J3 0) (J (J3 0)) .leaf) (J (J3 0)))) (K (J3 0) (K (J3 0) (K (J3 0) (J (J3 0)) .leaf) (J (J3 0))) (K (J3 0) (J (J3 0)) (J (J3 0))))))) (K (J3 0) (K (J3 0) (K (J3 0) (K (J3 0) (K (J3 0) (K (J3 0) (J (J3 0)) .leaf) (J (J3 0))) (K (J3 0) (K (J3 0) (J (J3 0)) .leaf) (J (J3 0)))) (K (J3 0) (K (J3 0) (K (J3 0) (J (J3 0)) .leaf) (J (J3 0))) (K (J3 0) (J (J3 0)) (J (J3 0))))) (K (J3 0) (K (J3 0) (K (J3 0) (K (J3 0) (J (J3 0)) .leaf) (J (J3 0))) (K (J3 0) (K (J3 0) (J (J3 0)) .leaf) (J (J3 0)))) (K (J3 0) (K (J3 0) (K (J3 0) (J (J3 0)) .leaf) (J (J3 0))) (K (J3 0) (J (J3 0)) (J (J3 0)))))) (K (J3 0) (K (J3 0) (K (J3 0) (K (J3 0) (K (J3 0) (J (J3 0)) .leaf) (J (J3 0))) (K (J3 0) (K (J3 0) (J (J3 0)) .leaf) (J (J3 0)))) (K (J3 0) (K (J3 0) (K (J3 0) (J (J3 0)) .leaf) (J (J3 0))) (K (J3 0) (J (J3 0)) (J (J3 0))))) (K (J3 0) (K (J3 0) (K (J3 0) (K (J3 0) (J (J3 0)) .leaf) (J (J3 0))) (K (J3 0) (K (J3 0) (J (J3 0)) .leaf) (J (J3 0)))) (K (J3 0) (K (J3 0) (K (J3 0) (J (J3 0)) .leaf) (J (J3 0))) (K (J3 0) (J (J3 0)) (J (J3 0))))))))) 306 0
def ob70 : AObj := .cells (K (Jp 348 0) (K (.func (.func 333) ⟨[(Jp 349 0)]⟩ ⟨[]⟩) (K (J3 0) (K (J3 0) (J (J3 0)) (J (J3 0))) (K (J3 0) (J (J3 0)) (J (J3 0)))) (K (J3 0) (K (J3 0) (J (J3 0)) (J (.slice none 0 0))) (K (J3 0) (J (J3 0)) (J (.bool false))))) (K (J3 0) (K (J3 0) (K (J3 0) (J (J3 0)) (J (J3 0))) (K (J3 0) (J (J3 0)) (J (J3 0)))) (K (J3 0) (K (J3 0) (J (J3 0)) (J (J3 0))) (K (J3 0) (J (J3 0)) (J (.bool false)))))) 31 0
def ob71 : AObj := .cells (K (J3 288) (K (J3 0) (K (J3 0) (K (J3 0) (K (J3 0) (K (J3 0) (K (J3 0) (K (J3 0) (J (J3 0)) .leaf) (J (J3 0))) (K (J3 0) (K (J3 0) (J (J3 0)) .leaf) (J (J3 0)))) (K (J3 0) (K (J3 0) (K (J3 0) (J (J3 0)) .leaf) (J (J3 0))) (K (J3 0) (K (J3 0) (J (J3 0)) .leaf) (J (J3 0))))) (K (J3 0) (K (J3 0) (K (J3 0) (K (J3 0) (J (J3 0)) .leaf) (J (J3 0))) (K (J3 0) (K (J3 0) (J (J3 0)) .leaf) (J (J3 0)))) (K (J3 0) (K (J3 0) (K (J3 0) (J (J3 0)) .leaf) (J (J3 0))) (K (J3 0) (J (J3 0)) (J (J3 0)))))) (K (J3 0) (K (J3 0) (K (J3 0) (K (J3 0) (K (J3 0) (J (J3 0)) .leaf) (J (J3 0))) (K (J3 0) (K (J3 0) (J (J3 0)) .leaf) (J (J3 0)))) (K (J3 0) (K (J3 0) (K (J3 0) (J (J3 0)) .leaf) (J (J3 0))) (K (J3 0) (J (J3 0)) (J (J3 0))))) (K (J3 0) (K (J3 0) (K (J3 0) (K (J3 0) (J (J3 0)) .leaf) (J (J3 0))) (K (J3 0) (K (J3 0) (J (J3 0)) .leaf) (J (J3 0)))) (K (J3 0) (K (J3 0) (K (J3 0) (J (J3 0)) .leaf) (J (J3 0))) (K (J3 0) (J (J3 0)) (J (J3 0))))))) (K (J3 0) (K (J3 0) (K (J3 0) (K (J3 0) (K (J3 0) (K (J3 0) (J (J3 0)) .leaf) (J (J3 0))) (K (J3 0) (K (J3 0) (J (J3 0)) .leaf) (J (J3 0)))) (K (J3 0) (K (J3 0) (K (J3 0) (J (J3 0)) .leaf) (J (J3 0))) (K (J3 0) (K (J3 0) (J (J3 0)) .leaf) (J (J3 0))))) (K (J3 0) (K (J3 0) (K (J3 0) (K (J3 0) (J (J3 0)) .leaf) (J (J3 0))) (K (J3 0) (K (J3 0) (J (J3 0)) .leaf) (J (J3 0)))) (K (J3 0) (K (J3 0) (K (J3 0) (J (J3 0)) .leaf) (J (J3 0))) (K (J3 0) (J (J3 0)) (J (J3 0)))))) (K (J3 0) (K (J3 0) (K (J3 0) (K (J3 0) (K (J3 0) (J (J3 0)) .leaf) (J (J3 0))) (K (J3 0) (K (J3 0) (J (J3 0)) .leaf) (J (J3 0)))) (K (J3 0) (K (J3 0) (K (J3 0) (J (J3 0)) .leaf) (J (J3 0))) (K (J3 0) (J (J3 0)) (J (J3 0))))) (K (J3 0) (K (J3 0) (K (J3 0) (K (J3 0) (J (J3 0)) .leaf) (J (J3 0))) (K (J3 0) (K (J3 0) (J (J3 0)) .leaf) (J (J3 0)))) (K (J3 0) (K (J3 0) (K (J3 0) (J (J3 0)) .leaf) (J (J3 0))) (K (J3 0) (J (J3 0)) (J (J3 0)))))))) (K (J3 0) (K (J3 0) (K (J3 0) (K (J3 0) (K (J3 0) (K (J3 0) (K (J3 0) (J (J3 0)) .leaf) (J (J3 0))) (K (J3 0) (K (J3 0) (J (J3 0)) .leaf) (J (J3 0)))) (K (J3 0) (K (J3 0) (K (J3 0) (J (J3 0)) .leaf) (J (J3 0))) (K (J3 0) (K (J3 0) (J (J3 0)) .leaf) (J (J3 0))))) (K (J3 0) (K (J3 0) (K (J3 0) (K (J3 0) (J (J3 0)) .leaf) (J (J3 0))) (K (J3 0) (K (J3 0) (J (J3 0)) .leaf) (J (J3 0)))) (K (J3 0) (K (J3 0) (K (J3 0) (J (J3 0)) .leaf) (J (J3 0))) (K (J3 0) (J (J3 0)) (J (J3 0)))))) (K (J3 0) (K (J3 0) (K (J3 0) (K (J3 0) (K (J3 0) (J (J3 0)) .leaf) (J (J3 0))) (K (J3 0) (K (J3 0) (J (J3 0)) .leaf) (J (J3 0)))) (K (J3 0) (K (J3 0) (K (J3 0) (J (J3 0)) .leaf) (J (J3 0))) (K (J3 0) (J (J3 0)) (J (J3 0))))) (K (J3 0) (K (J3 0) (K (J3 0) (K (J3 0) (J (J3 0)) .leaf) (J (J3 0))) (K (J3 0) (K (J3 0) (J (J3 0)) .leaf) (J (J3 0)))) (K (J3 0) (K (J3 0) (K (J3 0) (J (J3 0)) .leaf) (J (J3 0))) (K (J3 0) (J (J3 0)) (J (J3 0))))))) (K (J3 0) (K (J3 0) (K (J3 0) (K (J3 0) (K (J3 0) (K (J3 0) (J (J3 0)) .leaf) (J (J3 0))) (K (J3 0) (K (J3 0) (J (J3 0)) .leaf) (J (J3 0)))) (K (J3 0) (K (J3 0) (K (J3 0) (J (J3 0)) .leaf) (J (J3 0))) (K (J3 0) (J (J3 0)) (J (J3 0))))) (K (J3 0) (K (J3 0) (K (J3 0) (K (J3 0) (J (J3 0)) .leaf) (J (J3 0))) (K (J3 0) (K (J3 0) (J (J3 0)) .leaf) (J (J3 0)))) (K (J3 0) (K (J3 0) (K (J3 0) (J (J3 0)) .leaf) (J (J3 0))) (K (J3 0) (J (J3 0)) (J (J3 0)))))) (K (J3 0) (K (J3 0) (K (J3 0) (K (J3 0) (K (J3 0) (J (J3 0)) .leaf) (J (J3 0))) (K (J3 0) (K (J3 0) (J (J3 0)) .leaf) (J (J3 0)))) (K (J3 0) (K (J3 0) (K (J3 0) (J (J3 0)) .leaf) (J (J3 0))) (K (J3 0) (J (J3 0)) (J (J3 0))))) (K (J3 0) (K (J3 0) (K (J3 0) (K (J3 0) (J (J3 0)) .leaf) (J (J3 0))) (K (J3 0) (K (J3 0) (J (J3 0)) .leaf) (J (J3 0)))) (K (J3 0) (K (J3 0) (K (J3 0) (J (J3 0)) .leaf) (J (J3 0))) (K (J3 0) (J (J3 0)) (J (J3 0))))))))) 306 0
def ob72 : AObj := .cells (K (J4 0) (K (J4 0) (K (J4 0) (K (J4 0) (K (J4 0) (K (J4 0) (J (J4 0)) (J (J4 0))) (K (J4 0) (J (J4 0)) .leaf)) (K (J4 0) (K (J4 0) (J (J4 0)) .leaf) (K (J4 0) (J (J4 0)) .leaf))) (K (J4 0) (K (J4 0) (K (J4 0) (J (J4 0)) (J (J4 0))) (K (J4 0) (J (J4 0)) .leaf)) (K (J4 0) (K (J4 0) (J (J4 0)) .leaf) (K (J4 0) (J (J4 0)) .leaf)))) (K (J4 0) (K (J4 0) (K (J4 0) (K (J4 0) (J (J4 0)) (J (J4 0))) (K (J4 0) (J (J4 0)) .leaf)) (K (J4 0) (K (J4 0) (J (J4 0)) .leaf) (K (J4 0) (J (J4 0)) .leaf))) (K (J4 0) (K (J4 0) (K (J4 0) (J (J4 0)) .leaf) (K (J4 0) (J (J4 0)) .leaf)) (K (J4 0) (K (J4 0) (J (J4 0)) .leaf) (K (J4 0) (J (J4 0)) .leaf))))) (K (J4 0) (K (J4 0) (K (J4 0) (K (J4 0) (K (J4 0) (J (J4 0)) (J (J4 0))) (K (J4 0) (J (J4 0)) .leaf)) (K (J4 0) (K (J4 0) (J (J4 0)) .leaf) (K (J4 0) (J (J4 0)) .leaf))) (K (J4 0) (K (J4 0) (K (J4 0) (J (J4 0)) .leaf) (K (J4 0) (J (J4 0)) .leaf)) (K (J4 0) (K (J4 0) (J (J4 0)) .leaf) (K (J4 0) (J (J4 0)) .leaf)))) (K (J4 0) (K (J4 0) (K (J4 0) (K (J4 0) (J (J4 0)) (J (J4 0))) (K (J4 0) (J (J4 0)) .leaf)) (K (J4 0) (K (J4 0) (J (J4 0)) .leaf) (K (J4 0) (J (J4 0)) .leaf))) (K (J4 0) (K (J4 0) (K (J4 0) (J (J4 0)) .leaf) (K (J4 0) (J (J4 0)) .leaf)) (K (J4 0) (K (J4 0) (J (J4 0)) .leaf) (K (J4 0) (J (J4 0)) .leaf)))))) 100 0
def ob73 : AObj := .cells (K (J3 19) (K (J3 0) (K (J3 0) (K (J3 0) (K (J3 0) (K (J3 0) (K (J3 0) (K (J3 0) (J (J3 0)) .leaf) (J (J3 0))) (K (J3 0) (K (J3 0) (J (J3 0)) .leaf) (J (J3 0)))) (K (J3 0) (K (J3 0) (K (J3 0) (J (J3 0)) .leaf) (J (J3 0))) (K (J3 0) (K (J3 0) (J (J3 0)) .leaf) (J (J3 0))))) (K (J3 0) (K (J3 0) (K (J3 0) (K (J3 0) (J (J3 0)) .leaf) (J (J3 0))) (K (J3 0) (K (J3 0) (J (J3 0)) .leaf) (J (J3 0)))) (K (J3 0) (K (J3 0) (K (J3 0) (J (J3 0)) .leaf) (J (J3 0))) (K (J3 0) (J (J3 0)) (J (J3 0)))))) (K (J3 0) (K (J3 0) (K (J3 0) (K (J3 0) (K (J3 0) (J (J3 0)) .leaf) (J (J3 0))) (K (J3 0) (K (J3 0) (J (J3 0)) .leaf) (J (J3 0)))) (K (J3 0) (K (J3 0) (K (J3 0) (J (J3 0)) .leaf) (J (J3 0))) (K (J3 0) (J (J3 0)) (J (J3 0))))) (K (J3 0) (K (J3 0) (K (J3 0) (K (J3 0) (J (J3 0)) .leaf) (J (J3 0))) (K (J3 0) (K (J3 0) (J (J3 0)) .leaf) (J (J3 0)))) (K (J3 0) (K (J3 0) (K (J3 0) (J (J3 0)) .leaf) (J (J3 0))) (K (J3 0) (J (J3 0)) (J (J3 0))))))) (K (J3 0) (K (J3 0) (K (J3 0) (K (J3 0) (K (J3 0) (K (J3 0) (J (J3 0)) .leaf) (J (J3 0))) (K (J3 0) (K (J3 0) (J (J3 0)) .leaf) (J (J3 0)))) (K (J3 0) (K (J3 0) (K (J3 0) (J (J3 0)) .leaf) (J (J3 0))) (K (J3 0) (K (J3 0) (J (J3 0)) .leaf) (J (J3 0))))) (K (J3 0) (K (J3 0) (K (J3 0) (K (J3 0) (J (J3 0)) .leaf) (J (J3 0))) (K (J3 0) (K (J3 0) (J (J3 0)) .leaf) (J (J3 0)))) (K (J3 0) (K (J3 0) (K (J3 0) (J (J3 0)) .leaf) (J (J3 0))) (K (J3 0) (J (J3 0)) (J (J3 0)))))) (K (J3 0) (K (J3 0) (K (J3 0) (K (J3 0) (K (J3 0) (J (J3 0)) .leaf) (J (J3 0))) (K (J3 0) (K (J3 0) (J (J3 0)) .leaf) (J (J3 0)))) (K (J3 0) (K (J3 0) (K (J3 0) (J (J3 0)) .leaf) (J (J3 0))) (K (J3 0) (J (J3 0)) (J (J3 0))))) (K (J3 0) (K (J3 0) (K (J3 0) (K (J3 0) (J (J3 0)) .leaf) (J (J3 0))) (K (J3 0) (K (J3 0) (J (J3 0)) .leaf) (J (J3 0)))) (K (J3 0) (K (J3 0) (K (J3 0) (J (J3 0)) .leaf) (J (J3 0))) (K (J3 0) (J (J3 0)) (J (J3 0)))))))) (K (J3 0) (K (J3 0) (K (J3 0) (K (J3 0) (K (J3 0) (K (J3 0) (K (J3 0) (J (J3 0)) .leaf) (J (J3 0))) (K (J3 0) (K (J3 0) (J (J3 0)) .leaf) (J (J3 0)))) (K (J3 0) (K (J3 0) (K (J3 0) (J (J3 0)) .leaf) (J (J3 0))) (K (J3 0) (K (J3 0) (J (J3 0)) .leaf) (J (J3 0))))) (K (J3 0) (K (J3 0) (K (J3 0) (K (J3 0) (J (J3 0)) .leaf) (J (J3 0))) (K (J3 0) (K (J3 0) (J (J3 0)) .leaf) (J (J3 0)))) (K (J3 0) (K (J3 0) (K (J3 0) (J (J3 0)) .leaf) (J (J3 0))) (K (J3 0) (J (J3 0)) (J (J3 0)))))) (K (J3 0) (K (J3 0) (K (J3 0) (K (J3 0) (K (J3 0) (J (J3 0)) .leaf) (J (J3 0))) (K (J3 0) (K (J3 0) (J (J3 0)) .leaf) (J (J3 0)))) (K (J3 0) (K (J3 0) (K (J3 0) (J (J3 0)) .leaf) (J (J3 0))) (K (J3 0) (J (J3 0)) (J (J3 0))))) (K (J3 0) (K (J3 0) (K (J3 0) (K (J3 0) (J (J3 0)) .leaf) (J (J3 0))) (K (J3 0) (K (J3 0) (J (J3 0)) .leaf) (J (J3 0)))) (K (J3 0) (K (J3 0) (K (J3 0) (J (J3 0)) .leaf) (J (J3 0))) (K (J3 0) (J (J3 0)) (J (J3 0))))))) (K (J3 0) (K (J3 0) (K (J3 0) (K (J3 0) (K (J3 0) (K (J3 0) (J (J3 0)) .leaf) (J (J3 0))) (K (J3 0) (K (J3 0) (J (J3 0)) .leaf) (J (J3 0)))) (K (J3 0) (K (J3 0) (K (J3 0) (J (J3 0)) .leaf) (J (J3 0))) (K (J3 0) (J (J3 0)) (J (J3 0))))) (K (J3 0) (K (J3 0) (K (J3 0) (K (J3 0) (J (J3 0)) .leaf) (J (J3 0))) (K (J3 0) (K (J3 0) (J (J3 0)) .leaf) (J (J3 0)))) (K (J3 0) (K (J3 0) (K (J3 0) (J (J3 0)) .leaf) (J (J3 0))) (K (J3 0) (J (J3 0)) (J (J3 0)))))) (K (J3 0) (K (J3 0) (K (J3 0) (K (J3 0) (K (J3 0) (J (J3 0)) .leaf) (J (J3 0))) (K (J3 0) (K (J3 0) (J (J3 0)) .leaf) (J (J3 0)))) (K (J3 0) (K (J3 0) (K (J3 0) (J (J3 0)) .leaf) (J (J3 0))) (K (J3 0) (J (J3 0)) (J (J3 0))))) (K (J3 0) (K (J3 0) (K (J3 0) (K (J3 0) (J (J3 0)) .leaf) (J (J3 0))) (K (J3 0) (K (J3 0) (J (J3 0)) .leaf) (J (J3 0)))) (K (J3 0) (K (J3 0) (K (J3 0) (J (J3 0)) .leaf) (J (J3 0))) (K (J3 0) (J (J3 0)) (J (J3 0))))))))) 306 0
def a63 : List Value := [(Jp 0 0), (.agg ⟨[(J3 6), (.string ⟨#[98, 101, 103, 105, 110]⟩), (.slice none 0 0), (Js 1 0 2 4611686018427387905), (.slice none 0 0)]⟩)]
def b63 : List (Nat × Bool × AObj) := [(0, true, (.cells (K (.map (some 2)) (J (.map (some 3))) (J (Jp 4 0))) 3 0)),
  (1, false, (.cells (K (J3 64) (J (J3 100)) .leaf) 2 7)),
  (2, true, (.map [((.string ⟨#[97]⟩), (Js 5 0 3 4611686018427387905)), ((.string ⟨#[98]⟩), (Js 6 0 4 4611686018427387905))] [0, 1] 2)),
  (3, true, (.map [((.string ⟨#[112]⟩), (Js 7 0 43 4611686018427387905))] [0] 1)),
  (4, true, (.cells (K (Jp 8 0) (K (J3 1) (J (J3 1)) (J (J6 1063113957))) (K (J3 0) (J (J3 3)) (J (.pointer none)))) 7 0)),
  (5, false, (.cells (K (J4 111) (J (J4 108)) (J (J4 100))) 3 11)),
  (6, false, (.cells (K (J4 110) (K (J4 101) (J (J4 33)) .leaf) (J (J4 119))) 4 11)),
  (7, false, ob52),
  (8, true, ob57),
  (9, true, (.map [((.agg ⟨[(J3 2), (J3 0)]⟩), (Jp 14 0)), ((.agg ⟨[(J3 2), (J3 1)]⟩), (Jp 15 0)), ((.agg ⟨[(J3 0), (J3 0)]⟩), (Jp 16 0))] [0, 1, 2] 3)),
  (10, false, (.cells .leaf 0 0)),
  (11, false, (.cells (K (J4 111) (J (J4 108)) (J (J4 100))) 3 0)),
  (12, false, (.cells (K (J3 1) (K (J3 2) (J (J3 2)) (J (J3 0))) (K (J3 0) (J (J3 2)) .leaf)) 6 913)),
  (13, false, (.map [((.agg ⟨[(J3 2), (J3 0)]⟩), (J3 1))] [0] 1)),
  (14, true, (.cells (K (Js 17 0 64 64) (J (.bool false)) .leaf) 2 0)),
  (15, true, (.cells (K (Js 18 0 64 64) (J (.bool true)) .leaf) 2 0)),
  (16, true, (.cells (K (Js 19 0 64 64) (J (.bool false)) .leaf) 2 0)),
  (17, false, ob56),
  (18, false, ob54),
  (19, false, ob58)]
def c63 : Value := (.string ⟨#[111, 107]⟩)
def d63 : OL := [(4, (.cells (K (Jp 8 0) (K (J3 2) (J (J3 1)) (J (J6 1063113957))) (K (J3 0) (J (J3 3)) (J (Jp 356 0)))) 7 0)),
  (356, ob65),
  (354, (.cells (K (J2 0) (K (J6 0) (J (J3 4639)) .leaf) (J (.map (some 353)))) 4 0)),
  (355, ob66),
  (362, ob53),
  (345, (.cells (K (Jp 8 0) (K (J3 1) (K (Js 340 0 64 64) (J (.bool false)) .leaf) (J (J3 0))) (K (J3 128) (K (J3 0) (J (J3 0)) .leaf) (J (J3 0)))) 9 0)),
  (350, ob67),
  (360, ob68),
  (364, ob53),
  (353, ob64),
  (340, ob53),
  (347, (.cells (K (Js 346 0 100 100) (J (J3 0)) (J (J3 0))) 3 0)),
  (352, ob69),
  (349, ob70),
  (351, ob71),
  (346, ob72),
  (348, ob73)]
theorem r63 : chkRun (denF envT (den envT (tabS tel63) 1000000 60) (xdraw envT (den envT (tabS tel63) 1000000 60)) 1000000 14 a63 (ofL (bare b63) 20)) (bare b63) 20 c63 d63 775 = true := by kernel_rfl
noncomputable def tel64 : PT Fun := addT tel63 14 (memo a63 b63 20 c63 d63 775)
theorem tel64_ok : TabOK Tryz.prog envT tel64 := tel63_ok.add (memo_ok (run_of_den envT_ok (tabS_sound envT_ok tel63_ok) r63)) (fnS (by kernel_rfl))
def ob74 : AObj := .cells (K (J3 64) (K (J3 2) (K (.map (some 4)) (J (J3 0)) (J (J3 0))) (K (Js 5 0 0 0) (J (.bool false)) .leaf)) (K (J3 0) (K (Js 6 0 3 3) (J (.slice none 0 0)) .leaf) (K (Js 7 0 2 4611686018427387907) (J (.map (some 8))) .leaf))) 12 0
def ob75 : AObj := .cells (K (Jp 9 0) (K (Jp 2 0) (K (Jp 10 0) (K (J3 100) (J (J3 0)) (J (J3 0))) (K (J6 0) (J (J3 0)) (J (J3 0)))) (K (J3 0) (K (J3 0) (J (J3 0)) (J (Js 11 0 0 64))) (K (J3 0) (J (J3 0)) (J (J3 0))))) (K (Jp 12 0) (K (Jp 13 0) (K (J3 0) (J (J3 0)) (J (Js 14 0 0 384))) (K (J3 0) (J (J3 0)) (J (J6 0)))) (K (J3 64) (K (J6 0) (J (J3 0)) (J (Js 15 0 0 64))) (K (.bool false) (J (J3 0)) (J (.bool false)))))) 31 0
def ob76 : AObj := .cells (K (Jp 21 0) (K (J3 100) (K (J7 0) (K (Jp 22 0) (J (J3 0)) .leaf) (J (J3 0))) (K (J3 0) (K (J3 0) (J (.slice none 0 0)) .leaf) (J (J3 0)))) (K (J3 0) (K (J3 0) (K (Jp 23 0) (J (J3 0)) .leaf) (J (J3 0))) (K (Jp 24 0) (J (.bool false)) (J (J3 0))))) 18 0
def ob77 : AObj := .cells (K (Jp 29 0) (K (.func (.func 333) ⟨[(Jp 23 0)]⟩ ⟨[]⟩) (K (J3 0) (K (J3 0) (J (J3 0)) (J (J3 0))) (K (J3 0) (J (J3 0)) (J (J3 0)))) (K (J3 0) (K (J3 0) (J (J3 0)) (J (.slice none 0 0))) (K (J3 0) (J (J3 0)) (J (.bool false))))) (K (J3 0) (K (J3 0) (K (J3 0) (J (J3 0)) (J (J3 0))) (K (J3 0) (J (J3 0)) (J (J3 0)))) (K (J3 0) (K (J3 0) (J (J3 0)) (J (J3 0))) (K (J3 0) (J (J3 0)) (J (.bool false)))))) 31 0
def ob78 : AObj := .cells (K (J6 152001710) (K (J6 0) (K (J3 0) (K (J3 0) (K (.bool true) (J (J3 0)) .leaf) (J (J3 0))) (K (J3 0) (K (J3 0) (J (.bool false)) .leaf) (J (J3 0)))) (K (J3 0) (K (J6 0) (K (J3 0) (J (J3 0)) .leaf) (J (J3 0))) (K (J3 0) (J (J3 0)) (J (J3 0))))) (K (J7 0) (K (J7 0) (K (J6 0) (K (J3 1) (J (J3 0)) .leaf) (J (J3 0))) (K (.bool false) (K (J3 0) (J (J3 0)) .leaf) (J (J3 0)))) (K (J3 0) (K (J3 0) (K (J3 0) (J (J3 0)) .leaf) (J (J3 0))) (K (J3 5) (J (J3 0)) (J (J3 0)))))) 37 0
def a64 : List Value := [(Jp 0 0), (Js 1 0 5 4611686018427387905)]
def b64 : List (Nat × Bool × AObj) := [(0, true, (.cells (K (Jp 2 0) (K (J3 2) (J (J3 1)) (J (J6 1063113957))) (K (J3 0) (J (J3 3)) (J (Jp 3 0)))) 7 0)),
  (1, false, ob52),
  (2, true, ob74),
  (3, true, ob75),
  (4, true, (.map [((.agg ⟨[(J3 2), (J3 0)]⟩), (Jp 16 0)), ((.agg ⟨[(J3 2), (J3 1)]⟩), (Jp 17 0)), ((.agg ⟨[(J3 0), (J3 0)]⟩), (Jp 18 0))] [0, 1, 2] 3)),
  (5, false, (.cells .leaf 0 0)),
  (6, false, (.cells (K (J4 111) (J (J4 108)) (J (J4 100))) 3 0)),
  (7, false, (.cells (K (J3 1) (K (J3 2) (J (J3 2)) (J (J3 0))) (K (J3 0) (J (J3 2)) .leaf)) 6 913)),
  (8, false, (.map [((.agg ⟨[(J3 2), (J3 0)]⟩), (J3 1))] [0] 1)),
  (9, true, (.cells (K (J2 0) (K (J6 0) (J (J3 4639)) .leaf) (J (.map (some 19)))) 4 0)),
  (10, false, ob66),
  (11, false, ob53),
  (12, true, (.cells (K (Jp 2 0) (K (J3 1) (K (Js 20 0 64 64) (J (.bool false)) .leaf) (J (J3 0))) (K (J3 128) (K (J3 0) (J (J3 0)) .leaf) (J (J3 0)))) 9 0)),
  (13, true, ob76),
  (14, false, ob68),
  (15, false, ob53),
  (16, true, (.cells (K (Js 25 0 64 64) (J (.bool false)) .leaf) 2 0)),
  (17, true, (.cells (K (Js 26 0 64 64) (J (.bool true)) .leaf) 2 0)),
  (18, true, (.cells (K (Js 27 0 64 64) (J (.bool false)) .leaf) 2 0)),
  (19, false, ob64),
  (20, false, ob53),
  (21, true, (.cells (K (Js 28 0 100 100) (J (J3 0)) (J (J3 0))) 3 0)),
  (22, false, ob69),
  (23, true, ob77),
  (24, false, ob71),
  (25, false, ob56),
  (26, false, ob54),
  (27, false, ob58),
  (28, false, ob72),
  (29, false, ob73)]
def c64 : Value := (J3 0)
def d64 : OL := [(10, ob78)]
theorem r64 : chkRun (denF envT (den envT (tabS tel64) 1000000 60) (xdraw envT (den envT (tabS tel64) 1000000 60)) 1000000 73 a64 (ofL (bare b64) 30)) (bare b64) 30 c64 d64 140 = true := by kernel_rfl
noncomputable def tel65 : PT Fun := addT tel64 73 (memo a64 b64 30 c64 d64 140)
theorem tel65_ok : TabOK Tryz.prog envT tel65 := tel64_ok.add (memo_ok (run_of_den envT_ok (tabS_sound envT_ok tel64_ok) r64)) (fnS (by kernel_rfl))
def ob79 : AObj := .cells (K (J6 1004094103) (K (J6 3087544291) (K (J3 0) (K (J3 4) (K (.bool true) (J (J3 0)) .leaf) (J (J3 0))) (K (J3 100) (K (J3 64) (J (.bool false)) .leaf) (J (J3 0)))) (K (J3 1) (K (J6 0) (K (J3 3) (J (J3 0)) .leaf) (J (J3 0))) (K (J3 0) (J (J3 0)) (J (J3 0))))) (K (J7 0) (K (J7 229) (K (J6 0) (K (J3 2) (J (J3 0)) .leaf) (J (J3 0))) (K (.bool false) (K (J3 100) (J (J3 0)) .leaf) (J (J3 0)))) (K (J3 3) (K (J3 64) (K (J3 4) (J (J3 0)) .leaf) (J (J3 0))) (K (J3 10) (J (J3 0)) (J (J3 0)))))) 37 0
def a65 : List Value := [(Jp 0 0), (Js 1 5 5 4611686018427387905)]
def b65 : List (Nat × Bool × AObj) := [(0, true, (.cells (K (Jp 2 0) (K (J3 2) (J (J3 1)) (J (J6 1063113957))) (K (J3 0) (J (J3 3)) (J (Jp 3 0)))) 7 0)),
  (1, false, ob52),
  (2, true, ob74),
  (3, true, ob75),
  (4, true, (.map [((.agg ⟨[(J3 2), (J3 0)]⟩), (Jp 16 0)), ((.agg ⟨[(J3 2), (J3 1)]⟩), (Jp 17 0)), ((.agg ⟨[(J3 0), (J3 0)]⟩), (Jp 18 0))] [0, 1, 2] 3)),
  (5, false, (.cells .leaf 0 0)),
  (6, false, (.cells (K (J4 111) (J (J4 108)) (J (J4 100))) 3 0)),
  (7, false, (.cells (K (J3 1) (K (J3 2) (J (J3 2)) (J (J3 0))) (K (J3 0) (J (J3 2)) .leaf)) 6 913)),
  (8, false, (.map [((.agg ⟨[(J3 2), (J3 0)]⟩), (J3 1))] [0] 1)),
  (9, true, (.cells (K (J2 0) (K (J6 0) (J (J3 4639)) .leaf) (J (.map (some 19)))) 4 0)),
  (10, false, ob78),
  (11, false, ob53),
  (12, true, (.cells (K (Jp 2 0) (K (J3 1) (K (Js 20 0 64 64) (J (.bool false)) .leaf) (J (J3 0))) (K (J3 128) (K (J3 0) (J (J3 0)) .leaf) (J (J3 0)))) 9 0)),
  (13, true, ob76),
  (14, false, ob68),
  (15, false, ob53),
  (16, true, (.cells (K (Js 25 0 64 64) (J (.bool false)) .leaf) 2 0)),
  (17, true, (.cells (K (Js 26 0 64 64) (J (.bool true)) .leaf) 2 0)),
  (18, true, (.cells (K (Js 27 0 64 64) (J (.bool false)) .leaf) 2 0)),
  (19, false, ob64),
  (20, false, ob53),
  (21, true, (.cells (K (Js 28 0 100 100) (J (J3 0)) (J (J3 0))) 3 0)),
  (22, false, ob69),
  (23, true, ob77),
  (24, false, ob71),
  (25, false, ob56),
  (26, false, ob54),
  (27, false, ob58),
  (28, false, ob72),
  (29, false, ob73)]
def c65 : Value := (J3 0)
def d65 : OL := [(10, ob79)]
theorem r65 : chkRun (denF envT (den envT (tabS tel65) 1000000 60) (xdraw envT (den envT (tabS tel65) 1000000 60)) 1000000 73 a65 (ofL (bare b65) 30)) (bare b65) 30 c65 d65 218 = true := by kernel_rfl
noncomputable def tel66 : PT Fun := addT tel65 73 (memo a65 b65 30 c65 d65 218)
theorem tel66_ok : TabOK Tryz.prog envT tel66 := tel65_ok.add (memo_ok (run_of_den envT_ok (tabS_sound envT_ok tel65_ok) r65)) (fnS (by kernel_rfl))
def ob80 : AObj := .cells (K (J6 478599272) (K (J6 3087544291) (K (J3 0) (K (J3 4) (K (.bool true) (J (J3 0)) .leaf) (J (J3 0))) (K (J3 100) (K (J3 64) (J (.bool false)) .leaf) (J (J3 0)))) (K (J3 6) (K (J6 0) (K (J3 3) (J (J3 0)) .leaf) (J (J3 0))) (K (J3 0) (J (J3 0)) (J (J3 0))))) (K (J7 0) (K (J7 186402643760357) (K (J6 0) (K (J3 2) (J (J3 0)) .leaf) (J (J3 0))) (K (.bool false) (K (J3 100) (J (J3 0)) .leaf) (J (J3 0)))) (K (J3 3) (K (J3 64) (K (J3 4) (J (J3 0)) .leaf) (J (J3 0))) (K (J3 15) (J (J3 0)) (J (J3 0)))))) 37 0
def a66 : List Value := [(Jp 0 0), (Js 1 10 5 4611686018427387905)]
def b66 : List (Nat × Bool × AObj) := [(0, true, (.cells (K (Jp 2 0) (K (J3 2) (J (J3 1)) (J (J6 1063113957))) (K (J3 0) (J (J3 3)) (J (Jp 3 0)))) 7 0)),
  (1, false, ob52),
  (2, true, ob74),
  (3, true, ob75),
  (4, true, (.map [((.agg ⟨[(J3 2), (J3 0)]⟩), (Jp 16 0)), ((.agg ⟨[(J3 2), (J3 1)]⟩), (Jp 17 0)), ((.agg ⟨[(J3 0), (J3 0)]⟩), (Jp 18 0))] [0, 1, 2] 3)),
  (5, false, (.cells .leaf 0 0)),
  (6, false, (.cells (K (J4 111) (J (J4 108)) (J (J4 100))) 3 0)),
  (7, false, (.cells (K (J3 1) (K (J3 2) (J (J3 2)) (J (J3 0))) (K (J3 0) (J (J3 2)) .leaf)) 6 913)),
  (8, false, (.map [((.agg ⟨[(J3 2), (J3 0)]⟩), (J3 1))] [0] 1)),
  (9, true, (.cells (K (J2 0) (K (J6 0) (J (J3 4639)) .leaf) (J (.map (some 19)))) 4 0)),
  (10, false, ob79),
  (11, false, ob53),
  (12, true, (.cells (K (Jp 2 0) (K (J3 1) (K (Js 20 0 64 64) (J (.bool false)) .leaf) (J (J3 0))) (K (J3 128) (K (J3 0) (J (J3 0)) .leaf) (J (J3 0)))) 9 0)),
  (13, true, ob76),
  (14, false, ob68),
  (15, false, ob53),
  (16, true, (.cells (K (Js 25 0 64 64) (J (.bool false)) .leaf) 2 0)),
  (17, true, (.cells (K (Js 26 0 64 64) (J (.bool true)) .leaf) 2 0)),
  (18, true, (.cells (K (Js 27 0 64 64) (J (.bool false)) .leaf) 2 0)),
  (19, false, ob64),
  (20, false, ob53),
  (21, true, (.cells (K (Js 28 0 100 100) (J (J3 0)) (J (J3 0))) 3 0)),
  (22, false, ob69),
  (23, true, ob77),
  (24, false, ob71),
  (25, false, ob56),
  (26, false, ob54),
  (27, false, ob58),
  (28, false, ob72),
  (29, false, ob73)]
def c66 : Value := (J3 0)
def d66 : OL := [(10, ob80)]
theorem r66 : chkRun (denF envT (den envT (tabS tel66) 1000000 60) (xdraw envT (den envT (tabS tel66) 1000000 60)) 1000000 73 a66 (ofL (bare b66) 30)) (bare b66) 30 c66 d66 140 = true := by kernel_rfl
noncomputable def tel67 : PT Fun := addT tel66 73 (memo a66 b66 30 c66 d66 140)
theorem tel67_ok : TabOK Tryz.prog envT tel67 := tel66_ok.add (memo_ok (run_of_den envT_ok (tabS_sound envT_ok tel66_ok) r66)) (fnS (by kernel_rfl))
def ob81 : AObj := .cells (K (J6 4282505530) (K (J6 683583352) (K (J3 0) (K (J3 4) (K (.bool true) (J (J3 0)) .leaf) (J (J3 0))) (K (J3 100) (K (J3 64) (J (.bool false)) .leaf) (J (J3 0)))) (K (J3 3) (K (J6 2562107784) (K (J3 3) (J (J3 0)) .leaf) (J (J3 0))) (K (J3 0) (J (J3 0)) (J (J3 0))))) (K (J7 0) (K (J7 12494712) (K (J6 1063113957) (K (J3 3) (J (J3 0)) .leaf) (J (J3 0))) (K (.bool false) (K (J3 100) (J (J3 0)) .leaf) (J (J3 0)))) (K (J3 3) (K (J3 64) (K (J3 4) (J (J3 0)) .leaf) (J (J3 0))) (K (J3 20) (J (J3 0)) (J (J3 0)))))) 37 0
def a67 : List Value := [(Jp 0 0), (Js 1 15 5 4611686018427387905)]
def b67 : List (Nat × Bool × AObj) := [(0, true, (.cells (K (Jp 2 0) (K (J3 2) (J (J3 1)) (J (J6 1063113957))) (K (J3 0) (J (J3 3)) (J (Jp 3 0)))) 7 0)),
  (1, false, ob52),
  (2, true, ob74),
  (3, true, ob75),
  (4, true, (.map [((.agg ⟨[(J3 2), (J3 0)]⟩), (Jp 16 0)), ((.agg ⟨[(J3 2), (J3 1)]⟩), (Jp 17 0)), ((.agg ⟨[(J3 0), (J3 0)]⟩), (Jp 18 0))] [0, 1, 2] 3)),
  (5, false, (.cells .leaf 0 0)),
  (6, false, (.cells (K (J4 111) (J (J4 108)) (J (J4 100))) 3 0)),
  (7, false, (.cells (K (J3 1) (K (J3 2) (J (J3 2)) (J (J3 0))) (K (J3 0) (J (J3 2)) .leaf)) 6 913)),
  (8, false, (.map [((.agg ⟨[(J3 2), (J3 0)]⟩), (J3 1))] [0] 1)),
  (9, true, (.cells (K (J2 0) (K (J6 0) (J (J3 4639)) .leaf) (J (.map (some 19)))) 4 0)),
  (10, false, ob80),
  (11, false, ob53),
  (12, true, (.cells (K (Jp 2 0) (K (J3 1) (K (Js 20 0 64 64) (J (.bool false)) .leaf) (J (J3 0))) (K (J3 128) (K (J3 0) (J (J3 0)) .leaf) (J (J3 0)))) 9 0)),
  (13, true, ob76),
  (14, false, ob68),
  (15, false, ob53),
  (16, true, (.cells (K (Js 25 0 64 64) (J (.bool false)) .leaf) 2 0)),
  (17, true, (.cells (K (Js 26 0 64 64) (J (.bool true)) .leaf) 2 0)),
  (18, true, (.cells (K (Js 27 0 64 64) (J (.bool false)) .leaf) 2 0)),
  (19, false, ob64),
  (20, false, ob53),
  (21, true, (.cells (K (Js 28 0 100 100) (J (J3 0)) (J (J3 0))) 3 0)),
  (22, false, ob69),
  (23, true, ob77),
  (24, false, ob71),
  (25, false, ob56),
  (26, false, ob54),
  (27, false, ob58),
  (28, false, ob72),
  (29, false, ob73)]
def c67 : Value := (J3 0)
def d67 : OL := [(10, ob81)]
theorem r67 : chkRun (denF envT (den envT (tabS tel67) 1000000 60) (xdraw envT (den envT (tabS tel67) 1000000 60)) 1000000 73 a67 (ofL (bare b67) 30)) (bare b67) 30 c67 d67 165 = true := by kernel_rfl
noncomputable def tel68 : PT Fun := addT tel67 73 (memo a67 b67 30 c67 d67 165)
theorem tel68_ok : TabOK Tryz.prog envT tel68 := tel67_ok.add (memo_ok (run_of_den envT_ok (tabS_sound envT_ok tel67_ok) r67)) (fnS (by kernel_rfl))
def ob82 : AObj := .cells (K (Jp 9 0) (K (Jp 2 0) (K (Jp 10 0) (K (J3 100) (J (J3 0)) (J (J3 0))) (K (J6 2562107784) (J (J3 0)) (J (J3 0)))) (K (J3 0) (K (J3 4) (J (J3 0)) (J (Js 11 0 0 64))) (K (J3 100) (J (J3 0)) (J (J3 0))))) (K (Jp 12 0) (K (Jp 13 0) (K (J3 3) (J (J3 0)) (J (Js 14 0 0 384))) (K (J3 64) (J (J3 0)) (J (J6 0)))) (K (J3 64) (K (J6 1063113957) (J (J3 0)) (J (Js 15 0 0 64))) (K (.bool true) (J (J3 0)) (J (.bool false)))))) 31 0
def ob83 : AObj := .cells (K (J6 1611244841) (K (J6 3057749181) (K (J3 0) (K (J3 4) (K (.bool true) (J (J3 0)) .leaf) (J (J3 0))) (K (J3 100) (K (J3 0) (J (.bool false)) .leaf) (J (J3 0)))) (K (J3 0) (K (J6 2562107784) (K (J3 0) (J (J3 0)) .leaf) (J (J3 0))) (K (J3 0) (J (J3 0)) (J (J3 0))))) (K (J7 0) (K (J7 0) (K (J6 1063113957) (K (J3 4) (J (J3 0)) .leaf) (J (J3 4))) (K (.bool true) (K (J3 4) (J (J3 0)) .leaf) (J (J3 0)))) (K (J3 3) (K (J3 64) (K (J3 3) (J (J3 0)) .leaf) (J (J3 0))) (K (J3 25) (J (J3 0)) (J (J3 0)))))) 37 0
def a68 : List Value := [(Jp 0 0), (Js 1 20 5 4611686018427387905)]
def b68 : List (Nat × Bool × AObj) := [(0, true, (.cells (K (Jp 2 0) (K (J3 2) (J (J3 1)) (J (J6 1063113957))) (K (J3 0) (J (J3 3)) (J (Jp 3 0)))) 7 0)),
  (1, false, ob52),
  (2, true, ob74),
  (3, true, ob75),
  (4, true, (.map [((.agg ⟨[(J3 2), (J3 0)]⟩), (Jp 16 0)), ((.agg ⟨[(J3 2), (J3 1)]⟩), (Jp 17 0)), ((.agg ⟨[(J3 0), (J3 0)]⟩), (Jp 18 0))] [0, 1, 2] 3)),
  (5, false, (.cells .leaf 0 0)),
  (6, false, (.cells (K (J4 111) (J (J4 108)) (J (J4 100))) 3 0)),
  (7, false, (.cells (K (J3 1) (K (J3 2) (J (J3 2)) (J (J3 0))) (K (J3 0) (J (J3 2)) .leaf)) 6 913)),
  (8, false, (.map [((.agg ⟨[(J3 2), (J3 0)]⟩), (J3 1))] [0] 1)),
  (9, true, (.cells (K (J2 0) (K (J6 0) (J (J3 4639)) .leaf) (J (.map (some 19)))) 4 0)),
  (10, false, ob81),
  (11, false, ob53),
  (12, true, (.cells (K (Jp 2 0) (K (J3 1) (K (Js 20 0 64 64) (J (.bool false)) .leaf) (J (J3 0))) (K (J3 128) (K (J3 0) (J (J3 0)) .leaf) (J (J3 0)))) 9 0)),
  (13, true, ob76),
  (14, false, ob68),
  (15, false, ob53),
  (16, true, (.cells (K (Js 25 0 64 64) (J (.bool false)) .leaf) 2 0)),
  (17, true, (.cells (K (Js 26 0 64 64) (J (.bool true)) .leaf) 2 0)),
  (18, true, (.cells (K (Js 27 0 64 64) (J (.bool false)) .leaf) 2 0)),
  (19, false, ob64),
  (20, false, ob53),
  (21, true, (.cells (K (Js 28 0 100 100) (J (J3 0)) (J (J3 0))) 3 0)),
  (22, false, ob69),
  (23, true, ob77),
  (24, false, ob71),
  (25, false, ob56),
  (26, false, ob54),
  (27, false, ob58),
  (28, false, ob72),
  (29, false, ob73)]
def c68 : Value := (J3 0)
def d68 : OL := [(3, ob82),
  (10, ob83)]
theorem r68 : chkRun (denF envT (den envT (tabS tel68) 1000000 60) (xdraw envT (den envT (tabS tel68) 1000000 60)) 1000000 73 a68 (ofL (bare b68) 30)) (bare b68) 30 c68 d68 330 = true := by kernel_rfl
noncomputable def tel69 : PT Fun := addT tel68 73 (memo a68 b68 30 c68 d68 330)
theorem tel69_ok : TabOK Tryz.prog envT tel69 := tel68_ok.add (memo_ok (run_of_den envT_ok (tabS_sound envT_ok tel68_ok) r68)) (fnS (by kernel_rfl))
noncomputable def fi422 : FI := match envT.fn 422 with | some x => x | none => ⟨.skip, 0, #[]⟩
theorem fi422_ok : envT.fn 422 = some fi422 := by kernel_rfl
def ob84 : AObj := .cells (K (J3 288) (K (J3 0) (K (J3 0) (K (J3 0) (K (J3 0) (K (J3 270) (K (J3 22) (K (J3 86) (J (J3 206)) .leaf) (J (J3 286))) (K (J3 54) (K (J3 118) (J (J3 238)) .leaf) (J (J3 174)))) (K (J3 6) (K (J3 38) (K (J3 102) (J (J3 222)) .leaf) (J (J3 158))) (K (J3 70) (K (J3 134) (J (J3 254)) .leaf) (J (J3 190))))) (K (J3 262) (K (J3 278) (K (J3 30) (K (J3 94) (J (J3 214)) .leaf) (J (J3 150))) (K (J3 62) (K (J3 126) (J (J3 246)) .leaf) (J (J3 182)))) (K (J3 14) (K (J3 46) (K (J3 110) (J (J3 230)) .leaf) (J (J3 166))) (K (J3 78) (J (J3 142)) (J (J3 198)))))) (K (J3 0) (K (J3 258) (K (J3 274) (K (J3 26) (K (J3 90) (J (J3 210)) .leaf) (J (J3 146))) (K (J3 58) (K (J3 122) (J (J3 242)) .leaf) (J (J3 178)))) (K (J3 10) (K (J3 42) (K (J3 106) (J (J3 226)) .leaf) (J (J3 162))) (K (J3 74) (J (J3 138)) (J (J3 194))))) (K (J3 266) (K (J3 2) (K (J3 34) (K (J3 98) (J (J3 218)) .leaf) (J (J3 154))) (K (J3 66) (K (J3 130) (J (J3 250)) .leaf) (J (J3 186)))) (K (J3 18) (K (J3 50) (K (J3 114) (J (J3 234)) .leaf) (J (J3 170))) (K (J3 82) (J (J3 282)) (J (J3 202))))))) (K (J3 0) (K (J3 152) (K (J3 256) (K (J3 272) (K (J3 24) (K (J3 88) (J (J3 208)) .leaf) (J (J3 144))) (K (J3 56) (K (J3 120) (J (J3 240)) .leaf) (J (J3 176)))) (K (J3 8) (K (J3 40) (K (J3 104) (J (J3 224)) .leaf) (J (J3 160))) (K (J3 72) (K (J3 136) (J (J3 288)) .leaf) (J (J3 192))))) (K (J3 264) (K (J3 0) (K (J3 32) (K (J3 96) (J (J3 216)) .leaf) (J (J3 152))) (K (J3 64) (K (J3 128) (J (J3 248)) .leaf) (J (J3 184)))) (K (J3 16) (K (J3 48) (K (J3 112) (J (J3 232)) .leaf) (J (J3 168))) (K (J3 80) (J (J3 280)) (J (J3 200)))))) (K (J3 0) (K (J3 260) (K (J3 276) (K (J3 28) (K (J3 92) (J (J3 212)) .leaf) (J (J3 148))) (K (J3 60) (K (J3 124) (J (J3 244)) .leaf) (J (J3 180)))) (K (J3 12) (K (J3 44) (K (J3 108) (J (J3 228)) .leaf) (J (J3 164))) (K (J3 76) (J (J3 140)) (J (J3 196))))) (K (J3 268) (K (J3 4) (K (J3 36) (K (J3 100) (J (J3 220)) .leaf) (J (J3 156))) (K (J3 68) (K (J3 132) (J (J3 252)) .leaf) (J (J3 188)))) (K (J3 20) (K (J3 52) (K (J3 116) (J (J3 236)) .leaf) (J (J3 172))) (K (J3 84) (J (J3 284)) (J (J3 204)))))))) (K (J3 0) (K (J3 0) (K (J3 24) (K (J3 0) (K (J3 271) (K (J3 23) (K (J3 87) (J (J3 207)) .leaf) (J (J3 287))) (K (J3 55) (K (J3 119) (J (J3 239)) .leaf) (J (J3 175)))) (K (J3 7) (K (J3 39) (K (J3 103) (J (J3 223)) .leaf) (J (J3 159))) (K (J3 71) (K (J3 135) (J (J3 255)) .leaf) (J (J3 191))))) (K (J3 263) (K (J3 279) (K (J3 31) (K (J3 95) (J (J3 215)) .leaf) (J (J3 151))) (K (J3 63) (K (J3 127) (J (J3 247)) .leaf) (J (J3 183)))) (K (J3 15) (K (J3 47) (K (J3 111) (J (J3 231)) .leaf) (J (J3 167))) (K (J3 79) (J (J3 143)) (J (J3 199)))))) (K (J3 0) (K (J3 259) (K (J3 275) (K (J3 27) (K (J3 91) (J (J3 211)) .leaf) (J (J3 147))) (K (J3 59) (K (J3 123) (J (J3 243)) .leaf) (J (J3 179)))) (K (J3 11) (K (J3 43) (K (J3 107) (J (J3 227)) .leaf) (J (J3 163))) (K (J3 75) (J (J3 139)) (J (J3 195))))) (K (J3 267) (K (J3 3) (K (J3 35) (K (J3 99) (J (J3 219)) .leaf) (J (J3 155))) (K (J3 67) (K (J3 131) (J (J3 251)) .leaf) (J (J3 187)))) (K (J3 19) (K (J3 51) (K (J3 115) (J (J3 235)) .leaf) (J (J3 171))) (K (J3 83) (J (J3 283)) (J (J3 203))))))) (K (J3 0) (K (J3 112) (K (J3 257) (K (J3 273) (K (J3 25) (K (J3 89) (J (J3 209)) .leaf) (J (J3 145))) (K (J3 57) (K (J3 121) (J (J3 241)) .leaf) (J (J3 177)))) (K (J3 9) (K (J3 41) (K (J3 105) (J (J3 225)) .leaf) (J (J3 161))) (K (J3 73) (J (J3 137)) (J (J3 193))))) (K (J3 265) (K (J3 1) (K (J3 33) (K (J3 97) (J (J3 217)) .leaf) (J (J3 153))) (K (J3 65) (K (J3 129) (J (J3 249)) .leaf) (J (J3 185)))) (K (J3 17) (K (J3 49) (K (J3 113) (J (J3 233)) .leaf) (J (J3 169))) (K (J3 81) (J (J3 281)) (J (J3 201)))))) (K (J3 0) (K (J3 261) (K (J3 277) (K (J3 29) (K (J3 93) (J (J3 213)) .leaf) (J (J3 149))) (K (J3 61) (K (J3 125) (J (J3 245)) .leaf) (J (J3 181)))) (K (J3 13) (K (J3 45) (K (J3 109) (J (J3 229)) .leaf) (J (J3 165))) (K (J3 77) (J (J3 141)) (J (J3 197))))) (K (J3 269) (K (J3 5) (K (J3 37) (K (J3 101) (J (J3 221)) .leaf) (J (J3 157))) (K (J3 69) (K (J3 133) (J (J3 253)) .leaf) (J (J3 189)))) (K (J3 21) (K (J3 53) (K (J3 117) (J (J3 237)) .leaf) (J (J3 173))) (K (J3 85) (J (J3 285)) (J (J3 205))))))))) 306 0
def a69 : List Value := [(Jp 0 0), (Js 1 0 288 288)]
def b69 : List (Nat × Bool × AObj) := [(0, false, ob71),
  (1, false, ob6)]
def c69 : Value := (J3 0)
def d69 : OL := [(0, ob84)]
noncomputable def cm69_0 : List Value := a69 ++ List.replicate (fi422.ntmps - a69.length) undV
noncomputable def ck69_0 : List Item := [.code fi422.body]
noncomputable def ch69_0 : AH := ofL (bare b69) 2
end Go.Proofs.YtckpjjgpcfacnaaGreatDoor
