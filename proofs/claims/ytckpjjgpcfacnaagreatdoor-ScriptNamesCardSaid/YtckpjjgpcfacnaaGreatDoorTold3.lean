/- Told runs: what functions of the program come to from a small memory. Conditions: none. -/
import Derived.Test.YtckpjjgpcfacnaaGreatDoorTold2
namespace Go.Proofs.YtckpjjgpcfacnaaGreatDoor
open Go.ChangeShapes Go.WideShapes Go.ChangeAt Go.RowKit Go.Conc Go.Den
def a24 : List Value := [(Js 0 0 288 288)]
def b24 : List (Nat × Bool × AObj) := [(0, false, ob6)]
def c24 : Value := (.tuple ⟨[(.agg ⟨[(J3 0), (J3 0), (J3 0), (J3 0), (J3 0), (J3 0), (J3 0), (J3 24), (J3 152), (J3 112), (J3 0), (J3 0), (J3 0), (J3 0), (J3 0), (J3 0)]⟩), (.bool true)]⟩)
def d24 : OL := []
theorem r24 : chkRun (denF envT (den envT (tabS tel24) 1000000 60) (xdraw envT (den envT (tabS tel24) 1000000 60)) 1000000 444 a24 (ofL (bare b24) 1)) (bare b24) 1 c24 d24 3 = true := by kernel_rfl
noncomputable def tel25 : PT Fun := addT tel24 444 (memo a24 b24 1 c24 d24 3)
theorem tel25_ok : TabOK Tryz.prog envT tel25 := tel24_ok.add (memo_ok (run_of_den envT_ok (tabS_sound envT_ok tel24_ok) r24)) (fnS (by kernel_rfl))
def a25 : List Value := [(Js 0 0 288 288)]
def b25 : List (Nat × Bool × AObj) := [(0, false, ob6)]
def c25 : Value := (J3 0)
def d25 : OL := []
theorem r25 : chkRun (denF envT (den envT (tabS tel25) 1000000 60) (xdraw envT (den envT (tabS tel25) 1000000 60)) 1000000 443 a25 (ofL (bare b25) 1)) (bare b25) 1 c25 d25 5 = true := by kernel_rfl
noncomputable def tel26 : PT Fun := addT tel25 443 (memo a25 b25 1 c25 d25 5)
theorem tel26_ok : TabOK Tryz.prog envT tel26 := tel25_ok.add (memo_ok (run_of_den envT_ok (tabS_sound envT_ok tel25_ok) r25)) (fnS (by kernel_rfl))
def a26 : List Value := [(.agg ⟨[(J3 0), (J3 0), (J3 0), (J3 0), (J3 0), (J3 0), (J3 0), (J3 24), (J3 152), (J3 112), (J3 0), (J3 0), (J3 0), (J3 0), (J3 0), (J3 0)]⟩)]
def b26 : List (Nat × Bool × AObj) := []
def c26 : Value := (.agg ⟨[(J3 0), (J3 0), (J3 0), (J3 0), (J3 0), (J3 0), (J3 0), (J3 0), (J3 48), (J3 400), (J3 1024), (J3 2048), (J3 4096), (J3 8192), (J3 16384), (J3 32768)]⟩)
def d26 : OL := []
theorem r26 : chkRun (denF envT (den envT (tabS tel26) 1000000 60) (xdraw envT (den envT (tabS tel26) 1000000 60)) 1000000 471 a26 (ofL (bare b26) 0)) (bare b26) 0 c26 d26 3 = true := by kernel_rfl
noncomputable def tel27 : PT Fun := addT tel26 471 (memo a26 b26 0 c26 d26 3)
theorem tel27_ok : TabOK Tryz.prog envT tel27 := tel26_ok.add (memo_ok (run_of_den envT_ok (tabS_sound envT_ok tel26_ok) r26)) (fnS (by kernel_rfl))
def ob17 : AObj := .cells (K (J3 48) (K (J3 49) (K (J3 51) (K (J3 55) (K (J3 63) (K (J3 79) (K (J3 111) (K (J3 175) (J (J3 511)) .leaf) (J (J3 447))) (K (J3 143) (K (J3 415) (J (J3 199)) .leaf) (J (J3 479)))) (K (J3 95) (K (J3 127) (K (J3 191) (J (J3 15)) .leaf) (J (J3 463))) (K (J3 159) (J (J3 431)) (J (J3 495))))) (K (J3 71) (K (J3 87) (K (J3 119) (K (J3 183) (J (J3 7)) .leaf) (J (J3 455))) (K (J3 151) (J (J3 423)) (J (J3 487)))) (K (J3 103) (K (J3 135) (K (J3 407) (J (J3 23)) .leaf) (J (J3 471))) (K (J3 167) (J (J3 439)) (J (J3 503)))))) (K (J3 59) (K (J3 67) (K (J3 83) (K (J3 115) (K (J3 179) (J (J3 3)) .leaf) (J (J3 451))) (K (J3 147) (J (J3 419)) (J (J3 483)))) (K (J3 99) (K (J3 131) (K (J3 403) (J (J3 19)) .leaf) (J (J3 467))) (K (J3 163) (J (J3 435)) (J (J3 499))))) (K (J3 75) (K (J3 91) (K (J3 123) (K (J3 187) (J (J3 11)) .leaf) (J (J3 459))) (K (J3 155) (J (J3 427)) (J (J3 491)))) (K (J3 107) (K (J3 139) (K (J3 411) (J (J3 195)) .leaf) (J (J3 475))) (K (J3 171) (J (J3 443)) (J (J3 507))))))) (K (J3 53) (K (J3 57) (K (J3 65) (K (J3 81) (K (J3 113) (K (J3 177) (J (J3 1)) .leaf) (J (J3 449))) (K (J3 145) (J (J3 417)) (J (J3 481)))) (K (J3 97) (K (J3 129) (K (J3 401) (J (J3 17)) .leaf) (J (J3 465))) (K (J3 161) (J (J3 433)) (J (J3 497))))) (K (J3 73) (K (J3 89) (K (J3 121) (K (J3 185) (J (J3 9)) .leaf) (J (J3 457))) (K (J3 153) (J (J3 425)) (J (J3 489)))) (K (J3 105) (K (J3 137) (K (J3 409) (J (J3 193)) .leaf) (J (J3 473))) (K (J3 169) (J (J3 441)) (J (J3 505)))))) (K (J3 61) (K (J3 69) (K (J3 85) (K (J3 117) (K (J3 181) (J (J3 5)) .leaf) (J (J3 453))) (K (J3 149) (J (J3 421)) (J (J3 485)))) (K (J3 101) (K (J3 133) (K (J3 405) (J (J3 21)) .leaf) (J (J3 469))) (K (J3 165) (J (J3 437)) (J (J3 501))))) (K (J3 77) (K (J3 93) (K (J3 125) (K (J3 189) (J (J3 13)) .leaf) (J (J3 461))) (K (J3 157) (J (J3 429)) (J (J3 493)))) (K (J3 109) (K (J3 141) (K (J3 413) (J (J3 197)) .leaf) (J (J3 477))) (K (J3 173) (J (J3 445)) (J (J3 509)))))))) (K (J3 50) (K (J3 52) (K (J3 56) (K (J3 64) (K (J3 80) (K (J3 112) (K (J3 176) (J (J3 0)) .leaf) (J (J3 448))) (K (J3 144) (J (J3 416)) (J (J3 480)))) (K (J3 96) (K (J3 128) (K (J3 400) (J (J3 16)) .leaf) (J (J3 464))) (K (J3 160) (J (J3 432)) (J (J3 496))))) (K (J3 72) (K (J3 88) (K (J3 120) (K (J3 184) (J (J3 8)) .leaf) (J (J3 456))) (K (J3 152) (J (J3 424)) (J (J3 488)))) (K (J3 104) (K (J3 136) (K (J3 408) (J (J3 192)) .leaf) (J (J3 472))) (K (J3 168) (J (J3 440)) (J (J3 504)))))) (K (J3 60) (K (J3 68) (K (J3 84) (K (J3 116) (K (J3 180) (J (J3 4)) .leaf) (J (J3 452))) (K (J3 148) (J (J3 420)) (J (J3 484)))) (K (J3 100) (K (J3 132) (K (J3 404) (J (J3 20)) .leaf) (J (J3 468))) (K (J3 164) (J (J3 436)) (J (J3 500))))) (K (J3 76) (K (J3 92) (K (J3 124) (K (J3 188) (J (J3 12)) .leaf) (J (J3 460))) (K (J3 156) (J (J3 428)) (J (J3 492)))) (K (J3 108) (K (J3 140) (K (J3 412) (J (J3 196)) .leaf) (J (J3 476))) (K (J3 172) (J (J3 444)) (J (J3 508))))))) (K (J3 54) (K (J3 58) (K (J3 66) (K (J3 82) (K (J3 114) (K (J3 178) (J (J3 2)) .leaf) (J (J3 450))) (K (J3 146) (J (J3 418)) (J (J3 482)))) (K (J3 98) (K (J3 130) (K (J3 402) (J (J3 18)) .leaf) (J (J3 466))) (K (J3 162) (J (J3 434)) (J (J3 498))))) (K (J3 74) (K (J3 90) (K (J3 122) (K (J3 186) (J (J3 10)) .leaf) (J (J3 458))) (K (J3 154) (J (J3 426)) (J (J3 490)))) (K (J3 106) (K (J3 138) (K (J3 410) (J (J3 194)) .leaf) (J (J3 474))) (K (J3 170) (J (J3 442)) (J (J3 506)))))) (K (J3 62) (K (J3 70) (K (J3 86) (K (J3 118) (K (J3 182) (J (J3 6)) .leaf) (J (J3 454))) (K (J3 150) (J (J3 422)) (J (J3 486)))) (K (J3 102) (K (J3 134) (K (J3 406) (J (J3 22)) .leaf) (J (J3 470))) (K (J3 166) (J (J3 438)) (J (J3 502))))) (K (J3 78) (K (J3 94) (K (J3 126) (K (J3 190) (J (J3 14)) .leaf) (J (J3 462))) (K (J3 158) (J (J3 430)) (J (J3 494)))) (K (J3 110) (K (J3 142) (K (J3 414) (J (J3 198)) .leaf) (J (J3 478))) (K (J3 174) (J (J3 446)) (J (J3 510))))))))) 288 0
def a27 : List Value := [(Js 0 0 288 288)]
def b27 : List (Nat × Bool × AObj) := [(0, false, ob6)]
def c27 : Value := (.tuple ⟨[(Js 12 0 288 288), (J3 0)]⟩)
def d27 : OL := [(12, ob17)]
theorem r27 : chkRun (denF envT (den envT (tabS tel27) 1000000 60) (xdraw envT (den envT (tabS tel27) 1000000 60)) 1000000 450 a27 (ofL (bare b27) 1)) (bare b27) 1 c27 d27 13 = true := by kernel_rfl
noncomputable def tel28 : PT Fun := addT tel27 450 (memo a27 b27 1 c27 d27 13)
theorem tel28_ok : TabOK Tryz.prog envT tel28 := tel27_ok.add (memo_ok (run_of_den envT_ok (tabS_sound envT_ok tel27_ok) r27)) (fnS (by kernel_rfl))
def a28 : List Value := [(Js 0 0 288 288)]
def b28 : List (Nat × Bool × AObj) := [(0, false, ob6)]
def c28 : Value := (.tuple ⟨[(Jp 14 0), (J3 0)]⟩)
def d28 : OL := [(14, (.cells (K (Js 13 0 288 288) (J (Js 12 0 288 288)) .leaf) 2 0)),
  (13, ob6),
  (12, ob17)]
theorem r28 : chkRun (denF envT (den envT (tabS tel28) 1000000 60) (xdraw envT (den envT (tabS tel28) 1000000 60)) 1000000 427 a28 (ofL (bare b28) 1)) (bare b28) 1 c28 d28 15 = true := by kernel_rfl
noncomputable def tel29 : PT Fun := addT tel28 427 (memo a28 b28 1 c28 d28 15)
theorem tel29_ok : TabOK Tryz.prog envT tel29 := tel28_ok.add (memo_ok (run_of_den envT_ok (tabS_sound envT_ok tel28_ok) r28)) (fnS (by kernel_rfl))
def a29 : List Value := [(Js 0 0 32 32)]
def b29 : List (Nat × Bool × AObj) := [(0, false, ob7)]
def c29 : Value := (.tuple ⟨[(.agg ⟨[(J3 0), (J3 0), (J3 0), (J3 0), (J3 0), (J3 32), (J3 0), (J3 0), (J3 0), (J3 0), (J3 0), (J3 0), (J3 0), (J3 0), (J3 0), (J3 0)]⟩), (.bool true)]⟩)
def d29 : OL := []
theorem r29 : chkRun (denF envT (den envT (tabS tel29) 1000000 60) (xdraw envT (den envT (tabS tel29) 1000000 60)) 1000000 444 a29 (ofL (bare b29) 1)) (bare b29) 1 c29 d29 3 = true := by kernel_rfl
noncomputable def tel30 : PT Fun := addT tel29 444 (memo a29 b29 1 c29 d29 3)
theorem tel30_ok : TabOK Tryz.prog envT tel30 := tel29_ok.add (memo_ok (run_of_den envT_ok (tabS_sound envT_ok tel29_ok) r29)) (fnS (by kernel_rfl))
def a30 : List Value := [(Js 0 0 32 32)]
def b30 : List (Nat × Bool × AObj) := [(0, false, ob7)]
def c30 : Value := (J3 0)
def d30 : OL := []
theorem r30 : chkRun (denF envT (den envT (tabS tel30) 1000000 60) (xdraw envT (den envT (tabS tel30) 1000000 60)) 1000000 443 a30 (ofL (bare b30) 1)) (bare b30) 1 c30 d30 5 = true := by kernel_rfl
noncomputable def tel31 : PT Fun := addT tel30 443 (memo a30 b30 1 c30 d30 5)
theorem tel31_ok : TabOK Tryz.prog envT tel31 := tel30_ok.add (memo_ok (run_of_den envT_ok (tabS_sound envT_ok tel30_ok) r30)) (fnS (by kernel_rfl))
def ob18 : AObj := .cells (K (J3 0) (K (J3 1) (K (J3 3) (K (J3 7) (K (J3 15) (J (J3 31)) .leaf) (J (J3 23))) (K (J3 11) (J (J3 19)) (J (J3 27)))) (K (J3 5) (K (J3 9) (J (J3 17)) (J (J3 25))) (K (J3 13) (J (J3 21)) (J (J3 29))))) (K (J3 2) (K (J3 4) (K (J3 8) (J (J3 16)) (J (J3 24))) (K (J3 12) (J (J3 20)) (J (J3 28)))) (K (J3 6) (K (J3 10) (J (J3 18)) (J (J3 26))) (K (J3 14) (J (J3 22)) (J (J3 30)))))) 32 0
def a31 : List Value := [(Js 0 0 32 32)]
def b31 : List (Nat × Bool × AObj) := [(0, false, ob7)]
def c31 : Value := (.tuple ⟨[(Jp 14 0), (J3 0)]⟩)
def d31 : OL := [(14, (.cells (K (Js 13 0 32 32) (J (Js 12 0 32 32)) .leaf) 2 0)),
  (13, ob7),
  (12, ob18)]
theorem r31 : chkRun (denF envT (den envT (tabS tel31) 1000000 60) (xdraw envT (den envT (tabS tel31) 1000000 60)) 1000000 427 a31 (ofL (bare b31) 1)) (bare b31) 1 c31 d31 15 = true := by kernel_rfl
noncomputable def tel32 : PT Fun := addT tel31 427 (memo a31 b31 1 c31 d31 15)
theorem tel32_ok : TabOK Tryz.prog envT tel32 := tel31_ok.add (memo_ok (run_of_den envT_ok (tabS_sound envT_ok tel31_ok) r31)) (fnS (by kernel_rfl))
def a32 : List Value := [(Js 0 0 3 4611686018427387905), (Js 1 0 3 4611686018427387907), (J3 50)]
def b32 : List (Nat × Bool × AObj) := [(0, false, (.cells (K (J4 0) (J (J4 4)) (J (J4 0))) 3 11)),
  (1, false, (.cells (K (J4 0) (K (J3 0) (K (J4 4) (J (J3 0)) .leaf) (J (J3 0))) (K (J3 0) (K (J3 0) (J (J3 0)) .leaf) (J (J4 0)))) 9 855))]
def c32 : Value := (Js 11006 0 5 4611686018427387905)
def d32 : OL := [(11006, (.cells (K (J4 99) (K (J4 96) (J (J4 0)) .leaf) (K (J4 97) (J (J4 0)) .leaf)) 5 11))]
theorem r32 : chkRun (denF envT (den envT (tabS tel32) 1000000 60) (xdraw envT (den envT (tabS tel32) 1000000 60)) 1000000 224 a32 (ofL (bare b32) 2)) (bare b32) 2 c32 d32 11007 = true := by kernel_rfl
noncomputable def tel33 : PT Fun := addT tel32 224 (memo a32 b32 2 c32 d32 11007)
theorem tel33_ok : TabOK Tryz.prog envT tel33 := tel32_ok.add (memo_ok (run_of_den envT_ok (tabS_sound envT_ok tel32_ok) r32)) (fnS (by kernel_rfl))
def ob19 : AObj := .cells (K (J4 110) (K (J3 0) (K (J4 101) (J (J3 0)) (J (J3 0))) (K (J3 0) (J (J4 33)) .leaf)) (K (J3 0) (K (J3 0) (J (J3 0)) .leaf) (K (J4 119) (J (J3 0)) .leaf))) 12 855
def a33 : List Value := [(Js 0 0 4 4)]
def b33 : List (Nat × Bool × AObj) := [(0, false, ob19)]
def c33 : Value := (J3 0)
def d33 : OL := []
theorem r33 : chkRun (denF envT (den envT (tabS tel33) 1000000 60) (xdraw envT (den envT (tabS tel33) 1000000 60)) 1000000 366 a33 (ofL (bare b33) 1)) (bare b33) 1 c33 d33 21 = true := by kernel_rfl
noncomputable def tel34 : PT Fun := addT tel33 366 (memo a33 b33 1 c33 d33 21)
theorem tel34_ok : TabOK Tryz.prog envT tel34 := tel33_ok.add (memo_ok (run_of_den envT_ok (tabS_sound envT_ok tel33_ok) r33)) (fnS (by kernel_rfl))
def a34 : List Value := [(J3 0), (Js 0 0 4 4)]
def b34 : List (Nat × Bool × AObj) := [(0, false, ob19)]
def c34 : Value := (.tuple ⟨[(J3 42), (J3 0)]⟩)
def d34 : OL := []
theorem r34 : chkRun (denF envT (den envT (tabS tel34) 1000000 60) (xdraw envT (den envT (tabS tel34) 1000000 60)) 1000000 371 a34 (ofL (bare b34) 1)) (bare b34) 1 c34 d34 75 = true := by kernel_rfl
noncomputable def tel35 : PT Fun := addT tel34 371 (memo a34 b34 1 c34 d34 75)
theorem tel35_ok : TabOK Tryz.prog envT tel35 := tel34_ok.add (memo_ok (run_of_den envT_ok (tabS_sound envT_ok tel34_ok) r34)) (fnS (by kernel_rfl))
end Go.Proofs.YtckpjjgpcfacnaaGreatDoor
