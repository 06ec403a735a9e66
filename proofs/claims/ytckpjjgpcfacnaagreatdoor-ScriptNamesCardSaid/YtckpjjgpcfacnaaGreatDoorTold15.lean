/- Told runs: what functions of the program come to from a small memory. Conditions: none. -/
import Derived.Test.YtckpjjgpcfacnaaGreatDoorTold14
namespace Go.Proofs.YtckpjjgpcfacnaaGreatDoor
open Go.ChangeShapes Go.WideShapes Go.ChangeAt Go.RowKit Go.Conc Go.Den
def ob105 : AObj := .cells (K (J3 288) (K (J3 0) (K (J3 0) (K (J3 0) (K (J3 0) (K (J3 270) (K (J3 22) (K (J3 86) (J (J3 206)) .leaf) (J (J3 286))) (K (J3 54) (K (J3 118) (J (J3 238)) .leaf) (J (J3 174)))) (K (J3 6) (K (J3 38) (K (J3 102) (J (J3 222)) .leaf) (J (J3 158))) (K (J3 70) (K (J3 134) (J (J3 254)) .leaf) (J (J3 190))))) (K (J3 262) (K (J3 278) (K (J3 30) (K (J3 94) (J (J3 214)) .leaf) (J (J3 150))) (K (J3 62) (K (J3 126) (J (J3 246)) .leaf) (J (J3 182)))) (K (J3 14) (K (J3 46) (K (J3 110) (J (J3 230)) .leaf) (J (J3 166))) (K (J3 78) (J (J3 142)) (J (J3 198)))))) (K (J3 0) (K (J3 258) (K (J3 274) (K (J3 26) (K (J3 90) (J (J3 210)) .leaf) (J (J3 146))) (K (J3 58) (K (J3 122) (J (J3 242)) .leaf) (J (J3 178)))) (K (J3 10) (K (J3 42) (K (J3 106) (J (J3 226)) .leaf) (J (J3 162))) (K (J3 74) (J (J3 138)) (J (J3 194))))) (K (J3 266) (K (J3 2) (K (J3 34) (K (J3 98) (J (J3 218)) .leaf) (J (J3 154))) (K (J3 66) (K (J3 130) (J (J3 250)) .leaf) (J (J3 186)))) (K (J3 18) (K (J3 50) (K (J3 114) (J (J3 234)) .leaf) (J (J3 170))) (K (J3 82) (J (J3 282)) (J (J3 202))))))) (K (J3 0) (K (J3 152) (K (J3 256) (K (J3 272) (K (J3 24) (K (J3 88) (J (J3 208)) .leaf) (J (J3 144))) (K (J3 56) (K (J3 120) (J (J3 240)) .leaf) (J (J3 176)))) (K (J3 8) (K (J3 40) (K (J3 104) (J (J3 224)) .leaf) (J (J3 160))) (K (J3 72) (K (J3 136) (J (J3 189)) .leaf) (J (J3 192))))) (K (J3 264) (K (J3 0) (K (J3 32) (K (J3 96) (J (J3 216)) .leaf) (J (J3 152))) (K (J3 64) (K (J3 128) (J (J3 248)) .leaf) (J (J3 184)))) (K (J3 16) (K (J3 48) (K (J3 112) (J (J3 232)) .leaf) (J (J3 168))) (K (J3 80) (J (J3 280)) (J (J3 200)))))) (K (J3 0) (K (J3 260) (K (J3 276) (K (J3 28) (K (J3 92) (J (J3 212)) .leaf) (J (J3 148))) (K (J3 60) (K (J3 124) (J (J3 244)) .leaf) (J (J3 180)))) (K (J3 12) (K (J3 44) (K (J3 108) (J (J3 228)) .leaf) (J (J3 164))) (K (J3 76) (J (J3 140)) (J (J3 196))))) (K (J3 268) (K (J3 4) (K (J3 36) (K (J3 100) (J (J3 220)) .leaf) (J (J3 156))) (K (J3 68) (K (J3 132) (J (J3 252)) .leaf) (J (J3 188)))) (K (J3 20) (K (J3 52) (K (J3 116) (J (J3 236)) .leaf) (J (J3 172))) (K (J3 84) (J (J3 284)) (J (J3 204)))))))) (K (J3 0) (K (J3 0) (K (J3 24) (K (J3 0) (K (J3 271) (K (J3 23) (K (J3 87) (J (J3 207)) .leaf) (J (J3 287))) (K (J3 55) (K (J3 119) (J (J3 239)) .leaf) (J (J3 175)))) (K (J3 7) (K (J3 39) (K (J3 103) (J (J3 223)) .leaf) (J (J3 159))) (K (J3 71) (K (J3 135) (J (J3 255)) .leaf) (J (J3 191))))) (K (J3 263) (K (J3 279) (K (J3 31) (K (J3 95) (J (J3 215)) .leaf) (J (J3 151))) (K (J3 63) (K (J3 127) (J (J3 247)) .leaf) (J (J3 183)))) (K (J3 15) (K (J3 47) (K (J3 111) (J (J3 231)) .leaf) (J (J3 167))) (K (J3 79) (J (J3 143)) (J (J3 199)))))) (K (J3 0) (K (J3 259) (K (J3 275) (K (J3 27) (K (J3 91) (J (J3 211)) .leaf) (J (J3 147))) (K (J3 59) (K (J3 123) (J (J3 243)) .leaf) (J (J3 179)))) (K (J3 11) (K (J3 43) (K (J3 107) (J (J3 227)) .leaf) (J (J3 163))) (K (J3 75) (J (J3 139)) (J (J3 195))))) (K (J3 267) (K (J3 3) (K (J3 35) (K (J3 99) (J (J3 219)) .leaf) (J (J3 155))) (K (J3 67) (K (J3 131) (J (J3 251)) .leaf) (J (J3 187)))) (K (J3 19) (K (J3 51) (K (J3 115) (J (J3 235)) .leaf) (J (J3 171))) (K (J3 83) (J (J3 283)) (J (J3 203))))))) (K (J3 0) (K (J3 112) (K (J3 257) (K (J3 273) (K (J3 25) (K (J3 89) (J (J3 209)) .leaf) (J (J3 145))) (K (J3 57) (K (J3 121) (J (J3 241)) .leaf) (J (J3 177)))) (K (J3 9) (K (J3 41) (K (J3 105) (J (J3 225)) .leaf) (J (J3 161))) (K (J3 73) (J (J3 137)) (J (J3 193))))) (K (J3 265) (K (J3 1) (K (J3 33) (K (J3 97) (J (J3 217)) .leaf) (J (J3 153))) (K (J3 65) (K (J3 129) (J (J3 249)) .leaf) (J (J3 185)))) (K (J3 17) (K (J3 49) (K (J3 113) (J (J3 233)) .leaf) (J (J3 169))) (K (J3 81) (J (J3 281)) (J (J3 201)))))) (K (J3 0) (K (J3 261) (K (J3 277) (K (J3 29) (K (J3 93) (J (J3 213)) .leaf) (J (J3 149))) (K (J3 61) (K (J3 125) (J (J3 245)) .leaf) (J (J3 181)))) (K (J3 13) (K (J3 45) (K (J3 109) (J (J3 229)) .leaf) (J (J3 165))) (K (J3 77) (J (J3 141)) (J (J3 197))))) (K (J3 269) (K (J3 5) (K (J3 37) (K (J3 101) (J (J3 221)) .leaf) (J (J3 157))) (K (J3 69) (K (J3 133) (J (J3 253)) .leaf) (J (J3 189)))) (K (J3 21) (K (J3 53) (K (J3 117) (J (J3 237)) .leaf) (J (J3 173))) (K (J3 85) (J (J3 285)) (J (J3 205))))))))) 306 0
def cm74_10 : List Value := [(Jp 0 0), (Js 1 0 288 288), (.chan none), (.chan none), (J3 0), (J3 0), (Jp 8 0), (.bool true), (J3 288), (.chan none), (J3 0), (J3 9), (J3 157), (J3 9), (Jp 0 0), (.bool false), (.bool false), (Jp 0 0), (Jp 0 0), (Jp 0 0), (J3 288), (.bool false), (.bool false), (Js 1 0 288 288), (J3 288), (Jp 0 0), (Jp 0 0), (Jp 0 0), (J3 288), (.bool false), (Js 1 0 288 288), (J3 0), (J3 0), (.bool false), (.chan none), (.tuple ⟨[(.agg ⟨[(J3 0), (J3 0), (J3 0), (J3 0), (J3 0), (J3 0), (J3 0), (J3 24), (J3 152), (J3 112), (J3 0), (J3 0), (J3 0), (J3 0), (J3 0), (J3 0)]⟩), (.bool true)]⟩), (Js 1 0 288 288), (.tuple ⟨[(.agg ⟨[(J3 0), (J3 0), (J3 0), (J3 0), (J3 0), (J3 0), (J3 0), (J3 24), (J3 152), (J3 112), (J3 0), (J3 0), (J3 0), (J3 0), (J3 0), (J3 0)]⟩), (.bool true)]⟩), (.agg ⟨[(J3 0), (J3 0), (J3 0), (J3 0), (J3 0), (J3 0), (J3 0), (J3 24), (J3 152), (J3 112), (J3 0), (J3 0), (J3 0), (J3 0), (J3 0), (J3 0)]⟩), (.bool true), (.agg ⟨[(J3 0), (J3 0), (J3 0), (J3 0), (J3 0), (J3 0), (J3 0), (J3 24), (J3 152), (J3 112), (J3 0), (J3 0), (J3 0), (J3 0), (J3 0), (J3 0)]⟩), (J3 16), (.bool false), (J3 0), (J3 288), (J3 0), (J3 288), (J3 16), (Jp 0 0), (Jp 0 0), (Jp 0 305), (Jp 0 0), (.agg ⟨[(J3 0), (J3 0), (J3 0), (J3 0), (J3 0), (J3 0), (J3 0), (J3 24), (J3 152), (J3 112), (J3 0), (J3 0), (J3 0), (J3 0), (J3 0), (J3 0)]⟩), (Jp 0 0), (Jp 0 1), (J3 9), (.bool true), (J3 9), (Js 1 0 288 288), (J3 288), (J3 157), (.bool true), (J3 157), (Jp 1 157), (J3 9), (Jp 0 0), (Jp 0 0), (Jp 0 305), (J3 189), (J3 288), (.bool false), (J3 9), (J3 9), (.bool true), (.bool true), (J3 9), (.bool true), (.bool true), (Jp 0 0), (Jp 0 0), (Jp 0 0), (Jp 0 305), (J3 189), (J3 157), (Jp 0 0), (Jp 0 17), (Jp 0 206), (Jp 0 0), (Jp 0 0), (Jp 0 305), (J3 188), (J3 189), (Jp 0 0), (Jp 0 305), (J3 157), (J3 9)]
noncomputable def ck74_10 : List Item := [.code (atP fi422.body [2, 1, 2, 2, 2, 2, 2, 2, 2, 2, 2, 2, 1, 2, 1, 1, 2, 2, 1, 1, 2, 2, 1, 1, 2, 2, 1, 1, 2, 2, 2, 1, 2]), .inBlock 5, .code (atP fi422.body [2, 1, 2, 2, 2, 2, 2, 2, 2, 2, 2, 2, 1, 2, 1, 1, 2, 2, 1, 1, 2, 2, 1, 1, 2, 2, 2]), .inLoop (atP fi422.body [2, 1, 2, 2, 2, 2, 2, 2, 2, 2, 2, 2, 1, 2, 1, 1, 2, 2, 1, 1, 2, 2, 1, 1]), .inBlock 4, .inBlock 3, .code (atP fi422.body [2, 1, 2, 2, 2, 2, 2, 2, 2, 2, 2, 2, 1, 2, 1, 1, 2, 2, 2]), .inLoop (atP fi422.body [2, 1, 2, 2, 2, 2, 2, 2, 2, 2, 2, 2, 1, 2, 1, 1]), .inBlock 2, .code (atP fi422.body [2, 1, 2, 2, 2, 2, 2, 2, 2, 2, 2, 2, 2]), .inScope (atP fi422.body [2, 1])]
def ch74_10 : AH := ⟨1909, (.node (some ob105) (.node (some ob6) .leaf .leaf) (.node none (.node none (.node (some ob85) .leaf .leaf) .leaf) .leaf)), []⟩
theorem st74_10 : stepsF envT (den envT (tabS tel74) 1000000 60) (xdraw envT (den envT (tabS tel74) 1000000 60)) 422 5833 cm74_9 ck74_9 ch74_9 = some (cm74_10, ck74_10, ch74_10) := by kernel_rfl
theorem sp74_10 : stepsF envT (den envT (tabS tel74) 1000000 60) (xdraw envT (den envT (tabS tel74) 1000000 60)) 422 58581 cm74_0 ck74_0 ch74_0 = some (cm74_10, ck74_10, ch74_10) := steps_trans (n := 52748) (m := 5833) sp74_9 st74_10
theorem re74 : chkRun (finF envT (den envT (tabS tel74) 1000000 60) fi422 [] (frun envT (den envT (tabS tel74) 1000000 60) (xdraw envT (den envT (tabS tel74) 1000000 60)) 422 none 941419 cm74_10 ck74_10 ch74_10)) (bare b74) 2 c74 d74 2889 = true := by kernel_rfl
theorem r74 : chkRun (denF envT (den envT (tabS tel74) 1000000 60) (xdraw envT (den envT (tabS tel74) 1000000 60)) 1000000 422 a74 (ofL (bare b74) 2)) (bare b74) 2 c74 d74 2889 = true := chk_steps (N := 1000000) (n := 58581) (m := 941419) fi422_ok (by kernel_rfl) sp74_10 re74
noncomputable def tel75 : PT Fun := addT tel74 422 (memo a74 b74 2 c74 d74 2889)
theorem tel75_ok : TabOK Tryz.prog envT tel75 := tel74_ok.add (memo_ok (run_of_den envT_ok (tabS_sound envT_ok tel74_ok) r74)) (fnS (by kernel_rfl))
def a75 : List Value := [(Jp 0 0), (Js 1 0 32 32)]
def b75 : List (Nat × Bool × AObj) := [(0, false, ob89),
  (1, false, ob7)]
def c75 : Value := (J3 0)
def d75 : OL := []
theorem r75 : chkRun (denF envT (den envT (tabS tel75) 1000000 60) (xdraw envT (den envT (tabS tel75) 1000000 60)) 1000000 422 a75 (ofL (bare b75) 2)) (bare b75) 2 c75 d75 329 = true := by kernel_rfl
noncomputable def tel76 : PT Fun := addT tel75 422 (memo a75 b75 2 c75 d75 329)
theorem tel76_ok : TabOK Tryz.prog envT tel76 := tel75_ok.add (memo_ok (run_of_den envT_ok (tabS_sound envT_ok tel75_ok) r75)) (fnS (by kernel_rfl))
def ob106 : AObj := .cells (K (Jp 1 0) (K (J3 100) (K (J7 9) (K (Jp 2 0) (J (J3 0)) .leaf) (J (J3 0))) (K (J3 11) (K (J3 4) (J (.slice none 0 0)) .leaf) (J (J3 0)))) (K (J3 4) (K (J3 5) (K (Jp 3 0) (J (J3 0)) .leaf) (J (J3 0))) (K (Jp 4 0) (J (.bool true)) (J (J3 0))))) 18 0
def ob107 : AObj := .cells (K (J4 110) (K (J4 0) (K (J4 0) (K (J4 0) (K (J4 0) (K (J4 0) (J (J4 0)) (J (J4 0))) (K (J4 0) (J (J4 0)) .leaf)) (K (J4 0) (K (J4 0) (J (J4 0)) .leaf) (K (J4 0) (J (J4 0)) .leaf))) (K (J4 0) (K (J4 0) (K (J4 0) (J (J4 0)) (J (J4 0))) (K (J4 0) (J (J4 0)) .leaf)) (K (J4 0) (K (J4 0) (J (J4 0)) .leaf) (K (J4 0) (J (J4 0)) .leaf)))) (K (J4 0) (K (J4 0) (K (J4 0) (K (J4 0) (J (J4 0)) (J (J4 0))) (K (J4 0) (J (J4 0)) .leaf)) (K (J4 0) (K (J4 0) (J (J4 0)) .leaf) (K (J4 0) (J (J4 0)) .leaf))) (K (J4 0) (K (J4 0) (K (J4 0) (J (J4 0)) .leaf) (K (J4 0) (J (J4 0)) .leaf)) (K (J4 0) (K (J4 0) (J (J4 0)) .leaf) (K (J4 0) (J (J4 0)) .leaf))))) (K (J4 0) (K (J4 0) (K (J4 0) (K (J4 0) (K (J4 0) (J (J4 0)) (J (J4 0))) (K (J4 0) (J (J4 0)) .leaf)) (K (J4 0) (K (J4 0) (J (J4 0)) .leaf) (K (J4 0) (J (J4 0)) .leaf))) (K (J4 0) (K (J4 0) (K (J4 0) (J (J4 0)) .leaf) (K (J4 0) (J (J4 0)) .leaf)) (K (J4 0) (K (J4 0) (J (J4 0)) .leaf) (K (J4 0) (J (J4 0)) .leaf)))) (K (J4 0) (K (J4 0) (K (J4 0) (K (J4 0) (J (J4 0)) (J (J4 0))) (K (J4 0) (J (J4 0)) .leaf)) (K (J4 0) (K (J4 0) (J (J4 0)) .leaf) (K (J4 0) (J (J4 0)) .leaf))) (K (J4 0) (K (J4 0) (K (J4 0) (J (J4 0)) .leaf) (K (J4 0) (J (J4 0)) .leaf)) (K (J4 0) (K (J4 0) (J (J4 0)) .leaf) (K (J4 0) (J (J4 0)) .leaf)))))) 100 0
def a76 : List Value := [(Jp 0 0)]
def b76 : List (Nat × Bool × AObj) := [(0, true, ob106),
  (1, true, (.cells (K (Js 5 0 100 100) (J (J3 1)) (J (J3 1))) 3 0)),
  (2, false, ob89),
  (3, true, ob91),
  (4, false, ob84),
  (5, false, ob107),
  (6, false, ob73)]
def c76 : Value := (.bool false)
def d76 : OL := []
theorem r76 : chkRun (denF envT (den envT (tabS tel76) 1000000 60) (xdraw envT (den envT (tabS tel76) 1000000 60)) 1000000 414 a76 (ofL (bare b76) 7)) (bare b76) 7 c76 d76 17 = true := by kernel_rfl
noncomputable def tel77 : PT Fun := addT tel76 414 (memo a76 b76 7 c76 d76 17)
theorem tel77_ok : TabOK Tryz.prog envT tel77 := tel76_ok.add (memo_ok (run_of_den envT_ok (tabS_sound envT_ok tel76_ok) r76)) (fnS (by kernel_rfl))
def ob108 : AObj := .cells (K (Jp 9 0) (K (Jp 2 0) (K (Jp 10 0) (K (J3 100) (J (J3 0)) (J (J3 4))) (K (J6 2562107784) (J (J3 5)) (J (J3 0)))) (K (J3 0) (K (J3 4) (J (J3 0)) (J (Js 11 0 0 64))) (K (J3 100) (J (J3 6)) (J (J3 0))))) (K (Jp 12 0) (K (Jp 13 0) (K (J3 3) (J (J3 3)) (J (Js 14 0 3 384))) (K (J3 64) (J (J3 0)) (J (J6 0)))) (K (J3 64) (K (J6 1063113957) (J (J3 4)) (J (Js 15 0 1 64))) (K (.bool true) (J (J3 2)) (J (.bool false)))))) 31 0
def ob109 : AObj := .cells (K (J6 2511766400) (K (J6 3730067007) (K (J3 0) (K (J3 4) (K (.bool true) (J (J3 0)) .leaf) (J (J3 6))) (K (J3 100) (K (J3 0) (J (.bool false)) .leaf) (J (J3 3)))) (K (J3 0) (K (J6 2562107784) (K (J3 0) (J (J3 2)) .leaf) (J (J3 1))) (K (J3 4) (J (J3 5)) (J (J3 4))))) (K (J7 0) (K (J7 0) (K (J6 1063113957) (K (J3 5) (J (J3 6)) .leaf) (J (J3 0))) (K (.bool true) (K (J3 4) (J (J3 0)) .leaf) (J (J3 0)))) (K (J3 3) (K (J3 64) (K (J3 3) (J (J3 4)) .leaf) (J (J3 0))) (K (J3 35) (J (J3 0)) (J (J3 5)))))) 37 0
def ob110 : AObj := .cells (K (Jp 21 0) (K (J3 100) (K (J7 9) (K (Jp 22 0) (J (J3 0)) .leaf) (J (J3 0))) (K (J3 11) (K (J3 4) (J (.slice none 0 0)) .leaf) (J (J3 0)))) (K (J3 4) (K (J3 5) (K (Jp 23 0) (J (J3 0)) .leaf) (J (J3 0))) (K (Jp 24 0) (J (.bool true)) (J (J3 0))))) 18 0
def ob111 : AObj := .cells (K (J4 110) (K (J4 0) (K (J4 0) (K (J4 0) (K (J4 0) (K (J4 0) (J (J4 0)) .leaf) (J (J4 0))) (K (J4 0) (J (J4 0)) (J (J4 0)))) (K (J4 0) (K (J4 0) (J (J4 0)) (J (J4 0))) (K (J4 0) (J (J4 0)) (J (J4 0))))) (K (J4 0) (K (J4 0) (K (J4 0) (J (J4 0)) (J (J4 0))) (K (J4 0) (J (J4 0)) (J (J4 0)))) (K (J4 0) (K (J4 0) (J (J4 0)) (J (J4 0))) (K (J4 0) (J (J4 0)) (J (J4 0)))))) (K (J4 0) (K (J4 0) (K (J4 0) (K (J4 0) (J (J4 0)) (J (J4 0))) (K (J4 0) (J (J4 0)) (J (J4 0)))) (K (J4 0) (K (J4 0) (J (J4 0)) (J (J4 0))) (K (J4 0) (J (J4 0)) (J (J4 0))))) (K (J4 0) (K (J4 0) (K (J4 0) (J (J4 0)) (J (J4 0))) (K (J4 0) (J (J4 0)) (J (J4 0)))) (K (J4 0) (K (J4 0) (J (J4 0)) (J (J4 0))) (K (J4 0) (J (J4 0)) (J (J4 0))))))) 64 0
def a77 : List Value := [(Jp 0 0), (Js 1 30 5 4611686018427387905)]
def b77 : List (Nat × Bool × AObj) := [(0, true, (.cells (K (Jp 2 0) (K (J3 2) (J (J3 1)) (J (J6 1063113957))) (K (J3 0) (J (J3 3)) (J (Jp 3 0)))) 7 0)),
  (1, false, ob52),
  (2, true, ob74),
  (3, true, ob92),
  (4, true, (.map [((.agg ⟨[(J3 2), (J3 0)]⟩), (Jp 16 0)), ((.agg ⟨[(J3 2), (J3 1)]⟩), (Jp 17 0)), ((.agg ⟨[(J3 0), (J3 0)]⟩), (Jp 18 0))] [0, 1, 2] 3)),
  (5, false, (.cells .leaf 0 0)),
  (6, false, (.cells (K (J4 111) (J (J4 108)) (J (J4 100))) 3 0)),
  (7, false, (.cells (K (J3 1) (K (J3 2) (J (J3 2)) (J (J3 0))) (K (J3 0) (J (J3 2)) .leaf)) 6 913)),
  (8, false, (.map [((.agg ⟨[(J3 2), (J3 0)]⟩), (J3 1))] [0] 1)),
  (9, true, (.cells (K (J2 0) (K (J6 0) (J (J3 4639)) .leaf) (J (.map (some 19)))) 4 0)),
  (10, false, ob93),
  (11, false, ob53),
  (12, true, (.cells (K (Jp 2 0) (K (J3 1) (K (Js 20 0 64 64) (J (.bool false)) .leaf) (J (J3 0))) (K (J3 128) (K (J3 0) (J (J3 0)) .leaf) (J (J3 0)))) 9 0)),
  (13, true, ob94),
  (14, false, ob68),
  (15, false, ob53),
  (16, true, (.cells (K (Js 25 0 64 64) (J (.bool false)) .leaf) 2 0)),
  (17, true, (.cells (K (Js 26 0 64 64) (J (.bool true)) .leaf) 2 0)),
  (18, true, (.cells (K (Js 27 0 64 64) (J (.bool false)) .leaf) 2 0)),
  (19, false, ob64),
  (20, false, ob53),
  (21, true, (.cells (K (Js 28 0 100 100) (J (J3 1)) (J (J3 1))) 3 0)),
  (22, false, ob89),
  (23, true, ob77),
  (24, false, ob84),
  (25, false, ob56),
  (26, false, ob54),
  (27, false, ob58),
  (28, false, ob72),
  (29, false, ob73)]
def c77 : Value := (J3 0)
def d77 : OL := [(3, ob108),
  (10, ob109),
  (13, ob110),
  (14, ob102),
  (15, ob111),
  (28, ob107)]
theorem r77 : chkRun (denF envT (den envT (tabS tel77) 1000000 60) (xdraw envT (den envT (tabS tel77) 1000000 60)) 1000000 73 a77 (ofL (bare b77) 30)) (bare b77) 30 c77 d77 4026 = true := by kernel_rfl
noncomputable def tel78 : PT Fun := addT tel77 73 (memo a77 b77 30 c77 d77 4026)
theorem tel78_ok : TabOK Tryz.prog envT tel78 := tel77_ok.add (memo_ok (run_of_den envT_ok (tabS_sound envT_ok tel77_ok) r77)) (fnS (by kernel_rfl))
end Go.Proofs.YtckpjjgpcfacnaaGreatDoor
