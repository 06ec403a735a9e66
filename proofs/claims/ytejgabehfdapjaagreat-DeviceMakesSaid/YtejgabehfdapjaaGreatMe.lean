/- New of the device, where all is within bounds. Conditions: none. -/
import Derived.Test.YtejgabehfdapjaaGreatMd
set_option maxRecDepth 100000
set_option maxHeartbeats 4000000
namespace Go.Proofs.YtejgabehfdapjaaGreat.Sym.D
open Go.Den
structure Q where
  pg:Nat
  k:Nat
  n:Nat
  c:Nat
  v:Nat
  s:Nat
  r:Nat
  w4:Nat
  w12:Nat
  w13:Nat
  w17:Nat
  w21:Nat
  w25:Nat
  w26:Nat
  w30:Nat
  w34:Nat
  w38:Nat
  w39:Nat
  oc:Nat
  ia:Option Addr
  oa:Option Addr
  ob:Option AObj
  xs:List Nat
variable [Inhabited Q]
abbrev pg:Nat:=Q.pg default
abbrev k:Nat:=Q.k default
abbrev n:Nat:=Q.n default
abbrev c:Nat:=Q.c default
abbrev v:Nat:=Q.v default
abbrev s:Nat:=Q.s default
abbrev r:Nat:=Q.r default
abbrev w4:Nat:=Q.w4 default
abbrev w12:Nat:=Q.w12 default
abbrev w13:Nat:=Q.w13 default
abbrev w17:Nat:=Q.w17 default
abbrev w21:Nat:=Q.w21 default
abbrev w25:Nat:=Q.w25 default
abbrev w26:Nat:=Q.w26 default
abbrev w30:Nat:=Q.w30 default
abbrev w34:Nat:=Q.w34 default
abbrev w38:Nat:=Q.w38 default
abbrev w39:Nat:=Q.w39 default
abbrev oc:Nat:=Q.oc default
abbrev ia:Option Addr:=Q.ia default
abbrev oa:Option Addr:=Q.oa default
abbrev ob:Option AObj:=Q.ob default
abbrev xs:List Nat:=Q.xs default
def B0:AObj:=(.cells (ofC [(i64 pg),(i64 k)]) (2) (0))
def A1:AH:=AH.new ((mkH 2 [(0,some (im xs)),(1,some (shB pg k))])) B0
def B1:AObj:=(.cells (ofC [(Value.slice ia n c),(Value.slice none 0 0)]) (2) (0))
def A2:AH:=AH.new (AH.new (A1) B0) B1
def B2:AObj:=(AObj.map [] [] 0)
def B3:AObj:=(.cells (ofC [(i64 pg),(i64 k),(i64 0),(Value.map (some 5)),(Value.slice none 0 0),(Value.slice none 0 0),(Value.slice none 0 0),(i64 0),(Value.slice none 0 0),(Value.bool false),(Value.map (some 6)),(i64 0)]) (12) (0))
def A3:AH:=AH.new (AH.new (AH.new (A2) B2) B2) B3
def A4:AH:=AH.mk 16 (AH.mem (A3)) []
def B4:AObj:=(.cells (zrep [u8 0] n) (n) (0))
def A5:AH:=AH.new (A4) B4
def B5:AObj:=(.ro (PT.ofList (List.map u8 xs) 0 PT.leaf))
def B6:AObj:=(.cells (PT.puts (zrep [u8 0] n) 0 (List.map u8 xs)) (n) (0))
def A6:AH:=AH.put (A5) 16 (some B6)
def B7:AObj:=(.cells (ofC [(i64 pg),(i64 k),(i64 0),(Value.map (some 5)),(sl 16 0 n n),(Value.slice none 0 0),(Value.slice none 0 0),(i64 0),(Value.slice none 0 0),(Value.bool false),(Value.map (some 6)),(i64 0)]) (12) (0))
def A7:AH:=AH.put (AH.wdf (A6) (AH.df (A4))) 7 (some B7)
def A8:AH:=AH.mk 25 (AH.mem (A7)) []
def B8:AObj:=(.cells (ofC []) (0) (0))
def B9:AObj:=(.cells (ofC [(i64 pg),(i64 k),(i64 0),(Value.map (some 5)),(sl 16 0 n n),(sl 25 0 0 0),(Value.slice none 0 0),(i64 0),(Value.slice none 0 0),(Value.bool false),(Value.map (some 6)),(i64 0)]) (12) (0))
def B10:AObj:=(.cells (ofC [(Value.slice ia n c)]) (1) (0))
def A9:AH:=AH.new (AH.wdf (AH.put (AH.wdf (AH.new (A8) B8) (AH.df (A8))) 7 (some B9)) (AH.df (A1))) B10
def A10:AH:=AH.mk 28 (AH.mem (A9)) []
def A11:AH:=AH.wdf (A10) (AH.df (A9))
def B11:AObj:=(.cells (ofC [(i64 0),(i64 v),(i64 n),(u32 s)]) (4) (0))
def B12:AObj:=(.cells (ofC [(i64 0),(i64 0),(i64 0),(i64 0),(u32 0),(i64 0),(i64 0),(i64 0),(u32 0),(i64 0)]) (10) (90))
def A12:AH:=AH.new (AH.new (A11) B11) B12
def B13:AObj:=(.cells (ofC [(i64 1),(i64 0),(i64 v),(i64 n),(u32 s),(i64 0),(i64 0),(i64 0),(u32 0),(i64 0)]) (10) (0))
def A13:AH:=AH.new (AH.new (A12) B13) B12
def A14:AH:=AH.new (A13) B13
def A15:AH:=AH.new (A14) B11
def A16:AH:=AH.wdf (AH.wdf (A15) (AH.df (A14))) (AH.df (A13))
def A17:AH:=stG (A16) 31 0 [(i64 1),(i64 0),(i64 v),(i64 n),(u32 s),(i64 0),(i64 0),(i64 0),(u32 0),(i64 0)]
def A18:AH:=AH.wdf (A17) (AH.df (A12))
def A19:AH:=stG (A18) 29 0 [(i64 1),(i64 0),(i64 v),(i64 n),(u32 s),(i64 0),(i64 0),(i64 0),(u32 0),(i64 0)]
def A20:AH:=AH.new (AH.wdf (A19) (AH.df (A11))) B12
def A21:AH:=stG (A20) 34 0 [(i64 1),(i64 0),(i64 v),(i64 n),(u32 s),(i64 0),(i64 0),(i64 0),(u32 0),(i64 0)]
def A22:AH:=AH.new (AH.new (A21) B13) B12
def A23:AH:=AH.new (A22) B12
def B14:AObj:=(.cells (ofC [(i64 0),(i64 0)]) (2) (48))
def A24:AH:=AH.new (A23) B14
def A25:AH:=stG (A24) 38 0 [(i64 pg),(i64 k)]
def A26:AH:=AH.new (AH.wdf (A25) (AH.df (A23))) B12
def A27:AH:=stG (A26) 39 0 [(i64 0),(i64 0),(i64 0),(i64 0),(u32 0),(i64 0),(i64 0),(i64 0),(u32 0),(i64 0)]
def A28:AH:=AH.mk 50 (AH.mem (AH.wdf (A27) (AH.df (A27)))) []
def A29:AH:=AH.wdf (A28) (AH.df (A28))
def B15:AObj:=(.cells (zrep [u8 0] pg) (pg) (0))
def A30:AH:=AH.new (A29) B15
def B16:AObj:=(.cells (ofC [(i64 2),(i64 0)]) (2) (0))
def A31:AH:=AH.mk 75 (AH.mem (AH.mk 63 (AH.mem (AH.new (A30) B16)) [])) []
def A32:AH:=AH.put (A31) 68 (some B15)
def B17:AObj:=(.cells (ofC [(sl 68 0 pg pg),(Value.bool true)]) (2) (0))
def A33:AH:=AH.new (A32) B17
def B18:AObj:=(.cells (fillC (zrep [u8 0] pg) 0 pg) (pg) (0))
def A34:AH:=AH.put (A33) 68 (some B18)
def B19:AObj:=(AObj.map [(Value.agg (Array.mk [i64 2,i64 0]),ptr 75 0)] [0] 1)
def A35:AH:=AH.mk 96 (AH.mem (AH.wdf (AH.put (AH.mk 83 (AH.mem (A34)) []) 5 (some B19)) (AH.df (A30)))) []
def B20:AObj:=(.cells (PT.puts (zrep [u8 0] pg) 0 (List.map u8 (List.replicate pg 255))) (pg) (0))
def A36:AH:=AH.put (A35) 50 (some B20)
def A37:AH:=AH.wdf (A36) (AH.df (A27))
def A38:AH:=AH.new (AH.new (A37) B12) B12
def A39:AH:=stG (A38) 96 0 [(i64 0),(i64 0),(i64 0),(i64 0),(u32 0),(i64 0),(i64 0),(i64 0),(u32 0),(i64 0)]
def A40:AH:=AH.new (AH.wdf (A39) (AH.df (A37))) B12
def A41:AH:=stG (A40) 98 0 [(i64 0),(i64 0),(i64 0),(i64 0),(u32 0),(i64 0),(i64 0),(i64 0),(u32 0),(i64 0)]
def A42:AH:=AH.mk 109 (AH.mem (AH.wdf (A41) (AH.df (A41)))) []
def A43:AH:=AH.wdf (A42) (AH.df (A42))
def A44:AH:=AH.new (A43) B15
def B21:AObj:=(.cells (ofC [(i64 2),(i64 1)]) (2) (0))
def A45:AH:=AH.mk 134 (AH.mem (AH.mk 122 (AH.mem (AH.new (A44) B21)) [])) []
def A46:AH:=AH.put (A45) 127 (some B15)
def B22:AObj:=(.cells (ofC [(sl 127 0 pg pg),(Value.bool true)]) (2) (0))
def A47:AH:=AH.new (A46) B22
def A48:AH:=AH.put (A47) 127 (some B18)
def B23:AObj:=(AObj.map [(Value.agg (Array.mk [i64 2,i64 0]),ptr 75 0),(Value.agg (Array.mk [i64 2,i64 1]),ptr 134 0)] [0,1] 2)
def A49:AH:=AH.mk 155 (AH.mem (AH.wdf (AH.put (AH.mk 142 (AH.mem (A48)) []) 5 (some B23)) (AH.df (A44)))) []
def A50:AH:=AH.put (A49) 109 (some B20)
def A51:AH:=AH.wdf (A50) (AH.df (A41))
def A52:AH:=AH.new (AH.new (A51) B12) B12
def A53:AH:=stG (A52) 155 0 [(i64 0),(i64 0),(i64 0),(i64 0),(u32 0),(i64 0),(i64 0),(i64 0),(u32 0),(i64 0)]
def A54:AH:=AH.new (AH.wdf (A53) (AH.df (A51))) B12
def A55:AH:=stG (A54) 157 0 [(i64 0),(i64 0),(i64 0),(i64 0),(u32 0),(i64 0),(i64 0),(i64 0),(u32 0),(i64 0)]
def A56:AH:=stG (A55) 37 0 [(i64 0),(i64 0),(i64 0),(i64 0),(u32 0),(i64 0),(i64 0),(i64 0),(u32 0),(i64 0)]
def A57:AH:=AH.new (AH.wdf (A56) (AH.df (A22))) B12
def A58:AH:=stG (A57) 158 0 [(i64 0),(i64 0),(i64 0),(i64 0),(u32 0),(i64 0),(i64 0),(i64 0),(u32 0),(i64 0)]
def A59:AH:=AH.put (A58) 35 (some B13)
def A60:AH:=AH.new (A59) B13
def A61:AH:=AH.new (A60) B13
def A62:AH:=AH.new (A61) B11
def B24:AObj:=(.cells (ofC [(u8 98),(u8 116),(u8 48),(u8 49)]) (4) (0))
def A63:AH:=AH.new (AH.wdf (AH.wdf (A62) (AH.df (A61))) (AH.df (A60))) B24
def B25:AObj:=(.cells (ofC [(ptr 159 0)]) (1) (0))
def B26:AObj:=(.cells (ofC [(i64 0),(Value.nilFunc),(Value.nilFunc)]) (3) (334))
def A64:AH:=AH.new (AH.new (A63) B25) B26
def A65:AH:=stG (A64) 164 0 [(i64 8),(fA 171 163 0),(fA 172 163 0)]
def B27:AObj:=(.cells (ofC [(i64 8),(fA 171 163 0),(fA 172 163 0)]) (3) (0))
def B28:AObj:=(.cells (ofC [(ptr 159 1),(ptr 159 5)]) (2) (0))
def B29:AObj:=(.cells (ofC [(Value.pointer none)]) (1) (486))
def B30:AObj:=(.cells (ofC [(ptr 159 1)]) (1) (486))
def A66:AH:=AH.new (AH.put (AH.new (AH.put (AH.mk 175 (AH.mem (AH.new (AH.wdf (A65) (AH.df (A63))) B27)) []) 172 (some B28)) B29) 175 (some B30)) B26
def A67:AH:=stG (A66) 176 0 [(i64 4),(fA 125 175 0),(fA 126 175 0)]
def A68:AH:=AH.mk 194 (AH.mem (A67)) []
def B31:AObj:=(.cells (ofC [(ptr 159 1)]) (1) (0))
def A69:AH:=AH.new (AH.new (A68) B31) B26
def A70:AH:=stG (A69) 195 0 [(i64 1),(fA 171 194 0),(fA 172 194 0)]
def A71:AH:=AH.wdf (A70) (AH.df (A68))
def B32:AObj:=(.cells (ofC [(ptr 159 2)]) (1) (0))
def A72:AH:=AH.new (AH.new (A71) B32) B26
def A73:AH:=stG (A72) 197 0 [(i64 4),(fA 171 196 0),(fA 172 196 0)]
def A74:AH:=AH.wdf (A73) (AH.df (A71))
def B33:AObj:=(.cells (ofC [(ptr 159 3)]) (1) (0))
def A75:AH:=AH.new (AH.new (A74) B33) B26
def A76:AH:=stG (A75) 199 0 [(i64 4),(fA 171 198 0),(fA 172 198 0)]
def B34:AObj:=(.cells (ofC [(i64 1),(fA 171 194 0),(fA 172 194 0),(i64 4),(fA 171 196 0),(fA 172 196 0),(i64 4),(fA 171 198 0),(fA 172 198 0),(i64 4),(fA 125 175 0),(fA 126 175 0)]) (12) (0))
def B35:AObj:=(.cells (ofC [(i64 8),(fA 171 163 0),(fA 172 163 0),(i64 1),(fA 171 194 0),(fA 172 194 0),(i64 4),(fA 171 196 0),(fA 172 196 0),(i64 4),(fA 171 198 0),(fA 172 198 0),(i64 4),(fA 125 175 0),(fA 126 175 0)]) (15) (333))
def B36:AObj:=(.cells (ofC [(ptr 159 5)]) (1) (486))
def A77:AH:=AH.new (AH.put (AH.new (AH.new (AH.put (AH.wdf (A76) (AH.df (A74))) 191 (some B34)) B35) B29) 201 (some B36)) B26
def A78:AH:=stG (A77) 202 0 [(i64 4),(fA 125 201 0),(fA 126 201 0)]
def A79:AH:=AH.mk 220 (AH.mem (A78)) []
def B37:AObj:=(.cells (ofC [(ptr 159 5)]) (1) (0))
def A80:AH:=AH.new (AH.new (A79) B37) B26
def A81:AH:=stG (A80) 221 0 [(i64 1),(fA 171 220 0),(fA 172 220 0)]
def A82:AH:=AH.wdf (A81) (AH.df (A79))
def B38:AObj:=(.cells (ofC [(ptr 159 6)]) (1) (0))
def A83:AH:=AH.new (AH.new (A82) B38) B26
def A84:AH:=stG (A83) 223 0 [(i64 4),(fA 171 222 0),(fA 172 222 0)]
def A85:AH:=AH.wdf (A84) (AH.df (A82))
def B39:AObj:=(.cells (ofC [(ptr 159 7)]) (1) (0))
def A86:AH:=AH.new (AH.new (A85) B39) B26
def A87:AH:=stG (A86) 225 0 [(i64 4),(fA 171 224 0),(fA 172 224 0)]
def B40:AObj:=(.cells (ofC [(i64 1),(fA 171 220 0),(fA 172 220 0),(i64 4),(fA 171 222 0),(fA 172 222 0),(i64 4),(fA 171 224 0),(fA 172 224 0),(i64 4),(fA 125 201 0),(fA 126 201 0)]) (12) (0))
def B41:AObj:=(.cells (ofC [(i64 8),(fA 171 163 0),(fA 172 163 0),(i64 1),(fA 171 194 0),(fA 172 194 0),(i64 4),(fA 171 196 0),(fA 172 196 0),(i64 4),(fA 171 198 0),(fA 172 198 0),(i64 4),(fA 125 175 0),(fA 126 175 0),(i64 1),(fA 171 220 0),(fA 172 220 0),(i64 4),(fA 171 222 0),(fA 172 222 0),(i64 4),(fA 171 224 0),(fA 172 224 0),(i64 4),(fA 125 201 0),(fA 126 201 0)]) (27) (333))
def A88:AH:=AH.new (AH.put (AH.put (AH.wdf (A87) (AH.df (A85))) 217 (some B40)) 200 none) B41
def B42:AObj:=(.cells (ofC [(ptr 159 9)]) (1) (0))
def A89:AH:=AH.new (AH.new (A88) B42) B26
def A90:AH:=stG (A89) 228 0 [(i64 1),(fA 171 227 0),(fA 172 227 0)]
def B43:AObj:=(.cells (ofC [(i64 1),(fA 171 227 0),(fA 172 227 0)]) (3) (0))
def B44:AObj:=(.cells (ofC [(i64 8),(fA 171 163 0),(fA 172 163 0),(i64 1),(fA 171 194 0),(fA 172 194 0),(i64 4),(fA 171 196 0),(fA 172 196 0),(i64 4),(fA 171 198 0),(fA 172 198 0),(i64 4),(fA 125 175 0),(fA 126 175 0),(i64 1),(fA 171 220 0),(fA 172 220 0),(i64 4),(fA 171 222 0),(fA 172 222 0),(i64 4),(fA 171 224 0),(fA 172 224 0),(i64 4),(fA 125 201 0),(fA 126 201 0),(i64 1),(fA 171 227 0),(fA 172 227 0)]) (30) (333))
def A91:AH:=AH.new (AH.wdf (AH.new (AH.put (AH.new (AH.wdf (A90) (AH.df (A88))) B43) 226 none) B44) (AH.df (A63))) B26
def A92:AH:=stG (A91) 231 0 [(i64 8),(fA 171 163 0),(fA 172 163 0)]
def A93:AH:=AH.mk 243 (AH.mem (A92)) []
def A94:AH:=AH.wdf (A93) (AH.df (A93))
def B45:AObj:=(.cells (ofC [(u8 0),(u8 0),(u8 0),(u8 0),(u8 0),(u8 0),(u8 0),(u8 0)]) (8) (0))
def B46:AObj:=(.cells (ofC [(u8 1),(u8 0),(u8 0),(u8 0),(u8 0),(u8 0),(u8 0),(u8 0)]) (8) (0))
def B47:AObj:=(.cells (ofC [(u8 98),(u8 116),(u8 48),(u8 49),(u8 1),(u8 0),(u8 0),(u8 0),(u8 0),(u8 0),(u8 0),(u8 0)]) (12) (11))
def A95:AH:=AH.new (AH.new (AH.wdf (AH.put (AH.put (AH.put (AH.put (AH.put (AH.put (AH.put (AH.put (AH.new (A94) B45) 243 (some B46)) 243 (some B46)) 243 (some B46)) 243 (some B46)) 243 (some B46)) 243 (some B46)) 243 (some B46)) 243 (some B46)) (AH.df (A94))) B47) B26
def A96:AH:=stG (A95) 245 0 [(i64 1),(fA 171 194 0),(fA 172 194 0)]
def A97:AH:=AH.mk 257 (AH.mem (A96)) []
def A98:AH:=AH.wdf (A97) (AH.df (A97))
def B48:AObj:=(.cells (ofC [(u8 0)]) (1) (0))
def B49:AObj:=(.cells (ofC [(u8 98),(u8 116),(u8 48),(u8 49),(u8 1),(u8 0),(u8 0),(u8 0),(u8 0),(u8 0),(u8 0),(u8 0),(u8 0)]) (13) (11))
def A99:AH:=AH.new (AH.new (AH.put (AH.wdf (AH.put (AH.new (A98) B48) 257 (some B48)) (AH.df (A98))) 244 none) B49) B26
def A100:AH:=stG (A99) 259 0 [(i64 4),(fA 171 196 0),(fA 172 196 0)]
def A101:AH:=AH.mk 271 (AH.mem (A100)) []
def A102:AH:=AH.wdf (A101) (AH.df (A101))
def B50:AObj:=(.cells (ofC [(u8 0),(u8 0),(u8 0),(u8 0)]) (4) (0))
def A103:AH:=AH.new (A102) B50
def B51:AObj:=(.cells (ofC [(u8 (v % 256)),(u8 0),(u8 0),(u8 0)]) (4) (0))
def A104:AH:=AH.put (A103) 271 (some B51)
def B52:AObj:=(.cells (ofC [(u8 (v % 256)),(u8 (v/256 % 256)),(u8 0),(u8 0)]) (4) (0))
def A105:AH:=AH.put (A104) 271 (some B52)
def B53:AObj:=(.cells (ofC [(u8 (v % 256)),(u8 (v/256 % 256)),(u8 (v/65536 % 256)),(u8 0)]) (4) (0))
def A106:AH:=AH.put (A105) 271 (some B53)
def B54:AObj:=(.cells (ofC [(u8 (v % 256)),(u8 (v/256 % 256)),(u8 (v/65536 % 256)),(u8 (v/16777216))]) (4) (0))
def B55:AObj:=(.cells (ofC [(u8 98),(u8 116),(u8 48),(u8 49),(u8 1),(u8 0),(u8 0),(u8 0),(u8 0),(u8 0),(u8 0),(u8 0),(u8 0),(u8 (v % 256)),(u8 (v/256 % 256)),(u8 (v/65536 % 256)),(u8 (v/16777216))]) (17) (11))
def A107:AH:=AH.new (AH.new (AH.put (AH.wdf (AH.put (A106) 271 (some B54)) (AH.df (A102))) 258 none) B55) B26
def A108:AH:=stG (A107) 273 0 [(i64 4),(fA 171 198 0),(fA 172 198 0)]
def A109:AH:=AH.mk 285 (AH.mem (A108)) []
def A110:AH:=AH.wdf (A109) (AH.df (A109))
def A111:AH:=AH.new (A110) B50
def B56:AObj:=(.cells (ofC [(u8 (n % 256)),(u8 0),(u8 0),(u8 0)]) (4) (0))
def A112:AH:=AH.put (A111) 285 (some B56)
def B57:AObj:=(.cells (ofC [(u8 (n % 256)),(u8 (n/256 % 256)),(u8 0),(u8 0)]) (4) (0))
def A113:AH:=AH.put (A112) 285 (some B57)
def B58:AObj:=(.cells (ofC [(u8 (n % 256)),(u8 (n/256 % 256)),(u8 (n/65536 % 256)),(u8 0)]) (4) (0))
def A114:AH:=AH.put (A113) 285 (some B58)
def B59:AObj:=(.cells (ofC [(u8 (n % 256)),(u8 (n/256 % 256)),(u8 (n/65536 % 256)),(u8 (n/16777216))]) (4) (0))
def B60:AObj:=(.cells (ofC [(u8 98),(u8 116),(u8 48),(u8 49),(u8 1),(u8 0),(u8 0),(u8 0),(u8 0),(u8 0),(u8 0),(u8 0),(u8 0),(u8 (v % 256)),(u8 (v/256 % 256)),(u8 (v/65536 % 256)),(u8 (v/16777216)),(u8 (n % 256)),(u8 (n/256 % 256)),(u8 (n/65536 % 256)),(u8 (n/16777216))]) (21) (11))
def A115:AH:=AH.new (AH.new (AH.put (AH.wdf (AH.put (A114) 285 (some B59)) (AH.df (A110))) 272 none) B60) B26
def A116:AH:=stG (A115) 287 0 [(i64 4),(fA 125 175 0),(fA 126 175 0)]
def A117:AH:=AH.mk 299 (AH.mem (A116)) []
def A118:AH:=AH.wdf (A117) (AH.df (A117))
def A119:AH:=AH.new (A118) B50
def B61:AObj:=(.cells (ofC [(u8 (s % 256)),(u8 0),(u8 0),(u8 0)]) (4) (0))
def A120:AH:=AH.put (A119) 299 (some B61)
def B62:AObj:=(.cells (ofC [(u8 (s % 256)),(u8 (s/256 % 256)),(u8 0),(u8 0)]) (4) (0))
def A121:AH:=AH.put (A120) 299 (some B62)
def B63:AObj:=(.cells (ofC [(u8 (s % 256)),(u8 (s/256 % 256)),(u8 (s/65536 % 256)),(u8 0)]) (4) (0))
def A122:AH:=AH.put (A121) 299 (some B63)
def B64:AObj:=(.cells (ofC [(u8 (s % 256)),(u8 (s/256 % 256)),(u8 (s/65536 % 256)),(u8 (s/16777216))]) (4) (0))
def B65:AObj:=(.cells (ofC [(u8 98),(u8 116),(u8 48),(u8 49),(u8 1),(u8 0),(u8 0),(u8 0),(u8 0),(u8 0),(u8 0),(u8 0),(u8 0),(u8 (v % 256)),(u8 (v/256 % 256)),(u8 (v/65536 % 256)),(u8 (v/16777216)),(u8 (n % 256)),(u8 (n/256 % 256)),(u8 (n/65536 % 256)),(u8 (n/16777216)),(u8 (s % 256)),(u8 (s/256 % 256)),(u8 (s/65536 % 256)),(u8 (s/16777216))]) (25) (11))
def A123:AH:=AH.new (AH.new (AH.put (AH.wdf (AH.put (A122) 299 (some B64)) (AH.df (A118))) 286 none) B65) B26
def A124:AH:=stG (A123) 301 0 [(i64 1),(fA 171 220 0),(fA 172 220 0)]
def A125:AH:=AH.mk 313 (AH.mem (A124)) []
def A126:AH:=AH.wdf (A125) (AH.df (A125))
def B66:AObj:=(.cells (ofC [(u8 98),(u8 116),(u8 48),(u8 49),(u8 1),(u8 0),(u8 0),(u8 0),(u8 0),(u8 0),(u8 0),(u8 0),(u8 0),(u8 (v % 256)),(u8 (v/256 % 256)),(u8 (v/65536 % 256)),(u8 (v/16777216)),(u8 (n % 256)),(u8 (n/256 % 256)),(u8 (n/65536 % 256)),(u8 (n/16777216)),(u8 (s % 256)),(u8 (s/256 % 256)),(u8 (s/65536 % 256)),(u8 (s/16777216)),(u8 0)]) (26) (11))
def A127:AH:=AH.new (AH.new (AH.put (AH.wdf (AH.put (AH.new (A126) B48) 313 (some B48)) (AH.df (A126))) 300 none) B66) B26
def A128:AH:=stG (A127) 315 0 [(i64 4),(fA 171 222 0),(fA 172 222 0)]
def A129:AH:=AH.mk 327 (AH.mem (A128)) []
def A130:AH:=AH.wdf (A129) (AH.df (A129))
def B67:AObj:=(.cells (ofC [(u8 98),(u8 116),(u8 48),(u8 49),(u8 1),(u8 0),(u8 0),(u8 0),(u8 0),(u8 0),(u8 0),(u8 0),(u8 0),(u8 (v % 256)),(u8 (v/256 % 256)),(u8 (v/65536 % 256)),(u8 (v/16777216)),(u8 (n % 256)),(u8 (n/256 % 256)),(u8 (n/65536 % 256)),(u8 (n/16777216)),(u8 (s % 256)),(u8 (s/256 % 256)),(u8 (s/65536 % 256)),(u8 (s/16777216)),(u8 0),(u8 0),(u8 0),(u8 0),(u8 0)]) (30) (11))
def A131:AH:=AH.new (AH.new (AH.put (AH.wdf (AH.put (AH.put (AH.put (AH.put (AH.new (A130) B50) 327 (some B50)) 327 (some B50)) 327 (some B50)) 327 (some B50)) (AH.df (A130))) 314 none) B67) B26
def A132:AH:=stG (A131) 329 0 [(i64 4),(fA 171 224 0),(fA 172 224 0)]
def A133:AH:=AH.mk 341 (AH.mem (A132)) []
def A134:AH:=AH.wdf (A133) (AH.df (A133))
def B68:AObj:=(.cells (ofC [(u8 98),(u8 116),(u8 48),(u8 49),(u8 1),(u8 0),(u8 0),(u8 0),(u8 0),(u8 0),(u8 0),(u8 0),(u8 0),(u8 (v % 256)),(u8 (v/256 % 256)),(u8 (v/65536 % 256)),(u8 (v/16777216)),(u8 (n % 256)),(u8 (n/256 % 256)),(u8 (n/65536 % 256)),(u8 (n/16777216)),(u8 (s % 256)),(u8 (s/256 % 256)),(u8 (s/65536 % 256)),(u8 (s/16777216)),(u8 0),(u8 0),(u8 0),(u8 0),(u8 0),(u8 0),(u8 0),(u8 0),(u8 0)]) (34) (11))
def A135:AH:=AH.new (AH.new (AH.put (AH.wdf (AH.put (AH.put (AH.put (AH.put (AH.new (A134) B50) 341 (some B50)) 341 (some B50)) 341 (some B50)) 341 (some B50)) (AH.df (A134))) 328 none) B68) B26
def A136:AH:=stG (A135) 343 0 [(i64 4),(fA 125 201 0),(fA 126 201 0)]
def A137:AH:=AH.mk 355 (AH.mem (A136)) []
def A138:AH:=AH.wdf (A137) (AH.df (A137))
def B69:AObj:=(.cells (ofC [(u8 98),(u8 116),(u8 48),(u8 49),(u8 1),(u8 0),(u8 0),(u8 0),(u8 0),(u8 0),(u8 0),(u8 0),(u8 0),(u8 (v % 256)),(u8 (v/256 % 256)),(u8 (v/65536 % 256)),(u8 (v/16777216)),(u8 (n % 256)),(u8 (n/256 % 256)),(u8 (n/65536 % 256)),(u8 (n/16777216)),(u8 (s % 256)),(u8 (s/256 % 256)),(u8 (s/65536 % 256)),(u8 (s/16777216)),(u8 0),(u8 0),(u8 0),(u8 0),(u8 0),(u8 0),(u8 0),(u8 0),(u8 0),(u8 0),(u8 0),(u8 0),(u8 0)]) (38) (11))
def A139:AH:=AH.new (AH.new (AH.put (AH.wdf (AH.put (AH.put (AH.put (AH.put (AH.new (A138) B50) 355 (some B50)) 355 (some B50)) 355 (some B50)) 355 (some B50)) (AH.df (A138))) 342 none) B69) B26
def A140:AH:=stG (A139) 357 0 [(i64 1),(fA 171 227 0),(fA 172 227 0)]
def A141:AH:=AH.mk 369 (AH.mem (A140)) []
def A142:AH:=AH.wdf (A141) (AH.df (A141))
def B70:AObj:=(.cells (ofC [(u8 98),(u8 116),(u8 48),(u8 49),(u8 1),(u8 0),(u8 0),(u8 0),(u8 0),(u8 0),(u8 0),(u8 0),(u8 0),(u8 (v % 256)),(u8 (v/256 % 256)),(u8 (v/65536 % 256)),(u8 (v/16777216)),(u8 (n % 256)),(u8 (n/256 % 256)),(u8 (n/65536 % 256)),(u8 (n/16777216)),(u8 (s % 256)),(u8 (s/256 % 256)),(u8 (s/65536 % 256)),(u8 (s/16777216)),(u8 0),(u8 0),(u8 0),(u8 0),(u8 0),(u8 0),(u8 0),(u8 0),(u8 0),(u8 0),(u8 0),(u8 0),(u8 0),(u8 0)]) (39) (11))
def B71:AObj:=(.cells (ofC [(sl 370 0 39 4611686018427387905)]) (1) (0))
def A143:AH:=AH.new (AH.new (AH.put (AH.wdf (AH.put (AH.new (A142) B48) 369 (some B48)) (AH.df (A142))) 356 none) B70) B71
def A144:AH:=AH.mk 373 (AH.mem (A143)) []
def A145:AH:=AH.wdf (A144) (AH.df (A143))
def A146:AH:=AH.new (A145) B50
def B72:AObj:=(.cells (ofC [(u8 (r % 256)),(u8 0),(u8 0),(u8 0)]) (4) (0))
def A147:AH:=AH.put (A146) 373 (some B72)
def B73:AObj:=(.cells (ofC [(u8 (r % 256)),(u8 (r/256 % 256)),(u8 0),(u8 0)]) (4) (0))
def A148:AH:=AH.put (A147) 373 (some B73)
def B74:AObj:=(.cells (ofC [(u8 (r % 256)),(u8 (r/256 % 256)),(u8 (r/65536 % 256)),(u8 0)]) (4) (0))
def A149:AH:=AH.put (A148) 373 (some B74)
def B75:AObj:=(.cells (ofC [(u8 (r % 256)),(u8 (r/256 % 256)),(u8 (r/65536 % 256)),(u8 (r/16777216))]) (4) (0))
def B76:AObj:=(.cells (ofC [(u8 98),(u8 116),(u8 48),(u8 49),(u8 1),(u8 0),(u8 0),(u8 0),(u8 0),(u8 0),(u8 0),(u8 0),(u8 0),(u8 (v % 256)),(u8 (v/256 % 256)),(u8 (v/65536 % 256)),(u8 (v/16777216)),(u8 (n % 256)),(u8 (n/256 % 256)),(u8 (n/65536 % 256)),(u8 (n/16777216)),(u8 (s % 256)),(u8 (s/256 % 256)),(u8 (s/65536 % 256)),(u8 (s/16777216)),(u8 0),(u8 0),(u8 0),(u8 0),(u8 0),(u8 0),(u8 0),(u8 0),(u8 0),(u8 0),(u8 0),(u8 0),(u8 0),(u8 0),(u8 (r % 256)),(u8 (r/256 % 256)),(u8 (r/65536 % 256)),(u8 (r/16777216))]) (43) (11))
def A150:AH:=AH.wdf (AH.new (AH.put (AH.wdf (AH.put (A149) 373 (some B75)) (AH.df (A145))) 370 none) B76) (AH.df (A59))
def A151:AH:=AH.wdf (A150) (AH.df (A150))
def B77:AObj:=(.cells (ofC [(i64 0),(i64 0)]) (2) (342))
def A152:AH:=AH.new (AH.wdf (AH.wdf (A151) (AH.df (A151))) (AH.df (A150))) B77
def A153:AH:=stG (A152) 375 0 [(i64 2),(i64 0)]
def B78:AObj:=(AObj.map [(Value.agg (Array.mk [i64 2,i64 0]),i64 0)] [0] 1)
def B79:AObj:=(AObj.map [(Value.agg (Array.mk [i64 2,i64 0]),i64 1)] [0] 1)
def A154:AH:=AH.put (AH.put (AH.mk 413 (AH.mem (AH.mk 403 (AH.mem (AH.mk 395 (AH.mem (A153)) [])) [])) []) 6 (some B78)) 6 (some B79)
def B80:AObj:=(.cells (ofC [(i64 0),(i64 0),(i64 0)]) (3) (304))
def A155:AH:=AH.new (AH.new (A154) B16) B80
def A156:AH:=stG (A155) 414 0 [(i64 1),(i64 2),(i64 0)]
def A157:AH:=AH.new (AH.wdf (A156) (AH.df (A154))) B80
def A158:AH:=stG (A157) 415 0 [(i64 1),(i64 2),(i64 0)]
def B81:AObj:=(.cells (ofC [(i64 1),(i64 2),(i64 0)]) (3) (0))
def B82:AObj:=(.cells (ofC [(i64 1),(i64 2),(i64 0)]) (3) (303))
def B83:AObj:=(.cells (ofC [(i64 pg),(i64 k),(i64 0),(Value.map (some 5)),(sl 16 0 n n),(sl 25 0 0 0),(sl 427 0 1 4611686018427387907),(i64 0),(Value.slice none 0 0),(Value.bool false),(Value.map (some 6)),(i64 0)]) (12) (0))
def A159:AH:=AH.put (AH.new (AH.put (AH.mk 427 (AH.mem (A158)) []) 422 (some B81)) B82) 7 (some B83)
def A160:AH:=AH.wdf (AH.mk 440 (AH.mem (AH.new (A159) B16)) []) (AH.df (A159))
def B84:AObj:=(.cells (fillC (fillC (zrep [u8 0] pg) 0 pg) 0 pg) (pg) (0))
def A161:AH:=AH.put (A160) 68 (some B84)
def B85:AObj:=(.cells (ofC [(i64 0),(i64 0)]) (2) (348))
def A162:AH:=AH.new (A161) B85
def A163:AH:=stG (A162) 440 0 [(i64 2),(i64 0)]
def A164:AH:=AH.wdf (AH.wdf (AH.put (A163) 75 (some B17)) (AH.df (A154))) (AH.df (A150))
def A165:AH:=AH.wdf (A164) (AH.df (A164))
def A166:AH:=AH.wdf (AH.wdf (A165) (AH.df (A165))) (AH.df (A164))
def A167:AH:=AH.wdf (AH.mk 453 (AH.mem (AH.new (A166) B16)) []) (AH.df (A166))
def B86:AObj:=(.cells (ofC [(i64 2),(i64 0),(sl 374 0 43 4611686018427387905)]) (3) (0))
def A168:AH:=AH.new (AH.new (A167) B86) B80
def A169:AH:=stG (A168) 454 0 [(i64 2),(i64 2),(i64 0)]
def A170:AH:=AH.new (AH.wdf (A169) (AH.df (A167))) B80
def A171:AH:=stG (A170) 455 0 [(i64 2),(i64 2),(i64 0)]
def B87:AObj:=(.cells (ofC [(i64 2),(i64 2),(i64 0)]) (3) (0))
def B88:AObj:=(.cells (ofC [(i64 1),(i64 2),(i64 0),(i64 2),(i64 2),(i64 0)]) (6) (303))
def B89:AObj:=(.cells (ofC [(i64 pg),(i64 k),(i64 0),(Value.map (some 5)),(sl 16 0 n n),(sl 25 0 0 0),(sl 467 0 2 4611686018427387907),(i64 0),(Value.slice none 0 0),(Value.bool false),(Value.map (some 6)),(i64 0)]) (12) (0))
def A172:AH:=AH.put (AH.new (AH.put (AH.put (AH.mk 467 (AH.mem (A171)) []) 462 (some B87)) 427 none) B88) 7 (some B89)
def A173:AH:=AH.wdf (AH.mk 480 (AH.mem (AH.new (A172) B16)) []) (AH.df (A172))
def B90:AObj:=(.cells (fillC (fillC (fillC (zrep [u8 0] pg) 0 pg) 0 pg) 0 pg) (pg) (0))
def A174:AH:=AH.put (A173) 68 (some B90)
def B91:AObj:=(.cells (ofC [(i64 0),(i64 0),(Value.slice none 0 0)]) (3) (360))
def A175:AH:=AH.new (A174) B91
def A176:AH:=stG (A175) 480 0 [(i64 2),(i64 0),(sl 374 0 43 4611686018427387905)]
def A177:AH:=AH.mk 488 (AH.mem (A176)) []
def B92:AObj:=(.cells (PT.puts (fillC (fillC (fillC (zrep [u8 0] pg) 0 pg) 0 pg) 0 pg) 0 (List.map u8 (recA v n s r))) (pg) (0))
def A178:AH:=AH.put (A177) 68 (some B92)
def B93:AObj:=(.cells (ofC [(sl 68 0 pg pg),(Value.bool false)]) (2) (0))
def A179:AH:=AH.wdf (AH.wdf (AH.put (A178) 75 (some B93)) (AH.df (A167))) (AH.df (A164))
def A180:AH:=stG (A179) 36 0 [(i64 1),(i64 0),(i64 v),(i64 n),(u32 s),(i64 0),(i64 0),(i64 0),(u32 0),(i64 0)]
def A181:AH:=AH.new (AH.wdf (A180) (AH.df (A21))) B12
def A182:AH:=stG (A181) 488 0 [(i64 1),(i64 0),(i64 v),(i64 n),(u32 s),(i64 0),(i64 0),(i64 0),(u32 0),(i64 0)]
def B94:AObj:=(.cells (ofC [(ptr 7 0),(i64 0),(i64 0),(i64 0),(i64 0),(u32 0),(Value.pointer none)]) (7) (0))
def A183:AH:=AH.new (A182) B94
def B97:AObj:=(.cells (ofC [(i64 1),(i64 0),(i64 v),(i64 n),(u32 s),(i64 0),(i64 0),(i64 0),(u32 0),(i64 0)]) (10) (90))
def B98:AObj:=(.cells (ofC [(i64 4),(fA 125 175 0),(fA 126 175 0)]) (3) (334))
def B99:AObj:=(.cells (ofC [(i64 1),(i64 2),(i64 0)]) (3) (304))
def B100:AObj:=(.cells (ofC [(i64 4),(fA 171 222 0),(fA 172 222 0)]) (3) (334))
def B101:AObj:=(.cells (ofC [(i64 4),(fA 171 198 0),(fA 172 198 0)]) (3) (334))
def B102:AObj:=(.cells (ofC [(i64 2),(i64 2),(i64 0)]) (3) (304))
def B103:AObj:=(.cells (ofC [(i64 8),(fA 171 163 0),(fA 172 163 0)]) (3) (334))
def B104:AObj:=(.cells (ofC [(i64 4),(fA 125 201 0),(fA 126 201 0)]) (3) (334))
def B105:AObj:=(.cells (ofC [(i64 2),(i64 0)]) (2) (342))
def B106:AObj:=(.cells (ofC [(i64 4),(fA 171 196 0),(fA 172 196 0)]) (3) (334))
def B107:AObj:=(.cells (ofC [(i64 1),(fA 171 194 0),(fA 172 194 0)]) (3) (334))
def B108:AObj:=(.cells (ofC [(i64 4),(fA 171 224 0),(fA 172 224 0)]) (3) (334))
def B109:AObj:=(.cells (ofC [(i64 1),(fA 171 227 0),(fA 172 227 0)]) (3) (334))
def B110:AObj:=(.cells (ofC [(i64 1),(fA 171 220 0),(fA 172 220 0)]) (3) (334))
def B111:AObj:=(.cells (ofC [(i64 2),(i64 0),(sl 374 0 43 4611686018427387905)]) (3) (360))
def B112:AObj:=(.cells (ofC [(i64 2),(i64 0)]) (2) (348))
def B113:AObj:=(.cells (ofC [(i64 pg),(i64 k)]) (2) (48))
theorem p4_ok (Cs:Nat→Oracle):rySD envT Cs (tbD pg k n c s v ia xs) BIG 9 [(13,(Value.bool false),some A2),
 (17,(Value.bool false),none),
 (22,(Value.bool false),none),
 (27,(Value.bool false),none),
 (57,(i64 (pg*k)),some A3),
 (58,(Value.bool false),none),
 (66,(sl 16 0 n n),some A5),
 (70,(i64 n),some A6),
 (90,(i64 (pg*k)),some A7),
 (140,(u32 (refN 4294967295 xs)),some A10),
 (146,(u32 s),none),
 (189,(Value.bool true),some A15),
 (194,(Value.bool true),none),
 (204,(Value.bool true),none),
 (231,(Value.tuple (Array.mk [])),some A17),
 (235,(Value.tuple (Array.mk [])),some A19),
 (241,(Value.tuple (Array.mk [])),some A21),
 (265,(Value.tuple (Array.mk [])),some A25),
 (270,(Value.tuple (Array.mk [])),some A27),
 (279,(i64 0),none),
 (323,(i64 (2*pg)),none),
 (326,(Value.bool false),some A29),
 (344,(i64 (2*pg)),none),
 (345,(Value.bool false),none),
 (348,(sl 50 0 0 pg),some A30),
 (351,(Value.bool true),none),
 (360,(i64 0),none),
 (382,(sl 68 0 pg pg),some A32),
 (393,(Value.tuple (Array.mk [])),some A34),
 (417,(i64 0),none),
 (418,(sl 68 0 pg pg),none),
 (424,(i64 pg),some A35),
 (425,(sl 68 0 pg pg),none),
 (429,(sl 50 0 pg pg),some A36),
 (434,(i64 pg),none),
 (439,(i64 0),none),
 (462,(Value.bool false),some A38),
 (466,(sl 50 0 4 pg),none),
 (467,(Value.string (strOf (List.replicate 4 255))),none),
 (471,(Value.tuple (Array.mk [])),some A39),
 (477,(Value.tuple (Array.mk [])),some A41),
 (491,(i64 pg),none),
 (535,(i64 (2*pg)),none),
 (538,(Value.bool false),some A43),
 (550,(Value.bool false),none),
 (556,(i64 pg),none),
 (557,(Value.bool false),none),
 (560,(sl 109 0 0 pg),some A44),
 (563,(Value.bool true),none),
 (572,(i64 1),none),
 (594,(sl 127 0 pg pg),some A46),
 (605,(Value.tuple (Array.mk [])),some A48),
 (629,(i64 0),none),
 (630,(sl 127 0 pg pg),none),
 (636,(i64 pg),some A49),
 (637,(sl 127 0 pg pg),none),
 (641,(sl 109 0 pg pg),some A50),
 (646,(i64 (pg+pg)),none),
 (651,(i64 0),none),
 (674,(Value.bool false),some A52),
 (678,(sl 109 0 4 pg),none),
 (679,(Value.string (strOf (List.replicate 4 255))),none),
 (683,(Value.tuple (Array.mk [])),some A53),
 (689,(Value.tuple (Array.mk [])),some A55),
 (701,(Value.tuple (Array.mk [])),some A56),
 (709,(Value.tuple (Array.mk [])),some A58),
 (761,(Value.bool true),some A62),
 (766,(Value.bool true),none),
 (776,(Value.bool true),none),
 (817,(Value.tuple (Array.mk [])),some A65),
 (838,(Value.tuple (Array.mk [])),some A67),
 (850,(Value.tuple (Array.mk [])),some A70),
 (861,(Value.tuple (Array.mk [])),some A73),
 (872,(Value.tuple (Array.mk [])),some A76),
 (888,(Value.tuple (Array.mk [])),some A78),
 (900,(Value.tuple (Array.mk [])),some A81),
 (911,(Value.tuple (Array.mk [])),some A84),
 (922,(Value.tuple (Array.mk [])),some A87),
 (941,(Value.tuple (Array.mk [])),some A90),
 (951,(Value.tuple (Array.mk [])),some A92),
 (1115,(Value.tuple (Array.mk [])),some A96),
 (1186,(Value.tuple (Array.mk [])),some A100),
 (1194,(u64 v),some A101),
 (1214,(u64 0),some A102),
 (1232,(u64 v),some A103),
 (1233,(u8 (v % 256)),none),
 (1246,(u64 (v/256)),some A104),
 (1247,(u8 (v/256 % 256)),none),
 (1260,(u64 (v/65536)),some A105),
 (1261,(u8 (v/65536 % 256)),none),
 (1274,(u64 (v/16777216)),some A106),
 (1275,(u8 (v/16777216)),none),
 (1299,(Value.tuple (Array.mk [])),some A108),
 (1307,(u64 n),some A109),
 (1327,(u64 0),some A110),
 (1345,(u64 n),some A111),
 (1346,(u8 (n % 256)),none),
 (1359,(u64 (n/256)),some A112),
 (1360,(u8 (n/256 % 256)),none),
 (1373,(u64 (n/65536)),some A113),
 (1374,(u8 (n/65536 % 256)),none),
 (1387,(u64 (n/16777216)),some A114),
 (1388,(u8 (n/16777216)),none),
 (1412,(Value.tuple (Array.mk [])),some A116),
 (1421,(u64 s),some A117),
 (1441,(u64 0),some A118),
 (1459,(u64 s),some A119),
 (1460,(u8 (s % 256)),none),
 (1473,(u64 (s/256)),some A120),
 (1474,(u8 (s/256 % 256)),none),
 (1487,(u64 (s/65536)),some A121),
 (1488,(u8 (s/65536 % 256)),none),
 (1501,(u64 (s/16777216)),some A122),
 (1502,(u8 (s/16777216)),none),
 (1526,(Value.tuple (Array.mk [])),some A124),
 (1597,(Value.tuple (Array.mk [])),some A128),
 (1710,(Value.tuple (Array.mk [])),some A132),
 (1823,(Value.tuple (Array.mk [])),some A136),
 (1937,(Value.tuple (Array.mk [])),some A140),
 (2019,(u32 (refN 4294967295 (recL v n s))),some A144),
 (2025,(u32 r),none),
 (2027,(u64 r),some A145),
 (2044,(u64 0),none),
 (2062,(u64 r),some A146),
 (2063,(u8 (r % 256)),none),
 (2076,(u64 (r/256)),some A147),
 (2077,(u8 (r/256 % 256)),none),
 (2090,(u64 (r/65536)),some A148),
 (2091,(u8 (r/65536 % 256)),none),
 (2104,(u64 (r/16777216)),some A149),
 (2105,(u8 (r/16777216)),none),
 (2189,(Value.tuple (Array.mk [])),some A153),
 (2247,(Value.tuple (Array.mk [])),some A156),
 (2249,(Value.tuple (Array.mk [])),some A158),
 (2294,(Value.tuple (Array.mk [])),some A161),
 (2300,(Value.tuple (Array.mk [])),some A163),
 (2375,(Value.bool false),some A166),
 (2423,(Value.tuple (Array.mk [])),some A169),
 (2425,(Value.tuple (Array.mk [])),some A171),
 (2470,(Value.tuple (Array.mk [])),some A174),
 (2479,(Value.tuple (Array.mk [])),some A176),
 (2486,(i64 43),some A178),
 (2497,(Value.tuple (Array.mk [])),some A180),
 (2503,(Value.tuple (Array.mk [])),some A182)] 4 [(Value.agg (Array.mk [i64 pg,i64 k])),(Value.slice ia n c),(i64 v)] (mkH 2 [(0,some (im xs)),(1,some (shB pg k))])=some ((Value.tuple (Array.mk [ptr 489 0,i64 0])),A183,
 [((stN 10 (ptr 488 0) (Value.agg (Array.mk [i64 1,i64 0,i64 v,i64 n,u32 s,i64 0,i64 0,i64 0,u32 0,i64 0])) (A181)).bind fun zh=>some (junk,zh))=some ((Value.tuple (Array.mk [])),A182),
 ((stN 10 (ptr 36 0) (Value.agg (Array.mk [i64 1,i64 0,i64 v,i64 n,u32 s,i64 0,i64 0,i64 0,u32 0,i64 0])) (A179)).bind fun zh=>some (junk,zh))=some ((Value.tuple (Array.mk [])),A180),
 hCopy 1 (sl 68 0 pg pg) (sl 374 0 43 4611686018427387905) (A177)=some ((i64 43),A178),
 ((stN 3 (ptr 480 0) (Value.agg (Array.mk [i64 2,i64 0,sl 374 0 43 4611686018427387905])) (A175)).bind fun zh=>some (junk,zh))=some ((Value.tuple (Array.mk [])),A176),
 Cs (6) (.func (.func 127) ⟨[]⟩ ⟨[]⟩) [(sl 68 0 pg pg)] A173=some ((Value.tuple (Array.mk [])),A174),
 (some (Value.agg (Array.mk [i64 2,i64 2,i64 0])):Option Value)=some (Value.agg (Array.mk [i64 2,i64 2,i64 0])),
 (some (sl 427 0 1 4611686018427387907):Option Value)=some (sl 427 0 1 4611686018427387907),
 ((stN 3 (ptr 455 0) (Value.agg (Array.mk [i64 2,i64 2,i64 0])) (A170)).bind fun zh=>some (junk,zh))=some ((Value.tuple (Array.mk [])),A171),
 ((stN 3 (ptr 454 0) (Value.agg (Array.mk [i64 2,i64 2,i64 0])) (A168)).bind fun zh=>some (junk,zh))=some ((Value.tuple (Array.mk [])),A169),
 some (Value.bool (ilt (Int.ofNat pg) (Int.ofNat 43)),A166)=some ((Value.bool false),A166),
 ((stN 2 (ptr 440 0) (Value.agg (Array.mk [i64 2,i64 0])) (A162)).bind fun zh=>some (junk,zh))=some ((Value.tuple (Array.mk [])),A163),
 Cs (6) (.func (.func 127) ⟨[]⟩ ⟨[]⟩) [(sl 68 0 pg pg)] A160=some ((Value.tuple (Array.mk [])),A161),
 (some (Value.agg (Array.mk [i64 1,i64 2,i64 0])):Option Value)=some (Value.agg (Array.mk [i64 1,i64 2,i64 0])),
 (some (Value.slice none 0 0):Option Value)=some (Value.slice none 0 0),
 ((stN 3 (ptr 415 0) (Value.agg (Array.mk [i64 1,i64 2,i64 0])) (A157)).bind fun zh=>some (junk,zh))=some ((Value.tuple (Array.mk [])),A158),
 ((stN 3 (ptr 414 0) (Value.agg (Array.mk [i64 1,i64 2,i64 0])) (A155)).bind fun zh=>some (junk,zh))=some ((Value.tuple (Array.mk [])),A156),
 (some (i64 0):Option Value)=some (i64 0),
 ((stN 2 (ptr 375 0) (Value.agg (Array.mk [i64 2,i64 0])) (A152)).bind fun zh=>some (junk,zh))=some ((Value.tuple (Array.mk [])),A153),
 some (Value.int IntKind.u8 (wr IntKind.u8 (Int.ofNat (r/16777216))),A149)=some ((u8 (r/16777216)),A149),
 some (Value.int IntKind.u64 (Int.fdiv (Int.ofNat r) (Int.ofNat 16777216)),A149)=some ((u64 (r/16777216)),A149),
 some (Value.int IntKind.u8 (wr IntKind.u8 (Int.ofNat (r/65536))),A148)=some ((u8 (r/65536 % 256)),A148),
 some (Value.int IntKind.u64 (Int.fdiv (Int.ofNat r) (Int.ofNat 65536)),A148)=some ((u64 (r/65536)),A148),
 some (Value.int IntKind.u8 (wr IntKind.u8 (Int.ofNat (r/256))),A147)=some ((u8 (r/256 % 256)),A147),
 some (Value.int IntKind.u64 (Int.fdiv (Int.ofNat r) (Int.ofNat 256)),A147)=some ((u64 (r/256)),A147),
 some (Value.int IntKind.u8 (wr IntKind.u8 (Int.ofNat r)),A146)=some ((u8 (r % 256)),A146),
 some (Value.int IntKind.u64 (Int.fdiv (Int.ofNat r) (Int.ofNat 1)),A146)=some ((u64 r),A146),
 some (Value.int IntKind.u64 (Int.fdiv (Int.ofNat r) (Int.ofNat 4294967296)),A145)=some ((u64 0),A145),
 some (Value.int IntKind.u64 (wr IntKind.u64 (Int.ofNat r)),A145)=some ((u64 r),A145),
 some (Value.int IntKind.u32 (bitsOf IntKind.u32 Nat.xor (fun x1 x2=>x1 ^^^ x2) (Int.ofNat 4294967295) (Int.ofNat (refN 4294967295 (recL v n s)))),A144)=some ((u32 r),A144),
 Cs (6) (Value.func (Fn.func 37) (Array.mk []) (Array.mk [])) [(u32 4294967295),(sl 370 0 39 4611686018427387905)] (A143)=some ((u32 (refN 4294967295 (recL v n s))),A144),
 (some (i64 1):Option Value)=some (i64 1),
 ((stN 3 (ptr 357 0) (Value.agg (Array.mk [i64 1,fA 171 227 0,fA 172 227 0])) (A139)).bind fun zh=>some (junk,zh))=some ((Value.tuple (Array.mk [])),A140),
 (some (i64 4):Option Value)=some (i64 4),
 ((stN 3 (ptr 343 0) (Value.agg (Array.mk [i64 4,fA 125 201 0,fA 126 201 0])) (A135)).bind fun zh=>some (junk,zh))=some ((Value.tuple (Array.mk [])),A136),
 (some (i64 4):Option Value)=some (i64 4),
 ((stN 3 (ptr 329 0) (Value.agg (Array.mk [i64 4,fA 171 224 0,fA 172 224 0])) (A131)).bind fun zh=>some (junk,zh))=some ((Value.tuple (Array.mk [])),A132),
 (some (i64 4):Option Value)=some (i64 4),
 ((stN 3 (ptr 315 0) (Value.agg (Array.mk [i64 4,fA 171 222 0,fA 172 222 0])) (A127)).bind fun zh=>some (junk,zh))=some ((Value.tuple (Array.mk [])),A128),
 (some (i64 1):Option Value)=some (i64 1),
 ((stN 3 (ptr 301 0) (Value.agg (Array.mk [i64 1,fA 171 220 0,fA 172 220 0])) (A123)).bind fun zh=>some (junk,zh))=some ((Value.tuple (Array.mk [])),A124),
 (some (i64 4):Option Value)=some (i64 4),
 some (Value.int IntKind.u8 (wr IntKind.u8 (Int.ofNat (s/16777216))),A122)=some ((u8 (s/16777216)),A122),
 some (Value.int IntKind.u64 (Int.fdiv (Int.ofNat s) (Int.ofNat 16777216)),A122)=some ((u64 (s/16777216)),A122),
 some (Value.int IntKind.u8 (wr IntKind.u8 (Int.ofNat (s/65536))),A121)=some ((u8 (s/65536 % 256)),A121),
 some (Value.int IntKind.u64 (Int.fdiv (Int.ofNat s) (Int.ofNat 65536)),A121)=some ((u64 (s/65536)),A121),
 some (Value.int IntKind.u8 (wr IntKind.u8 (Int.ofNat (s/256))),A120)=some ((u8 (s/256 % 256)),A120),
 some (Value.int IntKind.u64 (Int.fdiv (Int.ofNat s) (Int.ofNat 256)),A120)=some ((u64 (s/256)),A120),
 some (Value.int IntKind.u8 (wr IntKind.u8 (Int.ofNat s)),A119)=some ((u8 (s % 256)),A119),
 some (Value.int IntKind.u64 (Int.fdiv (Int.ofNat s) (Int.ofNat 1)),A119)=some ((u64 s),A119),
 some (Value.int IntKind.u64 (Int.fdiv (Int.ofNat s) (Int.ofNat 4294967296)),A118)=some ((u64 0),A118),
 some (Value.int IntKind.u64 (wr IntKind.u64 (Int.ofNat s)),A117)=some ((u64 s),A117),
 ((stN 3 (ptr 287 0) (Value.agg (Array.mk [i64 4,fA 125 175 0,fA 126 175 0])) (A115)).bind fun zh=>some (junk,zh))=some ((Value.tuple (Array.mk [])),A116),
 (some (i64 4):Option Value)=some (i64 4),
 some (Value.int IntKind.u8 (wr IntKind.u8 (Int.ofNat (n/16777216))),A114)=some ((u8 (n/16777216)),A114),
 some (Value.int IntKind.u64 (Int.fdiv (Int.ofNat n) (Int.ofNat 16777216)),A114)=some ((u64 (n/16777216)),A114),
 some (Value.int IntKind.u8 (wr IntKind.u8 (Int.ofNat (n/65536))),A113)=some ((u8 (n/65536 % 256)),A113),
 some (Value.int IntKind.u64 (Int.fdiv (Int.ofNat n) (Int.ofNat 65536)),A113)=some ((u64 (n/65536)),A113),
 some (Value.int IntKind.u8 (wr IntKind.u8 (Int.ofNat (n/256))),A112)=some ((u8 (n/256 % 256)),A112),
 some (Value.int IntKind.u64 (Int.fdiv (Int.ofNat n) (Int.ofNat 256)),A112)=some ((u64 (n/256)),A112),
 some (Value.int IntKind.u8 (wr IntKind.u8 (Int.ofNat n)),A111)=some ((u8 (n % 256)),A111),
 some (Value.int IntKind.u64 (Int.fdiv (Int.ofNat n) (Int.ofNat 1)),A111)=some ((u64 n),A111),
 some (Value.int IntKind.u64 (Int.fdiv (Int.ofNat n) (Int.ofNat 4294967296)),A110)=some ((u64 0),A110),
 some (Value.int IntKind.u64 (wr IntKind.u64 (Int.ofNat n)),A109)=some ((u64 n),A109),
 ((stN 3 (ptr 273 0) (Value.agg (Array.mk [i64 4,fA 171 198 0,fA 172 198 0])) (A107)).bind fun zh=>some (junk,zh))=some ((Value.tuple (Array.mk [])),A108),
 (some (i64 4):Option Value)=some (i64 4),
 some (Value.int IntKind.u8 (wr IntKind.u8 (Int.ofNat (v/16777216))),A106)=some ((u8 (v/16777216)),A106),
 some (Value.int IntKind.u64 (Int.fdiv (Int.ofNat v) (Int.ofNat 16777216)),A106)=some ((u64 (v/16777216)),A106),
 some (Value.int IntKind.u8 (wr IntKind.u8 (Int.ofNat (v/65536))),A105)=some ((u8 (v/65536 % 256)),A105),
 some (Value.int IntKind.u64 (Int.fdiv (Int.ofNat v) (Int.ofNat 65536)),A105)=some ((u64 (v/65536)),A105),
 some (Value.int IntKind.u8 (wr IntKind.u8 (Int.ofNat (v/256))),A104)=some ((u8 (v/256 % 256)),A104),
 some (Value.int IntKind.u64 (Int.fdiv (Int.ofNat v) (Int.ofNat 256)),A104)=some ((u64 (v/256)),A104),
 some (Value.int IntKind.u8 (wr IntKind.u8 (Int.ofNat v)),A103)=some ((u8 (v % 256)),A103),
 some (Value.int IntKind.u64 (Int.fdiv (Int.ofNat v) (Int.ofNat 1)),A103)=some ((u64 v),A103),
 some (Value.int IntKind.u64 (Int.fdiv (Int.ofNat v) (Int.ofNat 4294967296)),A102)=some ((u64 0),A102),
 some (Value.int IntKind.u64 (wr IntKind.u64 (Int.ofNat v)),A101)=some ((u64 v),A101),
 ((stN 3 (ptr 259 0) (Value.agg (Array.mk [i64 4,fA 171 196 0,fA 172 196 0])) (A99)).bind fun zh=>some (junk,zh))=some ((Value.tuple (Array.mk [])),A100),
 (some (i64 1):Option Value)=some (i64 1),
 ((stN 3 (ptr 245 0) (Value.agg (Array.mk [i64 1,fA 171 194 0,fA 172 194 0])) (A95)).bind fun zh=>some (junk,zh))=some ((Value.tuple (Array.mk [])),A96),
 (some (i64 8):Option Value)=some (i64 8),
 ((stN 3 (ptr 231 0) (Value.agg (Array.mk [i64 8,fA 171 163 0,fA 172 163 0])) (A91)).bind fun zh=>some (junk,zh))=some ((Value.tuple (Array.mk [])),A92),
 ((stN 3 (ptr 228 0) (Value.agg (Array.mk [i64 1,fA 171 227 0,fA 172 227 0])) (A89)).bind fun zh=>some (junk,zh))=some ((Value.tuple (Array.mk [])),A90),
 (some (Value.agg (Array.mk [i64 4,fA 125 201 0,fA 126 201 0])):Option Value)=some (Value.agg (Array.mk [i64 4,fA 125 201 0,fA 126 201 0])),
 (some (Value.agg (Array.mk [i64 4,fA 125 201 0,fA 126 201 0])):Option Value)=some (Value.agg (Array.mk [i64 4,fA 125 201 0,fA 126 201 0])),
 (some (Value.agg (Array.mk [i64 4,fA 125 201 0,fA 126 201 0])):Option Value)=some (Value.agg (Array.mk [i64 4,fA 125 201 0,fA 126 201 0])),
 (some (Value.agg (Array.mk [i64 4,fA 125 201 0,fA 126 201 0])):Option Value)=some (Value.agg (Array.mk [i64 4,fA 125 201 0,fA 126 201 0])),
 (some (ptr 159 5):Option Value)=some (ptr 159 5),
 (some (ptr 159 5):Option Value)=some (ptr 159 5),
 (some (ptr 159 5):Option Value)=some (ptr 159 5),
 ((stN 3 (ptr 225 0) (Value.agg (Array.mk [i64 4,fA 171 224 0,fA 172 224 0])) (A86)).bind fun zh=>some (junk,zh))=some ((Value.tuple (Array.mk [])),A87),
 ((stN 3 (ptr 223 0) (Value.agg (Array.mk [i64 4,fA 171 222 0,fA 172 222 0])) (A83)).bind fun zh=>some (junk,zh))=some ((Value.tuple (Array.mk [])),A84),
 ((stN 3 (ptr 221 0) (Value.agg (Array.mk [i64 1,fA 171 220 0,fA 172 220 0])) (A80)).bind fun zh=>some (junk,zh))=some ((Value.tuple (Array.mk [])),A81),
 ((stN 3 (ptr 202 0) (Value.agg (Array.mk [i64 4,fA 125 201 0,fA 126 201 0])) (A77)).bind fun zh=>some (junk,zh))=some ((Value.tuple (Array.mk [])),A78),
 (some (Value.agg (Array.mk [i64 4,fA 125 175 0,fA 126 175 0])):Option Value)=some (Value.agg (Array.mk [i64 4,fA 125 175 0,fA 126 175 0])),
 (some (Value.agg (Array.mk [i64 4,fA 125 175 0,fA 126 175 0])):Option Value)=some (Value.agg (Array.mk [i64 4,fA 125 175 0,fA 126 175 0])),
 (some (Value.agg (Array.mk [i64 4,fA 125 175 0,fA 126 175 0])):Option Value)=some (Value.agg (Array.mk [i64 4,fA 125 175 0,fA 126 175 0])),
 (some (Value.agg (Array.mk [i64 4,fA 125 175 0,fA 126 175 0])):Option Value)=some (Value.agg (Array.mk [i64 4,fA 125 175 0,fA 126 175 0])),
 (some (ptr 159 1):Option Value)=some (ptr 159 1),
 (some (ptr 159 1):Option Value)=some (ptr 159 1),
 (some (ptr 159 1):Option Value)=some (ptr 159 1),
 ((stN 3 (ptr 199 0) (Value.agg (Array.mk [i64 4,fA 171 198 0,fA 172 198 0])) (A75)).bind fun zh=>some (junk,zh))=some ((Value.tuple (Array.mk [])),A76),
 ((stN 3 (ptr 197 0) (Value.agg (Array.mk [i64 4,fA 171 196 0,fA 172 196 0])) (A72)).bind fun zh=>some (junk,zh))=some ((Value.tuple (Array.mk [])),A73),
 ((stN 3 (ptr 195 0) (Value.agg (Array.mk [i64 1,fA 171 194 0,fA 172 194 0])) (A69)).bind fun zh=>some (junk,zh))=some ((Value.tuple (Array.mk [])),A70),
 ((stN 3 (ptr 176 0) (Value.agg (Array.mk [i64 4,fA 125 175 0,fA 126 175 0])) (A66)).bind fun zh=>some (junk,zh))=some ((Value.tuple (Array.mk [])),A67),
 ((stN 3 (ptr 164 0) (Value.agg (Array.mk [i64 8,fA 171 163 0,fA 172 163 0])) (A64)).bind fun zh=>some (junk,zh))=some ((Value.tuple (Array.mk [])),A65),
 some (Value.bool !ilt (Int.ofNat 16777216) (Int.ofNat n),A62)=some ((Value.bool true),A62),
 some (Value.bool !ilt (Int.ofNat 2147483647) (Int.ofNat v),A62)=some ((Value.bool true),A62),
 some (Value.bool !ilt (Int.ofNat v) (Int.ofNat 1),A62)=some ((Value.bool true),A62),
 ((stN 10 (ptr 158 0) (Value.agg (Array.mk [i64 0,i64 0,i64 0,i64 0,u32 0,i64 0,i64 0,i64 0,u32 0,i64 0])) (A57)).bind fun zh=>some (junk,zh))=some ((Value.tuple (Array.mk [])),A58),
 ((stN 10 (ptr 37 0) (Value.agg (Array.mk [i64 0,i64 0,i64 0,i64 0,u32 0,i64 0,i64 0,i64 0,u32 0,i64 0])) (A55)).bind fun zh=>some (junk,zh))=some ((Value.tuple (Array.mk [])),A56),
 ((stN 10 (ptr 157 0) (Value.agg (Array.mk [i64 0,i64 0,i64 0,i64 0,u32 0,i64 0,i64 0,i64 0,u32 0,i64 0])) (A54)).bind fun zh=>some (junk,zh))=some ((Value.tuple (Array.mk [])),A55),
 ((stN 10 (ptr 155 0) (Value.agg (Array.mk [i64 0,i64 0,i64 0,i64 0,u32 0,i64 0,i64 0,i64 0,u32 0,i64 0])) (A52)).bind fun zh=>some (junk,zh))=some ((Value.tuple (Array.mk [])),A53),
 ((cBytes (sl 109 0 4 pg) (A52)).bind fun zv=>some (zv,A52))=some ((Value.string (strOf (List.replicate 4 255))),A52),
 ((slS 1 (sl 109 0 pg pg) none (some (i64 4)) none).bind fun zv=>some (zv,A52))=some ((sl 109 0 4 pg),A52),
 some (Value.bool (ilt (Int.ofNat pg) (Int.ofNat 43)),A52)=some ((Value.bool false),A52),
 some (Value.int IntKind.i64 (wr IntKind.i64 (Int.ofNat pg-Int.ofNat pg)),A50)=some ((i64 0),A50),
 some (Value.int IntKind.i64 (wr IntKind.i64 (Int.ofNat (pg+pg))),A50)=some ((i64 (pg+pg)),A50),
 hApp 5 1 1 (sl 109 0 0 pg) (sl 127 0 pg pg) (A49)=some ((sl 109 0 pg pg),A50),
 ((slS 1 (sl 127 0 pg pg) none (some (i64 pg)) none).bind fun zv=>some (zv,A49))=some ((sl 127 0 pg pg),A49),
 some (Value.int IntKind.i64 (bif ilt (Int.ofNat pg) (Int.ofNat pg) then Int.ofNat pg else Int.ofNat pg),A49)=some ((i64 pg),A49),
 ((slS 1 (sl 127 0 pg pg) (some (i64 0)) none none).bind fun zv=>some (zv,A49))=some ((sl 127 0 pg pg),A49),
 ((kBin envT BinOp.rem 3 (bBin envT (TypeDesc.int IntKind.i64) BinOp.rem (iRem (i64 pg) (i64 pg)) (i64 pg) (i64 pg)) (i64 pg) (i64 pg)).bind fun zv=>some (zv,A49))=some ((i64 0),A49),
 Cs (5) (.func (.func 127) ⟨[]⟩ ⟨[]⟩) [(sl 127 0 pg pg)] A47=some ((Value.tuple (Array.mk [])),A48),
 (some (i64 pg):Option Value)=some (i64 pg),
 mkD (pg) (pg) (127) (A45)=some ((sl 127 0 pg pg),A46),
 ((kBin envT BinOp.quo 3 (bBin envT (TypeDesc.int IntKind.i64) BinOp.quo (iQuo (i64 pg) (i64 pg)) (i64 pg) (i64 pg)) (i64 pg) (i64 pg)).bind fun zv=>some (zv,A44))=some ((i64 1),A44),
 some (Value.bool (ilt (Int.ofNat 0) (Int.ofNat pg)),A44)=some ((Value.bool true),A44),
 hMk 1 [u8 0] (i64 0) (i64 pg) (A43)=some ((sl 109 0 0 pg),A44),
 some (Value.bool (ilt (Int.ofNat pg) (Int.ofNat pg)),A43)=some ((Value.bool false),A43),
 some (Value.int IntKind.i64 (wr IntKind.i64 (Int.ofNat (2*pg)-Int.ofNat pg)),A43)=some ((i64 pg),A43),
 some (Value.bool (ilt (Int.ofNat (2*pg)) (Int.ofNat pg)),A43)=some ((Value.bool false),A43),
 some (Value.bool (ieq (Int.ofNat (2*pg)) (Int.ofNat 0)),A43)=some ((Value.bool false),A43),
 (some (i64 pg):Option Value)=some (i64 pg),
 some (Value.int IntKind.i64 (wr IntKind.i64 (Int.ofNat (2*pg))),A43)=some ((i64 (2*pg)),A43),
 some (Value.int IntKind.i64 (wr IntKind.i64 (Int.ofNat (1*pg))),A41)=some ((i64 pg),A41),
 ((stN 10 (ptr 98 0) (Value.agg (Array.mk [i64 0,i64 0,i64 0,i64 0,u32 0,i64 0,i64 0,i64 0,u32 0,i64 0])) (A40)).bind fun zh=>some (junk,zh))=some ((Value.tuple (Array.mk [])),A41),
 ((stN 10 (ptr 96 0) (Value.agg (Array.mk [i64 0,i64 0,i64 0,i64 0,u32 0,i64 0,i64 0,i64 0,u32 0,i64 0])) (A38)).bind fun zh=>some (junk,zh))=some ((Value.tuple (Array.mk [])),A39),
 ((cBytes (sl 50 0 4 pg) (A38)).bind fun zv=>some (zv,A38))=some ((Value.string (strOf (List.replicate 4 255))),A38),
 ((slS 1 (sl 50 0 pg pg) none (some (i64 4)) none).bind fun zv=>some (zv,A38))=some ((sl 50 0 4 pg),A38),
 some (Value.bool (ilt (Int.ofNat pg) (Int.ofNat 43)),A38)=some ((Value.bool false),A38),
 some (Value.int IntKind.i64 (wr IntKind.i64 (Int.ofNat pg-Int.ofNat pg)),A36)=some ((i64 0),A36),
 some (Value.int IntKind.i64 (wr IntKind.i64 (Int.ofNat (0+pg))),A36)=some ((i64 pg),A36),
 hApp 5 1 1 (sl 50 0 0 pg) (sl 68 0 pg pg) (A35)=some ((sl 50 0 pg pg),A36),
 ((slS 1 (sl 68 0 pg pg) none (some (i64 pg)) none).bind fun zv=>some (zv,A35))=some ((sl 68 0 pg pg),A35),
 some (Value.int IntKind.i64 (bif ilt (Int.ofNat pg) (Int.ofNat pg) then Int.ofNat pg else Int.ofNat pg),A35)=some ((i64 pg),A35),
 ((slS 1 (sl 68 0 pg pg) (some (i64 0)) none none).bind fun zv=>some (zv,A35))=some ((sl 68 0 pg pg),A35),
 ((kBin envT BinOp.rem 3 (bBin envT (TypeDesc.int IntKind.i64) BinOp.rem (iRem (i64 0) (i64 pg)) (i64 0) (i64 pg)) (i64 0) (i64 pg)).bind fun zv=>some (zv,A35))=some ((i64 0),A35),
 Cs (5) (.func (.func 127) ⟨[]⟩ ⟨[]⟩) [(sl 68 0 pg pg)] A33=some ((Value.tuple (Array.mk [])),A34),
 (some (i64 pg):Option Value)=some (i64 pg),
 mkD (pg) (pg) (68) (A31)=some ((sl 68 0 pg pg),A32),
 ((kBin envT BinOp.quo 3 (bBin envT (TypeDesc.int IntKind.i64) BinOp.quo (iQuo (i64 0) (i64 pg)) (i64 0) (i64 pg)) (i64 0) (i64 pg)).bind fun zv=>some (zv,A30))=some ((i64 0),A30),
 some (Value.bool (ilt (Int.ofNat 0) (Int.ofNat pg)),A30)=some ((Value.bool true),A30),
 hMk 1 [u8 0] (i64 0) (i64 pg) (A29)=some ((sl 50 0 0 pg),A30),
 some (Value.bool (ilt (Int.ofNat (2*pg)) (Int.ofNat pg)),A29)=some ((Value.bool false),A29),
 some (Value.int IntKind.i64 (wr IntKind.i64 (Int.ofNat (2*pg+0))),A29)=some ((i64 (2*pg)),A29),
 some (Value.bool (ieq (Int.ofNat (2*pg)) (Int.ofNat 0)),A29)=some ((Value.bool false),A29),
 (some (i64 pg):Option Value)=some (i64 pg),
 some (Value.int IntKind.i64 (wr IntKind.i64 (Int.ofNat (2*pg))),A29)=some ((i64 (2*pg)),A29),
 some (Value.int IntKind.i64 (wr IntKind.i64 (Int.ofNat (0*pg))),A27)=some ((i64 0),A27),
 ((stN 10 (ptr 39 0) (Value.agg (Array.mk [i64 0,i64 0,i64 0,i64 0,u32 0,i64 0,i64 0,i64 0,u32 0,i64 0])) (A26)).bind fun zh=>some (junk,zh))=some ((Value.tuple (Array.mk [])),A27),
 ((stN 2 (ptr 38 0) (Value.agg (Array.mk [i64 pg,i64 k])) (A24)).bind fun zh=>some (junk,zh))=some ((Value.tuple (Array.mk [])),A25),
 ((stN 10 (ptr 34 0) (Value.agg (Array.mk [i64 1,i64 0,i64 v,i64 n,u32 s,i64 0,i64 0,i64 0,u32 0,i64 0])) (A20)).bind fun zh=>some (junk,zh))=some ((Value.tuple (Array.mk [])),A21),
 ((stN 10 (ptr 29 0) (Value.agg (Array.mk [i64 1,i64 0,i64 v,i64 n,u32 s,i64 0,i64 0,i64 0,u32 0,i64 0])) (A18)).bind fun zh=>some (junk,zh))=some ((Value.tuple (Array.mk [])),A19),
 ((stN 10 (ptr 31 0) (Value.agg (Array.mk [i64 1,i64 0,i64 v,i64 n,u32 s,i64 0,i64 0,i64 0,u32 0,i64 0])) (A16)).bind fun zh=>some (junk,zh))=some ((Value.tuple (Array.mk [])),A17),
 some (Value.bool !ilt (Int.ofNat 16777216) (Int.ofNat n),A15)=some ((Value.bool true),A15),
 some (Value.bool !ilt (Int.ofNat 2147483647) (Int.ofNat v),A15)=some ((Value.bool true),A15),
 some (Value.bool !ilt (Int.ofNat v) (Int.ofNat 1),A15)=some ((Value.bool true),A15),
 some (Value.int IntKind.u32 (bitsOf IntKind.u32 Nat.xor (fun x1 x2=>x1 ^^^ x2) (Int.ofNat 4294967295) (Int.ofNat (refN 4294967295 xs))),A10)=some ((u32 s),A10),
 Cs (8) (Value.func (Fn.func 37) (Array.mk []) (Array.mk [])) [(u32 4294967295),(Value.slice ia n c)] (A9)=some ((u32 (refN 4294967295 xs)),A10),
 some (Value.int IntKind.i64 (wr IntKind.i64 (Int.ofNat (pg*k))),A7)=some ((i64 (pg*k)),A7),
 hCopy 1 (sl 16 0 n n) (Value.slice ia n c) (A5)=some ((i64 n),A6),
 hMk 1 [u8 0] (i64 n) (i64 n) (A4)=some ((sl 16 0 n n),A5),
 some (Value.bool (ilt (Int.ofNat (pg*k)) (Int.ofNat n)),A3)=some ((Value.bool false),A3),
 some (Value.int IntKind.i64 (wr IntKind.i64 (Int.ofNat (pg*k))),A3)=some ((i64 (pg*k)),A3),
 some (Value.bool (ilt (Int.ofNat 4096) (Int.ofNat k)),A2)=some ((Value.bool false),A2),
 some (Value.bool (ilt (Int.ofNat k) (Int.ofNat 1)),A2)=some ((Value.bool false),A2),
 some (Value.bool (ilt (Int.ofNat 4096) (Int.ofNat pg)),A2)=some ((Value.bool false),A2),
 some (Value.bool (ilt (Int.ofNat pg) (Int.ofNat 64)),A2)=some ((Value.bool false),A2)]):=by kernel_rfl
theorem p4 (hia:IA ia 0 n c) (hp:64≤pg) (hp2:pg≤4096) (hk:1≤k) (hk2:k≤4096) (hn:n≤pg*k) (hm:pg*k≤16777216) (hv:1≤v) (hv2:v≤2147483647) (hsl:s<4294967296) (hrl:r<4294967296) (hx:xs.length=n) (hb:∀ x ∈ xs,x<256) (hs:sumN xs=s) (hr:sumN (recL v n s)=r):denG envT (orcS envT (tbD pg k n c s v ia xs) BIG 9) BIG 4 [(Value.agg (Array.mk [i64 pg,i64 k])),(Value.slice ia n c),(i64 v)] (mkH 2 [(0,some (im xs)),(1,some (shB pg k))])=some ((Value.tuple (Array.mk [ptr 489 0,i64 0])),A183):=
 rySD_sound (p4_ok (orcS envT (tbD pg k n c s v ia xs) BIG))<|gc (by kernel_rfl)<|
 gc (by kernel_rfl)<|
 gc (kr (cpy (by omega) (by first|assumption|rfl|(simp;done)|omega|(simp;omega)) (bys_c (ys:=recA v n s r) rfl (by kernel_rfl) (by repeat (first|exact lts_nil|refine lts_cons (by omega) ?_))) (by kernel_rfl:AH.get (A177) (68)=some B90) (has_fill (has_fill (has_fill (has_zrep (by omega)))))) (by kernel_rfl))<|
 gc (by kernel_rfl)<|
 gc (kr (c127 (by omega) (by kernel_rfl:AH.get (A173) (68)=some B84) (has_fill (has_fill (has_zrep (by omega))))) (by kernel_rfl))<|
 gc (rfl)<|
 gc (rfl)<|
 gc (by kernel_rfl)<|
 gc (by kernel_rfl)<|
 gc (kr (cB (congrArg (fun z=>z) (ltF (by omega):ilt (Int.ofNat pg) (Int.ofNat 43)=false))) (by kernel_rfl))<|
 gc (by kernel_rfl)<|
 gc (kr (c127 (by omega) (by kernel_rfl:AH.get (A160) (68)=some B18) (has_fill (has_zrep (by omega)))) (by kernel_rfl))<|
 gc (rfl)<|
 gc (rfl)<|
 gc (by kernel_rfl)<|
 gc (by kernel_rfl)<|
 gc (rfl)<|
 gc (by kernel_rfl)<|
 gc (cI (wrE 256 rfl (by omega) (by omega)))<|
 gc (kr (cI (fdE (by omega))) (by kernel_rfl))<|
 gc (cI (wrM8 (by omega)))<|
 gc (kr (cI (fdE (by omega))) (by kernel_rfl))<|
 gc (cI (wrM8 (by omega)))<|
 gc (kr (cI (fdE (by omega))) (by kernel_rfl))<|
 gc (cI (wrM8 (by omega)))<|
 gc (kr (cI (fdE (by omega))) (by kernel_rfl))<|
 gc (cI (fdE (by omega)))<|
 gc (kr (cI (wrE 18446744073709551616 rfl (by omega) (by omega))) (by kernel_rfl))<|
 gc (cI (not_sum hr))<|
 gc (kr (thr37 (by first|assumption|rfl|(simp;done)|omega|(simp;omega)) (bys_c (ys:=recL v n s) rfl (by kernel_rfl) (by repeat (first|exact lts_nil|refine lts_cons (by omega) ?_))) (by omega) (by omega)) (by kernel_rfl))<|
 gc (rfl)<|
 gc (by kernel_rfl)<|
 gc (rfl)<|
 gc (by kernel_rfl)<|
 gc (rfl)<|
 gc (by kernel_rfl)<|
 gc (rfl)<|
 gc (by kernel_rfl)<|
 gc (rfl)<|
 gc (by kernel_rfl)<|
 gc (rfl)<|
 gc (cI (wrE 256 rfl (by omega) (by omega)))<|
 gc (kr (cI (fdE (by omega))) (by kernel_rfl))<|
 gc (cI (wrM8 (by omega)))<|
 gc (kr (cI (fdE (by omega))) (by kernel_rfl))<|
 gc (cI (wrM8 (by omega)))<|
 gc (kr (cI (fdE (by omega))) (by kernel_rfl))<|
 gc (cI (wrM8 (by omega)))<|
 gc (kr (cI (fdE (by omega))) (by kernel_rfl))<|
 gc (kr (cI (fdE (by omega))) (by kernel_rfl))<|
 gc (kr (cI (wrE 18446744073709551616 rfl (by omega) (by omega))) (by kernel_rfl))<|
 gc (by kernel_rfl)<|
 gc (rfl)<|
 gc (cI (wrE 256 rfl (by omega) (by omega)))<|
 gc (kr (cI (fdE (by omega))) (by kernel_rfl))<|
 gc (cI (wrM8 (by omega)))<|
 gc (kr (cI (fdE (by omega))) (by kernel_rfl))<|
 gc (cI (wrM8 (by omega)))<|
 gc (kr (cI (fdE (by omega))) (by kernel_rfl))<|
 gc (cI (wrM8 (by omega)))<|
 gc (kr (cI (fdE (by omega))) (by kernel_rfl))<|
 gc (kr (cI (fdE (by omega))) (by kernel_rfl))<|
 gc (kr (cI (wrE 18446744073709551616 rfl (by omega) (by omega))) (by kernel_rfl))<|
 gc (by kernel_rfl)<|
 gc (rfl)<|
 gc (cI (wrE 256 rfl (by omega) (by omega)))<|
 gc (kr (cI (fdE (by omega))) (by kernel_rfl))<|
 gc (cI (wrM8 (by omega)))<|
 gc (kr (cI (fdE (by omega))) (by kernel_rfl))<|
 gc (cI (wrM8 (by omega)))<|
 gc (kr (cI (fdE (by omega))) (by kernel_rfl))<|
 gc (cI (wrM8 (by omega)))<|
 gc (kr (cI (fdE (by omega))) (by kernel_rfl))<|
 gc (kr (cI (fdE (by omega))) (by kernel_rfl))<|
 gc (kr (cI (wrE 18446744073709551616 rfl (by omega) (by omega))) (by kernel_rfl))<|
 gc (by kernel_rfl)<|
 gc (rfl)<|
 gc (by kernel_rfl)<|
 gc (rfl)<|
 gc (by kernel_rfl)<|
 gc (by kernel_rfl)<|
 gc (rfl)<|
 gc (rfl)<|
 gc (rfl)<|
 gc (rfl)<|
 gc (rfl)<|
 gc (rfl)<|
 gc (rfl)<|
 gc (by kernel_rfl)<|
 gc (by kernel_rfl)<|
 gc (by kernel_rfl)<|
 gc (by kernel_rfl)<|
 gc (rfl)<|
 gc (rfl)<|
 gc (rfl)<|
 gc (rfl)<|
 gc (rfl)<|
 gc (rfl)<|
 gc (rfl)<|
 gc (by kernel_rfl)<|
 gc (by kernel_rfl)<|
 gc (by kernel_rfl)<|
 gc (by kernel_rfl)<|
 gc (by kernel_rfl)<|
 gc (cB (congrArg (fun z=>!z) (ltF (by omega):ilt (Int.ofNat 16777216) (Int.ofNat n)=false)))<|
 gc (cB (congrArg (fun z=>!z) (ltF (by omega):ilt (Int.ofNat 2147483647) (Int.ofNat v)=false)))<|
 gc (kr (cB (congrArg (fun z=>!z) (ltF (by omega):ilt (Int.ofNat v) (Int.ofNat 1)=false))) (by kernel_rfl))<|
 gc (by kernel_rfl)<|
 gc (by kernel_rfl)<|
 gc (by kernel_rfl)<|
 gc (by kernel_rfl)<|
 gc (cb (by first|assumption|rfl|(simp;done)|omega|(simp;omega)) (bys_rep (m:=4) (bys_puts lt_rep (by kernel_rfl:AH.get (A52) (109)=some B20)) (by omega)))<|
 gc (slU_k rfl (vNat_some (by omega)) (by omega) (by omega) (by omega) (by omega) (by omega))<|
 gc (kr (cB (congrArg (fun z=>z) (ltF (by omega):ilt (Int.ofNat pg) (Int.ofNat 43)=false))) (by kernel_rfl))<|
 gc (cI (subE (by omega) (by omega) (by omega)))<|
 gc (cI (wrE 9223372036854775808 rfl (by omega) (by omega)))<|
 gc (kr (app_in (by first|assumption|rfl|(simp;done)|omega|(simp;omega)) (bys_fill (m:=pg) (by omega) (by kernel_rfl:AH.get (A49) (127)=some B18)) (by kernel_rfl:AH.get (A49) (109)=some B15) (has_zrep (by omega)) (by omega) (by omega) (by omega) (by omega)) (by kernel_rfl))<|
 gc (slU_k rfl (vNat_some (by omega)) (by omega) (by omega) (by omega) (by omega) (by omega))<|
 gc (kr (cI (congrArg (fun z:Bool=>bif z then Int.ofNat pg else Int.ofNat pg) (congrArg (fun z=>z) (ltF (by omega):ilt (Int.ofNat pg) (Int.ofNat pg)=false)))) (by kernel_rfl))<|
 gc (slU_k (vNat_some (by omega)) rfl (by omega) (by omega) (by omega) (by omega) (by omega))<|
 gc (remE (by omega) (by first|rfl|assumption|omega|simp (disch:=omega) [Nat.div_self,Nat.div_div_eq_div_mul,Nat.mul_div_cancel]))<|
 gc (kr (c127 (by omega) (by kernel_rfl:AH.get (A47) (127)=some B15) (has_zrep (by omega))) (by kernel_rfl))<|
 gc (rfl)<|
 gc (kr (mkDE (by omega) (by omega)) (by kernel_rfl))<|
 gc (quoE (by omega) (by first|rfl|assumption|omega|simp (disch:=omega) [Nat.div_self,Nat.div_div_eq_div_mul,Nat.mul_div_cancel]) (by omega))<|
 gc (cB (congrArg (fun z=>z) (ltT (by omega):ilt (Int.ofNat 0) (Int.ofNat pg)=true)))<|
 gc (kr (mkS' (by omega) (by omega)) (by kernel_rfl))<|
 gc (cB (congrArg (fun z=>z) (ltF (by omega):ilt (Int.ofNat pg) (Int.ofNat pg)=false)))<|
 gc (cI (subE (by omega) (by omega) (by omega)))<|
 gc (cB (congrArg (fun z=>z) (ltF (by omega):ilt (Int.ofNat (2*pg)) (Int.ofNat pg)=false)))<|
 gc (kr (cB (congrArg (fun z=>z) (eqF (by omega):ieq (Int.ofNat (2*pg)) (Int.ofNat 0)=false))) (by kernel_rfl))<|
 gc (rfl)<|
 gc (cI (wrE 9223372036854775808 rfl (by omega) (by omega)))<|
 gc (cI (wrE 9223372036854775808 rfl (by omega) (by omega)))<|
 gc (by kernel_rfl)<|
 gc (by kernel_rfl)<|
 gc (cb (by first|assumption|rfl|(simp;done)|omega|(simp;omega)) (bys_rep (m:=4) (bys_puts lt_rep (by kernel_rfl:AH.get (A38) (50)=some B20)) (by omega)))<|
 gc (slU_k rfl (vNat_some (by omega)) (by omega) (by omega) (by omega) (by omega) (by omega))<|
 gc (kr (cB (congrArg (fun z=>z) (ltF (by omega):ilt (Int.ofNat pg) (Int.ofNat 43)=false))) (by kernel_rfl))<|
 gc (cI (subE (by omega) (by omega) (by omega)))<|
 gc (cI (wrE 9223372036854775808 rfl (by omega) (by omega)))<|
 gc (kr (app_in (by first|assumption|rfl|(simp;done)|omega|(simp;omega)) (bys_fill (m:=pg) (by omega) (by kernel_rfl:AH.get (A35) (68)=some B18)) (by kernel_rfl:AH.get (A35) (50)=some B15) (has_zrep (by omega)) (by omega) (by omega) (by omega) (by omega)) (by kernel_rfl))<|
 gc (slU_k rfl (vNat_some (by omega)) (by omega) (by omega) (by omega) (by omega) (by omega))<|
 gc (kr (cI (congrArg (fun z:Bool=>bif z then Int.ofNat pg else Int.ofNat pg) (congrArg (fun z=>z) (ltF (by omega):ilt (Int.ofNat pg) (Int.ofNat pg)=false)))) (by kernel_rfl))<|
 gc (slU_k (vNat_some (by omega)) rfl (by omega) (by omega) (by omega) (by omega) (by omega))<|
 gc (remE (by omega) (by first|rfl|assumption|omega|simp (disch:=omega) [Nat.div_self,Nat.div_div_eq_div_mul,Nat.mul_div_cancel]))<|
 gc (kr (c127 (by omega) (by kernel_rfl:AH.get (A33) (68)=some B15) (has_zrep (by omega))) (by kernel_rfl))<|
 gc (rfl)<|
 gc (kr (mkDE (by omega) (by omega)) (by kernel_rfl))<|
 gc (quoE (by omega) (by first|rfl|assumption|omega|simp (disch:=omega) [Nat.div_self,Nat.div_div_eq_div_mul,Nat.mul_div_cancel]) (by omega))<|
 gc (cB (congrArg (fun z=>z) (ltT (by omega):ilt (Int.ofNat 0) (Int.ofNat pg)=true)))<|
 gc (kr (mkS' (by omega) (by omega)) (by kernel_rfl))<|
 gc (cB (congrArg (fun z=>z) (ltF (by omega):ilt (Int.ofNat (2*pg)) (Int.ofNat pg)=false)))<|
 gc (cI (wrE 9223372036854775808 rfl (by omega) (by omega)))<|
 gc (kr (cB (congrArg (fun z=>z) (eqF (by omega):ieq (Int.ofNat (2*pg)) (Int.ofNat 0)=false))) (by kernel_rfl))<|
 gc (rfl)<|
 gc (cI (wrE 9223372036854775808 rfl (by omega) (by omega)))<|
 gc (cI (wrE 9223372036854775808 rfl (by omega) (by omega)))<|
 gc (by kernel_rfl)<|
 gc (by kernel_rfl)<|
 gc (by kernel_rfl)<|
 gc (by kernel_rfl)<|
 gc (by kernel_rfl)<|
 gc (cB (congrArg (fun z=>!z) (ltF (by omega):ilt (Int.ofNat 16777216) (Int.ofNat n)=false)))<|
 gc (cB (congrArg (fun z=>!z) (ltF (by omega):ilt (Int.ofNat 2147483647) (Int.ofNat v)=false)))<|
 gc (kr (cB (congrArg (fun z=>!z) (ltF (by omega):ilt (Int.ofNat v) (Int.ofNat 1)=false))) (by kernel_rfl))<|
 gc (cI (not_sum hs))<|
 gc (kr (thrI hia (by first|assumption|rfl|(simp;done)|omega|(simp;omega)) (bys_im hb (by kernel_rfl:AH.get (A9) (0)=some B5)) (by omega) (by omega)) (by kernel_rfl))<|
 gc (kr (cI (wrE 9223372036854775808 rfl (by omega) (by omega))) (by kernel_rfl))<|
 gc (kr (cpyI hia (by first|assumption|rfl|(simp;done)|omega|(simp;omega)) (by omega) (bys_im hb (by kernel_rfl:AH.get (A5) (0)=some B5)) (by kernel_rfl:AH.get (A5) (16)=some B4) (has_zrep (by omega))) (by kernel_rfl))<|
 gc (kr (mkS' (by omega) (by omega)) (by kernel_rfl))<|
 gc (cB (congrArg (fun z=>z) (ltF (by omega):ilt (Int.ofNat (pg*k)) (Int.ofNat n)=false)))<|
 gc (kr (cI (wrE 9223372036854775808 rfl (by omega) (by omega))) (by kernel_rfl))<|
 gc (cB (congrArg (fun z=>z) (ltF (by omega):ilt (Int.ofNat 4096) (Int.ofNat k)=false)))<|
 gc (cB (congrArg (fun z=>z) (ltF (by omega):ilt (Int.ofNat k) (Int.ofNat 1)=false)))<|
 gc (cB (congrArg (fun z=>z) (ltF (by omega):ilt (Int.ofNat 4096) (Int.ofNat pg)=false)))<|
 gc (kr (cB (congrArg (fun z=>z) (ltF (by omega):ilt (Int.ofNat pg) (Int.ofNat 64)=false))) (by kernel_rfl))<|
 gn
def p4_end:AH:=AH.mk 490 (.node (some (im xs)) (.node (some (shB pg k)) (.node (some B0) (.node (some B89) (.node none (.node (some B97) (.node none (.node (some B18) .leaf .leaf) (.node (some B34) .leaf .leaf)) (.node none (.node (some B13) (.node (some B98) .leaf .leaf) (.node (some B99) .leaf .leaf)) (.node (some B100) .leaf .leaf))) (.node none (.node none (.node none (.node (some B54) .leaf .leaf) .leaf) .leaf) (.node none (.node (some B30) .leaf .leaf) .leaf))) (.node none (.node (some B12) (.node none .leaf (.node (some B101) (.node (some B50) .leaf .leaf) (.node (some B102) .leaf .leaf))) (.node none .leaf (.node (some B103) .leaf .leaf))) (.node none (.node none .leaf (.node none (.node (some B104) .leaf .leaf) .leaf)) (.node none .leaf (.node none (.node (some B105) .leaf .leaf) .leaf))))) (.node none (.node none (.node (some B13) (.node none (.node none (.node (some B106) .leaf .leaf) .leaf) (.node (some B107) .leaf .leaf)) (.node none (.node (some B25) .leaf .leaf) (.node (some B42) (.node (some B50) .leaf .leaf) .leaf))) (.node (some B16) (.node none .leaf (.node none .leaf (.node (some B88) .leaf .leaf))) (.node none .leaf (.node (some B46) (.node (some B71) .leaf .leaf) .leaf)))) (.node none (.node none (.node (some B93) .leaf .leaf) (.node none (.node none (.node (some B64) .leaf .leaf) (.node none .leaf .leaf)) .leaf)) (.node none (.node none (.node (some B12) .leaf .leaf) .leaf) (.node none (.node none (.node (some B100) .leaf .leaf) .leaf) .leaf))))) (.node (some B23) (.node none (.node none (.node (some B11) (.node none (.node none (.node (some B48) .leaf .leaf) .leaf) .leaf) (.node (some B12) (.node (some B11) .leaf .leaf) (.node (some B108) .leaf .leaf))) (.node none (.node none (.node none (.node (some B101) .leaf .leaf) .leaf) .leaf) (.node none .leaf (.node none (.node (some B48) .leaf .leaf) .leaf)))) (.node (some B8) (.node none (.node none .leaf (.node (some B36) (.node (some B108) .leaf .leaf) .leaf)) (.node none .leaf (.node none .leaf (.node (some B94) .leaf .leaf)))) (.node none (.node none .leaf (.node (some B40) .leaf .leaf)) (.node none (.node none (.node (some B48) .leaf .leaf) (.node (some B16) .leaf .leaf)) .leaf)))) (.node none (.node none (.node (some B12) (.node none .leaf (.node (some B106) .leaf (.node (some B86) .leaf .leaf))) (.node none (.node (some B27) .leaf .leaf) (.node (some B43) (.node (some B109) .leaf .leaf) .leaf))) (.node none (.node none .leaf (.node none (.node (some B50) .leaf .leaf) .leaf)) (.node none .leaf (.node (some B107) (.node (some B75) .leaf .leaf) .leaf)))) (.node (some B97) (.node none .leaf (.node (some B20) (.node none (.node (some B110) .leaf .leaf) .leaf) .leaf)) (.node none (.node none (.node (some B12) (.node (some B59) .leaf .leaf) (.node (some B16) .leaf .leaf)) (.node (some B110) .leaf .leaf)) .leaf))))) (.node (some B0) (.node (some B1) (.node none (.node (some B6) (.node (some B13) .leaf (.node (some B12) (.node (some B13) .leaf .leaf) (.node (some B39) .leaf (.node (some B111) .leaf .leaf)))) (.node none (.node none (.node none (.node none .leaf .leaf) .leaf) .leaf) (.node none (.node (some B98) .leaf .leaf) .leaf))) (.node none (.node none (.node none .leaf (.node none (.node none .leaf .leaf) .leaf)) (.node none .leaf (.node none .leaf (.node (some B97) .leaf .leaf)))) (.node none .leaf (.node none (.node none .leaf (.node (some B112) .leaf .leaf)) .leaf)))) (.node none (.node none (.node (some B97) (.node (some B92) .leaf (.node (some B32) .leaf .leaf)) (.node none (.node (some B103) .leaf .leaf) (.node (some B109) (.node none .leaf .leaf) .leaf))) (.node none (.node none .leaf (.node none .leaf (.node (some B16) .leaf .leaf))) (.node none .leaf (.node none .leaf .leaf)))) (.node (some B11) (.node none .leaf (.node none (.node (some B28) (.node none .leaf .leaf) (.node (some B16) .leaf .leaf)) .leaf)) (.node none (.node none (.node (some B12) .leaf .leaf) (.node (some B37) .leaf .leaf)) .leaf)))) (.node (some B79) (.node none (.node none (.node (some B97) (.node none (.node none (.node none .leaf .leaf) .leaf) (.node (some B31) .leaf .leaf)) (.node (some B12) (.node (some B24) .leaf .leaf) (.node none .leaf .leaf))) (.node (some B20) .leaf (.node none .leaf (.node none (.node none .leaf .leaf) .leaf)))) (.node (some B10) (.node none (.node none .leaf (.node (some B104) .leaf .leaf)) .leaf) (.node none .leaf (.node none (.node none (.node none .leaf .leaf) .leaf) .leaf)))) (.node none (.node none (.node (some B113) (.node none (.node (some B22) .leaf .leaf) (.node (some B33) .leaf (.node (some B102) .leaf .leaf))) (.node none (.node none .leaf (.node (some B81) .leaf .leaf)) (.node (some B44) .leaf .leaf))) (.node none (.node none .leaf (.node none (.node none .leaf .leaf) .leaf)) (.node none .leaf (.node none (.node (some B76) .leaf .leaf) .leaf)))) (.node (some B13) (.node none (.node none .leaf (.node none .leaf (.node (some B87) .leaf .leaf))) (.node (some B21) .leaf .leaf)) (.node none (.node none (.node (some B12) (.node none .leaf .leaf) (.node (some B99) .leaf .leaf)) (.node (some B38) .leaf .leaf)) .leaf)))))) []
theorem p4_endE:A183=p4_end:=by kernel_rfl
end Go.Proofs.YtejgabehfdapjaaGreat.Sym.D
