/- The law, where all is within bounds. Conditions: none. -/
import Derived.Test.YtejgabehfdapjaaGreatMf
set_option maxRecDepth 100000
set_option maxHeartbeats 4000000
namespace Go.Proofs.YtejgabehfdapjaaGreat.Sym.D
open Go.Den
variable [Inhabited Q]
def O0:AObj:=(.cells (ofC [(i64 pg),(i64 k)]) (2) (0))
def H1:AH:=AH.new ((mkH 1 [(0,some (im xs))])) O0
def H2:AH:=p4_end
def H3:AH:=p5_end
def H4:AH:=AH.wdf (H3) (AH.df (H3))
def H5:AH:=AH.mk 39155 (AH.mem (H4)) []
def O114:AObj:=(.cells (ofC [(i64 0),(i64 0),(i64 0),(u32 0)]) (4) (86))
def H6:AH:=AH.new (H5) O114
def H7:AH:=AH.wdf (H6) (AH.df (H6))
def H8:AH:=stG (H7) 39155 0 [(i64 0),(i64 0),(i64 0),(u32 0)]
def H9:AH:=AH.new (AH.wdf (H8) (AH.df (H5))) O114
def H10:AH:=stG (H9) 39156 0 [(i64 0),(i64 0),(i64 0),(u32 0)]
def O115:AObj:=(.cells (ofC [(i64 0),(i64 0),(u32 0),(u32 0),(i64 0),(i64 0)]) (6) (168))
def H11:AH:=AH.new (H10) O115
def H12:AH:=AH.wdf (H11) (AH.df (H11))
def H13:AH:=stG (H12) 39157 0 [(i64 0),(i64 0),(u32 0),(u32 0),(i64 0),(i64 0)]
def H14:AH:=AH.new (AH.wdf (H13) (AH.df (H10))) O115
def H15:AH:=stG (H14) 39158 0 [(i64 0),(i64 0),(u32 0),(u32 0),(i64 0),(i64 0)]
def O116:AObj:=(.cells (ofC [(i64 0),(i64 0),(i64 0),(i64 0),(u32 0),(i64 0),(i64 0),(i64 0),(u32 0),(i64 0)]) (10) (90))
def H16:AH:=AH.new (H15) O116
def H17:AH:=AH.wdf (H16) (AH.df (H16))
def H18:AH:=AH.new (H17) O116
def O117:AObj:=(.cells (ofC [(i64 0),(i64 0)]) (2) (48))
def H19:AH:=AH.new (H18) O117
def H20:AH:=stG (H19) 39161 0 [(i64 pg),(i64 k)]
def H21:AH:=AH.new (AH.wdf (H20) (AH.df (H18))) O116
def H22:AH:=stG (H21) 39162 0 [(i64 0),(i64 0),(i64 0),(i64 0),(u32 0),(i64 0),(i64 0),(i64 0),(u32 0),(i64 0)]
def H23:AH:=AH.mk 39173 (AH.mem (AH.wdf (H22) (AH.df (H22)))) []
def H24:AH:=AH.wdf (H23) (AH.df (H23))
def O118:AObj:=(.cells (zrep [u8 0] pg) (pg) (0))
def H25:AH:=AH.new (H24) O118
def O119:AObj:=(.cells (ofC [(i64 2),(i64 0)]) (2) (0))
def H26:AH:=AH.mk 39199 (AH.mem (AH.wdf (AH.mk 39186 (AH.mem (AH.new (H25) O119)) []) (AH.df (H25)))) []
def O120:AObj:=(.cells (PT.puts (fillC (fillC (fillC (zrep [u8 0] pg) 0 pg) 0 pg) 0 pg) 0 (List.map u8 (recA v n s r))) (pg) (0))
def O121:AObj:=(.cells (PT.puts (PT.puts (zrep [u8 0] pg) 43 (List.map u8 (List.replicate (pg-43) 255))) 0 (List.map u8 (recA v n s r))) (pg) (0))
def H27:AH:=AH.put (H26) 39173 (some O121)
def H28:AH:=AH.wdf (H27) (AH.df (H22))
def H29:AH:=AH.new (AH.new (H28) O116) O116
def O122:AObj:=(.cells (ofC [(ptr 39200 0)]) (1) (0))
def O123:AObj:=(.cells (ofC [(i64 0),(Value.nilFunc),(Value.nilFunc)]) (3) (334))
def H30:AH:=AH.new (AH.new (H29) O122) O123
def H31:AH:=stG (H30) 39202 0 [(i64 8),(fA 171 39201 0),(fA 172 39201 0)]
def O124:AObj:=(.cells (ofC [(i64 8),(fA 171 39201 0),(fA 172 39201 0)]) (3) (0))
def O125:AObj:=(.cells (ofC [(ptr 39200 1),(ptr 39200 5)]) (2) (0))
def O126:AObj:=(.cells (ofC [(Value.pointer none)]) (1) (486))
def O127:AObj:=(.cells (ofC [(ptr 39200 1)]) (1) (486))
def H32:AH:=AH.new (AH.put (AH.new (AH.put (AH.mk 39213 (AH.mem (AH.new (AH.wdf (H31) (AH.df (H29))) O124)) []) 39210 (some O125)) O126) 39213 (some O127)) O123
def H33:AH:=stG (H32) 39214 0 [(i64 4),(fA 125 39213 0),(fA 126 39213 0)]
def H34:AH:=AH.mk 39232 (AH.mem (H33)) []
def O128:AObj:=(.cells (ofC [(ptr 39200 1)]) (1) (0))
def H35:AH:=AH.new (AH.new (H34) O128) O123
def H36:AH:=stG (H35) 39233 0 [(i64 1),(fA 171 39232 0),(fA 172 39232 0)]
def H37:AH:=AH.wdf (H36) (AH.df (H34))
def O129:AObj:=(.cells (ofC [(ptr 39200 2)]) (1) (0))
def H38:AH:=AH.new (AH.new (H37) O129) O123
def H39:AH:=stG (H38) 39235 0 [(i64 4),(fA 171 39234 0),(fA 172 39234 0)]
def H40:AH:=AH.wdf (H39) (AH.df (H37))
def O130:AObj:=(.cells (ofC [(ptr 39200 3)]) (1) (0))
def H41:AH:=AH.new (AH.new (H40) O130) O123
def H42:AH:=stG (H41) 39237 0 [(i64 4),(fA 171 39236 0),(fA 172 39236 0)]
def O131:AObj:=(.cells (ofC [(i64 1),(fA 171 39232 0),(fA 172 39232 0),(i64 4),(fA 171 39234 0),(fA 172 39234 0),(i64 4),(fA 171 39236 0),(fA 172 39236 0),(i64 4),(fA 125 39213 0),(fA 126 39213 0)]) (12) (0))
def O132:AObj:=(.cells (ofC [(i64 8),(fA 171 39201 0),(fA 172 39201 0),(i64 1),(fA 171 39232 0),(fA 172 39232 0),(i64 4),(fA 171 39234 0),(fA 172 39234 0),(i64 4),(fA 171 39236 0),(fA 172 39236 0),(i64 4),(fA 125 39213 0),(fA 126 39213 0)]) (15) (333))
def O133:AObj:=(.cells (ofC [(ptr 39200 5)]) (1) (486))
def H43:AH:=AH.new (AH.put (AH.new (AH.new (AH.put (AH.wdf (H42) (AH.df (H40))) 39229 (some O131)) O132) O126) 39239 (some O133)) O123
def H44:AH:=stG (H43) 39240 0 [(i64 4),(fA 125 39239 0),(fA 126 39239 0)]
def H45:AH:=AH.mk 39258 (AH.mem (H44)) []
def O134:AObj:=(.cells (ofC [(ptr 39200 5)]) (1) (0))
def H46:AH:=AH.new (AH.new (H45) O134) O123
def H47:AH:=stG (H46) 39259 0 [(i64 1),(fA 171 39258 0),(fA 172 39258 0)]
def H48:AH:=AH.wdf (H47) (AH.df (H45))
def O135:AObj:=(.cells (ofC [(ptr 39200 6)]) (1) (0))
def H49:AH:=AH.new (AH.new (H48) O135) O123
def H50:AH:=stG (H49) 39261 0 [(i64 4),(fA 171 39260 0),(fA 172 39260 0)]
def H51:AH:=AH.wdf (H50) (AH.df (H48))
def O136:AObj:=(.cells (ofC [(ptr 39200 7)]) (1) (0))
def H52:AH:=AH.new (AH.new (H51) O136) O123
def H53:AH:=stG (H52) 39263 0 [(i64 4),(fA 171 39262 0),(fA 172 39262 0)]
def O137:AObj:=(.cells (ofC [(i64 1),(fA 171 39258 0),(fA 172 39258 0),(i64 4),(fA 171 39260 0),(fA 172 39260 0),(i64 4),(fA 171 39262 0),(fA 172 39262 0),(i64 4),(fA 125 39239 0),(fA 126 39239 0)]) (12) (0))
def O138:AObj:=(.cells (ofC [(i64 8),(fA 171 39201 0),(fA 172 39201 0),(i64 1),(fA 171 39232 0),(fA 172 39232 0),(i64 4),(fA 171 39234 0),(fA 172 39234 0),(i64 4),(fA 171 39236 0),(fA 172 39236 0),(i64 4),(fA 125 39213 0),(fA 126 39213 0),(i64 1),(fA 171 39258 0),(fA 172 39258 0),(i64 4),(fA 171 39260 0),(fA 172 39260 0),(i64 4),(fA 171 39262 0),(fA 172 39262 0),(i64 4),(fA 125 39239 0),(fA 126 39239 0)]) (27) (333))
def H54:AH:=AH.new (AH.put (AH.put (AH.wdf (H53) (AH.df (H51))) 39255 (some O137)) 39238 none) O138
def O139:AObj:=(.cells (ofC [(ptr 39200 9)]) (1) (0))
def H55:AH:=AH.new (AH.new (H54) O139) O123
def H56:AH:=stG (H55) 39266 0 [(i64 1),(fA 171 39265 0),(fA 172 39265 0)]
def O140:AObj:=(.cells (ofC [(i64 1),(fA 171 39265 0),(fA 172 39265 0)]) (3) (0))
def O141:AObj:=(.cells (ofC [(i64 8),(fA 171 39201 0),(fA 172 39201 0),(i64 1),(fA 171 39232 0),(fA 172 39232 0),(i64 4),(fA 171 39234 0),(fA 172 39234 0),(i64 4),(fA 171 39236 0),(fA 172 39236 0),(i64 4),(fA 125 39213 0),(fA 126 39213 0),(i64 1),(fA 171 39258 0),(fA 172 39258 0),(i64 4),(fA 171 39260 0),(fA 172 39260 0),(i64 4),(fA 171 39262 0),(fA 172 39262 0),(i64 4),(fA 125 39239 0),(fA 126 39239 0),(i64 1),(fA 171 39265 0),(fA 172 39265 0)]) (30) (333))
def H57:AH:=AH.new (AH.wdf (AH.new (AH.put (AH.new (AH.wdf (H56) (AH.df (H54))) O140) 39264 none) O141) (AH.df (H29))) O123
def H58:AH:=stG (H57) 39269 0 [(i64 8),(fA 171 39201 0),(fA 172 39201 0)]
def H59:AH:=AH.mk 39281 (AH.mem (H58)) []
def H60:AH:=AH.wdf (H59) (AH.df (H59))
def O142:AObj:=(.cells (ofC [(i64 1),(i64 0),(i64 0),(i64 0),(u32 0),(i64 0),(i64 0),(i64 0),(u32 0),(i64 0)]) (10) (90))
def H61:AH:=AH.new (AH.wdf (AH.put (H60) 39200 (some O142)) (AH.df (H60))) O123
def H62:AH:=stG (H61) 39281 0 [(i64 1),(fA 171 39232 0),(fA 172 39232 0)]
def H63:AH:=AH.mk 39293 (AH.mem (H62)) []
def H64:AH:=AH.wdf (H63) (AH.df (H63))
def H65:AH:=AH.new (AH.wdf (AH.put (H64) 39200 (some O142)) (AH.df (H64))) O123
def H66:AH:=stG (H65) 39293 0 [(i64 4),(fA 171 39234 0),(fA 172 39234 0)]
def H67:AH:=AH.mk 39305 (AH.mem (H66)) []
def H68:AH:=AH.wdf (H67) (AH.df (H67))
def O143:AObj:=(.cells (ofC [(i64 1),(i64 0),(i64 v),(i64 0),(u32 0),(i64 0),(i64 0),(i64 0),(u32 0),(i64 0)]) (10) (90))
def H69:AH:=AH.new (AH.wdf (AH.put (H68) 39200 (some O143)) (AH.df (H68))) O123
def H70:AH:=stG (H69) 39305 0 [(i64 4),(fA 171 39236 0),(fA 172 39236 0)]
def H71:AH:=AH.mk 39317 (AH.mem (H70)) []
def H72:AH:=AH.wdf (H71) (AH.df (H71))
def O144:AObj:=(.cells (ofC [(i64 1),(i64 0),(i64 v),(i64 n),(u32 0),(i64 0),(i64 0),(i64 0),(u32 0),(i64 0)]) (10) (90))
def H73:AH:=AH.new (AH.wdf (AH.put (H72) 39200 (some O144)) (AH.df (H72))) O123
def H74:AH:=stG (H73) 39317 0 [(i64 4),(fA 125 39213 0),(fA 126 39213 0)]
def H75:AH:=AH.mk 39329 (AH.mem (H74)) []
def H76:AH:=AH.wdf (H75) (AH.df (H75))
def O145:AObj:=(.cells (ofC [(i64 1),(i64 0),(i64 v),(i64 n),(u32 s),(i64 0),(i64 0),(i64 0),(u32 0),(i64 0)]) (10) (90))
def H77:AH:=AH.new (AH.wdf (AH.put (H76) 39200 (some O145)) (AH.df (H76))) O123
def H78:AH:=stG (H77) 39329 0 [(i64 1),(fA 171 39258 0),(fA 172 39258 0)]
def H79:AH:=AH.mk 39341 (AH.mem (H78)) []
def H80:AH:=AH.wdf (H79) (AH.df (H79))
def H81:AH:=AH.new (AH.wdf (AH.put (H80) 39200 (some O145)) (AH.df (H80))) O123
def H82:AH:=stG (H81) 39341 0 [(i64 4),(fA 171 39260 0),(fA 172 39260 0)]
def H83:AH:=AH.mk 39353 (AH.mem (H82)) []
def H84:AH:=AH.wdf (H83) (AH.df (H83))
def H85:AH:=AH.new (AH.wdf (AH.put (H84) 39200 (some O145)) (AH.df (H84))) O123
def H86:AH:=stG (H85) 39353 0 [(i64 4),(fA 171 39262 0),(fA 172 39262 0)]
def H87:AH:=AH.mk 39365 (AH.mem (H86)) []
def H88:AH:=AH.wdf (H87) (AH.df (H87))
def H89:AH:=AH.new (AH.wdf (AH.put (H88) 39200 (some O145)) (AH.df (H88))) O123
def H90:AH:=stG (H89) 39365 0 [(i64 4),(fA 125 39239 0),(fA 126 39239 0)]
def H91:AH:=AH.mk 39377 (AH.mem (H90)) []
def H92:AH:=AH.wdf (H91) (AH.df (H91))
def H93:AH:=AH.new (AH.wdf (AH.put (H92) 39200 (some O145)) (AH.df (H92))) O123
def H94:AH:=stG (H93) 39377 0 [(i64 1),(fA 171 39265 0),(fA 172 39265 0)]
def H95:AH:=AH.mk 39389 (AH.mem (H94)) []
def H96:AH:=AH.wdf (H95) (AH.df (H95))
def H97:AH:=AH.wdf (AH.put (H96) 39200 (some O145)) (AH.df (H96))
def H98:AH:=AH.wdf (H97) (AH.df (H97))
def O146:AObj:=(.cells (ofC [(sl 39173 0 39 pg)]) (1) (0))
def H99:AH:=AH.new (H98) O146
def H100:AH:=AH.mk 39391 (AH.mem (H99)) []
def H101:AH:=AH.wdf (H100) (AH.df (H99))
def O147:AObj:=(.cells (ofC [(i64 1),(i64 0),(i64 v),(i64 n),(u32 s),(i64 0),(i64 0),(i64 0),(u32 0),(i64 0)]) (10) (0))
def H102:AH:=AH.new (H101) O147
def O148:AObj:=(.cells (ofC [(i64 0),(i64 v),(i64 n),(u32 s)]) (4) (0))
def H103:AH:=AH.new (H102) O148
def H104:AH:=AH.wdf (AH.wdf (H103) (AH.df (H102))) (AH.df (H101))
def H105:AH:=stG (H104) 39199 0 [(i64 1),(i64 0),(i64 v),(i64 n),(u32 s),(i64 0),(i64 0),(i64 0),(u32 0),(i64 0)]
def H106:AH:=AH.new (AH.wdf (H105) (AH.df (H28))) O116
def H107:AH:=stG (H106) 39393 0 [(i64 1),(i64 0),(i64 v),(i64 n),(u32 s),(i64 0),(i64 0),(i64 0),(u32 0),(i64 0)]
def H108:AH:=stG (H107) 39162 0 [(i64 1),(i64 0),(i64 v),(i64 n),(u32 s),(i64 0),(i64 0),(i64 0),(u32 0),(i64 0)]
def H109:AH:=AH.mk 39404 (AH.mem (AH.wdf (H108) (AH.df (H108)))) []
def H110:AH:=AH.wdf (H109) (AH.df (H109))
def H111:AH:=AH.new (H110) O118
def O149:AObj:=(.cells (ofC [(i64 2),(i64 1)]) (2) (0))
def H112:AH:=AH.mk 39430 (AH.mem (AH.wdf (AH.mk 39417 (AH.mem (AH.new (H111) O149)) []) (AH.df (H111)))) []
def O150:AObj:=(.cells (fillC (zrep [u8 0] pg) 0 pg) (pg) (0))
def O151:AObj:=(.cells (PT.puts (zrep [u8 0] pg) 0 (List.map u8 (List.replicate pg 255))) (pg) (0))
def H113:AH:=AH.put (H112) 39404 (some O151)
def H114:AH:=AH.wdf (H113) (AH.df (H108))
def H115:AH:=AH.new (AH.new (H114) O116) O116
def H116:AH:=stG (H115) 39430 0 [(i64 0),(i64 0),(i64 0),(i64 0),(u32 0),(i64 0),(i64 0),(i64 0),(u32 0),(i64 0)]
def H117:AH:=AH.new (AH.wdf (H116) (AH.df (H114))) O116
def H118:AH:=stG (H117) 39432 0 [(i64 0),(i64 0),(i64 0),(i64 0),(u32 0),(i64 0),(i64 0),(i64 0),(u32 0),(i64 0)]
def H119:AH:=stG (H118) 39160 0 [(i64 1),(i64 0),(i64 v),(i64 n),(u32 s),(i64 0),(i64 0),(i64 0),(u32 0),(i64 0)]
def H120:AH:=AH.new (AH.wdf (H119) (AH.df (H17))) O116
def H121:AH:=stG (H120) 39433 0 [(i64 1),(i64 0),(i64 v),(i64 n),(u32 s),(i64 0),(i64 0),(i64 0),(u32 0),(i64 0)]
def H122:AH:=stG (H121) 39159 0 [(i64 1),(i64 0),(i64 v),(i64 n),(u32 s),(i64 0),(i64 0),(i64 0),(u32 0),(i64 0)]
def H123:AH:=AH.new (AH.wdf (H122) (AH.df (H15))) O116
def H124:AH:=stG (H123) 39434 0 [(i64 1),(i64 0),(i64 v),(i64 n),(u32 s),(i64 0),(i64 0),(i64 0),(u32 0),(i64 0)]
def O152:AObj:=(.cells (ofC [(i64 0),(i64 0),(i64 0),(i64 0),(u32 0),(i64 0),(i64 0),(i64 0),(u32 0),(i64 0)]) (10) (118))
def H125:AH:=AH.new (AH.new (H124) O152) O152
def H126:AH:=stG (H125) 39436 0 [(i64 0),(i64 0),(i64 0),(i64 0),(u32 0),(i64 0),(i64 0),(i64 0),(u32 0),(i64 0)]
def H127:AH:=AH.new (H126) O152
def O153:AObj:=(.cells (ofC [(i64 0),(i64 0),(i64 0),(u32 0),(i64 0),(i64 0),(i64 0),(u32 0)]) (8) (472))
def H128:AH:=AH.new (H127) O153
def H129:AH:=AH.wdf (AH.wdf (H128) (AH.df (H128))) (AH.df (H128))
def H130:AH:=AH.wdf (H129) (AH.df (H129))
def H131:AH:=AH.wdf (H130) (AH.df (H129))
def H132:AH:=AH.wdf (H131) (AH.df (H131))
def H133:AH:=AH.wdf (H132) (AH.df (H131))
def H134:AH:=AH.wdf (H133) (AH.df (H133))
def H135:AH:=AH.wdf (H134) (AH.df (H133))
def H136:AH:=stG (H135) 39438 0 [(i64 0),(i64 v),(i64 n),(u32 s)]
def H137:AH:=AH.wdf (AH.wdf (H136) (AH.df (H136))) (AH.df (H136))
def H138:AH:=AH.wdf (AH.wdf (H137) (AH.df (H137))) (AH.df (H137))
def H139:AH:=AH.wdf (AH.wdf (H138) (AH.df (H138))) (AH.df (H138))
def H140:AH:=AH.wdf (AH.wdf (H139) (AH.df (H139))) (AH.df (H139))
def H141:AH:=stG (H140) 39438 4 [(i64 0),(i64 0),(i64 0),(u32 0)]
def H142:AH:=AH.mk 39450 (AH.mem (H141)) []
def H143:AH:=AH.wdf (AH.wdf (H142) (AH.df (H142))) (AH.df (H142))
def H144:AH:=AH.put (AH.wdf (AH.wdf (H143) (AH.df (H143))) (AH.df (H143))) 39448 (some O152)
def H145:AH:=stG (H144) 39448 0 [(i64 1),(i64 0),(i64 v),(i64 n),(u32 s),(i64 0),(i64 0),(i64 0),(u32 0),(i64 0)]
def H146:AH:=AH.new (H145) O147
def H147:AH:=AH.new (H146) O147
def H148:AH:=AH.wdf (H147) (AH.df (H147))
def H149:AH:=AH.new (H148) O148
def H150:AH:=AH.wdf (H149) (AH.df (H149))
def H151:AH:=AH.wdf (H150) (AH.df (H150))
def H152:AH:=AH.wdf (AH.wdf (H151) (AH.df (H151))) (AH.df (H148))
def O154:AObj:=(.cells (ofC [(u8 98),(u8 116),(u8 48),(u8 49)]) (4) (0))
def H153:AH:=AH.new (AH.wdf (AH.wdf (H152) (AH.df (H152))) (AH.df (H146))) O154
def O155:AObj:=(.cells (ofC [(u8 1)]) (1) (0))
def O156:AObj:=(.cells (ofC [(u8 1)]) (1) (11))
def O157:AObj:=(.cells (ofC [(u8 0)]) (1) (0))
def O158:AObj:=(.cells (ofC [(u8 1),(u8 0)]) (2) (11))
def O159:AObj:=(.cells (ofC [(u8 1),(u8 0),(u8 0)]) (3) (11))
def O160:AObj:=(.cells (ofC [(u8 1),(u8 0),(u8 0),(u8 0)]) (4) (11))
def O161:AObj:=(.cells (ofC [(u8 1),(u8 0),(u8 0),(u8 0),(u8 0)]) (5) (11))
def O162:AObj:=(.cells (ofC [(u8 1),(u8 0),(u8 0),(u8 0),(u8 0),(u8 0)]) (6) (11))
def O163:AObj:=(.cells (ofC [(u8 1),(u8 0),(u8 0),(u8 0),(u8 0),(u8 0),(u8 0)]) (7) (11))
def O164:AObj:=(.cells (ofC [(u8 1),(u8 0),(u8 0),(u8 0),(u8 0),(u8 0),(u8 0),(u8 0)]) (8) (11))
def O165:AObj:=(.cells (ofC [(u8 98),(u8 116),(u8 48),(u8 49),(u8 1),(u8 0),(u8 0),(u8 0),(u8 0),(u8 0),(u8 0),(u8 0)]) (12) (11))
def O166:AObj:=(.cells (ofC [(i64 0),(i64 v),(i64 n),(u32 s),(i64 0),(i64 0),(i64 0),(u32 0)]) (8) (0))
def O167:AObj:=(.cells (ofC [(i64 0),(i64 0),(i64 0),(u32 0)]) (4) (114))
def H154:AH:=AH.new (AH.new (AH.wdf (AH.new (AH.wdf (AH.new (AH.put (AH.new (AH.new (AH.put (AH.new (AH.new (AH.put (AH.new (AH.new (AH.put (AH.new (AH.new (AH.put (AH.new (AH.new (AH.put (AH.new (AH.new (AH.put (AH.new (AH.new (AH.new (H153) O155) O156) O157) 39455 none) O158) O157) 39457 none) O159) O157) 39459 none) O160) O157) 39461 none) O161) O157) 39463 none) O162) O157) 39465 none) O163) O157) 39467 none) O164) (AH.df (H153))) O165) (AH.df (H153))) O166) O167
def H155:AH:=stG (H154) 39472 0 [(i64 0),(i64 v),(i64 n),(u32 s)]
def O168:AObj:=(.cells (ofC [(u8 0)]) (1) (11))
def O169:AObj:=(.cells (ofC [(u8 98),(u8 116),(u8 48),(u8 49),(u8 1),(u8 0),(u8 0),(u8 0),(u8 0),(u8 0),(u8 0),(u8 0),(u8 0)]) (13) (11))
def H156:AH:=AH.wdf (AH.new (AH.put (AH.wdf (AH.new (AH.new (H155) O157) O168) (AH.df (H155))) 39470 none) O169) (AH.df (H155))
def O170:AObj:=(.cells (ofC [(u8 (v % 256))]) (1) (0))
def O171:AObj:=(.cells (ofC [(u8 (v % 256))]) (1) (11))
def H157:AH:=AH.new (AH.new (H156) O170) O171
def O172:AObj:=(.cells (ofC [(u8 (v/256 % 256))]) (1) (0))
def O173:AObj:=(.cells (ofC [(u8 (v % 256)),(u8 (v/256 % 256))]) (2) (11))
def H158:AH:=AH.new (AH.put (AH.new (H157) O172) 39477 none) O173
def O174:AObj:=(.cells (ofC [(u8 (v/65536 % 256))]) (1) (0))
def O175:AObj:=(.cells (ofC [(u8 (v % 256)),(u8 (v/256 % 256)),(u8 (v/65536 % 256))]) (3) (11))
def H159:AH:=AH.new (AH.put (AH.new (H158) O174) 39479 none) O175
def O176:AObj:=(.cells (ofC [(u8 (v/16777216))]) (1) (0))
def O177:AObj:=(.cells (ofC [(u8 (v % 256)),(u8 (v/256 % 256)),(u8 (v/65536 % 256)),(u8 (v/16777216))]) (4) (11))
def H160:AH:=AH.new (AH.put (AH.new (H159) O176) 39481 none) O177
def O178:AObj:=(.cells (ofC [(u8 98),(u8 116),(u8 48),(u8 49),(u8 1),(u8 0),(u8 0),(u8 0),(u8 0),(u8 0),(u8 0),(u8 0),(u8 0),(u8 (v % 256)),(u8 (v/256 % 256)),(u8 (v/65536 % 256)),(u8 (v/16777216))]) (17) (11))
def H161:AH:=AH.wdf (AH.new (AH.put (AH.wdf (H160) (AH.df (H156))) 39475 none) O178) (AH.df (H156))
def O179:AObj:=(.cells (ofC [(u8 (n % 256))]) (1) (0))
def O180:AObj:=(.cells (ofC [(u8 (n % 256))]) (1) (11))
def H162:AH:=AH.new (AH.new (H161) O179) O180
def O181:AObj:=(.cells (ofC [(u8 (n/256 % 256))]) (1) (0))
def O182:AObj:=(.cells (ofC [(u8 (n % 256)),(u8 (n/256 % 256))]) (2) (11))
def H163:AH:=AH.new (AH.put (AH.new (H162) O181) 39486 none) O182
def O183:AObj:=(.cells (ofC [(u8 (n/65536 % 256))]) (1) (0))
def O184:AObj:=(.cells (ofC [(u8 (n % 256)),(u8 (n/256 % 256)),(u8 (n/65536 % 256))]) (3) (11))
def H164:AH:=AH.new (AH.put (AH.new (H163) O183) 39488 none) O184
def O185:AObj:=(.cells (ofC [(u8 (n/16777216))]) (1) (0))
def O186:AObj:=(.cells (ofC [(u8 (n % 256)),(u8 (n/256 % 256)),(u8 (n/65536 % 256)),(u8 (n/16777216))]) (4) (11))
def H165:AH:=AH.new (AH.put (AH.new (H164) O185) 39490 none) O186
def O187:AObj:=(.cells (ofC [(u8 98),(u8 116),(u8 48),(u8 49),(u8 1),(u8 0),(u8 0),(u8 0),(u8 0),(u8 0),(u8 0),(u8 0),(u8 0),(u8 (v % 256)),(u8 (v/256 % 256)),(u8 (v/65536 % 256)),(u8 (v/16777216)),(u8 (n % 256)),(u8 (n/256 % 256)),(u8 (n/65536 % 256)),(u8 (n/16777216))]) (21) (11))
def H166:AH:=AH.wdf (AH.new (AH.put (AH.wdf (H165) (AH.df (H161))) 39484 none) O187) (AH.df (H161))
def O188:AObj:=(.cells (ofC [(u8 (s % 256))]) (1) (0))
def O189:AObj:=(.cells (ofC [(u8 (s % 256))]) (1) (11))
def H167:AH:=AH.new (AH.new (H166) O188) O189
def O190:AObj:=(.cells (ofC [(u8 (s/256 % 256))]) (1) (0))
def O191:AObj:=(.cells (ofC [(u8 (s % 256)),(u8 (s/256 % 256))]) (2) (11))
def H168:AH:=AH.new (AH.put (AH.new (H167) O190) 39495 none) O191
def O192:AObj:=(.cells (ofC [(u8 (s/65536 % 256))]) (1) (0))
def O193:AObj:=(.cells (ofC [(u8 (s % 256)),(u8 (s/256 % 256)),(u8 (s/65536 % 256))]) (3) (11))
def H169:AH:=AH.new (AH.put (AH.new (H168) O192) 39497 none) O193
def O194:AObj:=(.cells (ofC [(u8 (s/16777216))]) (1) (0))
def O195:AObj:=(.cells (ofC [(u8 (s % 256)),(u8 (s/256 % 256)),(u8 (s/65536 % 256)),(u8 (s/16777216))]) (4) (11))
def H170:AH:=AH.new (AH.put (AH.new (H169) O194) 39499 none) O195
def O196:AObj:=(.cells (ofC [(u8 98),(u8 116),(u8 48),(u8 49),(u8 1),(u8 0),(u8 0),(u8 0),(u8 0),(u8 0),(u8 0),(u8 0),(u8 0),(u8 (v % 256)),(u8 (v/256 % 256)),(u8 (v/65536 % 256)),(u8 (v/16777216)),(u8 (n % 256)),(u8 (n/256 % 256)),(u8 (n/65536 % 256)),(u8 (n/16777216)),(u8 (s % 256)),(u8 (s/256 % 256)),(u8 (s/65536 % 256)),(u8 (s/16777216))]) (25) (11))
def H171:AH:=AH.new (AH.wdf (AH.new (AH.put (AH.wdf (H170) (AH.df (H166))) 39493 none) O196) (AH.df (H166))) O167
def H172:AH:=stG (H171) 39503 0 [(i64 0),(i64 0),(i64 0),(u32 0)]
def O197:AObj:=(.cells (ofC [(u8 98),(u8 116),(u8 48),(u8 49),(u8 1),(u8 0),(u8 0),(u8 0),(u8 0),(u8 0),(u8 0),(u8 0),(u8 0),(u8 (v % 256)),(u8 (v/256 % 256)),(u8 (v/65536 % 256)),(u8 (v/16777216)),(u8 (n % 256)),(u8 (n/256 % 256)),(u8 (n/65536 % 256)),(u8 (n/16777216)),(u8 (s % 256)),(u8 (s/256 % 256)),(u8 (s/65536 % 256)),(u8 (s/16777216)),(u8 0)]) (26) (11))
def H173:AH:=AH.wdf (AH.new (AH.put (AH.wdf (AH.new (AH.new (H172) O157) O168) (AH.df (H172))) 39502 none) O197) (AH.df (H172))
def O198:AObj:=(.cells (ofC [(u8 0),(u8 0)]) (2) (11))
def O199:AObj:=(.cells (ofC [(u8 0),(u8 0),(u8 0)]) (3) (11))
def O200:AObj:=(.cells (ofC [(u8 0),(u8 0),(u8 0),(u8 0)]) (4) (11))
def O201:AObj:=(.cells (ofC [(u8 98),(u8 116),(u8 48),(u8 49),(u8 1),(u8 0),(u8 0),(u8 0),(u8 0),(u8 0),(u8 0),(u8 0),(u8 0),(u8 (v % 256)),(u8 (v/256 % 256)),(u8 (v/65536 % 256)),(u8 (v/16777216)),(u8 (n % 256)),(u8 (n/256 % 256)),(u8 (n/65536 % 256)),(u8 (n/16777216)),(u8 (s % 256)),(u8 (s/256 % 256)),(u8 (s/65536 % 256)),(u8 (s/16777216)),(u8 0),(u8 0),(u8 0),(u8 0),(u8 0)]) (30) (11))
def H174:AH:=AH.wdf (AH.new (AH.put (AH.wdf (AH.new (AH.put (AH.new (AH.new (AH.put (AH.new (AH.new (AH.put (AH.new (AH.new (AH.new (H173) O157) O168) O157) 39508 none) O198) O157) 39510 none) O199) O157) 39512 none) O200) (AH.df (H173))) 39506 none) O201) (AH.df (H173))
def O202:AObj:=(.cells (ofC [(u8 98),(u8 116),(u8 48),(u8 49),(u8 1),(u8 0),(u8 0),(u8 0),(u8 0),(u8 0),(u8 0),(u8 0),(u8 0),(u8 (v % 256)),(u8 (v/256 % 256)),(u8 (v/65536 % 256)),(u8 (v/16777216)),(u8 (n % 256)),(u8 (n/256 % 256)),(u8 (n/65536 % 256)),(u8 (n/16777216)),(u8 (s % 256)),(u8 (s/256 % 256)),(u8 (s/65536 % 256)),(u8 (s/16777216)),(u8 0),(u8 0),(u8 0),(u8 0),(u8 0),(u8 0),(u8 0),(u8 0),(u8 0)]) (34) (11))
def H175:AH:=AH.wdf (AH.new (AH.put (AH.wdf (AH.new (AH.put (AH.new (AH.new (AH.put (AH.new (AH.new (AH.put (AH.new (AH.new (AH.new (H174) O157) O168) O157) 39517 none) O198) O157) 39519 none) O199) O157) 39521 none) O200) (AH.df (H174))) 39515 none) O202) (AH.df (H174))
def O203:AObj:=(.cells (ofC [(u8 98),(u8 116),(u8 48),(u8 49),(u8 1),(u8 0),(u8 0),(u8 0),(u8 0),(u8 0),(u8 0),(u8 0),(u8 0),(u8 (v % 256)),(u8 (v/256 % 256)),(u8 (v/65536 % 256)),(u8 (v/16777216)),(u8 (n % 256)),(u8 (n/256 % 256)),(u8 (n/65536 % 256)),(u8 (n/16777216)),(u8 (s % 256)),(u8 (s/256 % 256)),(u8 (s/65536 % 256)),(u8 (s/16777216)),(u8 0),(u8 0),(u8 0),(u8 0),(u8 0),(u8 0),(u8 0),(u8 0),(u8 0),(u8 0),(u8 0),(u8 0),(u8 0)]) (38) (11))
def H176:AH:=AH.wdf (AH.new (AH.put (AH.wdf (AH.new (AH.put (AH.new (AH.new (AH.put (AH.new (AH.new (AH.put (AH.new (AH.new (AH.new (H175) O157) O168) O157) 39526 none) O198) O157) 39528 none) O199) O157) 39530 none) O200) (AH.df (H175))) 39524 none) O203) (AH.df (H175))
def O204:AObj:=(.cells (ofC [(u8 98),(u8 116),(u8 48),(u8 49),(u8 1),(u8 0),(u8 0),(u8 0),(u8 0),(u8 0),(u8 0),(u8 0),(u8 0),(u8 (v % 256)),(u8 (v/256 % 256)),(u8 (v/65536 % 256)),(u8 (v/16777216)),(u8 (n % 256)),(u8 (n/256 % 256)),(u8 (n/65536 % 256)),(u8 (n/16777216)),(u8 (s % 256)),(u8 (s/256 % 256)),(u8 (s/65536 % 256)),(u8 (s/16777216)),(u8 0),(u8 0),(u8 0),(u8 0),(u8 0),(u8 0),(u8 0),(u8 0),(u8 0),(u8 0),(u8 0),(u8 0),(u8 0),(u8 0)]) (39) (11))
def H177:AH:=AH.wdf (AH.new (AH.put (AH.wdf (AH.new (AH.new (H176) O157) O168) (AH.df (H176))) 39533 none) O204) (AH.df (H176))
def H178:AH:=AH.wdf (H177) (AH.df (H177))
def O205:AObj:=(.cells (ofC [(u8 (r % 256))]) (1) (0))
def O206:AObj:=(.cells (ofC [(u8 (r % 256))]) (1) (11))
def H179:AH:=AH.new (AH.new (H178) O205) O206
def O207:AObj:=(.cells (ofC [(u8 (r/256 % 256))]) (1) (0))
def O208:AObj:=(.cells (ofC [(u8 (r % 256)),(u8 (r/256 % 256))]) (2) (11))
def H180:AH:=AH.new (AH.put (AH.new (H179) O207) 39538 none) O208
def O209:AObj:=(.cells (ofC [(u8 (r/65536 % 256))]) (1) (0))
def O210:AObj:=(.cells (ofC [(u8 (r % 256)),(u8 (r/256 % 256)),(u8 (r/65536 % 256))]) (3) (11))
def H181:AH:=AH.new (AH.put (AH.new (H180) O209) 39540 none) O210
def O211:AObj:=(.cells (ofC [(u8 (r/16777216))]) (1) (0))
def O212:AObj:=(.cells (ofC [(u8 (r % 256)),(u8 (r/256 % 256)),(u8 (r/65536 % 256)),(u8 (r/16777216))]) (4) (11))
def H182:AH:=AH.new (AH.put (AH.new (H181) O211) 39542 none) O212
def O213:AObj:=(.cells (ofC [(u8 98),(u8 116),(u8 48),(u8 49),(u8 1),(u8 0),(u8 0),(u8 0),(u8 0),(u8 0),(u8 0),(u8 0),(u8 0),(u8 (v % 256)),(u8 (v/256 % 256)),(u8 (v/65536 % 256)),(u8 (v/16777216)),(u8 (n % 256)),(u8 (n/256 % 256)),(u8 (n/65536 % 256)),(u8 (n/16777216)),(u8 (s % 256)),(u8 (s/256 % 256)),(u8 (s/65536 % 256)),(u8 (s/16777216)),(u8 0),(u8 0),(u8 0),(u8 0),(u8 0),(u8 0),(u8 0),(u8 0),(u8 0),(u8 0),(u8 0),(u8 0),(u8 0),(u8 0),(u8 (r % 256)),(u8 (r/256 % 256)),(u8 (r/65536 % 256)),(u8 (r/16777216))]) (43) (11))
def H183:AH:=AH.mk 39556 (AH.mem (AH.wdf (AH.wdf (AH.new (AH.put (AH.wdf (H182) (AH.df (H178))) 39536 none) O213) (AH.df (H178))) (AH.df (H145)))) []
def O214:AObj:=(.cells (PT.puts (fillC (zrep [u8 0] pg) 0 pg) 0 (List.map u8 (recA v n s r))) (pg) (0))
def H184:AH:=stG (H183) 39437 0 [(i64 1),(i64 0),(i64 v),(i64 n),(u32 s),(i64 0),(i64 0),(i64 0),(u32 0),(i64 0)]
def H185:AH:=AH.new (AH.wdf (H184) (AH.df (H126))) O152
def H186:AH:=stG (H185) 39556 0 [(i64 1),(i64 0),(i64 v),(i64 n),(u32 s),(i64 0),(i64 0),(i64 0),(u32 0),(i64 0)]
def H187:AH:=stG (H186) 39436 0 [(i64 1),(i64 0),(i64 v),(i64 n),(u32 s),(i64 0),(i64 0),(i64 0),(u32 0),(i64 0)]
def H188:AH:=AH.new (H187) O152
def O215:AObj:=(.cells (fillC (zrep [u8 0] pg) 0 pg) (pg) (0))
def H189:AH:=stG (H188) 39557 0 [(i64 0),(i64 0),(i64 0),(i64 0),(u32 0),(i64 0),(i64 0),(i64 0),(u32 0),(i64 0)]
def H190:AH:=AH.new (AH.wdf (H189) (AH.df (H187))) O152
def H191:AH:=stG (H190) 39558 0 [(i64 0),(i64 0),(i64 0),(i64 0),(u32 0),(i64 0),(i64 0),(i64 0),(u32 0),(i64 0)]
def H192:AH:=stG (H191) 39435 0 [(i64 1),(i64 0),(i64 v),(i64 n),(u32 s),(i64 0),(i64 0),(i64 0),(u32 0),(i64 0)]
def H193:AH:=AH.new (AH.wdf (H192) (AH.df (H124))) O152
def H194:AH:=stG (H193) 39559 0 [(i64 1),(i64 0),(i64 v),(i64 n),(u32 s),(i64 0),(i64 0),(i64 0),(u32 0),(i64 0)]
def H195:AH:=AH.mk 39608 (AH.mem (H194)) []
def O216:AObj:=(.cells (ofC [(i64 0),(i64 0),(i64 0),(u32 0)]) (4) (0))
def H196:AH:=AH.new (AH.new (H195) O216) O167
def H197:AH:=stG (H196) 39609 0 [(i64 0),(i64 0),(i64 0),(u32 0)]
def H198:AH:=AH.wdf (H197) (AH.df (H195))
def H199:AH:=AH.wdf (H198) (AH.df (H198))
def H200:AH:=AH.wdf (AH.wdf (AH.wdf (H199) (AH.df (H199))) (AH.df (H199))) (AH.df (H198))
def H201:AH:=AH.wdf (H200) (AH.df (H200))
def H202:AH:=AH.mk 39624 (AH.mem (AH.new (AH.new (H201) O147) O152)) []
def H203:AH:=AH.new (AH.new (H202) O148) O167
def H204:AH:=stG (H203) 39625 0 [(i64 0),(i64 v),(i64 n),(u32 s)]
def H205:AH:=AH.wdf (H204) (AH.df (H202))
def H206:AH:=AH.new (AH.new (H205) O216) O167
def H207:AH:=stG (H206) 39627 0 [(i64 0),(i64 0),(i64 0),(u32 0)]
def H208:AH:=AH.wdf (H207) (AH.df (H205))
def H209:AH:=stG (H208) 39611 0 [(i64 1),(i64 0),(i64 v),(i64 n),(u32 s),(i64 0),(i64 0),(i64 0),(u32 0),(i64 0)]
def H210:AH:=AH.wdf (H209) (AH.df (H201))
def H211:AH:=AH.new (H210) O115
def H212:AH:=stG (H211) 39628 0 [(i64 0),(i64 0),(u32 0),(u32 0),(i64 0),(i64 0)]
def H213:AH:=AH.wdf (AH.wdf (H212) (AH.df (H212))) (AH.df (H212))
def H214:AH:=AH.wdf (H213) (AH.df (H213))
def O217:AObj:=(.cells (ofC [(i64 1),(i64 2),(i64 0),(i64 2),(i64 2),(i64 0)]) (6) (303))
def O218:AObj:=(.cells (ofC [(i64 0),(i64 0),(i64 0)]) (3) (298))
def H215:AH:=AH.new (AH.wdf (AH.wdf (AH.new (H214) O217) (AH.df (H214))) (AH.df (H213))) O218
def H216:AH:=stG (H215) 39630 0 [(i64 1),(i64 2),(i64 0)]
def O219:AObj:=(.cells (ofC [(i64 1),(i64 2),(i64 81),(i64 2),(i64 2),(i64 0)]) (6) (303))
def H217:AH:=AH.new (AH.put (AH.mk 39659 (AH.mem (H216)) []) 39629 (some O219)) O218
def H218:AH:=stG (H217) 39659 0 [(i64 2),(i64 2),(i64 0)]
def O220:AObj:=(.cells (ofC [(i64 1),(i64 2),(i64 81),(i64 2),(i64 2),(i64 81)]) (6) (303))
def H219:AH:=AH.new (AH.new (AH.wdf (AH.put (AH.mk 39688 (AH.mem (H218)) []) 39629 (some O220)) (AH.df (H213))) O166) O114
def H220:AH:=stG (H219) 39689 0 [(i64 0),(i64 v),(i64 n),(u32 s)]
def O221:AObj:=(.cells (PT.ofList (List.map u8 xs) 0 PT.leaf) (n) (0))
def H221:AH:=AH.new (AH.put (H220) 5 none) O221
def H222:AH:=AH.new (AH.new (H221) O148) O167
def H223:AH:=stG (H222) 39692 0 [(i64 0),(i64 v),(i64 n),(u32 s)]
def H224:AH:=AH.wdf (H223) (AH.df (H221))
def H225:AH:=AH.put (AH.up (H224) 1) (AH.next (H224)) ob
def H226:AH:=AH.new (H225) O114
def H227:AH:=stG (H226) 39694 0 [(i64 0),(i64 0),(i64 0),(u32 0)]
def O222:AObj:=(.cells (ofC []) (0) (0))
def H228:AH:=AH.new (H227) O222
def H229:AH:=AH.new (AH.new (H228) O216) O167
def H230:AH:=stG (H229) 39697 0 [(i64 0),(i64 0),(i64 0),(u32 0)]
def H231:AH:=AH.wdf (H230) (AH.df (H228))
def H232:AH:=AH.mk 39699 (AH.mem (AH.put (H231) 39698 none)) []
def H233:AH:=AH.wdf (H232) (AH.df (H5))
def O224:AObj:=(.cells (ofC [(i64 4),(fA 171 39262 0),(fA 172 39262 0)]) (3) (334))
def O225:AObj:=(.cells (ofC [(i64 1),(i64 0),(i64 v),(i64 n),(u32 s),(i64 0),(i64 0),(i64 0),(u32 0),(i64 0)]) (10) (118))
def O226:AObj:=(.cells (ofC [(i64 4),(fA 171 39234 0),(fA 172 39234 0)]) (3) (334))
def O227:AObj:=(.cells (ofC [(i64 2),(i64 2),(i64 0)]) (3) (298))
def O228:AObj:=(.cells (ofC [(i64 1),(fA 171 39258 0),(fA 172 39258 0)]) (3) (334))
def O229:AObj:=(.cells (ofC [(i64 1),(fA 171 39232 0),(fA 172 39232 0)]) (3) (334))
def O230:AObj:=(.cells (ofC [(i64 1),(fA 171 39265 0),(fA 172 39265 0)]) (3) (334))
def O231:AObj:=(.cells (ofC [(i64 0),(i64 v),(i64 n),(u32 s)]) (4) (86))
def O232:AObj:=(.cells (ofC [(i64 4),(fA 171 39236 0),(fA 172 39236 0)]) (3) (334))
def O233:AObj:=(.cells (ofC [(i64 0),(i64 v),(i64 n),(u32 s)]) (4) (114))
def O234:AObj:=(.cells (ofC [(i64 pg),(i64 k)]) (2) (48))
def O235:AObj:=(.cells (ofC [(i64 4),(fA 125 39239 0),(fA 126 39239 0)]) (3) (334))
def O236:AObj:=(.cells (ofC [(i64 8),(fA 171 39201 0),(fA 172 39201 0)]) (3) (334))
def O237:AObj:=(.cells (ofC [(i64 4),(fA 125 39213 0),(fA 126 39213 0)]) (3) (334))
def O238:AObj:=(.cells (ofC [(i64 4),(fA 171 39260 0),(fA 172 39260 0)]) (3) (334))
def O239:AObj:=(.cells (ofC [(i64 0),(i64 v),(i64 n),(u32 s),(i64 0),(i64 0),(i64 0),(u32 0)]) (8) (472))
def O240:AObj:=(.cells (ofC [(i64 1),(i64 2),(i64 0)]) (3) (298))
theorem p3_ok (Cs:Nat→Oracle):rySD envT Cs (tbD pg k n c s v ia xs) BIG 10 [(5,(Value.tuple (Array.mk [ptr 489 0,i64 0])),some H2),
 (17,(Value.tuple (Array.mk [ptr 653 0,i64 0])),some H3),
 (38,(Value.bool true),some H5),
 (74,(Value.tuple (Array.mk [])),some H8),
 (80,(Value.tuple (Array.mk [])),some H10),
 (108,(Value.tuple (Array.mk [])),some H13),
 (114,(Value.tuple (Array.mk [])),some H15),
 (151,(Value.tuple (Array.mk [])),some H20),
 (156,(Value.tuple (Array.mk [])),some H22),
 (165,(i64 0),none),
 (209,(i64 (2*pg)),none),
 (212,(Value.bool false),some H24),
 (230,(i64 (2*pg)),none),
 (231,(Value.bool false),none),
 (234,(sl 39173 0 0 pg),some H25),
 (237,(Value.bool true),none),
 (246,(i64 0),none),
 (276,(i64 0),none),
 (277,(sl 68 0 pg pg),none),
 (283,(i64 pg),some H26),
 (284,(sl 68 0 pg pg),none),
 (288,(sl 39173 0 pg pg),some H27),
 (293,(i64 pg),none),
 (298,(i64 0),none),
 (321,(Value.bool false),some H29),
 (325,(sl 39173 0 4 pg),none),
 (341,(Value.tuple (Array.mk [])),some H31),
 (362,(Value.tuple (Array.mk [])),some H33),
 (374,(Value.tuple (Array.mk [])),some H36),
 (385,(Value.tuple (Array.mk [])),some H39),
 (396,(Value.tuple (Array.mk [])),some H42),
 (412,(Value.tuple (Array.mk [])),some H44),
 (424,(Value.tuple (Array.mk [])),some H47),
 (435,(Value.tuple (Array.mk [])),some H50),
 (446,(Value.tuple (Array.mk [])),some H53),
 (465,(Value.tuple (Array.mk [])),some H56),
 (475,(Value.tuple (Array.mk [])),some H58),
 (478,(sl 39173 4 w4 w4),none),
 (494,(Value.bool false),some H59),
 (506,(ptr 39173 11),none),
 (520,(ptr 39173 10),none),
 (534,(ptr 39173 9),none),
 (548,(ptr 39173 8),none),
 (562,(ptr 39173 7),none),
 (576,(ptr 39173 6),none),
 (590,(ptr 39173 5),none),
 (604,(ptr 39173 4),none),
 (642,(Value.tuple (Array.mk [])),some H62),
 (645,(sl 39173 12 w12 w12),none),
 (661,(Value.bool false),some H63),
 (673,(ptr 39173 12),none),
 (711,(Value.tuple (Array.mk [])),some H66),
 (714,(sl 39173 13 w13 w13),none),
 (730,(Value.bool false),some H67),
 (742,(ptr 39173 16),none),
 (744,(u64 (v/16777216)),none),
 (745,(u64 (v/16777216)),none),
 (753,(u64 (v/16777216*256)),none),
 (756,(ptr 39173 15),none),
 (758,(u64 (v/65536 % 256)),none),
 (759,(u64 (v/16777216*256+v/65536 % 256)),none),
 (767,(u64 ((v/16777216*256+v/65536 % 256)*256)),none),
 (770,(ptr 39173 14),none),
 (772,(u64 (v/256 % 256)),none),
 (773,(u64 ((v/16777216*256+v/65536 % 256)*256+v/256 % 256)),none),
 (781,(u64 (((v/16777216*256+v/65536 % 256)*256+v/256 % 256)*256)),none),
 (784,(ptr 39173 13),none),
 (786,(u64 (v % 256)),none),
 (787,(u64 v),none),
 (808,(i64 v),some H68),
 (822,(Value.tuple (Array.mk [])),some H70),
 (825,(sl 39173 17 w17 w17),none),
 (841,(Value.bool false),some H71),
 (853,(ptr 39173 20),none),
 (855,(u64 (n/16777216)),none),
 (856,(u64 (n/16777216)),none),
 (864,(u64 (n/16777216*256)),none),
 (867,(ptr 39173 19),none),
 (869,(u64 (n/65536 % 256)),none),
 (870,(u64 (n/16777216*256+n/65536 % 256)),none),
 (878,(u64 ((n/16777216*256+n/65536 % 256)*256)),none),
 (881,(ptr 39173 18),none),
 (883,(u64 (n/256 % 256)),none),
 (884,(u64 ((n/16777216*256+n/65536 % 256)*256+n/256 % 256)),none),
 (892,(u64 (((n/16777216*256+n/65536 % 256)*256+n/256 % 256)*256)),none),
 (895,(ptr 39173 17),none),
 (897,(u64 (n % 256)),none),
 (898,(u64 n),none),
 (919,(i64 n),some H72),
 (933,(Value.tuple (Array.mk [])),some H74),
 (936,(sl 39173 21 w21 w21),none),
 (952,(Value.bool false),some H75),
 (964,(ptr 39173 24),none),
 (966,(u64 (s/16777216)),none),
 (967,(u64 (s/16777216)),none),
 (975,(u64 (s/16777216*256)),none),
 (978,(ptr 39173 23),none),
 (980,(u64 (s/65536 % 256)),none),
 (981,(u64 (s/16777216*256+s/65536 % 256)),none),
 (989,(u64 ((s/16777216*256+s/65536 % 256)*256)),none),
 (992,(ptr 39173 22),none),
 (994,(u64 (s/256 % 256)),none),
 (995,(u64 ((s/16777216*256+s/65536 % 256)*256+s/256 % 256)),none),
 (1003,(u64 (((s/16777216*256+s/65536 % 256)*256+s/256 % 256)*256)),none),
 (1006,(ptr 39173 21),none),
 (1008,(u64 (s % 256)),none),
 (1009,(u64 s),none),
 (1030,(u32 s),some H76),
 (1045,(Value.tuple (Array.mk [])),some H78),
 (1048,(sl 39173 25 w25 w25),none),
 (1064,(Value.bool false),some H79),
 (1076,(ptr 39173 25),none),
 (1114,(Value.tuple (Array.mk [])),some H82),
 (1117,(sl 39173 26 w26 w26),none),
 (1133,(Value.bool false),some H83),
 (1145,(ptr 39173 29),none),
 (1159,(ptr 39173 28),none),
 (1173,(ptr 39173 27),none),
 (1187,(ptr 39173 26),none),
 (1225,(Value.tuple (Array.mk [])),some H86),
 (1228,(sl 39173 30 w30 w30),none),
 (1244,(Value.bool false),some H87),
 (1256,(ptr 39173 33),none),
 (1270,(ptr 39173 32),none),
 (1284,(ptr 39173 31),none),
 (1298,(ptr 39173 30),none),
 (1336,(Value.tuple (Array.mk [])),some H90),
 (1339,(sl 39173 34 w34 w34),none),
 (1355,(Value.bool false),some H91),
 (1367,(ptr 39173 37),none),
 (1381,(ptr 39173 36),none),
 (1395,(ptr 39173 35),none),
 (1409,(ptr 39173 34),none),
 (1448,(Value.tuple (Array.mk [])),some H94),
 (1451,(sl 39173 38 w38 w38),none),
 (1467,(Value.bool false),some H95),
 (1479,(ptr 39173 38),none),
 (1516,(sl 39173 39 w39 w39),some H97),
 (1530,(Value.bool false),none),
 (1542,(ptr 39173 42),none),
 (1544,(u64 (r/16777216)),none),
 (1545,(u64 (r/16777216)),none),
 (1553,(u64 (r/16777216*256)),none),
 (1556,(ptr 39173 41),none),
 (1558,(u64 (r/65536 % 256)),none),
 (1559,(u64 (r/16777216*256+r/65536 % 256)),none),
 (1567,(u64 ((r/16777216*256+r/65536 % 256)*256)),none),
 (1570,(ptr 39173 40),none),
 (1572,(u64 (r/256 % 256)),none),
 (1573,(u64 ((r/16777216*256+r/65536 % 256)*256+r/256 % 256)),none),
 (1581,(u64 (((r/16777216*256+r/65536 % 256)*256+r/256 % 256)*256)),none),
 (1584,(ptr 39173 39),none),
 (1586,(u64 (r % 256)),none),
 (1587,(u64 r),none),
 (1602,(u32 r),some H98),
 (1605,(sl 39173 0 39 pg),none),
 (1619,(u32 (refN 4294967295 (recL v n s))),some H100),
 (1625,(u32 r),none),
 (1627,(Value.bool false),some H101),
 (1659,(Value.bool true),some H103),
 (1664,(Value.bool true),none),
 (1674,(Value.bool true),none),
 (1700,(Value.tuple (Array.mk [])),some H105),
 (1706,(Value.tuple (Array.mk [])),some H107),
 (1718,(Value.tuple (Array.mk [])),some H108),
 (1728,(i64 pg),none),
 (1772,(i64 (2*pg)),none),
 (1775,(Value.bool false),some H110),
 (1787,(Value.bool false),none),
 (1793,(i64 pg),none),
 (1794,(Value.bool false),none),
 (1797,(sl 39404 0 0 pg),some H111),
 (1800,(Value.bool true),none),
 (1809,(i64 1),none),
 (1839,(i64 0),none),
 (1840,(sl 127 0 pg pg),none),
 (1846,(i64 pg),some H112),
 (1847,(sl 127 0 pg pg),none),
 (1851,(sl 39404 0 pg pg),some H113),
 (1856,(i64 (pg+pg)),none),
 (1861,(i64 0),none),
 (1884,(Value.bool false),some H115),
 (1888,(sl 39404 0 4 pg),none),
 (1889,(Value.string (strOf (List.replicate 4 255))),none),
 (1893,(Value.tuple (Array.mk [])),some H116),
 (1899,(Value.tuple (Array.mk [])),some H118),
 (1912,(Value.tuple (Array.mk [])),some H119),
 (1920,(Value.tuple (Array.mk [])),some H121),
 (1925,(Value.tuple (Array.mk [])),some H122),
 (1931,(Value.tuple (Array.mk [])),some H124),
 (1947,(Value.tuple (Array.mk [])),some H126),
 (1966,(Value.bool false),some H127),
 (1969,(sl 631 0 4 pg),none),
 (1975,(ptr 631 11),none),
 (1995,(sl 631 12 w12 w12),some H128),
 (2009,(Value.bool false),none),
 (2020,(ptr 631 12),none),
 (2048,(sl 631 13 w13 w13),some H129),
 (2062,(Value.bool false),none),
 (2073,(ptr 631 16),none),
 (2075,(u64 (v/16777216)),none),
 (2076,(u64 (v/16777216)),none),
 (2084,(u64 (v/16777216*256)),none),
 (2087,(ptr 631 15),none),
 (2089,(u64 (v/65536 % 256)),none),
 (2090,(u64 (v/16777216*256+v/65536 % 256)),none),
 (2098,(u64 ((v/16777216*256+v/65536 % 256)*256)),none),
 (2101,(ptr 631 14),none),
 (2103,(u64 (v/256 % 256)),none),
 (2104,(u64 ((v/16777216*256+v/65536 % 256)*256+v/256 % 256)),none),
 (2112,(u64 (((v/16777216*256+v/65536 % 256)*256+v/256 % 256)*256)),none),
 (2115,(ptr 631 13),none),
 (2117,(u64 (v % 256)),none),
 (2118,(u64 v),none),
 (2134,(i64 v),some H130),
 (2143,(sl 631 17 w17 w17),some H131),
 (2157,(Value.bool false),none),
 (2168,(ptr 631 20),none),
 (2170,(u64 (n/16777216)),none),
 (2171,(u64 (n/16777216)),none),
 (2179,(u64 (n/16777216*256)),none),
 (2182,(ptr 631 19),none),
 (2184,(u64 (n/65536 % 256)),none),
 (2185,(u64 (n/16777216*256+n/65536 % 256)),none),
 (2193,(u64 ((n/16777216*256+n/65536 % 256)*256)),none),
 (2196,(ptr 631 18),none),
 (2198,(u64 (n/256 % 256)),none),
 (2199,(u64 ((n/16777216*256+n/65536 % 256)*256+n/256 % 256)),none),
 (2207,(u64 (((n/16777216*256+n/65536 % 256)*256+n/256 % 256)*256)),none),
 (2210,(ptr 631 17),none),
 (2212,(u64 (n % 256)),none),
 (2213,(u64 n),none),
 (2229,(i64 n),some H132),
 (2238,(sl 631 21 w21 w21),some H133),
 (2252,(Value.bool false),none),
 (2263,(ptr 631 24),none),
 (2265,(u64 (s/16777216)),none),
 (2266,(u64 (s/16777216)),none),
 (2274,(u64 (s/16777216*256)),none),
 (2277,(ptr 631 23),none),
 (2279,(u64 (s/65536 % 256)),none),
 (2280,(u64 (s/16777216*256+s/65536 % 256)),none),
 (2288,(u64 ((s/16777216*256+s/65536 % 256)*256)),none),
 (2291,(ptr 631 22),none),
 (2293,(u64 (s/256 % 256)),none),
 (2294,(u64 ((s/16777216*256+s/65536 % 256)*256+s/256 % 256)),none),
 (2302,(u64 (((s/16777216*256+s/65536 % 256)*256+s/256 % 256)*256)),none),
 (2305,(ptr 631 21),none),
 (2307,(u64 (s % 256)),none),
 (2308,(u64 s),none),
 (2324,(i64 s),some H134),
 (2326,(u32 s),some H135),
 (2329,(Value.tuple (Array.mk [])),some H136),
 (2346,(sl 631 25 w25 w25),none),
 (2360,(Value.bool false),none),
 (2371,(ptr 631 25),none),
 (2399,(sl 631 26 w26 w26),some H137),
 (2413,(Value.bool false),none),
 (2424,(ptr 631 29),none),
 (2438,(ptr 631 28),none),
 (2452,(ptr 631 27),none),
 (2466,(ptr 631 26),none),
 (2494,(sl 631 30 w30 w30),some H138),
 (2508,(Value.bool false),none),
 (2519,(ptr 631 33),none),
 (2533,(ptr 631 32),none),
 (2547,(ptr 631 31),none),
 (2561,(ptr 631 30),none),
 (2589,(sl 631 34 w34 w34),some H139),
 (2603,(Value.bool false),none),
 (2614,(ptr 631 37),none),
 (2628,(ptr 631 36),none),
 (2642,(ptr 631 35),none),
 (2656,(ptr 631 34),none),
 (2680,(Value.tuple (Array.mk [])),some H141),
 (2689,(sl 631 4 w4 w4),some H142),
 (2703,(Value.bool false),none),
 (2714,(ptr 631 11),none),
 (2728,(ptr 631 10),none),
 (2742,(ptr 631 9),none),
 (2756,(ptr 631 8),none),
 (2770,(ptr 631 7),none),
 (2784,(ptr 631 6),none),
 (2798,(ptr 631 5),none),
 (2812,(ptr 631 4),none),
 (2842,(sl 631 38 w38 w38),some H143),
 (2856,(Value.bool false),none),
 (2867,(ptr 631 38),none),
 (2890,(Value.tuple (Array.mk [])),some H145),
 (2940,(Value.bool true),some H150),
 (2944,(Value.bool true),none),
 (2959,(Value.bool true),some H151),
 (3170,(Value.tuple (Array.mk [])),some H155),
 (3227,(u64 v),some H156),
 (3249,(u8 (v % 256)),none),
 (3254,(u64 (v/256)),some H157),
 (3265,(u8 (v/256 % 256)),none),
 (3270,(u64 (v/65536)),some H158),
 (3281,(u8 (v/65536 % 256)),none),
 (3286,(u64 (v/16777216)),some H159),
 (3296,(u64 (v/16777216)),none),
 (3297,(u8 (v/16777216)),none),
 (3302,(u64 0),some H160),
 (3328,(u64 n),some H161),
 (3350,(u8 (n % 256)),none),
 (3355,(u64 (n/256)),some H162),
 (3366,(u8 (n/256 % 256)),none),
 (3371,(u64 (n/65536)),some H163),
 (3382,(u8 (n/65536 % 256)),none),
 (3387,(u64 (n/16777216)),some H164),
 (3397,(u64 (n/16777216)),none),
 (3398,(u8 (n/16777216)),none),
 (3403,(u64 0),some H165),
 (3429,(u64 s),some H166),
 (3451,(u8 (s % 256)),none),
 (3456,(u64 (s/256)),some H167),
 (3467,(u8 (s/256 % 256)),none),
 (3472,(u64 (s/65536)),some H168),
 (3483,(u8 (s/65536 % 256)),none),
 (3488,(u64 (s/16777216)),some H169),
 (3498,(u64 (s/16777216)),none),
 (3499,(u8 (s/16777216)),none),
 (3504,(u64 0),some H170),
 (3533,(Value.tuple (Array.mk [])),some H172),
 (3953,(u32 (refN 4294967295 (recL v n s))),some H177),
 (3954,(u32 r),none),
 (3956,(u64 r),some H178),
 (3978,(u8 (r % 256)),none),
 (3983,(u64 (r/256)),some H179),
 (3994,(u8 (r/256 % 256)),none),
 (3999,(u64 (r/65536)),some H180),
 (4010,(u8 (r/65536 % 256)),none),
 (4015,(u64 (r/16777216)),some H181),
 (4025,(u64 (r/16777216)),none),
 (4026,(u8 (r/16777216)),none),
 (4031,(u64 0),some H182),
 (4064,(Value.string (strOf (recA v n s r))),none),
 (4066,(sl 631 0 43 pg),none),
 (4067,(Value.string (strOf (recA v n s r))),none),
 (4068,(Value.bool false),none),
 (4071,(Value.tuple (Array.mk [])),some H184),
 (4077,(Value.tuple (Array.mk [])),some H186),
 (4089,(Value.tuple (Array.mk [])),some H187),
 (4110,(Value.bool false),some H188),
 (4113,(sl 495 0 4 pg),none),
 (4114,(Value.string (strOf (List.replicate 4 255))),none),
 (4120,(Value.tuple (Array.mk [])),some H189),
 (4126,(Value.tuple (Array.mk [])),some H191),
 (4141,(Value.tuple (Array.mk [])),some H192),
 (4149,(Value.tuple (Array.mk [])),some H194),
 (4172,(Value.tuple (Array.mk [])),some H197),
 (4274,(Value.tuple (Array.mk [])),some H204),
 (4289,(Value.tuple (Array.mk [])),some H207),
 (4293,(Value.tuple (Array.mk [])),some H209),
 (4295,(Value.bool false),none),
 (4300,(Value.tuple (Array.mk [])),some H212),
 (4404,(Value.tuple (Array.mk [])),some H216),
 (4468,(Value.tuple (Array.mk [])),some H218),
 (4536,(Value.tuple (Array.mk [])),some H220),
 (4539,(Value.tuple (Array.mk [sl 39690 0 n n,i64 0])),some H221),
 (4559,(Value.tuple (Array.mk [])),some H223),
 (4560,(Value.tuple (Array.mk [Value.slice oa n oc,Value.bool true])),some H225),
 (4579,(Value.string (strOf xs)),none),
 (4581,(Value.string (strOf xs)),none),
 (4582,(Value.bool false),none),
 (4596,(Value.tuple (Array.mk [])),some H227),
 (4599,(Value.tuple (Array.mk [sl 39695 0 0 0,i64 0])),some H228),
 (4619,(Value.tuple (Array.mk [])),some H230),
 (4620,(Value.tuple (Array.mk [Value.slice none 0 0,Value.bool true])),some H232)] 3 [(Value.agg (Array.mk [i64 pg,i64 k])),(Value.slice ia n c),(i64 v)] (mkH 1 [(0,some (im xs))])=some ((Value.bool true),H233,
 [Cs (9) (Value.func (Fn.func 34) (Array.mk []) (Array.mk [])) [(ptr 653 0),(Value.agg (Array.mk [i64 0,i64 0,i64 0,u32 0]))] (H231)=some ((Value.tuple (Array.mk [Value.slice none 0 0,Value.bool true])),H232),
 ((stN 4 (ptr 39697 0) (Value.agg (Array.mk [i64 0,i64 0,i64 0,u32 0])) (H229)).bind fun zh=>some (junk,zh))=some ((Value.tuple (Array.mk [])),H230),
 Cs (9) (Value.func (Fn.func 33) (Array.mk []) (Array.mk [])) [(ptr 489 0),(Value.agg (Array.mk [i64 0,i64 0,i64 0,u32 0]))] (H227)=some ((Value.tuple (Array.mk [sl 39695 0 0 0,i64 0])),H228),
 ((stN 4 (ptr 39694 0) (Value.agg (Array.mk [i64 0,i64 0,i64 0,u32 0])) (H226)).bind fun zh=>some (junk,zh))=some ((Value.tuple (Array.mk [])),H227),
 some (Value.bool !ByteArray.toList (strOf xs) == ByteArray.toList (strOf xs),H225)=some ((Value.bool false),H225),
 ((cBytes (Value.slice oa n oc) (H225)).bind fun zv=>some (zv,H225))=some ((Value.string (strOf xs)),H225),
 ((cBytes (sl 39690 0 n n) (H225)).bind fun zv=>some (zv,H225))=some ((Value.string (strOf xs)),H225),
 Cs (9) (Value.func (Fn.func 34) (Array.mk []) (Array.mk [])) [(ptr 653 0),(Value.agg (Array.mk [i64 0,i64 v,i64 n,u32 s]))] (H224)=some ((Value.tuple (Array.mk [Value.slice oa n oc,Value.bool true])),H225),
 ((stN 4 (ptr 39692 0) (Value.agg (Array.mk [i64 0,i64 v,i64 n,u32 s])) (H222)).bind fun zh=>some (junk,zh))=some ((Value.tuple (Array.mk [])),H223),
 Cs (9) (Value.func (Fn.func 33) (Array.mk []) (Array.mk [])) [(ptr 489 0),(Value.agg (Array.mk [i64 0,i64 v,i64 n,u32 s]))] (H220)=some ((Value.tuple (Array.mk [sl 39690 0 n n,i64 0])),H221),
 ((stN 4 (ptr 39689 0) (Value.agg (Array.mk [i64 0,i64 v,i64 n,u32 s])) (H219)).bind fun zh=>some (junk,zh))=some ((Value.tuple (Array.mk [])),H220),
 ((stN 3 (ptr 39659 0) (Value.agg (Array.mk [i64 2,i64 2,i64 0])) (H217)).bind fun zh=>some (junk,zh))=some ((Value.tuple (Array.mk [])),H218),
 ((stN 3 (ptr 39630 0) (Value.agg (Array.mk [i64 1,i64 2,i64 0])) (H215)).bind fun zh=>some (junk,zh))=some ((Value.tuple (Array.mk [])),H216),
 ((stN 6 (ptr 39628 0) (Value.agg (Array.mk [i64 0,i64 0,u32 0,u32 0,i64 0,i64 0])) (H211)).bind fun zh=>some (junk,zh))=some ((Value.tuple (Array.mk [])),H212),
 (some (Value.agg (Array.mk [i64 1,i64 0,i64 v,i64 n,u32 s,i64 0,i64 0,i64 0,u32 0,i64 0])):Option Value)=some (Value.agg (Array.mk [i64 1,i64 0,i64 v,i64 n,u32 s,i64 0,i64 0,i64 0,u32 0,i64 0])),
 (some (Value.bool false):Option Value)=some (Value.bool false),
 (some (ptr 490 0):Option Value)=some (ptr 490 0),
 (some (Value.agg (Array.mk [i64 0,i64 0,i64 0,u32 0])):Option Value)=some (Value.agg (Array.mk [i64 0,i64 0,i64 0,u32 0])),
 ((kBin envT BinOp.neq 58 none (Value.agg (Array.mk [i64 1,i64 0,i64 v,i64 n,u32 s,i64 0,i64 0,i64 0,u32 0,i64 0])) (Value.agg (Array.mk [i64 1,i64 0,i64 v,i64 n,u32 s,i64 0,i64 0,i64 0,u32 0,i64 0]))).bind fun zv=>some (zv,H210))=some ((Value.bool false),H210),
 (some (i64 0):Option Value)=some (i64 0),
 (some (i64 0):Option Value)=some (i64 0),
 (some (Value.agg (Array.mk [i64 0,i64 0,i64 0,u32 0])):Option Value)=some (Value.agg (Array.mk [i64 0,i64 0,i64 0,u32 0])),
 (some (i64 1):Option Value)=some (i64 1),
 (some (i64 1):Option Value)=some (i64 1),
 ((stN 10 (ptr 39611 0) (Value.agg (Array.mk [i64 1,i64 0,i64 v,i64 n,u32 s,i64 0,i64 0,i64 0,u32 0,i64 0])) (H208)).bind fun zh=>some (junk,zh))=some ((Value.tuple (Array.mk [])),H209),
 ((stN 4 (ptr 39627 0) (Value.agg (Array.mk [i64 0,i64 0,i64 0,u32 0])) (H206)).bind fun zh=>some (junk,zh))=some ((Value.tuple (Array.mk [])),H207),
 ((stN 4 (ptr 39625 0) (Value.agg (Array.mk [i64 0,i64 v,i64 n,u32 s])) (H203)).bind fun zh=>some (junk,zh))=some ((Value.tuple (Array.mk [])),H204),
 ((stN 4 (ptr 39609 0) (Value.agg (Array.mk [i64 0,i64 0,i64 0,u32 0])) (H196)).bind fun zh=>some (junk,zh))=some ((Value.tuple (Array.mk [])),H197),
 ((stN 10 (ptr 39559 0) (Value.agg (Array.mk [i64 1,i64 0,i64 v,i64 n,u32 s,i64 0,i64 0,i64 0,u32 0,i64 0])) (H193)).bind fun zh=>some (junk,zh))=some ((Value.tuple (Array.mk [])),H194),
 ((stN 10 (ptr 39435 0) (Value.agg (Array.mk [i64 1,i64 0,i64 v,i64 n,u32 s,i64 0,i64 0,i64 0,u32 0,i64 0])) (H191)).bind fun zh=>some (junk,zh))=some ((Value.tuple (Array.mk [])),H192),
 ((stN 10 (ptr 39558 0) (Value.agg (Array.mk [i64 0,i64 0,i64 0,i64 0,u32 0,i64 0,i64 0,i64 0,u32 0,i64 0])) (H190)).bind fun zh=>some (junk,zh))=some ((Value.tuple (Array.mk [])),H191),
 ((stN 10 (ptr 39557 0) (Value.agg (Array.mk [i64 0,i64 0,i64 0,i64 0,u32 0,i64 0,i64 0,i64 0,u32 0,i64 0])) (H188)).bind fun zh=>some (junk,zh))=some ((Value.tuple (Array.mk [])),H189),
 ((cBytes (sl 495 0 4 pg) (H188)).bind fun zv=>some (zv,H188))=some ((Value.string (strOf (List.replicate 4 255))),H188),
 ((slS 1 (sl 495 0 pg pg) none (some (i64 4)) none).bind fun zv=>some (zv,H188))=some ((sl 495 0 4 pg),H188),
 some (Value.bool (ilt (Int.ofNat pg) (Int.ofNat 43)),H188)=some ((Value.bool false),H188),
 ((stN 10 (ptr 39436 0) (Value.agg (Array.mk [i64 1,i64 0,i64 v,i64 n,u32 s,i64 0,i64 0,i64 0,u32 0,i64 0])) (H186)).bind fun zh=>some (junk,zh))=some ((Value.tuple (Array.mk [])),H187),
 ((stN 10 (ptr 39556 0) (Value.agg (Array.mk [i64 1,i64 0,i64 v,i64 n,u32 s,i64 0,i64 0,i64 0,u32 0,i64 0])) (H185)).bind fun zh=>some (junk,zh))=some ((Value.tuple (Array.mk [])),H186),
 ((stN 10 (ptr 39437 0) (Value.agg (Array.mk [i64 1,i64 0,i64 v,i64 n,u32 s,i64 0,i64 0,i64 0,u32 0,i64 0])) (H183)).bind fun zh=>some (junk,zh))=some ((Value.tuple (Array.mk [])),H184),
 some (Value.bool !ByteArray.toList (strOf (recA v n s r)) == ByteArray.toList (strOf (recA v n s r)),H183)=some ((Value.bool false),H183),
 ((cBytes (sl 631 0 43 pg) (H183)).bind fun zv=>some (zv,H183))=some ((Value.string (strOf (recA v n s r))),H183),
 ((slS 1 (sl 631 0 pg pg) none (some (i64 43)) none).bind fun zv=>some (zv,H183))=some ((sl 631 0 43 pg),H183),
 ((cBytes (sl 39545 0 43 4611686018427387905) (H183)).bind fun zv=>some (zv,H183))=some ((Value.string (strOf (recA v n s r))),H183),
 some (Value.int IntKind.u64 (wr IntKind.u64 (Int.ofNat (r/16777216/256))),H182)=some ((u64 0),H182),
 some (Value.int IntKind.u8 (wr IntKind.u8 (Int.ofNat (r/16777216))),H181)=some ((u8 (r/16777216)),H181),
 some (u64 ((r/16777216 % 256)),H181)=some ((u64 (r/16777216)),H181),
 some (Value.int IntKind.u64 (wr IntKind.u64 (Int.ofNat (r/65536/256))),H181)=some ((u64 (r/16777216)),H181),
 some (Value.int IntKind.u8 (wr IntKind.u8 (Int.ofNat (r/65536 % 256))),H180)=some ((u8 (r/65536 % 256)),H180),
 some (Value.int IntKind.u64 (wr IntKind.u64 (Int.ofNat (r/256/256))),H180)=some ((u64 (r/65536)),H180),
 some (Value.int IntKind.u8 (wr IntKind.u8 (Int.ofNat (r/256 % 256))),H179)=some ((u8 (r/256 % 256)),H179),
 some (Value.int IntKind.u64 (wr IntKind.u64 (Int.ofNat (r/256))),H179)=some ((u64 (r/256)),H179),
 some (Value.int IntKind.u8 (wr IntKind.u8 (Int.ofNat (r % 256))),H178)=some ((u8 (r % 256)),H178),
 some (Value.int IntKind.u64 (wr IntKind.u64 (Int.ofNat r)),H178)=some ((u64 r),H178),
 some (Value.int IntKind.u32 (bitsOf IntKind.u32 Nat.xor (fun x1 x2=>x1 ^^^ x2) (Int.ofNat 4294967295) (Int.ofNat (refN 4294967295 (recL v n s)))),H177)=some ((u32 r),H177),
 Cs (5) (Value.func (Fn.func 79) (Array.mk []) (Array.mk [])) [(u32 4294967295),(sl 39536 0 39 4611686018427387905)] (H177)=some ((u32 (refN 4294967295 (recL v n s))),H177),
 ((stN 4 (ptr 39503 0) (Value.agg (Array.mk [i64 0,i64 0,i64 0,u32 0])) (H171)).bind fun zh=>some (junk,zh))=some ((Value.tuple (Array.mk [])),H172),
 some (Value.int IntKind.u64 (wr IntKind.u64 (Int.ofNat (s/16777216/256))),H170)=some ((u64 0),H170),
 some (Value.int IntKind.u8 (wr IntKind.u8 (Int.ofNat (s/16777216))),H169)=some ((u8 (s/16777216)),H169),
 some (u64 ((s/16777216 % 256)),H169)=some ((u64 (s/16777216)),H169),
 some (Value.int IntKind.u64 (wr IntKind.u64 (Int.ofNat (s/65536/256))),H169)=some ((u64 (s/16777216)),H169),
 some (Value.int IntKind.u8 (wr IntKind.u8 (Int.ofNat (s/65536 % 256))),H168)=some ((u8 (s/65536 % 256)),H168),
 some (Value.int IntKind.u64 (wr IntKind.u64 (Int.ofNat (s/256/256))),H168)=some ((u64 (s/65536)),H168),
 some (Value.int IntKind.u8 (wr IntKind.u8 (Int.ofNat (s/256 % 256))),H167)=some ((u8 (s/256 % 256)),H167),
 some (Value.int IntKind.u64 (wr IntKind.u64 (Int.ofNat (s/256))),H167)=some ((u64 (s/256)),H167),
 some (Value.int IntKind.u8 (wr IntKind.u8 (Int.ofNat (s % 256))),H166)=some ((u8 (s % 256)),H166),
 some (Value.int IntKind.u64 (wr IntKind.u64 (Int.ofNat s)),H166)=some ((u64 s),H166),
 some (Value.int IntKind.u64 (wr IntKind.u64 (Int.ofNat (n/16777216/256))),H165)=some ((u64 0),H165),
 some (Value.int IntKind.u8 (wr IntKind.u8 (Int.ofNat (n/16777216))),H164)=some ((u8 (n/16777216)),H164),
 some (u64 ((n/16777216 % 256)),H164)=some ((u64 (n/16777216)),H164),
 some (Value.int IntKind.u64 (wr IntKind.u64 (Int.ofNat (n/65536/256))),H164)=some ((u64 (n/16777216)),H164),
 some (Value.int IntKind.u8 (wr IntKind.u8 (Int.ofNat (n/65536 % 256))),H163)=some ((u8 (n/65536 % 256)),H163),
 some (Value.int IntKind.u64 (wr IntKind.u64 (Int.ofNat (n/256/256))),H163)=some ((u64 (n/65536)),H163),
 some (Value.int IntKind.u8 (wr IntKind.u8 (Int.ofNat (n/256 % 256))),H162)=some ((u8 (n/256 % 256)),H162),
 some (Value.int IntKind.u64 (wr IntKind.u64 (Int.ofNat (n/256))),H162)=some ((u64 (n/256)),H162),
 some (Value.int IntKind.u8 (wr IntKind.u8 (Int.ofNat (n % 256))),H161)=some ((u8 (n % 256)),H161),
 some (Value.int IntKind.u64 (wr IntKind.u64 (Int.ofNat n)),H161)=some ((u64 n),H161),
 some (Value.int IntKind.u64 (wr IntKind.u64 (Int.ofNat (v/16777216/256))),H160)=some ((u64 0),H160),
 some (Value.int IntKind.u8 (wr IntKind.u8 (Int.ofNat (v/16777216))),H159)=some ((u8 (v/16777216)),H159),
 some (u64 ((v/16777216 % 256)),H159)=some ((u64 (v/16777216)),H159),
 some (Value.int IntKind.u64 (wr IntKind.u64 (Int.ofNat (v/65536/256))),H159)=some ((u64 (v/16777216)),H159),
 some (Value.int IntKind.u8 (wr IntKind.u8 (Int.ofNat (v/65536 % 256))),H158)=some ((u8 (v/65536 % 256)),H158),
 some (Value.int IntKind.u64 (wr IntKind.u64 (Int.ofNat (v/256/256))),H158)=some ((u64 (v/65536)),H158),
 some (Value.int IntKind.u8 (wr IntKind.u8 (Int.ofNat (v/256 % 256))),H157)=some ((u8 (v/256 % 256)),H157),
 some (Value.int IntKind.u64 (wr IntKind.u64 (Int.ofNat (v/256))),H157)=some ((u64 (v/256)),H157),
 some (Value.int IntKind.u8 (wr IntKind.u8 (Int.ofNat (v % 256))),H156)=some ((u8 (v % 256)),H156),
 some (Value.int IntKind.u64 (wr IntKind.u64 (Int.ofNat v)),H156)=some ((u64 v),H156),
 ((stN 4 (ptr 39472 0) (Value.agg (Array.mk [i64 0,i64 v,i64 n,u32 s])) (H154)).bind fun zh=>some (junk,zh))=some ((Value.tuple (Array.mk [])),H155),
 some (Value.bool !ilt (Int.ofNat 16777216) (Int.ofNat n),H151)=some ((Value.bool true),H151),
 some (Value.bool !ilt (Int.ofNat 2147483647) (Int.ofNat v),H150)=some ((Value.bool true),H150),
 some (Value.bool !ilt (Int.ofNat v) (Int.ofNat 1),H150)=some ((Value.bool true),H150),
 (some (Value.agg (Array.mk [i64 0,i64 0,i64 0,u32 0])):Option Value)=some (Value.agg (Array.mk [i64 0,i64 0,i64 0,u32 0])),
 (some (Value.agg (Array.mk [i64 0,i64 0,i64 0,u32 0])):Option Value)=some (Value.agg (Array.mk [i64 0,i64 0,i64 0,u32 0])),
 (some (Value.agg (Array.mk [i64 0,i64 v,i64 n,u32 s])):Option Value)=some (Value.agg (Array.mk [i64 0,i64 v,i64 n,u32 s])),
 (some (Value.agg (Array.mk [i64 0,i64 v,i64 n,u32 s])):Option Value)=some (Value.agg (Array.mk [i64 0,i64 v,i64 n,u32 s])),
 ((stN 10 (ptr 39448 0) (Value.agg (Array.mk [i64 1,i64 0,i64 v,i64 n,u32 s,i64 0,i64 0,i64 0,u32 0,i64 0])) (H144)).bind fun zh=>some (junk,zh))=some ((Value.tuple (Array.mk [])),H145),
 (((ixOk (Int.ofNat 0) (w38)).bind fun zm=>some (ptr (631) (38+zm*1))).bind fun zv=>some (zv,H143))=some ((ptr 631 38),H143),
 some (Value.bool (ilt (Int.ofNat w38) (Int.ofNat 1)),H143)=some ((Value.bool false),H143),
 ((slS 1 (sl 631 0 pg pg) (some (i64 38)) none none).bind fun zv=>some (zv,H143))=some ((sl 631 38 w38 w38),H143),
 (((ixOk (Int.ofNat 0) (w4)).bind fun zm=>some (ptr (631) (4+zm*1))).bind fun zv=>some (zv,H142))=some ((ptr 631 4),H142),
 (((ixOk (Int.ofNat 1) (w4)).bind fun zm=>some (ptr (631) (4+zm*1))).bind fun zv=>some (zv,H142))=some ((ptr 631 5),H142),
 (((ixOk (Int.ofNat 2) (w4)).bind fun zm=>some (ptr (631) (4+zm*1))).bind fun zv=>some (zv,H142))=some ((ptr 631 6),H142),
 (((ixOk (Int.ofNat 3) (w4)).bind fun zm=>some (ptr (631) (4+zm*1))).bind fun zv=>some (zv,H142))=some ((ptr 631 7),H142),
 (((ixOk (Int.ofNat 4) (w4)).bind fun zm=>some (ptr (631) (4+zm*1))).bind fun zv=>some (zv,H142))=some ((ptr 631 8),H142),
 (((ixOk (Int.ofNat 5) (w4)).bind fun zm=>some (ptr (631) (4+zm*1))).bind fun zv=>some (zv,H142))=some ((ptr 631 9),H142),
 (((ixOk (Int.ofNat 6) (w4)).bind fun zm=>some (ptr (631) (4+zm*1))).bind fun zv=>some (zv,H142))=some ((ptr 631 10),H142),
 (((ixOk (Int.ofNat 7) (w4)).bind fun zm=>some (ptr (631) (4+zm*1))).bind fun zv=>some (zv,H142))=some ((ptr 631 11),H142),
 some (Value.bool (ilt (Int.ofNat w4) (Int.ofNat 8)),H142)=some ((Value.bool false),H142),
 ((slS 1 (sl 631 0 pg pg) (some (i64 4)) none none).bind fun zv=>some (zv,H142))=some ((sl 631 4 w4 w4),H142),
 ((stN 4 (ptr 39438 4) (Value.agg (Array.mk [i64 0,i64 0,i64 0,u32 0])) (H140)).bind fun zh=>some (junk,zh))=some ((Value.tuple (Array.mk [])),H141),
 (((ixOk (Int.ofNat 0) (w34)).bind fun zm=>some (ptr (631) (34+zm*1))).bind fun zv=>some (zv,H139))=some ((ptr 631 34),H139),
 (((ixOk (Int.ofNat 1) (w34)).bind fun zm=>some (ptr (631) (34+zm*1))).bind fun zv=>some (zv,H139))=some ((ptr 631 35),H139),
 (((ixOk (Int.ofNat 2) (w34)).bind fun zm=>some (ptr (631) (34+zm*1))).bind fun zv=>some (zv,H139))=some ((ptr 631 36),H139),
 (((ixOk (Int.ofNat 3) (w34)).bind fun zm=>some (ptr (631) (34+zm*1))).bind fun zv=>some (zv,H139))=some ((ptr 631 37),H139),
 some (Value.bool (ilt (Int.ofNat w34) (Int.ofNat 4)),H139)=some ((Value.bool false),H139),
 ((slS 1 (sl 631 0 pg pg) (some (i64 34)) none none).bind fun zv=>some (zv,H139))=some ((sl 631 34 w34 w34),H139),
 (((ixOk (Int.ofNat 0) (w30)).bind fun zm=>some (ptr (631) (30+zm*1))).bind fun zv=>some (zv,H138))=some ((ptr 631 30),H138),
 (((ixOk (Int.ofNat 1) (w30)).bind fun zm=>some (ptr (631) (30+zm*1))).bind fun zv=>some (zv,H138))=some ((ptr 631 31),H138),
 (((ixOk (Int.ofNat 2) (w30)).bind fun zm=>some (ptr (631) (30+zm*1))).bind fun zv=>some (zv,H138))=some ((ptr 631 32),H138),
 (((ixOk (Int.ofNat 3) (w30)).bind fun zm=>some (ptr (631) (30+zm*1))).bind fun zv=>some (zv,H138))=some ((ptr 631 33),H138),
 some (Value.bool (ilt (Int.ofNat w30) (Int.ofNat 4)),H138)=some ((Value.bool false),H138),
 ((slS 1 (sl 631 0 pg pg) (some (i64 30)) none none).bind fun zv=>some (zv,H138))=some ((sl 631 30 w30 w30),H138),
 (((ixOk (Int.ofNat 0) (w26)).bind fun zm=>some (ptr (631) (26+zm*1))).bind fun zv=>some (zv,H137))=some ((ptr 631 26),H137),
 (((ixOk (Int.ofNat 1) (w26)).bind fun zm=>some (ptr (631) (26+zm*1))).bind fun zv=>some (zv,H137))=some ((ptr 631 27),H137),
 (((ixOk (Int.ofNat 2) (w26)).bind fun zm=>some (ptr (631) (26+zm*1))).bind fun zv=>some (zv,H137))=some ((ptr 631 28),H137),
 (((ixOk (Int.ofNat 3) (w26)).bind fun zm=>some (ptr (631) (26+zm*1))).bind fun zv=>some (zv,H137))=some ((ptr 631 29),H137),
 some (Value.bool (ilt (Int.ofNat w26) (Int.ofNat 4)),H137)=some ((Value.bool false),H137),
 ((slS 1 (sl 631 0 pg pg) (some (i64 26)) none none).bind fun zv=>some (zv,H137))=some ((sl 631 26 w26 w26),H137),
 (((ixOk (Int.ofNat 0) (w25)).bind fun zm=>some (ptr (631) (25+zm*1))).bind fun zv=>some (zv,H136))=some ((ptr 631 25),H136),
 some (Value.bool (ilt (Int.ofNat w25) (Int.ofNat 1)),H136)=some ((Value.bool false),H136),
 ((slS 1 (sl 631 0 pg pg) (some (i64 25)) none none).bind fun zv=>some (zv,H136))=some ((sl 631 25 w25 w25),H136),
 ((stN 4 (ptr 39438 0) (Value.agg (Array.mk [i64 0,i64 v,i64 n,u32 s])) (H135)).bind fun zh=>some (junk,zh))=some ((Value.tuple (Array.mk [])),H136),
 some (Value.int IntKind.u32 (wr IntKind.u32 (Int.ofNat s)),H135)=some ((u32 s),H135),
 some (Value.int IntKind.i64 (wr IntKind.i64 (Int.ofNat s)),H134)=some ((i64 s),H134),
 some (Value.int IntKind.u64 (wr IntKind.u64 (Int.ofNat (((s/16777216*256+s/65536 % 256)*256+s/256 % 256)*256+s % 256))),H133)=some ((u64 s),H133),
 some (Value.int IntKind.u64 (wr IntKind.u64 (Int.ofNat (s % 256))),H133)=some ((u64 (s % 256)),H133),
 (((ixOk (Int.ofNat 0) (w21)).bind fun zm=>some (ptr (631) (21+zm*1))).bind fun zv=>some (zv,H133))=some ((ptr 631 21),H133),
 some (Value.int IntKind.u64 (wr IntKind.u64 (Int.ofNat (((s/16777216*256+s/65536 % 256)*256+s/256 % 256)*256))),H133)=some ((u64 (((s/16777216*256+s/65536 % 256)*256+s/256 % 256)*256)),H133),
 some (Value.int IntKind.u64 (wr IntKind.u64 (Int.ofNat ((s/16777216*256+s/65536 % 256)*256+s/256 % 256))),H133)=some ((u64 ((s/16777216*256+s/65536 % 256)*256+s/256 % 256)),H133),
 some (Value.int IntKind.u64 (wr IntKind.u64 (Int.ofNat (s/256 % 256))),H133)=some ((u64 (s/256 % 256)),H133),
 (((ixOk (Int.ofNat 1) (w21)).bind fun zm=>some (ptr (631) (21+zm*1))).bind fun zv=>some (zv,H133))=some ((ptr 631 22),H133),
 some (Value.int IntKind.u64 (wr IntKind.u64 (Int.ofNat ((s/16777216*256+s/65536 % 256)*256))),H133)=some ((u64 ((s/16777216*256+s/65536 % 256)*256)),H133),
 some (Value.int IntKind.u64 (wr IntKind.u64 (Int.ofNat (s/16777216*256+s/65536 % 256))),H133)=some ((u64 (s/16777216*256+s/65536 % 256)),H133),
 some (Value.int IntKind.u64 (wr IntKind.u64 (Int.ofNat (s/65536 % 256))),H133)=some ((u64 (s/65536 % 256)),H133),
 (((ixOk (Int.ofNat 2) (w21)).bind fun zm=>some (ptr (631) (21+zm*1))).bind fun zv=>some (zv,H133))=some ((ptr 631 23),H133),
 some (Value.int IntKind.u64 (wr IntKind.u64 (Int.ofNat (s/16777216*256))),H133)=some ((u64 (s/16777216*256)),H133),
 some (Value.int IntKind.u64 (wr IntKind.u64 (Int.ofNat (0+s/16777216))),H133)=some ((u64 (s/16777216)),H133),
 some (Value.int IntKind.u64 (wr IntKind.u64 (Int.ofNat (s/16777216))),H133)=some ((u64 (s/16777216)),H133),
 (((ixOk (Int.ofNat 3) (w21)).bind fun zm=>some (ptr (631) (21+zm*1))).bind fun zv=>some (zv,H133))=some ((ptr 631 24),H133),
 some (Value.bool (ilt (Int.ofNat w21) (Int.ofNat 4)),H133)=some ((Value.bool false),H133),
 ((slS 1 (sl 631 0 pg pg) (some (i64 21)) none none).bind fun zv=>some (zv,H133))=some ((sl 631 21 w21 w21),H133),
 some (Value.int IntKind.i64 (wr IntKind.i64 (Int.ofNat n)),H132)=some ((i64 n),H132),
 some (Value.int IntKind.u64 (wr IntKind.u64 (Int.ofNat (((n/16777216*256+n/65536 % 256)*256+n/256 % 256)*256+n % 256))),H131)=some ((u64 n),H131),
 some (Value.int IntKind.u64 (wr IntKind.u64 (Int.ofNat (n % 256))),H131)=some ((u64 (n % 256)),H131),
 (((ixOk (Int.ofNat 0) (w17)).bind fun zm=>some (ptr (631) (17+zm*1))).bind fun zv=>some (zv,H131))=some ((ptr 631 17),H131),
 some (Value.int IntKind.u64 (wr IntKind.u64 (Int.ofNat (((n/16777216*256+n/65536 % 256)*256+n/256 % 256)*256))),H131)=some ((u64 (((n/16777216*256+n/65536 % 256)*256+n/256 % 256)*256)),H131),
 some (Value.int IntKind.u64 (wr IntKind.u64 (Int.ofNat ((n/16777216*256+n/65536 % 256)*256+n/256 % 256))),H131)=some ((u64 ((n/16777216*256+n/65536 % 256)*256+n/256 % 256)),H131),
 some (Value.int IntKind.u64 (wr IntKind.u64 (Int.ofNat (n/256 % 256))),H131)=some ((u64 (n/256 % 256)),H131),
 (((ixOk (Int.ofNat 1) (w17)).bind fun zm=>some (ptr (631) (17+zm*1))).bind fun zv=>some (zv,H131))=some ((ptr 631 18),H131),
 some (Value.int IntKind.u64 (wr IntKind.u64 (Int.ofNat ((n/16777216*256+n/65536 % 256)*256))),H131)=some ((u64 ((n/16777216*256+n/65536 % 256)*256)),H131),
 some (Value.int IntKind.u64 (wr IntKind.u64 (Int.ofNat (n/16777216*256+n/65536 % 256))),H131)=some ((u64 (n/16777216*256+n/65536 % 256)),H131),
 some (Value.int IntKind.u64 (wr IntKind.u64 (Int.ofNat (n/65536 % 256))),H131)=some ((u64 (n/65536 % 256)),H131),
 (((ixOk (Int.ofNat 2) (w17)).bind fun zm=>some (ptr (631) (17+zm*1))).bind fun zv=>some (zv,H131))=some ((ptr 631 19),H131),
 some (Value.int IntKind.u64 (wr IntKind.u64 (Int.ofNat (n/16777216*256))),H131)=some ((u64 (n/16777216*256)),H131),
 some (Value.int IntKind.u64 (wr IntKind.u64 (Int.ofNat (0+n/16777216))),H131)=some ((u64 (n/16777216)),H131),
 some (Value.int IntKind.u64 (wr IntKind.u64 (Int.ofNat (n/16777216))),H131)=some ((u64 (n/16777216)),H131),
 (((ixOk (Int.ofNat 3) (w17)).bind fun zm=>some (ptr (631) (17+zm*1))).bind fun zv=>some (zv,H131))=some ((ptr 631 20),H131),
 some (Value.bool (ilt (Int.ofNat w17) (Int.ofNat 4)),H131)=some ((Value.bool false),H131),
 ((slS 1 (sl 631 0 pg pg) (some (i64 17)) none none).bind fun zv=>some (zv,H131))=some ((sl 631 17 w17 w17),H131),
 some (Value.int IntKind.i64 (wr IntKind.i64 (Int.ofNat v)),H130)=some ((i64 v),H130),
 some (Value.int IntKind.u64 (wr IntKind.u64 (Int.ofNat (((v/16777216*256+v/65536 % 256)*256+v/256 % 256)*256+v % 256))),H129)=some ((u64 v),H129),
 some (Value.int IntKind.u64 (wr IntKind.u64 (Int.ofNat (v % 256))),H129)=some ((u64 (v % 256)),H129),
 (((ixOk (Int.ofNat 0) (w13)).bind fun zm=>some (ptr (631) (13+zm*1))).bind fun zv=>some (zv,H129))=some ((ptr 631 13),H129),
 some (Value.int IntKind.u64 (wr IntKind.u64 (Int.ofNat (((v/16777216*256+v/65536 % 256)*256+v/256 % 256)*256))),H129)=some ((u64 (((v/16777216*256+v/65536 % 256)*256+v/256 % 256)*256)),H129),
 some (Value.int IntKind.u64 (wr IntKind.u64 (Int.ofNat ((v/16777216*256+v/65536 % 256)*256+v/256 % 256))),H129)=some ((u64 ((v/16777216*256+v/65536 % 256)*256+v/256 % 256)),H129),
 some (Value.int IntKind.u64 (wr IntKind.u64 (Int.ofNat (v/256 % 256))),H129)=some ((u64 (v/256 % 256)),H129),
 (((ixOk (Int.ofNat 1) (w13)).bind fun zm=>some (ptr (631) (13+zm*1))).bind fun zv=>some (zv,H129))=some ((ptr 631 14),H129),
 some (Value.int IntKind.u64 (wr IntKind.u64 (Int.ofNat ((v/16777216*256+v/65536 % 256)*256))),H129)=some ((u64 ((v/16777216*256+v/65536 % 256)*256)),H129),
 some (Value.int IntKind.u64 (wr IntKind.u64 (Int.ofNat (v/16777216*256+v/65536 % 256))),H129)=some ((u64 (v/16777216*256+v/65536 % 256)),H129),
 some (Value.int IntKind.u64 (wr IntKind.u64 (Int.ofNat (v/65536 % 256))),H129)=some ((u64 (v/65536 % 256)),H129),
 (((ixOk (Int.ofNat 2) (w13)).bind fun zm=>some (ptr (631) (13+zm*1))).bind fun zv=>some (zv,H129))=some ((ptr 631 15),H129),
 some (Value.int IntKind.u64 (wr IntKind.u64 (Int.ofNat (v/16777216*256))),H129)=some ((u64 (v/16777216*256)),H129),
 some (Value.int IntKind.u64 (wr IntKind.u64 (Int.ofNat (0+v/16777216))),H129)=some ((u64 (v/16777216)),H129),
 some (Value.int IntKind.u64 (wr IntKind.u64 (Int.ofNat (v/16777216))),H129)=some ((u64 (v/16777216)),H129),
 (((ixOk (Int.ofNat 3) (w13)).bind fun zm=>some (ptr (631) (13+zm*1))).bind fun zv=>some (zv,H129))=some ((ptr 631 16),H129),
 some (Value.bool (ilt (Int.ofNat w13) (Int.ofNat 4)),H129)=some ((Value.bool false),H129),
 ((slS 1 (sl 631 0 pg pg) (some (i64 13)) none none).bind fun zv=>some (zv,H129))=some ((sl 631 13 w13 w13),H129),
 (((ixOk (Int.ofNat 0) (w12)).bind fun zm=>some (ptr (631) (12+zm*1))).bind fun zv=>some (zv,H128))=some ((ptr 631 12),H128),
 some (Value.bool (ilt (Int.ofNat w12) (Int.ofNat 1)),H128)=some ((Value.bool false),H128),
 ((slS 1 (sl 631 0 pg pg) (some (i64 12)) none none).bind fun zv=>some (zv,H128))=some ((sl 631 12 w12 w12),H128),
 (((ixOk (Int.ofNat 11) (pg)).bind fun zm=>some (ptr (631) (0+zm*1))).bind fun zv=>some (zv,H127))=some ((ptr 631 11),H127),
 ((slS 1 (sl 631 0 pg pg) none (some (i64 4)) none).bind fun zv=>some (zv,H127))=some ((sl 631 0 4 pg),H127),
 some (Value.bool (ilt (Int.ofNat pg) (Int.ofNat 43)),H127)=some ((Value.bool false),H127),
 ((stN 10 (ptr 39436 0) (Value.agg (Array.mk [i64 0,i64 0,i64 0,i64 0,u32 0,i64 0,i64 0,i64 0,u32 0,i64 0])) (H125)).bind fun zh=>some (junk,zh))=some ((Value.tuple (Array.mk [])),H126),
 ((stN 10 (ptr 39434 0) (Value.agg (Array.mk [i64 1,i64 0,i64 v,i64 n,u32 s,i64 0,i64 0,i64 0,u32 0,i64 0])) (H123)).bind fun zh=>some (junk,zh))=some ((Value.tuple (Array.mk [])),H124),
 ((stN 10 (ptr 39159 0) (Value.agg (Array.mk [i64 1,i64 0,i64 v,i64 n,u32 s,i64 0,i64 0,i64 0,u32 0,i64 0])) (H121)).bind fun zh=>some (junk,zh))=some ((Value.tuple (Array.mk [])),H122),
 ((stN 10 (ptr 39433 0) (Value.agg (Array.mk [i64 1,i64 0,i64 v,i64 n,u32 s,i64 0,i64 0,i64 0,u32 0,i64 0])) (H120)).bind fun zh=>some (junk,zh))=some ((Value.tuple (Array.mk [])),H121),
 ((stN 10 (ptr 39160 0) (Value.agg (Array.mk [i64 1,i64 0,i64 v,i64 n,u32 s,i64 0,i64 0,i64 0,u32 0,i64 0])) (H118)).bind fun zh=>some (junk,zh))=some ((Value.tuple (Array.mk [])),H119),
 ((stN 10 (ptr 39432 0) (Value.agg (Array.mk [i64 0,i64 0,i64 0,i64 0,u32 0,i64 0,i64 0,i64 0,u32 0,i64 0])) (H117)).bind fun zh=>some (junk,zh))=some ((Value.tuple (Array.mk [])),H118),
 ((stN 10 (ptr 39430 0) (Value.agg (Array.mk [i64 0,i64 0,i64 0,i64 0,u32 0,i64 0,i64 0,i64 0,u32 0,i64 0])) (H115)).bind fun zh=>some (junk,zh))=some ((Value.tuple (Array.mk [])),H116),
 ((cBytes (sl 39404 0 4 pg) (H115)).bind fun zv=>some (zv,H115))=some ((Value.string (strOf (List.replicate 4 255))),H115),
 ((slS 1 (sl 39404 0 pg pg) none (some (i64 4)) none).bind fun zv=>some (zv,H115))=some ((sl 39404 0 4 pg),H115),
 some (Value.bool (ilt (Int.ofNat pg) (Int.ofNat 43)),H115)=some ((Value.bool false),H115),
 some (Value.int IntKind.i64 (wr IntKind.i64 (Int.ofNat pg-Int.ofNat pg)),H113)=some ((i64 0),H113),
 some (Value.int IntKind.i64 (wr IntKind.i64 (Int.ofNat (pg+pg))),H113)=some ((i64 (pg+pg)),H113),
 hApp 5 1 1 (sl 39404 0 0 pg) (sl 127 0 pg pg) (H112)=some ((sl 39404 0 pg pg),H113),
 ((slS 1 (sl 127 0 pg pg) none (some (i64 pg)) none).bind fun zv=>some (zv,H112))=some ((sl 127 0 pg pg),H112),
 some (Value.int IntKind.i64 (bif ilt (Int.ofNat pg) (Int.ofNat pg) then Int.ofNat pg else Int.ofNat pg),H112)=some ((i64 pg),H112),
 ((slS 1 (sl 127 0 pg pg) (some (i64 0)) none none).bind fun zv=>some (zv,H112))=some ((sl 127 0 pg pg),H112),
 ((kBin envT BinOp.rem 3 (bBin envT (TypeDesc.int IntKind.i64) BinOp.rem (iRem (i64 pg) (i64 pg)) (i64 pg) (i64 pg)) (i64 pg) (i64 pg)).bind fun zv=>some (zv,H112))=some ((i64 0),H112),
 ((kBin envT BinOp.quo 3 (bBin envT (TypeDesc.int IntKind.i64) BinOp.quo (iQuo (i64 pg) (i64 pg)) (i64 pg) (i64 pg)) (i64 pg) (i64 pg)).bind fun zv=>some (zv,H111))=some ((i64 1),H111),
 some (Value.bool (ilt (Int.ofNat 0) (Int.ofNat pg)),H111)=some ((Value.bool true),H111),
 hMk 1 [u8 0] (i64 0) (i64 pg) (H110)=some ((sl 39404 0 0 pg),H111),
 some (Value.bool (ilt (Int.ofNat pg) (Int.ofNat pg)),H110)=some ((Value.bool false),H110),
 some (Value.int IntKind.i64 (wr IntKind.i64 (Int.ofNat (2*pg)-Int.ofNat pg)),H110)=some ((i64 pg),H110),
 some (Value.bool (ilt (Int.ofNat (2*pg)) (Int.ofNat pg)),H110)=some ((Value.bool false),H110),
 some (Value.bool (ieq (Int.ofNat (2*pg)) (Int.ofNat 0)),H110)=some ((Value.bool false),H110),
 (some (i64 pg):Option Value)=some (i64 pg),
 some (Value.int IntKind.i64 (wr IntKind.i64 (Int.ofNat (2*pg))),H110)=some ((i64 (2*pg)),H110),
 some (Value.int IntKind.i64 (wr IntKind.i64 (Int.ofNat (1*pg))),H108)=some ((i64 pg),H108),
 ((stN 10 (ptr 39162 0) (Value.agg (Array.mk [i64 1,i64 0,i64 v,i64 n,u32 s,i64 0,i64 0,i64 0,u32 0,i64 0])) (H107)).bind fun zh=>some (junk,zh))=some ((Value.tuple (Array.mk [])),H108),
 ((stN 10 (ptr 39393 0) (Value.agg (Array.mk [i64 1,i64 0,i64 v,i64 n,u32 s,i64 0,i64 0,i64 0,u32 0,i64 0])) (H106)).bind fun zh=>some (junk,zh))=some ((Value.tuple (Array.mk [])),H107),
 ((stN 10 (ptr 39199 0) (Value.agg (Array.mk [i64 1,i64 0,i64 v,i64 n,u32 s,i64 0,i64 0,i64 0,u32 0,i64 0])) (H104)).bind fun zh=>some (junk,zh))=some ((Value.tuple (Array.mk [])),H105),
 some (Value.bool !ilt (Int.ofNat 16777216) (Int.ofNat n),H103)=some ((Value.bool true),H103),
 some (Value.bool !ilt (Int.ofNat 2147483647) (Int.ofNat v),H103)=some ((Value.bool true),H103),
 some (Value.bool !ilt (Int.ofNat v) (Int.ofNat 1),H103)=some ((Value.bool true),H103),
 some (Value.bool !ieq (Int.ofNat r) (Int.ofNat r),H101)=some ((Value.bool false),H101),
 some (Value.int IntKind.u32 (bitsOf IntKind.u32 Nat.xor (fun x1 x2=>x1 ^^^ x2) (Int.ofNat 4294967295) (Int.ofNat (refN 4294967295 (recL v n s)))),H100)=some ((u32 r),H100),
 Cs (5) (Value.func (Fn.func 37) (Array.mk []) (Array.mk [])) [(u32 4294967295),(sl 39173 0 39 pg)] (H99)=some ((u32 (refN 4294967295 (recL v n s))),H100),
 ((slS 1 (sl 39173 0 pg pg) none (some (i64 39)) none).bind fun zv=>some (zv,H98))=some ((sl 39173 0 39 pg),H98),
 some (Value.int IntKind.u32 (wr IntKind.u32 (Int.ofNat r)),H98)=some ((u32 r),H98),
 some (Value.int IntKind.u64 (bitsOf IntKind.u64 Nat.lor (fun x1 x2=>x1 ||| x2) (Int.ofNat (((r/16777216*256+r/65536 % 256)*256+r/256 % 256)*256)) (Int.ofNat (r % 256))),H97)=some ((u64 r),H97),
 some (Value.int IntKind.u64 (wr IntKind.u64 (Int.ofNat (r % 256))),H97)=some ((u64 (r % 256)),H97),
 (((ixOk (Int.ofNat 0) (w39)).bind fun zm=>some (ptr (39173) (39+zm*1))).bind fun zv=>some (zv,H97))=some ((ptr 39173 39),H97),
 some (Value.int IntKind.u64 (wr IntKind.u64 (Int.ofNat (((r/16777216*256+r/65536 % 256)*256+r/256 % 256)*256))),H97)=some ((u64 (((r/16777216*256+r/65536 % 256)*256+r/256 % 256)*256)),H97),
 some (Value.int IntKind.u64 (bitsOf IntKind.u64 Nat.lor (fun x1 x2=>x1 ||| x2) (Int.ofNat ((r/16777216*256+r/65536 % 256)*256)) (Int.ofNat (r/256 % 256))),H97)=some ((u64 ((r/16777216*256+r/65536 % 256)*256+r/256 % 256)),H97),
 some (Value.int IntKind.u64 (wr IntKind.u64 (Int.ofNat (r/256 % 256))),H97)=some ((u64 (r/256 % 256)),H97),
 (((ixOk (Int.ofNat 1) (w39)).bind fun zm=>some (ptr (39173) (39+zm*1))).bind fun zv=>some (zv,H97))=some ((ptr 39173 40),H97),
 some (Value.int IntKind.u64 (wr IntKind.u64 (Int.ofNat ((r/16777216*256+r/65536 % 256)*256))),H97)=some ((u64 ((r/16777216*256+r/65536 % 256)*256)),H97),
 some (Value.int IntKind.u64 (bitsOf IntKind.u64 Nat.lor (fun x1 x2=>x1 ||| x2) (Int.ofNat (r/16777216*256)) (Int.ofNat (r/65536 % 256))),H97)=some ((u64 (r/16777216*256+r/65536 % 256)),H97),
 some (Value.int IntKind.u64 (wr IntKind.u64 (Int.ofNat (r/65536 % 256))),H97)=some ((u64 (r/65536 % 256)),H97),
 (((ixOk (Int.ofNat 2) (w39)).bind fun zm=>some (ptr (39173) (39+zm*1))).bind fun zv=>some (zv,H97))=some ((ptr 39173 41),H97),
 some (Value.int IntKind.u64 (wr IntKind.u64 (Int.ofNat (r/16777216*256))),H97)=some ((u64 (r/16777216*256)),H97),
 some (Value.int IntKind.u64 (bitsOf IntKind.u64 Nat.lor (fun x1 x2=>x1 ||| x2) (Int.ofNat 0) (Int.ofNat (r/16777216))),H97)=some ((u64 (r/16777216)),H97),
 some (Value.int IntKind.u64 (wr IntKind.u64 (Int.ofNat (r/16777216))),H97)=some ((u64 (r/16777216)),H97),
 (((ixOk (Int.ofNat 3) (w39)).bind fun zm=>some (ptr (39173) (39+zm*1))).bind fun zv=>some (zv,H97))=some ((ptr 39173 42),H97),
 some (Value.bool (ilt (Int.ofNat w39) (Int.ofNat 4)),H97)=some ((Value.bool false),H97),
 ((slS 1 (sl 39173 0 pg pg) (some (i64 39)) none none).bind fun zv=>some (zv,H97))=some ((sl 39173 39 w39 w39),H97),
 (((ixOk (Int.ofNat 0) (w38)).bind fun zm=>some (ptr (39173) (38+zm*1))).bind fun zv=>some (zv,H95))=some ((ptr 39173 38),H95),
 some (Value.bool (ilt (Int.ofNat w38) (Int.ofNat 1)),H95)=some ((Value.bool false),H95),
 ((slS 1 (sl 39173 0 pg pg) (some (i64 38)) none none).bind fun zv=>some (zv,H95))=some ((sl 39173 38 w38 w38),H95),
 ((stN 3 (ptr 39377 0) (Value.agg (Array.mk [i64 1,fA 171 39265 0,fA 172 39265 0])) (H93)).bind fun zh=>some (junk,zh))=some ((Value.tuple (Array.mk [])),H94),
 (((ixOk (Int.ofNat 0) (w34)).bind fun zm=>some (ptr (39173) (34+zm*1))).bind fun zv=>some (zv,H91))=some ((ptr 39173 34),H91),
 (((ixOk (Int.ofNat 1) (w34)).bind fun zm=>some (ptr (39173) (34+zm*1))).bind fun zv=>some (zv,H91))=some ((ptr 39173 35),H91),
 (((ixOk (Int.ofNat 2) (w34)).bind fun zm=>some (ptr (39173) (34+zm*1))).bind fun zv=>some (zv,H91))=some ((ptr 39173 36),H91),
 (((ixOk (Int.ofNat 3) (w34)).bind fun zm=>some (ptr (39173) (34+zm*1))).bind fun zv=>some (zv,H91))=some ((ptr 39173 37),H91),
 some (Value.bool (ilt (Int.ofNat w34) (Int.ofNat 4)),H91)=some ((Value.bool false),H91),
 ((slS 1 (sl 39173 0 pg pg) (some (i64 34)) none none).bind fun zv=>some (zv,H91))=some ((sl 39173 34 w34 w34),H91),
 ((stN 3 (ptr 39365 0) (Value.agg (Array.mk [i64 4,fA 125 39239 0,fA 126 39239 0])) (H89)).bind fun zh=>some (junk,zh))=some ((Value.tuple (Array.mk [])),H90),
 (((ixOk (Int.ofNat 0) (w30)).bind fun zm=>some (ptr (39173) (30+zm*1))).bind fun zv=>some (zv,H87))=some ((ptr 39173 30),H87),
 (((ixOk (Int.ofNat 1) (w30)).bind fun zm=>some (ptr (39173) (30+zm*1))).bind fun zv=>some (zv,H87))=some ((ptr 39173 31),H87),
 (((ixOk (Int.ofNat 2) (w30)).bind fun zm=>some (ptr (39173) (30+zm*1))).bind fun zv=>some (zv,H87))=some ((ptr 39173 32),H87),
 (((ixOk (Int.ofNat 3) (w30)).bind fun zm=>some (ptr (39173) (30+zm*1))).bind fun zv=>some (zv,H87))=some ((ptr 39173 33),H87),
 some (Value.bool (ilt (Int.ofNat w30) (Int.ofNat 4)),H87)=some ((Value.bool false),H87),
 ((slS 1 (sl 39173 0 pg pg) (some (i64 30)) none none).bind fun zv=>some (zv,H87))=some ((sl 39173 30 w30 w30),H87),
 ((stN 3 (ptr 39353 0) (Value.agg (Array.mk [i64 4,fA 171 39262 0,fA 172 39262 0])) (H85)).bind fun zh=>some (junk,zh))=some ((Value.tuple (Array.mk [])),H86),
 (((ixOk (Int.ofNat 0) (w26)).bind fun zm=>some (ptr (39173) (26+zm*1))).bind fun zv=>some (zv,H83))=some ((ptr 39173 26),H83),
 (((ixOk (Int.ofNat 1) (w26)).bind fun zm=>some (ptr (39173) (26+zm*1))).bind fun zv=>some (zv,H83))=some ((ptr 39173 27),H83),
 (((ixOk (Int.ofNat 2) (w26)).bind fun zm=>some (ptr (39173) (26+zm*1))).bind fun zv=>some (zv,H83))=some ((ptr 39173 28),H83),
 (((ixOk (Int.ofNat 3) (w26)).bind fun zm=>some (ptr (39173) (26+zm*1))).bind fun zv=>some (zv,H83))=some ((ptr 39173 29),H83),
 some (Value.bool (ilt (Int.ofNat w26) (Int.ofNat 4)),H83)=some ((Value.bool false),H83),
 ((slS 1 (sl 39173 0 pg pg) (some (i64 26)) none none).bind fun zv=>some (zv,H83))=some ((sl 39173 26 w26 w26),H83),
 ((stN 3 (ptr 39341 0) (Value.agg (Array.mk [i64 4,fA 171 39260 0,fA 172 39260 0])) (H81)).bind fun zh=>some (junk,zh))=some ((Value.tuple (Array.mk [])),H82),
 (((ixOk (Int.ofNat 0) (w25)).bind fun zm=>some (ptr (39173) (25+zm*1))).bind fun zv=>some (zv,H79))=some ((ptr 39173 25),H79),
 some (Value.bool (ilt (Int.ofNat w25) (Int.ofNat 1)),H79)=some ((Value.bool false),H79),
 ((slS 1 (sl 39173 0 pg pg) (some (i64 25)) none none).bind fun zv=>some (zv,H79))=some ((sl 39173 25 w25 w25),H79),
 ((stN 3 (ptr 39329 0) (Value.agg (Array.mk [i64 1,fA 171 39258 0,fA 172 39258 0])) (H77)).bind fun zh=>some (junk,zh))=some ((Value.tuple (Array.mk [])),H78),
 some (Value.int IntKind.u32 (wr IntKind.u32 (Int.ofNat s)),H76)=some ((u32 s),H76),
 some (Value.int IntKind.u64 (bitsOf IntKind.u64 Nat.lor (fun x1 x2=>x1 ||| x2) (Int.ofNat (((s/16777216*256+s/65536 % 256)*256+s/256 % 256)*256)) (Int.ofNat (s % 256))),H75)=some ((u64 s),H75),
 some (Value.int IntKind.u64 (wr IntKind.u64 (Int.ofNat (s % 256))),H75)=some ((u64 (s % 256)),H75),
 (((ixOk (Int.ofNat 0) (w21)).bind fun zm=>some (ptr (39173) (21+zm*1))).bind fun zv=>some (zv,H75))=some ((ptr 39173 21),H75),
 some (Value.int IntKind.u64 (wr IntKind.u64 (Int.ofNat (((s/16777216*256+s/65536 % 256)*256+s/256 % 256)*256))),H75)=some ((u64 (((s/16777216*256+s/65536 % 256)*256+s/256 % 256)*256)),H75),
 some (Value.int IntKind.u64 (bitsOf IntKind.u64 Nat.lor (fun x1 x2=>x1 ||| x2) (Int.ofNat ((s/16777216*256+s/65536 % 256)*256)) (Int.ofNat (s/256 % 256))),H75)=some ((u64 ((s/16777216*256+s/65536 % 256)*256+s/256 % 256)),H75),
 some (Value.int IntKind.u64 (wr IntKind.u64 (Int.ofNat (s/256 % 256))),H75)=some ((u64 (s/256 % 256)),H75),
 (((ixOk (Int.ofNat 1) (w21)).bind fun zm=>some (ptr (39173) (21+zm*1))).bind fun zv=>some (zv,H75))=some ((ptr 39173 22),H75),
 some (Value.int IntKind.u64 (wr IntKind.u64 (Int.ofNat ((s/16777216*256+s/65536 % 256)*256))),H75)=some ((u64 ((s/16777216*256+s/65536 % 256)*256)),H75),
 some (Value.int IntKind.u64 (bitsOf IntKind.u64 Nat.lor (fun x1 x2=>x1 ||| x2) (Int.ofNat (s/16777216*256)) (Int.ofNat (s/65536 % 256))),H75)=some ((u64 (s/16777216*256+s/65536 % 256)),H75),
 some (Value.int IntKind.u64 (wr IntKind.u64 (Int.ofNat (s/65536 % 256))),H75)=some ((u64 (s/65536 % 256)),H75),
 (((ixOk (Int.ofNat 2) (w21)).bind fun zm=>some (ptr (39173) (21+zm*1))).bind fun zv=>some (zv,H75))=some ((ptr 39173 23),H75),
 some (Value.int IntKind.u64 (wr IntKind.u64 (Int.ofNat (s/16777216*256))),H75)=some ((u64 (s/16777216*256)),H75),
 some (Value.int IntKind.u64 (bitsOf IntKind.u64 Nat.lor (fun x1 x2=>x1 ||| x2) (Int.ofNat 0) (Int.ofNat (s/16777216))),H75)=some ((u64 (s/16777216)),H75),
 some (Value.int IntKind.u64 (wr IntKind.u64 (Int.ofNat (s/16777216))),H75)=some ((u64 (s/16777216)),H75),
 (((ixOk (Int.ofNat 3) (w21)).bind fun zm=>some (ptr (39173) (21+zm*1))).bind fun zv=>some (zv,H75))=some ((ptr 39173 24),H75),
 some (Value.bool (ilt (Int.ofNat w21) (Int.ofNat 4)),H75)=some ((Value.bool false),H75),
 ((slS 1 (sl 39173 0 pg pg) (some (i64 21)) none none).bind fun zv=>some (zv,H75))=some ((sl 39173 21 w21 w21),H75),
 ((stN 3 (ptr 39317 0) (Value.agg (Array.mk [i64 4,fA 125 39213 0,fA 126 39213 0])) (H73)).bind fun zh=>some (junk,zh))=some ((Value.tuple (Array.mk [])),H74),
 some (Value.int IntKind.i64 (wr IntKind.i64 (Int.ofNat n)),H72)=some ((i64 n),H72),
 some (Value.int IntKind.u64 (bitsOf IntKind.u64 Nat.lor (fun x1 x2=>x1 ||| x2) (Int.ofNat (((n/16777216*256+n/65536 % 256)*256+n/256 % 256)*256)) (Int.ofNat (n % 256))),H71)=some ((u64 n),H71),
 some (Value.int IntKind.u64 (wr IntKind.u64 (Int.ofNat (n % 256))),H71)=some ((u64 (n % 256)),H71),
 (((ixOk (Int.ofNat 0) (w17)).bind fun zm=>some (ptr (39173) (17+zm*1))).bind fun zv=>some (zv,H71))=some ((ptr 39173 17),H71),
 some (Value.int IntKind.u64 (wr IntKind.u64 (Int.ofNat (((n/16777216*256+n/65536 % 256)*256+n/256 % 256)*256))),H71)=some ((u64 (((n/16777216*256+n/65536 % 256)*256+n/256 % 256)*256)),H71),
 some (Value.int IntKind.u64 (bitsOf IntKind.u64 Nat.lor (fun x1 x2=>x1 ||| x2) (Int.ofNat ((n/16777216*256+n/65536 % 256)*256)) (Int.ofNat (n/256 % 256))),H71)=some ((u64 ((n/16777216*256+n/65536 % 256)*256+n/256 % 256)),H71),
 some (Value.int IntKind.u64 (wr IntKind.u64 (Int.ofNat (n/256 % 256))),H71)=some ((u64 (n/256 % 256)),H71),
 (((ixOk (Int.ofNat 1) (w17)).bind fun zm=>some (ptr (39173) (17+zm*1))).bind fun zv=>some (zv,H71))=some ((ptr 39173 18),H71),
 some (Value.int IntKind.u64 (wr IntKind.u64 (Int.ofNat ((n/16777216*256+n/65536 % 256)*256))),H71)=some ((u64 ((n/16777216*256+n/65536 % 256)*256)),H71),
 some (Value.int IntKind.u64 (bitsOf IntKind.u64 Nat.lor (fun x1 x2=>x1 ||| x2) (Int.ofNat (n/16777216*256)) (Int.ofNat (n/65536 % 256))),H71)=some ((u64 (n/16777216*256+n/65536 % 256)),H71),
 some (Value.int IntKind.u64 (wr IntKind.u64 (Int.ofNat (n/65536 % 256))),H71)=some ((u64 (n/65536 % 256)),H71),
 (((ixOk (Int.ofNat 2) (w17)).bind fun zm=>some (ptr (39173) (17+zm*1))).bind fun zv=>some (zv,H71))=some ((ptr 39173 19),H71),
 some (Value.int IntKind.u64 (wr IntKind.u64 (Int.ofNat (n/16777216*256))),H71)=some ((u64 (n/16777216*256)),H71),
 some (Value.int IntKind.u64 (bitsOf IntKind.u64 Nat.lor (fun x1 x2=>x1 ||| x2) (Int.ofNat 0) (Int.ofNat (n/16777216))),H71)=some ((u64 (n/16777216)),H71),
 some (Value.int IntKind.u64 (wr IntKind.u64 (Int.ofNat (n/16777216))),H71)=some ((u64 (n/16777216)),H71),
 (((ixOk (Int.ofNat 3) (w17)).bind fun zm=>some (ptr (39173) (17+zm*1))).bind fun zv=>some (zv,H71))=some ((ptr 39173 20),H71),
 some (Value.bool (ilt (Int.ofNat w17) (Int.ofNat 4)),H71)=some ((Value.bool false),H71),
 ((slS 1 (sl 39173 0 pg pg) (some (i64 17)) none none).bind fun zv=>some (zv,H71))=some ((sl 39173 17 w17 w17),H71),
 ((stN 3 (ptr 39305 0) (Value.agg (Array.mk [i64 4,fA 171 39236 0,fA 172 39236 0])) (H69)).bind fun zh=>some (junk,zh))=some ((Value.tuple (Array.mk [])),H70),
 some (Value.int IntKind.i64 (wr IntKind.i64 (Int.ofNat v)),H68)=some ((i64 v),H68),
 some (Value.int IntKind.u64 (bitsOf IntKind.u64 Nat.lor (fun x1 x2=>x1 ||| x2) (Int.ofNat (((v/16777216*256+v/65536 % 256)*256+v/256 % 256)*256)) (Int.ofNat (v % 256))),H67)=some ((u64 v),H67),
 some (Value.int IntKind.u64 (wr IntKind.u64 (Int.ofNat (v % 256))),H67)=some ((u64 (v % 256)),H67),
 (((ixOk (Int.ofNat 0) (w13)).bind fun zm=>some (ptr (39173) (13+zm*1))).bind fun zv=>some (zv,H67))=some ((ptr 39173 13),H67),
 some (Value.int IntKind.u64 (wr IntKind.u64 (Int.ofNat (((v/16777216*256+v/65536 % 256)*256+v/256 % 256)*256))),H67)=some ((u64 (((v/16777216*256+v/65536 % 256)*256+v/256 % 256)*256)),H67),
 some (Value.int IntKind.u64 (bitsOf IntKind.u64 Nat.lor (fun x1 x2=>x1 ||| x2) (Int.ofNat ((v/16777216*256+v/65536 % 256)*256)) (Int.ofNat (v/256 % 256))),H67)=some ((u64 ((v/16777216*256+v/65536 % 256)*256+v/256 % 256)),H67),
 some (Value.int IntKind.u64 (wr IntKind.u64 (Int.ofNat (v/256 % 256))),H67)=some ((u64 (v/256 % 256)),H67),
 (((ixOk (Int.ofNat 1) (w13)).bind fun zm=>some (ptr (39173) (13+zm*1))).bind fun zv=>some (zv,H67))=some ((ptr 39173 14),H67),
 some (Value.int IntKind.u64 (wr IntKind.u64 (Int.ofNat ((v/16777216*256+v/65536 % 256)*256))),H67)=some ((u64 ((v/16777216*256+v/65536 % 256)*256)),H67),
 some (Value.int IntKind.u64 (bitsOf IntKind.u64 Nat.lor (fun x1 x2=>x1 ||| x2) (Int.ofNat (v/16777216*256)) (Int.ofNat (v/65536 % 256))),H67)=some ((u64 (v/16777216*256+v/65536 % 256)),H67),
 some (Value.int IntKind.u64 (wr IntKind.u64 (Int.ofNat (v/65536 % 256))),H67)=some ((u64 (v/65536 % 256)),H67),
 (((ixOk (Int.ofNat 2) (w13)).bind fun zm=>some (ptr (39173) (13+zm*1))).bind fun zv=>some (zv,H67))=some ((ptr 39173 15),H67),
 some (Value.int IntKind.u64 (wr IntKind.u64 (Int.ofNat (v/16777216*256))),H67)=some ((u64 (v/16777216*256)),H67),
 some (Value.int IntKind.u64 (bitsOf IntKind.u64 Nat.lor (fun x1 x2=>x1 ||| x2) (Int.ofNat 0) (Int.ofNat (v/16777216))),H67)=some ((u64 (v/16777216)),H67),
 some (Value.int IntKind.u64 (wr IntKind.u64 (Int.ofNat (v/16777216))),H67)=some ((u64 (v/16777216)),H67),
 (((ixOk (Int.ofNat 3) (w13)).bind fun zm=>some (ptr (39173) (13+zm*1))).bind fun zv=>some (zv,H67))=some ((ptr 39173 16),H67),
 some (Value.bool (ilt (Int.ofNat w13) (Int.ofNat 4)),H67)=some ((Value.bool false),H67),
 ((slS 1 (sl 39173 0 pg pg) (some (i64 13)) none none).bind fun zv=>some (zv,H67))=some ((sl 39173 13 w13 w13),H67),
 ((stN 3 (ptr 39293 0) (Value.agg (Array.mk [i64 4,fA 171 39234 0,fA 172 39234 0])) (H65)).bind fun zh=>some (junk,zh))=some ((Value.tuple (Array.mk [])),H66),
 (((ixOk (Int.ofNat 0) (w12)).bind fun zm=>some (ptr (39173) (12+zm*1))).bind fun zv=>some (zv,H63))=some ((ptr 39173 12),H63),
 some (Value.bool (ilt (Int.ofNat w12) (Int.ofNat 1)),H63)=some ((Value.bool false),H63),
 ((slS 1 (sl 39173 0 pg pg) (some (i64 12)) none none).bind fun zv=>some (zv,H63))=some ((sl 39173 12 w12 w12),H63),
 ((stN 3 (ptr 39281 0) (Value.agg (Array.mk [i64 1,fA 171 39232 0,fA 172 39232 0])) (H61)).bind fun zh=>some (junk,zh))=some ((Value.tuple (Array.mk [])),H62),
 (((ixOk (Int.ofNat 0) (w4)).bind fun zm=>some (ptr (39173) (4+zm*1))).bind fun zv=>some (zv,H59))=some ((ptr 39173 4),H59),
 (((ixOk (Int.ofNat 1) (w4)).bind fun zm=>some (ptr (39173) (4+zm*1))).bind fun zv=>some (zv,H59))=some ((ptr 39173 5),H59),
 (((ixOk (Int.ofNat 2) (w4)).bind fun zm=>some (ptr (39173) (4+zm*1))).bind fun zv=>some (zv,H59))=some ((ptr 39173 6),H59),
 (((ixOk (Int.ofNat 3) (w4)).bind fun zm=>some (ptr (39173) (4+zm*1))).bind fun zv=>some (zv,H59))=some ((ptr 39173 7),H59),
 (((ixOk (Int.ofNat 4) (w4)).bind fun zm=>some (ptr (39173) (4+zm*1))).bind fun zv=>some (zv,H59))=some ((ptr 39173 8),H59),
 (((ixOk (Int.ofNat 5) (w4)).bind fun zm=>some (ptr (39173) (4+zm*1))).bind fun zv=>some (zv,H59))=some ((ptr 39173 9),H59),
 (((ixOk (Int.ofNat 6) (w4)).bind fun zm=>some (ptr (39173) (4+zm*1))).bind fun zv=>some (zv,H59))=some ((ptr 39173 10),H59),
 (((ixOk (Int.ofNat 7) (w4)).bind fun zm=>some (ptr (39173) (4+zm*1))).bind fun zv=>some (zv,H59))=some ((ptr 39173 11),H59),
 some (Value.bool (ilt (Int.ofNat w4) (Int.ofNat 8)),H59)=some ((Value.bool false),H59),
 ((slS 1 (sl 39173 0 pg pg) (some (i64 4)) none none).bind fun zv=>some (zv,H59))=some ((sl 39173 4 w4 w4),H59),
 ((stN 3 (ptr 39269 0) (Value.agg (Array.mk [i64 8,fA 171 39201 0,fA 172 39201 0])) (H57)).bind fun zh=>some (junk,zh))=some ((Value.tuple (Array.mk [])),H58),
 ((stN 3 (ptr 39266 0) (Value.agg (Array.mk [i64 1,fA 171 39265 0,fA 172 39265 0])) (H55)).bind fun zh=>some (junk,zh))=some ((Value.tuple (Array.mk [])),H56),
 (some (Value.agg (Array.mk [i64 4,fA 125 39239 0,fA 126 39239 0])):Option Value)=some (Value.agg (Array.mk [i64 4,fA 125 39239 0,fA 126 39239 0])),
 (some (Value.agg (Array.mk [i64 4,fA 125 39239 0,fA 126 39239 0])):Option Value)=some (Value.agg (Array.mk [i64 4,fA 125 39239 0,fA 126 39239 0])),
 (some (Value.agg (Array.mk [i64 4,fA 125 39239 0,fA 126 39239 0])):Option Value)=some (Value.agg (Array.mk [i64 4,fA 125 39239 0,fA 126 39239 0])),
 (some (Value.agg (Array.mk [i64 4,fA 125 39239 0,fA 126 39239 0])):Option Value)=some (Value.agg (Array.mk [i64 4,fA 125 39239 0,fA 126 39239 0])),
 (some (ptr 39200 5):Option Value)=some (ptr 39200 5),
 (some (ptr 39200 5):Option Value)=some (ptr 39200 5),
 (some (ptr 39200 5):Option Value)=some (ptr 39200 5),
 ((stN 3 (ptr 39263 0) (Value.agg (Array.mk [i64 4,fA 171 39262 0,fA 172 39262 0])) (H52)).bind fun zh=>some (junk,zh))=some ((Value.tuple (Array.mk [])),H53),
 ((stN 3 (ptr 39261 0) (Value.agg (Array.mk [i64 4,fA 171 39260 0,fA 172 39260 0])) (H49)).bind fun zh=>some (junk,zh))=some ((Value.tuple (Array.mk [])),H50),
 ((stN 3 (ptr 39259 0) (Value.agg (Array.mk [i64 1,fA 171 39258 0,fA 172 39258 0])) (H46)).bind fun zh=>some (junk,zh))=some ((Value.tuple (Array.mk [])),H47),
 ((stN 3 (ptr 39240 0) (Value.agg (Array.mk [i64 4,fA 125 39239 0,fA 126 39239 0])) (H43)).bind fun zh=>some (junk,zh))=some ((Value.tuple (Array.mk [])),H44),
 (some (Value.agg (Array.mk [i64 4,fA 125 39213 0,fA 126 39213 0])):Option Value)=some (Value.agg (Array.mk [i64 4,fA 125 39213 0,fA 126 39213 0])),
 (some (Value.agg (Array.mk [i64 4,fA 125 39213 0,fA 126 39213 0])):Option Value)=some (Value.agg (Array.mk [i64 4,fA 125 39213 0,fA 126 39213 0])),
 (some (Value.agg (Array.mk [i64 4,fA 125 39213 0,fA 126 39213 0])):Option Value)=some (Value.agg (Array.mk [i64 4,fA 125 39213 0,fA 126 39213 0])),
 (some (Value.agg (Array.mk [i64 4,fA 125 39213 0,fA 126 39213 0])):Option Value)=some (Value.agg (Array.mk [i64 4,fA 125 39213 0,fA 126 39213 0])),
 (some (ptr 39200 1):Option Value)=some (ptr 39200 1),
 (some (ptr 39200 1):Option Value)=some (ptr 39200 1),
 (some (ptr 39200 1):Option Value)=some (ptr 39200 1),
 ((stN 3 (ptr 39237 0) (Value.agg (Array.mk [i64 4,fA 171 39236 0,fA 172 39236 0])) (H41)).bind fun zh=>some (junk,zh))=some ((Value.tuple (Array.mk [])),H42),
 ((stN 3 (ptr 39235 0) (Value.agg (Array.mk [i64 4,fA 171 39234 0,fA 172 39234 0])) (H38)).bind fun zh=>some (junk,zh))=some ((Value.tuple (Array.mk [])),H39),
 ((stN 3 (ptr 39233 0) (Value.agg (Array.mk [i64 1,fA 171 39232 0,fA 172 39232 0])) (H35)).bind fun zh=>some (junk,zh))=some ((Value.tuple (Array.mk [])),H36),
 ((stN 3 (ptr 39214 0) (Value.agg (Array.mk [i64 4,fA 125 39213 0,fA 126 39213 0])) (H32)).bind fun zh=>some (junk,zh))=some ((Value.tuple (Array.mk [])),H33),
 ((stN 3 (ptr 39202 0) (Value.agg (Array.mk [i64 8,fA 171 39201 0,fA 172 39201 0])) (H30)).bind fun zh=>some (junk,zh))=some ((Value.tuple (Array.mk [])),H31),
 ((slS 1 (sl 39173 0 pg pg) none (some (i64 4)) none).bind fun zv=>some (zv,H29))=some ((sl 39173 0 4 pg),H29),
 some (Value.bool (ilt (Int.ofNat pg) (Int.ofNat 43)),H29)=some ((Value.bool false),H29),
 some (Value.int IntKind.i64 (wr IntKind.i64 (Int.ofNat pg-Int.ofNat pg)),H27)=some ((i64 0),H27),
 some (Value.int IntKind.i64 (wr IntKind.i64 (Int.ofNat (0+pg))),H27)=some ((i64 pg),H27),
 hApp 5 1 1 (sl 39173 0 0 pg) (sl 68 0 pg pg) (H26)=some ((sl 39173 0 pg pg),H27),
 ((slS 1 (sl 68 0 pg pg) none (some (i64 pg)) none).bind fun zv=>some (zv,H26))=some ((sl 68 0 pg pg),H26),
 some (Value.int IntKind.i64 (bif ilt (Int.ofNat pg) (Int.ofNat pg) then Int.ofNat pg else Int.ofNat pg),H26)=some ((i64 pg),H26),
 ((slS 1 (sl 68 0 pg pg) (some (i64 0)) none none).bind fun zv=>some (zv,H26))=some ((sl 68 0 pg pg),H26),
 ((kBin envT BinOp.rem 3 (bBin envT (TypeDesc.int IntKind.i64) BinOp.rem (iRem (i64 0) (i64 pg)) (i64 0) (i64 pg)) (i64 0) (i64 pg)).bind fun zv=>some (zv,H26))=some ((i64 0),H26),
 ((kBin envT BinOp.quo 3 (bBin envT (TypeDesc.int IntKind.i64) BinOp.quo (iQuo (i64 0) (i64 pg)) (i64 0) (i64 pg)) (i64 0) (i64 pg)).bind fun zv=>some (zv,H25))=some ((i64 0),H25),
 some (Value.bool (ilt (Int.ofNat 0) (Int.ofNat pg)),H25)=some ((Value.bool true),H25),
 hMk 1 [u8 0] (i64 0) (i64 pg) (H24)=some ((sl 39173 0 0 pg),H25),
 some (Value.bool (ilt (Int.ofNat (2*pg)) (Int.ofNat pg)),H24)=some ((Value.bool false),H24),
 some (Value.int IntKind.i64 (wr IntKind.i64 (Int.ofNat (2*pg+0))),H24)=some ((i64 (2*pg)),H24),
 some (Value.bool (ieq (Int.ofNat (2*pg)) (Int.ofNat 0)),H24)=some ((Value.bool false),H24),
 (some (i64 pg):Option Value)=some (i64 pg),
 some (Value.int IntKind.i64 (wr IntKind.i64 (Int.ofNat (2*pg))),H24)=some ((i64 (2*pg)),H24),
 some (Value.int IntKind.i64 (wr IntKind.i64 (Int.ofNat (0*pg))),H22)=some ((i64 0),H22),
 ((stN 10 (ptr 39162 0) (Value.agg (Array.mk [i64 0,i64 0,i64 0,i64 0,u32 0,i64 0,i64 0,i64 0,u32 0,i64 0])) (H21)).bind fun zh=>some (junk,zh))=some ((Value.tuple (Array.mk [])),H22),
 ((stN 2 (ptr 39161 0) (Value.agg (Array.mk [i64 pg,i64 k])) (H19)).bind fun zh=>some (junk,zh))=some ((Value.tuple (Array.mk [])),H20),
 ((stN 6 (ptr 39158 0) (Value.agg (Array.mk [i64 0,i64 0,u32 0,u32 0,i64 0,i64 0])) (H14)).bind fun zh=>some (junk,zh))=some ((Value.tuple (Array.mk [])),H15),
 ((stN 6 (ptr 39157 0) (Value.agg (Array.mk [i64 0,i64 0,u32 0,u32 0,i64 0,i64 0])) (H12)).bind fun zh=>some (junk,zh))=some ((Value.tuple (Array.mk [])),H13),
 ((stN 4 (ptr 39156 0) (Value.agg (Array.mk [i64 0,i64 0,i64 0,u32 0])) (H9)).bind fun zh=>some (junk,zh))=some ((Value.tuple (Array.mk [])),H10),
 ((stN 4 (ptr 39155 0) (Value.agg (Array.mk [i64 0,i64 0,i64 0,u32 0])) (H7)).bind fun zh=>some (junk,zh))=some ((Value.tuple (Array.mk [])),H8),
 Cs (10) (.func (.func 7) ⟨[]⟩ ⟨[]⟩) [] H4=some ((Value.bool true),H5),
 Cs (10) (.func (.func 5) ⟨[]⟩ ⟨[]⟩) [(i64 pg),(i64 k),(Value.slice ia n c),(i64 v)] H2=some ((Value.tuple (Array.mk [ptr 653 0,i64 0])),H3),
 Cs (10) (.func (.func 4) ⟨[]⟩ ⟨[]⟩) [(Value.agg (Array.mk [i64 pg,i64 k])),(Value.slice ia n c),(i64 v)] H1=some ((Value.tuple (Array.mk [ptr 489 0,i64 0])),H2)]):=by kernel_rfl
theorem p3 (hia:IA ia 0 n c) (hp:64≤pg) (hp2:pg≤4096) (hk:1≤k) (hk2:k≤4096) (hn:n≤pg*k) (hm:pg*k≤16777216) (hv:1≤v) (hv2:v≤2147483647) (hsl:s<4294967296) (hrl:r<4294967296) (hx:xs.length=n) (hb:∀ x ∈ xs,x<256) (hs:sumN xs=s) (hr:sumN (recL v n s)=r) (ho:OA oa ob n 39693 xs) (ho2:n=0→ob=none∧oc=0) (ho3:n≠0→oa≠none∧oc=4611686018427387905) (hw4:w4=pg-4) (hw12:w12=pg-12) (hw13:w13=pg-13) (hw17:w17=pg-17) (hw21:w21=pg-21) (hw25:w25=pg-25) (hw26:w26=pg-26) (hw30:w30=pg-30) (hw34:w34=pg-34) (hw38:w38=pg-38) (hw39:w39=pg-39):denG envT (orcS envT (tbD pg k n c s v ia xs) BIG 10) BIG 3 [(Value.agg (Array.mk [i64 pg,i64 k])),(Value.slice ia n c),(i64 v)] (mkH 1 [(0,some (im xs))])=some ((Value.bool true),H233):=
 rySD_sound (p3_ok (orcS envT (tbD pg k n c s v ia xs) BIG))<|gc (kr (c34z (by omega) (by kernel_rfl) (by kernel_rfl) (by kernel_rfl) (by kernel_rfl) (by kernel_rfl) (by kernel_rfl) (by kernel_rfl)) (by kernel_rfl))<|
 gc (by kernel_rfl)<|
 gc (kr (c33z (by omega) (by kernel_rfl) (by kernel_rfl) (by kernel_rfl) (by kernel_rfl) (by kernel_rfl) (by kernel_rfl) (by kernel_rfl) (by kernel_rfl)) (by kernel_rfl))<|
 gc (by kernel_rfl)<|
 gc (cB (by simp))<|
 gc (cbO ho hx hb (by kernel_rfl))<|
 gc (cb (by first|assumption|rfl|(simp;done)|omega|(simp;omega)) (bys_ofl hb (by kernel_rfl:AH.get (H225) (39690)=some O221)))<|
 gc (kr (c34 ho ho2 ho3 hb (by kernel_rfl) (by kernel_rfl) (by kernel_rfl) (by kernel_rfl) (by kernel_rfl) (by kernel_rfl) (by kernel_rfl) (by kernel_rfl) (by kernel_rfl)) (by kernel_rfl))<|
 gc (by kernel_rfl)<|
 gc (kr (c33 (by kernel_rfl) (by kernel_rfl) (by kernel_rfl) (by kernel_rfl) (by kernel_rfl) (by kernel_rfl) (by kernel_rfl) (by kernel_rfl) (by kernel_rfl) (by kernel_rfl) hb (by kernel_rfl) (by kernel_rfl) (fun i=>by kernel_rfl)) (by kernel_rfl))<|
 gc (by kernel_rfl)<|
 gc (by kernel_rfl)<|
 gc (by kernel_rfl)<|
 gc (by kernel_rfl)<|
 gc (rfl)<|
 gc (rfl)<|
 gc (rfl)<|
 gc (rfl)<|
 gc (neq58 (by omega) (by omega) (by omega) (by omega) (by omega) (by omega) (by omega) (by omega) (by omega) (by omega))<|
 gc (rfl)<|
 gc (rfl)<|
 gc (rfl)<|
 gc (rfl)<|
 gc (rfl)<|
 gc (by kernel_rfl)<|
 gc (by kernel_rfl)<|
 gc (by kernel_rfl)<|
 gc (by kernel_rfl)<|
 gc (by kernel_rfl)<|
 gc (by kernel_rfl)<|
 gc (by kernel_rfl)<|
 gc (by kernel_rfl)<|
 gc (cb (by first|assumption|rfl|(simp;done)|omega|(simp;omega)) (bys_fill (m:=4) (by omega) (by kernel_rfl:AH.get (H188) (495)=some O215)))<|
 gc (slU_k rfl (vNat_some (by omega)) (by omega) (by omega) (by first|rfl|omega) (by first|rfl|omega) (by first|rfl|omega))<|
 gc (kr (cB (congrArg (fun z=>z) (ltF (by omega):ilt (Int.ofNat pg) (Int.ofNat 43)=false))) (by kernel_rfl))<|
 gc (by kernel_rfl)<|
 gc (by kernel_rfl)<|
 gc (by kernel_rfl)<|
 gc (cB (by simp))<|
 gc (cb (by first|assumption|rfl|(simp;done)|omega|(simp;omega)) (bys_puts (by repeat (first|exact lts_nil|refine lts_cons (by omega) ?_)) (by kernel_rfl:AH.get (H183) (631)=some O214)))<|
 gc (slU_k rfl (vNat_some (by omega)) (by omega) (by omega) (by first|rfl|omega) (by first|rfl|omega) (by first|rfl|omega))<|
 gc (cb (by first|assumption|rfl|(simp;done)|omega|(simp;omega)) (bys_c (ys:=recA v n s r) rfl (by kernel_rfl) (by repeat (first|exact lts_nil|refine lts_cons (by omega) ?_))))<|
 gc (kr (cI (wrE 18446744073709551616 rfl (by first|rfl|omega) (by omega))) (by kernel_rfl))<|
 gc (cI (wrE 256 rfl (by first|rfl|omega) (by omega)))<|
 gc (cI (ofE (by first|rfl|omega)))<|
 gc (kr (cI (wrE 18446744073709551616 rfl (by first|rfl|omega) (by omega))) (by kernel_rfl))<|
 gc (cI (wrE 256 rfl (by first|rfl|omega) (by omega)))<|
 gc (kr (cI (wrE 18446744073709551616 rfl (by first|rfl|omega) (by omega))) (by kernel_rfl))<|
 gc (cI (wrE 256 rfl (by first|rfl|omega) (by omega)))<|
 gc (kr (cI (wrE 18446744073709551616 rfl (by first|rfl|omega) (by omega))) (by kernel_rfl))<|
 gc (cI (wrE 256 rfl (by first|rfl|omega) (by omega)))<|
 gc (kr (cI (wrE 18446744073709551616 rfl (by first|rfl|omega) (by omega))) (by kernel_rfl))<|
 gc (cI (not_sum hr))<|
 gc (kr (run79 (by first|assumption|rfl|(simp;done)|omega|(simp;omega)) (bys_c (ys:=recL v n s) rfl (by kernel_rfl) (by repeat (first|exact lts_nil|refine lts_cons (by omega) ?_))) (by omega) (by omega)) (by kernel_rfl))<|
 gc (by kernel_rfl)<|
 gc (kr (cI (wrE 18446744073709551616 rfl (by first|rfl|omega) (by omega))) (by kernel_rfl))<|
 gc (cI (wrE 256 rfl (by first|rfl|omega) (by omega)))<|
 gc (cI (ofE (by first|rfl|omega)))<|
 gc (kr (cI (wrE 18446744073709551616 rfl (by first|rfl|omega) (by omega))) (by kernel_rfl))<|
 gc (cI (wrE 256 rfl (by first|rfl|omega) (by omega)))<|
 gc (kr (cI (wrE 18446744073709551616 rfl (by first|rfl|omega) (by omega))) (by kernel_rfl))<|
 gc (cI (wrE 256 rfl (by first|rfl|omega) (by omega)))<|
 gc (kr (cI (wrE 18446744073709551616 rfl (by first|rfl|omega) (by omega))) (by kernel_rfl))<|
 gc (cI (wrE 256 rfl (by first|rfl|omega) (by omega)))<|
 gc (kr (cI (wrE 18446744073709551616 rfl (by first|rfl|omega) (by omega))) (by kernel_rfl))<|
 gc (kr (cI (wrE 18446744073709551616 rfl (by first|rfl|omega) (by omega))) (by kernel_rfl))<|
 gc (cI (wrE 256 rfl (by first|rfl|omega) (by omega)))<|
 gc (cI (ofE (by first|rfl|omega)))<|
 gc (kr (cI (wrE 18446744073709551616 rfl (by first|rfl|omega) (by omega))) (by kernel_rfl))<|
 gc (cI (wrE 256 rfl (by first|rfl|omega) (by omega)))<|
 gc (kr (cI (wrE 18446744073709551616 rfl (by first|rfl|omega) (by omega))) (by kernel_rfl))<|
 gc (cI (wrE 256 rfl (by first|rfl|omega) (by omega)))<|
 gc (kr (cI (wrE 18446744073709551616 rfl (by first|rfl|omega) (by omega))) (by kernel_rfl))<|
 gc (cI (wrE 256 rfl (by first|rfl|omega) (by omega)))<|
 gc (kr (cI (wrE 18446744073709551616 rfl (by first|rfl|omega) (by omega))) (by kernel_rfl))<|
 gc (kr (cI (wrE 18446744073709551616 rfl (by first|rfl|omega) (by omega))) (by kernel_rfl))<|
 gc (cI (wrE 256 rfl (by first|rfl|omega) (by omega)))<|
 gc (cI (ofE (by first|rfl|omega)))<|
 gc (kr (cI (wrE 18446744073709551616 rfl (by first|rfl|omega) (by omega))) (by kernel_rfl))<|
 gc (cI (wrE 256 rfl (by first|rfl|omega) (by omega)))<|
 gc (kr (cI (wrE 18446744073709551616 rfl (by first|rfl|omega) (by omega))) (by kernel_rfl))<|
 gc (cI (wrE 256 rfl (by first|rfl|omega) (by omega)))<|
 gc (kr (cI (wrE 18446744073709551616 rfl (by first|rfl|omega) (by omega))) (by kernel_rfl))<|
 gc (cI (wrE 256 rfl (by first|rfl|omega) (by omega)))<|
 gc (kr (cI (wrE 18446744073709551616 rfl (by first|rfl|omega) (by omega))) (by kernel_rfl))<|
 gc (by kernel_rfl)<|
 gc (kr (cB (congrArg (fun z=>!z) (ltF (by omega):ilt (Int.ofNat 16777216) (Int.ofNat n)=false))) (by kernel_rfl))<|
 gc (cB (congrArg (fun z=>!z) (ltF (by omega):ilt (Int.ofNat 2147483647) (Int.ofNat v)=false)))<|
 gc (kr (cB (congrArg (fun z=>!z) (ltF (by omega):ilt (Int.ofNat v) (Int.ofNat 1)=false))) (by kernel_rfl))<|
 gc (rfl)<|
 gc (rfl)<|
 gc (rfl)<|
 gc (rfl)<|
 gc (by kernel_rfl)<|
 gc (ixS (by omega) (by first|rfl|omega))<|
 gc (cB (congrArg (fun z=>z) (ltF (by omega):ilt (Int.ofNat w38) (Int.ofNat 1)=false)))<|
 gc (kr (slU_k (vNat_some (by omega)) rfl (by omega) (by omega) (by first|rfl|omega) (by first|rfl|omega) (by first|rfl|omega)) (by kernel_rfl))<|
 gc (ixS (by omega) (by first|rfl|omega))<|
 gc (ixS (by omega) (by first|rfl|omega))<|
 gc (ixS (by omega) (by first|rfl|omega))<|
 gc (ixS (by omega) (by first|rfl|omega))<|
 gc (ixS (by omega) (by first|rfl|omega))<|
 gc (ixS (by omega) (by first|rfl|omega))<|
 gc (ixS (by omega) (by first|rfl|omega))<|
 gc (ixS (by omega) (by first|rfl|omega))<|
 gc (cB (congrArg (fun z=>z) (ltF (by omega):ilt (Int.ofNat w4) (Int.ofNat 8)=false)))<|
 gc (kr (slU_k (vNat_some (by omega)) rfl (by omega) (by omega) (by first|rfl|omega) (by first|rfl|omega) (by first|rfl|omega)) (by kernel_rfl))<|
 gc (by kernel_rfl)<|
 gc (ixS (by omega) (by first|rfl|omega))<|
 gc (ixS (by omega) (by first|rfl|omega))<|
 gc (ixS (by omega) (by first|rfl|omega))<|
 gc (ixS (by omega) (by first|rfl|omega))<|
 gc (cB (congrArg (fun z=>z) (ltF (by omega):ilt (Int.ofNat w34) (Int.ofNat 4)=false)))<|
 gc (kr (slU_k (vNat_some (by omega)) rfl (by omega) (by omega) (by first|rfl|omega) (by first|rfl|omega) (by first|rfl|omega)) (by kernel_rfl))<|
 gc (ixS (by omega) (by first|rfl|omega))<|
 gc (ixS (by omega) (by first|rfl|omega))<|
 gc (ixS (by omega) (by first|rfl|omega))<|
 gc (ixS (by omega) (by first|rfl|omega))<|
 gc (cB (congrArg (fun z=>z) (ltF (by omega):ilt (Int.ofNat w30) (Int.ofNat 4)=false)))<|
 gc (kr (slU_k (vNat_some (by omega)) rfl (by omega) (by omega) (by first|rfl|omega) (by first|rfl|omega) (by first|rfl|omega)) (by kernel_rfl))<|
 gc (ixS (by omega) (by first|rfl|omega))<|
 gc (ixS (by omega) (by first|rfl|omega))<|
 gc (ixS (by omega) (by first|rfl|omega))<|
 gc (ixS (by omega) (by first|rfl|omega))<|
 gc (cB (congrArg (fun z=>z) (ltF (by omega):ilt (Int.ofNat w26) (Int.ofNat 4)=false)))<|
 gc (kr (slU_k (vNat_some (by omega)) rfl (by omega) (by omega) (by first|rfl|omega) (by first|rfl|omega) (by first|rfl|omega)) (by kernel_rfl))<|
 gc (ixS (by omega) (by first|rfl|omega))<|
 gc (cB (congrArg (fun z=>z) (ltF (by omega):ilt (Int.ofNat w25) (Int.ofNat 1)=false)))<|
 gc (slU_k (vNat_some (by omega)) rfl (by omega) (by omega) (by first|rfl|omega) (by first|rfl|omega) (by first|rfl|omega))<|
 gc (by kernel_rfl)<|
 gc (kr (cI (wrE 4294967296 rfl (by first|rfl|omega) (by omega))) (by kernel_rfl))<|
 gc (kr (cI (wrE 9223372036854775808 rfl (by first|rfl|omega) (by omega))) (by kernel_rfl))<|
 gc (cI (wrE 18446744073709551616 rfl (by first|rfl|omega) (by omega)))<|
 gc (cI (wrE 18446744073709551616 rfl (by first|rfl|omega) (by omega)))<|
 gc (ixS (by omega) (by first|rfl|omega))<|
 gc (cI (wrE 18446744073709551616 rfl (by first|rfl|omega) (by omega)))<|
 gc (cI (wrE 18446744073709551616 rfl (by first|rfl|omega) (by omega)))<|
 gc (cI (wrE 18446744073709551616 rfl (by first|rfl|omega) (by omega)))<|
 gc (ixS (by omega) (by first|rfl|omega))<|
 gc (cI (wrE 18446744073709551616 rfl (by first|rfl|omega) (by omega)))<|
 gc (cI (wrE 18446744073709551616 rfl (by first|rfl|omega) (by omega)))<|
 gc (cI (wrE 18446744073709551616 rfl (by first|rfl|omega) (by omega)))<|
 gc (ixS (by omega) (by first|rfl|omega))<|
 gc (cI (wrE 18446744073709551616 rfl (by first|rfl|omega) (by omega)))<|
 gc (cI (wrE 18446744073709551616 rfl (by first|rfl|omega) (by omega)))<|
 gc (cI (wrE 18446744073709551616 rfl (by first|rfl|omega) (by omega)))<|
 gc (ixS (by omega) (by first|rfl|omega))<|
 gc (cB (congrArg (fun z=>z) (ltF (by omega):ilt (Int.ofNat w21) (Int.ofNat 4)=false)))<|
 gc (kr (slU_k (vNat_some (by omega)) rfl (by omega) (by omega) (by first|rfl|omega) (by first|rfl|omega) (by first|rfl|omega)) (by kernel_rfl))<|
 gc (kr (cI (wrE 9223372036854775808 rfl (by first|rfl|omega) (by omega))) (by kernel_rfl))<|
 gc (cI (wrE 18446744073709551616 rfl (by first|rfl|omega) (by omega)))<|
 gc (cI (wrE 18446744073709551616 rfl (by first|rfl|omega) (by omega)))<|
 gc (ixS (by omega) (by first|rfl|omega))<|
 gc (cI (wrE 18446744073709551616 rfl (by first|rfl|omega) (by omega)))<|
 gc (cI (wrE 18446744073709551616 rfl (by first|rfl|omega) (by omega)))<|
 gc (cI (wrE 18446744073709551616 rfl (by first|rfl|omega) (by omega)))<|
 gc (ixS (by omega) (by first|rfl|omega))<|
 gc (cI (wrE 18446744073709551616 rfl (by first|rfl|omega) (by omega)))<|
 gc (cI (wrE 18446744073709551616 rfl (by first|rfl|omega) (by omega)))<|
 gc (cI (wrE 18446744073709551616 rfl (by first|rfl|omega) (by omega)))<|
 gc (ixS (by omega) (by first|rfl|omega))<|
 gc (cI (wrE 18446744073709551616 rfl (by first|rfl|omega) (by omega)))<|
 gc (cI (wrE 18446744073709551616 rfl (by first|rfl|omega) (by omega)))<|
 gc (cI (wrE 18446744073709551616 rfl (by first|rfl|omega) (by omega)))<|
 gc (ixS (by omega) (by first|rfl|omega))<|
 gc (cB (congrArg (fun z=>z) (ltF (by omega):ilt (Int.ofNat w17) (Int.ofNat 4)=false)))<|
 gc (kr (slU_k (vNat_some (by omega)) rfl (by omega) (by omega) (by first|rfl|omega) (by first|rfl|omega) (by first|rfl|omega)) (by kernel_rfl))<|
 gc (kr (cI (wrE 9223372036854775808 rfl (by first|rfl|omega) (by omega))) (by kernel_rfl))<|
 gc (cI (wrE 18446744073709551616 rfl (by first|rfl|omega) (by omega)))<|
 gc (cI (wrE 18446744073709551616 rfl (by first|rfl|omega) (by omega)))<|
 gc (ixS (by omega) (by first|rfl|omega))<|
 gc (cI (wrE 18446744073709551616 rfl (by first|rfl|omega) (by omega)))<|
 gc (cI (wrE 18446744073709551616 rfl (by first|rfl|omega) (by omega)))<|
 gc (cI (wrE 18446744073709551616 rfl (by first|rfl|omega) (by omega)))<|
 gc (ixS (by omega) (by first|rfl|omega))<|
 gc (cI (wrE 18446744073709551616 rfl (by first|rfl|omega) (by omega)))<|
 gc (cI (wrE 18446744073709551616 rfl (by first|rfl|omega) (by omega)))<|
 gc (cI (wrE 18446744073709551616 rfl (by first|rfl|omega) (by omega)))<|
 gc (ixS (by omega) (by first|rfl|omega))<|
 gc (cI (wrE 18446744073709551616 rfl (by first|rfl|omega) (by omega)))<|
 gc (cI (wrE 18446744073709551616 rfl (by first|rfl|omega) (by omega)))<|
 gc (cI (wrE 18446744073709551616 rfl (by first|rfl|omega) (by omega)))<|
 gc (ixS (by omega) (by first|rfl|omega))<|
 gc (cB (congrArg (fun z=>z) (ltF (by omega):ilt (Int.ofNat w13) (Int.ofNat 4)=false)))<|
 gc (kr (slU_k (vNat_some (by omega)) rfl (by omega) (by omega) (by first|rfl|omega) (by first|rfl|omega) (by first|rfl|omega)) (by kernel_rfl))<|
 gc (ixS (by omega) (by first|rfl|omega))<|
 gc (cB (congrArg (fun z=>z) (ltF (by omega):ilt (Int.ofNat w12) (Int.ofNat 1)=false)))<|
 gc (kr (slU_k (vNat_some (by omega)) rfl (by omega) (by omega) (by first|rfl|omega) (by first|rfl|omega) (by first|rfl|omega)) (by kernel_rfl))<|
 gc (ixS (by omega) (by first|rfl|omega))<|
 gc (slU_k rfl (vNat_some (by omega)) (by omega) (by omega) (by first|rfl|omega) (by first|rfl|omega) (by first|rfl|omega))<|
 gc (kr (cB (congrArg (fun z=>z) (ltF (by omega):ilt (Int.ofNat pg) (Int.ofNat 43)=false))) (by kernel_rfl))<|
 gc (by kernel_rfl)<|
 gc (by kernel_rfl)<|
 gc (by kernel_rfl)<|
 gc (by kernel_rfl)<|
 gc (by kernel_rfl)<|
 gc (by kernel_rfl)<|
 gc (by kernel_rfl)<|
 gc (cb (by first|assumption|rfl|(simp;done)|omega|(simp;omega)) (bys_rep (m:=4) (bys_puts lt_rep (by kernel_rfl:AH.get (H115) (39404)=some O151)) (by omega)))<|
 gc (slU_k rfl (vNat_some (by omega)) (by omega) (by omega) (by first|rfl|omega) (by first|rfl|omega) (by first|rfl|omega))<|
 gc (kr (cB (congrArg (fun z=>z) (ltF (by omega):ilt (Int.ofNat pg) (Int.ofNat 43)=false))) (by kernel_rfl))<|
 gc (cI (subE (by omega) (by first|rfl|omega) (by omega)))<|
 gc (cI (wrE 9223372036854775808 rfl (by first|rfl|omega) (by omega)))<|
 gc (kr (app_in (by first|assumption|rfl|(simp;done)|omega|(simp;omega)) (bys_fill (m:=pg) (by omega) (by kernel_rfl:AH.get (H112) (127)=some O150)) (by kernel_rfl:AH.get (H112) (39404)=some O118) (has_zrep (by omega)) (by first|rfl|omega) (by first|rfl|omega) (by omega) (by omega)) (by kernel_rfl))<|
 gc (slU_k rfl (vNat_some (by omega)) (by omega) (by omega) (by first|rfl|omega) (by first|rfl|omega) (by first|rfl|omega))<|
 gc (kr (cI (congrArg (fun z:Bool=>bif z then Int.ofNat pg else Int.ofNat pg) (congrArg (fun z=>z) (ltF (by omega):ilt (Int.ofNat pg) (Int.ofNat pg)=false)))) (by kernel_rfl))<|
 gc (slU_k (vNat_some (by omega)) rfl (by omega) (by omega) (by first|rfl|omega) (by first|rfl|omega) (by first|rfl|omega))<|
 gc (remE (by omega) (by first|rfl|assumption|omega|simp (disch:=omega) [Nat.div_self,Nat.div_div_eq_div_mul,Nat.mul_div_cancel]))<|
 gc (quoE (by omega) (by first|rfl|assumption|omega|simp (disch:=omega) [Nat.div_self,Nat.div_div_eq_div_mul,Nat.mul_div_cancel]) (by omega))<|
 gc (cB (congrArg (fun z=>z) (ltT (by omega):ilt (Int.ofNat 0) (Int.ofNat pg)=true)))<|
 gc (kr (mkS' (by omega) (by omega)) (by kernel_rfl))<|
 gc (cB (congrArg (fun z=>z) (ltF (by omega):ilt (Int.ofNat pg) (Int.ofNat pg)=false)))<|
 gc (cI (subE (by omega) (by first|rfl|omega) (by omega)))<|
 gc (cB (congrArg (fun z=>z) (ltF (by omega):ilt (Int.ofNat (2*pg)) (Int.ofNat pg)=false)))<|
 gc (kr (cB (congrArg (fun z=>z) (eqF (by omega):ieq (Int.ofNat (2*pg)) (Int.ofNat 0)=false))) (by kernel_rfl))<|
 gc (rfl)<|
 gc (cI (wrE 9223372036854775808 rfl (by first|rfl|omega) (by omega)))<|
 gc (cI (wrE 9223372036854775808 rfl (by first|rfl|omega) (by omega)))<|
 gc (by kernel_rfl)<|
 gc (by kernel_rfl)<|
 gc (by kernel_rfl)<|
 gc (cB (congrArg (fun z=>!z) (ltF (by omega):ilt (Int.ofNat 16777216) (Int.ofNat n)=false)))<|
 gc (cB (congrArg (fun z=>!z) (ltF (by omega):ilt (Int.ofNat 2147483647) (Int.ofNat v)=false)))<|
 gc (kr (cB (congrArg (fun z=>!z) (ltF (by omega):ilt (Int.ofNat v) (Int.ofNat 1)=false))) (by kernel_rfl))<|
 gc (kr (cB (congrArg (fun z=>!z) (eqT (by omega):ieq (Int.ofNat r) (Int.ofNat r)=true))) (by kernel_rfl))<|
 gc (cI (not_sum hr))<|
 gc (kr (thr37 (by first|assumption|rfl|(simp;done)|omega|(simp;omega)) (bys_c (ys:=recL v n s) rfl (by kernel_rfl) (by repeat (first|exact lts_nil|refine lts_cons (by omega) ?_))) (by omega) (by omega)) (by kernel_rfl))<|
 gc (slU_k rfl (vNat_some (by omega)) (by omega) (by omega) (by first|rfl|omega) (by first|rfl|omega) (by first|rfl|omega))<|
 gc (kr (cI (wrE 4294967296 rfl (by first|rfl|omega) (by omega))) (by kernel_rfl))<|
 gc (cI (orE (by omega) (by omega) (by first|rfl|omega)))<|
 gc (cI (wrE 18446744073709551616 rfl (by first|rfl|omega) (by omega)))<|
 gc (ixS (by omega) (by first|rfl|omega))<|
 gc (cI (wrE 18446744073709551616 rfl (by first|rfl|omega) (by omega)))<|
 gc (cI (orE (by omega) (by omega) (by first|rfl|omega)))<|
 gc (cI (wrE 18446744073709551616 rfl (by first|rfl|omega) (by omega)))<|
 gc (ixS (by omega) (by first|rfl|omega))<|
 gc (cI (wrE 18446744073709551616 rfl (by first|rfl|omega) (by omega)))<|
 gc (cI (orE (by omega) (by omega) (by first|rfl|omega)))<|
 gc (cI (wrE 18446744073709551616 rfl (by first|rfl|omega) (by omega)))<|
 gc (ixS (by omega) (by first|rfl|omega))<|
 gc (cI (wrE 18446744073709551616 rfl (by first|rfl|omega) (by omega)))<|
 gc (cI (orE0 (by omega)))<|
 gc (cI (wrE 18446744073709551616 rfl (by first|rfl|omega) (by omega)))<|
 gc (ixS (by omega) (by first|rfl|omega))<|
 gc (cB (congrArg (fun z=>z) (ltF (by omega):ilt (Int.ofNat w39) (Int.ofNat 4)=false)))<|
 gc (kr (slU_k (vNat_some (by omega)) rfl (by omega) (by omega) (by first|rfl|omega) (by first|rfl|omega) (by first|rfl|omega)) (by kernel_rfl))<|
 gc (ixS (by omega) (by first|rfl|omega))<|
 gc (kr (cB (congrArg (fun z=>z) (ltF (by omega):ilt (Int.ofNat w38) (Int.ofNat 1)=false))) (by kernel_rfl))<|
 gc (slU_k (vNat_some (by omega)) rfl (by omega) (by omega) (by first|rfl|omega) (by first|rfl|omega) (by first|rfl|omega))<|
 gc (by kernel_rfl)<|
 gc (ixS (by omega) (by first|rfl|omega))<|
 gc (ixS (by omega) (by first|rfl|omega))<|
 gc (ixS (by omega) (by first|rfl|omega))<|
 gc (ixS (by omega) (by first|rfl|omega))<|
 gc (kr (cB (congrArg (fun z=>z) (ltF (by omega):ilt (Int.ofNat w34) (Int.ofNat 4)=false))) (by kernel_rfl))<|
 gc (slU_k (vNat_some (by omega)) rfl (by omega) (by omega) (by first|rfl|omega) (by first|rfl|omega) (by first|rfl|omega))<|
 gc (by kernel_rfl)<|
 gc (ixS (by omega) (by first|rfl|omega))<|
 gc (ixS (by omega) (by first|rfl|omega))<|
 gc (ixS (by omega) (by first|rfl|omega))<|
 gc (ixS (by omega) (by first|rfl|omega))<|
 gc (kr (cB (congrArg (fun z=>z) (ltF (by omega):ilt (Int.ofNat w30) (Int.ofNat 4)=false))) (by kernel_rfl))<|
 gc (slU_k (vNat_some (by omega)) rfl (by omega) (by omega) (by first|rfl|omega) (by first|rfl|omega) (by first|rfl|omega))<|
 gc (by kernel_rfl)<|
 gc (ixS (by omega) (by first|rfl|omega))<|
 gc (ixS (by omega) (by first|rfl|omega))<|
 gc (ixS (by omega) (by first|rfl|omega))<|
 gc (ixS (by omega) (by first|rfl|omega))<|
 gc (kr (cB (congrArg (fun z=>z) (ltF (by omega):ilt (Int.ofNat w26) (Int.ofNat 4)=false))) (by kernel_rfl))<|
 gc (slU_k (vNat_some (by omega)) rfl (by omega) (by omega) (by first|rfl|omega) (by first|rfl|omega) (by first|rfl|omega))<|
 gc (by kernel_rfl)<|
 gc (ixS (by omega) (by first|rfl|omega))<|
 gc (kr (cB (congrArg (fun z=>z) (ltF (by omega):ilt (Int.ofNat w25) (Int.ofNat 1)=false))) (by kernel_rfl))<|
 gc (slU_k (vNat_some (by omega)) rfl (by omega) (by omega) (by first|rfl|omega) (by first|rfl|omega) (by first|rfl|omega))<|
 gc (by kernel_rfl)<|
 gc (kr (cI (wrE 4294967296 rfl (by first|rfl|omega) (by omega))) (by kernel_rfl))<|
 gc (cI (orE (by omega) (by omega) (by first|rfl|omega)))<|
 gc (cI (wrE 18446744073709551616 rfl (by first|rfl|omega) (by omega)))<|
 gc (ixS (by omega) (by first|rfl|omega))<|
 gc (cI (wrE 18446744073709551616 rfl (by first|rfl|omega) (by omega)))<|
 gc (cI (orE (by omega) (by omega) (by first|rfl|omega)))<|
 gc (cI (wrE 18446744073709551616 rfl (by first|rfl|omega) (by omega)))<|
 gc (ixS (by omega) (by first|rfl|omega))<|
 gc (cI (wrE 18446744073709551616 rfl (by first|rfl|omega) (by omega)))<|
 gc (cI (orE (by omega) (by omega) (by first|rfl|omega)))<|
 gc (cI (wrE 18446744073709551616 rfl (by first|rfl|omega) (by omega)))<|
 gc (ixS (by omega) (by first|rfl|omega))<|
 gc (cI (wrE 18446744073709551616 rfl (by first|rfl|omega) (by omega)))<|
 gc (cI (orE0 (by omega)))<|
 gc (cI (wrE 18446744073709551616 rfl (by first|rfl|omega) (by omega)))<|
 gc (ixS (by omega) (by first|rfl|omega))<|
 gc (kr (cB (congrArg (fun z=>z) (ltF (by omega):ilt (Int.ofNat w21) (Int.ofNat 4)=false))) (by kernel_rfl))<|
 gc (slU_k (vNat_some (by omega)) rfl (by omega) (by omega) (by first|rfl|omega) (by first|rfl|omega) (by first|rfl|omega))<|
 gc (by kernel_rfl)<|
 gc (kr (cI (wrE 9223372036854775808 rfl (by first|rfl|omega) (by omega))) (by kernel_rfl))<|
 gc (cI (orE (by omega) (by omega) (by first|rfl|omega)))<|
 gc (cI (wrE 18446744073709551616 rfl (by first|rfl|omega) (by omega)))<|
 gc (ixS (by omega) (by first|rfl|omega))<|
 gc (cI (wrE 18446744073709551616 rfl (by first|rfl|omega) (by omega)))<|
 gc (cI (orE (by omega) (by omega) (by first|rfl|omega)))<|
 gc (cI (wrE 18446744073709551616 rfl (by first|rfl|omega) (by omega)))<|
 gc (ixS (by omega) (by first|rfl|omega))<|
 gc (cI (wrE 18446744073709551616 rfl (by first|rfl|omega) (by omega)))<|
 gc (cI (orE (by omega) (by omega) (by first|rfl|omega)))<|
 gc (cI (wrE 18446744073709551616 rfl (by first|rfl|omega) (by omega)))<|
 gc (ixS (by omega) (by first|rfl|omega))<|
 gc (cI (wrE 18446744073709551616 rfl (by first|rfl|omega) (by omega)))<|
 gc (cI (orE0 (by omega)))<|
 gc (cI (wrE 18446744073709551616 rfl (by first|rfl|omega) (by omega)))<|
 gc (ixS (by omega) (by first|rfl|omega))<|
 gc (kr (cB (congrArg (fun z=>z) (ltF (by omega):ilt (Int.ofNat w17) (Int.ofNat 4)=false))) (by kernel_rfl))<|
 gc (slU_k (vNat_some (by omega)) rfl (by omega) (by omega) (by first|rfl|omega) (by first|rfl|omega) (by first|rfl|omega))<|
 gc (by kernel_rfl)<|
 gc (kr (cI (wrE 9223372036854775808 rfl (by first|rfl|omega) (by omega))) (by kernel_rfl))<|
 gc (cI (orE (by omega) (by omega) (by first|rfl|omega)))<|
 gc (cI (wrE 18446744073709551616 rfl (by first|rfl|omega) (by omega)))<|
 gc (ixS (by omega) (by first|rfl|omega))<|
 gc (cI (wrE 18446744073709551616 rfl (by first|rfl|omega) (by omega)))<|
 gc (cI (orE (by omega) (by omega) (by first|rfl|omega)))<|
 gc (cI (wrE 18446744073709551616 rfl (by first|rfl|omega) (by omega)))<|
 gc (ixS (by omega) (by first|rfl|omega))<|
 gc (cI (wrE 18446744073709551616 rfl (by first|rfl|omega) (by omega)))<|
 gc (cI (orE (by omega) (by omega) (by first|rfl|omega)))<|
 gc (cI (wrE 18446744073709551616 rfl (by first|rfl|omega) (by omega)))<|
 gc (ixS (by omega) (by first|rfl|omega))<|
 gc (cI (wrE 18446744073709551616 rfl (by first|rfl|omega) (by omega)))<|
 gc (cI (orE0 (by omega)))<|
 gc (cI (wrE 18446744073709551616 rfl (by first|rfl|omega) (by omega)))<|
 gc (ixS (by omega) (by first|rfl|omega))<|
 gc (kr (cB (congrArg (fun z=>z) (ltF (by omega):ilt (Int.ofNat w13) (Int.ofNat 4)=false))) (by kernel_rfl))<|
 gc (slU_k (vNat_some (by omega)) rfl (by omega) (by omega) (by first|rfl|omega) (by first|rfl|omega) (by first|rfl|omega))<|
 gc (by kernel_rfl)<|
 gc (ixS (by omega) (by first|rfl|omega))<|
 gc (kr (cB (congrArg (fun z=>z) (ltF (by omega):ilt (Int.ofNat w12) (Int.ofNat 1)=false))) (by kernel_rfl))<|
 gc (slU_k (vNat_some (by omega)) rfl (by omega) (by omega) (by first|rfl|omega) (by first|rfl|omega) (by first|rfl|omega))<|
 gc (by kernel_rfl)<|
 gc (ixS (by omega) (by first|rfl|omega))<|
 gc (ixS (by omega) (by first|rfl|omega))<|
 gc (ixS (by omega) (by first|rfl|omega))<|
 gc (ixS (by omega) (by first|rfl|omega))<|
 gc (ixS (by omega) (by first|rfl|omega))<|
 gc (ixS (by omega) (by first|rfl|omega))<|
 gc (ixS (by omega) (by first|rfl|omega))<|
 gc (ixS (by omega) (by first|rfl|omega))<|
 gc (kr (cB (congrArg (fun z=>z) (ltF (by omega):ilt (Int.ofNat w4) (Int.ofNat 8)=false))) (by kernel_rfl))<|
 gc (slU_k (vNat_some (by omega)) rfl (by omega) (by omega) (by first|rfl|omega) (by first|rfl|omega) (by first|rfl|omega))<|
 gc (by kernel_rfl)<|
 gc (by kernel_rfl)<|
 gc (rfl)<|
 gc (rfl)<|
 gc (rfl)<|
 gc (rfl)<|
 gc (rfl)<|
 gc (rfl)<|
 gc (rfl)<|
 gc (by kernel_rfl)<|
 gc (by kernel_rfl)<|
 gc (by kernel_rfl)<|
 gc (by kernel_rfl)<|
 gc (rfl)<|
 gc (rfl)<|
 gc (rfl)<|
 gc (rfl)<|
 gc (rfl)<|
 gc (rfl)<|
 gc (rfl)<|
 gc (by kernel_rfl)<|
 gc (by kernel_rfl)<|
 gc (by kernel_rfl)<|
 gc (by kernel_rfl)<|
 gc (by kernel_rfl)<|
 gc (slU_k rfl (vNat_some (by omega)) (by omega) (by omega) (by first|rfl|omega) (by first|rfl|omega) (by first|rfl|omega))<|
 gc (kr (cB (congrArg (fun z=>z) (ltF (by omega):ilt (Int.ofNat pg) (Int.ofNat 43)=false))) (by kernel_rfl))<|
 gc (cI (subE (by omega) (by first|rfl|omega) (by omega)))<|
 gc (cI (wrE 9223372036854775808 rfl (by first|rfl|omega) (by omega)))<|
 gc (kr (app_in2 (by rw [List.length_append,List.length_replicate,recA_len];omega) (bys_pf (L:=43) (n:=pg) (by repeat (first|exact lts_nil|refine lts_cons (by omega) ?_)) rfl (by omega) (by omega) (by kernel_rfl:AH.get (H26) (68)=some O120)) (by kernel_rfl:AH.get (H26) (39173)=some O118) (has_zrep (by omega)) (by first|rfl|omega) (by first|rfl|omega) (by omega) (by omega) rfl (by first|rfl|omega)) (by kernel_rfl))<|
 gc (slU_k rfl (vNat_some (by omega)) (by omega) (by omega) (by first|rfl|omega) (by first|rfl|omega) (by first|rfl|omega))<|
 gc (kr (cI (congrArg (fun z:Bool=>bif z then Int.ofNat pg else Int.ofNat pg) (congrArg (fun z=>z) (ltF (by omega):ilt (Int.ofNat pg) (Int.ofNat pg)=false)))) (by kernel_rfl))<|
 gc (slU_k (vNat_some (by omega)) rfl (by omega) (by omega) (by first|rfl|omega) (by first|rfl|omega) (by first|rfl|omega))<|
 gc (remE (by omega) (by first|rfl|omega))<|
 gc (quoE (by omega) (by first|rfl|assumption|omega|simp (disch:=omega) [Nat.div_self,Nat.div_div_eq_div_mul,Nat.mul_div_cancel]) (by omega))<|
 gc (cB (congrArg (fun z=>z) (ltT (by omega):ilt (Int.ofNat 0) (Int.ofNat pg)=true)))<|
 gc (kr (mkS' (by omega) (by omega)) (by kernel_rfl))<|
 gc (cB (congrArg (fun z=>z) (ltF (by omega):ilt (Int.ofNat (2*pg)) (Int.ofNat pg)=false)))<|
 gc (cI (wrE 9223372036854775808 rfl (by first|rfl|omega) (by omega)))<|
 gc (kr (cB (congrArg (fun z=>z) (eqF (by omega):ieq (Int.ofNat (2*pg)) (Int.ofNat 0)=false))) (by kernel_rfl))<|
 gc (rfl)<|
 gc (cI (wrE 9223372036854775808 rfl (by first|rfl|omega) (by omega)))<|
 gc (cI (wrE 9223372036854775808 rfl (by first|rfl|omega) (by omega)))<|
 gc (by kernel_rfl)<|
 gc (by kernel_rfl)<|
 gc (by kernel_rfl)<|
 gc (by kernel_rfl)<|
 gc (by kernel_rfl)<|
 gc (by kernel_rfl)<|
 gc (kr (c7) (by kernel_rfl))<|
 gc (kr (c5 hia hp hp2 hk hk2 hn hm hv hv2 hsl hrl hx hb hs hr (by kernel_rfl)) (by kernel_rfl))<|
 gc (kr (c4 hia hp hp2 hk hk2 hn hm hv hv2 hsl hrl hx hb hs hr (by kernel_rfl)) (by kernel_rfl))<|
 gn
end Go.Proofs.YtejgabehfdapjaaGreat.Sym.D
