/- The reference's New, where all is within bounds. Conditions: none. -/
import Derived.Test.YtejgabehfdapjaaGreatMe
set_option maxRecDepth 100000
set_option maxHeartbeats 4000000
namespace Go.Proofs.YtejgabehfdapjaaGreat.Sym.D
open Go.Den
variable [Inhabited Q]
def F2:AObj:=(.cells (ofC [(sl 494 0 pg pg),(Value.bool true),(i64 0),(sl 495 0 pg pg),(Value.bool true),(i64 0)]) (6) (0))
def F4:AObj:=(.cells (mkV [(0,some (i64 pg)),(1,some (i64 k)),(2,some (i64 0)),(3,some (sl 491 0 k 4611686018427387907)),(5,some (sl 493 0 2 2)),(6,some (Value.slice none 0 0)),(7,some (Value.bool false)),(8,some (i64 0)),(9,some (Value.slice none 0 0)),(10,some (i64 0))] .leaf) (11) (0))
def E1:AH:=newHN 490 pg k xs p4_end
def F5:AObj:=(.cells (ofC [(Value.slice ia n c)]) (1) (0))
def E2:AH:=AH.new (E1) F5
def F6:AObj:=(.ro (PT.ofList (List.map u8 xs) 0 PT.leaf))
def E3:AH:=AH.wdf (AH.wdf (E2) (AH.df (E2))) (AH.df (E1))
def F7:AObj:=(.cells (ofC [(i64 0),(i64 v),(i64 n),(u32 s)]) (4) (0))
def F8:AObj:=(.cells (ofC [(i64 0),(i64 0),(i64 0),(i64 0),(u32 0),(i64 0),(i64 0),(i64 0),(u32 0),(i64 0)]) (10) (118))
def E4:AH:=AH.new (AH.new (E3) F7) F8
def F9:AObj:=(.cells (ofC [(i64 1),(i64 0),(i64 v),(i64 n),(u32 s),(i64 0),(i64 0),(i64 0),(u32 0),(i64 0)]) (10) (0))
def E5:AH:=AH.new (AH.new (E4) F9) F8
def E6:AH:=AH.new (E5) F9
def E7:AH:=AH.wdf (E6) (AH.df (E6))
def E8:AH:=AH.new (E7) F7
def E9:AH:=AH.wdf (E8) (AH.df (E8))
def E10:AH:=AH.wdf (E9) (AH.df (E9))
def E11:AH:=AH.wdf (AH.wdf (E10) (AH.df (E10))) (AH.df (E7))
def E12:AH:=AH.wdf (AH.wdf (E11) (AH.df (E11))) (AH.df (E5))
def E13:AH:=stG (E12) 500 0 [(i64 1),(i64 0),(i64 v),(i64 n),(u32 s),(i64 0),(i64 0),(i64 0),(u32 0),(i64 0)]
def E14:AH:=AH.wdf (E13) (AH.df (E4))
def E15:AH:=stG (E14) 498 0 [(i64 1),(i64 0),(i64 v),(i64 n),(u32 s),(i64 0),(i64 0),(i64 0),(u32 0),(i64 0)]
def E16:AH:=AH.new (AH.wdf (E15) (AH.df (E3))) F8
def E17:AH:=stG (E16) 503 0 [(i64 1),(i64 0),(i64 v),(i64 n),(u32 s),(i64 0),(i64 0),(i64 0),(u32 0),(i64 0)]
def E18:AH:=AH.new (AH.new (E17) F9) F8
def E19:AH:=AH.new (AH.new (E18) F8) F8
def E20:AH:=stG (E19) 507 0 [(i64 0),(i64 0),(i64 0),(i64 0),(u32 0),(i64 0),(i64 0),(i64 0),(u32 0),(i64 0)]
def E21:AH:=AH.new (E20) F8
def F10:AObj:=(.cells (fillC (zrep [u8 0] pg) 0 pg) (pg) (0))
def E22:AH:=stG (E21) 508 0 [(i64 0),(i64 0),(i64 0),(i64 0),(u32 0),(i64 0),(i64 0),(i64 0),(u32 0),(i64 0)]
def E23:AH:=AH.new (AH.wdf (E22) (AH.df (E20))) F8
def E24:AH:=stG (E23) 509 0 [(i64 0),(i64 0),(i64 0),(i64 0),(u32 0),(i64 0),(i64 0),(i64 0),(u32 0),(i64 0)]
def E25:AH:=AH.new (E24) F8
def E26:AH:=stG (E25) 510 0 [(i64 0),(i64 0),(i64 0),(i64 0),(u32 0),(i64 0),(i64 0),(i64 0),(u32 0),(i64 0)]
def E27:AH:=AH.new (AH.wdf (E26) (AH.df (E24))) F8
def E28:AH:=stG (E27) 511 0 [(i64 0),(i64 0),(i64 0),(i64 0),(u32 0),(i64 0),(i64 0),(i64 0),(u32 0),(i64 0)]
def E29:AH:=stG (E28) 506 0 [(i64 0),(i64 0),(i64 0),(i64 0),(u32 0),(i64 0),(i64 0),(i64 0),(u32 0),(i64 0)]
def E30:AH:=AH.new (AH.wdf (E29) (AH.df (E18))) F8
def E31:AH:=stG (E30) 512 0 [(i64 0),(i64 0),(i64 0),(i64 0),(u32 0),(i64 0),(i64 0),(i64 0),(u32 0),(i64 0)]
def E32:AH:=AH.put (E31) 504 (some F9)
def E33:AH:=AH.new (E32) F9
def E34:AH:=AH.new (E33) F9
def E35:AH:=AH.wdf (E34) (AH.df (E34))
def E36:AH:=AH.new (E35) F7
def E37:AH:=AH.wdf (E36) (AH.df (E36))
def E38:AH:=AH.wdf (E37) (AH.df (E37))
def E39:AH:=AH.wdf (AH.wdf (E38) (AH.df (E38))) (AH.df (E35))
def F11:AObj:=(.cells (ofC [(u8 98),(u8 116),(u8 48),(u8 49)]) (4) (0))
def E40:AH:=AH.new (AH.wdf (AH.wdf (E39) (AH.df (E39))) (AH.df (E33))) F11
def F12:AObj:=(.cells (ofC [(u8 1)]) (1) (0))
def F13:AObj:=(.cells (ofC [(u8 1)]) (1) (11))
def F14:AObj:=(.cells (ofC [(u8 0)]) (1) (0))
def F15:AObj:=(.cells (ofC [(u8 1),(u8 0)]) (2) (11))
def F16:AObj:=(.cells (ofC [(u8 1),(u8 0),(u8 0)]) (3) (11))
def F17:AObj:=(.cells (ofC [(u8 1),(u8 0),(u8 0),(u8 0)]) (4) (11))
def F18:AObj:=(.cells (ofC [(u8 1),(u8 0),(u8 0),(u8 0),(u8 0)]) (5) (11))
def F19:AObj:=(.cells (ofC [(u8 1),(u8 0),(u8 0),(u8 0),(u8 0),(u8 0)]) (6) (11))
def F20:AObj:=(.cells (ofC [(u8 1),(u8 0),(u8 0),(u8 0),(u8 0),(u8 0),(u8 0)]) (7) (11))
def F21:AObj:=(.cells (ofC [(u8 1),(u8 0),(u8 0),(u8 0),(u8 0),(u8 0),(u8 0),(u8 0)]) (8) (11))
def F22:AObj:=(.cells (ofC [(u8 98),(u8 116),(u8 48),(u8 49),(u8 1),(u8 0),(u8 0),(u8 0),(u8 0),(u8 0),(u8 0),(u8 0)]) (12) (11))
def F23:AObj:=(.cells (ofC [(i64 0),(i64 v),(i64 n),(u32 s),(i64 0),(i64 0),(i64 0),(u32 0)]) (8) (0))
def F24:AObj:=(.cells (ofC [(i64 0),(i64 0),(i64 0),(u32 0)]) (4) (114))
def E41:AH:=AH.new (AH.new (AH.wdf (AH.new (AH.wdf (AH.new (AH.put (AH.new (AH.new (AH.put (AH.new (AH.new (AH.put (AH.new (AH.new (AH.put (AH.new (AH.new (AH.put (AH.new (AH.new (AH.put (AH.new (AH.new (AH.put (AH.new (AH.new (AH.new (E40) F12) F13) F14) 518 none) F15) F14) 520 none) F16) F14) 522 none) F17) F14) 524 none) F18) F14) 526 none) F19) F14) 528 none) F20) F14) 530 none) F21) (AH.df (E40))) F22) (AH.df (E40))) F23) F24
def E42:AH:=stG (E41) 535 0 [(i64 0),(i64 v),(i64 n),(u32 s)]
def F25:AObj:=(.cells (ofC [(u8 0)]) (1) (11))
def F26:AObj:=(.cells (ofC [(u8 98),(u8 116),(u8 48),(u8 49),(u8 1),(u8 0),(u8 0),(u8 0),(u8 0),(u8 0),(u8 0),(u8 0),(u8 0)]) (13) (11))
def E43:AH:=AH.wdf (AH.new (AH.put (AH.wdf (AH.new (AH.new (E42) F14) F25) (AH.df (E42))) 533 none) F26) (AH.df (E42))
def F27:AObj:=(.cells (ofC [(u8 (v % 256))]) (1) (0))
def F28:AObj:=(.cells (ofC [(u8 (v % 256))]) (1) (11))
def E44:AH:=AH.new (AH.new (E43) F27) F28
def F29:AObj:=(.cells (ofC [(u8 (v/256 % 256))]) (1) (0))
def F30:AObj:=(.cells (ofC [(u8 (v % 256)),(u8 (v/256 % 256))]) (2) (11))
def E45:AH:=AH.new (AH.put (AH.new (E44) F29) 540 none) F30
def F31:AObj:=(.cells (ofC [(u8 (v/65536 % 256))]) (1) (0))
def F32:AObj:=(.cells (ofC [(u8 (v % 256)),(u8 (v/256 % 256)),(u8 (v/65536 % 256))]) (3) (11))
def E46:AH:=AH.new (AH.put (AH.new (E45) F31) 542 none) F32
def F33:AObj:=(.cells (ofC [(u8 (v/16777216))]) (1) (0))
def F34:AObj:=(.cells (ofC [(u8 (v % 256)),(u8 (v/256 % 256)),(u8 (v/65536 % 256)),(u8 (v/16777216))]) (4) (11))
def E47:AH:=AH.new (AH.put (AH.new (E46) F33) 544 none) F34
def F35:AObj:=(.cells (ofC [(u8 98),(u8 116),(u8 48),(u8 49),(u8 1),(u8 0),(u8 0),(u8 0),(u8 0),(u8 0),(u8 0),(u8 0),(u8 0),(u8 (v % 256)),(u8 (v/256 % 256)),(u8 (v/65536 % 256)),(u8 (v/16777216))]) (17) (11))
def E48:AH:=AH.wdf (AH.new (AH.put (AH.wdf (E47) (AH.df (E43))) 538 none) F35) (AH.df (E43))
def F36:AObj:=(.cells (ofC [(u8 (n % 256))]) (1) (0))
def F37:AObj:=(.cells (ofC [(u8 (n % 256))]) (1) (11))
def E49:AH:=AH.new (AH.new (E48) F36) F37
def F38:AObj:=(.cells (ofC [(u8 (n/256 % 256))]) (1) (0))
def F39:AObj:=(.cells (ofC [(u8 (n % 256)),(u8 (n/256 % 256))]) (2) (11))
def E50:AH:=AH.new (AH.put (AH.new (E49) F38) 549 none) F39
def F40:AObj:=(.cells (ofC [(u8 (n/65536 % 256))]) (1) (0))
def F41:AObj:=(.cells (ofC [(u8 (n % 256)),(u8 (n/256 % 256)),(u8 (n/65536 % 256))]) (3) (11))
def E51:AH:=AH.new (AH.put (AH.new (E50) F40) 551 none) F41
def F42:AObj:=(.cells (ofC [(u8 (n/16777216))]) (1) (0))
def F43:AObj:=(.cells (ofC [(u8 (n % 256)),(u8 (n/256 % 256)),(u8 (n/65536 % 256)),(u8 (n/16777216))]) (4) (11))
def E52:AH:=AH.new (AH.put (AH.new (E51) F42) 553 none) F43
def F44:AObj:=(.cells (ofC [(u8 98),(u8 116),(u8 48),(u8 49),(u8 1),(u8 0),(u8 0),(u8 0),(u8 0),(u8 0),(u8 0),(u8 0),(u8 0),(u8 (v % 256)),(u8 (v/256 % 256)),(u8 (v/65536 % 256)),(u8 (v/16777216)),(u8 (n % 256)),(u8 (n/256 % 256)),(u8 (n/65536 % 256)),(u8 (n/16777216))]) (21) (11))
def E53:AH:=AH.wdf (AH.new (AH.put (AH.wdf (E52) (AH.df (E48))) 547 none) F44) (AH.df (E48))
def F45:AObj:=(.cells (ofC [(u8 (s % 256))]) (1) (0))
def F46:AObj:=(.cells (ofC [(u8 (s % 256))]) (1) (11))
def E54:AH:=AH.new (AH.new (E53) F45) F46
def F47:AObj:=(.cells (ofC [(u8 (s/256 % 256))]) (1) (0))
def F48:AObj:=(.cells (ofC [(u8 (s % 256)),(u8 (s/256 % 256))]) (2) (11))
def E55:AH:=AH.new (AH.put (AH.new (E54) F47) 558 none) F48
def F49:AObj:=(.cells (ofC [(u8 (s/65536 % 256))]) (1) (0))
def F50:AObj:=(.cells (ofC [(u8 (s % 256)),(u8 (s/256 % 256)),(u8 (s/65536 % 256))]) (3) (11))
def E56:AH:=AH.new (AH.put (AH.new (E55) F49) 560 none) F50
def F51:AObj:=(.cells (ofC [(u8 (s/16777216))]) (1) (0))
def F52:AObj:=(.cells (ofC [(u8 (s % 256)),(u8 (s/256 % 256)),(u8 (s/65536 % 256)),(u8 (s/16777216))]) (4) (11))
def E57:AH:=AH.new (AH.put (AH.new (E56) F51) 562 none) F52
def F53:AObj:=(.cells (ofC [(u8 98),(u8 116),(u8 48),(u8 49),(u8 1),(u8 0),(u8 0),(u8 0),(u8 0),(u8 0),(u8 0),(u8 0),(u8 0),(u8 (v % 256)),(u8 (v/256 % 256)),(u8 (v/65536 % 256)),(u8 (v/16777216)),(u8 (n % 256)),(u8 (n/256 % 256)),(u8 (n/65536 % 256)),(u8 (n/16777216)),(u8 (s % 256)),(u8 (s/256 % 256)),(u8 (s/65536 % 256)),(u8 (s/16777216))]) (25) (11))
def E58:AH:=AH.new (AH.wdf (AH.new (AH.put (AH.wdf (E57) (AH.df (E53))) 556 none) F53) (AH.df (E53))) F24
def E59:AH:=stG (E58) 566 0 [(i64 0),(i64 0),(i64 0),(u32 0)]
def F54:AObj:=(.cells (ofC [(u8 98),(u8 116),(u8 48),(u8 49),(u8 1),(u8 0),(u8 0),(u8 0),(u8 0),(u8 0),(u8 0),(u8 0),(u8 0),(u8 (v % 256)),(u8 (v/256 % 256)),(u8 (v/65536 % 256)),(u8 (v/16777216)),(u8 (n % 256)),(u8 (n/256 % 256)),(u8 (n/65536 % 256)),(u8 (n/16777216)),(u8 (s % 256)),(u8 (s/256 % 256)),(u8 (s/65536 % 256)),(u8 (s/16777216)),(u8 0)]) (26) (11))
def E60:AH:=AH.wdf (AH.new (AH.put (AH.wdf (AH.new (AH.new (E59) F14) F25) (AH.df (E59))) 565 none) F54) (AH.df (E59))
def F55:AObj:=(.cells (ofC [(u8 0),(u8 0)]) (2) (11))
def F56:AObj:=(.cells (ofC [(u8 0),(u8 0),(u8 0)]) (3) (11))
def F57:AObj:=(.cells (ofC [(u8 0),(u8 0),(u8 0),(u8 0)]) (4) (11))
def F58:AObj:=(.cells (ofC [(u8 98),(u8 116),(u8 48),(u8 49),(u8 1),(u8 0),(u8 0),(u8 0),(u8 0),(u8 0),(u8 0),(u8 0),(u8 0),(u8 (v % 256)),(u8 (v/256 % 256)),(u8 (v/65536 % 256)),(u8 (v/16777216)),(u8 (n % 256)),(u8 (n/256 % 256)),(u8 (n/65536 % 256)),(u8 (n/16777216)),(u8 (s % 256)),(u8 (s/256 % 256)),(u8 (s/65536 % 256)),(u8 (s/16777216)),(u8 0),(u8 0),(u8 0),(u8 0),(u8 0)]) (30) (11))
def E61:AH:=AH.wdf (AH.new (AH.put (AH.wdf (AH.new (AH.put (AH.new (AH.new (AH.put (AH.new (AH.new (AH.put (AH.new (AH.new (AH.new (E60) F14) F25) F14) 571 none) F55) F14) 573 none) F56) F14) 575 none) F57) (AH.df (E60))) 569 none) F58) (AH.df (E60))
def F59:AObj:=(.cells (ofC [(u8 98),(u8 116),(u8 48),(u8 49),(u8 1),(u8 0),(u8 0),(u8 0),(u8 0),(u8 0),(u8 0),(u8 0),(u8 0),(u8 (v % 256)),(u8 (v/256 % 256)),(u8 (v/65536 % 256)),(u8 (v/16777216)),(u8 (n % 256)),(u8 (n/256 % 256)),(u8 (n/65536 % 256)),(u8 (n/16777216)),(u8 (s % 256)),(u8 (s/256 % 256)),(u8 (s/65536 % 256)),(u8 (s/16777216)),(u8 0),(u8 0),(u8 0),(u8 0),(u8 0),(u8 0),(u8 0),(u8 0),(u8 0)]) (34) (11))
def E62:AH:=AH.wdf (AH.new (AH.put (AH.wdf (AH.new (AH.put (AH.new (AH.new (AH.put (AH.new (AH.new (AH.put (AH.new (AH.new (AH.new (E61) F14) F25) F14) 580 none) F55) F14) 582 none) F56) F14) 584 none) F57) (AH.df (E61))) 578 none) F59) (AH.df (E61))
def F60:AObj:=(.cells (ofC [(u8 98),(u8 116),(u8 48),(u8 49),(u8 1),(u8 0),(u8 0),(u8 0),(u8 0),(u8 0),(u8 0),(u8 0),(u8 0),(u8 (v % 256)),(u8 (v/256 % 256)),(u8 (v/65536 % 256)),(u8 (v/16777216)),(u8 (n % 256)),(u8 (n/256 % 256)),(u8 (n/65536 % 256)),(u8 (n/16777216)),(u8 (s % 256)),(u8 (s/256 % 256)),(u8 (s/65536 % 256)),(u8 (s/16777216)),(u8 0),(u8 0),(u8 0),(u8 0),(u8 0),(u8 0),(u8 0),(u8 0),(u8 0),(u8 0),(u8 0),(u8 0),(u8 0)]) (38) (11))
def E63:AH:=AH.wdf (AH.new (AH.put (AH.wdf (AH.new (AH.put (AH.new (AH.new (AH.put (AH.new (AH.new (AH.put (AH.new (AH.new (AH.new (E62) F14) F25) F14) 589 none) F55) F14) 591 none) F56) F14) 593 none) F57) (AH.df (E62))) 587 none) F60) (AH.df (E62))
def F61:AObj:=(.cells (ofC [(u8 98),(u8 116),(u8 48),(u8 49),(u8 1),(u8 0),(u8 0),(u8 0),(u8 0),(u8 0),(u8 0),(u8 0),(u8 0),(u8 (v % 256)),(u8 (v/256 % 256)),(u8 (v/65536 % 256)),(u8 (v/16777216)),(u8 (n % 256)),(u8 (n/256 % 256)),(u8 (n/65536 % 256)),(u8 (n/16777216)),(u8 (s % 256)),(u8 (s/256 % 256)),(u8 (s/65536 % 256)),(u8 (s/16777216)),(u8 0),(u8 0),(u8 0),(u8 0),(u8 0),(u8 0),(u8 0),(u8 0),(u8 0),(u8 0),(u8 0),(u8 0),(u8 0),(u8 0)]) (39) (11))
def E64:AH:=AH.wdf (AH.new (AH.put (AH.wdf (AH.new (AH.new (E63) F14) F25) (AH.df (E63))) 596 none) F61) (AH.df (E63))
def E65:AH:=AH.wdf (E64) (AH.df (E64))
def F62:AObj:=(.cells (ofC [(u8 (r % 256))]) (1) (0))
def F63:AObj:=(.cells (ofC [(u8 (r % 256))]) (1) (11))
def E66:AH:=AH.new (AH.new (E65) F62) F63
def F64:AObj:=(.cells (ofC [(u8 (r/256 % 256))]) (1) (0))
def F65:AObj:=(.cells (ofC [(u8 (r % 256)),(u8 (r/256 % 256))]) (2) (11))
def E67:AH:=AH.new (AH.put (AH.new (E66) F64) 601 none) F65
def F66:AObj:=(.cells (ofC [(u8 (r/65536 % 256))]) (1) (0))
def F67:AObj:=(.cells (ofC [(u8 (r % 256)),(u8 (r/256 % 256)),(u8 (r/65536 % 256))]) (3) (11))
def E68:AH:=AH.new (AH.put (AH.new (E67) F66) 603 none) F67
def F68:AObj:=(.cells (ofC [(u8 (r/16777216))]) (1) (0))
def F69:AObj:=(.cells (ofC [(u8 (r % 256)),(u8 (r/256 % 256)),(u8 (r/65536 % 256)),(u8 (r/16777216))]) (4) (11))
def E69:AH:=AH.new (AH.put (AH.new (E68) F68) 605 none) F69
def F70:AObj:=(.cells (ofC [(u8 98),(u8 116),(u8 48),(u8 49),(u8 1),(u8 0),(u8 0),(u8 0),(u8 0),(u8 0),(u8 0),(u8 0),(u8 0),(u8 (v % 256)),(u8 (v/256 % 256)),(u8 (v/65536 % 256)),(u8 (v/16777216)),(u8 (n % 256)),(u8 (n/256 % 256)),(u8 (n/65536 % 256)),(u8 (n/16777216)),(u8 (s % 256)),(u8 (s/256 % 256)),(u8 (s/65536 % 256)),(u8 (s/16777216)),(u8 0),(u8 0),(u8 0),(u8 0),(u8 0),(u8 0),(u8 0),(u8 0),(u8 0),(u8 0),(u8 0),(u8 0),(u8 0),(u8 0),(u8 (r % 256)),(u8 (r/256 % 256)),(u8 (r/65536 % 256)),(u8 (r/16777216))]) (43) (11))
def E70:AH:=AH.wdf (AH.wdf (AH.new (AH.put (AH.wdf (E69) (AH.df (E65))) 599 none) F70) (AH.df (E65))) (AH.df (E32))
def F71:AObj:=(.cells (ofC [(sl 494 0 pg pg),(Value.bool true),(i64 1),(sl 495 0 pg pg),(Value.bool true),(i64 0)]) (6) (0))
def E71:AH:=AH.put (AH.wdf (E70) (AH.df (E70))) 493 (some F71)
def F72:AObj:=(.cells (ofC [(i64 1),(i64 2),(i64 0)]) (3) (0))
def F73:AObj:=(.cells (ofC [(i64 1),(i64 2),(i64 0)]) (3) (297))
def F74:AObj:=(.cells (mkV [(0,some (i64 pg)),(1,some (i64 k)),(2,some (i64 0)),(3,some (sl 491 0 k 4611686018427387907)),(5,some (sl 493 0 2 2)),(6,some (sl 610 0 1 4611686018427387907)),(7,some (Value.bool false)),(8,some (i64 0)),(9,some (Value.slice none 0 0)),(10,some (i64 0))] .leaf) (11) (0))
def E72:AH:=AH.mk 628 (AH.mem (AH.wdf (AH.put (AH.new (AH.new (E71) F72) F73) 490 (some F74)) (AH.df (E71)))) []
def F75:AObj:=(.cells (fillC (zrep [u8 0] pg) 0 pg) (pg) (0))
def E73:AH:=AH.new (E72) F75
def E74:AH:=stG (E73) 493 0 [(sl 628 0 pg pg),(Value.bool true),(i64 1)]
def E75:AH:=AH.wdf (E74) (AH.df (E70))
def E76:AH:=AH.wdf (E75) (AH.df (E75))
def F76:AObj:=(.cells (ofC [(i64 2),(i64 2),(i64 0)]) (3) (0))
def F77:AObj:=(.cells (ofC [(i64 1),(i64 2),(i64 0),(i64 2),(i64 2),(i64 0)]) (6) (297))
def F78:AObj:=(.cells (mkV [(0,some (i64 pg)),(1,some (i64 k)),(2,some (i64 0)),(3,some (sl 491 0 k 4611686018427387907)),(5,some (sl 493 0 2 2)),(6,some (sl 630 0 2 4611686018427387907)),(7,some (Value.bool false)),(8,some (i64 0)),(9,some (Value.slice none 0 0)),(10,some (i64 0))] .leaf) (11) (0))
def E77:AH:=AH.wdf (AH.put (AH.new (AH.put (AH.new (E76) F76) 610 none) F77) 490 (some F78)) (AH.df (E76))
def E78:AH:=AH.new (E77) F75
def F79:AObj:=(.cells (PT.puts (fillC (zrep [u8 0] pg) 0 pg) 0 (List.map u8 (recA v n s r))) (pg) (0))
def E79:AH:=AH.put (E78) 631 (some F79)
def E80:AH:=AH.mk 653 (AH.mem (E79)) []
def E81:AH:=stG (E80) 493 0 [(sl 631 0 pg pg),(Value.bool false),(i64 1)]
def E82:AH:=AH.wdf (E81) (AH.df (E75))
def E83:AH:=stG (E82) 505 0 [(i64 1),(i64 0),(i64 v),(i64 n),(u32 s),(i64 0),(i64 0),(i64 0),(u32 0),(i64 0)]
def F80:AObj:=(.cells (ofC [(ptr 490 0),(Value.bool false),(i64 0),(i64 0),(i64 0),(u32 0),(Value.pointer none)]) (7) (0))
def E84:AH:=AH.new (AH.wdf (E83) (AH.df (E17))) F80
def F99:AObj:=(.cells (ofC [(i64 0),(i64 v),(i64 n),(u32 s)]) (4) (114))
def F102:AObj:=(.cells (ofC [(i64 1),(i64 0),(i64 v),(i64 n),(u32 s),(i64 0),(i64 0),(i64 0),(u32 0),(i64 0)]) (10) (118))
def F128:AObj:=(.cells (ofC [(sl 631 0 pg pg),(Value.bool false),(i64 1),(sl 495 0 pg pg),(Value.bool true),(i64 0)]) (6) (0))
theorem p5_ok (Cs:Nat→Oracle):rySD envT Cs (tbD pg k n c s v ia xs) BIG 9 [(6,(Value.tuple (Array.mk [ptr 490 0,i64 0])),some E1),
 (35,(u32 (refN 4294967295 xs)),some E2),
 (45,(u32 s),none),
 (103,(Value.bool true),some E9),
 (107,(Value.bool true),none),
 (122,(Value.bool true),some E10),
 (157,(Value.tuple (Array.mk [])),some E13),
 (161,(Value.tuple (Array.mk [])),some E15),
 (167,(Value.tuple (Array.mk [])),some E17),
 (188,(Value.tuple (Array.mk [])),some E20),
 (207,(Value.bool false),some E21),
 (210,(sl 494 0 4 pg),none),
 (211,(Value.string (strOf (List.replicate 4 255))),none),
 (217,(Value.tuple (Array.mk [])),some E22),
 (223,(Value.tuple (Array.mk [])),some E24),
 (248,(Value.bool false),some E25),
 (251,(sl 495 0 4 pg),none),
 (252,(Value.string (strOf (List.replicate 4 255))),none),
 (258,(Value.tuple (Array.mk [])),some E26),
 (264,(Value.tuple (Array.mk [])),some E28),
 (278,(Value.tuple (Array.mk [])),some E29),
 (286,(Value.tuple (Array.mk [])),some E31),
 (352,(Value.bool true),some E37),
 (356,(Value.bool true),none),
 (371,(Value.bool true),some E38),
 (582,(Value.tuple (Array.mk [])),some E42),
 (639,(u64 v),some E43),
 (661,(u8 (v % 256)),none),
 (666,(u64 (v/256)),some E44),
 (677,(u8 (v/256 % 256)),none),
 (682,(u64 (v/65536)),some E45),
 (693,(u8 (v/65536 % 256)),none),
 (698,(u64 (v/16777216)),some E46),
 (708,(u64 (v/16777216)),none),
 (709,(u8 (v/16777216)),none),
 (714,(u64 0),some E47),
 (740,(u64 n),some E48),
 (762,(u8 (n % 256)),none),
 (767,(u64 (n/256)),some E49),
 (778,(u8 (n/256 % 256)),none),
 (783,(u64 (n/65536)),some E50),
 (794,(u8 (n/65536 % 256)),none),
 (799,(u64 (n/16777216)),some E51),
 (809,(u64 (n/16777216)),none),
 (810,(u8 (n/16777216)),none),
 (815,(u64 0),some E52),
 (841,(u64 s),some E53),
 (863,(u8 (s % 256)),none),
 (868,(u64 (s/256)),some E54),
 (879,(u8 (s/256 % 256)),none),
 (884,(u64 (s/65536)),some E55),
 (895,(u8 (s/65536 % 256)),none),
 (900,(u64 (s/16777216)),some E56),
 (910,(u64 (s/16777216)),none),
 (911,(u8 (s/16777216)),none),
 (916,(u64 0),some E57),
 (945,(Value.tuple (Array.mk [])),some E59),
 (1365,(u32 (refN 4294967295 (recL v n s))),some E64),
 (1366,(u32 r),none),
 (1368,(u64 r),some E65),
 (1390,(u8 (r % 256)),none),
 (1395,(u64 (r/256)),some E66),
 (1406,(u8 (r/256 % 256)),none),
 (1411,(u64 (r/65536)),some E67),
 (1422,(u8 (r/65536 % 256)),none),
 (1427,(u64 (r/16777216)),some E68),
 (1437,(u64 (r/16777216)),none),
 (1438,(u8 (r/16777216)),none),
 (1443,(u64 0),some E69),
 (1582,(sl 628 0 pg pg),some E73),
 (1587,(Value.tuple (Array.mk [])),some E74),
 (1635,(Value.bool false),some E76),
 (1676,(sl 631 0 pg pg),some E78),
 (1680,(i64 43),some E79),
 (1701,(Value.tuple (Array.mk [])),some E81),
 (1707,(Value.tuple (Array.mk [])),some E83)] 5 [(i64 pg),(i64 k),(Value.slice ia n c),(i64 v)] p4_end=some ((Value.tuple (Array.mk [ptr 653 0,i64 0])),E84,
 [((stN 10 (ptr 505 0) (Value.agg (Array.mk [i64 1,i64 0,i64 v,i64 n,u32 s,i64 0,i64 0,i64 0,u32 0,i64 0])) (E82)).bind fun zh=>some (junk,zh))=some ((Value.tuple (Array.mk [])),E83),
 ((stN 3 (ptr 493 0) (Value.agg (Array.mk [sl 631 0 pg pg,Value.bool false,i64 1])) (E80)).bind fun zh=>some (junk,zh))=some ((Value.tuple (Array.mk [])),E81),
 hCopy 1 (sl 631 0 pg pg) (sl 608 0 43 4611686018427387905) (E78)=some ((i64 43),E79),
 Cs (7) (.func (.func 42) ⟨[]⟩ ⟨[]⟩) [(i64 pg)] E77=some ((sl 631 0 pg pg),E78),
 some (Value.bool (ilt (Int.ofNat pg) (Int.ofNat 43)),E76)=some ((Value.bool false),E76),
 (some (sl 493 0 2 2):Option Value)=some (sl 493 0 2 2),
 ((stN 3 (ptr 493 0) (Value.agg (Array.mk [sl 628 0 pg pg,Value.bool true,i64 1])) (E73)).bind fun zh=>some (junk,zh))=some ((Value.tuple (Array.mk [])),E74),
 Cs (7) (.func (.func 42) ⟨[]⟩ ⟨[]⟩) [(i64 pg)] E72=some ((sl 628 0 pg pg),E73),
 some (Value.int IntKind.u64 (wr IntKind.u64 (Int.ofNat (r/16777216/256))),E69)=some ((u64 0),E69),
 some (Value.int IntKind.u8 (wr IntKind.u8 (Int.ofNat (r/16777216))),E68)=some ((u8 (r/16777216)),E68),
 some (u64 ((r/16777216 % 256)),E68)=some ((u64 (r/16777216)),E68),
 some (Value.int IntKind.u64 (wr IntKind.u64 (Int.ofNat (r/65536/256))),E68)=some ((u64 (r/16777216)),E68),
 some (Value.int IntKind.u8 (wr IntKind.u8 (Int.ofNat (r/65536 % 256))),E67)=some ((u8 (r/65536 % 256)),E67),
 some (Value.int IntKind.u64 (wr IntKind.u64 (Int.ofNat (r/256/256))),E67)=some ((u64 (r/65536)),E67),
 some (Value.int IntKind.u8 (wr IntKind.u8 (Int.ofNat (r/256 % 256))),E66)=some ((u8 (r/256 % 256)),E66),
 some (Value.int IntKind.u64 (wr IntKind.u64 (Int.ofNat (r/256))),E66)=some ((u64 (r/256)),E66),
 some (Value.int IntKind.u8 (wr IntKind.u8 (Int.ofNat (r % 256))),E65)=some ((u8 (r % 256)),E65),
 some (Value.int IntKind.u64 (wr IntKind.u64 (Int.ofNat r)),E65)=some ((u64 r),E65),
 some (Value.int IntKind.u32 (bitsOf IntKind.u32 Nat.xor (fun x1 x2=>x1 ^^^ x2) (Int.ofNat 4294967295) (Int.ofNat (refN 4294967295 (recL v n s)))),E64)=some ((u32 r),E64),
 Cs (6) (Value.func (Fn.func 79) (Array.mk []) (Array.mk [])) [(u32 4294967295),(sl 599 0 39 4611686018427387905)] (E64)=some ((u32 (refN 4294967295 (recL v n s))),E64),
 ((stN 4 (ptr 566 0) (Value.agg (Array.mk [i64 0,i64 0,i64 0,u32 0])) (E58)).bind fun zh=>some (junk,zh))=some ((Value.tuple (Array.mk [])),E59),
 some (Value.int IntKind.u64 (wr IntKind.u64 (Int.ofNat (s/16777216/256))),E57)=some ((u64 0),E57),
 some (Value.int IntKind.u8 (wr IntKind.u8 (Int.ofNat (s/16777216))),E56)=some ((u8 (s/16777216)),E56),
 some (u64 ((s/16777216 % 256)),E56)=some ((u64 (s/16777216)),E56),
 some (Value.int IntKind.u64 (wr IntKind.u64 (Int.ofNat (s/65536/256))),E56)=some ((u64 (s/16777216)),E56),
 some (Value.int IntKind.u8 (wr IntKind.u8 (Int.ofNat (s/65536 % 256))),E55)=some ((u8 (s/65536 % 256)),E55),
 some (Value.int IntKind.u64 (wr IntKind.u64 (Int.ofNat (s/256/256))),E55)=some ((u64 (s/65536)),E55),
 some (Value.int IntKind.u8 (wr IntKind.u8 (Int.ofNat (s/256 % 256))),E54)=some ((u8 (s/256 % 256)),E54),
 some (Value.int IntKind.u64 (wr IntKind.u64 (Int.ofNat (s/256))),E54)=some ((u64 (s/256)),E54),
 some (Value.int IntKind.u8 (wr IntKind.u8 (Int.ofNat (s % 256))),E53)=some ((u8 (s % 256)),E53),
 some (Value.int IntKind.u64 (wr IntKind.u64 (Int.ofNat s)),E53)=some ((u64 s),E53),
 some (Value.int IntKind.u64 (wr IntKind.u64 (Int.ofNat (n/16777216/256))),E52)=some ((u64 0),E52),
 some (Value.int IntKind.u8 (wr IntKind.u8 (Int.ofNat (n/16777216))),E51)=some ((u8 (n/16777216)),E51),
 some (u64 ((n/16777216 % 256)),E51)=some ((u64 (n/16777216)),E51),
 some (Value.int IntKind.u64 (wr IntKind.u64 (Int.ofNat (n/65536/256))),E51)=some ((u64 (n/16777216)),E51),
 some (Value.int IntKind.u8 (wr IntKind.u8 (Int.ofNat (n/65536 % 256))),E50)=some ((u8 (n/65536 % 256)),E50),
 some (Value.int IntKind.u64 (wr IntKind.u64 (Int.ofNat (n/256/256))),E50)=some ((u64 (n/65536)),E50),
 some (Value.int IntKind.u8 (wr IntKind.u8 (Int.ofNat (n/256 % 256))),E49)=some ((u8 (n/256 % 256)),E49),
 some (Value.int IntKind.u64 (wr IntKind.u64 (Int.ofNat (n/256))),E49)=some ((u64 (n/256)),E49),
 some (Value.int IntKind.u8 (wr IntKind.u8 (Int.ofNat (n % 256))),E48)=some ((u8 (n % 256)),E48),
 some (Value.int IntKind.u64 (wr IntKind.u64 (Int.ofNat n)),E48)=some ((u64 n),E48),
 some (Value.int IntKind.u64 (wr IntKind.u64 (Int.ofNat (v/16777216/256))),E47)=some ((u64 0),E47),
 some (Value.int IntKind.u8 (wr IntKind.u8 (Int.ofNat (v/16777216))),E46)=some ((u8 (v/16777216)),E46),
 some (u64 ((v/16777216 % 256)),E46)=some ((u64 (v/16777216)),E46),
 some (Value.int IntKind.u64 (wr IntKind.u64 (Int.ofNat (v/65536/256))),E46)=some ((u64 (v/16777216)),E46),
 some (Value.int IntKind.u8 (wr IntKind.u8 (Int.ofNat (v/65536 % 256))),E45)=some ((u8 (v/65536 % 256)),E45),
 some (Value.int IntKind.u64 (wr IntKind.u64 (Int.ofNat (v/256/256))),E45)=some ((u64 (v/65536)),E45),
 some (Value.int IntKind.u8 (wr IntKind.u8 (Int.ofNat (v/256 % 256))),E44)=some ((u8 (v/256 % 256)),E44),
 some (Value.int IntKind.u64 (wr IntKind.u64 (Int.ofNat (v/256))),E44)=some ((u64 (v/256)),E44),
 some (Value.int IntKind.u8 (wr IntKind.u8 (Int.ofNat (v % 256))),E43)=some ((u8 (v % 256)),E43),
 some (Value.int IntKind.u64 (wr IntKind.u64 (Int.ofNat v)),E43)=some ((u64 v),E43),
 ((stN 4 (ptr 535 0) (Value.agg (Array.mk [i64 0,i64 v,i64 n,u32 s])) (E41)).bind fun zh=>some (junk,zh))=some ((Value.tuple (Array.mk [])),E42),
 some (Value.bool !ilt (Int.ofNat 16777216) (Int.ofNat n),E38)=some ((Value.bool true),E38),
 some (Value.bool !ilt (Int.ofNat 2147483647) (Int.ofNat v),E37)=some ((Value.bool true),E37),
 some (Value.bool !ilt (Int.ofNat v) (Int.ofNat 1),E37)=some ((Value.bool true),E37),
 ((stN 10 (ptr 512 0) (Value.agg (Array.mk [i64 0,i64 0,i64 0,i64 0,u32 0,i64 0,i64 0,i64 0,u32 0,i64 0])) (E30)).bind fun zh=>some (junk,zh))=some ((Value.tuple (Array.mk [])),E31),
 ((stN 10 (ptr 506 0) (Value.agg (Array.mk [i64 0,i64 0,i64 0,i64 0,u32 0,i64 0,i64 0,i64 0,u32 0,i64 0])) (E28)).bind fun zh=>some (junk,zh))=some ((Value.tuple (Array.mk [])),E29),
 ((stN 10 (ptr 511 0) (Value.agg (Array.mk [i64 0,i64 0,i64 0,i64 0,u32 0,i64 0,i64 0,i64 0,u32 0,i64 0])) (E27)).bind fun zh=>some (junk,zh))=some ((Value.tuple (Array.mk [])),E28),
 ((stN 10 (ptr 510 0) (Value.agg (Array.mk [i64 0,i64 0,i64 0,i64 0,u32 0,i64 0,i64 0,i64 0,u32 0,i64 0])) (E25)).bind fun zh=>some (junk,zh))=some ((Value.tuple (Array.mk [])),E26),
 ((cBytes (sl 495 0 4 pg) (E25)).bind fun zv=>some (zv,E25))=some ((Value.string (strOf (List.replicate 4 255))),E25),
 ((slS 1 (sl 495 0 pg pg) none (some (i64 4)) none).bind fun zv=>some (zv,E25))=some ((sl 495 0 4 pg),E25),
 some (Value.bool (ilt (Int.ofNat pg) (Int.ofNat 43)),E25)=some ((Value.bool false),E25),
 ((stN 10 (ptr 509 0) (Value.agg (Array.mk [i64 0,i64 0,i64 0,i64 0,u32 0,i64 0,i64 0,i64 0,u32 0,i64 0])) (E23)).bind fun zh=>some (junk,zh))=some ((Value.tuple (Array.mk [])),E24),
 ((stN 10 (ptr 508 0) (Value.agg (Array.mk [i64 0,i64 0,i64 0,i64 0,u32 0,i64 0,i64 0,i64 0,u32 0,i64 0])) (E21)).bind fun zh=>some (junk,zh))=some ((Value.tuple (Array.mk [])),E22),
 ((cBytes (sl 494 0 4 pg) (E21)).bind fun zv=>some (zv,E21))=some ((Value.string (strOf (List.replicate 4 255))),E21),
 ((slS 1 (sl 494 0 pg pg) none (some (i64 4)) none).bind fun zv=>some (zv,E21))=some ((sl 494 0 4 pg),E21),
 some (Value.bool (ilt (Int.ofNat pg) (Int.ofNat 43)),E21)=some ((Value.bool false),E21),
 ((stN 10 (ptr 507 0) (Value.agg (Array.mk [i64 0,i64 0,i64 0,i64 0,u32 0,i64 0,i64 0,i64 0,u32 0,i64 0])) (E19)).bind fun zh=>some (junk,zh))=some ((Value.tuple (Array.mk [])),E20),
 ((stN 10 (ptr 503 0) (Value.agg (Array.mk [i64 1,i64 0,i64 v,i64 n,u32 s,i64 0,i64 0,i64 0,u32 0,i64 0])) (E16)).bind fun zh=>some (junk,zh))=some ((Value.tuple (Array.mk [])),E17),
 ((stN 10 (ptr 498 0) (Value.agg (Array.mk [i64 1,i64 0,i64 v,i64 n,u32 s,i64 0,i64 0,i64 0,u32 0,i64 0])) (E14)).bind fun zh=>some (junk,zh))=some ((Value.tuple (Array.mk [])),E15),
 ((stN 10 (ptr 500 0) (Value.agg (Array.mk [i64 1,i64 0,i64 v,i64 n,u32 s,i64 0,i64 0,i64 0,u32 0,i64 0])) (E12)).bind fun zh=>some (junk,zh))=some ((Value.tuple (Array.mk [])),E13),
 some (Value.bool !ilt (Int.ofNat 16777216) (Int.ofNat n),E10)=some ((Value.bool true),E10),
 some (Value.bool !ilt (Int.ofNat 2147483647) (Int.ofNat v),E9)=some ((Value.bool true),E9),
 some (Value.bool !ilt (Int.ofNat v) (Int.ofNat 1),E9)=some ((Value.bool true),E9),
 some (Value.int IntKind.u32 (bitsOf IntKind.u32 Nat.xor (fun x1 x2=>x1 ^^^ x2) (Int.ofNat 4294967295) (Int.ofNat (refN 4294967295 xs))),E2)=some ((u32 s),E2),
 Cs (7) (Value.func (Fn.func 79) (Array.mk []) (Array.mk [])) [(u32 4294967295),(Value.slice ia n c)] (E2)=some ((u32 (refN 4294967295 xs)),E2),
 Cs (9) (.func (.func 13) ⟨[]⟩ ⟨[]⟩) [(i64 pg),(i64 k),(i64 0),(Value.agg (Array.mk [Value.slice ia n c,Value.slice none 0 0]))] p4_end=some ((Value.tuple (Array.mk [ptr 490 0,i64 0])),E1)]):=by kernel_rfl
theorem p5 (hia:IA ia 0 n c) (hp:64≤pg) (hp2:pg≤4096) (hk:1≤k) (hk2:k≤4096) (hn:n≤pg*k) (hm:pg*k≤16777216) (hv:1≤v) (hv2:v≤2147483647) (hsl:s<4294967296) (hrl:r<4294967296) (hx:xs.length=n) (hb:∀ x ∈ xs,x<256) (hs:sumN xs=s) (hr:sumN (recL v n s)=r):denG envT (orcS envT (tbD pg k n c s v ia xs) BIG 9) BIG 5 [(i64 pg),(i64 k),(Value.slice ia n c),(i64 v)] p4_end=some ((Value.tuple (Array.mk [ptr 653 0,i64 0])),E84):=
 rySD_sound (p5_ok (orcS envT (tbD pg k n c s v ia xs) BIG))<|gc (by kernel_rfl)<|
 gc (by kernel_rfl)<|
 gc (kr (cpy (by omega) (by first|assumption|rfl|(simp;done)|omega|(simp;omega)) (bys_c (ys:=recA v n s r) rfl (by kernel_rfl) (by repeat (first|exact lts_nil|refine lts_cons (by omega) ?_))) (by kernel_rfl:AH.get (E78) (631)=some F75) (has_fill (has_zrep (by omega)))) (by kernel_rfl))<|
 gc (kr (c42 (by omega) (by kernel_rfl)) (by kernel_rfl))<|
 gc (kr (cB (congrArg (fun z=>z) (ltF (by omega):ilt (Int.ofNat pg) (Int.ofNat 43)=false))) (by kernel_rfl))<|
 gc (rfl)<|
 gc (by kernel_rfl)<|
 gc (kr (c42 (by omega) (by kernel_rfl)) (by kernel_rfl))<|
 gc (kr (cI (wrE 18446744073709551616 rfl (by omega) (by omega))) (by kernel_rfl))<|
 gc (cI (wrE 256 rfl (by omega) (by omega)))<|
 gc (cI (ofE (by omega)))<|
 gc (kr (cI (wrE 18446744073709551616 rfl (by omega) (by omega))) (by kernel_rfl))<|
 gc (cI (wrE 256 rfl (by omega) (by omega)))<|
 gc (kr (cI (wrE 18446744073709551616 rfl (by omega) (by omega))) (by kernel_rfl))<|
 gc (cI (wrE 256 rfl (by omega) (by omega)))<|
 gc (kr (cI (wrE 18446744073709551616 rfl (by omega) (by omega))) (by kernel_rfl))<|
 gc (cI (wrE 256 rfl (by omega) (by omega)))<|
 gc (kr (cI (wrE 18446744073709551616 rfl (by omega) (by omega))) (by kernel_rfl))<|
 gc (cI (not_sum hr))<|
 gc (kr (run79 (by first|assumption|rfl|(simp;done)|omega|(simp;omega)) (bys_c (ys:=recL v n s) rfl (by kernel_rfl) (by repeat (first|exact lts_nil|refine lts_cons (by omega) ?_))) (by omega) (by omega)) (by kernel_rfl))<|
 gc (by kernel_rfl)<|
 gc (kr (cI (wrE 18446744073709551616 rfl (by omega) (by omega))) (by kernel_rfl))<|
 gc (cI (wrE 256 rfl (by omega) (by omega)))<|
 gc (cI (ofE (by omega)))<|
 gc (kr (cI (wrE 18446744073709551616 rfl (by omega) (by omega))) (by kernel_rfl))<|
 gc (cI (wrE 256 rfl (by omega) (by omega)))<|
 gc (kr (cI (wrE 18446744073709551616 rfl (by omega) (by omega))) (by kernel_rfl))<|
 gc (cI (wrE 256 rfl (by omega) (by omega)))<|
 gc (kr (cI (wrE 18446744073709551616 rfl (by omega) (by omega))) (by kernel_rfl))<|
 gc (cI (wrE 256 rfl (by omega) (by omega)))<|
 gc (kr (cI (wrE 18446744073709551616 rfl (by omega) (by omega))) (by kernel_rfl))<|
 gc (kr (cI (wrE 18446744073709551616 rfl (by omega) (by omega))) (by kernel_rfl))<|
 gc (cI (wrE 256 rfl (by omega) (by omega)))<|
 gc (cI (ofE (by omega)))<|
 gc (kr (cI (wrE 18446744073709551616 rfl (by omega) (by omega))) (by kernel_rfl))<|
 gc (cI (wrE 256 rfl (by omega) (by omega)))<|
 gc (kr (cI (wrE 18446744073709551616 rfl (by omega) (by omega))) (by kernel_rfl))<|
 gc (cI (wrE 256 rfl (by omega) (by omega)))<|
 gc (kr (cI (wrE 18446744073709551616 rfl (by omega) (by omega))) (by kernel_rfl))<|
 gc (cI (wrE 256 rfl (by omega) (by omega)))<|
 gc (kr (cI (wrE 18446744073709551616 rfl (by omega) (by omega))) (by kernel_rfl))<|
 gc (kr (cI (wrE 18446744073709551616 rfl (by omega) (by omega))) (by kernel_rfl))<|
 gc (cI (wrE 256 rfl (by omega) (by omega)))<|
 gc (cI (ofE (by omega)))<|
 gc (kr (cI (wrE 18446744073709551616 rfl (by omega) (by omega))) (by kernel_rfl))<|
 gc (cI (wrE 256 rfl (by omega) (by omega)))<|
 gc (kr (cI (wrE 18446744073709551616 rfl (by omega) (by omega))) (by kernel_rfl))<|
 gc (cI (wrE 256 rfl (by omega) (by omega)))<|
 gc (kr (cI (wrE 18446744073709551616 rfl (by omega) (by omega))) (by kernel_rfl))<|
 gc (cI (wrE 256 rfl (by omega) (by omega)))<|
 gc (kr (cI (wrE 18446744073709551616 rfl (by omega) (by omega))) (by kernel_rfl))<|
 gc (by kernel_rfl)<|
 gc (kr (cB (congrArg (fun z=>!z) (ltF (by omega):ilt (Int.ofNat 16777216) (Int.ofNat n)=false))) (by kernel_rfl))<|
 gc (cB (congrArg (fun z=>!z) (ltF (by omega):ilt (Int.ofNat 2147483647) (Int.ofNat v)=false)))<|
 gc (kr (cB (congrArg (fun z=>!z) (ltF (by omega):ilt (Int.ofNat v) (Int.ofNat 1)=false))) (by kernel_rfl))<|
 gc (by kernel_rfl)<|
 gc (by kernel_rfl)<|
 gc (by kernel_rfl)<|
 gc (by kernel_rfl)<|
 gc (cb (by first|assumption|rfl|(simp;done)|omega|(simp;omega)) (bys_fill (m:=4) (by omega) (by kernel_rfl:AH.get (E25) (495)=some F10)))<|
 gc (slU_k rfl (vNat_some (by omega)) (by omega) (by omega) (by omega) (by omega) (by omega))<|
 gc (kr (cB (congrArg (fun z=>z) (ltF (by omega):ilt (Int.ofNat pg) (Int.ofNat 43)=false))) (by kernel_rfl))<|
 gc (by kernel_rfl)<|
 gc (by kernel_rfl)<|
 gc (cb (by first|assumption|rfl|(simp;done)|omega|(simp;omega)) (bys_fill (m:=4) (by omega) (by kernel_rfl:AH.get (E21) (494)=some F10)))<|
 gc (slU_k rfl (vNat_some (by omega)) (by omega) (by omega) (by omega) (by omega) (by omega))<|
 gc (kr (cB (congrArg (fun z=>z) (ltF (by omega):ilt (Int.ofNat pg) (Int.ofNat 43)=false))) (by kernel_rfl))<|
 gc (by kernel_rfl)<|
 gc (by kernel_rfl)<|
 gc (by kernel_rfl)<|
 gc (by kernel_rfl)<|
 gc (kr (cB (congrArg (fun z=>!z) (ltF (by omega):ilt (Int.ofNat 16777216) (Int.ofNat n)=false))) (by kernel_rfl))<|
 gc (cB (congrArg (fun z=>!z) (ltF (by omega):ilt (Int.ofNat 2147483647) (Int.ofNat v)=false)))<|
 gc (kr (cB (congrArg (fun z=>!z) (ltF (by omega):ilt (Int.ofNat v) (Int.ofNat 1)=false))) (by kernel_rfl))<|
 gc (cI (not_sum hs))<|
 gc (kr (runI hia (by first|assumption|rfl|(simp;done)|omega|(simp;omega)) (bys_im hb (by kernel_rfl:AH.get (E2) (0)=some F6)) (by omega) (by omega)) (by kernel_rfl))<|
 gc (kr (c13 (bys_im hb (by kernel_rfl)) (Nat.lt_of_lt_of_le Nat.zero_lt_one (Nat.le_of_ble_eq_true (by kernel_rfl))) (by kernel_rfl)) (by kernel_rfl))<|
 gn
def p5_end:AH:=AH.mk 654 (.node (some (im xs)) (.node (some (shB pg k)) (.node (some B0) (.node (some B89) (.node none (.node (some B97) (.node none (.node (some B18) (.node none (.node (some F8) .leaf .leaf) .leaf) .leaf) (.node (some B34) (.node none (.node none .leaf .leaf) .leaf) .leaf)) (.node none (.node (some B13) (.node (some B98) (.node (some F31) .leaf .leaf) .leaf) (.node (some B99) .leaf .leaf)) (.node (some B100) (.node none (.node (some F69) .leaf .leaf) .leaf) .leaf))) (.node none (.node none (.node none (.node (some B54) (.node (some F14) .leaf .leaf) .leaf) .leaf) (.node none (.node none (.node none .leaf .leaf) .leaf) .leaf)) (.node none (.node (some B30) (.node none (.node (some F47) .leaf .leaf) .leaf) .leaf) (.node none .leaf (.node (some (oBl pg)) .leaf .leaf))))) (.node none (.node (some B12) (.node none (.node none (.node none (.node (some F14) .leaf .leaf) .leaf) .leaf) (.node (some B101) (.node (some B50) (.node (some F14) .leaf .leaf) .leaf) (.node (some B102) .leaf .leaf))) (.node none (.node none (.node none (.node none .leaf .leaf) .leaf) .leaf) (.node (some B103) .leaf .leaf))) (.node none (.node none (.node none (.node none (.node (some F99) .leaf .leaf) .leaf) .leaf) (.node none (.node (some B104) (.node none .leaf .leaf) .leaf) .leaf)) (.node none (.node none (.node none (.node (some F14) .leaf .leaf) .leaf) .leaf) (.node none (.node (some B105) (.node (some F79) .leaf .leaf) .leaf) (.node (some F102) .leaf .leaf)))))) (.node none (.node none (.node (some B13) (.node none (.node none (.node (some B106) (.node (some F7) .leaf .leaf) .leaf) .leaf) (.node (some B107) (.node none (.node (some F14) .leaf .leaf) .leaf) .leaf)) (.node none (.node (some B25) (.node none (.node none .leaf .leaf) .leaf) .leaf) (.node (some B42) (.node (some B50) .leaf .leaf) .leaf))) (.node (some B16) (.node none (.node none (.node none (.node (some F14) .leaf .leaf) .leaf) .leaf) (.node none (.node none (.node (some F57) .leaf .leaf) .leaf) (.node (some B88) .leaf .leaf))) (.node none (.node none (.node none (.node (some F51) .leaf .leaf) .leaf) .leaf) (.node (some B46) (.node (some B71) .leaf .leaf) (.node (some F9) .leaf .leaf))))) (.node none (.node none (.node (some B93) (.node none (.node none (.node (some F14) .leaf .leaf) .leaf) .leaf) (.node none (.node none (.node none .leaf .leaf) .leaf) .leaf)) (.node none (.node none (.node (some B64) (.node (some F43) .leaf .leaf) .leaf) (.node none .leaf .leaf)) (.node none .leaf (.node (some (oPgs 492 pg k)) .leaf .leaf)))) (.node none (.node none (.node (some B12) (.node none (.node (some F27) .leaf .leaf) .leaf) .leaf) (.node none (.node none (.node none .leaf .leaf) .leaf) .leaf)) (.node none (.node none (.node (some B100) (.node none .leaf .leaf) .leaf) .leaf) (.node none .leaf (.node (some F8) .leaf .leaf))))))) (.node (some B23) (.node none (.node none (.node (some B11) (.node none (.node none (.node (some B48) (.node (some F9) .leaf .leaf) .leaf) .leaf) (.node none (.node none (.node (some F57) .leaf .leaf) .leaf) .leaf)) (.node (some B12) (.node (some B11) (.node none (.node (some F33) .leaf .leaf) .leaf) .leaf) (.node (some B108) (.node none (.node (some F72) .leaf .leaf) .leaf) .leaf))) (.node none (.node none (.node none (.node (some B101) (.node (some F14) .leaf .leaf) .leaf) .leaf) (.node none (.node none (.node none .leaf .leaf) .leaf) .leaf)) (.node none (.node none (.node none (.node (some F49) .leaf .leaf) .leaf) .leaf) (.node none (.node (some B48) .leaf .leaf) (.node (some F7) .leaf .leaf))))) (.node (some B8) (.node none (.node none (.node none (.node none (.node (some F14) .leaf .leaf) .leaf) .leaf) (.node (some B36) (.node (some B108) (.node (some F14) .leaf .leaf) .leaf) .leaf)) (.node none (.node none (.node none (.node none .leaf .leaf) .leaf) .leaf) (.node none .leaf (.node (some B94) .leaf .leaf)))) (.node none (.node none (.node none (.node none (.node (some F25) .leaf .leaf) .leaf) .leaf) (.node (some B40) (.node none (.node none .leaf .leaf) .leaf) .leaf)) (.node none (.node none (.node (some B48) (.node none .leaf .leaf) .leaf) (.node (some B16) .leaf .leaf)) (.node none .leaf (.node (some F102) .leaf .leaf)))))) (.node none (.node none (.node (some B12) (.node none (.node none (.node none (.node (some F12) .leaf .leaf) .leaf) .leaf) (.node (some B106) (.node none (.node (some F14) .leaf .leaf) .leaf) (.node (some B86) .leaf .leaf))) (.node none (.node (some B27) (.node none (.node none .leaf .leaf) .leaf) .leaf) (.node (some B43) (.node (some B109) .leaf .leaf) .leaf))) (.node none (.node none (.node none (.node none (.node none .leaf .leaf) .leaf) .leaf) (.node none (.node (some B50) (.node (some F14) .leaf .leaf) .leaf) .leaf)) (.node none (.node none (.node none (.node none .leaf .leaf) .leaf) .leaf) (.node (some B107) (.node (some B75) (.node (some F76) .leaf .leaf) .leaf) (.node (some F9) .leaf .leaf))))) (.node (some B97) (.node none (.node none (.node none (.node none (.node (some F14) .leaf .leaf) .leaf) (.node none (.node (some F80) .leaf .leaf) .leaf)) (.node none (.node none (.node none .leaf .leaf) .leaf) .leaf)) (.node (some B20) (.node none (.node (some B110) (.node (some F45) .leaf .leaf) .leaf) .leaf) (.node none .leaf (.node (some F128) .leaf .leaf)))) (.node none (.node none (.node (some B12) (.node (some B59) (.node (some F29) .leaf .leaf) .leaf) (.node (some B16) .leaf .leaf)) (.node (some B110) (.node none (.node none .leaf .leaf) .leaf) .leaf)) (.node none (.node none (.node none (.node none .leaf .leaf) .leaf) .leaf) (.node none .leaf (.node (some F8) .leaf .leaf)))))))) (.node (some B0) (.node (some B1) (.node none (.node (some B6) (.node (some B13) (.node none (.node none (.node none (.node (some F8) .leaf .leaf) .leaf) .leaf) (.node none (.node none (.node (some F14) .leaf .leaf) .leaf) .leaf)) (.node (some B12) (.node (some B13) (.node none (.node none .leaf .leaf) .leaf) .leaf) (.node (some B39) (.node none (.node (some F70) .leaf .leaf) .leaf) (.node (some B111) .leaf .leaf)))) (.node none (.node none (.node none (.node none (.node none .leaf .leaf) .leaf) .leaf) (.node none (.node none (.node (some F14) .leaf .leaf) .leaf) .leaf)) (.node none (.node (some B98) (.node none (.node none .leaf .leaf) .leaf) .leaf) (.node none .leaf (.node (some F5) .leaf .leaf))))) (.node none (.node none (.node none (.node none (.node none (.node none .leaf .leaf) .leaf) .leaf) (.node none (.node none (.node none .leaf .leaf) .leaf) .leaf)) (.node none (.node none (.node none (.node (some F40) .leaf .leaf) .leaf) .leaf) (.node none .leaf (.node (some B97) .leaf .leaf)))) (.node none (.node none (.node none (.node none (.node (some F14) .leaf .leaf) .leaf) .leaf) (.node none (.node none (.node (some F62) .leaf .leaf) .leaf) .leaf)) (.node none (.node none (.node none (.node (some F25) .leaf .leaf) .leaf) (.node (some B112) .leaf .leaf)) (.node none .leaf (.node (some F9) .leaf .leaf)))))) (.node none (.node none (.node (some B97) (.node (some B92) (.node none (.node none (.node (some F11) .leaf .leaf) .leaf) .leaf) (.node (some B32) (.node none (.node none .leaf .leaf) .leaf) .leaf)) (.node none (.node (some B103) (.node none (.node (some F36) .leaf .leaf) .leaf) .leaf) (.node (some B109) (.node none .leaf .leaf) .leaf))) (.node none (.node none (.node none (.node none (.node (some F21) .leaf .leaf) .leaf) .leaf) (.node none (.node none (.node none .leaf .leaf) .leaf) (.node (some B16) .leaf .leaf))) (.node none (.node none (.node none (.node (some F52) .leaf .leaf) .leaf) .leaf) (.node none (.node none (.node (some F75) .leaf .leaf) .leaf) (.node (some F102) .leaf .leaf))))) (.node (some B11) (.node none (.node none (.node none (.node none (.node none .leaf .leaf) .leaf) .leaf) (.node none (.node none (.node (some F14) .leaf .leaf) .leaf) .leaf)) (.node none (.node (some B28) (.node none (.node none .leaf .leaf) .leaf) (.node (some B16) .leaf .leaf)) (.node none .leaf (.node (some (oAll pg k xs)) .leaf .leaf)))) (.node none (.node none (.node (some B12) (.node none (.node none .leaf .leaf) .leaf) .leaf) (.node (some B37) (.node none (.node (some F66) .leaf .leaf) .leaf) .leaf)) (.node none (.node none (.node none (.node (some F14) .leaf .leaf) .leaf) .leaf) (.node none .leaf (.node (some F8) .leaf .leaf))))))) (.node (some B79) (.node none (.node none (.node (some B97) (.node none (.node none (.node none (.node (some F9) .leaf .leaf) .leaf) .leaf) (.node (some B31) (.node none (.node none .leaf .leaf) .leaf) .leaf)) (.node (some B12) (.node (some B24) (.node none (.node (some F34) .leaf .leaf) .leaf) .leaf) (.node none (.node none (.node none .leaf .leaf) .leaf) .leaf))) (.node (some B20) (.node none (.node none (.node none (.node none .leaf .leaf) .leaf) .leaf) (.node none (.node none (.node (some F14) .leaf .leaf) .leaf) .leaf)) (.node none (.node none (.node none (.node none .leaf .leaf) .leaf) .leaf) (.node none (.node none .leaf .leaf) (.node (some F102) .leaf .leaf))))) (.node (some B10) (.node none (.node none (.node none (.node none (.node none .leaf .leaf) .leaf) .leaf) (.node (some B104) (.node none (.node (some F57) .leaf .leaf) .leaf) .leaf)) (.node none (.node none (.node none (.node (some F42) .leaf .leaf) .leaf) .leaf) (.node none .leaf (.node (some F78) .leaf .leaf)))) (.node none (.node none (.node none (.node none (.node none .leaf .leaf) .leaf) .leaf) (.node none (.node none (.node (some F64) .leaf .leaf) .leaf) .leaf)) (.node none (.node none (.node none (.node (some F14) .leaf .leaf) .leaf) .leaf) (.node none .leaf (.node (some F8) .leaf .leaf)))))) (.node none (.node none (.node (some B113) (.node none (.node (some B22) (.node none (.node none .leaf .leaf) .leaf) .leaf) (.node (some B33) (.node none (.node none .leaf .leaf) .leaf) (.node (some B102) .leaf .leaf))) (.node none (.node none (.node none (.node (some F38) .leaf .leaf) .leaf) (.node (some B81) .leaf .leaf)) (.node (some B44) .leaf .leaf))) (.node none (.node none (.node none (.node none (.node (some F23) .leaf .leaf) .leaf) .leaf) (.node none (.node none (.node (some F25) .leaf .leaf) .leaf) .leaf)) (.node none (.node none (.node none (.node (some F24) .leaf .leaf) .leaf) .leaf) (.node none (.node (some B76) (.node (some F77) .leaf .leaf) .leaf) (.node (some F7) .leaf .leaf))))) (.node (some B13) (.node none (.node none (.node none (.node none (.node none .leaf .leaf) .leaf) .leaf) (.node none (.node none (.node (some F14) .leaf .leaf) .leaf) (.node (some B87) .leaf .leaf))) (.node (some B21) (.node none (.node none (.node none .leaf .leaf) .leaf) .leaf) (.node none .leaf (.node (some (oBl pg)) .leaf .leaf)))) (.node none (.node none (.node (some B12) (.node none (.node none .leaf .leaf) .leaf) (.node (some B99) .leaf .leaf)) (.node (some B38) (.node none (.node (some F68) .leaf .leaf) .leaf) .leaf)) (.node none (.node none (.node none (.node (some F14) .leaf .leaf) .leaf) .leaf) (.node none .leaf (.node (some F8) .leaf .leaf))))))))) []
theorem p5_endE:E84=p5_end:=by kernel_rfl
end Go.Proofs.YtejgabehfdapjaaGreat.Sym.D
namespace Go.Proofs.YtejgabehfdapjaaGreat.Sym.D
open Go.Den
variable [Inhabited Q]
theorem c4 {H:AH} (hia:IA ia 0 n c) (hp:64≤pg) (hp2:pg≤4096) (hk:1≤k) (hk2:k≤4096) (hn:n≤pg*k) (hm:pg*k≤16777216) (hv:1≤v) (hv2:v≤2147483647) (hsl:s<4294967296) (hrl:r<4294967296) (hx:xs.length=n) (hb:∀ x ∈ xs,x<256) (hs:sumN xs=s) (hr:sumN (recL v n s)=r) (hH:H=mkH 2 [(0,some (im xs)),(1,some (shB pg k))]) :
    orcS envT (tbD pg k n c s v ia xs) BIG 10 (.func (.func 4) ⟨[]⟩ ⟨[]⟩) [.agg ⟨[i64 pg,i64 k]⟩,.slice ia n c,i64 v] H=some (.tuple ⟨[ptr 489 0,i64 0]⟩,p4_end):=by
  subst hH
  have h:=p4 hia hp hp2 hk hk2 hn hm hv hv2 hsl hrl hx hb hs hr
  rw [p4_endE] at h
  exact orcS_of (by kernel_rfl) h
theorem c5 {H:AH} (hia:IA ia 0 n c) (hp:64≤pg) (hp2:pg≤4096) (hk:1≤k) (hk2:k≤4096) (hn:n≤pg*k) (hm:pg*k≤16777216) (hv:1≤v) (hv2:v≤2147483647) (hsl:s<4294967296) (hrl:r<4294967296) (hx:xs.length=n) (hb:∀ x ∈ xs,x<256) (hs:sumN xs=s) (hr:sumN (recL v n s)=r) (hH:H=p4_end) :
    orcS envT (tbD pg k n c s v ia xs) BIG 10 (.func (.func 5) ⟨[]⟩ ⟨[]⟩) [i64 pg,i64 k,.slice ia n c,i64 v] H=some (.tuple ⟨[ptr 653 0,i64 0]⟩,p5_end):=by
  subst hH
  have h:=p5 hia hp hp2 hk hk2 hn hm hv hv2 hsl hrl hx hb hs hr
  rw [p5_endE] at h
  exact orcS_of (by kernel_rfl) h
end Go.Proofs.YtejgabehfdapjaaGreat.Sym.D
