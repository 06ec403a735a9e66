/- The law, where it ends early. Conditions: none. -/
import Derived.Test.YtejgabehfdapjaaGreatMd
set_option maxRecDepth 100000
set_option maxHeartbeats 4000000
namespace Go.Proofs.YtejgabehfdapjaaGreat.Sym.X
open Go.Den
section
variable (pz kz vz:Int) (n c:Nat) (ia:Option Addr) (xs:List Nat)
def ao0:AObj:=(.cells (ofC [(Value.int IntKind.i64 pz),(Value.int IntKind.i64 kz)]) (2) (0))
def ah1:AH:=AH.new ((mkH 1 [(0,some (im xs))])) (ao0 pz kz)
def ah2:AH:=AH.new ((ah1 pz kz xs)) (ao0 pz kz)
def ao1:AObj:=(.cells (ofC [(Value.slice ia n c),(Value.slice none 0 0)]) (2) (0))
def ah3:AH:=AH.new (AH.new ((ah2 pz kz xs)) (ao0 pz kz)) (ao1 n c ia)
def ah4:AH:=AH.wdf (AH.wdf ((ah3 pz kz n c ia xs)) (AH.df ((ah2 pz kz xs)))) (AH.df ((ah1 pz kz xs)))
def ah5:AH:=AH.new ((ah4 pz kz n c ia xs)) (ao1 n c ia)
def ah6:AH:=AH.wdf (AH.wdf ((ah5 pz kz n c ia xs)) (AH.df ((ah4 pz kz n c ia xs)))) (AH.df ((ah4 pz kz n c ia xs)))
def ah7:AH:=AH.wdf ((ah6 pz kz n c ia xs)) (AH.df ((ah6 pz kz n c ia xs)))
def ah8:AH:=AH.mk 38507 (AH.mem ((ah7 pz kz n c ia xs))) []
end
theorem x1_ok (Cs:Nat→Oracle) (pz:Int) (kz:Int) (vz:Int) (n:Nat) (c:Nat) (ia:Option Addr) (xs:List Nat):rySD envT Cs (tbX) BIG 10 [(19,(Value.bool true),some (ah3 pz kz n c ia xs)),
 (65,(Value.bool true),some (ah5 pz kz n c ia xs)),
 (112,(Value.bool true),some (ah8 pz kz n c ia xs))] 3 [(Value.agg (Array.mk [Value.int IntKind.i64 pz,Value.int IntKind.i64 kz])),(Value.slice ia n c),(Value.int IntKind.i64 vz)] (mkH 1 [(0,some (im xs))])=some ((Value.bool true),(ah8 pz kz n c ia xs),
 [Cs (10) (.func (.func 7) ⟨[]⟩ ⟨[]⟩) [] (ah7 pz kz n c ia xs)=some ((Value.bool true),(ah8 pz kz n c ia xs)),
 some (Value.bool (ilt pz (Int.ofNat 64)),(ah5 pz kz n c ia xs))=some ((Value.bool true),(ah5 pz kz n c ia xs)),
 some (Value.bool (ilt pz (Int.ofNat 64)),(ah3 pz kz n c ia xs))=some ((Value.bool true),(ah3 pz kz n c ia xs))]):=by kernel_rfl
theorem x1 (pz kz vz:Int) (n c:Nat) (ia:Option Addr) (xs:List Nat) (hz:pz<64):denG envT (orcS envT (tbX) BIG 10) BIG 3 [(Value.agg (Array.mk [Value.int IntKind.i64 pz,Value.int IntKind.i64 kz])),(Value.slice ia n c),(Value.int IntKind.i64 vz)] (mkH 1 [(0,some (im xs))])=some ((Value.bool true),(ah8 pz kz n c ia xs)):=
 rySD_sound (x1_ok (orcS envT (tbX) BIG) pz kz vz n c ia xs)<|gc (kr (c7) (by kernel_rfl))<|
 gc (kr (cB (congrArg (fun z=>z) (ltTi (by omega):ilt pz (Int.ofNat 64)=true))) (by kernel_rfl))<|
 gc (kr (cB (congrArg (fun z=>z) (ltTi (by omega):ilt pz (Int.ofNat 64)=true))) (by kernel_rfl))<|
 gn
section
variable (kz vz:Int) (pg n c:Nat) (ia:Option Addr) (xs:List Nat)
def bo0:AObj:=(.cells (ofC [(i64 pg),(Value.int IntKind.i64 kz)]) (2) (0))
def bh1:AH:=AH.new ((mkH 1 [(0,some (im xs))])) (bo0 kz pg)
def bh2:AH:=AH.new ((bh1 kz pg xs)) (bo0 kz pg)
def bo1:AObj:=(.cells (ofC [(Value.slice ia n c),(Value.slice none 0 0)]) (2) (0))
def bh3:AH:=AH.new (AH.new ((bh2 kz pg xs)) (bo0 kz pg)) (bo1 n c ia)
def bh4:AH:=AH.wdf (AH.wdf ((bh3 kz pg n c ia xs)) (AH.df ((bh2 kz pg xs)))) (AH.df ((bh1 kz pg xs)))
def bh5:AH:=AH.new ((bh4 kz pg n c ia xs)) (bo1 n c ia)
def bh6:AH:=AH.wdf (AH.wdf ((bh5 kz pg n c ia xs)) (AH.df ((bh4 kz pg n c ia xs)))) (AH.df ((bh4 kz pg n c ia xs)))
def bh7:AH:=AH.wdf ((bh6 kz pg n c ia xs)) (AH.df ((bh6 kz pg n c ia xs)))
def bh8:AH:=AH.mk 38507 (AH.mem ((bh7 kz pg n c ia xs))) []
end
theorem x2_ok (Cs:Nat→Oracle) (kz:Int) (vz:Int) (pg:Nat) (n:Nat) (c:Nat) (ia:Option Addr) (xs:List Nat):rySD envT Cs (tbX) BIG 10 [(19,(Value.bool false),some (bh3 kz pg n c ia xs)),
 (23,(Value.bool true),none),
 (68,(Value.bool false),some (bh5 kz pg n c ia xs)),
 (71,(Value.bool true),none),
 (117,(Value.bool true),some (bh8 kz pg n c ia xs))] 3 [(Value.agg (Array.mk [i64 pg,Value.int IntKind.i64 kz])),(Value.slice ia n c),(Value.int IntKind.i64 vz)] (mkH 1 [(0,some (im xs))])=some ((Value.bool true),(bh8 kz pg n c ia xs),
 [Cs (10) (.func (.func 7) ⟨[]⟩ ⟨[]⟩) [] (bh7 kz pg n c ia xs)=some ((Value.bool true),(bh8 kz pg n c ia xs)),
 some (Value.bool (ilt (Int.ofNat 4096) (Int.ofNat pg)),(bh5 kz pg n c ia xs))=some ((Value.bool true),(bh5 kz pg n c ia xs)),
 some (Value.bool (ilt (Int.ofNat pg) (Int.ofNat 64)),(bh5 kz pg n c ia xs))=some ((Value.bool false),(bh5 kz pg n c ia xs)),
 some (Value.bool (ilt (Int.ofNat 4096) (Int.ofNat pg)),(bh3 kz pg n c ia xs))=some ((Value.bool true),(bh3 kz pg n c ia xs)),
 some (Value.bool (ilt (Int.ofNat pg) (Int.ofNat 64)),(bh3 kz pg n c ia xs))=some ((Value.bool false),(bh3 kz pg n c ia xs))]):=by kernel_rfl
theorem x2 (kz vz:Int) (pg n c:Nat) (ia:Option Addr) (xs:List Nat) (hp:4096<pg):denG envT (orcS envT (tbX) BIG 10) BIG 3 [(Value.agg (Array.mk [i64 pg,Value.int IntKind.i64 kz])),(Value.slice ia n c),(Value.int IntKind.i64 vz)] (mkH 1 [(0,some (im xs))])=some ((Value.bool true),(bh8 kz pg n c ia xs)):=
 rySD_sound (x2_ok (orcS envT (tbX) BIG) kz vz pg n c ia xs)<|gc (kr (c7) (by kernel_rfl))<|
 gc (cB (congrArg (fun z=>z) (ltT (by omega):ilt (Int.ofNat 4096) (Int.ofNat pg)=true)))<|
 gc (kr (cB (congrArg (fun z=>z) (ltF (by omega):ilt (Int.ofNat pg) (Int.ofNat 64)=false))) (by kernel_rfl))<|
 gc (cB (congrArg (fun z=>z) (ltT (by omega):ilt (Int.ofNat 4096) (Int.ofNat pg)=true)))<|
 gc (kr (cB (congrArg (fun z=>z) (ltF (by omega):ilt (Int.ofNat pg) (Int.ofNat 64)=false))) (by kernel_rfl))<|
 gn
section
variable (kz vz:Int) (pg n c:Nat) (ia:Option Addr) (xs:List Nat)
def co0:AObj:=(.cells (ofC [(i64 pg),(Value.int IntKind.i64 kz)]) (2) (0))
def ch1:AH:=AH.new ((mkH 1 [(0,some (im xs))])) (co0 kz pg)
def ch2:AH:=AH.new ((ch1 kz pg xs)) (co0 kz pg)
def co1:AObj:=(.cells (ofC [(Value.slice ia n c),(Value.slice none 0 0)]) (2) (0))
def ch3:AH:=AH.new (AH.new ((ch2 kz pg xs)) (co0 kz pg)) (co1 n c ia)
def ch4:AH:=AH.wdf (AH.wdf ((ch3 kz pg n c ia xs)) (AH.df ((ch2 kz pg xs)))) (AH.df ((ch1 kz pg xs)))
def ch5:AH:=AH.new ((ch4 kz pg n c ia xs)) (co1 n c ia)
def ch6:AH:=AH.wdf (AH.wdf ((ch5 kz pg n c ia xs)) (AH.df ((ch4 kz pg n c ia xs)))) (AH.df ((ch4 kz pg n c ia xs)))
def ch7:AH:=AH.wdf ((ch6 kz pg n c ia xs)) (AH.df ((ch6 kz pg n c ia xs)))
def ch8:AH:=AH.mk 38507 (AH.mem ((ch7 kz pg n c ia xs))) []
end
theorem x3_ok (Cs:Nat→Oracle) (kz:Int) (vz:Int) (pg:Nat) (n:Nat) (c:Nat) (ia:Option Addr) (xs:List Nat):rySD envT Cs (tbX) BIG 10 [(19,(Value.bool false),some (ch3 kz pg n c ia xs)),
 (23,(Value.bool false),none),
 (28,(Value.bool true),none),
 (71,(Value.bool false),some (ch5 kz pg n c ia xs)),
 (74,(Value.bool false),none),
 (78,(Value.bool true),none),
 (122,(Value.bool true),some (ch8 kz pg n c ia xs))] 3 [(Value.agg (Array.mk [i64 pg,Value.int IntKind.i64 kz])),(Value.slice ia n c),(Value.int IntKind.i64 vz)] (mkH 1 [(0,some (im xs))])=some ((Value.bool true),(ch8 kz pg n c ia xs),
 [Cs (10) (.func (.func 7) ⟨[]⟩ ⟨[]⟩) [] (ch7 kz pg n c ia xs)=some ((Value.bool true),(ch8 kz pg n c ia xs)),
 some (Value.bool (ilt kz (Int.ofNat 1)),(ch5 kz pg n c ia xs))=some ((Value.bool true),(ch5 kz pg n c ia xs)),
 some (Value.bool (ilt (Int.ofNat 4096) (Int.ofNat pg)),(ch5 kz pg n c ia xs))=some ((Value.bool false),(ch5 kz pg n c ia xs)),
 some (Value.bool (ilt (Int.ofNat pg) (Int.ofNat 64)),(ch5 kz pg n c ia xs))=some ((Value.bool false),(ch5 kz pg n c ia xs)),
 some (Value.bool (ilt kz (Int.ofNat 1)),(ch3 kz pg n c ia xs))=some ((Value.bool true),(ch3 kz pg n c ia xs)),
 some (Value.bool (ilt (Int.ofNat 4096) (Int.ofNat pg)),(ch3 kz pg n c ia xs))=some ((Value.bool false),(ch3 kz pg n c ia xs)),
 some (Value.bool (ilt (Int.ofNat pg) (Int.ofNat 64)),(ch3 kz pg n c ia xs))=some ((Value.bool false),(ch3 kz pg n c ia xs))]):=by kernel_rfl
theorem x3 (kz vz:Int) (pg n c:Nat) (ia:Option Addr) (xs:List Nat) (hp:64≤pg) (hp2:pg≤4096) (hz:kz<1):denG envT (orcS envT (tbX) BIG 10) BIG 3 [(Value.agg (Array.mk [i64 pg,Value.int IntKind.i64 kz])),(Value.slice ia n c),(Value.int IntKind.i64 vz)] (mkH 1 [(0,some (im xs))])=some ((Value.bool true),(ch8 kz pg n c ia xs)):=
 rySD_sound (x3_ok (orcS envT (tbX) BIG) kz vz pg n c ia xs)<|gc (kr (c7) (by kernel_rfl))<|
 gc (cB (congrArg (fun z=>z) (ltTi (by omega):ilt kz (Int.ofNat 1)=true)))<|
 gc (cB (congrArg (fun z=>z) (ltF (by omega):ilt (Int.ofNat 4096) (Int.ofNat pg)=false)))<|
 gc (kr (cB (congrArg (fun z=>z) (ltF (by omega):ilt (Int.ofNat pg) (Int.ofNat 64)=false))) (by kernel_rfl))<|
 gc (cB (congrArg (fun z=>z) (ltTi (by omega):ilt kz (Int.ofNat 1)=true)))<|
 gc (cB (congrArg (fun z=>z) (ltF (by omega):ilt (Int.ofNat 4096) (Int.ofNat pg)=false)))<|
 gc (kr (cB (congrArg (fun z=>z) (ltF (by omega):ilt (Int.ofNat pg) (Int.ofNat 64)=false))) (by kernel_rfl))<|
 gn
section
variable (vz:Int) (pg k n c:Nat) (ia:Option Addr) (xs:List Nat)
def do0:AObj:=(.cells (ofC [(i64 pg),(i64 k)]) (2) (0))
def dh1:AH:=AH.new ((mkH 1 [(0,some (im xs))])) (do0 pg k)
def dh2:AH:=AH.new ((dh1 pg k xs)) (do0 pg k)
def do1:AObj:=(.cells (ofC [(Value.slice ia n c),(Value.slice none 0 0)]) (2) (0))
def dh3:AH:=AH.new (AH.new ((dh2 pg k xs)) (do0 pg k)) (do1 n c ia)
def dh4:AH:=AH.wdf (AH.wdf ((dh3 pg k n c ia xs)) (AH.df ((dh2 pg k xs)))) (AH.df ((dh1 pg k xs)))
def dh5:AH:=AH.new ((dh4 pg k n c ia xs)) (do1 n c ia)
def dh6:AH:=AH.wdf (AH.wdf ((dh5 pg k n c ia xs)) (AH.df ((dh4 pg k n c ia xs)))) (AH.df ((dh4 pg k n c ia xs)))
def dh7:AH:=AH.wdf ((dh6 pg k n c ia xs)) (AH.df ((dh6 pg k n c ia xs)))
def dh8:AH:=AH.mk 38507 (AH.mem ((dh7 pg k n c ia xs))) []
end
theorem x4_ok (Cs:Nat→Oracle) (vz:Int) (pg:Nat) (k:Nat) (n:Nat) (c:Nat) (ia:Option Addr) (xs:List Nat):rySD envT Cs (tbX) BIG 10 [(19,(Value.bool false),some (dh3 pg k n c ia xs)),
 (23,(Value.bool false),none),
 (28,(Value.bool false),none),
 (33,(Value.bool true),none),
 (74,(Value.bool false),some (dh5 pg k n c ia xs)),
 (77,(Value.bool false),none),
 (81,(Value.bool false),none),
 (85,(Value.bool true),none),
 (127,(Value.bool true),some (dh8 pg k n c ia xs))] 3 [(Value.agg (Array.mk [i64 pg,i64 k])),(Value.slice ia n c),(Value.int IntKind.i64 vz)] (mkH 1 [(0,some (im xs))])=some ((Value.bool true),(dh8 pg k n c ia xs),
 [Cs (10) (.func (.func 7) ⟨[]⟩ ⟨[]⟩) [] (dh7 pg k n c ia xs)=some ((Value.bool true),(dh8 pg k n c ia xs)),
 some (Value.bool (ilt (Int.ofNat 4096) (Int.ofNat k)),(dh5 pg k n c ia xs))=some ((Value.bool true),(dh5 pg k n c ia xs)),
 some (Value.bool (ilt (Int.ofNat k) (Int.ofNat 1)),(dh5 pg k n c ia xs))=some ((Value.bool false),(dh5 pg k n c ia xs)),
 some (Value.bool (ilt (Int.ofNat 4096) (Int.ofNat pg)),(dh5 pg k n c ia xs))=some ((Value.bool false),(dh5 pg k n c ia xs)),
 some (Value.bool (ilt (Int.ofNat pg) (Int.ofNat 64)),(dh5 pg k n c ia xs))=some ((Value.bool false),(dh5 pg k n c ia xs)),
 some (Value.bool (ilt (Int.ofNat 4096) (Int.ofNat k)),(dh3 pg k n c ia xs))=some ((Value.bool true),(dh3 pg k n c ia xs)),
 some (Value.bool (ilt (Int.ofNat k) (Int.ofNat 1)),(dh3 pg k n c ia xs))=some ((Value.bool false),(dh3 pg k n c ia xs)),
 some (Value.bool (ilt (Int.ofNat 4096) (Int.ofNat pg)),(dh3 pg k n c ia xs))=some ((Value.bool false),(dh3 pg k n c ia xs)),
 some (Value.bool (ilt (Int.ofNat pg) (Int.ofNat 64)),(dh3 pg k n c ia xs))=some ((Value.bool false),(dh3 pg k n c ia xs))]):=by kernel_rfl
theorem x4 (vz:Int) (pg k n c:Nat) (ia:Option Addr) (xs:List Nat) (hp:64≤pg) (hp2:pg≤4096) (hk:4096<k):denG envT (orcS envT (tbX) BIG 10) BIG 3 [(Value.agg (Array.mk [i64 pg,i64 k])),(Value.slice ia n c),(Value.int IntKind.i64 vz)] (mkH 1 [(0,some (im xs))])=some ((Value.bool true),(dh8 pg k n c ia xs)):=
 rySD_sound (x4_ok (orcS envT (tbX) BIG) vz pg k n c ia xs)<|gc (kr (c7) (by kernel_rfl))<|
 gc (cB (congrArg (fun z=>z) (ltT (by omega):ilt (Int.ofNat 4096) (Int.ofNat k)=true)))<|
 gc (cB (congrArg (fun z=>z) (ltF (by omega):ilt (Int.ofNat k) (Int.ofNat 1)=false)))<|
 gc (cB (congrArg (fun z=>z) (ltF (by omega):ilt (Int.ofNat 4096) (Int.ofNat pg)=false)))<|
 gc (kr (cB (congrArg (fun z=>z) (ltF (by omega):ilt (Int.ofNat pg) (Int.ofNat 64)=false))) (by kernel_rfl))<|
 gc (cB (congrArg (fun z=>z) (ltT (by omega):ilt (Int.ofNat 4096) (Int.ofNat k)=true)))<|
 gc (cB (congrArg (fun z=>z) (ltF (by omega):ilt (Int.ofNat k) (Int.ofNat 1)=false)))<|
 gc (cB (congrArg (fun z=>z) (ltF (by omega):ilt (Int.ofNat 4096) (Int.ofNat pg)=false)))<|
 gc (kr (cB (congrArg (fun z=>z) (ltF (by omega):ilt (Int.ofNat pg) (Int.ofNat 64)=false))) (by kernel_rfl))<|
 gn
section
variable (vz:Int) (pg k n c:Nat) (ia:Option Addr) (xs:List Nat)
def eo0:AObj:=(.cells (ofC [(i64 pg),(i64 k)]) (2) (0))
def eh1:AH:=AH.new ((mkH 1 [(0,some (im xs))])) (eo0 pg k)
def eh2:AH:=AH.new ((eh1 pg k xs)) (eo0 pg k)
def eo1:AObj:=(.cells (ofC [(Value.slice ia n c),(Value.slice none 0 0)]) (2) (0))
def eh3:AH:=AH.new (AH.new ((eh2 pg k xs)) (eo0 pg k)) (eo1 n c ia)
def eo2:AObj:=(AObj.map [] [] 0)
def eo3:AObj:=(.cells (ofC [(i64 pg),(i64 k),(i64 0),(Value.map (some 5)),(Value.slice none 0 0),(Value.slice none 0 0),(Value.slice none 0 0),(i64 0),(Value.slice none 0 0),(Value.bool false),(Value.map (some 6)),(i64 0)]) (12) (0))
def eh4:AH:=AH.new (AH.new (AH.new ((eh3 pg k n c ia xs)) eo2) eo2) (eo3 pg k)
def eh5:AH:=AH.wdf (AH.wdf ((eh4 pg k n c ia xs)) (AH.df ((eh2 pg k xs)))) (AH.df ((eh1 pg k xs)))
def eh6:AH:=AH.new ((eh5 pg k n c ia xs)) (eo1 n c ia)
def eh7:AH:=AH.wdf (AH.wdf ((eh6 pg k n c ia xs)) (AH.df ((eh5 pg k n c ia xs)))) (AH.df ((eh5 pg k n c ia xs)))
def eh8:AH:=AH.wdf ((eh7 pg k n c ia xs)) (AH.df ((eh7 pg k n c ia xs)))
def eh9:AH:=AH.mk 38510 (AH.mem ((eh8 pg k n c ia xs))) []
end
theorem x5_ok (Cs:Nat→Oracle) (vz:Int) (pg:Nat) (k:Nat) (n:Nat) (c:Nat) (ia:Option Addr) (xs:List Nat):rySD envT Cs (tbX) BIG 10 [(19,(Value.bool false),some (eh3 pg k n c ia xs)),
 (23,(Value.bool false),none),
 (28,(Value.bool false),none),
 (33,(Value.bool false),none),
 (63,(i64 (pg*k)),some (eh4 pg k n c ia xs)),
 (64,(Value.bool true),none),
 (100,(Value.bool false),some (eh6 pg k n c ia xs)),
 (103,(Value.bool false),none),
 (107,(Value.bool false),none),
 (111,(Value.bool false),none),
 (127,(i64 (pg*k)),none),
 (128,(Value.bool true),none),
 (164,(Value.bool true),some (eh9 pg k n c ia xs))] 3 [(Value.agg (Array.mk [i64 pg,i64 k])),(Value.slice ia n c),(Value.int IntKind.i64 vz)] (mkH 1 [(0,some (im xs))])=some ((Value.bool true),(eh9 pg k n c ia xs),
 [Cs (10) (.func (.func 7) ⟨[]⟩ ⟨[]⟩) [] (eh8 pg k n c ia xs)=some ((Value.bool true),(eh9 pg k n c ia xs)),
 some (Value.bool (ilt (Int.ofNat (pg*k)) (Int.ofNat n)),(eh6 pg k n c ia xs))=some ((Value.bool true),(eh6 pg k n c ia xs)),
 some (Value.int IntKind.i64 (wr IntKind.i64 (Int.ofNat (pg*k))),(eh6 pg k n c ia xs))=some ((i64 (pg*k)),(eh6 pg k n c ia xs)),
 some (Value.bool (ilt (Int.ofNat 4096) (Int.ofNat k)),(eh6 pg k n c ia xs))=some ((Value.bool false),(eh6 pg k n c ia xs)),
 some (Value.bool (ilt (Int.ofNat k) (Int.ofNat 1)),(eh6 pg k n c ia xs))=some ((Value.bool false),(eh6 pg k n c ia xs)),
 some (Value.bool (ilt (Int.ofNat 4096) (Int.ofNat pg)),(eh6 pg k n c ia xs))=some ((Value.bool false),(eh6 pg k n c ia xs)),
 some (Value.bool (ilt (Int.ofNat pg) (Int.ofNat 64)),(eh6 pg k n c ia xs))=some ((Value.bool false),(eh6 pg k n c ia xs)),
 some (Value.bool (ilt (Int.ofNat (pg*k)) (Int.ofNat n)),(eh4 pg k n c ia xs))=some ((Value.bool true),(eh4 pg k n c ia xs)),
 some (Value.int IntKind.i64 (wr IntKind.i64 (Int.ofNat (pg*k))),(eh4 pg k n c ia xs))=some ((i64 (pg*k)),(eh4 pg k n c ia xs)),
 some (Value.bool (ilt (Int.ofNat 4096) (Int.ofNat k)),(eh3 pg k n c ia xs))=some ((Value.bool false),(eh3 pg k n c ia xs)),
 some (Value.bool (ilt (Int.ofNat k) (Int.ofNat 1)),(eh3 pg k n c ia xs))=some ((Value.bool false),(eh3 pg k n c ia xs)),
 some (Value.bool (ilt (Int.ofNat 4096) (Int.ofNat pg)),(eh3 pg k n c ia xs))=some ((Value.bool false),(eh3 pg k n c ia xs)),
 some (Value.bool (ilt (Int.ofNat pg) (Int.ofNat 64)),(eh3 pg k n c ia xs))=some ((Value.bool false),(eh3 pg k n c ia xs))]):=by kernel_rfl
theorem x5 (vz:Int) (pg k n c:Nat) (ia:Option Addr) (xs:List Nat) (hp:64≤pg) (hp2:pg≤4096) (hk:1≤k) (hk2:k≤4096) (hm:pg*k≤16777216) (hn:pg*k<n):denG envT (orcS envT (tbX) BIG 10) BIG 3 [(Value.agg (Array.mk [i64 pg,i64 k])),(Value.slice ia n c),(Value.int IntKind.i64 vz)] (mkH 1 [(0,some (im xs))])=some ((Value.bool true),(eh9 pg k n c ia xs)):=
 rySD_sound (x5_ok (orcS envT (tbX) BIG) vz pg k n c ia xs)<|gc (kr (c7) (by kernel_rfl))<|
 gc (cB (congrArg (fun z=>z) (ltT (by omega):ilt (Int.ofNat (pg*k)) (Int.ofNat n)=true)))<|
 gc (cI (wrE 9223372036854775808 rfl (by omega) (by omega)))<|
 gc (cB (congrArg (fun z=>z) (ltF (by omega):ilt (Int.ofNat 4096) (Int.ofNat k)=false)))<|
 gc (cB (congrArg (fun z=>z) (ltF (by omega):ilt (Int.ofNat k) (Int.ofNat 1)=false)))<|
 gc (cB (congrArg (fun z=>z) (ltF (by omega):ilt (Int.ofNat 4096) (Int.ofNat pg)=false)))<|
 gc (kr (cB (congrArg (fun z=>z) (ltF (by omega):ilt (Int.ofNat pg) (Int.ofNat 64)=false))) (by kernel_rfl))<|
 gc (cB (congrArg (fun z=>z) (ltT (by omega):ilt (Int.ofNat (pg*k)) (Int.ofNat n)=true)))<|
 gc (kr (cI (wrE 9223372036854775808 rfl (by omega) (by omega))) (by kernel_rfl))<|
 gc (cB (congrArg (fun z=>z) (ltF (by omega):ilt (Int.ofNat 4096) (Int.ofNat k)=false)))<|
 gc (cB (congrArg (fun z=>z) (ltF (by omega):ilt (Int.ofNat k) (Int.ofNat 1)=false)))<|
 gc (cB (congrArg (fun z=>z) (ltF (by omega):ilt (Int.ofNat 4096) (Int.ofNat pg)=false)))<|
 gc (kr (cB (congrArg (fun z=>z) (ltF (by omega):ilt (Int.ofNat pg) (Int.ofNat 64)=false))) (by kernel_rfl))<|
 gn
end Go.Proofs.YtejgabehfdapjaaGreat.Sym.X
namespace Go.Proofs.YtejgabehfdapjaaGreat.Sym.E
open Go.Den
section
variable (vz:Int) (pg k n c s:Nat) (ia:Option Addr) (xs:List Nat)
def fo0:AObj:=(.cells (ofC [(i64 pg),(i64 k)]) (2) (0))
def fh1:AH:=AH.new ((mkH 1 [(0,some (im xs))])) (fo0 pg k)
def fh2:AH:=AH.new ((fh1 pg k xs)) (fo0 pg k)
def fo1:AObj:=(.cells (ofC [(Value.slice ia n c),(Value.slice none 0 0)]) (2) (0))
def fh3:AH:=AH.new (AH.new ((fh2 pg k xs)) (fo0 pg k)) (fo1 n c ia)
def fo2:AObj:=(AObj.map [] [] 0)
def fo3:AObj:=(.cells (ofC [(i64 pg),(i64 k),(i64 0),(Value.map (some 5)),(Value.slice none 0 0),(Value.slice none 0 0),(Value.slice none 0 0),(i64 0),(Value.slice none 0 0),(Value.bool false),(Value.map (some 6)),(i64 0)]) (12) (0))
def fh4:AH:=AH.new (AH.new (AH.new ((fh3 pg k n c ia xs)) fo2) fo2) (fo3 pg k)
def fh5:AH:=AH.mk 16 (AH.mem ((fh4 pg k n c ia xs))) []
def fo4:AObj:=(.cells (zrep [u8 0] n) (n) (0))
def fh6:AH:=AH.new ((fh5 pg k n c ia xs)) (fo4 n)
def fo5:AObj:=(.ro (PT.ofList (List.map u8 xs) 0 PT.leaf))
def fo6:AObj:=(.cells (PT.puts (zrep [u8 0] n) 0 (List.map u8 xs)) (n) (0))
def fh7:AH:=AH.put ((fh6 pg k n c ia xs)) 16 (some (fo6 n xs))
def fo7:AObj:=(.cells (ofC [(i64 pg),(i64 k),(i64 0),(Value.map (some 5)),(sl 16 0 n n),(Value.slice none 0 0),(Value.slice none 0 0),(i64 0),(Value.slice none 0 0),(Value.bool false),(Value.map (some 6)),(i64 0)]) (12) (0))
def fh8:AH:=AH.put (AH.wdf ((fh7 pg k n c ia xs)) (AH.df ((fh5 pg k n c ia xs)))) 7 (some (fo7 pg k n))
def fh9:AH:=AH.mk 25 (AH.mem ((fh8 pg k n c ia xs))) []
def fo8:AObj:=(.cells (ofC []) (0) (0))
def fo9:AObj:=(.cells (ofC [(i64 pg),(i64 k),(i64 0),(Value.map (some 5)),(sl 16 0 n n),(sl 25 0 0 0),(Value.slice none 0 0),(i64 0),(Value.slice none 0 0),(Value.bool false),(Value.map (some 6)),(i64 0)]) (12) (0))
def fo10:AObj:=(.cells (ofC [(Value.slice ia n c)]) (1) (0))
def fh10:AH:=AH.new (AH.wdf (AH.put (AH.wdf (AH.new ((fh9 pg k n c ia xs)) fo8) (AH.df ((fh9 pg k n c ia xs)))) 7 (some (fo9 pg k n))) (AH.df ((fh2 pg k xs)))) (fo10 n c ia)
def fh11:AH:=AH.mk 28 (AH.mem ((fh10 pg k n c ia xs))) []
def fh12:AH:=AH.wdf ((fh11 pg k n c ia xs)) (AH.df ((fh10 pg k n c ia xs)))
def fo11:AObj:=(.cells (ofC [(i64 0),(Value.int IntKind.i64 vz),(i64 n),(u32 s)]) (4) (0))
def fo12:AObj:=(.cells (ofC [(i64 0),(i64 0),(i64 0),(i64 0),(u32 0),(i64 0),(i64 0),(i64 0),(u32 0),(i64 0)]) (10) (90))
def fh13:AH:=AH.new (AH.new ((fh12 pg k n c ia xs)) (fo11 vz n s)) fo12
def fo13:AObj:=(.cells (ofC [(i64 1),(i64 0),(Value.int IntKind.i64 vz),(i64 n),(u32 s),(i64 0),(i64 0),(i64 0),(u32 0),(i64 0)]) (10) (0))
def fh14:AH:=AH.new (AH.new ((fh13 vz pg k n c s ia xs)) (fo13 vz n s)) fo12
def fh15:AH:=AH.new ((fh14 vz pg k n c s ia xs)) (fo13 vz n s)
def fh16:AH:=AH.new ((fh15 vz pg k n c s ia xs)) (fo11 vz n s)
def fh17:AH:=AH.wdf (AH.wdf ((fh16 vz pg k n c s ia xs)) (AH.df ((fh15 vz pg k n c s ia xs)))) (AH.df ((fh14 vz pg k n c s ia xs)))
def fh18:AH:=stG ((fh17 vz pg k n c s ia xs)) 31 0 [(i64 0),(i64 0),(i64 0),(i64 0),(u32 0),(i64 0),(i64 0),(i64 0),(u32 0),(i64 0)]
def fh19:AH:=AH.wdf ((fh18 vz pg k n c s ia xs)) (AH.df ((fh13 vz pg k n c s ia xs)))
def fh20:AH:=stG ((fh19 vz pg k n c s ia xs)) 29 0 [(i64 0),(i64 0),(i64 0),(i64 0),(u32 0),(i64 0),(i64 0),(i64 0),(u32 0),(i64 0)]
def fh21:AH:=AH.new (AH.wdf ((fh20 vz pg k n c s ia xs)) (AH.df ((fh12 pg k n c ia xs)))) fo12
def fh22:AH:=stG ((fh21 vz pg k n c s ia xs)) 34 0 [(i64 0),(i64 0),(i64 0),(i64 0),(u32 0),(i64 0),(i64 0),(i64 0),(u32 0),(i64 0)]
def fh23:AH:=AH.wdf ((fh22 vz pg k n c s ia xs)) (AH.df ((fh1 pg k xs)))
def fh24:AH:=newHN 35 pg k xs (fh23 vz pg k n c s ia xs)
def fh25:AH:=AH.new ((fh24 vz pg k n c s ia xs)) (fo10 n c ia)
def fh26:AH:=AH.wdf (AH.wdf ((fh25 vz pg k n c s ia xs)) (AH.df ((fh25 vz pg k n c s ia xs)))) (AH.df ((fh24 vz pg k n c s ia xs)))
def fo19:AObj:=(.cells (ofC [(i64 0),(i64 0),(i64 0),(i64 0),(u32 0),(i64 0),(i64 0),(i64 0),(u32 0),(i64 0)]) (10) (118))
def fh27:AH:=AH.new (AH.new ((fh26 vz pg k n c s ia xs)) (fo11 vz n s)) fo19
def fh28:AH:=AH.new (AH.new ((fh27 vz pg k n c s ia xs)) (fo13 vz n s)) fo19
def fh29:AH:=AH.new ((fh28 vz pg k n c s ia xs)) (fo13 vz n s)
def fh30:AH:=AH.wdf ((fh29 vz pg k n c s ia xs)) (AH.df ((fh29 vz pg k n c s ia xs)))
def fh31:AH:=AH.new ((fh30 vz pg k n c s ia xs)) (fo11 vz n s)
def fh32:AH:=AH.wdf ((fh31 vz pg k n c s ia xs)) (AH.df ((fh31 vz pg k n c s ia xs)))
def fh33:AH:=AH.wdf (AH.wdf (AH.wdf ((fh32 vz pg k n c s ia xs)) (AH.df ((fh32 vz pg k n c s ia xs)))) (AH.df ((fh30 vz pg k n c s ia xs)))) (AH.df ((fh28 vz pg k n c s ia xs)))
def fh34:AH:=stG ((fh33 vz pg k n c s ia xs)) 45 0 [(i64 0),(i64 0),(i64 0),(i64 0),(u32 0),(i64 0),(i64 0),(i64 0),(u32 0),(i64 0)]
def fh35:AH:=AH.wdf ((fh34 vz pg k n c s ia xs)) (AH.df ((fh27 vz pg k n c s ia xs)))
def fh36:AH:=stG ((fh35 vz pg k n c s ia xs)) 43 0 [(i64 0),(i64 0),(i64 0),(i64 0),(u32 0),(i64 0),(i64 0),(i64 0),(u32 0),(i64 0)]
def fh37:AH:=AH.new (AH.wdf ((fh36 vz pg k n c s ia xs)) (AH.df ((fh26 vz pg k n c s ia xs)))) fo19
def fh38:AH:=stG ((fh37 vz pg k n c s ia xs)) 48 0 [(i64 0),(i64 0),(i64 0),(i64 0),(u32 0),(i64 0),(i64 0),(i64 0),(u32 0),(i64 0)]
def fh39:AH:=AH.wdf ((fh38 vz pg k n c s ia xs)) (AH.df ((fh23 vz pg k n c s ia xs)))
def fh40:AH:=AH.wdf ((fh39 vz pg k n c s ia xs)) (AH.df ((fh39 vz pg k n c s ia xs)))
def fh41:AH:=AH.mk 38550 (AH.mem ((fh40 vz pg k n c s ia xs))) []
end
theorem x6_ok (Cs:Nat→Oracle) (vz:Int) (pg:Nat) (k:Nat) (n:Nat) (c:Nat) (s:Nat) (ia:Option Addr) (xs:List Nat):rySD envT Cs (tbE pg k n c ia xs) BIG 10 [(19,(Value.bool false),some (fh3 pg k n c ia xs)),
 (23,(Value.bool false),none),
 (28,(Value.bool false),none),
 (33,(Value.bool false),none),
 (63,(i64 (pg*k)),some (fh4 pg k n c ia xs)),
 (64,(Value.bool false),none),
 (72,(sl 16 0 n n),some (fh6 pg k n c ia xs)),
 (76,(i64 n),some (fh7 pg k n c ia xs)),
 (96,(i64 (pg*k)),some (fh8 pg k n c ia xs)),
 (146,(u32 (refN 4294967295 xs)),some (fh11 pg k n c ia xs)),
 (152,(u32 s),none),
 (195,(Value.bool false),some (fh16 vz pg k n c s ia xs)),
 (216,(Value.tuple (Array.mk [])),some (fh18 vz pg k n c s ia xs)),
 (220,(Value.tuple (Array.mk [])),some (fh20 vz pg k n c s ia xs)),
 (226,(Value.tuple (Array.mk [])),some (fh22 vz pg k n c s ia xs)),
 (251,(Value.tuple (Array.mk [ptr 35 0,i64 0])),some (fh24 vz pg k n c s ia xs)),
 (280,(u32 (refN 4294967295 xs)),some (fh25 vz pg k n c s ia xs)),
 (290,(u32 s),none),
 (348,(Value.bool false),some (fh32 vz pg k n c s ia xs)),
 (366,(Value.tuple (Array.mk [])),some (fh34 vz pg k n c s ia xs)),
 (370,(Value.tuple (Array.mk [])),some (fh36 vz pg k n c s ia xs)),
 (376,(Value.tuple (Array.mk [])),some (fh38 vz pg k n c s ia xs)),
 (403,(Value.bool true),some (fh41 vz pg k n c s ia xs))] 3 [(Value.agg (Array.mk [i64 pg,i64 k])),(Value.slice ia n c),(Value.int IntKind.i64 vz)] (mkH 1 [(0,some (im xs))])=some ((Value.bool true),(fh41 vz pg k n c s ia xs),
 [Cs (10) (.func (.func 7) ⟨[]⟩ ⟨[]⟩) [] (fh40 vz pg k n c s ia xs)=some ((Value.bool true),(fh41 vz pg k n c s ia xs)),
 ((stN 10 (ptr 48 0) (Value.agg (Array.mk [i64 0,i64 0,i64 0,i64 0,u32 0,i64 0,i64 0,i64 0,u32 0,i64 0])) ((fh37 vz pg k n c s ia xs))).bind fun zh=>some (junk,zh))=some ((Value.tuple (Array.mk [])),(fh38 vz pg k n c s ia xs)),
 ((stN 10 (ptr 43 0) (Value.agg (Array.mk [i64 0,i64 0,i64 0,i64 0,u32 0,i64 0,i64 0,i64 0,u32 0,i64 0])) ((fh35 vz pg k n c s ia xs))).bind fun zh=>some (junk,zh))=some ((Value.tuple (Array.mk [])),(fh36 vz pg k n c s ia xs)),
 ((stN 10 (ptr 45 0) (Value.agg (Array.mk [i64 0,i64 0,i64 0,i64 0,u32 0,i64 0,i64 0,i64 0,u32 0,i64 0])) ((fh33 vz pg k n c s ia xs))).bind fun zh=>some (junk,zh))=some ((Value.tuple (Array.mk [])),(fh34 vz pg k n c s ia xs)),
 some (Value.bool !ilt vz (Int.ofNat 1),(fh32 vz pg k n c s ia xs))=some ((Value.bool false),(fh32 vz pg k n c s ia xs)),
 some (Value.int IntKind.u32 (bitsOf IntKind.u32 Nat.xor (fun x1 x2=>x1 ^^^ x2) (Int.ofNat 4294967295) (Int.ofNat (refN 4294967295 xs))),(fh25 vz pg k n c s ia xs))=some ((u32 s),(fh25 vz pg k n c s ia xs)),
 Cs (7) (Value.func (Fn.func 79) (Array.mk []) (Array.mk [])) [(u32 4294967295),(Value.slice ia n c)] ((fh25 vz pg k n c s ia xs))=some ((u32 (refN 4294967295 xs)),(fh25 vz pg k n c s ia xs)),
 Cs (9) (.func (.func 13) ⟨[]⟩ ⟨[]⟩) [(i64 pg),(i64 k),(i64 0),(Value.agg (Array.mk [Value.slice ia n c,Value.slice none 0 0]))] (fh23 vz pg k n c s ia xs)=some ((Value.tuple (Array.mk [ptr 35 0,i64 0])),(fh24 vz pg k n c s ia xs)),
 ((stN 10 (ptr 34 0) (Value.agg (Array.mk [i64 0,i64 0,i64 0,i64 0,u32 0,i64 0,i64 0,i64 0,u32 0,i64 0])) ((fh21 vz pg k n c s ia xs))).bind fun zh=>some (junk,zh))=some ((Value.tuple (Array.mk [])),(fh22 vz pg k n c s ia xs)),
 ((stN 10 (ptr 29 0) (Value.agg (Array.mk [i64 0,i64 0,i64 0,i64 0,u32 0,i64 0,i64 0,i64 0,u32 0,i64 0])) ((fh19 vz pg k n c s ia xs))).bind fun zh=>some (junk,zh))=some ((Value.tuple (Array.mk [])),(fh20 vz pg k n c s ia xs)),
 ((stN 10 (ptr 31 0) (Value.agg (Array.mk [i64 0,i64 0,i64 0,i64 0,u32 0,i64 0,i64 0,i64 0,u32 0,i64 0])) ((fh17 vz pg k n c s ia xs))).bind fun zh=>some (junk,zh))=some ((Value.tuple (Array.mk [])),(fh18 vz pg k n c s ia xs)),
 some (Value.bool !ilt vz (Int.ofNat 1),(fh16 vz pg k n c s ia xs))=some ((Value.bool false),(fh16 vz pg k n c s ia xs)),
 some (Value.int IntKind.u32 (bitsOf IntKind.u32 Nat.xor (fun x1 x2=>x1 ^^^ x2) (Int.ofNat 4294967295) (Int.ofNat (refN 4294967295 xs))),(fh11 pg k n c ia xs))=some ((u32 s),(fh11 pg k n c ia xs)),
 Cs (8) (Value.func (Fn.func 37) (Array.mk []) (Array.mk [])) [(u32 4294967295),(Value.slice ia n c)] ((fh10 pg k n c ia xs))=some ((u32 (refN 4294967295 xs)),(fh11 pg k n c ia xs)),
 some (Value.int IntKind.i64 (wr IntKind.i64 (Int.ofNat (pg*k))),(fh8 pg k n c ia xs))=some ((i64 (pg*k)),(fh8 pg k n c ia xs)),
 hCopy 1 (sl 16 0 n n) (Value.slice ia n c) ((fh6 pg k n c ia xs))=some ((i64 n),(fh7 pg k n c ia xs)),
 hMk 1 [u8 0] (i64 n) (i64 n) ((fh5 pg k n c ia xs))=some ((sl 16 0 n n),(fh6 pg k n c ia xs)),
 some (Value.bool (ilt (Int.ofNat (pg*k)) (Int.ofNat n)),(fh4 pg k n c ia xs))=some ((Value.bool false),(fh4 pg k n c ia xs)),
 some (Value.int IntKind.i64 (wr IntKind.i64 (Int.ofNat (pg*k))),(fh4 pg k n c ia xs))=some ((i64 (pg*k)),(fh4 pg k n c ia xs)),
 some (Value.bool (ilt (Int.ofNat 4096) (Int.ofNat k)),(fh3 pg k n c ia xs))=some ((Value.bool false),(fh3 pg k n c ia xs)),
 some (Value.bool (ilt (Int.ofNat k) (Int.ofNat 1)),(fh3 pg k n c ia xs))=some ((Value.bool false),(fh3 pg k n c ia xs)),
 some (Value.bool (ilt (Int.ofNat 4096) (Int.ofNat pg)),(fh3 pg k n c ia xs))=some ((Value.bool false),(fh3 pg k n c ia xs)),
 some (Value.bool (ilt (Int.ofNat pg) (Int.ofNat 64)),(fh3 pg k n c ia xs))=some ((Value.bool false),(fh3 pg k n c ia xs))]):=by kernel_rfl
theorem x6 (vz:Int) (pg k n c s:Nat) (ia:Option Addr) (xs:List Nat) (hia:IA ia 0 n c) (hp:64≤pg) (hp2:pg≤4096) (hk:1≤k) (hk2:k≤4096) (hm:pg*k≤16777216) (hn:n≤pg*k) (hx:xs.length=n) (hb:∀ x ∈ xs,x<256) (hsl:s<4294967296) (hs:sumN xs=s) (hz:vz<1):denG envT (orcS envT (tbE pg k n c ia xs) BIG 10) BIG 3 [(Value.agg (Array.mk [i64 pg,i64 k])),(Value.slice ia n c),(Value.int IntKind.i64 vz)] (mkH 1 [(0,some (im xs))])=some ((Value.bool true),(fh41 vz pg k n c s ia xs)):=
 rySD_sound (x6_ok (orcS envT (tbE pg k n c ia xs) BIG) vz pg k n c s ia xs)<|gc (kr (c7) (by kernel_rfl))<|
 gc (by kernel_rfl)<|
 gc (by kernel_rfl)<|
 gc (by kernel_rfl)<|
 gc (kr (cB (congrArg (fun z=>!z) (ltTi (by omega):ilt vz (Int.ofNat 1)=true))) (by kernel_rfl))<|
 gc (cI (not_sum hs))<|
 gc (kr (runI hia (by first|assumption|rfl|(simp;done)|omega|(simp;omega)) (bys_im hb (by kernel_rfl:AH.get ((fh25 vz pg k n c s ia xs)) (0)=some (fo5 xs))) (by omega) (by omega)) (by kernel_rfl))<|
 gc (kr (c13 (bys_im hb (by kernel_rfl)) (Nat.lt_of_lt_of_le Nat.zero_lt_one (Nat.le_of_ble_eq_true (by kernel_rfl))) (by kernel_rfl)) (by kernel_rfl))<|
 gc (by kernel_rfl)<|
 gc (by kernel_rfl)<|
 gc (by kernel_rfl)<|
 gc (kr (cB (congrArg (fun z=>!z) (ltTi (by omega):ilt vz (Int.ofNat 1)=true))) (by kernel_rfl))<|
 gc (cI (not_sum hs))<|
 gc (kr (thrI hia (by first|assumption|rfl|(simp;done)|omega|(simp;omega)) (bys_im hb (by kernel_rfl:AH.get ((fh10 pg k n c ia xs)) (0)=some (fo5 xs))) (by omega) (by omega)) (by kernel_rfl))<|
 gc (kr (cI (wrE 9223372036854775808 rfl (by omega) (by omega))) (by kernel_rfl))<|
 gc (kr (cpyI hia (by first|assumption|rfl|(simp;done)|omega|(simp;omega)) (by omega) (bys_im hb (by kernel_rfl:AH.get ((fh6 pg k n c ia xs)) (0)=some (fo5 xs))) (by kernel_rfl:AH.get ((fh6 pg k n c ia xs)) (16)=some (fo4 n)) (has_zrep (by omega))) (by kernel_rfl))<|
 gc (kr (mkS' (by omega) (by omega)) (by kernel_rfl))<|
 gc (cB (congrArg (fun z=>z) (ltF (by omega):ilt (Int.ofNat (pg*k)) (Int.ofNat n)=false)))<|
 gc (kr (cI (wrE 9223372036854775808 rfl (by omega) (by omega))) (by kernel_rfl))<|
 gc (cB (congrArg (fun z=>z) (ltF (by omega):ilt (Int.ofNat 4096) (Int.ofNat k)=false)))<|
 gc (cB (congrArg (fun z=>z) (ltF (by omega):ilt (Int.ofNat k) (Int.ofNat 1)=false)))<|
 gc (cB (congrArg (fun z=>z) (ltF (by omega):ilt (Int.ofNat 4096) (Int.ofNat pg)=false)))<|
 gc (kr (cB (congrArg (fun z=>z) (ltF (by omega):ilt (Int.ofNat pg) (Int.ofNat 64)=false))) (by kernel_rfl))<|
 gn
section
variable (v pg k n c s:Nat) (ia:Option Addr) (xs:List Nat)
def go0:AObj:=(.cells (ofC [(i64 pg),(i64 k)]) (2) (0))
def gh1:AH:=AH.new ((mkH 1 [(0,some (im xs))])) (go0 pg k)
def gh2:AH:=AH.new ((gh1 pg k xs)) (go0 pg k)
def go1:AObj:=(.cells (ofC [(Value.slice ia n c),(Value.slice none 0 0)]) (2) (0))
def gh3:AH:=AH.new (AH.new ((gh2 pg k xs)) (go0 pg k)) (go1 n c ia)
def go2:AObj:=(AObj.map [] [] 0)
def go3:AObj:=(.cells (ofC [(i64 pg),(i64 k),(i64 0),(Value.map (some 5)),(Value.slice none 0 0),(Value.slice none 0 0),(Value.slice none 0 0),(i64 0),(Value.slice none 0 0),(Value.bool false),(Value.map (some 6)),(i64 0)]) (12) (0))
def gh4:AH:=AH.new (AH.new (AH.new ((gh3 pg k n c ia xs)) go2) go2) (go3 pg k)
def gh5:AH:=AH.mk 16 (AH.mem ((gh4 pg k n c ia xs))) []
def go4:AObj:=(.cells (zrep [u8 0] n) (n) (0))
def gh6:AH:=AH.new ((gh5 pg k n c ia xs)) (go4 n)
def go5:AObj:=(.ro (PT.ofList (List.map u8 xs) 0 PT.leaf))
def go6:AObj:=(.cells (PT.puts (zrep [u8 0] n) 0 (List.map u8 xs)) (n) (0))
def gh7:AH:=AH.put ((gh6 pg k n c ia xs)) 16 (some (go6 n xs))
def go7:AObj:=(.cells (ofC [(i64 pg),(i64 k),(i64 0),(Value.map (some 5)),(sl 16 0 n n),(Value.slice none 0 0),(Value.slice none 0 0),(i64 0),(Value.slice none 0 0),(Value.bool false),(Value.map (some 6)),(i64 0)]) (12) (0))
def gh8:AH:=AH.put (AH.wdf ((gh7 pg k n c ia xs)) (AH.df ((gh5 pg k n c ia xs)))) 7 (some (go7 pg k n))
def gh9:AH:=AH.mk 25 (AH.mem ((gh8 pg k n c ia xs))) []
def go8:AObj:=(.cells (ofC []) (0) (0))
def go9:AObj:=(.cells (ofC [(i64 pg),(i64 k),(i64 0),(Value.map (some 5)),(sl 16 0 n n),(sl 25 0 0 0),(Value.slice none 0 0),(i64 0),(Value.slice none 0 0),(Value.bool false),(Value.map (some 6)),(i64 0)]) (12) (0))
def go10:AObj:=(.cells (ofC [(Value.slice ia n c)]) (1) (0))
def gh10:AH:=AH.new (AH.wdf (AH.put (AH.wdf (AH.new ((gh9 pg k n c ia xs)) go8) (AH.df ((gh9 pg k n c ia xs)))) 7 (some (go9 pg k n))) (AH.df ((gh2 pg k xs)))) (go10 n c ia)
def gh11:AH:=AH.mk 28 (AH.mem ((gh10 pg k n c ia xs))) []
def gh12:AH:=AH.wdf ((gh11 pg k n c ia xs)) (AH.df ((gh10 pg k n c ia xs)))
def go11:AObj:=(.cells (ofC [(i64 0),(i64 v),(i64 n),(u32 s)]) (4) (0))
def go12:AObj:=(.cells (ofC [(i64 0),(i64 0),(i64 0),(i64 0),(u32 0),(i64 0),(i64 0),(i64 0),(u32 0),(i64 0)]) (10) (90))
def gh13:AH:=AH.new (AH.new ((gh12 pg k n c ia xs)) (go11 v n s)) go12
def go13:AObj:=(.cells (ofC [(i64 1),(i64 0),(i64 v),(i64 n),(u32 s),(i64 0),(i64 0),(i64 0),(u32 0),(i64 0)]) (10) (0))
def gh14:AH:=AH.new (AH.new ((gh13 v pg k n c s ia xs)) (go13 v n s)) go12
def gh15:AH:=AH.new ((gh14 v pg k n c s ia xs)) (go13 v n s)
def gh16:AH:=AH.new ((gh15 v pg k n c s ia xs)) (go11 v n s)
def gh17:AH:=AH.wdf (AH.wdf ((gh16 v pg k n c s ia xs)) (AH.df ((gh15 v pg k n c s ia xs)))) (AH.df ((gh14 v pg k n c s ia xs)))
def gh18:AH:=stG ((gh17 v pg k n c s ia xs)) 31 0 [(i64 0),(i64 0),(i64 0),(i64 0),(u32 0),(i64 0),(i64 0),(i64 0),(u32 0),(i64 0)]
def gh19:AH:=AH.wdf ((gh18 v pg k n c s ia xs)) (AH.df ((gh13 v pg k n c s ia xs)))
def gh20:AH:=stG ((gh19 v pg k n c s ia xs)) 29 0 [(i64 0),(i64 0),(i64 0),(i64 0),(u32 0),(i64 0),(i64 0),(i64 0),(u32 0),(i64 0)]
def gh21:AH:=AH.new (AH.wdf ((gh20 v pg k n c s ia xs)) (AH.df ((gh12 pg k n c ia xs)))) go12
def gh22:AH:=stG ((gh21 v pg k n c s ia xs)) 34 0 [(i64 0),(i64 0),(i64 0),(i64 0),(u32 0),(i64 0),(i64 0),(i64 0),(u32 0),(i64 0)]
def gh23:AH:=AH.wdf ((gh22 v pg k n c s ia xs)) (AH.df ((gh1 pg k xs)))
def gh24:AH:=newHN 35 pg k xs (gh23 v pg k n c s ia xs)
def gh25:AH:=AH.new ((gh24 v pg k n c s ia xs)) (go10 n c ia)
def gh26:AH:=AH.wdf (AH.wdf ((gh25 v pg k n c s ia xs)) (AH.df ((gh25 v pg k n c s ia xs)))) (AH.df ((gh24 v pg k n c s ia xs)))
def go19:AObj:=(.cells (ofC [(i64 0),(i64 0),(i64 0),(i64 0),(u32 0),(i64 0),(i64 0),(i64 0),(u32 0),(i64 0)]) (10) (118))
def gh27:AH:=AH.new (AH.new ((gh26 v pg k n c s ia xs)) (go11 v n s)) go19
def gh28:AH:=AH.new (AH.new ((gh27 v pg k n c s ia xs)) (go13 v n s)) go19
def gh29:AH:=AH.new ((gh28 v pg k n c s ia xs)) (go13 v n s)
def gh30:AH:=AH.wdf ((gh29 v pg k n c s ia xs)) (AH.df ((gh29 v pg k n c s ia xs)))
def gh31:AH:=AH.new ((gh30 v pg k n c s ia xs)) (go11 v n s)
def gh32:AH:=AH.wdf ((gh31 v pg k n c s ia xs)) (AH.df ((gh31 v pg k n c s ia xs)))
def gh33:AH:=AH.wdf (AH.wdf (AH.wdf ((gh32 v pg k n c s ia xs)) (AH.df ((gh32 v pg k n c s ia xs)))) (AH.df ((gh30 v pg k n c s ia xs)))) (AH.df ((gh28 v pg k n c s ia xs)))
def gh34:AH:=stG ((gh33 v pg k n c s ia xs)) 45 0 [(i64 0),(i64 0),(i64 0),(i64 0),(u32 0),(i64 0),(i64 0),(i64 0),(u32 0),(i64 0)]
def gh35:AH:=AH.wdf ((gh34 v pg k n c s ia xs)) (AH.df ((gh27 v pg k n c s ia xs)))
def gh36:AH:=stG ((gh35 v pg k n c s ia xs)) 43 0 [(i64 0),(i64 0),(i64 0),(i64 0),(u32 0),(i64 0),(i64 0),(i64 0),(u32 0),(i64 0)]
def gh37:AH:=AH.new (AH.wdf ((gh36 v pg k n c s ia xs)) (AH.df ((gh26 v pg k n c s ia xs)))) go19
def gh38:AH:=stG ((gh37 v pg k n c s ia xs)) 48 0 [(i64 0),(i64 0),(i64 0),(i64 0),(u32 0),(i64 0),(i64 0),(i64 0),(u32 0),(i64 0)]
def gh39:AH:=AH.wdf ((gh38 v pg k n c s ia xs)) (AH.df ((gh23 v pg k n c s ia xs)))
def gh40:AH:=AH.wdf ((gh39 v pg k n c s ia xs)) (AH.df ((gh39 v pg k n c s ia xs)))
def gh41:AH:=AH.mk 38550 (AH.mem ((gh40 v pg k n c s ia xs))) []
end
theorem x7_ok (Cs:Nat→Oracle) (v:Nat) (pg:Nat) (k:Nat) (n:Nat) (c:Nat) (s:Nat) (ia:Option Addr) (xs:List Nat):rySD envT Cs (tbE pg k n c ia xs) BIG 10 [(19,(Value.bool false),some (gh3 pg k n c ia xs)),
 (23,(Value.bool false),none),
 (28,(Value.bool false),none),
 (33,(Value.bool false),none),
 (63,(i64 (pg*k)),some (gh4 pg k n c ia xs)),
 (64,(Value.bool false),none),
 (72,(sl 16 0 n n),some (gh6 pg k n c ia xs)),
 (76,(i64 n),some (gh7 pg k n c ia xs)),
 (96,(i64 (pg*k)),some (gh8 pg k n c ia xs)),
 (146,(u32 (refN 4294967295 xs)),some (gh11 pg k n c ia xs)),
 (152,(u32 s),none),
 (195,(Value.bool true),some (gh16 v pg k n c s ia xs)),
 (200,(Value.bool false),none),
 (219,(Value.tuple (Array.mk [])),some (gh18 v pg k n c s ia xs)),
 (223,(Value.tuple (Array.mk [])),some (gh20 v pg k n c s ia xs)),
 (229,(Value.tuple (Array.mk [])),some (gh22 v pg k n c s ia xs)),
 (254,(Value.tuple (Array.mk [ptr 35 0,i64 0])),some (gh24 v pg k n c s ia xs)),
 (283,(u32 (refN 4294967295 xs)),some (gh25 v pg k n c s ia xs)),
 (293,(u32 s),none),
 (351,(Value.bool true),some (gh32 v pg k n c s ia xs)),
 (355,(Value.bool false),none),
 (372,(Value.tuple (Array.mk [])),some (gh34 v pg k n c s ia xs)),
 (376,(Value.tuple (Array.mk [])),some (gh36 v pg k n c s ia xs)),
 (382,(Value.tuple (Array.mk [])),some (gh38 v pg k n c s ia xs)),
 (409,(Value.bool true),some (gh41 v pg k n c s ia xs))] 3 [(Value.agg (Array.mk [i64 pg,i64 k])),(Value.slice ia n c),(i64 v)] (mkH 1 [(0,some (im xs))])=some ((Value.bool true),(gh41 v pg k n c s ia xs),
 [Cs (10) (.func (.func 7) ⟨[]⟩ ⟨[]⟩) [] (gh40 v pg k n c s ia xs)=some ((Value.bool true),(gh41 v pg k n c s ia xs)),
 ((stN 10 (ptr 48 0) (Value.agg (Array.mk [i64 0,i64 0,i64 0,i64 0,u32 0,i64 0,i64 0,i64 0,u32 0,i64 0])) ((gh37 v pg k n c s ia xs))).bind fun zh=>some (junk,zh))=some ((Value.tuple (Array.mk [])),(gh38 v pg k n c s ia xs)),
 ((stN 10 (ptr 43 0) (Value.agg (Array.mk [i64 0,i64 0,i64 0,i64 0,u32 0,i64 0,i64 0,i64 0,u32 0,i64 0])) ((gh35 v pg k n c s ia xs))).bind fun zh=>some (junk,zh))=some ((Value.tuple (Array.mk [])),(gh36 v pg k n c s ia xs)),
 ((stN 10 (ptr 45 0) (Value.agg (Array.mk [i64 0,i64 0,i64 0,i64 0,u32 0,i64 0,i64 0,i64 0,u32 0,i64 0])) ((gh33 v pg k n c s ia xs))).bind fun zh=>some (junk,zh))=some ((Value.tuple (Array.mk [])),(gh34 v pg k n c s ia xs)),
 some (Value.bool !ilt (Int.ofNat 2147483647) (Int.ofNat v),(gh32 v pg k n c s ia xs))=some ((Value.bool false),(gh32 v pg k n c s ia xs)),
 some (Value.bool !ilt (Int.ofNat v) (Int.ofNat 1),(gh32 v pg k n c s ia xs))=some ((Value.bool true),(gh32 v pg k n c s ia xs)),
 some (Value.int IntKind.u32 (bitsOf IntKind.u32 Nat.xor (fun x1 x2=>x1 ^^^ x2) (Int.ofNat 4294967295) (Int.ofNat (refN 4294967295 xs))),(gh25 v pg k n c s ia xs))=some ((u32 s),(gh25 v pg k n c s ia xs)),
 Cs (7) (Value.func (Fn.func 79) (Array.mk []) (Array.mk [])) [(u32 4294967295),(Value.slice ia n c)] ((gh25 v pg k n c s ia xs))=some ((u32 (refN 4294967295 xs)),(gh25 v pg k n c s ia xs)),
 Cs (9) (.func (.func 13) ⟨[]⟩ ⟨[]⟩) [(i64 pg),(i64 k),(i64 0),(Value.agg (Array.mk [Value.slice ia n c,Value.slice none 0 0]))] (gh23 v pg k n c s ia xs)=some ((Value.tuple (Array.mk [ptr 35 0,i64 0])),(gh24 v pg k n c s ia xs)),
 ((stN 10 (ptr 34 0) (Value.agg (Array.mk [i64 0,i64 0,i64 0,i64 0,u32 0,i64 0,i64 0,i64 0,u32 0,i64 0])) ((gh21 v pg k n c s ia xs))).bind fun zh=>some (junk,zh))=some ((Value.tuple (Array.mk [])),(gh22 v pg k n c s ia xs)),
 ((stN 10 (ptr 29 0) (Value.agg (Array.mk [i64 0,i64 0,i64 0,i64 0,u32 0,i64 0,i64 0,i64 0,u32 0,i64 0])) ((gh19 v pg k n c s ia xs))).bind fun zh=>some (junk,zh))=some ((Value.tuple (Array.mk [])),(gh20 v pg k n c s ia xs)),
 ((stN 10 (ptr 31 0) (Value.agg (Array.mk [i64 0,i64 0,i64 0,i64 0,u32 0,i64 0,i64 0,i64 0,u32 0,i64 0])) ((gh17 v pg k n c s ia xs))).bind fun zh=>some (junk,zh))=some ((Value.tuple (Array.mk [])),(gh18 v pg k n c s ia xs)),
 some (Value.bool !ilt (Int.ofNat 2147483647) (Int.ofNat v),(gh16 v pg k n c s ia xs))=some ((Value.bool false),(gh16 v pg k n c s ia xs)),
 some (Value.bool !ilt (Int.ofNat v) (Int.ofNat 1),(gh16 v pg k n c s ia xs))=some ((Value.bool true),(gh16 v pg k n c s ia xs)),
 some (Value.int IntKind.u32 (bitsOf IntKind.u32 Nat.xor (fun x1 x2=>x1 ^^^ x2) (Int.ofNat 4294967295) (Int.ofNat (refN 4294967295 xs))),(gh11 pg k n c ia xs))=some ((u32 s),(gh11 pg k n c ia xs)),
 Cs (8) (Value.func (Fn.func 37) (Array.mk []) (Array.mk [])) [(u32 4294967295),(Value.slice ia n c)] ((gh10 pg k n c ia xs))=some ((u32 (refN 4294967295 xs)),(gh11 pg k n c ia xs)),
 some (Value.int IntKind.i64 (wr IntKind.i64 (Int.ofNat (pg*k))),(gh8 pg k n c ia xs))=some ((i64 (pg*k)),(gh8 pg k n c ia xs)),
 hCopy 1 (sl 16 0 n n) (Value.slice ia n c) ((gh6 pg k n c ia xs))=some ((i64 n),(gh7 pg k n c ia xs)),
 hMk 1 [u8 0] (i64 n) (i64 n) ((gh5 pg k n c ia xs))=some ((sl 16 0 n n),(gh6 pg k n c ia xs)),
 some (Value.bool (ilt (Int.ofNat (pg*k)) (Int.ofNat n)),(gh4 pg k n c ia xs))=some ((Value.bool false),(gh4 pg k n c ia xs)),
 some (Value.int IntKind.i64 (wr IntKind.i64 (Int.ofNat (pg*k))),(gh4 pg k n c ia xs))=some ((i64 (pg*k)),(gh4 pg k n c ia xs)),
 some (Value.bool (ilt (Int.ofNat 4096) (Int.ofNat k)),(gh3 pg k n c ia xs))=some ((Value.bool false),(gh3 pg k n c ia xs)),
 some (Value.bool (ilt (Int.ofNat k) (Int.ofNat 1)),(gh3 pg k n c ia xs))=some ((Value.bool false),(gh3 pg k n c ia xs)),
 some (Value.bool (ilt (Int.ofNat 4096) (Int.ofNat pg)),(gh3 pg k n c ia xs))=some ((Value.bool false),(gh3 pg k n c ia xs)),
 some (Value.bool (ilt (Int.ofNat pg) (Int.ofNat 64)),(gh3 pg k n c ia xs))=some ((Value.bool false),(gh3 pg k n c ia xs))]):=by kernel_rfl
theorem x7 (v pg k n c s:Nat) (ia:Option Addr) (xs:List Nat) (hia:IA ia 0 n c) (hp:64≤pg) (hp2:pg≤4096) (hk:1≤k) (hk2:k≤4096) (hm:pg*k≤16777216) (hn:n≤pg*k) (hx:xs.length=n) (hb:∀ x ∈ xs,x<256) (hsl:s<4294967296) (hs:sumN xs=s) (hz:2147483647<v):denG envT (orcS envT (tbE pg k n c ia xs) BIG 10) BIG 3 [(Value.agg (Array.mk [i64 pg,i64 k])),(Value.slice ia n c),(i64 v)] (mkH 1 [(0,some (im xs))])=some ((Value.bool true),(gh41 v pg k n c s ia xs)):=
 rySD_sound (x7_ok (orcS envT (tbE pg k n c ia xs) BIG) v pg k n c s ia xs)<|gc (kr (c7) (by kernel_rfl))<|
 gc (by kernel_rfl)<|
 gc (by kernel_rfl)<|
 gc (by kernel_rfl)<|
 gc (cB (congrArg (fun z=>!z) (ltT (by omega):ilt (Int.ofNat 2147483647) (Int.ofNat v)=true)))<|
 gc (kr (cB (congrArg (fun z=>!z) (ltF (by omega):ilt (Int.ofNat v) (Int.ofNat 1)=false))) (by kernel_rfl))<|
 gc (cI (not_sum hs))<|
 gc (kr (runI hia (by first|assumption|rfl|(simp;done)|omega|(simp;omega)) (bys_im hb (by kernel_rfl:AH.get ((gh25 v pg k n c s ia xs)) (0)=some (go5 xs))) (by omega) (by omega)) (by kernel_rfl))<|
 gc (kr (c13 (bys_im hb (by kernel_rfl)) (Nat.lt_of_lt_of_le Nat.zero_lt_one (Nat.le_of_ble_eq_true (by kernel_rfl))) (by kernel_rfl)) (by kernel_rfl))<|
 gc (by kernel_rfl)<|
 gc (by kernel_rfl)<|
 gc (by kernel_rfl)<|
 gc (cB (congrArg (fun z=>!z) (ltT (by omega):ilt (Int.ofNat 2147483647) (Int.ofNat v)=true)))<|
 gc (kr (cB (congrArg (fun z=>!z) (ltF (by omega):ilt (Int.ofNat v) (Int.ofNat 1)=false))) (by kernel_rfl))<|
 gc (cI (not_sum hs))<|
 gc (kr (thrI hia (by first|assumption|rfl|(simp;done)|omega|(simp;omega)) (bys_im hb (by kernel_rfl:AH.get ((gh10 pg k n c ia xs)) (0)=some (go5 xs))) (by omega) (by omega)) (by kernel_rfl))<|
 gc (kr (cI (wrE 9223372036854775808 rfl (by omega) (by omega))) (by kernel_rfl))<|
 gc (kr (cpyI hia (by first|assumption|rfl|(simp;done)|omega|(simp;omega)) (by omega) (bys_im hb (by kernel_rfl:AH.get ((gh6 pg k n c ia xs)) (0)=some (go5 xs))) (by kernel_rfl:AH.get ((gh6 pg k n c ia xs)) (16)=some (go4 n)) (has_zrep (by omega))) (by kernel_rfl))<|
 gc (kr (mkS' (by omega) (by omega)) (by kernel_rfl))<|
 gc (cB (congrArg (fun z=>z) (ltF (by omega):ilt (Int.ofNat (pg*k)) (Int.ofNat n)=false)))<|
 gc (kr (cI (wrE 9223372036854775808 rfl (by omega) (by omega))) (by kernel_rfl))<|
 gc (cB (congrArg (fun z=>z) (ltF (by omega):ilt (Int.ofNat 4096) (Int.ofNat k)=false)))<|
 gc (cB (congrArg (fun z=>z) (ltF (by omega):ilt (Int.ofNat k) (Int.ofNat 1)=false)))<|
 gc (cB (congrArg (fun z=>z) (ltF (by omega):ilt (Int.ofNat 4096) (Int.ofNat pg)=false)))<|
 gc (kr (cB (congrArg (fun z=>z) (ltF (by omega):ilt (Int.ofNat pg) (Int.ofNat 64)=false))) (by kernel_rfl))<|
 gn
end Go.Proofs.YtejgabehfdapjaaGreat.Sym.E
