/- The reference's New and Holds. Conditions: none. -/
import Derived.Test.YtejgabehfdapjaaGreatMb
set_option maxRecDepth 100000
set_option maxHeartbeats 4000000
namespace Go.Proofs.YtejgabehfdapjaaGreat.Sym
open Go.Den
theorem cells3 {H:AH} {b o:Nat} {u v w:Value} (h0:H.cell b o=some u) (h1:H.cell b (o+1)=some v) (h2:H.cell b (o+2)=some w):H.cellsN b o 3=some [u,v,w]:=by
  simp only [AH.cellsN,h0,h1,h2,Option.bind_some,show o+1+1=o+2 from rfl]
theorem room40 {n:Nat} (h:n≤5000):roomOk n 40=true:=by
  unfold roomOk
  rw [ble_t (by omega),ble_t (by omega)] <;> rfl
theorem appN {e b c:Nat} {H:AH} {u v w:Value} (h0:H.cell b 0=some u) (h1:H.cell b 1=some v) (h2:H.cell b 2=some w) (o0:oneC u=true:=by rfl) (o1:oneC v=true:=by rfl) (o2:oneC w=true:=by rfl) :
    hApp e 3 40 (.slice none 0 0) (sl b 0 1 c) H=some (sl H.next 0 1 4611686018427387907,H.new (.cells (PT.ofList [u,v,w] 0 .leaf) 3 (2*e+1))):=by
  have hr:rdV 3 1 (sl b 0 1 c) H=some [u,v,w]:=cells3 h0 h1 h2
  have ha:allC [u,v,w]=true:=by simp only [allC,o0,o1,o2,cond_true]
  unfold hApp
  show ((rdV 3 1 (sl b 0 1 c) H).bind _)=_
  rw [hr]
  simp only [Option.bind_some,ha]
  rfl
theorem appG {e b c b2 m:Nat} {H:AH} {bc:PT Value} {u v w:Value} (hm:m≤4999) (hb:H.get b=some (.cells bc (m*3) (2*e+1))) (h0:H.cell b2 0=some u) (h1:H.cell b2 1=some v) (h2:H.cell b2 2=some w) (o0:oneC u=true:=by rfl) (o1:oneC v=true:=by rfl) (o2:oneC w=true:=by rfl) :
    hApp e 3 40 (sl b 0 m 4611686018427387907) (sl b2 0 1 c) H=some (sl H.next 0 (m+1) 4611686018427387907,(H.put b none).new (.cells (PT.puts bc (m*3) [u,v,w]) ((m+1)*3) (2*e+1))):=by
  have hr:rdV 3 1 (sl b2 0 1 c) H=some [u,v,w]:=cells3 h0 h1 h2
  have ha:allC [u,v,w]=true:=by simp only [allC,o0,o1,o2,cond_true]
  have hg:grown H b 0 (m*3) [u,v,w]=some (PT.puts bc (m*3) [u,v,w]):=by
    unfold grown
    rw [hb]
    show (bif Nat.beq 0 0 && Nat.beq (m*3) (m*3) then _ else _)=_
    rw [Nat.beq_refl (m*3)] <;> rfl
  have ht:tyB H b e=2*e+1:=by
    unfold tyB
    rw [hb]
    show (bif Nat.beq (2*e+1) (2*e+1) then _ else _)=_
    rw [Nat.beq_refl (2*e+1)] <;> rfl
  unfold hApp
  show ((rdV 3 1 (sl b2 0 1 c) H).bind _)=_
  rw [hr]
  simp only [Option.bind_some,ha]
  show (bif roomOk (m+1) 40 then (bif Nat.beq 4611686018427387907 (unk 3) then (grown H b 0 (m*3) [u,v,w]).bind _ else _) else none)=_
  rw [room40 (by omega),hg,ht] <;> rfl
noncomputable def fi_13:FI:=match envT.fn 13 with|some x=>x|none=>⟨.skip,0,#[]⟩
def p13_h1 (n:Nat) (c:Nat) (ia:Option Addr) (h:AH):AH:=AH.new h (AObj.cells (PT.node (some (Value.slice ia n c)) (PT.node (some (Value.slice none 0 0)) PT.leaf PT.leaf) PT.leaf) 2 0)
def p13_h2 (pg:Nat) (k:Nat) (n:Nat) (c:Nat) (ia:Option Addr) (h:AH):AH:=AH.new (AH.new h (AObj.cells (PT.node (some (Value.slice ia n c)) (PT.node (some (Value.slice none 0 0)) PT.leaf PT.leaf) PT.leaf) 2 0)) (AObj.cells (PT.node (some (i64 pg)) (PT.node (some (i64 k)) (PT.node (some (Value.slice none 0 0)) (PT.node (some (Value.bool false)) PT.leaf PT.leaf) PT.leaf) (PT.node (some (Value.slice none 0 0)) (PT.node (some (Value.slice none 0 0)) PT.leaf PT.leaf) PT.leaf)) (PT.node (some (i64 0)) (PT.node (some (Value.slice none 0 0)) (PT.node (some (i64 0)) PT.leaf PT.leaf) PT.leaf) (PT.node (some (Value.slice none 0 0)) (PT.node (some (i64 0)) PT.leaf PT.leaf) PT.leaf))) 11 0)
def p13_h3 (pg:Nat) (k:Nat) (n:Nat) (c:Nat) (ia:Option Addr) (h:AH):AH:=AH.new (AH.new (AH.new h (AObj.cells (PT.node (some (Value.slice ia n c)) (PT.node (some (Value.slice none 0 0)) PT.leaf PT.leaf) PT.leaf) 2 0)) (AObj.cells (PT.node (some (i64 pg)) (PT.node (some (i64 k)) (PT.node (some (Value.slice none 0 0)) (PT.node (some (Value.bool false)) PT.leaf PT.leaf) PT.leaf) (PT.node (some (Value.slice none 0 0)) (PT.node (some (Value.slice none 0 0)) PT.leaf PT.leaf) PT.leaf)) (PT.node (some (i64 0)) (PT.node (some (Value.slice none 0 0)) (PT.node (some (i64 0)) PT.leaf PT.leaf) PT.leaf) (PT.node (some (Value.slice none 0 0)) (PT.node (some (i64 0)) PT.leaf PT.leaf) PT.leaf))) 11 0)) (AObj.cells (fillC (zrep [u8 0] (pg*k)) 0 (pg*k)) (pg*k) 0)
def p13_h4 (pg:Nat) (k:Nat) (n:Nat) (c:Nat) (ia:Option Addr) (xs:List Nat) (h:AH):AH:=AH.put (AH.new (AH.new (AH.new h (AObj.cells (PT.node (some (Value.slice ia n c)) (PT.node (some (Value.slice none 0 0)) PT.leaf PT.leaf) PT.leaf) 2 0)) (AObj.cells (PT.node (some (i64 pg)) (PT.node (some (i64 k)) (PT.node (some (Value.slice none 0 0)) (PT.node (some (Value.bool false)) PT.leaf PT.leaf) PT.leaf) (PT.node (some (Value.slice none 0 0)) (PT.node (some (Value.slice none 0 0)) PT.leaf PT.leaf) PT.leaf)) (PT.node (some (i64 0)) (PT.node (some (Value.slice none 0 0)) (PT.node (some (i64 0)) PT.leaf PT.leaf) PT.leaf) (PT.node (some (Value.slice none 0 0)) (PT.node (some (i64 0)) PT.leaf PT.leaf) PT.leaf))) 11 0)) (AObj.cells (fillC (zrep [u8 0] (pg*k)) 0 (pg*k)) (pg*k) 0)) (AH.next h+2) (some (AObj.cells (PT.puts (fillC (zrep [u8 0] (pg*k)) 0 (pg*k)) 0 (List.map u8 xs)) (pg*k) 0))
noncomputable def p13_t0 (pg:Nat) (k:Nat) (n:Nat) (c:Nat) (ia:Option Addr) (h:AH):Tm:=stoF (stoF (stoF (stoF (stoF (stoF (stoF (stoF (stoF (stoF (stoF (stoF (stoF (stoF (stoF (stoF (stoF (stoF (stoF (stoF (stoF (stoF (stoF (stoF (stoF (stoF (stoF (stoF (stoF (stoF (stoF (stoF (stoF (stoF (stoF (stoF (stoF (stoF (stoF (stoF (stoF (stoF (stoF (stoF (stoF (stoF (stoF (stoF (stoF (stoF (stoF (stoF (stoF (stoF (stoF (stoF (stoF (stoF (stoF (stoF (stoF (stoF (stoF (fun i=>gt ([i64 pg,i64 k,i64 0,Value.agg (Array.mk [Value.slice ia n c,Value.slice none 0 0])]++List.replicate 108 undV) i) (some 7) (Value.pointer (some (Addr.mk (AH.next h) 0 none)))) (some 8) (Value.pointer none)) (some 9) (i64 0)) (some 14) (i64 pg)) (some 15) (Value.bool false)) (some 16) (Value.bool false)) (some 17) (i64 pg)) (some 18) (Value.bool false)) (some 19) (Value.bool false)) (some 20) (Value.bool false)) (some 21) (i64 k)) (some 22) (Value.bool false)) (some 23) (Value.bool false)) (some 24) (Value.bool false)) (some 25) (i64 k)) (some 26) (Value.bool false)) (some 27) (Value.bool false)) (some 28) (Value.bool false)) (some 29) (i64 0)) (some 30) (Value.bool false)) (some 31) (Value.bool false)) (some 32) (Value.bool false)) (some 33) (i64 0)) (some 34) (Value.bool false)) (some 35) (Value.bool false)) (some 36) (Value.bool false)) (some 37) (Value.pointer (some (Addr.mk (AH.next h) 0 none)))) (some 38) (Value.slice ia n c)) (some 39) (i64 n)) (some 40) (i64 pg)) (some 41) (i64 k)) (some 42) (i64 ((pg*k)))) (some 43) (Value.bool false)) (some 44) (Value.bool false)) (some 45) (Value.bool false)) (some 46) (Value.pointer (some (Addr.mk (AH.next h) 1 none)))) (some 47) (Value.slice none 0 0)) (some 48) (i64 0)) (some 49) (i64 pg)) (some 50) (i64 k)) (some 51) (i64 ((pg*k)))) (some 52) (Value.bool false)) (some 53) (Value.bool false)) (some 54) (i64 pg)) (some 55) (i64 k)) (some 56) (i64 0)) (some 57) (Value.agg (Array.mk [i64 pg,i64 k,i64 0,Value.slice none 0 0,Value.slice none 0 0,Value.slice none 0 0,Value.slice none 0 0,Value.bool false,i64 0,Value.slice none 0 0,i64 0]))) (some 58) (Value.pointer (some (Addr.mk (AH.next h+1) 0 none)))) (some 10) (Value.pointer (some (Addr.mk (AH.next h+1) 0 none)))) (some 11) (i64 0)) (some 59) (i64 0)) (some 60) (Value.bool true)) (some 63) (i64 pg)) (some 64) (i64 k)) (some 65) (i64 ((pg*k)))) (some 66) (Value.slice (some (Addr.mk (AH.next h+2) 0 none)) (pg*k) (pg*k))) (some 12) (Value.slice (some (Addr.mk (AH.next h+2) 0 none)) (pg*k) (pg*k))) (some 67) (Value.slice (some (Addr.mk (AH.next h+2) 0 none)) (pg*k) (pg*k))) (some 68) (i64 0)) (some 69) (Value.pointer (some (Addr.mk (AH.next h) 0 none)))) (some 70) (Value.slice ia n c)) (some 71) (i64 n)) (some 13) (i64 0)
def p13_h5 (pg:Nat) (k:Nat) (h2:AH):AH:=AH.new h2 (AObj.cells (fillC (zrep [u8 0] (pg*k)) 0 (pg*k)) (pg*k) 0)
noncomputable def p13_t1 (pg:Nat) (k:Nat) (T1:Tm) (h:AH) (h2:AH):Tm:=stoF (stoF (stoF (stoF (stoF (stoF (stoF (stoF (stoF (stoF (stoF (stoF (stoF (stoF (stoF (stoF (tmK [(0,i64 pg),(1,i64 k),(7,ptr (AH.next h) 0),(10,ptr (AH.next h+1) 0),(11,i64 0)] T1) (some 61) (i64 0)) (some 62) (i64 1)) (some 11) (i64 1)) (some 59) (i64 1)) (some 60) (Value.bool true)) (some 63) (i64 pg)) (some 64) (i64 k)) (some 65) (i64 ((pg*k)))) (some 66) (Value.slice (some (Addr.mk (AH.next h2) 0 none)) (pg*k) (pg*k))) (some 12) (Value.slice (some (Addr.mk (AH.next h2) 0 none)) (pg*k) (pg*k))) (some 67) (Value.slice (some (Addr.mk (AH.next h2) 0 none)) (pg*k) (pg*k))) (some 68) (i64 1)) (some 69) (Value.pointer (some (Addr.mk (AH.next h) 1 none)))) (some 70) (Value.slice none 0 0)) (some 71) (i64 0)) (some 13) (i64 0)
def p13_h6 (h3:AH):AH:=AH.mk (AH.next h3+12) (AH.mem h3) []
def p13_h7 (pg:Nat) (h3:AH):AH:=AH.new (AH.mk (AH.next h3+12) (AH.mem h3) []) (AObj.cells (fillC (zrep [u8 0] pg) 0 pg) pg 0)
def p13_h8 (pg:Nat) (h3:AH):AH:=AH.new (AH.new (AH.mk (AH.next h3+12) (AH.mem h3) []) (AObj.cells (fillC (zrep [u8 0] pg) 0 pg) pg 0)) (AObj.cells (fillC (zrep [u8 0] pg) 0 pg) pg 0)
def p13_h9 (pg:Nat) (h3:AH):AH:=AH.put (AH.new (AH.new (AH.mk (AH.next h3+12) (AH.mem h3) []) (AObj.cells (fillC (zrep [u8 0] pg) 0 pg) pg 0)) (AObj.cells (fillC (zrep [u8 0] pg) 0 pg) pg 0)) (AH.next h3+7) (some (AObj.cells (PT.node (some (Value.slice (some (Addr.mk (AH.next h3+12) 0 none)) pg pg)) (PT.node (some (Value.bool true)) (PT.node (some (Value.slice (some (Addr.mk (AH.next h3+13) 0 none)) pg pg)) PT.leaf PT.leaf) (PT.node (some (i64 0)) PT.leaf PT.leaf)) (PT.node (some (i64 0)) (PT.node (some (Value.bool true)) PT.leaf PT.leaf) PT.leaf)) 6 0))
def p13_h10 (pg:Nat) (fc:PT Value) (h:AH) (h3:AH):AH:=AH.put (AH.put (AH.new (AH.new (AH.mk (AH.next h3+12) (AH.mem h3) []) (AObj.cells (fillC (zrep [u8 0] pg) 0 pg) pg 0)) (AObj.cells (fillC (zrep [u8 0] pg) 0 pg) pg 0)) (AH.next h3+7) (some (AObj.cells (PT.node (some (Value.slice (some (Addr.mk (AH.next h3+12) 0 none)) pg pg)) (PT.node (some (Value.bool true)) (PT.node (some (Value.slice (some (Addr.mk (AH.next h3+13) 0 none)) pg pg)) PT.leaf PT.leaf) (PT.node (some (i64 0)) PT.leaf PT.leaf)) (PT.node (some (i64 0)) (PT.node (some (Value.bool true)) PT.leaf PT.leaf) PT.leaf)) 6 0))) (AH.next h+1) (some (AObj.cells (PT.put fc 5 (some (Value.slice (some (Addr.mk (AH.next h3+7) 0 none)) 2 2))) 11 0))
theorem p13_ok (C:Oracle) (pg:Nat) (k:Nat) (n:Nat) (c:Nat) (im:Nat) (ia:Option Addr) (xs:List Nat) (fc:PT Value) (T1:Tm) (T2:Tm) (h:AH) (h2:AH) (h3:AH):syR envT C (BIG) [(4,(Value.bool false),none),
  (7,(Value.bool false),none),
  (11,(Value.bool false),none),
  (15,(Value.bool false),none),
  (27,(Value.slice ia n c),none),
  (31,(i64 (pg*k)),none),
  (32,(Value.bool false),none),
  (36,(Value.slice none 0 0),none),
  (40,(i64 (pg*k)),none),
  (54,(i64 (pg*k)),none),
  (55,(sl (AH.next h+2) (0) (pg*k) (pg*k)),some (p13_h3 pg k n c ia h)),
  (60,(Value.slice ia n c),none),
  (61,(i64 n),some (p13_h4 pg k n c ia xs h)),
  (71,(i64 (pg*k)),none),
  (72,(sl (AH.next h2) (0) (pg*k) (pg*k)),some (p13_h5 pg k h2)),
  (77,(Value.slice none 0 0),none),
  (88,(sl (AH.next h3+12) (0) (pg) (pg)),some (p13_h7 pg h3)),
  (91,(sl (AH.next h3+13) (0) (pg) (pg)),some (p13_h8 pg h3)),
  (97,(junk),some (p13_h10 pg fc h h3))] [(63,Ex.exit 2,tmK [(0,i64 pg),(1,i64 k),(7,ptr (AH.next h) 0),(10,ptr (AH.next h+1) 0),(11,i64 0)] T1,(h2)),
  (80,Ex.exit 2,tmK [(0,i64 pg),(1,i64 k),(7,ptr (AH.next h) 0),(10,ptr (AH.next h+1) 0),(11,i64 1)] T2,(h3))] 13 [(i64 pg),(i64 k),(i64 0),(Value.agg (Array.mk [Value.slice ia n c,Value.slice none 0 0]))] (h)=some ((Value.tuple (Array.mk [Value.pointer (some (Addr.mk (AH.next h+1) 0 none)),i64 0])),(p13_h10 pg fc h h3),
  [((AH.st ((p13_h9 pg h3)) (AH.next h+1) (5) (sl (AH.next h3+7) (0) (2) (2))).bind fun zh=>some (junk,zh))=some ((junk),(p13_h10 pg fc h h3)),
   C (Value.func (Fn.func 42) (Array.mk []) (Array.mk [])) [(i64 pg)] ((p13_h7 pg h3))=some ((sl (AH.next h3+13) (0) (pg) (pg)),(p13_h8 pg h3)),
   C (Value.func (Fn.func 42) (Array.mk []) (Array.mk [])) [(i64 pg)] ((p13_h6 h3))=some ((sl (AH.next h3+12) (0) (pg) (pg)),(p13_h7 pg h3)),
   ∀ K:Kont,loopK BIG (fun G=>evF envT C 112 BIG (atP (fi_13.body) [2,2,2,1,2,1,1,2,1,1,2,2,2,1,1]) (thenK G K)) (p13_t1 pg k T1 h h2) (p13_h5 pg k h2)=K (Ex.exit 2) (tmK [(0,i64 pg),(1,i64 k),(7,ptr (AH.next h) 0),(10,ptr (AH.next h+1) 0),(11,i64 1)] T2) (h3),
   ((AH.cell ((p13_h5 pg k h2)) (AH.next h) (1)).bind fun zv=>some (zv,(p13_h5 pg k h2)))=some ((Value.slice none 0 0),(p13_h5 pg k h2)),
   C (Value.func (Fn.func 42) (Array.mk []) (Array.mk [])) [(i64 (pg*k))] ((h2))=some ((sl (AH.next h2) (0) (pg*k) (pg*k)),(p13_h5 pg k h2)),
   some (Value.int IntKind.i64 (wr IntKind.i64 (Int.ofNat (pg*k))),(h2))=some ((i64 (pg*k)),(h2)),
   ∀ K:Kont,loopK BIG (fun G=>evF envT C 112 BIG (atP (fi_13.body) [2,2,2,1,2,1,1,2,1,1,2,2,2,1,1]) (thenK G K)) (p13_t0 pg k n c ia h) (p13_h4 pg k n c ia xs h)=K (Ex.exit 2) (tmK [(0,i64 pg),(1,i64 k),(7,ptr (AH.next h) 0),(10,ptr (AH.next h+1) 0),(11,i64 0)] T1) (h2),
   hCopy 1 (sl (AH.next h+2) (0) (pg*k) (pg*k)) (Value.slice ia n c) ((p13_h3 pg k n c ia h))=some ((i64 n),(p13_h4 pg k n c ia xs h)),
   ((AH.cell ((p13_h3 pg k n c ia h)) (AH.next h) (0)).bind fun zv=>some (zv,(p13_h3 pg k n c ia h)))=some ((Value.slice ia n c),(p13_h3 pg k n c ia h)),
   C (Value.func (Fn.func 42) (Array.mk []) (Array.mk [])) [(i64 (pg*k))] ((p13_h2 pg k n c ia h))=some ((sl (AH.next h+2) (0) (pg*k) (pg*k)),(p13_h3 pg k n c ia h)),
   some (Value.int IntKind.i64 (wr IntKind.i64 (Int.ofNat (pg*k))),(p13_h2 pg k n c ia h))=some ((i64 (pg*k)),(p13_h2 pg k n c ia h)),
   some (Value.int IntKind.i64 (wr IntKind.i64 (Int.ofNat (pg*k))),(p13_h1 n c ia h))=some ((i64 (pg*k)),(p13_h1 n c ia h)),
   ((AH.cell ((p13_h1 n c ia h)) (AH.next h) (1)).bind fun zv=>some (zv,(p13_h1 n c ia h)))=some ((Value.slice none 0 0),(p13_h1 n c ia h)),
   some (Value.bool (ilt (Int.ofNat (pg*k)) (Int.ofNat n)),(p13_h1 n c ia h))=some ((Value.bool false),(p13_h1 n c ia h)),
   some (Value.int IntKind.i64 (wr IntKind.i64 (Int.ofNat (pg*k))),(p13_h1 n c ia h))=some ((i64 (pg*k)),(p13_h1 n c ia h)),
   ((AH.cell ((p13_h1 n c ia h)) (AH.next h) (0)).bind fun zv=>some (zv,(p13_h1 n c ia h)))=some ((Value.slice ia n c),(p13_h1 n c ia h)),
   some (Value.bool (ilt (Int.ofNat 4096) (Int.ofNat k)),(p13_h1 n c ia h))=some ((Value.bool false),(p13_h1 n c ia h)),
   some (Value.bool (ilt (Int.ofNat k) (Int.ofNat 1)),(p13_h1 n c ia h))=some ((Value.bool false),(p13_h1 n c ia h)),
   some (Value.bool (ilt (Int.ofNat 4096) (Int.ofNat pg)),(p13_h1 n c ia h))=some ((Value.bool false),(p13_h1 n c ia h)),
   some (Value.bool (ilt (Int.ofNat pg) (Int.ofNat 64)),(p13_h1 n c ia h))=some ((Value.bool false),(p13_h1 n c ia h))]):=by kernel_rfl
theorem p13 (C:Oracle) (pg k n c im:Nat) (ia:Option Addr) (xs:List Nat) (fc:PT Value) (T1 T2:Tm) (h h2 h3:AH) (hia:IA ia im n c) (hp:64≤pg) (hp2:pg≤4096) (hk:1≤k) (hk2:k≤4096) (hM2:pg*k≤16777216) (hn:n≤pg*k) (hx:xs.length=n) (hb:∀ x ∈ xs,x<256) (hB:Bys h im 0 xs) (him:im<h.next) (h42:∀ {n:Nat} {H:AH},n≤281474976710656→C (.func (.func 42) ⟨[]⟩ ⟨[]⟩) [i64 n] H=some (sl H.next 0 n n,H.new (.cells (fillC (zrep [u8 0] n) 0 n) n 0))) (hL1:∀ K:Kont,loopK BIG (fun G=>evF envT C 112 BIG (atP (fi_13.body) [2,2,2,1,2,1,1,2,1,1,2,2,2,1,1]) (thenK G K)) (p13_t0 pg k n c ia h) (p13_h4 pg k n c ia xs h)=K (Ex.exit 2) (tmK [(0,i64 pg),(1,i64 k),(7,ptr (AH.next h) 0),(10,ptr (AH.next h+1) 0),(11,i64 0)] T1) (h2)) (g7:h2.cell h.next 1=some (.slice none 0 0)) (hL2:∀ K:Kont,loopK BIG (fun G=>evF envT C 112 BIG (atP (fi_13.body) [2,2,2,1,2,1,1,2,1,1,2,2,2,1,1]) (thenK G K)) (p13_t1 pg k T1 h h2) (p13_h5 pg k h2)=K (Ex.exit 2) (tmK [(0,i64 pg),(1,i64 k),(7,ptr (AH.next h) 0),(10,ptr (AH.next h+1) 0),(11,i64 1)] T2) (h3)) (gO:h3.get (h.next+1)=some (.cells fc 11 0)) (hfc:fc.get 5=some (.slice none 0 0)) (hn3:h.next+1<h3.next) (hn2:h.next<h2.next):denG envT C (BIG) 13 [(i64 pg),(i64 k),(i64 0),(Value.agg (Array.mk [Value.slice ia n c,Value.slice none 0 0]))] (h)=some ((Value.tuple (Array.mk [Value.pointer (some (Addr.mk (AH.next h+1) 0 none)),i64 0])),(p13_h10 pg fc h h3)):=
  syR_sound (p13_ok C pg k n c im ia xs fc T1 T2 h h2 h3)<|goodY_cons (kr (stE (gP (by first|omega|(simp only [AH.new_next,nx_put,nx_up];omega)) (gN (by first|omega|(simp only [AH.new_next,nx_put,nx_up];omega)) (gN (by first|omega|(simp only [AH.new_next,nx_put,nx_up];omega)) (gM (gO))))) hfc) (by kernel_rfl))<|
  goodY_cons (kr (h42 (by omega)) (by kernel_rfl))<|
  goodY_cons (kr (h42 (by omega)) (by kernel_rfl))<|
  goodY_cons (hL2)<|
  goodY_cons (ldE (cN (by first|omega|(simp only [AH.new_next,nx_put,nx_up];omega)) (g7)))<|
  goodY_cons (kr (h42 (by omega)) (by kernel_rfl))<|
  goodY_cons (cI (wrE 9223372036854775808 rfl (by first|rfl|assumption|omega|simp (disch:=omega) [Nat.div_self,Nat.div_div_eq_div_mul,Nat.mul_div_cancel]) (by omega)))<|
  goodY_cons (hL1)<|
  goodY_cons (kr (cpyI hia (by first|assumption|rfl|(simp;done)|omega|(simp;omega)) (by omega) (bN (by first|omega|(simp only [AH.new_next,nx_put,nx_up];omega)) (bN (by first|omega|(simp only [AH.new_next,nx_put,nx_up];omega)) (bN (by first|omega|(simp only [AH.new_next,nx_put,nx_up];omega)) (hB)))) (gS) (has_fill (has_zrep (by omega)))) (by kernel_rfl))<|
  goodY_cons (ldE (cN (by first|omega|(simp only [AH.new_next,nx_put,nx_up];omega)) (cN (by first|omega|(simp only [AH.new_next,nx_put,nx_up];omega)) (cell_of (gS) (by kernel_rfl)))))<|
  goodY_cons (kr (h42 (by omega)) (by kernel_rfl))<|
  goodY_cons (cI (wrE 9223372036854775808 rfl (by first|rfl|assumption|omega|simp (disch:=omega) [Nat.div_self,Nat.div_div_eq_div_mul,Nat.mul_div_cancel]) (by omega)))<|
  goodY_cons (cI (wrE 9223372036854775808 rfl (by first|rfl|assumption|omega|simp (disch:=omega) [Nat.div_self,Nat.div_div_eq_div_mul,Nat.mul_div_cancel]) (by omega)))<|
  goodY_cons (ldE (cell_of (gS) (by kernel_rfl)))<|
  goodY_cons (cB (congrArg (fun z=>z) (ltF (by omega):ilt (Int.ofNat (pg*k)) (Int.ofNat n)=false)))<|
  goodY_cons (cI (wrE 9223372036854775808 rfl (by first|rfl|assumption|omega|simp (disch:=omega) [Nat.div_self,Nat.div_div_eq_div_mul,Nat.mul_div_cancel]) (by omega)))<|
  goodY_cons (ldE (cell_of (gS) (by kernel_rfl)))<|
  goodY_cons (cB (congrArg (fun z=>z) (ltF (by omega):ilt (Int.ofNat 4096) (Int.ofNat k)=false)))<|
  goodY_cons (cB (congrArg (fun z=>z) (ltF (by omega):ilt (Int.ofNat k) (Int.ofNat 1)=false)))<|
  goodY_cons (cB (congrArg (fun z=>z) (ltF (by omega):ilt (Int.ofNat 4096) (Int.ofNat pg)=false)))<|
  goodY_cons (cB (congrArg (fun z=>z) (ltF (by omega):ilt (Int.ofNat pg) (Int.ofNat 64)=false)))<|
  goodY_nil
noncomputable def X_13:Code:=atP (fi_13.body) [2,2,2,1,2,1,1,2,1,1,2,2,2,1,1]
def t_13 (pg k bx f a ab i:Nat) (tm:Tm):Tm:=tmK [(0,i64 pg),(1,i64 k),(7,ptr bx 0),(10,ptr f 0),(11,i64 a),(12,sl ab 0 (pg*k) (pg*k)),(13,i64 i)] tm
def s13a_h1 (h:AH):AH:=AH.mk (AH.next h+24) (AH.mem h) []
def s13a_h2 (pg:Nat) (k:Nat) (ab:Nat) (h:AH):AH:=AH.put (AH.mk (AH.next h+24) (AH.mem h) []) (AH.next h+18) (some (AObj.cells (PT.node (some (Value.slice (some (Addr.mk ab 0 none)) pg (pg*k))) (PT.node (some (Value.bool false)) PT.leaf PT.leaf) (PT.node (some (i64 0)) PT.leaf PT.leaf)) 3 0))
def s13a_h3 (pg:Nat) (k:Nat) (ab:Nat) (h:AH):AH:=AH.new (AH.put (AH.mk (AH.next h+24) (AH.mem h) []) (AH.next h+18) (some (AObj.cells (PT.node (some (Value.slice (some (Addr.mk ab 0 none)) pg (pg*k))) (PT.node (some (Value.bool false)) PT.leaf PT.leaf) (PT.node (some (i64 0)) PT.leaf PT.leaf)) 3 0))) (AObj.cells (PT.node (some (Value.slice (some (Addr.mk ab 0 none)) pg (pg*k))) (PT.node (some (Value.bool false)) PT.leaf PT.leaf) (PT.node (some (i64 0)) PT.leaf PT.leaf)) 3 255)
def s13a_h4 (pg:Nat) (k:Nat) (f:Nat) (a:Nat) (ab:Nat) (fc:PT Value) (h:AH):AH:=AH.put (AH.new (AH.put (AH.mk (AH.next h+24) (AH.mem h) []) (AH.next h+18) (some (AObj.cells (PT.node (some (Value.slice (some (Addr.mk ab 0 none)) pg (pg*k))) (PT.node (some (Value.bool false)) PT.leaf PT.leaf) (PT.node (some (i64 0)) PT.leaf PT.leaf)) 3 0))) (AObj.cells (PT.node (some (Value.slice (some (Addr.mk ab 0 none)) pg (pg*k))) (PT.node (some (Value.bool false)) PT.leaf PT.leaf) (PT.node (some (i64 0)) PT.leaf PT.leaf)) 3 255)) f (some (AObj.cells (PT.put fc (a+3) (some (Value.slice (some (Addr.mk (AH.next h+24) 0 none)) 1 4611686018427387907))) 11 0))
noncomputable def s13a_fo (C:Oracle) (pg:Nat) (k:Nat) (bx:Nat) (f:Nat) (a:Nat) (ab:Nat) (tm:Tm) (fc:PT Value) (h:AH):Fo:=[(2,(Value.bool true),none),
  (9,(ptr (f) (a+3)),none),
  (10,(Value.slice none 0 0),none),
  (14,(i64 0),none),
  (18,(i64 pg),none),
  (19,(sl (ab) (0) (pg) (pg*k)),none),
  (22,(sl (AH.next h+24) (0) (1) (4611686018427387907)),some (s13a_h3 pg k ab h)),
  (25,(ptr (f) (a+3)),none),
  (26,(junk),some (s13a_h4 pg k f a ab fc h))]
noncomputable def s13a_s (C:Oracle) (pg:Nat) (k:Nat) (bx:Nat) (f:Nat) (a:Nat) (ab:Nat) (tm:Tm) (fc:PT Value) (h:AH):SY:=syP envT C 112 (BIG) (s13a_fo C pg k bx f a ab tm fc h) [] (X_13) (t_13 pg k bx f a ab 0 tm) (h)
theorem s13a_ok (C:Oracle) (pg:Nat) (k:Nat) (bx:Nat) (f:Nat) (a:Nat) (ab:Nat) (tm:Tm) (fc:PT Value) (h:AH):SyP envT C 112 (BIG) (s13a_fo C pg k bx f a ab tm fc h) [] (X_13) (t_13 pg k bx f a ab 0 tm) (h) .normal (SY.t (s13a_s C pg k bx f a ab tm fc h)) ((s13a_h4 pg k f a ab fc h)) (SY.c (s13a_s C pg k bx f a ab tm fc h)):=⟨30,by kernel_rfl⟩
theorem s13a_c (C:Oracle) (pg:Nat) (k:Nat) (bx:Nat) (f:Nat) (a:Nat) (ab:Nat) (tm:Tm) (fc:PT Value) (h:AH):SY.c (s13a_s C pg k bx f a ab tm fc h)=
  [AH.cell ((s13a_h2 pg k ab h)) (f) (a+3)=some (Value.slice none 0 0),
   ((AH.st ((s13a_h3 pg k ab h)) (f) (a+3) (sl (AH.next h+24) (0) (1) (4611686018427387907))).bind fun zh=>some (junk,zh))=some ((junk),(s13a_h4 pg k f a ab fc h)),
   (((ixOk (Int.ofNat a) (3)).bind fun zm=>some (ptr (f) (3+zm*1))).bind fun zv=>some (zv,(s13a_h3 pg k ab h)))=some ((ptr (f) (a+3)),(s13a_h3 pg k ab h)),
   hApp 127 3 40 (Value.slice none 0 0) (sl (AH.next h+18) (0) (1) (1)) ((s13a_h2 pg k ab h))=some ((sl (AH.next h+24) (0) (1) (4611686018427387907)),(s13a_h3 pg k ab h)),
   ((slS 1 (sl (ab) (0) (pg*k) (pg*k)) (some (i64 0)) (some (i64 pg)) none).bind fun zv=>some (zv,(s13a_h1 h)))=some ((sl (ab) (0) (pg) (pg*k)),(s13a_h1 h)),
   some (Value.int IntKind.i64 (wr IntKind.i64 (Int.ofNat (1*pg))),(s13a_h1 h))=some ((i64 pg),(s13a_h1 h)),
   some (Value.int IntKind.i64 (wr IntKind.i64 (Int.ofNat (0*pg))),(s13a_h1 h))=some ((i64 0),(s13a_h1 h)),
   ((AH.cell ((s13a_h1 h)) (f) (a+3)).bind fun zv=>some (zv,(s13a_h1 h)))=some ((Value.slice none 0 0),(s13a_h1 h)),
   (((ixOk (Int.ofNat a) (3)).bind fun zm=>some (ptr (f) (3+zm*1))).bind fun zv=>some (zv,(s13a_h1 h)))=some ((ptr (f) (a+3)),(s13a_h1 h)),
   some (Value.bool (ilt (Int.ofNat 0) (Int.ofNat k)),h)=some ((Value.bool true),h)]:=by kernel_rfl
theorem s13a_t (C:Oracle) (pg:Nat) (k:Nat) (bx:Nat) (f:Nat) (a:Nat) (ab:Nat) (tm:Tm) (fc:PT Value) (h:AH):SY.t (s13a_s C pg k bx f a ab tm fc h) 0=(i64 pg)∧SY.t (s13a_s C pg k bx f a ab tm fc h) 1=(i64 k)∧SY.t (s13a_s C pg k bx f a ab tm fc h) 7=(ptr (bx) (0))∧SY.t (s13a_s C pg k bx f a ab tm fc h) 10=(ptr (f) (0))∧SY.t (s13a_s C pg k bx f a ab tm fc h) 11=(i64 a)∧SY.t (s13a_s C pg k bx f a ab tm fc h) 12=(sl (ab) (0) (pg*k) (pg*k))∧SY.t (s13a_s C pg k bx f a ab tm fc h) 13=(i64 1):=⟨by kernel_rfl,by kernel_rfl,by kernel_rfl,by kernel_rfl,by kernel_rfl,by kernel_rfl,by kernel_rfl⟩
theorem s13a (C:Oracle) (pg k bx f a ab:Nat) (tm:Tm) (fc:PT Value) (h:AH) (hp:64≤pg) (hp2:pg≤4096) (hk:1≤k) (hk2:k≤4096) (hM2:pg*k≤16777216) (hpk:pg≤pg*k) (ha:a<2) (hf:f<h.next) (gO:h.get f=some (.cells fc 11 0)) (gA:h.cell f (a+3)=some (.slice none 0 0)) (hfc:fc.get (a+3)=some (.slice none 0 0)):∃ T:Tm,(∀ K,evF envT C 112 (BIG) (X_13) K (t_13 pg k bx f a ab 0 tm) (h)=K .normal T ((s13a_h4 pg k f a ab fc h)))∧T 0=(i64 pg)∧T 1=(i64 k)∧T 7=(ptr (bx) (0))∧T 10=(ptr (f) (0))∧T 11=(i64 a)∧T 12=(sl (ab) (0) (pg*k) (pg*k))∧T 13=(i64 1):=
  ⟨SY.t (s13a_s C pg k bx f a ab tm fc h),fun K=>SyP.on (s13a_ok C pg k bx f a ab tm fc h) (by
    rw [s13a_c]
    exact goodY_cons (cP (by first|omega|(simp only [AH.new_next,nx_put,nx_up];omega)) (cM (gA)))<|
  goodY_cons (kr (stE (gN (by first|omega|(simp only [AH.new_next,nx_put,nx_up];omega)) (gP (by first|omega|(simp only [AH.new_next,nx_put,nx_up];omega)) (gM (gO)))) hfc) (by kernel_rfl))<|
  goodY_cons (ixS (by omega) (by first|rfl|omega|simp (disch:=omega) [Nat.div_self,Nat.div_div_eq_div_mul,Nat.mul_div_cancel]))<|
  goodY_cons (kr (appN  (u:=(sl (ab) (0) (pg) (pg*k))) (v:=(Value.bool false)) (w:=(i64 0)) (cell_of (gQ) (by kernel_rfl)) (cell_of (gQ) (by kernel_rfl)) (cell_of (gQ) (by kernel_rfl))) (by kernel_rfl))<|
  goodY_cons (slU_k (vNat_some (by omega)) (vNat_some (by omega)) (by omega) (by omega) (by first|rfl|omega|simp (disch:=omega) [Nat.div_self,Nat.div_div_eq_div_mul,Nat.mul_div_cancel]) (by first|rfl|omega|simp (disch:=omega) [Nat.div_self,Nat.div_div_eq_div_mul,Nat.mul_div_cancel]) (by first|rfl|omega|simp (disch:=omega) [Nat.div_self,Nat.div_div_eq_div_mul,Nat.mul_div_cancel]))<|
  goodY_cons (cI (wrE 9223372036854775808 rfl (by first|rfl|omega|simp (disch:=omega) [Nat.div_self,Nat.div_div_eq_div_mul,Nat.mul_div_cancel]) (by omega)))<|
  goodY_cons (cI (wrE 9223372036854775808 rfl (by first|rfl|omega|simp (disch:=omega) [Nat.div_self,Nat.div_div_eq_div_mul,Nat.mul_div_cancel]) (by omega)))<|
  goodY_cons (ldE (cM (gA)))<|
  goodY_cons (ixS (by omega) (by first|rfl|omega|simp (disch:=omega) [Nat.div_self,Nat.div_div_eq_div_mul,Nat.mul_div_cancel]))<|
  goodY_cons (cB (congrArg (fun z=>z) (ltT (by omega):ilt (Int.ofNat 0) (Int.ofNat k)=true)))<|
  goodY_nil) K,s13a_t C pg k bx f a ab tm fc h⟩
def s13b_h1 (h:AH):AH:=AH.mk (AH.next h+24) (AH.mem h) []
def s13b_h2 (pg:Nat) (k:Nat) (ab:Nat) (i:Nat) (h:AH):AH:=AH.put (AH.mk (AH.next h+24) (AH.mem h) []) (AH.next h+18) (some (AObj.cells (PT.node (some (Value.slice (some (Addr.mk ab (i*pg) none)) pg (pg*k-i*pg))) (PT.node (some (Value.bool false)) PT.leaf PT.leaf) (PT.node (some (i64 0)) PT.leaf PT.leaf)) 3 0))
def s13b_h3 (pg:Nat) (k:Nat) (ab:Nat) (b:Nat) (i:Nat) (bc:PT Value) (h:AH):AH:=AH.new (AH.put (AH.put (AH.mk (AH.next h+24) (AH.mem h) []) (AH.next h+18) (some (AObj.cells (PT.node (some (Value.slice (some (Addr.mk ab (i*pg) none)) pg (pg*k-i*pg))) (PT.node (some (Value.bool false)) PT.leaf PT.leaf) (PT.node (some (i64 0)) PT.leaf PT.leaf)) 3 0))) b none) (AObj.cells (PT.puts bc (i*3) [Value.slice (some (Addr.mk ab (i*pg) none)) pg (pg*k-i*pg),Value.bool false,i64 0]) ((i+1)*3) 255)
def s13b_h4 (pg:Nat) (k:Nat) (f:Nat) (a:Nat) (ab:Nat) (b:Nat) (i:Nat) (fc:PT Value) (bc:PT Value) (h:AH):AH:=AH.put (AH.new (AH.put (AH.put (AH.mk (AH.next h+24) (AH.mem h) []) (AH.next h+18) (some (AObj.cells (PT.node (some (Value.slice (some (Addr.mk ab (i*pg) none)) pg (pg*k-i*pg))) (PT.node (some (Value.bool false)) PT.leaf PT.leaf) (PT.node (some (i64 0)) PT.leaf PT.leaf)) 3 0))) b none) (AObj.cells (PT.puts bc (i*3) [Value.slice (some (Addr.mk ab (i*pg) none)) pg (pg*k-i*pg),Value.bool false,i64 0]) ((i+1)*3) 255)) f (some (AObj.cells (PT.put fc (a+3) (some (Value.slice (some (Addr.mk (AH.next h+24) 0 none)) (i+1) 4611686018427387907))) 11 0))
noncomputable def s13b_fo (C:Oracle) (pg:Nat) (k:Nat) (bx:Nat) (f:Nat) (a:Nat) (ab:Nat) (b:Nat) (i:Nat) (tm:Tm) (fc:PT Value) (bc:PT Value) (h:AH):Fo:=[(2,(Value.bool true),none),
  (9,(ptr (f) (a+3)),none),
  (10,(sl (b) (0) (i) (4611686018427387907)),none),
  (14,(i64 (i*pg)),none),
  (16,(i64 (i+1)),none),
  (18,(i64 ((i+1)*pg)),none),
  (19,(sl (ab) (i*pg) (pg) (pg*k-i*pg)),none),
  (22,(sl (AH.next h+24) (0) (i+1) (4611686018427387907)),some (s13b_h3 pg k ab b i bc h)),
  (25,(ptr (f) (a+3)),none),
  (26,(junk),some (s13b_h4 pg k f a ab b i fc bc h)),
  (28,(i64 (i+1)),none)]
noncomputable def s13b_s (C:Oracle) (pg:Nat) (k:Nat) (bx:Nat) (f:Nat) (a:Nat) (ab:Nat) (b:Nat) (i:Nat) (tm:Tm) (fc:PT Value) (bc:PT Value) (h:AH):SY:=syP envT C 112 (BIG) (s13b_fo C pg k bx f a ab b i tm fc bc h) [] (X_13) (t_13 pg k bx f a ab i tm) (h)
theorem s13b_ok (C:Oracle) (pg:Nat) (k:Nat) (bx:Nat) (f:Nat) (a:Nat) (ab:Nat) (b:Nat) (i:Nat) (tm:Tm) (fc:PT Value) (bc:PT Value) (h:AH):SyP envT C 112 (BIG) (s13b_fo C pg k bx f a ab b i tm fc bc h) [] (X_13) (t_13 pg k bx f a ab i tm) (h) .normal (SY.t (s13b_s C pg k bx f a ab b i tm fc bc h)) ((s13b_h4 pg k f a ab b i fc bc h)) (SY.c (s13b_s C pg k bx f a ab b i tm fc bc h)):=⟨30,by kernel_rfl⟩
theorem s13b_c (C:Oracle) (pg:Nat) (k:Nat) (bx:Nat) (f:Nat) (a:Nat) (ab:Nat) (b:Nat) (i:Nat) (tm:Tm) (fc:PT Value) (bc:PT Value) (h:AH):SY.c (s13b_s C pg k bx f a ab b i tm fc bc h)=
  [some (Value.int IntKind.i64 (wr IntKind.i64 (Int.ofNat (i+1))),(s13b_h4 pg k f a ab b i fc bc h))=some ((i64 (i+1)),(s13b_h4 pg k f a ab b i fc bc h)),
   AH.cell ((s13b_h2 pg k ab i h)) (f) (a+3)=some (sl (b) (0) (i) (4611686018427387907)),
   ((AH.st ((s13b_h3 pg k ab b i bc h)) (f) (a+3) (sl (AH.next h+24) (0) (i+1) (4611686018427387907))).bind fun zh=>some (junk,zh))=some ((junk),(s13b_h4 pg k f a ab b i fc bc h)),
   (((ixOk (Int.ofNat a) (3)).bind fun zm=>some (ptr (f) (3+zm*1))).bind fun zv=>some (zv,(s13b_h3 pg k ab b i bc h)))=some ((ptr (f) (a+3)),(s13b_h3 pg k ab b i bc h)),
   hApp 127 3 40 (sl (b) (0) (i) (4611686018427387907)) (sl (AH.next h+18) (0) (1) (1)) ((s13b_h2 pg k ab i h))=some ((sl (AH.next h+24) (0) (i+1) (4611686018427387907)),(s13b_h3 pg k ab b i bc h)),
   ((slS 1 (sl (ab) (0) (pg*k) (pg*k)) (some (i64 (i*pg))) (some (i64 ((i+1)*pg))) none).bind fun zv=>some (zv,(s13b_h1 h)))=some ((sl (ab) (i*pg) (pg) (pg*k-i*pg)),(s13b_h1 h)),
   some (Value.int IntKind.i64 (wr IntKind.i64 (Int.ofNat ((i+1)*pg))),(s13b_h1 h))=some ((i64 ((i+1)*pg)),(s13b_h1 h)),
   some (Value.int IntKind.i64 (wr IntKind.i64 (Int.ofNat (i+1))),(s13b_h1 h))=some ((i64 (i+1)),(s13b_h1 h)),
   some (Value.int IntKind.i64 (wr IntKind.i64 (Int.ofNat (i*pg))),(s13b_h1 h))=some ((i64 (i*pg)),(s13b_h1 h)),
   ((AH.cell ((s13b_h1 h)) (f) (a+3)).bind fun zv=>some (zv,(s13b_h1 h)))=some ((sl (b) (0) (i) (4611686018427387907)),(s13b_h1 h)),
   (((ixOk (Int.ofNat a) (3)).bind fun zm=>some (ptr (f) (3+zm*1))).bind fun zv=>some (zv,(s13b_h1 h)))=some ((ptr (f) (a+3)),(s13b_h1 h)),
   some (Value.bool (ilt (Int.ofNat i) (Int.ofNat k)),h)=some ((Value.bool true),h)]:=by kernel_rfl
theorem s13b_t (C:Oracle) (pg:Nat) (k:Nat) (bx:Nat) (f:Nat) (a:Nat) (ab:Nat) (b:Nat) (i:Nat) (tm:Tm) (fc:PT Value) (bc:PT Value) (h:AH):SY.t (s13b_s C pg k bx f a ab b i tm fc bc h) 0=(i64 pg)∧SY.t (s13b_s C pg k bx f a ab b i tm fc bc h) 1=(i64 k)∧SY.t (s13b_s C pg k bx f a ab b i tm fc bc h) 7=(ptr (bx) (0))∧SY.t (s13b_s C pg k bx f a ab b i tm fc bc h) 10=(ptr (f) (0))∧SY.t (s13b_s C pg k bx f a ab b i tm fc bc h) 11=(i64 a)∧SY.t (s13b_s C pg k bx f a ab b i tm fc bc h) 12=(sl (ab) (0) (pg*k) (pg*k))∧SY.t (s13b_s C pg k bx f a ab b i tm fc bc h) 13=(i64 (i+1)):=⟨by kernel_rfl,by kernel_rfl,by kernel_rfl,by kernel_rfl,by kernel_rfl,by kernel_rfl,by kernel_rfl⟩
theorem s13b (C:Oracle) (pg k bx f a ab b i:Nat) (tm:Tm) (fc bc:PT Value) (h:AH) (hp:64≤pg) (hp2:pg≤4096) (hk:1≤k) (hk2:k≤4096) (hM2:pg*k≤16777216) (he:(i+1)*pg=i*pg+pg) (hi2:i*pg+pg≤pg*k) (hi:i<k) (hi1:1≤i) (ha:a<2) (hf:f<h.next) (hbn:b<h.next) (hfb:f≠b) (gO:h.get f=some (.cells fc 11 0)) (gA:h.cell f (a+3)=some (sl b 0 i 4611686018427387907)) (gB:h.get b=some (.cells bc (i*3) 255)) (hfc:fc.get (a+3)=some (sl b 0 i 4611686018427387907)):∃ T:Tm,(∀ K,evF envT C 112 (BIG) (X_13) K (t_13 pg k bx f a ab i tm) (h)=K .normal T ((s13b_h4 pg k f a ab b i fc bc h)))∧T 0=(i64 pg)∧T 1=(i64 k)∧T 7=(ptr (bx) (0))∧T 10=(ptr (f) (0))∧T 11=(i64 a)∧T 12=(sl (ab) (0) (pg*k) (pg*k))∧T 13=(i64 (i+1)):=
  ⟨SY.t (s13b_s C pg k bx f a ab b i tm fc bc h),fun K=>SyP.on (s13b_ok C pg k bx f a ab b i tm fc bc h) (by
    rw [s13b_c]
    exact goodY_cons (cI (wrE 9223372036854775808 rfl (by first|rfl|omega|simp (disch:=omega) [Nat.div_self,Nat.div_div_eq_div_mul,Nat.mul_div_cancel]) (by omega)))<|
  goodY_cons (cP (by first|omega|(simp only [AH.new_next,nx_put,nx_up];omega)) (cM (gA)))<|
  goodY_cons (kr (stE (gN (by first|omega|(simp only [AH.new_next,nx_put,nx_up];omega)) (gP (by first|omega|(simp only [AH.new_next,nx_put,nx_up];omega)) (gP (by first|omega|(simp only [AH.new_next,nx_put,nx_up];omega)) (gM (gO))))) hfc) (by kernel_rfl))<|
  goodY_cons (ixS (by omega) (by first|rfl|omega|simp (disch:=omega) [Nat.div_self,Nat.div_div_eq_div_mul,Nat.mul_div_cancel]))<|
  goodY_cons (kr (appG (by omega) (gP (by first|omega|(simp only [AH.new_next,nx_put,nx_up];omega)) (gM (gB)))  (u:=(sl (ab) (i*pg) (pg) (pg*k-i*pg))) (v:=(Value.bool false)) (w:=(i64 0)) (cell_of (gQ) (by kernel_rfl)) (cell_of (gQ) (by kernel_rfl)) (cell_of (gQ) (by kernel_rfl))) (by kernel_rfl))<|
  goodY_cons (slU_k (vNat_some (by omega)) (vNat_some (by omega)) (by omega) (by omega) (by first|rfl|omega|simp (disch:=omega) [Nat.div_self,Nat.div_div_eq_div_mul,Nat.mul_div_cancel]) (by first|rfl|omega|simp (disch:=omega) [Nat.div_self,Nat.div_div_eq_div_mul,Nat.mul_div_cancel]) (by first|rfl|omega|simp (disch:=omega) [Nat.div_self,Nat.div_div_eq_div_mul,Nat.mul_div_cancel]))<|
  goodY_cons (cI (wrE 9223372036854775808 rfl (by first|rfl|omega|simp (disch:=omega) [Nat.div_self,Nat.div_div_eq_div_mul,Nat.mul_div_cancel]) (by omega)))<|
  goodY_cons (cI (wrE 9223372036854775808 rfl (by first|rfl|omega|simp (disch:=omega) [Nat.div_self,Nat.div_div_eq_div_mul,Nat.mul_div_cancel]) (by omega)))<|
  goodY_cons (cI (wrE 9223372036854775808 rfl (by first|rfl|omega|simp (disch:=omega) [Nat.div_self,Nat.div_div_eq_div_mul,Nat.mul_div_cancel]) (by omega)))<|
  goodY_cons (ldE (cM (gA)))<|
  goodY_cons (ixS (by omega) (by first|rfl|omega|simp (disch:=omega) [Nat.div_self,Nat.div_div_eq_div_mul,Nat.mul_div_cancel]))<|
  goodY_cons (cB (congrArg (fun z=>z) (ltT (by omega):ilt (Int.ofNat i) (Int.ofNat k)=true)))<|
  goodY_nil) K,s13b_t C pg k bx f a ab b i tm fc bc h⟩
noncomputable def e13_fo (C:Oracle) (pg:Nat) (k:Nat) (bx:Nat) (f:Nat) (a:Nat) (ab:Nat) (tm:Tm) (h:AH):Fo:=[(2,(Value.bool false),none)]
noncomputable def e13_s (C:Oracle) (pg:Nat) (k:Nat) (bx:Nat) (f:Nat) (a:Nat) (ab:Nat) (tm:Tm) (h:AH):SY:=syP envT C 112 (BIG) (e13_fo C pg k bx f a ab tm h) [] (X_13) (t_13 pg k bx f a ab k tm) (h)
theorem e13_ok (C:Oracle) (pg:Nat) (k:Nat) (bx:Nat) (f:Nat) (a:Nat) (ab:Nat) (tm:Tm) (h:AH):SyP envT C 112 (BIG) (e13_fo C pg k bx f a ab tm h) [] (X_13) (t_13 pg k bx f a ab k tm) (h) (.exit 2) (SY.t (e13_s C pg k bx f a ab tm h)) (h) (SY.c (e13_s C pg k bx f a ab tm h)):=⟨3,by kernel_rfl⟩
theorem e13_c (C:Oracle) (pg:Nat) (k:Nat) (bx:Nat) (f:Nat) (a:Nat) (ab:Nat) (tm:Tm) (h:AH):SY.c (e13_s C pg k bx f a ab tm h)=
  [some (Value.bool (ilt (Int.ofNat k) (Int.ofNat k)),h)=some ((Value.bool false),h)]:=by kernel_rfl
theorem e13_t (C:Oracle) (pg:Nat) (k:Nat) (bx:Nat) (f:Nat) (a:Nat) (ab:Nat) (tm:Tm) (h:AH):SY.t (e13_s C pg k bx f a ab tm h) 0=(i64 pg)∧SY.t (e13_s C pg k bx f a ab tm h) 1=(i64 k)∧SY.t (e13_s C pg k bx f a ab tm h) 7=(ptr (bx) (0))∧SY.t (e13_s C pg k bx f a ab tm h) 10=(ptr (f) (0))∧SY.t (e13_s C pg k bx f a ab tm h) 11=(i64 a):=⟨by kernel_rfl,by kernel_rfl,by kernel_rfl,by kernel_rfl,by kernel_rfl⟩
theorem e13 (C:Oracle) (pg k bx f a ab:Nat) (tm:Tm) (h:AH) (hk2:k≤4096):∃ T:Tm,(∀ K,evF envT C 112 (BIG) (X_13) K (t_13 pg k bx f a ab k tm) (h)=K (.exit 2) T (h))∧T 0=(i64 pg)∧T 1=(i64 k)∧T 7=(ptr (bx) (0))∧T 10=(ptr (f) (0))∧T 11=(i64 a):=
  ⟨SY.t (e13_s C pg k bx f a ab tm h),fun K=>SyP.on (e13_ok C pg k bx f a ab tm h) (by
    rw [e13_c]
    exact goodY_cons (cB (congrArg (fun z=>z) (ltF (by omega):ilt (Int.ofNat k) (Int.ofNat k)=false)))<|
  goodY_nil) K,e13_t C pg k bx f a ab tm h⟩
structure In_13 (pg k bx f a ab i:Nat) (tm:Tm):Prop where
  t0:tm 0=i64 pg
  t1:tm 1=i64 k
  t7:tm 7=ptr bx 0
  t10:tm 10=ptr f 0
  t11:tm 11=i64 a
  t12:tm 12=sl ab 0 (pg*k) (pg*k)
  t13:tm 13=i64 i
theorem In_13.eq {pg k bx f a ab i:Nat} {tm:Tm} (t:In_13 pg k bx f a ab i tm):t_13 pg k bx f a ab i tm=tm:=by
  refine tmK_self _ _ fun p hp=>?_
  simp only [List.mem_cons,List.not_mem_nil,or_false] at hp
  rcases hp with rfl|rfl|rfl|rfl|rfl|rfl|rfl
  · exact t.t0
  · exact t.t1
  · exact t.t7
  · exact t.t10
  · exact t.t11
  · exact t.t12
  · exact t.t13
structure J13 (f a ab pg k:Nat) (fc0:PT Value) (h0:AH) (i:Nat) (h:AH):Prop where
  nx:h0.next≤h.next
  lf:f<h0.next
  lim:∀ b,h.next≤b→h.get b=none
  old:∀ b,b<h0.next→b≠f→h.get b=h0.get b
  fl:∃ fc,h.get f=some (.cells fc 11 0)∧(∀ o,o≠a+3→fc.get o=fc0.get o) ∧
    ((i=0∧fc.get (a+3)=some (.slice none 0 0))∨(1≤i∧∃ b bc,fc.get (a+3)=some (sl b 0 i 4611686018427387907)∧h.get b=some (.cells bc (i*3) 255)∧h0.next≤b∧b<h.next∧∀ q,q<i→bc.get (q*3)=some (sl ab (q*pg) pg (pg*k-q*pg))∧bc.get (q*3+1)=some (.bool false)∧bc.get (q*3+2)=some (i64 0)))
theorem loop_13 {C:Oracle} {pg k bx f a ab:Nat} {fc0:PT Value} {h0:AH} (hp:64≤pg) (hp2:pg≤4096) (hk:1≤k) (hk2:k≤4096) (hM2:pg*k≤16777216) (ha:a<2) :
    ∀ (r M i:Nat) (tm:Tm) (h:AH),i+r=k→r<M→In_13 pg k bx f a ab i tm→J13 f a ab pg k fc0 h0 i h →
      ∃ T h',(∀ K,loopK M (fun G=>evF envT C 112 BIG X_13 (thenK G K)) tm h=K (.exit 2) T h')∧(T 0=i64 pg∧T 1=i64 k∧T 7=ptr bx 0∧T 10=ptr f 0∧T 11=i64 a)∧J13 f a ab pg k fc0 h0 k h':=by
  intro r
  induction r with
  | zero=>
    intro M i tm h hi hM t J
    obtain ⟨M,rfl⟩:∃ m',M=m'+1:=⟨M-1,by omega⟩
    obtain rfl:i=k:=by omega
    obtain ⟨T,h1,q0,q1,q7,q10,q11⟩:=e13 C pg i bx f a ab tm h hk2
    rw [t.eq] at h1
    exact ⟨T,h,fun K=>loop_out (fun h=>by cases h) h1,⟨q0,q1,q7,q10,q11⟩,J⟩
  | succ r ih=>
    intro M i tm h hi hM t J
    obtain ⟨M,rfl⟩:∃ m',M=m'+1:=⟨M-1,by omega⟩
    have hik:(i+1)*pg≤pg*k:=by
      rw [Nat.mul_comm pg k]
      exact Nat.mul_le_mul_right pg (by omega)
    have he:(i+1)*pg=i*pg+pg:=by rw [Nat.add_mul,Nat.one_mul]
    have lf:=J.lf;have nx:=J.nx
    obtain ⟨fc,g1,g2,g3⟩:=J.fl
    rcases g3 with ⟨rfl,g3⟩|⟨h1i,b,bc,g3,g4,g5,g6,g7⟩
    · have hpk:pg≤pg*k:=by omega
      obtain ⟨T,s1,q0,q1,q7,q10,q11,q12,q13⟩:=s13a C pg k bx f a ab tm fc h hp hp2 hk hk2 hM2 hpk ha (by omega) g1 (cell_of g1 g3) g3
      rw [t.eq] at s1
      generalize hH:s13a_h4 pg k f a ab fc h=H at s1
      have nH:H.next=h.next+25:=by subst hH;rfl
      have J2:J13 f a ab pg k fc0 h0 1 H:=by
        refine ⟨by omega,lf,fun b hb=>?_,fun b hb hbf=>?_,?_⟩
        · rw [nH] at hb
          subst hH
          simp only [s13a_h4,AH.get_put,get_mk,mem_get,AH.get_new,nx_put]
          repeat rw [if_neg (by omega)]
          exact J.lim b (by omega)
        · subst hH
          simp only [s13a_h4,AH.get_put,get_mk,mem_get,AH.get_new,nx_put]
          repeat rw [if_neg (by omega)]
          exact J.old b hb hbf
        · refine ⟨PT.put fc (a+3) (some (sl (h.next+24) 0 1 4611686018427387907)),by subst hH;exact get_putS,fun o ho=>?_,.inr ⟨Nat.le_refl _,h.next+24,PT.ofList [sl ab 0 pg (pg*k),.bool false,i64 0] 0 .leaf,?_,?_,by omega,by omega,fun q hq=>?_⟩⟩
          · rw [PT.get_put,if_neg ho];exact g2 o ho
          · rw [PT.get_put,if_pos rfl]
          · subst hH
            simp only [s13a_h4,AH.get_put,get_mk,mem_get,AH.get_new,nx_put]
            rw [if_neg (by omega),if_pos trivial] <;> rfl
          · obtain rfl:q=0:=by omega
            simp only [Nat.zero_mul,Nat.sub_zero];exact ⟨rfl,rfl,rfl⟩
      obtain ⟨T',h',l1,l2,l3⟩:=ih M 1 T H (by omega) (by omega) ⟨q0,q1,q7,q10,q11,q12,q13⟩ J2
      exact ⟨T',h',fun K=>(loop_on s1).trans (l1 K),l2,l3⟩
    · obtain ⟨T,s1,q0,q1,q7,q10,q11,q12,q13⟩:=s13b C pg k bx f a ab b i tm fc bc h hp hp2 hk hk2 hM2 he (by omega) (by omega) h1i ha (by omega) g6 (by omega) g1 (cell_of g1 g3) g4 g3
      rw [t.eq] at s1
      generalize hH:s13b_h4 pg k f a ab b i fc bc h=H at s1
      have nH:H.next=h.next+25:=by subst hH;rfl
      have J2:J13 f a ab pg k fc0 h0 (i+1) H:=by
        refine ⟨by omega,lf,fun b' hb=>?_,fun b' hb hbf=>?_,?_⟩
        · rw [nH] at hb
          subst hH
          simp only [s13b_h4,AH.get_put,get_mk,mem_get,AH.get_new,nx_put]
          repeat rw [if_neg (by omega)]
          exact J.lim b' (by omega)
        · subst hH
          simp only [s13b_h4,AH.get_put,get_mk,mem_get,AH.get_new,nx_put]
          repeat rw [if_neg (by omega)]
          exact J.old b' hb hbf
        · refine ⟨PT.put fc (a+3) (some (sl (h.next+24) 0 (i+1) 4611686018427387907)),by subst hH;exact get_putS,fun o ho=>?_,.inr ⟨by omega,h.next+24,PT.puts bc (i*3) [sl ab (i*pg) pg (pg*k-i*pg),.bool false,i64 0],?_,?_,by omega,by omega,fun q hq=>?_⟩⟩
          · rw [PT.get_put,if_neg ho];exact g2 o ho
          · rw [PT.get_put,if_pos rfl]
          · subst hH
            simp only [s13b_h4,AH.get_put,get_mk,mem_get,AH.get_new,nx_put]
            rw [if_neg (by omega),if_pos trivial] <;> rfl
          · rw [PT.get_puts,PT.get_puts,PT.get_puts]
            by_cases e:q=i
            · subst e
              rw [if_pos ⟨Nat.le_refl _,by simp⟩,if_pos ⟨by omega,by simp⟩,if_pos ⟨by omega,by simp⟩,Nat.sub_self,Nat.add_sub_cancel_left,Nat.add_sub_cancel_left];exact ⟨rfl,rfl,rfl⟩
            · rw [if_neg (by omega),if_neg (by omega),if_neg (by omega)]
              exact g7 q (by omega)
      obtain ⟨T',h',l1,l2,l3⟩:=ih M (i+1) T H (by omega) (by omega) ⟨q0,q1,q7,q10,q11,q12,q13⟩ J2
      exact ⟨T',h',fun K=>(loop_on s1).trans (l1 K),l2,l3⟩
def fl0 (pg k:Nat):PT Value:=PT.ofList [i64 pg,i64 k,i64 0,.slice none 0 0,.slice none 0 0,.slice none 0 0,.slice none 0 0,.bool false,i64 0,.slice none 0 0,i64 0] 0 .leaf
def ar2 (a b pg:Nat):PT Value:=PT.ofList [sl a 0 pg pg,.bool true,i64 0,sl b 0 pg pg,.bool true,i64 0] 0 .leaf
structure NewR (pg k n:Nat) (xs:List Nat) (h h':AH) (f b ab a2 l0 l1:Nat):Prop where
  nx:h.next≤h'.next
  lim:∀ b,h'.next≤b→h'.get b=none
  old:∀ b,b<h.next→h'.get b=h.get b
  ids:h.next≤f∧h.next≤b∧h.next≤ab∧h.next≤a2∧h.next≤l0∧h.next≤l1
  nd:[f,b,ab,a2,l0,l1].Nodup
  fl:∃ fc,h'.get f=some (.cells fc 11 0)∧(∀ o,o≠3→o≠4→o≠5→fc.get o=(fl0 pg k).get o)∧fc.get 3=some (sl b 0 k 4611686018427387907)∧(∃ b1,fc.get 4=some (sl b1 0 k 4611686018427387907))∧fc.get 5=some (sl a2 0 2 2)
  pgs:∃ bc,h'.get b=some (.cells bc (k*3) 255)∧∀ q,q<k→bc.get (q*3)=some (sl ab (q*pg) pg (pg*k-q*pg))∧bc.get (q*3+1)=some (.bool false)∧bc.get (q*3+2)=some (i64 0)
  all:h'.get ab=some (.cells (PT.puts (fillC (zrep [u8 0] (pg*k)) 0 (pg*k)) 0 (xs.map u8)) (pg*k) 0)
  rcd:h'.get a2=some (.cells (ar2 l0 l1 pg) 6 0)
  bl0:h'.get l0=some (.cells (fillC (zrep [u8 0] pg) 0 pg) pg 0)
  bl1:h'.get l1=some (.cells (fillC (zrep [u8 0] pg) 0 pg) pg 0)
theorem new_ok {d pg k n c im:Nat} {ia:Option Addr} {xs:List Nat} {h:AH} (hia:IA ia im n c) (hp:64≤pg) (hp2:pg≤4096) (hk:1≤k) (hk2:k≤4096) (hM2:pg*k≤16777216) (hn:n≤pg*k) (hx:xs.length=n) (hb:∀ x ∈ xs,x<256) (hB:Bys h im 0 xs) (him:im<h.next) (lim:∀ b,h.next≤b→h.get b=none) :
    ∃ h' f b ab a2 l0 l1,denG envT (orcS envT tbSum BIG (d+1)) BIG 13 [i64 pg,i64 k,i64 0,.agg ⟨[.slice ia n c,.slice none 0 0]⟩] h=some (.tuple ⟨[ptr f 0,i64 0]⟩,h')∧NewR pg k n xs h h' f b ab a2 l0 l1:=by
  have hBIG:k<BIG:=Nat.lt_of_le_of_lt hk2 (by unfold BIG;decide)
  generalize hA:p13_h4 pg k n c ia xs h=A
  have nA:A.next=h.next+3:=by subst hA;rfl
  have gA:∀ b,b<h.next→A.get b=h.get b:=fun b hb=>by
    subst hA
    simp only [p13_h4,AH.get_put,AH.get_new,AH.new_next]
    repeat rw [if_neg (by omega)]
  have fA:A.get (h.next+1)=some (.cells (fl0 pg k) 11 0):=by
    subst hA
    simp only [p13_h4,AH.get_put,AH.get_new,AH.new_next]
    rw [if_neg (by omega),if_neg (by omega),if_pos trivial] <;> rfl
  have bA:A.get h.next=some (.cells (PT.ofList [.slice ia n c,.slice none 0 0] 0 .leaf) 2 0):=by
    subst hA
    simp only [p13_h4,AH.get_put,AH.get_new,AH.new_next]
    rw [if_neg (by omega),if_neg (by omega),if_neg (by omega),if_pos trivial] <;> rfl
  have aA:A.get (h.next+2)=some (.cells (PT.puts (fillC (zrep [u8 0] (pg*k)) 0 (pg*k)) 0 (xs.map u8)) (pg*k) 0):=by subst hA;exact get_putS
  have lA:∀ b,A.next≤b→A.get b=none:=fun b hb=>by
    rw [nA] at hb
    subst hA
    simp only [p13_h4,AH.get_put,AH.get_new,AH.new_next]
    repeat rw [if_neg (by omega)]
    exact lim b (by omega)
  have JA:J13 (h.next+1) 0 (h.next+2) pg k (fl0 pg k) A 0 A:=⟨Nat.le_refl _,by omega,lA,fun _ _ _=>rfl,fl0 pg k,fA,fun _ _=>rfl,.inl ⟨rfl,rfl⟩⟩
  obtain ⟨T1,h2,l1,⟨q0,q1,q7,q10,q11⟩,J1⟩:=loop_13 (C:=orcS envT tbSum BIG (d+1)) (bx:=h.next) hp hp2 hk hk2 hM2 (by omega) k BIG 0 (p13_t0 pg k n c ia h) A (by omega) hBIG ⟨by kernel_rfl,by kernel_rfl,by kernel_rfl,by kernel_rfl,by kernel_rfl,by kernel_rfl,by kernel_rfl⟩ JA
  obtain ⟨fc1,f1,f2,f3⟩:=J1.fl
  rcases f3 with ⟨rfl,_⟩|⟨_,b,bc,f3,f4,f5,f6,f7⟩
  · omega
  have n2:=J1.nx
  have e1:tmK [(0,i64 pg),(1,i64 k),(7,ptr h.next 0),(10,ptr (h.next+1) 0),(11,i64 0)] T1=T1:=tmK_self _ _ fun p hp=>by
    simp only [List.mem_cons,List.not_mem_nil,or_false] at hp
    rcases hp with rfl|rfl|rfl|rfl|rfl
    · exact q0
    · exact q1
    · exact q7
    · exact q10
    · exact q11
  have g7:h2.cell h.next 1=some (.slice none 0 0):=cell_eq (J1.old h.next (by omega) (by omega)) (cell_of bA rfl)
  have gB:∀ b,b≠h2.next→(p13_h5 pg k h2).get b=h2.get b:=fun b hb=>get_newN hb
  have nB:(p13_h5 pg k h2).next=h2.next+1:=rfl
  have JB:J13 (h.next+1) 1 h2.next pg k fc1 (p13_h5 pg k h2) 0 (p13_h5 pg k h2):=⟨Nat.le_refl _,by omega,fun b hb=>by rw [gB b (by omega)];exact J1.lim b (by omega),fun _ _ _=>rfl,fc1,(gB _ (by omega)).trans f1,fun _ _=>rfl,.inl ⟨rfl,(f2 4 (by omega)).trans rfl⟩⟩
  obtain ⟨T2,h3,m1,⟨r0,r1,r7,r10,r11⟩,J2⟩:=loop_13 (C:=orcS envT tbSum BIG (d+1)) (bx:=h.next) hp hp2 hk hk2 hM2 (by omega) k BIG 0 (p13_t1 pg k T1 h h2) (p13_h5 pg k h2) (by omega) hBIG ⟨by kernel_rfl,by kernel_rfl,by kernel_rfl,by kernel_rfl,by kernel_rfl,by kernel_rfl,by kernel_rfl⟩ JB
  obtain ⟨fc2,g1,g2,g3⟩:=J2.fl
  rcases g3 with ⟨rfl,_⟩|⟨_,b1,bc1,g3,g4,g5,g6,_⟩
  · omega
  have n3:=J2.nx
  have e2:tmK [(0,i64 pg),(1,i64 k),(7,ptr h.next 0),(10,ptr (h.next+1) 0),(11,i64 1)] T2=T2:=tmK_self _ _ fun p hp=>by
    simp only [List.mem_cons,List.not_mem_nil,or_false] at hp
    rcases hp with rfl|rfl|rfl|rfl|rfl
    · exact r0
    · exact r1
    · exact r7
    · exact r10
    · exact r11
  have hr:=p13 (orcS envT tbSum BIG (d+1)) pg k n c im ia xs fc2 T1 T2 h h2 h3 hia hp hp2 hk hk2 hM2 hn hx hb hB him (fun a=>c42 a) (fun K=>by rw [e1,hA];exact l1 K) g7 (fun K=>by rw [e2];exact m1 K) g1 ((g2 5 (by omega)).trans ((f2 5 (by omega)).trans rfl)) (by omega) (by omega)
  generalize hH:p13_h10 pg fc2 h h3=H at hr
  have nH:H.next=h3.next+14:=by subst hH;rfl
  have old3:∀ b,b<h3.next→b≠h.next+1→H.get b=h3.get b:=fun b hb hf=>by
    subst hH
    simp only [p13_h10,AH.get_put,get_mk,mem_get,AH.get_new,nx_put,AH.new_next]
    repeat rw [if_neg (by omega)]
  have old2:∀ b,b<h2.next→b≠h.next+1→H.get b=h2.get b:=fun b hb hf=>by
    rw [old3 b (by omega) hf,J2.old b (by omega) hf,gB b (by omega)]
  refine ⟨H,h.next+1,b,h.next+2,h3.next+7,h3.next+12,h3.next+13,hr,by omega,fun b hb=>?_,fun b hb=>?_,⟨by omega,by omega,by omega,by omega,by omega,by omega⟩,?_,?_,⟨bc,(old2 b f6 (by omega)).trans f4,f7⟩,?_,?_,?_,?_⟩
  · rw [nH] at hb
    subst hH
    simp only [p13_h10,AH.get_put,get_mk,mem_get,AH.get_new,nx_put,AH.new_next]
    repeat rw [if_neg (by omega)]
    exact J2.lim b (by omega)
  · rw [old2 b (by omega) (by omega),J1.old b (by omega) (by omega),gA b hb]
  · simp only [List.nodup_cons,List.mem_cons,List.not_mem_nil,or_false,not_or,List.nodup_nil,not_false_eq_true,and_true]
    omega
  · refine ⟨PT.put fc2 5 (some (sl (h3.next+7) 0 2 2)),by subst hH;exact get_putS,fun o h3' h4' h5'=>?_,?_,⟨b1,?_⟩,?_⟩
    · rw [PT.get_put,if_neg h5',g2 o (by omega),f2 o (by omega)]
    · rw [PT.get_put,if_neg (by omega),g2 3 (by omega)];exact f3
    · rw [PT.get_put,if_neg (by omega)];exact g3
    · rw [PT.get_put,if_pos rfl]
  · rw [old2 _ (by omega) (by omega),J1.old _ (by omega) (by omega)];exact aA
  · subst hH
    simp only [p13_h10,AH.get_put,get_mk,mem_get,AH.get_new,nx_put,AH.new_next]
    rw [if_neg (by omega),if_pos trivial] <;> rfl
  · subst hH
    simp only [p13_h10,AH.get_put,get_mk,mem_get,AH.get_new,nx_put,AH.new_next]
    rw [if_neg (by omega),if_neg (by omega),if_neg (by omega),if_pos trivial]
  · subst hH
    simp only [p13_h10,AH.get_put,get_mk,mem_get,AH.get_new,nx_put,AH.new_next]
    rw [if_neg (by omega),if_neg (by omega),if_pos trivial]
end Go.Proofs.YtejgabehfdapjaaGreat.Sym
namespace Go.Proofs.YtejgabehfdapjaaGreat.Sym
open Go.Den
theorem appN1 {e b c:Nat} {H:AH} {u:Value} (h0:H.cell b 0=some u) (o0:oneC u=true:=by rfl) :
    hApp e 1 1 (.slice none 0 0) (sl b 0 1 c) H=some (sl H.next 0 1 4611686018427387905,H.new (.cells (PT.ofList [u] 0 .leaf) 1 (2*e+1))):=by
  have hr:rdV 1 1 (sl b 0 1 c) H=some [u]:=by
    show H.cellsN b 0 1=_
    simp only [AH.cellsN,h0,Option.bind_some]
  have ha:allC [u]=true:=by simp only [allC,o0,cond_true]
  unfold hApp
  show ((rdV 1 1 (sl b 0 1 c) H).bind _)=_
  rw [hr]
  simp only [Option.bind_some,ha]
  rfl
theorem appG1 {e b c b2 m:Nat} {H:AH} {bc:PT Value} {u:Value} (hm:m≤99999999) (hb:H.get b=some (.cells bc m (2*e+1))) (h0:H.cell b2 0=some u) (o0:oneC u=true:=by rfl) :
    hApp e 1 1 (sl b 0 m 4611686018427387905) (sl b2 0 1 c) H=some (sl H.next 0 (m+1) 4611686018427387905,(H.put b none).new (.cells (PT.puts bc m [u]) (m+1) (2*e+1))):=by
  have hr:rdV 1 1 (sl b2 0 1 c) H=some [u]:=by
    show H.cellsN b2 0 1=_
    simp only [AH.cellsN,h0,Option.bind_some]
  have ha:allC [u]=true:=by simp only [allC,o0,cond_true]
  have hg:grown H b 0 m [u]=some (PT.puts bc m [u]):=by
    unfold grown
    rw [hb]
    show (bif Nat.beq 0 0 && Nat.beq m m then _ else _)=_
    rw [Nat.beq_refl m] <;> rfl
  have ht:tyB H b e=2*e+1:=by
    unfold tyB
    rw [hb]
    show (bif Nat.beq (2*e+1) (2*e+1) then _ else _)=_
    rw [Nat.beq_refl (2*e+1)] <;> rfl
  unfold hApp
  show ((rdV 1 1 (sl b2 0 1 c) H).bind _)=_
  rw [hr]
  simp only [Option.bind_some,ha]
  show (bif roomOk (m+1) 1 then (bif Nat.beq 4611686018427387905 (unk 1) then (grown H b 0 (m*1) [u]).bind _ else _) else none)=_
  rw [roomS (by omega),Nat.mul_one,hg,ht]
  show some (_,_)=some (_,_)
  rw [Nat.mul_one] <;> rfl
noncomputable def fi_68:FI:=match envT.fn 68 with|some x=>x|none=>⟨.skip,0,#[]⟩
def p68_h1 (h:AH):AH:=AH.mk (AH.next h+13) (AH.mem h) []
noncomputable def p68_t0 (f:Nat) (pg:Nat) (k:Nat) (n:Nat) (pb:Nat):Tm:=stoF (stoF (stoF (stoF (stoF (stoF (stoF (stoF (stoF (stoF (stoF (stoF (stoF (stoF (stoF (stoF (stoF (stoF (stoF (stoF (stoF (stoF (stoF (stoF (stoF (stoF (stoF (stoF (stoF (stoF (stoF (stoF (stoF (stoF (cutF 88 (stoF (stoF (stoF (stoF (stoF (stoF (stoF (stoF (stoF (stoF (stoF (stoF (fun i=>gt ([Value.pointer (some (Addr.mk f 0 none)),i64 0,i64 0,i64 n]++List.replicate 84 undV) i) (some 8) (Value.slice none 0 0)) (some 9) (i64 0)) (some 13) (Value.pointer (some (Addr.mk f 0 none)))) (some 14) (Value.pointer (some (Addr.mk f 0 none)))) (some 15) (Value.pointer (some (Addr.mk f 7 none)))) (some 16) (Value.bool false)) (some 17) (i64 0)) (some 18) (Value.bool false)) (some 19) (Value.bool false)) (some 20) (i64 0)) (some 21) (Value.bool false)) (some 22) (Value.bool false))) (some 23) (Value.pointer (some (Addr.mk f 0 none)))) (some 24) (i64 0)) (some 25) (Value.pointer (some (Addr.mk f 0 none)))) (some 26) (Value.pointer (some (Addr.mk f 3 none)))) (some 27) (Value.pointer (some (Addr.mk f 3 none)))) (some 28) (Value.slice (some (Addr.mk pb 0 none)) k 4611686018427387907)) (some 29) (i64 k)) (some 30) (Value.pointer (some (Addr.mk f 0 none)))) (some 31) (Value.pointer (some (Addr.mk f 0 none)))) (some 32) (Value.pointer (some (Addr.mk f 0 none)))) (some 33) (i64 pg)) (some 34) (i64 ((k*pg)))) (some 10) (i64 ((k*pg)))) (some 35) (i64 0)) (some 36) (Value.bool false)) (some 37) (Value.bool false)) (some 38) (i64 n)) (some 39) (Value.bool false)) (some 40) (Value.bool false)) (some 41) (Value.bool false)) (some 42) (i64 0)) (some 43) (i64 ((k*pg)))) (some 44) (Value.bool false)) (some 45) (Value.bool false)) (some 46) (Value.bool false)) (some 47) (i64 n)) (some 48) (i64 ((k*pg)))) (some 49) (i64 0)) (some 50) (i64 ((k*pg)))) (some 51) (Value.bool false)) (some 52) (Value.bool false)) (some 11) (Value.slice none 0 0)) (some 53) (i64 0)) (some 12) (i64 0)
theorem p68_ok (C:Oracle) (f:Nat) (pg:Nat) (k:Nat) (n:Nat) (pb:Nat) (M:Nat) (b:Nat) (T:Tm) (h:AH) (h2:AH):syR envT C (BIG) [(5,(Value.bool false),none),
  (17,(sl (pb) (0) (k) (4611686018427387907)),none),
  (22,(i64 pg),none),
  (23,(i64 (k*pg)),none),
  (40,(i64 (k*pg)),none),
  (41,(Value.bool false),none)] [(46,Ex.exit 0,tmK [(11,sl b 0 n 4611686018427387905)] T,(h2))] 68 [(ptr (f) (0)),(i64 0),(i64 0),(i64 n)] (h)=some ((Value.tuple (Array.mk [Value.slice (some (Addr.mk b 0 none)) n 4611686018427387905,i64 0])),(h2),
  [∀ K:Kont,loopK BIG (fun G=>evF envT C 88 BIG (atP (fi_68.body) [2,2,2,2,2,2,1,2,1,1]) (thenK G K)) (p68_t0 f pg k n pb) (p68_h1 h)=K (Ex.exit 0) (tmK [(11,sl b 0 n 4611686018427387905)] T) (h2),
   some (Value.bool (ilt (Int.ofNat (k*pg)) (Int.ofNat n)),(p68_h1 h))=some ((Value.bool false),(p68_h1 h)),
   some (Value.int IntKind.i64 (wr IntKind.i64 (Int.ofNat (k*pg+0))),(p68_h1 h))=some ((i64 (k*pg)),(p68_h1 h)),
   some (Value.int IntKind.i64 (wr IntKind.i64 (Int.ofNat (k*pg))),(p68_h1 h))=some ((i64 (k*pg)),(p68_h1 h)),
   ((AH.cell ((p68_h1 h)) (f) (0)).bind fun zv=>some (zv,(p68_h1 h)))=some ((i64 pg),(p68_h1 h)),
   ((AH.cell ((p68_h1 h)) (f) (3)).bind fun zv=>some (zv,(p68_h1 h)))=some ((sl (pb) (0) (k) (4611686018427387907)),(p68_h1 h)),
   ((AH.cell (h) (f) (7)).bind fun zv=>some (zv,h))=some ((Value.bool false),h)]):=by kernel_rfl
theorem p68 (C:Oracle) (f pg k n pb M:Nat) (b:Nat) (T:Tm) (h h2:AH) (f0:h.cell f 0=some (i64 pg)) (f3:h.cell f 3=some (sl pb 0 k 4611686018427387907)) (f7:h.cell f 7=some (.bool false)) (hf:f<h.next) (hM:k*pg=M) (hM2:M≤16777216) (hn:n≤M) (hL:∀ K:Kont,loopK BIG (fun G=>evF envT C 88 BIG (atP (fi_68.body) [2,2,2,2,2,2,1,2,1,1]) (thenK G K)) (p68_t0 f pg k n pb) (p68_h1 h)=K (Ex.exit 0) (tmK [(11,sl b 0 n 4611686018427387905)] T) (h2)):denG envT C (BIG) 68 [(ptr (f) (0)),(i64 0),(i64 0),(i64 n)] (h)=some ((Value.tuple (Array.mk [Value.slice (some (Addr.mk b 0 none)) n 4611686018427387905,i64 0])),(h2)):=
  syR_sound (p68_ok C f pg k n pb M b T h h2)<|goodY_cons (hL)<|
  goodY_cons (cB (congrArg (fun z=>z) (ltF (by omega):ilt (Int.ofNat (k*pg)) (Int.ofNat n)=false)))<|
  goodY_cons (cI (wrE 9223372036854775808 rfl (by first|rfl|assumption|omega|simp (disch:=omega) [Nat.div_self,Nat.div_div_eq_div_mul,Nat.mul_div_cancel]) (by omega)))<|
  goodY_cons (cI (wrE 9223372036854775808 rfl (by first|rfl|assumption|omega|simp (disch:=omega) [Nat.div_self,Nat.div_div_eq_div_mul,Nat.mul_div_cancel]) (by omega)))<|
  goodY_cons (ldE (cM (f0)))<|
  goodY_cons (ldE (cM (f3)))<|
  goodY_cons (ldE (f7))<|
  goodY_nil
def p68z_h1 (h:AH):AH:=AH.mk (AH.next h+13) (AH.mem h) []
noncomputable def p68z_t0 (f:Nat) (pg:Nat) (k:Nat) (pb:Nat):Tm:=stoF (stoF (stoF (stoF (stoF (stoF (stoF (stoF (stoF (stoF (stoF (stoF (stoF (stoF (stoF (stoF (stoF (stoF (stoF (stoF (stoF (stoF (stoF (stoF (stoF (stoF (stoF (stoF (stoF (stoF (stoF (stoF (stoF (stoF (cutF 88 (stoF (stoF (stoF (stoF (stoF (stoF (stoF (stoF (stoF (stoF (stoF (stoF (fun i=>gt ([Value.pointer (some (Addr.mk f 0 none)),i64 0,i64 0,i64 0]++List.replicate 84 undV) i) (some 8) (Value.slice none 0 0)) (some 9) (i64 0)) (some 13) (Value.pointer (some (Addr.mk f 0 none)))) (some 14) (Value.pointer (some (Addr.mk f 0 none)))) (some 15) (Value.pointer (some (Addr.mk f 7 none)))) (some 16) (Value.bool false)) (some 17) (i64 0)) (some 18) (Value.bool false)) (some 19) (Value.bool false)) (some 20) (i64 0)) (some 21) (Value.bool false)) (some 22) (Value.bool false))) (some 23) (Value.pointer (some (Addr.mk f 0 none)))) (some 24) (i64 0)) (some 25) (Value.pointer (some (Addr.mk f 0 none)))) (some 26) (Value.pointer (some (Addr.mk f 3 none)))) (some 27) (Value.pointer (some (Addr.mk f 3 none)))) (some 28) (Value.slice (some (Addr.mk pb 0 none)) k 4611686018427387907)) (some 29) (i64 k)) (some 30) (Value.pointer (some (Addr.mk f 0 none)))) (some 31) (Value.pointer (some (Addr.mk f 0 none)))) (some 32) (Value.pointer (some (Addr.mk f 0 none)))) (some 33) (i64 pg)) (some 34) (i64 ((k*pg)))) (some 10) (i64 ((k*pg)))) (some 35) (i64 0)) (some 36) (Value.bool false)) (some 37) (Value.bool false)) (some 38) (i64 0)) (some 39) (Value.bool false)) (some 40) (Value.bool false)) (some 41) (Value.bool false)) (some 42) (i64 0)) (some 43) (i64 ((k*pg)))) (some 44) (Value.bool false)) (some 45) (Value.bool false)) (some 46) (Value.bool false)) (some 47) (i64 0)) (some 48) (i64 ((k*pg)))) (some 49) (i64 0)) (some 50) (i64 ((k*pg)))) (some 51) (Value.bool false)) (some 52) (Value.bool false)) (some 11) (Value.slice none 0 0)) (some 53) (i64 0)) (some 12) (i64 0)
theorem p68z_ok (C:Oracle) (f:Nat) (pg:Nat) (k:Nat) (pb:Nat) (M:Nat) (T:Tm) (h:AH) (h2:AH):syR envT C (BIG) [(5,(Value.bool false),none),
  (17,(sl (pb) (0) (k) (4611686018427387907)),none),
  (22,(i64 pg),none),
  (23,(i64 (k*pg)),none),
  (40,(i64 (k*pg)),none)] [(46,Ex.exit 0,tmK [(11,Value.slice none 0 0)] T,(h2))] 68 [(ptr (f) (0)),(i64 0),(i64 0),(i64 0)] (h)=some ((Value.tuple (Array.mk [Value.slice none 0 0,i64 0])),(h2),
  [∀ K:Kont,loopK BIG (fun G=>evF envT C 88 BIG (atP (fi_68.body) [2,2,2,2,2,2,1,2,1,1]) (thenK G K)) (p68z_t0 f pg k pb) (p68z_h1 h)=K (Ex.exit 0) (tmK [(11,Value.slice none 0 0)] T) (h2),
   some (Value.int IntKind.i64 (wr IntKind.i64 (Int.ofNat (k*pg+0))),(p68z_h1 h))=some ((i64 (k*pg)),(p68z_h1 h)),
   some (Value.int IntKind.i64 (wr IntKind.i64 (Int.ofNat (k*pg))),(p68z_h1 h))=some ((i64 (k*pg)),(p68z_h1 h)),
   ((AH.cell ((p68z_h1 h)) (f) (0)).bind fun zv=>some (zv,(p68z_h1 h)))=some ((i64 pg),(p68z_h1 h)),
   ((AH.cell ((p68z_h1 h)) (f) (3)).bind fun zv=>some (zv,(p68z_h1 h)))=some ((sl (pb) (0) (k) (4611686018427387907)),(p68z_h1 h)),
   ((AH.cell (h) (f) (7)).bind fun zv=>some (zv,h))=some ((Value.bool false),h)]):=by kernel_rfl
theorem p68z (C:Oracle) (f pg k pb M:Nat) (T:Tm) (h h2:AH) (f0:h.cell f 0=some (i64 pg)) (f3:h.cell f 3=some (sl pb 0 k 4611686018427387907)) (f7:h.cell f 7=some (.bool false)) (hf:f<h.next) (hM:k*pg=M) (hM2:M≤16777216) (hL:∀ K:Kont,loopK BIG (fun G=>evF envT C 88 BIG (atP (fi_68.body) [2,2,2,2,2,2,1,2,1,1]) (thenK G K)) (p68z_t0 f pg k pb) (p68z_h1 h)=K (Ex.exit 0) (tmK [(11,Value.slice none 0 0)] T) (h2)):denG envT C (BIG) 68 [(ptr (f) (0)),(i64 0),(i64 0),(i64 0)] (h)=some ((Value.tuple (Array.mk [Value.slice none 0 0,i64 0])),(h2)):=
  syR_sound (p68z_ok C f pg k pb M T h h2)<|goodY_cons (hL)<|
  goodY_cons (cI (wrE 9223372036854775808 rfl (by first|rfl|assumption|omega|simp (disch:=omega) [Nat.div_self,Nat.div_div_eq_div_mul,Nat.mul_div_cancel]) (by omega)))<|
  goodY_cons (cI (wrE 9223372036854775808 rfl (by first|rfl|assumption|omega|simp (disch:=omega) [Nat.div_self,Nat.div_div_eq_div_mul,Nat.mul_div_cancel]) (by omega)))<|
  goodY_cons (ldE (cM (f0)))<|
  goodY_cons (ldE (cM (f3)))<|
  goodY_cons (ldE (f7))<|
  goodY_nil
noncomputable def X_68:Code:=atP (fi_68.body) [2,2,2,2,2,2,1,2,1,1]
def t_68 (f n i:Nat) (o:Value) (tm:Tm):Tm:=tmK [(0,ptr f 0),(1,i64 0),(2,i64 0),(3,i64 n),(11,o),(12,i64 i)] tm
def s68a_h1 (h:AH):AH:=AH.mk (AH.next h+27) (AH.mem h) []
def s68a_h2 (x:Nat) (h:AH):AH:=AH.put (AH.mk (AH.next h+27) (AH.mem h) []) (AH.next h+24) (some (AObj.cells (PT.node (some (u8 x)) PT.leaf PT.leaf) 1 0))
def s68a_h3 (x:Nat) (h:AH):AH:=AH.new (AH.put (AH.mk (AH.next h+27) (AH.mem h) []) (AH.next h+24) (some (AObj.cells (PT.node (some (u8 x)) PT.leaf PT.leaf) 1 0))) (AObj.cells (PT.node (some (u8 x)) PT.leaf PT.leaf) 1 11)
noncomputable def s68a_fo (C:Oracle) (f:Nat) (pg:Nat) (k:Nat) (n:Nat) (pb:Nat) (ab:Nat) (x:Nat) (tm:Tm) (h:AH):Fo:=[(3,(i64 n),none),
  (4,(Value.bool true),none),
  (11,(sl (pb) (0) (k) (4611686018427387907)),none),
  (16,(i64 pg),none),
  (17,(i64 0),none),
  (18,(ptr (pb) (0)),none),
  (20,(sl (ab) (0) (pg) (pg*k)),none),
  (25,(i64 pg),none),
  (26,(i64 0),none),
  (27,(ptr (ab) (0)),none),
  (28,(u8 x),none),
  (30,(sl (AH.next h+27) (0) (1) (4611686018427387905)),some (s68a_h3 x h))]
noncomputable def s68a_s (C:Oracle) (f:Nat) (pg:Nat) (k:Nat) (n:Nat) (pb:Nat) (ab:Nat) (x:Nat) (tm:Tm) (h:AH):SY:=syP envT C 88 (BIG) (s68a_fo C f pg k n pb ab x tm h) [] (X_68) (t_68 f n 0 (.slice none 0 0) tm) (h)
theorem s68a_ok (C:Oracle) (f:Nat) (pg:Nat) (k:Nat) (n:Nat) (pb:Nat) (ab:Nat) (x:Nat) (tm:Tm) (h:AH):SyP envT C 88 (BIG) (s68a_fo C f pg k n pb ab x tm h) [] (X_68) (t_68 f n 0 (.slice none 0 0) tm) (h) .normal (SY.t (s68a_s C f pg k n pb ab x tm h)) ((s68a_h3 x h)) (SY.c (s68a_s C f pg k n pb ab x tm h)):=⟨35,by kernel_rfl⟩
theorem s68a_c (C:Oracle) (f:Nat) (pg:Nat) (k:Nat) (n:Nat) (pb:Nat) (ab:Nat) (x:Nat) (tm:Tm) (h:AH):SY.c (s68a_s C f pg k n pb ab x tm h)=
  [AH.cell ((s68a_h2 x h)) (ab) (0)=some (u8 x),
   AH.cell ((s68a_h2 x h)) (f) (0)=some (i64 pg),
   AH.cell ((s68a_h2 x h)) (pb) (0)=some (sl (ab) (0) (pg) (pg*k)),
   AH.cell ((s68a_h2 x h)) (f) (0)=some (i64 pg),
   AH.cell ((s68a_h2 x h)) (f) (3)=some (sl (pb) (0) (k) (4611686018427387907)),
   hApp 5 1 1 (Value.slice none 0 0) (sl (AH.next h+24) (0) (1) (1)) ((s68a_h2 x h))=some ((sl (AH.next h+27) (0) (1) (4611686018427387905)),(s68a_h3 x h)),
   ((AH.cell ((s68a_h1 h)) (ab) (0)).bind fun zv=>some (zv,(s68a_h1 h)))=some ((u8 x),(s68a_h1 h)),
   (((ixOk (Int.ofNat 0) (pg)).bind fun zm=>some (ptr (ab) (0+zm*1))).bind fun zv=>some (zv,(s68a_h1 h)))=some ((ptr (ab) (0)),(s68a_h1 h)),
   ((kBin envT BinOp.rem 3 (bBin envT (TypeDesc.int IntKind.i64) BinOp.rem (iRem (i64 0) (i64 pg)) (i64 0) (i64 pg)) (i64 0) (i64 pg)).bind fun zv=>some (zv,(s68a_h1 h)))=some ((i64 0),(s68a_h1 h)),
   ((AH.cell ((s68a_h1 h)) (f) (0)).bind fun zv=>some (zv,(s68a_h1 h)))=some ((i64 pg),(s68a_h1 h)),
   ((AH.cell ((s68a_h1 h)) (pb) (0)).bind fun zv=>some (zv,(s68a_h1 h)))=some ((sl (ab) (0) (pg) (pg*k)),(s68a_h1 h)),
   (((ixOk (Int.ofNat 0) (k)).bind fun zm=>some (ptr (pb) (0+zm*3))).bind fun zv=>some (zv,(s68a_h1 h)))=some ((ptr (pb) (0)),(s68a_h1 h)),
   ((kBin envT BinOp.quo 3 (bBin envT (TypeDesc.int IntKind.i64) BinOp.quo (iQuo (i64 0) (i64 pg)) (i64 0) (i64 pg)) (i64 0) (i64 pg)).bind fun zv=>some (zv,(s68a_h1 h)))=some ((i64 0),(s68a_h1 h)),
   ((AH.cell ((s68a_h1 h)) (f) (0)).bind fun zv=>some (zv,(s68a_h1 h)))=some ((i64 pg),(s68a_h1 h)),
   ((AH.cell ((s68a_h1 h)) (f) (3)).bind fun zv=>some (zv,(s68a_h1 h)))=some ((sl (pb) (0) (k) (4611686018427387907)),(s68a_h1 h)),
   some (Value.bool (ilt (Int.ofNat 0) (Int.ofNat n)),h)=some ((Value.bool true),h),
   some (Value.int IntKind.i64 (wr IntKind.i64 (Int.ofNat (0+n))),h)=some ((i64 n),h)]:=by kernel_rfl
theorem s68a_t (C:Oracle) (f:Nat) (pg:Nat) (k:Nat) (n:Nat) (pb:Nat) (ab:Nat) (x:Nat) (tm:Tm) (h:AH):SY.t (s68a_s C f pg k n pb ab x tm h) 0=(ptr (f) (0))∧SY.t (s68a_s C f pg k n pb ab x tm h) 1=(i64 0)∧SY.t (s68a_s C f pg k n pb ab x tm h) 2=(i64 0)∧SY.t (s68a_s C f pg k n pb ab x tm h) 3=(i64 n)∧SY.t (s68a_s C f pg k n pb ab x tm h) 11=(sl (AH.next h+27) (0) (1) (4611686018427387905))∧SY.t (s68a_s C f pg k n pb ab x tm h) 12=(i64 1):=⟨by kernel_rfl,by kernel_rfl,by kernel_rfl,by kernel_rfl,by kernel_rfl,by kernel_rfl⟩
theorem s68a (C:Oracle) (f pg k n pb ab x:Nat) (tm:Tm) (h:AH) (f0:h.cell f 0=some (i64 pg)) (f3:h.cell f 3=some (sl pb 0 k 4611686018427387907)) (g0:h.cell pb 0=some (sl ab 0 pg (pg*k))) (gx:h.cell ab 0=some (u8 x)) (hx:x<256) (hp:64≤pg) (hp2:pg≤4096) (hk:1≤k) (hk2:k≤4096) (hn:n≤16777216) (hn1:0<n) (hf:f<h.next) (hpb:pb<h.next) (hab:ab<h.next):∃ T:Tm,(∀ K,evF envT C 88 (BIG) (X_68) K (t_68 f n 0 (.slice none 0 0) tm) (h)=K .normal T ((s68a_h3 x h)))∧T 0=(ptr (f) (0))∧T 1=(i64 0)∧T 2=(i64 0)∧T 3=(i64 n)∧T 11=(sl (AH.next h+27) (0) (1) (4611686018427387905))∧T 12=(i64 1):=
  ⟨SY.t (s68a_s C f pg k n pb ab x tm h),fun K=>SyP.on (s68a_ok C f pg k n pb ab x tm h) (by
    rw [s68a_c]
    exact goodY_cons (cP (by first|omega|(simp only [AH.new_next,nx_put,nx_up];omega)) (cM (gx)))<|
  goodY_cons (cP (by first|omega|(simp only [AH.new_next,nx_put,nx_up];omega)) (cM (f0)))<|
  goodY_cons (cP (by first|omega|(simp only [AH.new_next,nx_put,nx_up];omega)) (cM (g0)))<|
  goodY_cons (cP (by first|omega|(simp only [AH.new_next,nx_put,nx_up];omega)) (cM (f0)))<|
  goodY_cons (cP (by first|omega|(simp only [AH.new_next,nx_put,nx_up];omega)) (cM (f3)))<|
  goodY_cons (kr (appN1  (u:=(u8 x)) (cell_of (gQ) (by kernel_rfl))) (by kernel_rfl))<|
  goodY_cons (ldE (cM (gx)))<|
  goodY_cons (ixS (by omega) (by first|rfl|assumption|omega|simp (disch:=omega) [Nat.div_self,Nat.div_div_eq_div_mul,Nat.mul_div_cancel]))<|
  goodY_cons (remE (by omega) (by first|rfl|assumption|omega|simp (disch:=omega) [Nat.div_self,Nat.div_div_eq_div_mul,Nat.mul_div_cancel]))<|
  goodY_cons (ldE (cM (f0)))<|
  goodY_cons (ldE (cM (g0)))<|
  goodY_cons (ixS (by omega) (by first|rfl|assumption|omega|simp (disch:=omega) [Nat.div_self,Nat.div_div_eq_div_mul,Nat.mul_div_cancel]))<|
  goodY_cons (quoE (by omega) (by first|rfl|assumption|omega|simp (disch:=omega) [Nat.div_self,Nat.div_div_eq_div_mul,Nat.mul_div_cancel]) (by omega))<|
  goodY_cons (ldE (cM (f0)))<|
  goodY_cons (ldE (cM (f3)))<|
  goodY_cons (cB (congrArg (fun z=>z) (ltT (by omega):ilt (Int.ofNat 0) (Int.ofNat n)=true)))<|
  goodY_cons (cI (wrE 9223372036854775808 rfl (by first|rfl|assumption|omega|simp (disch:=omega) [Nat.div_self,Nat.div_div_eq_div_mul,Nat.mul_div_cancel]) (by omega)))<|
  goodY_nil) K,s68a_t C f pg k n pb ab x tm h⟩
def s68b_h1 (h:AH):AH:=AH.mk (AH.next h+27) (AH.mem h) []
def s68b_h2 (x:Nat) (h:AH):AH:=AH.put (AH.mk (AH.next h+27) (AH.mem h) []) (AH.next h+24) (some (AObj.cells (PT.node (some (u8 x)) PT.leaf PT.leaf) 1 0))
def s68b_h3 (x:Nat) (b:Nat) (i:Nat) (oc:PT Value) (h:AH):AH:=AH.new (AH.put (AH.put (AH.mk (AH.next h+27) (AH.mem h) []) (AH.next h+24) (some (AObj.cells (PT.node (some (u8 x)) PT.leaf PT.leaf) 1 0))) b none) (AObj.cells (PT.puts oc i [u8 x]) (i+1) 11)
noncomputable def s68b_fo (C:Oracle) (f:Nat) (pg:Nat) (k:Nat) (n:Nat) (pb:Nat) (ab:Nat) (x:Nat) (b:Nat) (i:Nat) (oc:PT Value) (tm:Tm) (h:AH):Fo:=[(3,(i64 n),none),
  (4,(Value.bool true),none),
  (11,(sl (pb) (0) (k) (4611686018427387907)),none),
  (16,(i64 pg),none),
  (17,(i64 (i/pg)),none),
  (18,(ptr (pb) (i/pg*3)),none),
  (20,(sl (ab) (i/pg*pg) (pg) (pg*k-i/pg*pg)),none),
  (25,(i64 pg),none),
  (26,(i64 (i % pg)),none),
  (27,(ptr (ab) (i/pg*pg+i % pg)),none),
  (28,(u8 x),none),
  (30,(sl (AH.next h+27) (0) (i+1) (4611686018427387905)),some (s68b_h3 x b i oc h)),
  (33,(i64 (i+1)),none)]
noncomputable def s68b_s (C:Oracle) (f:Nat) (pg:Nat) (k:Nat) (n:Nat) (pb:Nat) (ab:Nat) (x:Nat) (b:Nat) (i:Nat) (oc:PT Value) (tm:Tm) (h:AH):SY:=syP envT C 88 (BIG) (s68b_fo C f pg k n pb ab x b i oc tm h) [] (X_68) (t_68 f n i (sl b 0 i 4611686018427387905) tm) (h)
theorem s68b_ok (C:Oracle) (f:Nat) (pg:Nat) (k:Nat) (n:Nat) (pb:Nat) (ab:Nat) (x:Nat) (b:Nat) (i:Nat) (oc:PT Value) (tm:Tm) (h:AH):SyP envT C 88 (BIG) (s68b_fo C f pg k n pb ab x b i oc tm h) [] (X_68) (t_68 f n i (sl b 0 i 4611686018427387905) tm) (h) .normal (SY.t (s68b_s C f pg k n pb ab x b i oc tm h)) ((s68b_h3 x b i oc h)) (SY.c (s68b_s C f pg k n pb ab x b i oc tm h)):=⟨35,by kernel_rfl⟩
theorem s68b_c (C:Oracle) (f:Nat) (pg:Nat) (k:Nat) (n:Nat) (pb:Nat) (ab:Nat) (x:Nat) (b:Nat) (i:Nat) (oc:PT Value) (tm:Tm) (h:AH):SY.c (s68b_s C f pg k n pb ab x b i oc tm h)=
  [some (Value.int IntKind.i64 (wr IntKind.i64 (Int.ofNat (i+1))),(s68b_h3 x b i oc h))=some ((i64 (i+1)),(s68b_h3 x b i oc h)),
   AH.cell ((s68b_h2 x h)) (ab) (i/pg*pg+i % pg)=some (u8 x),
   AH.cell ((s68b_h2 x h)) (f) (0)=some (i64 pg),
   AH.cell ((s68b_h2 x h)) (pb) (i/pg*3+0)=some (sl (ab) (i/pg*pg) (pg) (pg*k-i/pg*pg)),
   AH.cell ((s68b_h2 x h)) (f) (0)=some (i64 pg),
   AH.cell ((s68b_h2 x h)) (f) (3)=some (sl (pb) (0) (k) (4611686018427387907)),
   hApp 5 1 1 (sl (b) (0) (i) (4611686018427387905)) (sl (AH.next h+24) (0) (1) (1)) ((s68b_h2 x h))=some ((sl (AH.next h+27) (0) (i+1) (4611686018427387905)),(s68b_h3 x b i oc h)),
   ((AH.cell ((s68b_h1 h)) (ab) (i/pg*pg+i % pg)).bind fun zv=>some (zv,(s68b_h1 h)))=some ((u8 x),(s68b_h1 h)),
   (((ixOk (Int.ofNat (i % pg)) (pg)).bind fun zm=>some (ptr (ab) (i/pg*pg+zm*1))).bind fun zv=>some (zv,(s68b_h1 h)))=some ((ptr (ab) (i/pg*pg+i % pg)),(s68b_h1 h)),
   ((kBin envT BinOp.rem 3 (bBin envT (TypeDesc.int IntKind.i64) BinOp.rem (iRem (i64 i) (i64 pg)) (i64 i) (i64 pg)) (i64 i) (i64 pg)).bind fun zv=>some (zv,(s68b_h1 h)))=some ((i64 (i % pg)),(s68b_h1 h)),
   ((AH.cell ((s68b_h1 h)) (f) (0)).bind fun zv=>some (zv,(s68b_h1 h)))=some ((i64 pg),(s68b_h1 h)),
   ((AH.cell ((s68b_h1 h)) (pb) (i/pg*3+0)).bind fun zv=>some (zv,(s68b_h1 h)))=some ((sl (ab) (i/pg*pg) (pg) (pg*k-i/pg*pg)),(s68b_h1 h)),
   (((ixOk (Int.ofNat (i/pg)) (k)).bind fun zm=>some (ptr (pb) (0+zm*3))).bind fun zv=>some (zv,(s68b_h1 h)))=some ((ptr (pb) (i/pg*3)),(s68b_h1 h)),
   ((kBin envT BinOp.quo 3 (bBin envT (TypeDesc.int IntKind.i64) BinOp.quo (iQuo (i64 i) (i64 pg)) (i64 i) (i64 pg)) (i64 i) (i64 pg)).bind fun zv=>some (zv,(s68b_h1 h)))=some ((i64 (i/pg)),(s68b_h1 h)),
   ((AH.cell ((s68b_h1 h)) (f) (0)).bind fun zv=>some (zv,(s68b_h1 h)))=some ((i64 pg),(s68b_h1 h)),
   ((AH.cell ((s68b_h1 h)) (f) (3)).bind fun zv=>some (zv,(s68b_h1 h)))=some ((sl (pb) (0) (k) (4611686018427387907)),(s68b_h1 h)),
   some (Value.bool (ilt (Int.ofNat i) (Int.ofNat n)),h)=some ((Value.bool true),h),
   some (Value.int IntKind.i64 (wr IntKind.i64 (Int.ofNat (0+n))),h)=some ((i64 n),h)]:=by kernel_rfl
theorem s68b_t (C:Oracle) (f:Nat) (pg:Nat) (k:Nat) (n:Nat) (pb:Nat) (ab:Nat) (x:Nat) (b:Nat) (i:Nat) (oc:PT Value) (tm:Tm) (h:AH):SY.t (s68b_s C f pg k n pb ab x b i oc tm h) 0=(ptr (f) (0))∧SY.t (s68b_s C f pg k n pb ab x b i oc tm h) 1=(i64 0)∧SY.t (s68b_s C f pg k n pb ab x b i oc tm h) 2=(i64 0)∧SY.t (s68b_s C f pg k n pb ab x b i oc tm h) 3=(i64 n)∧SY.t (s68b_s C f pg k n pb ab x b i oc tm h) 11=(sl (AH.next h+27) (0) (i+1) (4611686018427387905))∧SY.t (s68b_s C f pg k n pb ab x b i oc tm h) 12=(i64 (i+1)):=⟨by kernel_rfl,by kernel_rfl,by kernel_rfl,by kernel_rfl,by kernel_rfl,by kernel_rfl⟩
theorem s68b (C:Oracle) (f pg k n pb ab x b i:Nat) (oc:PT Value) (tm:Tm) (h:AH) (f0:h.cell f 0=some (i64 pg)) (f3:h.cell f 3=some (sl pb 0 k 4611686018427387907)) (g0:h.cell pb (i/pg*3)=some (sl ab (i/pg*pg) pg (pg*k-i/pg*pg))) (gx:h.cell ab (i/pg*pg+i % pg)=some (u8 x)) (gO:h.get b=some (.cells oc i 11)) (hr:i % pg<pg) (hqk:i/pg<k) (hx:x<256) (hp:64≤pg) (hp2:pg≤4096) (hk:1≤k) (hk2:k≤4096) (hn:n≤16777216) (hn1:i<n) (hf:f<h.next) (hpb:pb<h.next) (hab:ab<h.next) (hbn:b<h.next):∃ T:Tm,(∀ K,evF envT C 88 (BIG) (X_68) K (t_68 f n i (sl b 0 i 4611686018427387905) tm) (h)=K .normal T ((s68b_h3 x b i oc h)))∧T 0=(ptr (f) (0))∧T 1=(i64 0)∧T 2=(i64 0)∧T 3=(i64 n)∧T 11=(sl (AH.next h+27) (0) (i+1) (4611686018427387905))∧T 12=(i64 (i+1)):=
  ⟨SY.t (s68b_s C f pg k n pb ab x b i oc tm h),fun K=>SyP.on (s68b_ok C f pg k n pb ab x b i oc tm h) (by
    rw [s68b_c]
    exact goodY_cons (cI (wrE 9223372036854775808 rfl (by first|rfl|assumption|omega|simp (disch:=omega) [Nat.div_self,Nat.div_div_eq_div_mul,Nat.mul_div_cancel]) (by omega)))<|
  goodY_cons (cP (by first|omega|(simp only [AH.new_next,nx_put,nx_up];omega)) (cM (gx)))<|
  goodY_cons (cP (by first|omega|(simp only [AH.new_next,nx_put,nx_up];omega)) (cM (f0)))<|
  goodY_cons (cP (by first|omega|(simp only [AH.new_next,nx_put,nx_up];omega)) (cM (g0)))<|
  goodY_cons (cP (by first|omega|(simp only [AH.new_next,nx_put,nx_up];omega)) (cM (f0)))<|
  goodY_cons (cP (by first|omega|(simp only [AH.new_next,nx_put,nx_up];omega)) (cM (f3)))<|
  goodY_cons (kr (appG1 (by omega) (gP (by first|omega|(simp only [AH.new_next,nx_put,nx_up];omega)) (gM (gO)))  (u:=(u8 x)) (cell_of (gQ) (by kernel_rfl))) (by kernel_rfl))<|
  goodY_cons (ldE (cM (gx)))<|
  goodY_cons (ixS (by omega) (by first|rfl|assumption|omega|simp (disch:=omega) [Nat.div_self,Nat.div_div_eq_div_mul,Nat.mul_div_cancel]))<|
  goodY_cons (remE (by omega) (by first|rfl|assumption|omega|simp (disch:=omega) [Nat.div_self,Nat.div_div_eq_div_mul,Nat.mul_div_cancel]))<|
  goodY_cons (ldE (cM (f0)))<|
  goodY_cons (ldE (cM (g0)))<|
  goodY_cons (ixS (by omega) (by first|rfl|assumption|omega|simp (disch:=omega) [Nat.div_self,Nat.div_div_eq_div_mul,Nat.mul_div_cancel]))<|
  goodY_cons (quoE (by omega) (by first|rfl|assumption|omega|simp (disch:=omega) [Nat.div_self,Nat.div_div_eq_div_mul,Nat.mul_div_cancel]) (by omega))<|
  goodY_cons (ldE (cM (f0)))<|
  goodY_cons (ldE (cM (f3)))<|
  goodY_cons (cB (congrArg (fun z=>z) (ltT (by omega):ilt (Int.ofNat i) (Int.ofNat n)=true)))<|
  goodY_cons (cI (wrE 9223372036854775808 rfl (by first|rfl|assumption|omega|simp (disch:=omega) [Nat.div_self,Nat.div_div_eq_div_mul,Nat.mul_div_cancel]) (by omega)))<|
  goodY_nil) K,s68b_t C f pg k n pb ab x b i oc tm h⟩
noncomputable def e68_fo (C:Oracle) (f:Nat) (n:Nat) (b:Nat) (tm:Tm) (h:AH):Fo:=[(3,(i64 n),none),
  (4,(Value.bool false),none)]
noncomputable def e68_s (C:Oracle) (f:Nat) (n:Nat) (b:Nat) (tm:Tm) (h:AH):SY:=syP envT C 88 (BIG) (e68_fo C f n b tm h) [] (X_68) (t_68 f n n (sl b 0 n 4611686018427387905) tm) (h)
theorem e68_ok (C:Oracle) (f:Nat) (n:Nat) (b:Nat) (tm:Tm) (h:AH):SyP envT C 88 (BIG) (e68_fo C f n b tm h) [] (X_68) (t_68 f n n (sl b 0 n 4611686018427387905) tm) (h) (.exit 0) (SY.t (e68_s C f n b tm h)) (h) (SY.c (e68_s C f n b tm h)):=⟨5,by kernel_rfl⟩
theorem e68_c (C:Oracle) (f:Nat) (n:Nat) (b:Nat) (tm:Tm) (h:AH):SY.c (e68_s C f n b tm h)=
  [some (Value.bool (ilt (Int.ofNat n) (Int.ofNat n)),h)=some ((Value.bool false),h),
   some (Value.int IntKind.i64 (wr IntKind.i64 (Int.ofNat (0+n))),h)=some ((i64 n),h)]:=by kernel_rfl
theorem e68_t (C:Oracle) (f:Nat) (n:Nat) (b:Nat) (tm:Tm) (h:AH):SY.t (e68_s C f n b tm h) 11=(sl (b) (0) (n) (4611686018427387905)):=by kernel_rfl
theorem e68 (C:Oracle) (f n b:Nat) (tm:Tm) (h:AH) (hn:n≤16777216):∃ T:Tm,(∀ K,evF envT C 88 (BIG) (X_68) K (t_68 f n n (sl b 0 n 4611686018427387905) tm) (h)=K (.exit 0) T (h))∧T 11=(sl (b) (0) (n) (4611686018427387905)):=
  ⟨SY.t (e68_s C f n b tm h),fun K=>SyP.on (e68_ok C f n b tm h) (by
    rw [e68_c]
    exact goodY_cons (cB (congrArg (fun z=>z) (ltF (by omega):ilt (Int.ofNat n) (Int.ofNat n)=false)))<|
  goodY_cons (cI (wrE 9223372036854775808 rfl (by first|rfl|assumption|omega|simp (disch:=omega) [Nat.div_self,Nat.div_div_eq_div_mul,Nat.mul_div_cancel]) (by omega)))<|
  goodY_nil) K,e68_t C f n b tm h⟩
noncomputable def e68z_fo (C:Oracle) (f:Nat) (tm:Tm) (h:AH):Fo:=[]
noncomputable def e68z_s (C:Oracle) (f:Nat) (tm:Tm) (h:AH):SY:=syP envT C 88 (BIG) (e68z_fo C f tm h) [] (X_68) (t_68 f 0 0 (.slice none 0 0) tm) (h)
theorem e68z_ok (C:Oracle) (f:Nat) (tm:Tm) (h:AH):SyP envT C 88 (BIG) (e68z_fo C f tm h) [] (X_68) (t_68 f 0 0 (.slice none 0 0) tm) (h) (.exit 0) (SY.t (e68z_s C f tm h)) (h) (SY.c (e68z_s C f tm h)):=⟨5,by kernel_rfl⟩
theorem e68z_c (C:Oracle) (f:Nat) (tm:Tm) (h:AH):SY.c (e68z_s C f tm h)=
  []:=by kernel_rfl
theorem e68z_t (C:Oracle) (f:Nat) (tm:Tm) (h:AH):SY.t (e68z_s C f tm h) 11=(Value.slice none 0 0):=by kernel_rfl
theorem e68z (C:Oracle) (f:Nat) (tm:Tm) (h:AH):∃ T:Tm,(∀ K,evF envT C 88 (BIG) (X_68) K (t_68 f 0 0 (.slice none 0 0) tm) (h)=K (.exit 0) T (h))∧T 11=(Value.slice none 0 0):=
  ⟨SY.t (e68z_s C f tm h),fun K=>SyP.on (e68z_ok C f tm h) (by
    rw [e68z_c]
    exact goodY_nil) K,e68z_t C f tm h⟩
structure In_68 (f n i:Nat) (o:Value) (tm:Tm):Prop where
  t0:tm 0=ptr f 0
  t1:tm 1=i64 0
  t2:tm 2=i64 0
  t3:tm 3=i64 n
  t11:tm 11=o
  t12:tm 12=i64 i
theorem In_68.eq {f n i:Nat} {o:Value} {tm:Tm} (t:In_68 f n i o tm):t_68 f n i o tm=tm:=by
  refine tmK_self _ _ fun p hp=>?_
  simp only [List.mem_cons,List.not_mem_nil,or_false] at hp
  rcases hp with rfl|rfl|rfl|rfl|rfl|rfl
  · exact t.t0
  · exact t.t1
  · exact t.t2
  · exact t.t3
  · exact t.t11
  · exact t.t12
structure J68 (n:Nat) (xs:List Nat) (h0:AH) (i:Nat) (o:Value) (h:AH):Prop where
  nx:h0.next≤h.next
  lim:∀ b,h.next≤b→h.get b=none
  old:∀ b,b<h0.next→h.get b=h0.get b
  out:(i=0∧o=.slice none 0 0)∨(1≤i∧∃ b oc,o=sl b 0 i 4611686018427387905∧h.get b=some (.cells oc i 11)∧h0.next≤b∧b<h.next∧∀ q x,q<i→xs[q]?=some x→oc.get q=some (u8 x))
theorem loop_68 {C:Oracle} {f pg k n pb ab:Nat} {xs:List Nat} {h0:AH} (f0:h0.cell f 0=some (i64 pg)) (f3:h0.cell f 3=some (sl pb 0 k 4611686018427387907)) (hpg:∀ q,q<k→h0.cell pb (q*3)=some (sl ab (q*pg) pg (pg*k-q*pg)))
    (hB:Bys h0 ab 0 xs) (hx:xs.length=n) (hp:64≤pg) (hp2:pg≤4096) (hk:1≤k) (hk2:k≤4096) (hn:n≤16777216) (hnk:n≤k*pg) (hf:f<h0.next) (hpb:pb<h0.next) (hab:ab<h0.next) :
    ∀ (r M i:Nat) (o:Value) (tm:Tm) (h:AH),i+r=n→r<M→In_68 f n i o tm→J68 n xs h0 i o h →
      ∃ T h' o',(∀ K,loopK M (fun G=>evF envT C 88 BIG X_68 (thenK G K)) tm h=K (.exit 0) T h')∧T 11=o'∧J68 n xs h0 n o' h':=by
  intro r
  induction r with
  | zero=>
    intro M i o tm h hi hM t J
    obtain ⟨M,rfl⟩:∃ m',M=m'+1:=⟨M-1,by omega⟩
    obtain rfl:i=n:=by omega
    rcases J.out with ⟨rfl,rfl⟩|⟨h1,b,oc,rfl,_⟩
    · obtain ⟨T,h1,h2⟩:=e68z C f tm h
      rw [t.eq] at h1
      exact ⟨T,h,_,fun K=>loop_out (fun h=>by cases h) h1,h2,J⟩
    · obtain ⟨T,h1,h2⟩:=e68 C f i b tm h hn
      rw [t.eq] at h1
      exact ⟨T,h,_,fun K=>loop_out (fun h=>by cases h) h1,h2,J⟩
  | succ r ih=>
    intro M i o tm h hi hM t J
    obtain ⟨M,rfl⟩:∃ m',M=m'+1:=⟨M-1,by omega⟩
    have nx:=J.nx
    have c:=fun {b o:Nat} {v:Value} (hb:b<h0.next) (hc:h0.cell b o=some v)=>cell_eq (J.old b hb) hc
    obtain ⟨x,hxi⟩:∃ x,xs[i]?=some x:=⟨_,List.getElem?_eq_getElem (by omega)⟩
    obtain ⟨hx256,hxc⟩:=hB i x hxi
    rw [Nat.zero_add] at hxc
    have hqk:i/pg<k:=Nat.div_lt_of_lt_mul (by rw [Nat.mul_comm];omega)
    have hdm:i/pg*pg+i % pg=i:=by rw [Nat.mul_comm];exact Nat.div_add_mod i pg
    rcases J.out with ⟨rfl,rfl⟩|⟨h1i,b,oc,rfl,g1,g2,g3,g4⟩
    · have g0:=hpg 0 hk
      simp only [Nat.zero_mul,Nat.sub_zero] at g0
      obtain ⟨T,s1,q0,q1,q2,q3,q11,q12⟩:=s68a C f pg k n pb ab x tm h (c hf f0) (c hf f3) (c hpb g0) (c hab hxc) hx256 hp hp2 hk hk2 hn (by omega) (by omega) (by omega) (by omega)
      rw [t.eq] at s1
      generalize hH:s68a_h3 x h=H at s1
      have nH:H.next=h.next+28:=by subst hH;rfl
      have J2:J68 n xs h0 1 (sl (h.next+27) 0 1 4611686018427387905) H:=by
        refine ⟨by omega,fun b hb=>?_,fun b hb=>?_,.inr ⟨Nat.le_refl _,h.next+27,PT.ofList [u8 x] 0 .leaf,rfl,?_,by omega,by omega,fun q y hq hy=>?_⟩⟩
        · rw [nH] at hb
          subst hH
          simp only [s68a_h3,AH.get_put,get_mk,mem_get,AH.get_new,nx_put]
          repeat rw [if_neg (by omega)]
          exact J.lim b (by omega)
        · subst hH
          simp only [s68a_h3,AH.get_put,get_mk,mem_get,AH.get_new,nx_put]
          repeat rw [if_neg (by omega)]
          exact J.old b hb
        · subst hH
          simp only [s68a_h3,AH.get_put,get_mk,mem_get,AH.get_new,nx_put]
          rw [if_pos trivial] <;> rfl
        · obtain rfl:q=0:=by omega
          rw [hxi] at hy;cases hy;rfl
      obtain ⟨T',h',o',l1,l2,l3⟩:=ih M 1 _ T H (by omega) (by omega) ⟨q0,q1,q2,q3,q11,q12⟩ J2
      exact ⟨T',h',o',fun K=>(loop_on s1).trans (l1 K),l2,l3⟩
    · obtain ⟨T,s1,q0,q1,q2,q3,q11,q12⟩:=s68b C f pg k n pb ab x b i oc tm h (c hf f0) (c hf f3) (c hpb (hpg _ hqk)) (c hab (by rw [hdm];exact hxc)) g1 (Nat.mod_lt _ (by omega)) hqk hx256 hp hp2 hk hk2 hn (by omega) (by omega) (by omega) (by omega) g3
      rw [t.eq] at s1
      generalize hH:s68b_h3 x b i oc h=H at s1
      have nH:H.next=h.next+28:=by subst hH;rfl
      have J2:J68 n xs h0 (i+1) (sl (h.next+27) 0 (i+1) 4611686018427387905) H:=by
        refine ⟨by omega,fun b' hb=>?_,fun b' hb=>?_,.inr ⟨by omega,h.next+27,PT.puts oc i [u8 x],rfl,?_,by omega,by omega,fun q y hq hy=>?_⟩⟩
        · rw [nH] at hb
          subst hH
          simp only [s68b_h3,AH.get_put,get_mk,mem_get,AH.get_new,nx_put]
          repeat rw [if_neg (by omega)]
          exact J.lim b' (by omega)
        · subst hH
          simp only [s68b_h3,AH.get_put,get_mk,mem_get,AH.get_new,nx_put]
          repeat rw [if_neg (by omega)]
          exact J.old b' hb
        · subst hH
          simp only [s68b_h3,AH.get_put,get_mk,mem_get,AH.get_new,nx_put]
          rw [if_pos trivial] <;> rfl
        · rw [PT.get_puts]
          by_cases e:q=i
          · subst e
            rw [if_pos ⟨Nat.le_refl _,by simp⟩,Nat.sub_self]
            rw [hxi] at hy;cases hy;rfl
          · rw [if_neg (by simp;omega)]
            exact g4 q y (by omega) hy
      obtain ⟨T',h',o',l1,l2,l3⟩:=ih M (i+1) _ T H (by omega) (by omega) ⟨q0,q1,q2,q3,q11,q12⟩ J2
      exact ⟨T',h',o',fun K=>(loop_on s1).trans (l1 K),l2,l3⟩
end Go.Proofs.YtejgabehfdapjaaGreat.Sym
namespace Go.Proofs.YtejgabehfdapjaaGreat.Sym
open Go.Den
theorem p44_ok (C:Oracle) (b:Nat) (c:Nat) (b2:Nat) (n:Nat) (c2:Nat) (s:Nat) (xs:List Nat) (h:AH):syR envT C (BIG) [(11,(sl (b2) (0) (n) (c2)),none),
  (12,(u32 (refN 4294967295 xs)),some h),
  (22,(u32 s),none)] [] 44 [(sl (b) (0) (1) (c))] (h)=some ((u32 s),h,
  [some (Value.int IntKind.u32 (bitsOf IntKind.u32 Nat.xor (fun x1 x2=>x1 ^^^ x2) (Int.ofNat 4294967295) (Int.ofNat (refN 4294967295 xs))),h)=some ((u32 s),h),
   C (Value.func (Fn.func 79) (Array.mk []) (Array.mk [])) [(u32 4294967295),(sl (b2) (0) (n) (c2))] (h)=some ((u32 (refN 4294967295 xs)),h),
   ((AH.cell (h) (b) (0)).bind fun zv=>some (zv,h))=some ((sl (b2) (0) (n) (c2)),h)]):=by kernel_rfl
theorem p44 (C:Oracle) (b c b2 n c2 s:Nat) (xs:List Nat) (h:AH) (hc:h.cell b 0=some (sl b2 0 n c2)) (h79:C (Value.func (Fn.func 79) (Array.mk []) (Array.mk [])) [(u32 4294967295),(sl (b2) (0) (n) (c2))] (h)=some ((u32 (refN 4294967295 xs)),h)) (hs:sumN xs=s) (hsl:s<4294967296):denG envT C (BIG) 44 [(sl (b) (0) (1) (c))] (h)=some ((u32 s),h):=
  syR_sound (p44_ok C b c b2 n c2 s xs h)<|goodY_cons (cI (not_sum hs))<|
  goodY_cons (kr (h79) (by kernel_rfl))<|
  goodY_cons (ldE (hc))<|
  goodY_nil
theorem p44z_ok (C:Oracle) (b:Nat) (c:Nat) (s:Nat) (xs:List Nat) (h:AH):syR envT C (BIG) [(11,(Value.slice none 0 0),none),
  (12,(u32 (refN 4294967295 xs)),some h),
  (22,(u32 s),none)] [] 44 [(sl (b) (0) (1) (c))] (h)=some ((u32 s),h,
  [some (Value.int IntKind.u32 (bitsOf IntKind.u32 Nat.xor (fun x1 x2=>x1 ^^^ x2) (Int.ofNat 4294967295) (Int.ofNat (refN 4294967295 xs))),h)=some ((u32 s),h),
   C (Value.func (Fn.func 79) (Array.mk []) (Array.mk [])) [(u32 4294967295),(Value.slice none 0 0)] (h)=some ((u32 (refN 4294967295 xs)),h),
   ((AH.cell (h) (b) (0)).bind fun zv=>some (zv,h))=some ((Value.slice none 0 0),h)]):=by kernel_rfl
theorem p44z (C:Oracle) (b c s:Nat) (xs:List Nat) (h:AH) (hc:h.cell b 0=some (.slice none 0 0)) (h79:C (Value.func (Fn.func 79) (Array.mk []) (Array.mk [])) [(u32 4294967295),(Value.slice none 0 0)] (h)=some ((u32 (refN 4294967295 xs)),h)) (hs:sumN xs=s) (hsl:s<4294967296):denG envT C (BIG) 44 [(sl (b) (0) (1) (c))] (h)=some ((u32 s),h):=
  syR_sound (p44z_ok C b c s xs h)<|goodY_cons (cI (not_sum hs))<|
  goodY_cons (kr (h79) (by kernel_rfl))<|
  goodY_cons (ldE (hc))<|
  goodY_nil
def p15_h1 (b:Nat) (n:Nat) (c:Nat) (h:AH):AH:=AH.new h (AObj.cells (PT.node (some (Value.slice (some (Addr.mk b 0 none)) n c)) PT.leaf PT.leaf) 1 0)
theorem p15_ok (C:Oracle) (b:Nat) (n:Nat) (c:Nat) (s:Nat) (h:AH) (h1:AH):syR envT C (BIG) [(3,(u32 s),some (h1))] [] 15 [(sl (b) (0) (n) (c))] (h)=some ((u32 s),(h1),
  [C (Value.func (Fn.func 44) (Array.mk []) (Array.mk [])) [(sl (AH.next h) (0) (1) (1))] ((p15_h1 b n c h))=some ((u32 s),(h1))]):=by kernel_rfl
theorem p15 (C:Oracle) (b n c s:Nat) (h h1:AH) (h44:C (Value.func (Fn.func 44) (Array.mk []) (Array.mk [])) [(sl (AH.next h) (0) (1) (1))] ((p15_h1 b n c h))=some ((u32 s),(h1))):denG envT C (BIG) 15 [(sl (b) (0) (n) (c))] (h)=some ((u32 s),(h1)):=
  syR_sound (p15_ok C b n c s h h1)<|goodY_cons (kr (h44) (by kernel_rfl))<|
  goodY_nil
def p15z_h1 (h:AH):AH:=AH.new h (AObj.cells (PT.node (some (Value.slice none 0 0)) PT.leaf PT.leaf) 1 0)
theorem p15z_ok (C:Oracle) (s:Nat) (h:AH) (h1:AH):syR envT C (BIG) [(3,(u32 s),some (h1))] [] 15 [(Value.slice none 0 0)] (h)=some ((u32 s),(h1),
  [C (Value.func (Fn.func 44) (Array.mk []) (Array.mk [])) [(sl (AH.next h) (0) (1) (1))] ((p15z_h1 h))=some ((u32 s),(h1))]):=by kernel_rfl
theorem p15z (C:Oracle) (s:Nat) (h h1:AH) (h44:C (Value.func (Fn.func 44) (Array.mk []) (Array.mk [])) [(sl (AH.next h) (0) (1) (1))] ((p15z_h1 h))=some ((u32 s),(h1))):denG envT C (BIG) 15 [(Value.slice none 0 0)] (h)=some ((u32 s),(h1)):=
  syR_sound (p15z_ok C s h h1)<|goodY_cons (kr (h44) (by kernel_rfl))<|
  goodY_nil
def p34_h1 (n:Nat) (s:Nat) (v:Nat) (h:AH):AH:=AH.mk (AH.next h+34) (AH.mem (AH.new h (AObj.cells (PT.node (some (i64 0)) (PT.node (some (i64 v)) (PT.node (some (u32 s)) PT.leaf PT.leaf) PT.leaf) (PT.node (some (i64 n)) PT.leaf PT.leaf)) 4 0))) []
def p34_h2 (n:Nat) (s:Nat) (v:Nat) (h:AH):AH:=AH.mk (AH.next h+48) (AH.mem (AH.mk (AH.next h+34) (AH.mem (AH.new h (AObj.cells (PT.node (some (i64 0)) (PT.node (some (i64 v)) (PT.node (some (u32 s)) PT.leaf PT.leaf) PT.leaf) (PT.node (some (i64 n)) PT.leaf PT.leaf)) 4 0))) [])) []
def p34_h3 (h1:AH):AH:=AH.mk (AH.next h1+9) (AH.mem h1) []
theorem p34_ok (C:Oracle) (d:Nat) (f:Nat) (pg:Nat) (k:Nat) (n:Nat) (s:Nat) (v:Nat) (ob:Nat) (c2:Nat) (h:AH) (h1:AH) (h2:AH):syR envT C (BIG) [(4,(i64 0),none),
  (8,(i64 0),none),
  (13,(i64 n),none),
  (18,(i64 n),none),
  (22,(ptr (f) (0)),none),
  (25,(i64 pg),none),
  (29,(ptr (f) (0)),none),
  (32,(i64 k),none),
  (33,(i64 (pg*k)),none),
  (34,(Value.bool false),none),
  (39,(ptr (f) (0)),none),
  (41,(i64 0),none),
  (43,(i64 n),none),
  (44,(Value.tuple (Array.mk [Value.slice (some (Addr.mk ob 0 none)) n c2,i64 0])),some (h1)),
  (54,(u32 s),some (h2)),
  (56,(u32 s),none),
  (57,(Value.bool false),none)] [] 34 [(ptr (d) (0)),(Value.agg (Array.mk [i64 0,i64 v,i64 n,u32 s]))] (h)=some ((Value.tuple (Array.mk [Value.slice (some (Addr.mk ob 0 none)) n c2,Value.bool true])),(h2),
  [AH.cell ((p34_h3 h1)) (AH.next h) (3)=some (u32 s),
   some (Value.bool !ieq (Int.ofNat s) (Int.ofNat s),(h2))=some ((Value.bool false),(h2)),
   ((AH.cell ((h2)) (AH.next h) (3)).bind fun zv=>some (zv,(h2)))=some ((u32 s),(h2)),
   C (Value.func (Fn.func 15) (Array.mk []) (Array.mk [])) [(sl (ob) (0) (n) (c2))] ((p34_h3 h1))=some ((u32 s),(h2)),
   C (Value.func (Fn.func 68) (Array.mk []) (Array.mk [])) [(ptr (f) (0)),(i64 0),(i64 0),(i64 n)] ((p34_h2 n s v h))=some ((Value.tuple (Array.mk [Value.slice (some (Addr.mk ob 0 none)) n c2,i64 0])),(h1)),
   ((AH.cell ((p34_h2 n s v h)) (AH.next h) (2)).bind fun zv=>some (zv,(p34_h2 n s v h)))=some ((i64 n),(p34_h2 n s v h)),
   ((AH.cell ((p34_h2 n s v h)) (AH.next h) (0)).bind fun zv=>some (zv,(p34_h2 n s v h)))=some ((i64 0),(p34_h2 n s v h)),
   ((AH.cell ((p34_h2 n s v h)) (d) (0)).bind fun zv=>some (zv,(p34_h2 n s v h)))=some ((ptr (f) (0)),(p34_h2 n s v h)),
   some (Value.bool (ilt (Int.ofNat (pg*k)) (Int.ofNat n)),(p34_h1 n s v h))=some ((Value.bool false),(p34_h1 n s v h)),
   some (Value.int IntKind.i64 (wr IntKind.i64 (Int.ofNat (pg*k))),(p34_h1 n s v h))=some ((i64 (pg*k)),(p34_h1 n s v h)),
   ((AH.cell ((p34_h1 n s v h)) (f) (1)).bind fun zv=>some (zv,(p34_h1 n s v h)))=some ((i64 k),(p34_h1 n s v h)),
   ((AH.cell ((p34_h1 n s v h)) (d) (0)).bind fun zv=>some (zv,(p34_h1 n s v h)))=some ((ptr (f) (0)),(p34_h1 n s v h)),
   ((AH.cell ((p34_h1 n s v h)) (f) (0)).bind fun zv=>some (zv,(p34_h1 n s v h)))=some ((i64 pg),(p34_h1 n s v h)),
   ((AH.cell ((p34_h1 n s v h)) (d) (0)).bind fun zv=>some (zv,(p34_h1 n s v h)))=some ((ptr (f) (0)),(p34_h1 n s v h)),
   ((AH.cell ((p34_h1 n s v h)) (AH.next h) (2)).bind fun zv=>some (zv,(p34_h1 n s v h)))=some ((i64 n),(p34_h1 n s v h)),
   ((AH.cell ((p34_h1 n s v h)) (AH.next h) (2)).bind fun zv=>some (zv,(p34_h1 n s v h)))=some ((i64 n),(p34_h1 n s v h)),
   ((AH.cell ((p34_h1 n s v h)) (AH.next h) (0)).bind fun zv=>some (zv,(p34_h1 n s v h)))=some ((i64 0),(p34_h1 n s v h)),
   ((AH.cell ((p34_h1 n s v h)) (AH.next h) (0)).bind fun zv=>some (zv,(p34_h1 n s v h)))=some ((i64 0),(p34_h1 n s v h))]):=by kernel_rfl
theorem p34 (C:Oracle) (d f pg k n s v ob c2:Nat) (h h1 h2:AH) (d0:h.cell d 0=some (ptr f 0)) (f0:h.cell f 0=some (i64 pg)) (f1:h.cell f 1=some (i64 k)) (hd:d<h.next) (hf:f<h.next) (hM2:pg*k≤16777216) (hn:n≤pg*k) (h68:C (Value.func (Fn.func 68) (Array.mk []) (Array.mk [])) [(ptr (f) (0)),(i64 0),(i64 0),(i64 n)] ((p34_h2 n s v h))=some ((Value.tuple (Array.mk [Value.slice (some (Addr.mk ob 0 none)) n c2,i64 0])),(h1))) (e0:h1.cell d 0=some (ptr f 0)) (x0:h1.cell h.next 0=some (i64 0)) (x2:h1.cell h.next 2=some (i64 n)) (x3:h1.cell h.next 3=some (u32 s)) (h15:C (Value.func (Fn.func 15) (Array.mk []) (Array.mk [])) [(sl (ob) (0) (n) (c2))] ((p34_h3 h1))=some ((u32 s),(h2))) (g3:h2.cell h.next 3=some (u32 s)):denG envT C (BIG) 34 [(ptr (d) (0)),(Value.agg (Array.mk [i64 0,i64 v,i64 n,u32 s]))] (h)=some ((Value.tuple (Array.mk [Value.slice (some (Addr.mk ob 0 none)) n c2,Value.bool true])),(h2)):=
  syR_sound (p34_ok C d f pg k n s v ob c2 h h1 h2)<|goodY_cons (cM (x3))<|
  goodY_cons (cB (congrArg (fun z=>!z) (eqT (by omega):ieq (Int.ofNat s) (Int.ofNat s)=true)))<|
  goodY_cons (ldE (g3))<|
  goodY_cons (kr (h15) (by kernel_rfl))<|
  goodY_cons (kr (h68) (by kernel_rfl))<|
  goodY_cons (ldE (cM (cM (cell_of (gS) (by kernel_rfl)))))<|
  goodY_cons (ldE (cM (cM (cell_of (gS) (by kernel_rfl)))))<|
  goodY_cons (ldE (cM (cM (cN (by first|omega|(simp only [AH.new_next,nx_put,nx_up];omega)) (d0)))))<|
  goodY_cons (cB (congrArg (fun z=>z) (ltF (by omega):ilt (Int.ofNat (pg*k)) (Int.ofNat n)=false)))<|
  goodY_cons (cI (wrE 9223372036854775808 rfl (by first|rfl|assumption|omega|simp (disch:=omega) [Nat.div_self,Nat.div_div_eq_div_mul,Nat.mul_div_cancel]) (by omega)))<|
  goodY_cons (ldE (cM (cN (by first|omega|(simp only [AH.new_next,nx_put,nx_up];omega)) (f1))))<|
  goodY_cons (ldE (cM (cN (by first|omega|(simp only [AH.new_next,nx_put,nx_up];omega)) (d0))))<|
  goodY_cons (ldE (cM (cN (by first|omega|(simp only [AH.new_next,nx_put,nx_up];omega)) (f0))))<|
  goodY_cons (ldE (cM (cN (by first|omega|(simp only [AH.new_next,nx_put,nx_up];omega)) (d0))))<|
  goodY_cons (ldE (cM (cell_of (gS) (by kernel_rfl))))<|
  goodY_cons (ldE (cM (cell_of (gS) (by kernel_rfl))))<|
  goodY_cons (ldE (cM (cell_of (gS) (by kernel_rfl))))<|
  goodY_cons (ldE (cM (cell_of (gS) (by kernel_rfl))))<|
  goodY_nil
def p34z_h1 (s:Nat) (v:Nat) (h:AH):AH:=AH.mk (AH.next h+34) (AH.mem (AH.new h (AObj.cells (PT.node (some (i64 0)) (PT.node (some (i64 v)) (PT.node (some (u32 s)) PT.leaf PT.leaf) PT.leaf) (PT.node (some (i64 0)) PT.leaf PT.leaf)) 4 0))) []
def p34z_h2 (s:Nat) (v:Nat) (h:AH):AH:=AH.mk (AH.next h+48) (AH.mem (AH.mk (AH.next h+34) (AH.mem (AH.new h (AObj.cells (PT.node (some (i64 0)) (PT.node (some (i64 v)) (PT.node (some (u32 s)) PT.leaf PT.leaf) PT.leaf) (PT.node (some (i64 0)) PT.leaf PT.leaf)) 4 0))) [])) []
def p34z_h3 (h1:AH):AH:=AH.mk (AH.next h1+9) (AH.mem h1) []
theorem p34z_ok (C:Oracle) (d:Nat) (f:Nat) (pg:Nat) (k:Nat) (s:Nat) (v:Nat) (h:AH) (h1:AH) (h2:AH):syR envT C (BIG) [(4,(i64 0),none),
  (8,(i64 0),none),
  (13,(i64 0),none),
  (18,(i64 0),none),
  (22,(ptr (f) (0)),none),
  (25,(i64 pg),none),
  (29,(ptr (f) (0)),none),
  (32,(i64 k),none),
  (33,(i64 (pg*k)),none),
  (39,(ptr (f) (0)),none),
  (41,(i64 0),none),
  (43,(i64 0),none),
  (44,(Value.tuple (Array.mk [Value.slice none 0 0,i64 0])),some (h1)),
  (54,(u32 s),some (h2)),
  (56,(u32 s),none),
  (57,(Value.bool false),none)] [] 34 [(ptr (d) (0)),(Value.agg (Array.mk [i64 0,i64 v,i64 0,u32 s]))] (h)=some ((Value.tuple (Array.mk [Value.slice none 0 0,Value.bool true])),(h2),
  [AH.cell ((p34z_h3 h1)) (AH.next h) (3)=some (u32 s),
   some (Value.bool !ieq (Int.ofNat s) (Int.ofNat s),(h2))=some ((Value.bool false),(h2)),
   ((AH.cell ((h2)) (AH.next h) (3)).bind fun zv=>some (zv,(h2)))=some ((u32 s),(h2)),
   C (Value.func (Fn.func 15) (Array.mk []) (Array.mk [])) [(Value.slice none 0 0)] ((p34z_h3 h1))=some ((u32 s),(h2)),
   C (Value.func (Fn.func 68) (Array.mk []) (Array.mk [])) [(ptr (f) (0)),(i64 0),(i64 0),(i64 0)] ((p34z_h2 s v h))=some ((Value.tuple (Array.mk [Value.slice none 0 0,i64 0])),(h1)),
   ((AH.cell ((p34z_h2 s v h)) (AH.next h) (2)).bind fun zv=>some (zv,(p34z_h2 s v h)))=some ((i64 0),(p34z_h2 s v h)),
   ((AH.cell ((p34z_h2 s v h)) (AH.next h) (0)).bind fun zv=>some (zv,(p34z_h2 s v h)))=some ((i64 0),(p34z_h2 s v h)),
   ((AH.cell ((p34z_h2 s v h)) (d) (0)).bind fun zv=>some (zv,(p34z_h2 s v h)))=some ((ptr (f) (0)),(p34z_h2 s v h)),
   some (Value.int IntKind.i64 (wr IntKind.i64 (Int.ofNat (pg*k))),(p34z_h1 s v h))=some ((i64 (pg*k)),(p34z_h1 s v h)),
   ((AH.cell ((p34z_h1 s v h)) (f) (1)).bind fun zv=>some (zv,(p34z_h1 s v h)))=some ((i64 k),(p34z_h1 s v h)),
   ((AH.cell ((p34z_h1 s v h)) (d) (0)).bind fun zv=>some (zv,(p34z_h1 s v h)))=some ((ptr (f) (0)),(p34z_h1 s v h)),
   ((AH.cell ((p34z_h1 s v h)) (f) (0)).bind fun zv=>some (zv,(p34z_h1 s v h)))=some ((i64 pg),(p34z_h1 s v h)),
   ((AH.cell ((p34z_h1 s v h)) (d) (0)).bind fun zv=>some (zv,(p34z_h1 s v h)))=some ((ptr (f) (0)),(p34z_h1 s v h)),
   ((AH.cell ((p34z_h1 s v h)) (AH.next h) (2)).bind fun zv=>some (zv,(p34z_h1 s v h)))=some ((i64 0),(p34z_h1 s v h)),
   ((AH.cell ((p34z_h1 s v h)) (AH.next h) (2)).bind fun zv=>some (zv,(p34z_h1 s v h)))=some ((i64 0),(p34z_h1 s v h)),
   ((AH.cell ((p34z_h1 s v h)) (AH.next h) (0)).bind fun zv=>some (zv,(p34z_h1 s v h)))=some ((i64 0),(p34z_h1 s v h)),
   ((AH.cell ((p34z_h1 s v h)) (AH.next h) (0)).bind fun zv=>some (zv,(p34z_h1 s v h)))=some ((i64 0),(p34z_h1 s v h))]):=by kernel_rfl
theorem p34z (C:Oracle) (d f pg k s v:Nat) (h h1 h2:AH) (d0:h.cell d 0=some (ptr f 0)) (f0:h.cell f 0=some (i64 pg)) (f1:h.cell f 1=some (i64 k)) (hd:d<h.next) (hf:f<h.next) (hM2:pg*k≤16777216) (h68:C (Value.func (Fn.func 68) (Array.mk []) (Array.mk [])) [(ptr (f) (0)),(i64 0),(i64 0),(i64 0)] ((p34z_h2 s v h))=some ((Value.tuple (Array.mk [Value.slice none 0 0,i64 0])),(h1))) (e0:h1.cell d 0=some (ptr f 0)) (x0:h1.cell h.next 0=some (i64 0)) (x2:h1.cell h.next 2=some (i64 0)) (x3:h1.cell h.next 3=some (u32 s)) (h15:C (Value.func (Fn.func 15) (Array.mk []) (Array.mk [])) [(Value.slice none 0 0)] ((p34z_h3 h1))=some ((u32 s),(h2))) (g3:h2.cell h.next 3=some (u32 s)):denG envT C (BIG) 34 [(ptr (d) (0)),(Value.agg (Array.mk [i64 0,i64 v,i64 0,u32 s]))] (h)=some ((Value.tuple (Array.mk [Value.slice none 0 0,Value.bool true])),(h2)):=
  syR_sound (p34z_ok C d f pg k s v h h1 h2)<|goodY_cons (cM (x3))<|
  goodY_cons (cB (congrArg (fun z=>!z) (eqT (by omega):ieq (Int.ofNat s) (Int.ofNat s)=true)))<|
  goodY_cons (ldE (g3))<|
  goodY_cons (kr (h15) (by kernel_rfl))<|
  goodY_cons (kr (h68) (by kernel_rfl))<|
  goodY_cons (ldE (cM (cM (cell_of (gS) (by kernel_rfl)))))<|
  goodY_cons (ldE (cM (cM (cell_of (gS) (by kernel_rfl)))))<|
  goodY_cons (ldE (cM (cM (cN (by first|omega|(simp only [AH.new_next,nx_put,nx_up];omega)) (d0)))))<|
  goodY_cons (cI (wrE 9223372036854775808 rfl (by first|rfl|assumption|omega|simp (disch:=omega) [Nat.div_self,Nat.div_div_eq_div_mul,Nat.mul_div_cancel]) (by omega)))<|
  goodY_cons (ldE (cM (cN (by first|omega|(simp only [AH.new_next,nx_put,nx_up];omega)) (f1))))<|
  goodY_cons (ldE (cM (cN (by first|omega|(simp only [AH.new_next,nx_put,nx_up];omega)) (d0))))<|
  goodY_cons (ldE (cM (cN (by first|omega|(simp only [AH.new_next,nx_put,nx_up];omega)) (f0))))<|
  goodY_cons (ldE (cM (cN (by first|omega|(simp only [AH.new_next,nx_put,nx_up];omega)) (d0))))<|
  goodY_cons (ldE (cM (cell_of (gS) (by kernel_rfl))))<|
  goodY_cons (ldE (cM (cell_of (gS) (by kernel_rfl))))<|
  goodY_cons (ldE (cM (cell_of (gS) (by kernel_rfl))))<|
  goodY_cons (ldE (cM (cell_of (gS) (by kernel_rfl))))<|
  goodY_nil
def OutR (h0:AH) (n:Nat) (xs:List Nat) (o:Value) (h:AH):Prop:=
  (n=0∧o=.slice none 0 0)∨(1≤n∧∃ b oc,o=sl b 0 n 4611686018427387905∧h.get b=some (.cells oc n 11)∧h0.next≤b∧b<h.next∧Bys h b 0 xs)
theorem read68_ok {d f pg k n pb ab:Nat} {xs:List Nat} {h:AH} (f0:h.cell f 0=some (i64 pg)) (f3:h.cell f 3=some (sl pb 0 k 4611686018427387907)) (f7:h.cell f 7=some (.bool false)) (hpg:∀ q,q<k→h.cell pb (q*3)=some (sl ab (q*pg) pg (pg*k-q*pg)))
    (hB:Bys h ab 0 xs) (hx:xs.length=n) (hb:∀ x ∈ xs,x<256) (hp:64≤pg) (hp2:pg≤4096) (hk:1≤k) (hk2:k≤4096) (hM:k*pg≤16777216) (hnk:n≤k*pg) (hf:f<h.next) (hpb:pb<h.next) (hab:ab<h.next) (lim:∀ b,h.next≤b→h.get b=none) :
    ∃ h' o,denG envT (orcS envT tbSum BIG d) BIG 68 [ptr f 0,i64 0,i64 0,i64 n] h=some (.tuple ⟨[o,i64 0]⟩,h')∧OutR h n xs o h'∧h.next≤h'.next∧(∀ b,h'.next≤b→h'.get b=none)∧∀ b,b<h.next→h'.get b=h.get b:=by
  have n1:(p68_h1 h).next=h.next+13:=rfl
  have g:∀ b,(p68_h1 h).get b=h.get b:=fun b=>rfl
  have J0:J68 n xs (p68_h1 h) 0 (.slice none 0 0) (p68_h1 h):=⟨Nat.le_refl _,fun b hb=>by rw [g];exact lim b (by omega),fun _ _=>rfl,.inl ⟨rfl,rfl⟩⟩
  have hBIG:n<BIG:=Nat.lt_of_le_of_lt (show n≤16777216 by omega) (by unfold BIG;decide)
  obtain ⟨T,h',o',l1,l2,J⟩:=loop_68 (C:=orcS envT tbSum BIG d) (h0:=p68_h1 h) f0 f3 hpg hB hx hp hp2 hk hk2 (by omega) hnk (by omega) (by omega) (by omega) n BIG 0 (.slice none 0 0) (p68_t0 f pg k n pb) (p68_h1 h) (by omega) hBIG ⟨by kernel_rfl,by kernel_rfl,by kernel_rfl,by kernel_rfl,by kernel_rfl,by kernel_rfl⟩ J0
  have e:tmK [(11,o')] T=T:=tmK_self _ _ fun p hp=>by
    simp only [List.mem_cons,List.not_mem_nil,or_false] at hp
    subst hp;exact l2
  have nx:=J.nx
  rcases J.out with ⟨rfl,rfl⟩|⟨h1,b,oc,rfl,g1,g2,g3,g4⟩
  · have hr:=p68z (orcS envT tbSum BIG d) f pg k pb (k*pg) T h h' f0 f3 f7 hf rfl hM (fun K=>by rw [e];exact l1 K)
    exact ⟨h',_,hr,.inl ⟨rfl,rfl⟩,by omega,J.lim,fun b hb=>by rw [J.old b (by omega),g]⟩
  · have hr:=p68 (orcS envT tbSum BIG d) f pg k n pb (k*pg) b T h h' f0 f3 f7 hf rfl hM hnk (fun K=>by rw [e];exact l1 K)
    refine ⟨h',_,hr,.inr ⟨h1,b,oc,rfl,g1,by omega,g3,bys_of g1 hb fun i x hi=>?_⟩,by omega,J.lim,fun b hb=>by rw [J.old b (by omega),g]⟩
    rw [Nat.zero_add]
    exact g4 i x (by have:=(List.getElem?_eq_some_iff.1 hi).1;omega) hi
theorem sum15_ok {d n s:Nat} {xs:List Nat} {o:Value} {h h0:AH} (hO:OutR h0 n xs o h) (hx:xs.length=n) (hn:n≤16777216) (hs:sumN xs=s) (hsl:s<4294967296) :
    ∃ h',orcS envT tbSum BIG (d+2) (.func (.func 15) ⟨[]⟩ ⟨[]⟩) [o] h=some (u32 s,h')∧h'.next=h.next+1∧∀ b,b≠h.next→h'.get b=h.get b:=by
  rcases hO with ⟨rfl,rfl⟩|⟨_,b,oc,rfl,g1,_,g3,g4⟩
  · have e:xs=[]:=List.eq_nil_of_length_eq_zero hx
    subst e
    have c44:=orcS_of (tb:=tbSum) (d:=d) (by kernel_rfl) (p44z (orcS envT tbSum BIG d) h.next 1 s [] (p15z_h1 h) (cell_of get_newS rfl) run79z hs hsl)
    have hr:=orcS_of (tb:=tbSum) (d:=d+1) (by kernel_rfl) (p15z (orcS envT tbSum BIG (d+1)) s h _ c44)
    exact ⟨_,hr,rfl,fun b hb=>get_newN hb⟩
  · have c44:=orcS_of (tb:=tbSum) (d:=d) (by kernel_rfl) (p44 (orcS envT tbSum BIG d) h.next 1 b n 4611686018427387905 s xs (p15_h1 b n 4611686018427387905 h) (cell_of get_newS rfl) (run79 hx (bN (by omega) g4) (by decide) (by omega)) hs hsl)
    have hr:=orcS_of (tb:=tbSum) (d:=d+1) (by kernel_rfl) (p15 (orcS envT tbSum BIG (d+1)) b n 4611686018427387905 s h _ c44)
    exact ⟨_,hr,rfl,fun b hb=>get_newN hb⟩
theorem holds34_ok {d dv f pg k n pb ab s v:Nat} {xs:List Nat} {h:AH} (d0:h.cell dv 0=some (ptr f 0)) (hdv:dv<h.next) (f0:h.cell f 0=some (i64 pg)) (f1:h.cell f 1=some (i64 k)) (f3:h.cell f 3=some (sl pb 0 k 4611686018427387907)) (f7:h.cell f 7=some (.bool false)) (hpg:∀ q,q<k→h.cell pb (q*3)=some (sl ab (q*pg) pg (pg*k-q*pg)))
    (hB:Bys h ab 0 xs) (hx:xs.length=n) (hb:∀ x ∈ xs,x<256) (hp:64≤pg) (hp2:pg≤4096) (hk:1≤k) (hk2:k≤4096) (hM:pg*k≤16777216) (hnk:n≤pg*k) (hf:f<h.next) (hpb:pb<h.next) (hab:ab<h.next) (lim:∀ b,h.next≤b→h.get b=none) (hs:sumN xs=s) (hsl:s<4294967296) :
    ∃ h' o,denG envT (orcS envT tbSum BIG (d+3)) BIG 34 [ptr dv 0,agg4 (i64 0) (i64 v) (i64 n) (u32 s)] h=some (.tuple ⟨[o,.bool true]⟩,h')∧OutR h n xs o h'∧h.next≤h'.next∧(∀ b,h'.next≤b→h'.get b=none)∧∀ b,b<h.next→h'.get b=h.get b:=by
  have hM':k*pg≤16777216:=by rw [Nat.mul_comm];exact hM
  have hnk':n≤k*pg:=by rw [Nat.mul_comm];exact hnk
  have e2:∀ b,b≠h.next→(p34_h2 n s v h).get b=h.get b:=fun b hb=>by
    simp only [p34_h2,get_mk,mem_get,AH.get_new]
    rw [if_neg hb]
  have o2:(p34_h2 n s v h).get h.next=some (.cells (PT.ofList [i64 0,i64 v,i64 n,u32 s] 0 .leaf) 4 0):=by
    simp only [p34_h2,get_mk,mem_get,AH.get_new]
    rw [if_pos trivial] <;> rfl
  have n2:(p34_h2 n s v h).next=h.next+48:=rfl
  have c:=fun {b o:Nat} {v':Value} (hb:b<h.next) (hc:h.cell b o=some v')=>cell_eq (e2 b (by omega)) hc
  obtain ⟨h1,o,r1,r2,r3,r4,r5⟩:=read68_ok (d:=d+2) (c hf f0) (c hf f3) (c hf f7) (fun q hq=>c hpb (hpg q hq)) (bN0 (e2 ab (by omega)) hB) hx hb hp hp2 hk hk2 hM' hnk' (by omega) (by omega) (by omega) (fun b hb=>by rw [e2 b (by omega)];exact lim b (by omega))
  let h1':=h1.wdf (p34_h2 n s v h).df
  have c68:orcS envT tbSum BIG (d+3) (.func (.func 68) ⟨[]⟩ ⟨[]⟩) [ptr f 0,i64 0,i64 0,i64 n] (p34_h2 n s v h)=some (.tuple ⟨[o,i64 0]⟩,h1'):=orcS_of (by kernel_rfl) r1
  have o1:h1'.get h.next=some (.cells (PT.ofList [i64 0,i64 v,i64 n,u32 s] 0 .leaf) 4 0):=(r5 h.next (by omega)).trans o2
  have n3:(p34_h3 h1').next=h1.next+9:=rfl
  have hO3:OutR (p34_h2 n s v h) n xs o (p34_h3 h1'):=by
    rcases r2 with r2|⟨k1,b,oc,k2,k3,k4,k5,k6⟩
    · exact .inl r2
    · exact .inr ⟨k1,b,oc,k2,k3,k4,by omega,k6⟩
  obtain ⟨h2,q1,q2,q3⟩:=sum15_ok (d:=d+1) hO3 hx (by omega) hs hsl
  have e3:∀ b,b<h1.next+9→h2.get b=h1.get b:=fun b hb=>q3 b (by omega)
  have x3:h2.cell h.next 3=some (u32 s):=cell_of ((e3 _ (by omega)).trans o1) rfl
  have d1:h1'.cell dv 0=some (ptr f 0):=cell_eq (show h1'.get dv=(p34_h2 n s v h).get dv from r5 dv (by omega)) (c hdv d0)
  have fin:OutR h n xs o h2∧h.next≤h2.next∧(∀ b,h2.next≤b→h2.get b=none)∧∀ b,b<h.next→h2.get b=h.get b:=by
    refine ⟨?_,by omega,fun b hb=>?_,fun b hb=>?_⟩
    · rcases r2 with r2|⟨k1,b,oc,k2,k3,k4,k5,k6⟩
      · exact .inl r2
      · exact .inr ⟨k1,b,oc,k2,(e3 b (by omega)).trans k3,by omega,by omega,bN0 (e3 b (by omega)) k6⟩
    · rw [q3 b (by omega)];exact r4 b (by omega)
    · rw [e3 b (by omega),r5 b (by omega),e2 b (by omega)]
  rcases r2 with ⟨rfl,rfl⟩|⟨k1,b,oc,rfl,k3,k4,k5,k6⟩
  · have hr:=p34z (orcS envT tbSum BIG (d+3)) dv f pg k s v h h1' h2 d0 f0 f1 hdv hf hM c68 d1 (cell_of o1 rfl) (cell_of o1 rfl) (cell_of o1 rfl) q1 x3
    exact ⟨h2,_,hr,fin⟩
  · have hr:=p34 (orcS envT tbSum BIG (d+3)) dv f pg k n s v b 4611686018427387905 h h1' h2 d0 f0 f1 hdv hf hM hnk c68 d1 (cell_of o1 rfl) (cell_of o1 rfl) (cell_of o1 rfl) q1 x3
    exact ⟨h2,_,hr,fin⟩
end Go.Proofs.YtejgabehfdapjaaGreat.Sym
