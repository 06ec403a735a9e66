/- The pages of a flash; the program's Image. Conditions: none. -/
import Derived.Test.YtejgabehfdapjaaGreatMa
set_option maxRecDepth 100000
set_option maxHeartbeats 4000000
namespace Go.Proofs.YtejgabehfdapjaaGreat.Sym
open Go.Den
def p77m_h1 (i:Nat) (h:AH):AH:=AH.mk (AH.next h+12) (AH.mem (AH.new h (AObj.cells (PT.node (some (i64 0)) (PT.node (some (i64 i)) PT.leaf PT.leaf) PT.leaf) 2 0))) []
def p77m_h2 (i:Nat) (h:AH):AH:=AH.mk (AH.next h+24) (AH.mem (AH.mk (AH.next h+12) (AH.mem (AH.new h (AObj.cells (PT.node (some (i64 0)) (PT.node (some (i64 i)) PT.leaf PT.leaf) PT.leaf) 2 0))) [])) []
def p77m_h3 (pg:Nat) (i:Nat) (h:AH):AH:=AH.put (AH.mk (AH.next h+24) (AH.mem (AH.mk (AH.next h+12) (AH.mem (AH.new h (AObj.cells (PT.node (some (i64 0)) (PT.node (some (i64 i)) PT.leaf PT.leaf) PT.leaf) 2 0))) [])) []) (AH.next h+17) (some (AObj.cells (zrep [u8 0] pg) pg 0))
def p77m_h4 (pg:Nat) (i:Nat) (h:AH):AH:=AH.new (AH.put (AH.mk (AH.next h+24) (AH.mem (AH.mk (AH.next h+12) (AH.mem (AH.new h (AObj.cells (PT.node (some (i64 0)) (PT.node (some (i64 i)) PT.leaf PT.leaf) PT.leaf) 2 0))) [])) []) (AH.next h+17) (some (AObj.cells (zrep [u8 0] pg) pg 0))) (AObj.cells (PT.node (some (Value.slice (some (Addr.mk (AH.next h+17) 0 none)) pg pg)) (PT.node (some (Value.bool false)) PT.leaf PT.leaf) PT.leaf) 2 0)
def p77m_h5 (pg:Nat) (i:Nat) (h:AH):AH:=AH.put (AH.new (AH.put (AH.mk (AH.next h+24) (AH.mem (AH.mk (AH.next h+12) (AH.mem (AH.new h (AObj.cells (PT.node (some (i64 0)) (PT.node (some (i64 i)) PT.leaf PT.leaf) PT.leaf) 2 0))) [])) []) (AH.next h+17) (some (AObj.cells (zrep [u8 0] pg) pg 0))) (AObj.cells (PT.node (some (Value.slice (some (Addr.mk (AH.next h+17) 0 none)) pg pg)) (PT.node (some (Value.bool false)) PT.leaf PT.leaf) PT.leaf) 2 0)) (AH.next h+17) (some (AObj.cells (fillC (zrep [u8 0] pg) 0 pg) pg 0))
def p77m_h6 (pg:Nat) (i:Nat) (h:AH):AH:=AH.mk (AH.next h+43) (AH.mem (AH.put (AH.new (AH.put (AH.mk (AH.next h+24) (AH.mem (AH.mk (AH.next h+12) (AH.mem (AH.new h (AObj.cells (PT.node (some (i64 0)) (PT.node (some (i64 i)) PT.leaf PT.leaf) PT.leaf) 2 0))) [])) []) (AH.next h+17) (some (AObj.cells (zrep [u8 0] pg) pg 0))) (AObj.cells (PT.node (some (Value.slice (some (Addr.mk (AH.next h+17) 0 none)) pg pg)) (PT.node (some (Value.bool false)) PT.leaf PT.leaf) PT.leaf) 2 0)) (AH.next h+17) (some (AObj.cells (fillC (zrep [u8 0] pg) 0 pg) pg 0)))) []
def p77m_h7 (pg:Nat) (i:Nat) (h:AH):AH:=AH.mk (AH.next h+57) (AH.mem (AH.mk (AH.next h+43) (AH.mem (AH.put (AH.new (AH.put (AH.mk (AH.next h+24) (AH.mem (AH.mk (AH.next h+12) (AH.mem (AH.new h (AObj.cells (PT.node (some (i64 0)) (PT.node (some (i64 i)) PT.leaf PT.leaf) PT.leaf) 2 0))) [])) []) (AH.next h+17) (some (AObj.cells (zrep [u8 0] pg) pg 0))) (AObj.cells (PT.node (some (Value.slice (some (Addr.mk (AH.next h+17) 0 none)) pg pg)) (PT.node (some (Value.bool false)) PT.leaf PT.leaf) PT.leaf) 2 0)) (AH.next h+17) (some (AObj.cells (fillC (zrep [u8 0] pg) 0 pg) pg 0)))) [])) []
def p77m_h8 (pg:Nat) (i:Nat) (n:Nat) (xs:List Nat) (h:AH):AH:=AH.put (AH.mk (AH.next h+57) (AH.mem (AH.mk (AH.next h+43) (AH.mem (AH.put (AH.new (AH.put (AH.mk (AH.next h+24) (AH.mem (AH.mk (AH.next h+12) (AH.mem (AH.new h (AObj.cells (PT.node (some (i64 0)) (PT.node (some (i64 i)) PT.leaf PT.leaf) PT.leaf) 2 0))) [])) []) (AH.next h+17) (some (AObj.cells (zrep [u8 0] pg) pg 0))) (AObj.cells (PT.node (some (Value.slice (some (Addr.mk (AH.next h+17) 0 none)) pg pg)) (PT.node (some (Value.bool false)) PT.leaf PT.leaf) PT.leaf) 2 0)) (AH.next h+17) (some (AObj.cells (fillC (zrep [u8 0] pg) 0 pg) pg 0)))) [])) []) (AH.next h+17) (some (AObj.cells (PT.puts (fillC (zrep [u8 0] pg) 0 pg) 0 (List.map u8 (List.take (min (n-i*pg) pg) (List.drop (i*pg) xs)))) pg 0))
def p77m_h9 (pg:Nat) (i:Nat) (n:Nat) (xs:List Nat) (h:AH):AH:=AH.mk (AH.next h+64) (AH.mem (AH.put (AH.mk (AH.next h+57) (AH.mem (AH.mk (AH.next h+43) (AH.mem (AH.put (AH.new (AH.put (AH.mk (AH.next h+24) (AH.mem (AH.mk (AH.next h+12) (AH.mem (AH.new h (AObj.cells (PT.node (some (i64 0)) (PT.node (some (i64 i)) PT.leaf PT.leaf) PT.leaf) 2 0))) [])) []) (AH.next h+17) (some (AObj.cells (zrep [u8 0] pg) pg 0))) (AObj.cells (PT.node (some (Value.slice (some (Addr.mk (AH.next h+17) 0 none)) pg pg)) (PT.node (some (Value.bool false)) PT.leaf PT.leaf) PT.leaf) 2 0)) (AH.next h+17) (some (AObj.cells (fillC (zrep [u8 0] pg) 0 pg) pg 0)))) [])) []) (AH.next h+17) (some (AObj.cells (PT.puts (fillC (zrep [u8 0] pg) 0 pg) 0 (List.map u8 (List.take (min (n-i*pg) pg) (List.drop (i*pg) xs)))) pg 0)))) []
def p77m_h10 (m:Nat) (pg:Nat) (i:Nat) (n:Nat) (xs:List Nat) (es:List (Value × Value)) (bs:List Nat) (cl:Nat) (h:AH):AH:=AH.put (AH.mk (AH.next h+64) (AH.mem (AH.put (AH.mk (AH.next h+57) (AH.mem (AH.mk (AH.next h+43) (AH.mem (AH.put (AH.new (AH.put (AH.mk (AH.next h+24) (AH.mem (AH.mk (AH.next h+12) (AH.mem (AH.new h (AObj.cells (PT.node (some (i64 0)) (PT.node (some (i64 i)) PT.leaf PT.leaf) PT.leaf) 2 0))) [])) []) (AH.next h+17) (some (AObj.cells (zrep [u8 0] pg) pg 0))) (AObj.cells (PT.node (some (Value.slice (some (Addr.mk (AH.next h+17) 0 none)) pg pg)) (PT.node (some (Value.bool false)) PT.leaf PT.leaf) PT.leaf) 2 0)) (AH.next h+17) (some (AObj.cells (fillC (zrep [u8 0] pg) 0 pg) pg 0)))) [])) []) (AH.next h+17) (some (AObj.cells (PT.puts (fillC (zrep [u8 0] pg) 0 pg) 0 (List.map u8 (List.take (min (n-i*pg) pg) (List.drop (i*pg) xs)))) pg 0)))) []) m (some (AObj.map (esPut (spot 0 i) (ptr (AH.next h+24) 0) es) (bs++[cl]) (cl+1)))
theorem p77m_ok (C:Oracle) (fl:Nat) (m:Nat) (pg:Nat) (i:Nat) (fb:Nat) (n:Nat) (q:Nat) (w:Nat) (xs:List Nat) (es:List (Value × Value)) (bs:List Nat) (cl:Nat) (h:AH):syR envT C (BIG) [(5,(Value.map (some m)),none),
  (6,(Value.agg (Array.mk [i64 0,i64 i])),none),
  (7,(Value.tuple (Array.mk [Value.pointer none,Value.bool false])),none),
  (18,(i64 pg),none),
  (19,(sl (AH.next h+17) (0) (pg) (pg)),some (p77m_h3 pg i h)),
  (21,(i64 0),none),
  (29,(sl (AH.next h+17) (0) (pg) (pg)),none),
  (30,(Value.tuple (Array.mk [])),some (p77m_h5 pg i h)),
  (32,(i64 0),none),
  (35,(i64 i),none),
  (40,(i64 pg),none),
  (41,(i64 (i*pg)),none),
  (44,(i64 0),none),
  (48,(sl (fb) (0) (n) (n)),none),
  (50,(i64 (i*pg)),none),
  (55,(sl (AH.next h+17) (0) (pg) (pg)),none),
  (58,(i64 0),none),
  (62,(sl (fb) (0) (n) (n)),none),
  (64,(sl (fb) (i*pg) (n-i*pg) (n-i*pg)),none),
  (65,(i64 (min (n-i*pg) pg)),some (p77m_h8 pg i n xs h)),
  (69,(Value.map (some m)),none),
  (70,(Value.agg (Array.mk [i64 0,i64 i])),none),
  (72,(Value.tuple (Array.mk [])),some (p77m_h10 m pg i n xs es bs cl h))] [] 77 [(ptr (fl) (0)),(Value.agg (Array.mk [i64 0,i64 i]))] (h)=some ((ptr (AH.next h+24) (0)),(p77m_h10 m pg i n xs es bs cl h),
  [((mUpd envT 112 (Value.map (some m)) (Value.agg (Array.mk [i64 0,i64 i])) (ptr (AH.next h+24) (0)) ((p77m_h9 pg i n xs h))).bind fun zh=>some (junk,zh))=some ((Value.tuple (Array.mk [])),(p77m_h10 m pg i n xs es bs cl h)),
   ((ldN 2 (Value.pointer (some (Addr.mk (AH.next h) 0 none))) ((p77m_h9 pg i n xs h))).bind fun zv=>some (zv,(p77m_h9 pg i n xs h)))=some ((Value.agg (Array.mk [i64 0,i64 i])),(p77m_h9 pg i n xs h)),
   ((AH.cell ((p77m_h9 pg i n xs h)) (fl) (3)).bind fun zv=>some (zv,(p77m_h9 pg i n xs h)))=some ((Value.map (some m)),(p77m_h9 pg i n xs h)),
   hCopy 1 (sl (AH.next h+17) (0) (pg) (pg)) (sl (fb) (i*pg) (n-i*pg) (n-i*pg)) ((p77m_h7 pg i h))=some ((i64 (min (n-i*pg) pg)),(p77m_h8 pg i n xs h)),
   ((slS 1 (sl (fb) (0) (n) (n)) (some (i64 (i*pg))) none none).bind fun zv=>some (zv,(p77m_h7 pg i h)))=some ((sl (fb) (i*pg) (n-i*pg) (n-i*pg)),(p77m_h7 pg i h)),
   ((AH.cell ((p77m_h7 pg i h)) (fl) (4)).bind fun zv=>some (zv,(p77m_h7 pg i h)))=some ((sl (fb) (0) (n) (n)),(p77m_h7 pg i h)),
   ((AH.cell ((p77m_h7 pg i h)) (AH.next h) (0)).bind fun zv=>some (zv,(p77m_h7 pg i h)))=some ((i64 0),(p77m_h7 pg i h)),
   ((AH.cell ((p77m_h7 pg i h)) (AH.next h+24) (0)).bind fun zv=>some (zv,(p77m_h7 pg i h)))=some ((sl (AH.next h+17) (0) (pg) (pg)),(p77m_h7 pg i h)),
   some (Value.int IntKind.i64 (bif ilt (Int.ofNat n) (Int.ofNat (i*pg)) then Int.ofNat n else Int.ofNat (i*pg)),(p77m_h6 pg i h))=some ((i64 (i*pg)),(p77m_h6 pg i h)),
   ((AH.cell ((p77m_h6 pg i h)) (fl) (4)).bind fun zv=>some (zv,(p77m_h6 pg i h)))=some ((sl (fb) (0) (n) (n)),(p77m_h6 pg i h)),
   ((AH.cell ((p77m_h6 pg i h)) (AH.next h) (0)).bind fun zv=>some (zv,(p77m_h6 pg i h)))=some ((i64 0),(p77m_h6 pg i h)),
   some (Value.int IntKind.i64 (wr IntKind.i64 (Int.ofNat (i*pg))),(p77m_h6 pg i h))=some ((i64 (i*pg)),(p77m_h6 pg i h)),
   ((AH.cell ((p77m_h6 pg i h)) (fl) (0)).bind fun zv=>some (zv,(p77m_h6 pg i h)))=some ((i64 pg),(p77m_h6 pg i h)),
   ((AH.cell ((p77m_h6 pg i h)) (AH.next h) (1)).bind fun zv=>some (zv,(p77m_h6 pg i h)))=some ((i64 i),(p77m_h6 pg i h)),
   ((AH.cell ((p77m_h5 pg i h)) (AH.next h) (0)).bind fun zv=>some (zv,(p77m_h5 pg i h)))=some ((i64 0),(p77m_h5 pg i h)),
   C (Value.func (Fn.func 127) (Array.mk []) (Array.mk [])) [(sl (AH.next h+17) (0) (pg) (pg))] ((p77m_h4 pg i h))=some ((Value.tuple (Array.mk [])),(p77m_h5 pg i h)),
   ((AH.cell ((p77m_h4 pg i h)) (AH.next h+24) (0)).bind fun zv=>some (zv,(p77m_h4 pg i h)))=some ((sl (AH.next h+17) (0) (pg) (pg)),(p77m_h4 pg i h)),
   AH.cell ((p77m_h3 pg i h)) (fl) (0)=some (i64 pg),
   ((AH.cell ((p77m_h3 pg i h)) (AH.next h) (0)).bind fun zv=>some (zv,(p77m_h3 pg i h)))=some ((i64 0),(p77m_h3 pg i h)),
   mkD (pg) (pg) (AH.next h+17) ((p77m_h2 i h))=some ((sl (AH.next h+17) (0) (pg) (pg)),(p77m_h3 pg i h)),
   ((AH.cell ((p77m_h2 i h)) (fl) (0)).bind fun zv=>some (zv,(p77m_h2 i h)))=some ((i64 pg),(p77m_h2 i h)),
   ((mLook envT 112 true (Value.map (some m)) (Value.agg (Array.mk [i64 0,i64 i])) ((p77m_h1 i h))).bind fun zv=>some (zv,(p77m_h1 i h)))=some ((Value.tuple (Array.mk [Value.pointer none,Value.bool false])),(p77m_h1 i h)),
   ((ldN 2 (Value.pointer (some (Addr.mk (AH.next h) 0 none))) ((p77m_h1 i h))).bind fun zv=>some (zv,(p77m_h1 i h)))=some ((Value.agg (Array.mk [i64 0,i64 i])),(p77m_h1 i h)),
   ((AH.cell ((p77m_h1 i h)) (fl) (3)).bind fun zv=>some (zv,(p77m_h1 i h)))=some ((Value.map (some m)),(p77m_h1 i h))]):=by kernel_rfl
theorem p77m (C:Oracle) (fl m pg i fb n q w:Nat) (xs:List Nat) (es:List (Value × Value)) (bs:List Nat) (cl:Nat) (h:AH) (f0:h.cell fl 0=some (i64 pg)) (f3:h.cell fl 3=some (.map (some m))) (f4:h.cell fl 4=some (sl fb 0 n n)) (hfl:fl<h.next) (hfb:fb<h.next) (hm:m<h.next) (hfm:fl≠m) (hbm:fb≠m) (hM:h.get m=some (.map es bs cl)) (hK:esKeys kf es=true) (hF:esFind (spot 0 i) es=none) (hB:Bys h fb 0 xs) (hx:xs.length=n) (hq:i*pg=q) (hqn:q<n) (hi:i<9223372036854775808) (hw:min (n-q) pg=w) (hp:64≤pg) (hp2:pg≤4096) (hn:n≤16777216) (h127:∀ {b o n c M t:Nat} {ce:PT Value} {H:AH},n<4611686018427387904→H.get b=some (.cells ce M t)→(∀ i,i<n→∃ u,ce.get (o+i)=some u)→C (.func (.func 127) ⟨[]⟩ ⟨[]⟩) [sl b o n c] H=some (.tuple ⟨[]⟩,H.put b (some (.cells (fillC ce o n) M t)))):denG envT C (BIG) 77 [(ptr (fl) (0)),(Value.agg (Array.mk [i64 0,i64 i]))] (h)=some ((ptr (AH.next h+24) (0)),(p77m_h10 m pg i n xs es bs cl h)):=
  syR_sound (p77m_ok C fl m pg i fb n q w xs es bs cl h)<|goodY_cons (kr (upd112n (by omega) (by omega) (gM (gP (by first|omega|(simp only [AH.new_next,nx_put,nx_up];omega)) (gM (gM (gP (by first|omega|(simp only [AH.new_next,nx_put,nx_up];omega)) (gN (by first|omega|(simp only [AH.new_next,nx_put,nx_up];omega)) (gP (by first|omega|(simp only [AH.new_next,nx_put,nx_up];omega)) (gM (gM (gN (by first|omega|(simp only [AH.new_next,nx_put,nx_up];omega)) (hM))))))))))) hK hF) (by kernel_rfl))<|
  goodY_cons (ld2 (cM (cP (by first|omega|(simp only [AH.new_next,nx_put,nx_up];omega)) (cM (cM (cP (by first|omega|(simp only [AH.new_next,nx_put,nx_up];omega)) (cN (by first|omega|(simp only [AH.new_next,nx_put,nx_up];omega)) (cP (by first|omega|(simp only [AH.new_next,nx_put,nx_up];omega)) (cM (cM (cell_of (gS) (by kernel_rfl))))))))))) (cM (cP (by first|omega|(simp only [AH.new_next,nx_put,nx_up];omega)) (cM (cM (cP (by first|omega|(simp only [AH.new_next,nx_put,nx_up];omega)) (cN (by first|omega|(simp only [AH.new_next,nx_put,nx_up];omega)) (cP (by first|omega|(simp only [AH.new_next,nx_put,nx_up];omega)) (cM (cM (cell_of (gS) (by kernel_rfl))))))))))))<|
  goodY_cons (ldE (cM (cP (by first|omega|(simp only [AH.new_next,nx_put,nx_up];omega)) (cM (cM (cP (by first|omega|(simp only [AH.new_next,nx_put,nx_up];omega)) (cN (by first|omega|(simp only [AH.new_next,nx_put,nx_up];omega)) (cP (by first|omega|(simp only [AH.new_next,nx_put,nx_up];omega)) (cM (cM (cN (by first|omega|(simp only [AH.new_next,nx_put,nx_up];omega)) (f3))))))))))))<|
  goodY_cons (kr (cpy (by first|rfl|omega|simp (disch:=omega) [Nat.div_self,Nat.div_div_eq_div_mul,Nat.mul_div_cancel]) (by first|assumption|rfl|(simp;done)|omega|(simp;omega)) ((((bysD (bM (bM (bP (by first|omega|(simp only [AH.new_next,nx_put,nx_up];omega)) (bN (by first|omega|(simp only [AH.new_next,nx_put,nx_up];omega)) (bP (by first|omega|(simp only [AH.new_next,nx_put,nx_up];omega)) (bM (bM (bN (by first|omega|(simp only [AH.new_next,nx_put,nx_up];omega)) (hB)))))))))))).take (min (n-i*pg) pg)) (gM (gM (gQ))) (has_fill (has_zrep (by omega)))) (by kernel_rfl))<|
  goodY_cons (slU_k (vNat_some (by omega)) rfl (by omega) (by omega) (by first|rfl|omega|simp (disch:=omega) [Nat.div_self,Nat.div_div_eq_div_mul,Nat.mul_div_cancel]) (by first|rfl|omega|simp (disch:=omega) [Nat.div_self,Nat.div_div_eq_div_mul,Nat.mul_div_cancel]) (by first|rfl|omega|simp (disch:=omega) [Nat.div_self,Nat.div_div_eq_div_mul,Nat.mul_div_cancel]))<|
  goodY_cons (ldE (cM (cM (cP (by first|omega|(simp only [AH.new_next,nx_put,nx_up];omega)) (cN (by first|omega|(simp only [AH.new_next,nx_put,nx_up];omega)) (cP (by first|omega|(simp only [AH.new_next,nx_put,nx_up];omega)) (cM (cM (cN (by first|omega|(simp only [AH.new_next,nx_put,nx_up];omega)) (f4))))))))))<|
  goodY_cons (ldE (cM (cM (cP (by first|omega|(simp only [AH.new_next,nx_put,nx_up];omega)) (cN (by first|omega|(simp only [AH.new_next,nx_put,nx_up];omega)) (cP (by first|omega|(simp only [AH.new_next,nx_put,nx_up];omega)) (cM (cM (cell_of (gS) (by kernel_rfl))))))))))<|
  goodY_cons (ldE (cM (cM (cP (by first|omega|(simp only [AH.new_next,nx_put,nx_up];omega)) (cell_of (gS) (by kernel_rfl))))))<|
  goodY_cons (cI (congrArg (fun z:Bool=>bif z then Int.ofNat n else Int.ofNat (i*pg)) (congrArg (fun z=>z) (ltF (by omega):ilt (Int.ofNat n) (Int.ofNat (i*pg))=false))))<|
  goodY_cons (ldE (cM (cP (by first|omega|(simp only [AH.new_next,nx_put,nx_up];omega)) (cN (by first|omega|(simp only [AH.new_next,nx_put,nx_up];omega)) (cP (by first|omega|(simp only [AH.new_next,nx_put,nx_up];omega)) (cM (cM (cN (by first|omega|(simp only [AH.new_next,nx_put,nx_up];omega)) (f4)))))))))<|
  goodY_cons (ldE (cM (cP (by first|omega|(simp only [AH.new_next,nx_put,nx_up];omega)) (cN (by first|omega|(simp only [AH.new_next,nx_put,nx_up];omega)) (cP (by first|omega|(simp only [AH.new_next,nx_put,nx_up];omega)) (cM (cM (cell_of (gS) (by kernel_rfl)))))))))<|
  goodY_cons (cI (wrE 9223372036854775808 rfl (by first|rfl|omega|simp (disch:=omega) [Nat.div_self,Nat.div_div_eq_div_mul,Nat.mul_div_cancel]) (by omega)))<|
  goodY_cons (ldE (cM (cP (by first|omega|(simp only [AH.new_next,nx_put,nx_up];omega)) (cN (by first|omega|(simp only [AH.new_next,nx_put,nx_up];omega)) (cP (by first|omega|(simp only [AH.new_next,nx_put,nx_up];omega)) (cM (cM (cN (by first|omega|(simp only [AH.new_next,nx_put,nx_up];omega)) (f0)))))))))<|
  goodY_cons (ldE (cM (cP (by first|omega|(simp only [AH.new_next,nx_put,nx_up];omega)) (cN (by first|omega|(simp only [AH.new_next,nx_put,nx_up];omega)) (cP (by first|omega|(simp only [AH.new_next,nx_put,nx_up];omega)) (cM (cM (cell_of (gS) (by kernel_rfl)))))))))<|
  goodY_cons (ldE (cP (by first|omega|(simp only [AH.new_next,nx_put,nx_up];omega)) (cN (by first|omega|(simp only [AH.new_next,nx_put,nx_up];omega)) (cP (by first|omega|(simp only [AH.new_next,nx_put,nx_up];omega)) (cM (cM (cell_of (gS) (by kernel_rfl))))))))<|
  goodY_cons (kr (h127 (by omega) (gN (by first|omega|(simp only [AH.new_next,nx_put,nx_up];omega)) (gQ)) (has_zrep (by omega))) (by kernel_rfl))<|
  goodY_cons (ldE (cell_of (gS) (by kernel_rfl)))<|
  goodY_cons (cP (by first|omega|(simp only [AH.new_next,nx_put,nx_up];omega)) (cM (cM (cN (by first|omega|(simp only [AH.new_next,nx_put,nx_up];omega)) (f0)))))<|
  goodY_cons (ldE (cP (by first|omega|(simp only [AH.new_next,nx_put,nx_up];omega)) (cM (cM (cell_of (gS) (by kernel_rfl))))))<|
  goodY_cons (kr (mkDE (by omega) (by omega)) (by kernel_rfl))<|
  goodY_cons (ldE (cM (cM (cN (by first|omega|(simp only [AH.new_next,nx_put,nx_up];omega)) (f0)))))<|
  goodY_cons (look112n (by omega) (by omega) (gM (gN (by first|omega|(simp only [AH.new_next,nx_put,nx_up];omega)) (hM))) hK hF)<|
  goodY_cons (ld2 (cM (cell_of (gS) (by kernel_rfl))) (cM (cell_of (gS) (by kernel_rfl))))<|
  goodY_cons (ldE (cM (cN (by first|omega|(simp only [AH.new_next,nx_put,nx_up];omega)) (f3))))<|
  goodY_nil
def p77h_h1 (i:Nat) (h:AH):AH:=AH.mk (AH.next h+12) (AH.mem (AH.new h (AObj.cells (PT.node (some (i64 0)) (PT.node (some (i64 i)) PT.leaf PT.leaf) PT.leaf) 2 0))) []
theorem p77h_ok (C:Oracle) (fl:Nat) (m:Nat) (p:Nat) (i:Nat) (es:List (Value × Value)) (bs:List Nat) (cl:Nat) (h:AH):syR envT C (BIG) [(5,(Value.map (some m)),none),
  (6,(Value.agg (Array.mk [i64 0,i64 i])),none),
  (7,(Value.tuple (Array.mk [Value.pointer (some (Addr.mk p 0 none)),Value.bool true])),none)] [] 77 [(ptr (fl) (0)),(Value.agg (Array.mk [i64 0,i64 i]))] (h)=some ((ptr (p) (0)),(p77h_h1 i h),
  [((mLook envT 112 true (Value.map (some m)) (Value.agg (Array.mk [i64 0,i64 i])) ((p77h_h1 i h))).bind fun zv=>some (zv,(p77h_h1 i h)))=some ((Value.tuple (Array.mk [Value.pointer (some (Addr.mk p 0 none)),Value.bool true])),(p77h_h1 i h)),
   ((ldN 2 (Value.pointer (some (Addr.mk (AH.next h) 0 none))) ((p77h_h1 i h))).bind fun zv=>some (zv,(p77h_h1 i h)))=some ((Value.agg (Array.mk [i64 0,i64 i])),(p77h_h1 i h)),
   ((AH.cell ((p77h_h1 i h)) (fl) (3)).bind fun zv=>some (zv,(p77h_h1 i h)))=some ((Value.map (some m)),(p77h_h1 i h))]):=by kernel_rfl
theorem p77h (C:Oracle) (fl m p i:Nat) (es:List (Value × Value)) (bs:List Nat) (cl:Nat) (h:AH) (f3:h.cell fl 3=some (.map (some m))) (hfl:fl<h.next) (hm:m<h.next) (hM:h.get m=some (.map es bs cl)) (hK:esKeys kf es=true) (hF:esFind (spot 0 i) es=some (ptr p 0)) (hi:i<9223372036854775808):denG envT C (BIG) 77 [(ptr (fl) (0)),(Value.agg (Array.mk [i64 0,i64 i]))] (h)=some ((ptr (p) (0)),(p77h_h1 i h)):=
  syR_sound (p77h_ok C fl m p i es bs cl h)<|goodY_cons (look112h (by omega) hi (gM (gN (by first|omega|(simp only [AH.new_next,nx_put,nx_up];omega)) (hM))) hK hF)<|
  goodY_cons (ld2 (cM (cell_of (gS) (by kernel_rfl))) (cM (cell_of (gS) (by kernel_rfl))))<|
  goodY_cons (ldE (cM (cN (by first|omega|(simp only [AH.new_next,nx_put,nx_up];omega)) (f3))))<|
  goodY_nil
theorem p101_ok (C:Oracle) (fl:Nat) (m:Nat) (h:AH):syR envT C (BIG) [(7,(Value.map (some m)),none),
  (14,(Value.bool false),none)] [] 101 [(ptr (fl) (0))] (h)=some ((i64 0),h,
  [((AH.cell (h) (fl) (9)).bind fun zv=>some (zv,h))=some ((Value.bool false),h),
   ((AH.cell (h) (fl) (3)).bind fun zv=>some (zv,h))=some ((Value.map (some m)),h)]):=by kernel_rfl
theorem p101 (C:Oracle) (fl m:Nat) (h:AH) (f3:h.cell fl 3=some (.map (some m))) (f9:h.cell fl 9=some (.bool false)):denG envT C (BIG) 101 [(ptr (fl) (0))] (h)=some ((i64 0),h):=
  syR_sound (p101_ok C fl m h)<|goodY_cons (ldE (f9))<|
  goodY_cons (ldE (f3))<|
  goodY_nil
theorem p121_ok (C:Oracle) (fl:Nat) (k:Nat) (h:AH):syR envT C (BIG) [(8,(i64 k),none)] [] 121 [(ptr (fl) (0)),(i64 0)] (h)=some ((i64 k),h,
  [((AH.cell (h) (fl) (1)).bind fun zv=>some (zv,h))=some ((i64 k),h)]):=by kernel_rfl
theorem p121 (C:Oracle) (fl k:Nat) (h:AH) (f1:h.cell fl 1=some (i64 k)):denG envT C (BIG) 121 [(ptr (fl) (0)),(i64 0)] (h)=some ((i64 k),h):=
  syR_sound (p121_ok C fl k h)<|goodY_cons (ldE (f1))<|
  goodY_nil
noncomputable def fi_67:FI:=match envT.fn 67 with|some x=>x|none=>⟨.skip,0,#[]⟩
noncomputable def X_67:Code:=atP fi_67.body [2,2,2,2,2,2,1,1,1]
def t_67 (fl ob a w n:Nat) (tm:Tm):Tm:=tmK [(0,ptr fl 0),(1,i64 0),(2,i64 a),(3,i64 w),(12,sl ob 0 a n)] tm
def s67_h1 (h1:AH):AH:=AH.mk (AH.next h1+13) (AH.mem h1) []
def s67_h2 (pg:Nat) (n:Nat) (ob:Nat) (i:Nat) (h1:AH) (oc:PT Value) (ys:List Nat):AH:=AH.put (AH.mk (AH.next h1+13) (AH.mem h1) []) ob (some (AObj.cells (PT.puts oc (i*pg) (List.map u8 ys)) n 0))
noncomputable def s67_fo (C:Oracle) (fl:Nat) (pg:Nat) (n:Nat) (ob:Nat) (w:Nat) (u:Nat) (b:Nat) (p:Nat) (i:Nat) (tm:Tm) (h:AH) (h1:AH) (oc:PT Value) (ys:List Nat):Fo:=[(1,(Value.bool true),none),
  (9,(i64 pg),none),
  (10,(i64 i),none),
  (12,(ptr (p) (0)),some (h1)),
  (17,(sl (b) (0) (pg) (pg)),none),
  (23,(i64 pg),none),
  (24,(i64 0),none),
  (25,(sl (b) (0) (pg) (pg)),none),
  (31,(i64 u),none),
  (32,(sl (b) (0) (u) (pg)),none),
  (36,(sl (ob) (0) (i*pg+u) (n)),some (s67_h2 pg n ob i h1 oc ys)),
  (41,(i64 (i*pg+u)),none),
  (46,(i64 (w-u)),none)]
noncomputable def s67_s (C:Oracle) (fl:Nat) (pg:Nat) (n:Nat) (ob:Nat) (w:Nat) (u:Nat) (b:Nat) (p:Nat) (i:Nat) (tm:Tm) (h:AH) (h1:AH) (oc:PT Value) (ys:List Nat):SY:=syP envT C 96 (BIG) (s67_fo C fl pg n ob w u b p i tm h h1 oc ys) [] (X_67) (t_67 fl ob (i*pg) w n tm) (h)
theorem s67_ok (C:Oracle) (fl:Nat) (pg:Nat) (n:Nat) (ob:Nat) (w:Nat) (u:Nat) (b:Nat) (p:Nat) (i:Nat) (tm:Tm) (h:AH) (h1:AH) (oc:PT Value) (ys:List Nat):SyP envT C 96 (BIG) (s67_fo C fl pg n ob w u b p i tm h h1 oc ys) [] (X_67) (t_67 fl ob (i*pg) w n tm) (h) .normal (SY.t (s67_s C fl pg n ob w u b p i tm h h1 oc ys)) ((s67_h2 pg n ob i h1 oc ys)) (SY.c (s67_s C fl pg n ob w u b p i tm h h1 oc ys)):=⟨48,by kernel_rfl⟩
theorem s67_c (C:Oracle) (fl:Nat) (pg:Nat) (n:Nat) (ob:Nat) (w:Nat) (u:Nat) (b:Nat) (p:Nat) (i:Nat) (tm:Tm) (h:AH) (h1:AH) (oc:PT Value) (ys:List Nat):SY.c (s67_s C fl pg n ob w u b p i tm h h1 oc ys)=
  [some (Value.int IntKind.i64 (wr IntKind.i64 (Int.ofNat w-Int.ofNat u)),(s67_h2 pg n ob i h1 oc ys))=some ((i64 (w-u)),(s67_h2 pg n ob i h1 oc ys)),
   some (Value.int IntKind.i64 (wr IntKind.i64 (Int.ofNat (i*pg+u))),(s67_h2 pg n ob i h1 oc ys))=some ((i64 (i*pg+u)),(s67_h2 pg n ob i h1 oc ys)),
   hApp 5 1 1 (sl (ob) (0) (i*pg) (n)) (sl (b) (0) (u) (pg)) ((s67_h1 h1))=some ((sl (ob) (0) (i*pg+u) (n)),(s67_h2 pg n ob i h1 oc ys)),
   ((slS 1 (sl (b) (0) (pg) (pg)) none (some (i64 u)) none).bind fun zv=>some (zv,(s67_h1 h1)))=some ((sl (b) (0) (u) (pg)),(s67_h1 h1)),
   some (Value.int IntKind.i64 (bif ilt (Int.ofNat pg) (Int.ofNat w) then Int.ofNat pg else Int.ofNat w),(s67_h1 h1))=some ((i64 u),(s67_h1 h1)),
   ((slS 1 (sl (b) (0) (pg) (pg)) (some (i64 0)) none none).bind fun zv=>some (zv,(s67_h1 h1)))=some ((sl (b) (0) (pg) (pg)),(s67_h1 h1)),
   ((kBin envT BinOp.rem 3 (bBin envT (TypeDesc.int IntKind.i64) BinOp.rem (iRem (i64 (i*pg)) (i64 pg)) (i64 (i*pg)) (i64 pg)) (i64 (i*pg)) (i64 pg)).bind fun zv=>some (zv,(s67_h1 h1)))=some ((i64 0),(s67_h1 h1)),
   ((AH.cell ((s67_h1 h1)) (fl) (0)).bind fun zv=>some (zv,(s67_h1 h1)))=some ((i64 pg),(s67_h1 h1)),
   ((AH.cell ((s67_h1 h1)) (p) (0)).bind fun zv=>some (zv,(s67_h1 h1)))=some ((sl (b) (0) (pg) (pg)),(s67_h1 h1)),
   C (Value.func (Fn.func 77) (Array.mk []) (Array.mk [])) [(ptr (fl) (0)),(Value.agg (Array.mk [i64 0,i64 i]))] (h)=some ((ptr (p) (0)),(h1)),
   ((kBin envT BinOp.quo 3 (bBin envT (TypeDesc.int IntKind.i64) BinOp.quo (iQuo (i64 (i*pg)) (i64 pg)) (i64 (i*pg)) (i64 pg)) (i64 (i*pg)) (i64 pg)).bind fun zv=>some (zv,h))=some ((i64 i),h),
   ((AH.cell (h) (fl) (0)).bind fun zv=>some (zv,h))=some ((i64 pg),h),
   some (Value.bool (ilt (Int.ofNat 0) (Int.ofNat w)),h)=some ((Value.bool true),h)]:=by kernel_rfl
theorem s67_t (C:Oracle) (fl:Nat) (pg:Nat) (n:Nat) (ob:Nat) (w:Nat) (u:Nat) (b:Nat) (p:Nat) (i:Nat) (tm:Tm) (h:AH) (h1:AH) (oc:PT Value) (ys:List Nat):SY.t (s67_s C fl pg n ob w u b p i tm h h1 oc ys) 0=(ptr (fl) (0))∧SY.t (s67_s C fl pg n ob w u b p i tm h h1 oc ys) 1=(i64 0)∧SY.t (s67_s C fl pg n ob w u b p i tm h h1 oc ys) 2=(i64 (i*pg+u))∧SY.t (s67_s C fl pg n ob w u b p i tm h h1 oc ys) 3=(i64 (w-u))∧SY.t (s67_s C fl pg n ob w u b p i tm h h1 oc ys) 12=(sl (ob) (0) (i*pg+u) (n)):=⟨by kernel_rfl,by kernel_rfl,by kernel_rfl,by kernel_rfl,by kernel_rfl⟩
theorem s67 (C:Oracle) (fl pg n ob w u b p i:Nat) (tm:Tm) (h h1:AH) (oc:PT Value) (ys:List Nat) (f0:h.cell fl 0=some (i64 pg)) (g1:h1.cell fl 0=some (i64 pg)) (g0:h1.cell p 0=some (sl b 0 pg pg)) (gB:Bys h1 b 0 ys) (gO:h1.get ob=some (.cells oc n 0)) (hfl:fl<h.next) (hp:64≤pg) (hp2:pg≤4096) (hw:0<w) (ha:i*pg+w=n) (hn:n≤16777216) (hu1:u≤w) (hu2:u≤pg) (hu3:u=w∨u=pg) (hys:ys.length=u) (hi:i<9223372036854775808) (hoc:∀ j,j<n→∃ v,oc.get j=some v) (h77:C (.func (.func 77) ⟨[]⟩ ⟨[]⟩) [ptr fl 0,spot 0 i] h=some (ptr p 0,h1)):∃ T:Tm,(∀ K,evF envT C 96 (BIG) (X_67) K (t_67 fl ob (i*pg) w n tm) (h)=K .normal T ((s67_h2 pg n ob i h1 oc ys)))∧T 0=(ptr (fl) (0))∧T 1=(i64 0)∧T 2=(i64 (i*pg+u))∧T 3=(i64 (w-u))∧T 12=(sl (ob) (0) (i*pg+u) (n)):=
  ⟨SY.t (s67_s C fl pg n ob w u b p i tm h h1 oc ys),fun K=>SyP.on (s67_ok C fl pg n ob w u b p i tm h h1 oc ys) (by
    rw [s67_c]
    exact goodY_cons (cI (subE (by omega) (by first|rfl|omega|simp (disch:=omega) [Nat.div_self,Nat.div_div_eq_div_mul,Nat.mul_div_cancel]) (by omega)))<|
  goodY_cons (cI (wrE 9223372036854775808 rfl (by first|rfl|omega|simp (disch:=omega) [Nat.div_self,Nat.div_div_eq_div_mul,Nat.mul_div_cancel]) (by omega)))<|
  goodY_cons (kr (app_in (by first|assumption|rfl|(simp;done)|omega|(simp;omega)) (bM (gB)) (gM (gO)) (fun j hj=>hoc ((i*pg)+j) (by omega)) (by first|rfl|omega|simp (disch:=omega) [Nat.div_self,Nat.div_div_eq_div_mul,Nat.mul_div_cancel]) (by first|rfl|omega|simp (disch:=omega) [Nat.div_self,Nat.div_div_eq_div_mul,Nat.mul_div_cancel]) (by omega) (by omega)) (by kernel_rfl))<|
  goodY_cons (slU_k rfl (vNat_some (by omega)) (by omega) (by omega) (by first|rfl|omega|simp (disch:=omega) [Nat.div_self,Nat.div_div_eq_div_mul,Nat.mul_div_cancel]) (by first|rfl|omega|simp (disch:=omega) [Nat.div_self,Nat.div_div_eq_div_mul,Nat.mul_div_cancel]) (by first|rfl|omega|simp (disch:=omega) [Nat.div_self,Nat.div_div_eq_div_mul,Nat.mul_div_cancel]))<|
  goodY_cons (cI (minI (by omega) (by omega) (by omega)))<|
  goodY_cons (slU_k (vNat_some (by omega)) rfl (by omega) (by omega) (by first|rfl|omega|simp (disch:=omega) [Nat.div_self,Nat.div_div_eq_div_mul,Nat.mul_div_cancel]) (by first|rfl|omega|simp (disch:=omega) [Nat.div_self,Nat.div_div_eq_div_mul,Nat.mul_div_cancel]) (by first|rfl|omega|simp (disch:=omega) [Nat.div_self,Nat.div_div_eq_div_mul,Nat.mul_div_cancel]))<|
  goodY_cons (remE (by omega) (by first|rfl|omega|simp (disch:=omega) [Nat.div_self,Nat.div_div_eq_div_mul,Nat.mul_div_cancel]))<|
  goodY_cons (ldE (cM (g1)))<|
  goodY_cons (ldE (cM (g0)))<|
  goodY_cons (kr (h77) (by kernel_rfl))<|
  goodY_cons (quoE (by omega) (by first|rfl|omega|simp (disch:=omega) [Nat.div_self,Nat.div_div_eq_div_mul,Nat.mul_div_cancel]) (by omega))<|
  goodY_cons (ldE (f0))<|
  goodY_cons (cB (congrArg (fun z=>z) (ltT (by omega):ilt (Int.ofNat 0) (Int.ofNat w)=true)))<|
  goodY_nil) K,s67_t C fl pg n ob w u b p i tm h h1 oc ys⟩
noncomputable def e67_fo (C:Oracle) (fl:Nat) (n:Nat) (ob:Nat) (tm:Tm) (h:AH):Fo:=[]
noncomputable def e67_s (C:Oracle) (fl:Nat) (n:Nat) (ob:Nat) (tm:Tm) (h:AH):SY:=syP envT C 96 (BIG) (e67_fo C fl n ob tm h) [] (X_67) (t_67 fl ob n 0 n tm) (h)
theorem e67_ok (C:Oracle) (fl:Nat) (n:Nat) (ob:Nat) (tm:Tm) (h:AH):SyP envT C 96 (BIG) (e67_fo C fl n ob tm h) [] (X_67) (t_67 fl ob n 0 n tm) (h) (.exit 0) (SY.t (e67_s C fl n ob tm h)) (h) (SY.c (e67_s C fl n ob tm h)):=⟨2,by kernel_rfl⟩
theorem e67_c (C:Oracle) (fl:Nat) (n:Nat) (ob:Nat) (tm:Tm) (h:AH):SY.c (e67_s C fl n ob tm h)=
  []:=by kernel_rfl
theorem e67_t (C:Oracle) (fl:Nat) (n:Nat) (ob:Nat) (tm:Tm) (h:AH):SY.t (e67_s C fl n ob tm h) 12=(sl (ob) (0) (n) (n)):=by kernel_rfl
theorem e67 (C:Oracle) (fl n ob:Nat) (tm:Tm) (h:AH):∃ T:Tm,(∀ K,evF envT C 96 (BIG) (X_67) K (t_67 fl ob n 0 n tm) (h)=K (.exit 0) T (h))∧T 12=(sl (ob) (0) (n) (n)):=
  ⟨SY.t (e67_s C fl n ob tm h),fun K=>SyP.on (e67_ok C fl n ob tm h) (by
    rw [e67_c]
    exact goodY_nil) K,e67_t C fl n ob tm h⟩
def p67_h1 (h:AH):AH:=AH.mk (AH.next h+10) (AH.mem h) []
def p67_h2 (n:Nat) (h:AH):AH:=AH.new (AH.mk (AH.next h+10) (AH.mem h) []) (AObj.cells (zrep [u8 0] n) n 0)
noncomputable def p67_t0 (fl:Nat) (pg:Nat) (k:Nat) (n:Nat) (h:AH):Tm:=stoF (stoF (stoF (stoF (stoF (stoF (stoF (stoF (stoF (stoF (stoF (stoF (stoF (stoF (stoF (stoF (stoF (stoF (stoF (stoF (stoF (stoF (stoF (stoF (stoF (fun i=>gt [Value.pointer (some (Addr.mk fl 0 none)),i64 0,i64 0,i64 n,Value.chan none,Value.chan none,Value.chan none,Value.chan none,Value.slice none 0 0,i64 0,i64 0,i64 ((k*pg)),Value.chan none,Value.chan none,Value.chan none,Value.pointer (some (Addr.mk fl 0 none)),i64 0,i64 0,Value.bool false,Value.chan none,Value.pointer (some (Addr.mk fl 0 none)),i64 0,i64 k,Value.pointer (some (Addr.mk fl 0 none)),Value.pointer (some (Addr.mk fl 0 none)),Value.pointer (some (Addr.mk fl 0 none)),Value.pointer (some (Addr.mk fl 0 none)),i64 pg,i64 ((k*pg)),Value.chan none,Value.chan none,Value.chan none,Value.chan none,Value.chan none,Value.chan none,Value.chan none,Value.chan none,Value.chan none,Value.chan none,Value.chan none,Value.chan none,Value.chan none,Value.chan none,Value.chan none,Value.chan none,Value.chan none,Value.chan none,Value.chan none,Value.chan none,Value.chan none,Value.chan none,Value.chan none,Value.chan none,Value.chan none,Value.chan none,Value.chan none,Value.chan none,Value.chan none,Value.chan none,Value.chan none,Value.chan none,Value.chan none,Value.chan none,Value.chan none,Value.chan none,Value.chan none,Value.chan none,Value.chan none,Value.chan none,Value.chan none,Value.chan none,Value.chan none,Value.chan none,Value.chan none,Value.chan none,Value.chan none,Value.chan none,Value.chan none,Value.chan none,Value.chan none,Value.chan none,Value.chan none,Value.chan none,Value.chan none,Value.chan none,Value.chan none,Value.chan none,Value.chan none,Value.chan none,Value.chan none,Value.chan none,Value.chan none,Value.chan none,Value.chan none,Value.chan none,Value.chan none] i) (some 29) (i64 ((k*pg)))) (some 30) (Value.bool false)) (some 31) (Value.bool false)) (some 32) (i64 0)) (some 33) (Value.bool false)) (some 34) (Value.bool false)) (some 35) (Value.bool false)) (some 36) (i64 n)) (some 37) (Value.bool false)) (some 38) (Value.bool false)) (some 39) (Value.bool false)) (some 40) (i64 0)) (some 41) (i64 ((k*pg)))) (some 42) (Value.bool false)) (some 43) (Value.bool false)) (some 44) (Value.bool false)) (some 45) (i64 n)) (some 46) (i64 ((k*pg)))) (some 47) (i64 0)) (some 48) (i64 ((k*pg)))) (some 49) (Value.bool false)) (some 50) (Value.bool false)) (some 51) (i64 n)) (some 52) (Value.slice (some (Addr.mk (AH.next h+10) 0 none)) 0 n)) (some 12) (Value.slice (some (Addr.mk (AH.next h+10) 0 none)) 0 n)
theorem p67_ok (C:Oracle) (fl:Nat) (m:Nat) (pg:Nat) (k:Nat) (n:Nat) (M:Nat) (T:Tm) (h:AH) (h2:AH):syR envT C (BIG) [(3,(i64 0),some h),
  (9,(i64 k),some (p67_h1 h)),
  (14,(i64 pg),none),
  (15,(i64 (k*pg)),none),
  (18,(Value.bool false),none),
  (36,(i64 (k*pg)),none),
  (37,(Value.bool false),none),
  (40,(sl (AH.next h+10) (0) (0) (n)),some (p67_h2 n h))] [(42,Ex.exit 0,tmK [(12,sl (AH.next h+10) 0 n n)] T,(h2))] 67 [(ptr (fl) (0)),(i64 0),(i64 0),(i64 n)] (h)=some ((Value.tuple (Array.mk [Value.slice (some (Addr.mk (AH.next h+10) 0 none)) n n,i64 0])),(h2),
  [∀ K:Kont,loopK BIG (fun G=>evF envT C 96 BIG (atP (fi_67.body) [2,2,2,2,2,2,1,1,1]) (thenK G K)) (p67_t0 fl pg k n h) (p67_h2 n h)=K (Ex.exit 0) (tmK [(12,sl (AH.next h+10) 0 n n)] T) (h2),
   hMk 1 [u8 0] (i64 0) (i64 n) ((p67_h1 h))=some ((sl (AH.next h+10) (0) (0) (n)),(p67_h2 n h)),
   some (Value.bool (ilt (Int.ofNat (k*pg)) (Int.ofNat n)),(p67_h1 h))=some ((Value.bool false),(p67_h1 h)),
   some (Value.int IntKind.i64 (wr IntKind.i64 (Int.ofNat (k*pg+0))),(p67_h1 h))=some ((i64 (k*pg)),(p67_h1 h)),
   some (Value.bool (ieq (Int.ofNat (k*pg)) (Int.ofNat 0)),(p67_h1 h))=some ((Value.bool false),(p67_h1 h)),
   AH.cell ((p67_h1 h)) (fl) (0)=some (i64 pg),
   some (Value.int IntKind.i64 (wr IntKind.i64 (Int.ofNat (k*pg))),(p67_h1 h))=some ((i64 (k*pg)),(p67_h1 h)),
   ((AH.cell ((p67_h1 h)) (fl) (0)).bind fun zv=>some (zv,(p67_h1 h)))=some ((i64 pg),(p67_h1 h)),
   C (Value.func (Fn.func 121) (Array.mk []) (Array.mk [])) [(ptr (fl) (0)),(i64 0)] ((p67_h1 h))=some ((i64 k),(p67_h1 h)),
   C (Value.func (Fn.func 101) (Array.mk []) (Array.mk [])) [(ptr (fl) (0))] (h)=some ((i64 0),h)]):=by kernel_rfl
theorem p67 (C:Oracle) (fl m pg k n M:Nat) (T:Tm) (h h2:AH) (f0:h.cell fl 0=some (i64 pg)) (f1:h.cell fl 1=some (i64 k)) (f3:h.cell fl 3=some (.map (some m))) (f9:h.cell fl 9=some (.bool false)) (hfl:fl<h.next) (hM:k*pg=M) (hM1:1≤M) (hM2:M≤16777216) (hn:n≤M) (h101:∀ {H:AH} {m:Nat},H.cell fl 3=some (.map (some m))→H.cell fl 9=some (.bool false)→C (.func (.func 101) ⟨[]⟩ ⟨[]⟩) [ptr fl 0] H=some (i64 0,H)) (h121:∀ {H:AH} {k:Nat},H.cell fl 1=some (i64 k)→C (.func (.func 121) ⟨[]⟩ ⟨[]⟩) [ptr fl 0,i64 0] H=some (i64 k,H)) (hL:∀ K:Kont,loopK BIG (fun G=>evF envT C 96 BIG (atP (fi_67.body) [2,2,2,2,2,2,1,1,1]) (thenK G K)) (p67_t0 fl pg k n h) (p67_h2 n h)=K (Ex.exit 0) (tmK [(12,sl (AH.next h+10) 0 n n)] T) (h2)):denG envT C (BIG) 67 [(ptr (fl) (0)),(i64 0),(i64 0),(i64 n)] (h)=some ((Value.tuple (Array.mk [Value.slice (some (Addr.mk (AH.next h+10) 0 none)) n n,i64 0])),(h2)):=
  syR_sound (p67_ok C fl m pg k n M T h h2)<|goodY_cons (hL)<|
  goodY_cons (kr (mkS' (by omega) (by omega)) (by kernel_rfl))<|
  goodY_cons (cB (congrArg (fun z=>z) (ltF (by omega):ilt (Int.ofNat (k*pg)) (Int.ofNat n)=false)))<|
  goodY_cons (cI (wrE 9223372036854775808 rfl (by first|rfl|omega|simp (disch:=omega) [Nat.div_self,Nat.div_div_eq_div_mul,Nat.mul_div_cancel]) (by omega)))<|
  goodY_cons (cB (congrArg (fun z=>z) (eqF (by omega):ieq (Int.ofNat (k*pg)) (Int.ofNat 0)=false)))<|
  goodY_cons (cM (f0))<|
  goodY_cons (cI (wrE 9223372036854775808 rfl (by first|rfl|omega|simp (disch:=omega) [Nat.div_self,Nat.div_div_eq_div_mul,Nat.mul_div_cancel]) (by omega)))<|
  goodY_cons (ldE (cM (f0)))<|
  goodY_cons (kr (h121 (cM f1)) (by kernel_rfl))<|
  goodY_cons (kr (h101 f3 f9) (by kernel_rfl))<|
  goodY_nil
theorem cell_fr {m:Nat} {h h':AH} (x:Fr m h h') {b o:Nat} {v:Value} (hl:b<h.next) (hm:b≠m) (hc:h.cell b o=some v):h'.cell b o=some v:=by
  have e:PT.get h'.mem b=PT.get h.mem b:=x.2 b hl hm
  unfold AH.cell at hc ⊢
  rw [e];exact hc
def pgL (xs:List Nat) (pg i:Nat):List Nat:=(xs.drop (i*pg)).take (min (xs.length-i*pg) pg)
structure PI (fl m fb pg k n:Nat) (xs:List Nat) (av:List Nat) (j:Nat) (h:AH):Prop where
  lim:∀ b,h.next≤b→h.get b=none
  f0:h.cell fl 0=some (i64 pg)
  f1:h.cell fl 1=some (i64 k)
  f3:h.cell fl 3=some (.map (some m))
  f4:h.cell fl 4=some (sl fb 0 n n)
  f9:h.cell fl 9=some (.bool false)
  yB:Bys h fb 0 xs
  lfl:fl<h.next
  lfb:fb<h.next
  lm:m<h.next
  nfm:fl≠m
  nbm:fb≠m
  avl:∀ a ∈ av,a<h.next
  nfl:fl ∉ av
  nfb:fb ∉ av
  nm:m ∉ av
  mp:∃ es bs cl,h.get m=some (.map es bs cl)∧esKeys kf es=true∧(∀ i,j≤i→esFind (spot 0 i) es=none)∧∀ i,i<j→i*pg<n→∃ p b,esFind (spot 0 i) es=some (ptr p 0)∧p<h.next∧p≠m∧p ∉ av∧b<h.next∧b≠m∧b ∉ av∧h.cell p 0=some (sl b 0 pg pg)∧Bys h b 0 (pgL xs pg i)
section
variable {fl m fb pg k n:Nat} {xs:List Nat} {j:Nat} {av:List Nat} {h h':AH}
theorem PI.wdf (I:PI fl m fb pg k n xs av j h) (d:List Deferred):PI fl m fb pg k n xs av j (h.wdf d):=
  ⟨I.lim,I.f0,I.f1,I.f3,I.f4,I.f9,I.yB,I.lfl,I.lfb,I.lm,I.nfm,I.nbm,I.avl,I.nfl,I.nfb,I.nm,I.mp⟩
theorem cell_eq {b o:Nat} {v:Value} (e:h'.get b=h.get b) (hc:h.cell b o=some v):h'.cell b o=some v:=by
  have e:PT.get h'.mem b=PT.get h.mem b:=e
  unfold AH.cell at hc ⊢
  rw [e];exact hc
theorem PI.move (I:PI fl m fb pg k n xs av j h) (hx:h.next≤h'.next) (e:∀ b,b<h.next→b ∉ av→h'.get b=h.get b) (hl:∀ b,h'.next≤b→h'.get b=none):PI fl m fb pg k n xs av j h':=by
  have g:=fun {o:Nat} {v:Value} (hc:h.cell fl o=some v)=>cell_eq (e fl I.lfl I.nfl) hc
  have lfl:=I.lfl;have lfb:=I.lfb;have lm:=I.lm
  refine ⟨hl,g I.f0,g I.f1,g I.f3,g I.f4,g I.f9,bN0 (e fb lfb I.nfb) I.yB,by omega,by omega,by omega,I.nfm,I.nbm,fun a ha=>by have:=I.avl a ha;omega,I.nfl,I.nfb,I.nm,?_⟩
  obtain ⟨es,bs,cl,h1,h2,h3,h4⟩:=I.mp
  refine ⟨es,bs,cl,(e m lm I.nm).trans h1,h2,h3,fun i hi hn=>?_⟩
  obtain ⟨p,b,g1,g2,g3,g4,g5,g6,g7,g8,g9⟩:=h4 i hi hn
  exact ⟨p,b,g1,by omega,g3,g4,by omega,g6,g7,cell_eq (e p g2 g4) g8,bN0 (e b g5 g7) g9⟩
theorem PI.drop (I:PI fl m fb pg k n xs av j h):PI fl m fb pg k n xs [] j h:=by
  refine ⟨I.lim,I.f0,I.f1,I.f3,I.f4,I.f9,I.yB,I.lfl,I.lfb,I.lm,I.nfm,I.nbm,fun a ha=>by simp at ha,by simp,by simp,by simp,?_⟩
  obtain ⟨es,bs,cl,h1,h2,h3,h4⟩:=I.mp
  refine ⟨es,bs,cl,h1,h2,h3,fun i hi hn=>?_⟩
  obtain ⟨p,b,g1,g2,g3,g4,g5,g6,g7,g8,g9⟩:=h4 i hi hn
  exact ⟨p,b,g1,g2,g3,by simp,g5,g6,by simp,g8,g9⟩
theorem PI.add (I:PI fl m fb pg k n xs [] j h) {ob:Nat} (ho:h.next≤ob) (hx:ob<h'.next) (e:∀ b,b<h.next→h'.get b=h.get b) (hl:∀ b,h'.next≤b→h'.get b=none):PI fl m fb pg k n xs [ob] j h':=by
  have J:=I.move (h':=h') (by omega) (fun b hb _=>e b hb) hl
  have lfl:=I.lfl;have lfb:=I.lfb;have lm:=I.lm
  refine ⟨J.lim,J.f0,J.f1,J.f3,J.f4,J.f9,J.yB,J.lfl,J.lfb,J.lm,J.nfm,J.nbm,fun a ha=>by simp at ha;omega,by simp;omega,by simp;omega,by simp;omega,?_⟩
  obtain ⟨es,bs,cl,h1,h2,h3,h4⟩:=I.mp
  refine ⟨es,bs,cl,(e m lm).trans h1,h2,h3,fun i hi hn=>?_⟩
  obtain ⟨p,b,g1,g2,g3,g4,g5,g6,g7,g8,g9⟩:=h4 i hi hn
  exact ⟨p,b,g1,by omega,g3,by simp;omega,by omega,g6,by simp;omega,cell_eq (e p g2) g8,bN0 (e b g5) g9⟩
theorem spot_ne {i i':Nat} (hn:i≠i'):spot 0 i≠spot 0 i':=by
  intro e
  unfold spot i64 at e
  injection e with e;injection e with e;injection e with _ e;injection e with e;injection e with _ e;injection e with e
  exact hn e
theorem at_ok {C:Oracle} (I:PI fl m fb pg k n xs av j h) {i:Nat} (hij:i≤j) (hi:i*pg<n) (hx:xs.length=n) (hp:64≤pg) (hp2:pg≤4096) (hn:n≤16777216)
    (h127:∀ {b o n c M t:Nat} {ce:PT Value} {H:AH},n<4611686018427387904→H.get b=some (.cells ce M t)→(∀ i,i<n→∃ u,ce.get (o+i)=some u)→C (.func (.func 127) ⟨[]⟩ ⟨[]⟩) [sl b o n c] H=some (.tuple ⟨[]⟩,H.put b (some (.cells (fillC ce o n) M t)))) :
    ∃ p b h',denG envT C BIG 77 [ptr fl 0,spot 0 i] h=some (ptr p 0,h')∧PI fl m fb pg k n xs av (max j (i+1)) h'∧Fr m h h'∧h'.cell p 0=some (sl b 0 pg pg)∧Bys h' b 0 (pgL xs pg i):=by
  have hi63:i<9223372036854775808:=by
    have:i≤i*pg:=Nat.le_mul_of_pos_right i (by omega)
    omega
  obtain ⟨es,bs,cl,h1,h2,h3,h4⟩:=I.mp
  have lfl:=I.lfl;have lfb:=I.lfb;have lm:=I.lm;have nfm:=I.nfm;have nbm:=I.nbm
  rcases Nat.lt_or_ge i j with hlt|hge
  · obtain ⟨p,b,g1,g2,g3,_,g4,g5,_,g6,g7⟩:=h4 i hlt hi
    have x:Fr m h (p77h_h1 i h):=by
      refine ⟨by show h.next≤h.next+12;omega,fun b hb _=>?_⟩
      simp only [p77h_h1,get_mk,mem_get,AH.get_new]
      rw [if_neg (by omega)]
    refine ⟨p,b,_,p77h C fl m p i es bs cl h I.f3 lfl lm h1 h2 g1 hi63,?_,x,cell_fr x g2 g3 g6,g7.fr x g4 g5⟩
    rw [show max j (i+1)=j by omega]
    refine I.move x.1 (fun b hb _=>?_) fun b hb=>?_
    · simp only [p77h_h1,get_mk,mem_get,AH.get_new]
      rw [if_neg (by omega)]
    · have hb':h.next+12≤b:=hb
      simp only [p77h_h1,get_mk,mem_get,AH.get_new]
      rw [if_neg (by omega)];exact I.lim b (by omega)
  · have e:i=j:=by omega
    subst e
    have hl:=p77m C fl m pg i fb n (i*pg) (min (n-i*pg) pg) xs es bs cl h I.f0 I.f3 I.f4 lfl lfb lm nfm nbm h1 h2 (h3 i (Nat.le_refl _)) I.yB hx rfl hi hi63 rfl hp hp2 hn h127
    generalize hH:p77m_h10 m pg i n xs es bs cl h=H at hl
    have hnx:H.next=h.next+64:=by subst hH;rfl
    have old:∀ b,b<h.next→b≠m→H.get b=h.get b:=fun b hb hm=>by
      subst hH
      simp only [p77m_h10,AH.get_put,get_mk,mem_get,AH.get_new,nx_put,AH.new_next]
      repeat rw [if_neg (by omega)]
    have gm:H.get m=some (.map (esPut (spot 0 i) (ptr (h.next+24) 0) es) (bs++[cl]) (cl+1)):=by subst hH;exact get_putS
    have gp1:H.get (h.next+24)=some (.cells (PT.node (some (sl (h.next+17) 0 pg pg)) (PT.node (some (.bool false)) .leaf .leaf) .leaf) 2 0):=by
      subst hH
      simp only [p77m_h10,AH.get_put,get_mk,mem_get,AH.get_new,nx_put,AH.new_next]
      rw [if_neg (by omega),if_neg (by omega),if_neg (by omega),if_pos trivial] <;> rfl
    have gb:∃ ce,H.get (h.next+17)=some (.cells (PT.puts ce 0 ((pgL xs pg i).map u8)) pg 0):=by
      refine ⟨fillC (zrep [u8 0] pg) 0 pg,?_⟩
      subst hH hx
      simp only [p77m_h10,AH.get_put,get_mk,mem_get,AH.get_new,nx_put,AH.new_next]
      rw [if_neg (by omega),if_pos trivial] <;> rfl
    have lim:∀ b,H.next≤b→H.get b=none:=fun b hb=>by
      rw [hnx] at hb
      subst hH
      simp only [p77m_h10,AH.get_put,get_mk,mem_get,AH.get_new,nx_put,AH.new_next]
      repeat rw [if_neg (by omega)]
      exact I.lim b (by omega)
    have x:Fr m h H:=⟨by omega,old⟩
    obtain ⟨ce,gb1⟩:=gb
    have cp:H.cell (h.next+24) 0=some (sl (h.next+17) 0 pg pg):=cell_of gp1 rfl
    have yb:Bys H (h.next+17) 0 (pgL xs pg i):=bys_puts (fun y hy=>I.yB.lt y (List.mem_of_mem_drop (List.mem_of_mem_take hy))) gb1
    have g:=fun {o:Nat} {v:Value} (hc:h.cell fl o=some v)=>cell_fr x lfl nfm hc
    refine ⟨_,_,H,hl,⟨lim,g I.f0,g I.f1,g I.f3,g I.f4,g I.f9,I.yB.fr x lfb nbm,by omega,by omega,by omega,nfm,nbm,fun a ha=>by have:=I.avl a ha;omega,I.nfl,I.nfb,I.nm,?_⟩,x,cp,yb⟩
    refine ⟨_,_,_,gm,esKeys_put (kf_spot (by omega) hi63) rfl h2,fun i' hi'=>?_,fun i' hi' hn'=>?_⟩
    · rw [esFind_put_ne (spot_ne (by omega))];exact h3 i' (by omega)
    · by_cases e:i'=i
      · subst e
        exact ⟨h.next+24,h.next+17,esFind_put_self rfl es,by omega,by omega,fun ha=>by have:=I.avl _ ha;omega,by omega,by omega,fun ha=>by have:=I.avl _ ha;omega,cp,yb⟩
      · obtain ⟨p,b,g1,g2,g3,a1,g4,g5,a2,g6,g7⟩:=h4 i' (by omega) hn'
        exact ⟨p,b,by rw [esFind_put_ne (spot_ne e)];exact g1,by omega,g3,a1,by omega,g5,a2,cell_fr x g2 g3 g6,g7.fr x g4 g5⟩
structure In_67 (fl ob a w n:Nat) (tm:Tm):Prop where
  t0:tm 0=ptr fl 0
  t1:tm 1=i64 0
  t2:tm 2=i64 a
  t3:tm 3=i64 w
  t12:tm 12=sl ob 0 a n
theorem In_67.eq {fl ob a w n:Nat} {tm:Tm} (t:In_67 fl ob a w n tm):t_67 fl ob a w n tm=tm:=by
  refine tmK_self _ _ fun p hp=>?_
  simp only [List.mem_cons,List.not_mem_nil,or_false] at hp
  rcases hp with rfl|rfl|rfl|rfl|rfl
  · exact t.t0
  · exact t.t1
  · exact t.t2
  · exact t.t3
  · exact t.t12
def Out (xs:List Nat) (n a:Nat) (oc:PT Value):Prop:=(∀ q,q<n→∃ v,oc.get q=some v)∧∀ q x,q<a→xs[q]?=some x→oc.get q=some (u8 x)
theorem Out.step {n a u:Nat} {oc:PT Value} (hO:Out xs n a oc):Out xs n (a+u) (PT.puts oc a (((xs.drop a).take u).map u8)):=by
  refine ⟨fun q hq=>?_,fun q x hq hx=>?_⟩
  · rw [PT.get_puts]
    split
    · rename_i h
      exact ⟨_,List.getElem?_eq_getElem (by omega)⟩
    · exact hO.1 q hq
  · rw [PT.get_puts]
    have hl:=(List.getElem?_eq_some_iff.1 hx).1
    split
    · rename_i h
      rw [List.getElem?_map,List.getElem?_take,if_pos (by omega),List.getElem?_drop,show a+(q-a)=q by omega,hx] <;> rfl
    · rename_i h
      refine hO.2 q x ?_ hx
      simp only [List.length_map,List.length_take,List.length_drop] at h
      omega
theorem loop_67 {C:Oracle} {ob:Nat} (hx:xs.length=n) (hp:64≤pg) (hp2:pg≤4096) (hn:n≤16777216)
    (h77:∀ {i j:Nat} {h:AH},PI fl m fb pg k n xs [ob] j h→i≤j→i*pg<n→∃ p b h',C (.func (.func 77) ⟨[]⟩ ⟨[]⟩) [ptr fl 0,spot 0 i] h=some (ptr p 0,h')∧PI fl m fb pg k n xs [ob] (max j (i+1)) h'∧Fr m h h'∧h'.cell p 0=some (sl b 0 pg pg)∧Bys h' b 0 (pgL xs pg i)) :
    ∀ (f M i j a w:Nat) (tm:Tm) (h:AH) (oc:PT Value),w≤f→f<M→a+w=n→(w=0∨a=i*pg∧i≤j)→In_67 fl ob a w n tm→PI fl m fb pg k n xs [ob] j h→h.get ob=some (.cells oc n 0)→Out xs n a oc →
      ∃ T h' j' oc',(∀ K,loopK M (fun G=>evF envT C 96 BIG X_67 (thenK G K)) tm h=K (.exit 0) T h')∧T 12=sl ob 0 n n∧PI fl m fb pg k n xs [ob] j' h'∧h'.get ob=some (.cells oc' n 0)∧Out xs n n oc'∧h.next≤h'.next∧∀ b,b<h.next→b≠m→b≠ob→h'.get b=h.get b:=by
  intro f
  induction f with
  | zero=>
    intro M i j a w tm h oc hw hM ha hc t I hO hB
    obtain ⟨M,rfl⟩:∃ m',M=m'+1:=⟨M-1,by omega⟩
    obtain rfl:w=0:=by omega
    obtain rfl:a=n:=by omega
    obtain ⟨T,h1,h2⟩:=e67 C fl a ob tm h
    rw [t.eq] at h1
    exact ⟨T,h,j,oc,fun K=>loop_out (fun h=>by cases h) h1,h2,I,hO,hB,Nat.le_refl _,fun _ _ _ _=>rfl⟩
  | succ f ih=>
    intro M i j a w tm h oc hw hM ha hc t I hO hB
    obtain ⟨M,rfl⟩:∃ m',M=m'+1:=⟨M-1,by omega⟩
    rcases hc with rfl|⟨rfl,hij⟩
    · obtain rfl:a=n:=by omega
      obtain ⟨T,h1,h2⟩:=e67 C fl a ob tm h
      rw [t.eq] at h1
      exact ⟨T,h,j,oc,fun K=>loop_out (fun h=>by cases h) h1,h2,I,hO,hB,Nat.le_refl _,fun _ _ _ _=>rfl⟩
    · by_cases hw0:w=0
      · subst hw0
        obtain rfl:i*pg=n:=by omega
        obtain ⟨T,h1,h2⟩:=e67 C fl (i*pg) ob tm h
        rw [t.eq] at h1
        exact ⟨T,h,j,oc,fun K=>loop_out (fun h=>by cases h) h1,h2,I,hO,hB,Nat.le_refl _,fun _ _ _ _=>rfl⟩
      obtain ⟨p,b,h1,c1,I1,x,cp,yb⟩:=h77 I hij (by omega)
      have hob:ob<h.next:=I.avl ob (by simp)
      have hobm:ob≠m:=fun e=>I.nm (by rw [e];simp)
      have hob1:h1.get ob=some (.cells oc n 0):=(x.2 ob hob hobm).trans hO
      have hi63:i<9223372036854775808:=by
        have:i≤i*pg:=Nat.le_mul_of_pos_right i (by omega)
        omega
      have e1:pgL xs pg i=(xs.drop (i*pg)).take (min w pg):=by
        unfold pgL
        rw [show xs.length-i*pg=w by omega]
      have hu:(pgL xs pg i).length=min w pg:=by
        rw [e1,List.length_take,List.length_drop];omega
      obtain ⟨T,s1,q0,q1,q2,q3,q12⟩:=s67 C fl pg n ob w (min w pg) b p i tm h h1 oc (pgL xs pg i) I.f0 I1.f0 cp yb hob1 I.lfl hp hp2 (by omega) ha hn (by omega) (by omega) (by omega) hu hi63 hB.1 c1
      rw [t.eq] at s1
      have hx1:=x.1
      have hO2:(s67_h2 pg n ob i h1 oc (pgL xs pg i)).get ob=some (.cells (PT.puts oc (i*pg) ((pgL xs pg i).map u8)) n 0):=get_putS
      have go:∀ b,b≠ob→(s67_h2 pg n ob i h1 oc (pgL xs pg i)).get b=h1.get b:=fun b hb=>by
        unfold s67_h2
        rw [get_putN hb] <;> rfl
      have hnx:(s67_h2 pg n ob i h1 oc (pgL xs pg i)).next=h1.next+13:=rfl
      have I2:PI fl m fb pg k n xs [ob] (max j (i+1)) (s67_h2 pg n ob i h1 oc (pgL xs pg i)):=
        I1.move (by omega) (fun b _ hb=>go b (fun e=>hb (by rw [e];simp))) (fun b hb=>by rw [go b (by omega)];exact I1.lim b (by omega))
      have hB2:Out xs n (i*pg+min w pg) (PT.puts oc (i*pg) ((pgL xs pg i).map u8)):=by
        rw [e1];exact hB.step
      have hc2:w-min w pg=0∨i*pg+min w pg=(i+1)*pg∧i+1≤max j (i+1):=by
        rcases Nat.lt_or_ge pg w with h|h
        · right;rw [Nat.min_eq_right (by omega),Nat.add_mul,Nat.one_mul];exact ⟨rfl,by omega⟩
        · left;omega
      obtain ⟨T',h',j',oc',l1,l2,l3,l4,l5,l6,l7⟩:=ih M (i+1) (max j (i+1)) (i*pg+min w pg) (w-min w pg) T _ _ (by omega) (by omega) (by omega) hc2 ⟨q0,q1,q2,q3,q12⟩ I2 hO2 hB2
      refine ⟨T',h',j',oc',fun K=>(loop_on s1).trans (l1 K),l2,l3,l4,l5,by omega,fun b hb hm hbo=>?_⟩
      rw [l7 b (by omega) hm hbo,go b hbo,x.2 b hb hm]
end
end Go.Proofs.YtejgabehfdapjaaGreat.Sym
namespace Go.Proofs.YtejgabehfdapjaaGreat.Sym
open Go.Den
def p71_h1 (h:AH):AH:=AH.new h (AObj.cells (PT.node (some (i64 0)) (PT.node (some (i64 0)) PT.leaf PT.leaf) PT.leaf) 2 48)
def p71_h2 (pg:Nat) (k:Nat) (h:AH):AH:=AH.put (AH.put (AH.new h (AObj.cells (PT.node (some (i64 0)) (PT.node (some (i64 0)) PT.leaf PT.leaf) PT.leaf) 2 48)) (AH.next h) (some (AObj.cells (PT.node (some (i64 pg)) (PT.node (some (i64 0)) PT.leaf PT.leaf) PT.leaf) 2 48))) (AH.next h) (some (AObj.cells (PT.node (some (i64 pg)) (PT.node (some (i64 k)) PT.leaf PT.leaf) PT.leaf) 2 48))
theorem p71_ok (C:Oracle) (fl:Nat) (pg:Nat) (k:Nat) (h:AH):syM envT C (BIG) [(6,(Value.agg (Array.mk [i64 pg,i64 k])),none),
  (7,(junk),some (p71_h2 pg k h))] [] 71 [(ptr (fl) (0))] (h) (Value.agg (Array.mk [i64 pg,i64 k]))=some ((Value.agg (Array.mk [i64 pg,i64 k])),(p71_h2 pg k h),
  [resM (ldN 2 (Value.pointer (some (Addr.mk (AH.next h) 0 none))) ((p71_h2 pg k h)))=some [(Value.agg (Array.mk [i64 pg,i64 k]))],
   ((stN 2 (Value.pointer (some (Addr.mk (AH.next h) 0 none))) (Value.agg (Array.mk [i64 pg,i64 k])) ((p71_h1 h))).bind fun zh=>some (junk,zh))=some ((junk),(p71_h2 pg k h)),
   ((ldN 2 (Value.pointer (some (Addr.mk fl 0 none))) ((p71_h1 h))).bind fun zv=>some (zv,(p71_h1 h)))=some ((Value.agg (Array.mk [i64 pg,i64 k])),(p71_h1 h))]):=by kernel_rfl
theorem p71 (C:Oracle) (fl pg k:Nat) (h:AH) (f0:h.cell fl 0=some (i64 pg)) (f1:h.cell fl 1=some (i64 k)) (hfl:fl<h.next):denG envT C (BIG) 71 [(ptr (fl) (0))] (h)=some ((Value.agg (Array.mk [i64 pg,i64 k])),(p71_h2 pg k h)):=
  syM_sound (p71_ok C fl pg k h)<|goodY_cons (resM2 (ld2' (cell_of (gQ) (by kernel_rfl)) (cell_of (gQ) (by kernel_rfl))))<|
  goodY_cons (kr (st2E (gS) rfl rfl rfl rfl) (by kernel_rfl))<|
  goodY_cons (ld2 (cN (by first|omega|(simp only [AH.new_next,nx_put,nx_up];omega)) (f0)) (cN (by first|omega|(simp only [AH.new_next,nx_put,nx_up];omega)) (f1)))<|
  goodY_nil
theorem p50_ok (C:Oracle) (d:Nat) (fl:Nat) (h:AH):syR envT C (BIG) [(7,(ptr (fl) (0)),none)] [] 50 [(ptr (d) (0))] (h)=some ((Value.bool true),h,
  [((AH.cell (h) (d) (0)).bind fun zv=>some (zv,h))=some ((ptr (fl) (0)),h)]):=by kernel_rfl
theorem p50 (C:Oracle) (d fl:Nat) (h:AH) (d0:h.cell d 0=some (ptr fl 0)):denG envT C (BIG) 50 [(ptr (d) (0))] (h)=some ((Value.bool true),h):=
  syR_sound (p50_ok C d fl h)<|goodY_cons (ldE (d0))<|
  goodY_nil
theorem p51_ok (C:Oracle) (fl:Nat) (m:Nat) (h:AH):syR envT C (BIG) [(2,(i64 0),some h)] [] 51 [(ptr (fl) (0))] (h)=some ((Value.bool true),h,
  [C (Value.func (Fn.func 101) (Array.mk []) (Array.mk [])) [(ptr (fl) (0))] (h)=some ((i64 0),h)]):=by kernel_rfl
theorem p51 (C:Oracle) (fl m:Nat) (h:AH) (h101:C (.func (.func 101) ⟨[]⟩ ⟨[]⟩) [ptr fl 0] h=some (i64 0,h)):denG envT C (BIG) 51 [(ptr (fl) (0))] (h)=some ((Value.bool true),h):=
  syR_sound (p51_ok C fl m h)<|goodY_cons (kr (h101) (by kernel_rfl))<|
  goodY_nil
def p55_h1 (n:Nat) (s:Nat) (v:Nat) (h:AH):AH:=AH.new h (AObj.cells (PT.node (some (i64 0)) (PT.node (some (i64 v)) (PT.node (some (u32 s)) PT.leaf PT.leaf) PT.leaf) (PT.node (some (i64 n)) PT.leaf PT.leaf)) 4 0)
def p55_h2 (h3:AH):AH:=AH.new h3 (AObj.cells (PT.node (some (i64 0)) (PT.node (some (i64 0)) PT.leaf PT.leaf) PT.leaf) 2 48)
def p55_h3 (pg:Nat) (k:Nat) (h3:AH):AH:=AH.put (AH.put (AH.new h3 (AObj.cells (PT.node (some (i64 0)) (PT.node (some (i64 0)) PT.leaf PT.leaf) PT.leaf) 2 48)) (AH.next h3) (some (AObj.cells (PT.node (some (i64 pg)) (PT.node (some (i64 0)) PT.leaf PT.leaf) PT.leaf) 2 48))) (AH.next h3) (some (AObj.cells (PT.node (some (i64 pg)) (PT.node (some (i64 k)) PT.leaf PT.leaf) PT.leaf) 2 48))
def p55_h4 (pg:Nat) (k:Nat) (h3:AH):AH:=AH.mk (AH.next h3+15) (AH.mem (AH.put (AH.put (AH.new h3 (AObj.cells (PT.node (some (i64 0)) (PT.node (some (i64 0)) PT.leaf PT.leaf) PT.leaf) 2 48)) (AH.next h3) (some (AObj.cells (PT.node (some (i64 pg)) (PT.node (some (i64 0)) PT.leaf PT.leaf) PT.leaf) 2 48))) (AH.next h3) (some (AObj.cells (PT.node (some (i64 pg)) (PT.node (some (i64 k)) PT.leaf PT.leaf) PT.leaf) 2 48)))) []
def p55_h5 (n:Nat) (ob:Nat) (h1:AH):AH:=AH.put (AH.mk (AH.next h1+11) (AH.mem h1) []) (AH.next h1+4) (some (AObj.cells (PT.node (some (Value.slice (some (Addr.mk ob 0 none)) n n)) PT.leaf PT.leaf) 1 0))
def p55_h6 (n:Nat) (ob:Nat) (h1:AH):AH:=AH.up (AH.put (AH.mk (AH.next h1+11) (AH.mem h1) []) (AH.next h1+4) (some (AObj.cells (PT.node (some (Value.slice (some (Addr.mk ob 0 none)) n n)) PT.leaf PT.leaf) 1 0))) 1
theorem p55_ok (C:Oracle) (d:Nat) (fl:Nat) (pg:Nat) (k:Nat) (n:Nat) (s:Nat) (v:Nat) (ob:Nat) (M:Nat) (xs:List Nat) (h:AH) (h1:AH) (h3:AH):syR envT C (BIG) [(5,(ptr (fl) (0)),none),
  (6,(Value.agg (Array.mk [i64 pg,i64 k])),some (h3)),
  (8,(junk),some (p55_h3 pg k h3)),
  (10,(i64 0),none),
  (14,(i64 0),none),
  (19,(i64 n),none),
  (24,(i64 n),none),
  (26,(i64 pg),none),
  (28,(i64 k),none),
  (29,(i64 (pg*k)),none),
  (30,(Value.bool false),none),
  (35,(ptr (fl) (0)),none),
  (37,(i64 0),none),
  (39,(i64 n),none),
  (40,(Value.tuple (Array.mk [Value.slice (some (Addr.mk ob 0 none)) n n,i64 0])),some (h1)),
  (51,(u32 s),some (p55_h6 n ob h1)),
  (53,(u32 s),none),
  (54,(Value.bool true),none)] [] 55 [(ptr (d) (0)),(Value.agg (Array.mk [i64 0,i64 v,i64 n,u32 s]))] (h)=some ((Value.bool true),(p55_h6 n ob h1),
  [AH.cell ((p55_h5 n ob h1)) (AH.next h) (3)=some (u32 s),
   some (Value.bool (ieq (Int.ofNat s) (Int.ofNat s)),(p55_h6 n ob h1))=some ((Value.bool true),(p55_h6 n ob h1)),
   ((AH.cell ((p55_h6 n ob h1)) (AH.next h) (3)).bind fun zv=>some (zv,(p55_h6 n ob h1)))=some ((u32 s),(p55_h6 n ob h1)),
   C (Value.func (Fn.func 11) (Array.mk []) (Array.mk [])) [(sl (AH.next h1+4) (0) (1) (1))] ((p55_h5 n ob h1))=some ((u32 s),(p55_h6 n ob h1)),
   C (Value.func (Fn.func 67) (Array.mk []) (Array.mk [])) [(ptr (fl) (0)),(i64 0),(i64 0),(i64 n)] ((p55_h4 pg k h3))=some ((Value.tuple (Array.mk [Value.slice (some (Addr.mk ob 0 none)) n n,i64 0])),(h1)),
   ((AH.cell ((p55_h4 pg k h3)) (AH.next h) (2)).bind fun zv=>some (zv,(p55_h4 pg k h3)))=some ((i64 n),(p55_h4 pg k h3)),
   ((AH.cell ((p55_h4 pg k h3)) (AH.next h) (0)).bind fun zv=>some (zv,(p55_h4 pg k h3)))=some ((i64 0),(p55_h4 pg k h3)),
   ((AH.cell ((p55_h4 pg k h3)) (d) (0)).bind fun zv=>some (zv,(p55_h4 pg k h3)))=some ((ptr (fl) (0)),(p55_h4 pg k h3)),
   some (Value.bool (ilt (Int.ofNat (pg*k)) (Int.ofNat n)),(p55_h3 pg k h3))=some ((Value.bool false),(p55_h3 pg k h3)),
   some (Value.int IntKind.i64 (wr IntKind.i64 (Int.ofNat (pg*k))),(p55_h3 pg k h3))=some ((i64 (pg*k)),(p55_h3 pg k h3)),
   ((AH.cell ((p55_h3 pg k h3)) (AH.next h3) (1)).bind fun zv=>some (zv,(p55_h3 pg k h3)))=some ((i64 k),(p55_h3 pg k h3)),
   ((AH.cell ((p55_h3 pg k h3)) (AH.next h3) (0)).bind fun zv=>some (zv,(p55_h3 pg k h3)))=some ((i64 pg),(p55_h3 pg k h3)),
   ((AH.cell ((p55_h3 pg k h3)) (AH.next h) (2)).bind fun zv=>some (zv,(p55_h3 pg k h3)))=some ((i64 n),(p55_h3 pg k h3)),
   ((AH.cell ((p55_h3 pg k h3)) (AH.next h) (2)).bind fun zv=>some (zv,(p55_h3 pg k h3)))=some ((i64 n),(p55_h3 pg k h3)),
   ((AH.cell ((p55_h3 pg k h3)) (AH.next h) (0)).bind fun zv=>some (zv,(p55_h3 pg k h3)))=some ((i64 0),(p55_h3 pg k h3)),
   ((AH.cell ((p55_h3 pg k h3)) (AH.next h) (0)).bind fun zv=>some (zv,(p55_h3 pg k h3)))=some ((i64 0),(p55_h3 pg k h3)),
   ((stN 2 (Value.pointer (some (Addr.mk (AH.next h3) 0 none))) (Value.agg (Array.mk [i64 pg,i64 k])) ((p55_h2 h3))).bind fun zh=>some (junk,zh))=some ((junk),(p55_h3 pg k h3)),
   C (Value.func (Fn.func 71) (Array.mk []) (Array.mk [])) [(ptr (fl) (0))] ((p55_h1 n s v h))=some ((Value.agg (Array.mk [i64 pg,i64 k])),(h3)),
   ((AH.cell ((p55_h1 n s v h)) (d) (0)).bind fun zv=>some (zv,(p55_h1 n s v h)))=some ((ptr (fl) (0)),(p55_h1 n s v h))]):=by kernel_rfl
theorem p55 (C:Oracle) (d fl pg k n s v ob M:Nat) (xs:List Nat) (h h1 h3:AH) (d0:h.cell d 0=some (ptr fl 0)) (hd:d<h.next) (hM:pg*k=M) (hM2:M≤16777216) (hn:n≤M) (h71:C (Value.func (Fn.func 71) (Array.mk []) (Array.mk [])) [(ptr (fl) (0))] ((p55_h1 n s v h))=some ((Value.agg (Array.mk [i64 pg,i64 k])),(h3))) (e0:h3.cell d 0=some (ptr fl 0)) (x0:h3.cell h.next 0=some (i64 0)) (x2:h3.cell h.next 2=some (i64 n)) (hd3:d<h3.next) (hn3:h.next<h3.next) (h67:C (Value.func (Fn.func 67) (Array.mk []) (Array.mk [])) [(ptr (fl) (0)),(i64 0),(i64 0),(i64 n)] ((p55_h4 pg k h3))=some ((Value.tuple (Array.mk [Value.slice (some (Addr.mk ob 0 none)) n n,i64 0])),(h1))) (g3:h1.cell h.next 3=some (u32 s)) (gB:Bys h1 ob 0 xs) (hob:ob<h1.next) (hlt:h.next<h1.next) (h11:∀ {H:AH} {b:Nat},H.cell b 0=some (sl ob 0 n n)→Bys H ob 0 xs→C (.func (.func 11) ⟨[]⟩ ⟨[]⟩) [sl b 0 1 1] H=some (u32 s,H.up 1)):denG envT C (BIG) 55 [(ptr (d) (0)),(Value.agg (Array.mk [i64 0,i64 v,i64 n,u32 s]))] (h)=some ((Value.bool true),(p55_h6 n ob h1)):=
  syR_sound (p55_ok C d fl pg k n s v ob M xs h h1 h3)<|goodY_cons (cP (by first|omega|(simp only [AH.new_next,nx_put,nx_up];omega)) (cM (g3)))<|
  goodY_cons (cB (congrArg (fun z=>z) (eqT (by omega):ieq (Int.ofNat s) (Int.ofNat s)=true)))<|
  goodY_cons (ldE (cU (cP (by first|omega|(simp only [AH.new_next,nx_put,nx_up];omega)) (cM (g3)))))<|
  goodY_cons (kr (h11 (cell_of (gQ) (by kernel_rfl)) (bP (by first|omega|(simp only [AH.new_next,nx_put,nx_up];omega)) (bM (gB)))) (by kernel_rfl))<|
  goodY_cons (kr (h67) (by kernel_rfl))<|
  goodY_cons (ldE (cM (cP (by first|omega|(simp only [AH.new_next,nx_put,nx_up];omega)) (cP (by first|omega|(simp only [AH.new_next,nx_put,nx_up];omega)) (cN (by first|omega|(simp only [AH.new_next,nx_put,nx_up];omega)) (x2))))))<|
  goodY_cons (ldE (cM (cP (by first|omega|(simp only [AH.new_next,nx_put,nx_up];omega)) (cP (by first|omega|(simp only [AH.new_next,nx_put,nx_up];omega)) (cN (by first|omega|(simp only [AH.new_next,nx_put,nx_up];omega)) (x0))))))<|
  goodY_cons (ldE (cM (cP (by first|omega|(simp only [AH.new_next,nx_put,nx_up];omega)) (cP (by first|omega|(simp only [AH.new_next,nx_put,nx_up];omega)) (cN (by first|omega|(simp only [AH.new_next,nx_put,nx_up];omega)) (e0))))))<|
  goodY_cons (cB (congrArg (fun z=>z) (ltF (by omega):ilt (Int.ofNat (pg*k)) (Int.ofNat n)=false)))<|
  goodY_cons (cI (wrE 9223372036854775808 rfl (by first|rfl|omega|simp (disch:=omega) [Nat.div_self,Nat.div_div_eq_div_mul,Nat.mul_div_cancel]) (by omega)))<|
  goodY_cons (ldE (cell_of (gQ) (by kernel_rfl)))<|
  goodY_cons (ldE (cell_of (gQ) (by kernel_rfl)))<|
  goodY_cons (ldE (cP (by first|omega|(simp only [AH.new_next,nx_put,nx_up];omega)) (cP (by first|omega|(simp only [AH.new_next,nx_put,nx_up];omega)) (cN (by first|omega|(simp only [AH.new_next,nx_put,nx_up];omega)) (x2)))))<|
  goodY_cons (ldE (cP (by first|omega|(simp only [AH.new_next,nx_put,nx_up];omega)) (cP (by first|omega|(simp only [AH.new_next,nx_put,nx_up];omega)) (cN (by first|omega|(simp only [AH.new_next,nx_put,nx_up];omega)) (x2)))))<|
  goodY_cons (ldE (cP (by first|omega|(simp only [AH.new_next,nx_put,nx_up];omega)) (cP (by first|omega|(simp only [AH.new_next,nx_put,nx_up];omega)) (cN (by first|omega|(simp only [AH.new_next,nx_put,nx_up];omega)) (x0)))))<|
  goodY_cons (ldE (cP (by first|omega|(simp only [AH.new_next,nx_put,nx_up];omega)) (cP (by first|omega|(simp only [AH.new_next,nx_put,nx_up];omega)) (cN (by first|omega|(simp only [AH.new_next,nx_put,nx_up];omega)) (x0)))))<|
  goodY_cons (kr (st2E (gS) rfl rfl rfl rfl) (by kernel_rfl))<|
  goodY_cons (kr (h71) (by kernel_rfl))<|
  goodY_cons (ldE (cN (by first|omega|(simp only [AH.new_next,nx_put,nx_up];omega)) (d0)))<|
  goodY_nil
def p33_h1 (n:Nat) (s:Nat) (v:Nat) (h:AH):AH:=AH.new h (AObj.cells (PT.node (some (i64 0)) (PT.node (some (i64 v)) (PT.node (some (u32 s)) PT.leaf PT.leaf) PT.leaf) (PT.node (some (i64 n)) PT.leaf PT.leaf)) 4 0)
def p33_h2 (h1:AH):AH:=AH.mk (AH.next h1+13) (AH.mem h1) []
theorem p33_ok (C:Oracle) (d:Nat) (fl:Nat) (m:Nat) (n:Nat) (s:Nat) (v:Nat) (ob:Nat) (h:AH) (h1:AH) (h2:AH):syR envT C (BIG) [(4,(Value.bool true),some (p33_h1 n s v h)),
  (10,(ptr (fl) (0)),none),
  (11,(Value.bool true),some (p33_h1 n s v h)),
  (15,(Value.agg (Array.mk [i64 0,i64 v,i64 n,u32 s])),none),
  (16,(Value.bool true),some (h1)),
  (22,(ptr (fl) (0)),none),
  (24,(i64 0),none),
  (26,(i64 n),none),
  (27,(Value.tuple (Array.mk [Value.slice (some (Addr.mk ob 0 none)) n n,i64 0])),some (h2))] [] 33 [(ptr (d) (0)),(Value.agg (Array.mk [i64 0,i64 v,i64 n,u32 s]))] (h)=some ((Value.tuple (Array.mk [Value.slice (some (Addr.mk ob 0 none)) n n,i64 0])),(h2),
  [C (Value.func (Fn.func 67) (Array.mk []) (Array.mk [])) [(ptr (fl) (0)),(i64 0),(i64 0),(i64 n)] ((p33_h2 h1))=some ((Value.tuple (Array.mk [Value.slice (some (Addr.mk ob 0 none)) n n,i64 0])),(h2)),
   ((AH.cell ((p33_h2 h1)) (AH.next h) (2)).bind fun zv=>some (zv,(p33_h2 h1)))=some ((i64 n),(p33_h2 h1)),
   ((AH.cell ((p33_h2 h1)) (AH.next h) (0)).bind fun zv=>some (zv,(p33_h2 h1)))=some ((i64 0),(p33_h2 h1)),
   ((AH.cell ((p33_h2 h1)) (d) (0)).bind fun zv=>some (zv,(p33_h2 h1)))=some ((ptr (fl) (0)),(p33_h2 h1)),
   C (Value.func (Fn.func 55) (Array.mk []) (Array.mk [])) [(ptr (d) (0)),(Value.agg (Array.mk [i64 0,i64 v,i64 n,u32 s]))] ((p33_h1 n s v h))=some ((Value.bool true),(h1)),
   ((ldN 4 (Value.pointer (some (Addr.mk (AH.next h) 0 none))) ((p33_h1 n s v h))).bind fun zv=>some (zv,(p33_h1 n s v h)))=some ((Value.agg (Array.mk [i64 0,i64 v,i64 n,u32 s])),(p33_h1 n s v h)),
   C (Value.func (Fn.func 51) (Array.mk []) (Array.mk [])) [(ptr (fl) (0))] ((p33_h1 n s v h))=some ((Value.bool true),(p33_h1 n s v h)),
   ((AH.cell ((p33_h1 n s v h)) (d) (0)).bind fun zv=>some (zv,(p33_h1 n s v h)))=some ((ptr (fl) (0)),(p33_h1 n s v h)),
   C (Value.func (Fn.func 50) (Array.mk []) (Array.mk [])) [(ptr (d) (0))] ((p33_h1 n s v h))=some ((Value.bool true),(p33_h1 n s v h))]):=by kernel_rfl
theorem p33 (C:Oracle) (d fl m n s v ob:Nat) (h h1 h2:AH) (d0:h.cell d 0=some (ptr fl 0)) (f3:h.cell fl 3=some (.map (some m))) (f9:h.cell fl 9=some (.bool false)) (hd:d<h.next) (hfl:fl<h.next) (h50:∀ {H:AH},H.cell d 0=some (ptr fl 0)→C (.func (.func 50) ⟨[]⟩ ⟨[]⟩) [ptr d 0] H=some (.bool true,H)) (h51:∀ {H:AH},H.cell fl 3=some (.map (some m))→H.cell fl 9=some (.bool false)→C (.func (.func 51) ⟨[]⟩ ⟨[]⟩) [ptr fl 0] H=some (.bool true,H)) (h55:C (Value.func (Fn.func 55) (Array.mk []) (Array.mk [])) [(ptr (d) (0)),(Value.agg (Array.mk [i64 0,i64 v,i64 n,u32 s]))] ((p33_h1 n s v h))=some ((Value.bool true),(h1))) (e0:h1.cell d 0=some (ptr fl 0)) (g0:h1.cell h.next 0=some (i64 0)) (g2:h1.cell h.next 2=some (i64 n)) (h67:C (Value.func (Fn.func 67) (Array.mk []) (Array.mk [])) [(ptr (fl) (0)),(i64 0),(i64 0),(i64 n)] ((p33_h2 h1))=some ((Value.tuple (Array.mk [Value.slice (some (Addr.mk ob 0 none)) n n,i64 0])),(h2))):denG envT C (BIG) 33 [(ptr (d) (0)),(Value.agg (Array.mk [i64 0,i64 v,i64 n,u32 s]))] (h)=some ((Value.tuple (Array.mk [Value.slice (some (Addr.mk ob 0 none)) n n,i64 0])),(h2)):=
  syR_sound (p33_ok C d fl m n s v ob h h1 h2)<|goodY_cons (kr (h67) (by kernel_rfl))<|
  goodY_cons (ldE (cM (g2)))<|
  goodY_cons (ldE (cM (g0)))<|
  goodY_cons (ldE (cM (e0)))<|
  goodY_cons (kr (h55) (by kernel_rfl))<|
  goodY_cons (ld4 (cell_of (gS) (by kernel_rfl)) (cell_of (gS) (by kernel_rfl)) (cell_of (gS) (by kernel_rfl)) (cell_of (gS) (by kernel_rfl)))<|
  goodY_cons (kr (h51 (cN (by first|omega|(simp only [AH.new_next,nx_put,nx_up];omega)) (f3)) (cN (by first|omega|(simp only [AH.new_next,nx_put,nx_up];omega)) (f9))) (by kernel_rfl))<|
  goodY_cons (ldE (cN (by first|omega|(simp only [AH.new_next,nx_put,nx_up];omega)) (d0)))<|
  goodY_cons (kr (h50 (cN (by first|omega|(simp only [AH.new_next,nx_put,nx_up];omega)) (d0))) (by kernel_rfl))<|
  goodY_nil
def p11_h1 (h:AH):AH:=AH.up h 1
theorem p11_ok (C:Oracle) (b:Nat) (c:Nat) (b2:Nat) (o2:Nat) (n:Nat) (c2:Nat) (s:Nat) (xs:List Nat) (h:AH):syR envT C (BIG) [(7,(sl (b2) (o2) (n) (c2)),none),
  (11,(u32 (refN 4294967295 xs)),some (p11_h1 h)),
  (17,(u32 s),none)] [] 11 [(sl (b) (0) (1) (c))] (h)=some ((u32 s),(p11_h1 h),
  [some (Value.int IntKind.u32 (bitsOf IntKind.u32 Nat.xor (fun x1 x2=>x1 ^^^ x2) (Int.ofNat 4294967295) (Int.ofNat (refN 4294967295 xs))),(p11_h1 h))=some ((u32 s),(p11_h1 h)),
   C (Value.func (Fn.func 37) (Array.mk []) (Array.mk [])) [(u32 4294967295),(sl (b2) (o2) (n) (c2))] (h)=some ((u32 (refN 4294967295 xs)),(p11_h1 h)),
   ((AH.cell (h) (b) (0)).bind fun zv=>some (zv,h))=some ((sl (b2) (o2) (n) (c2)),h)]):=by kernel_rfl
theorem p11 (C:Oracle) (b c b2 o2 n c2 s:Nat) (xs:List Nat) (h:AH) (hc:h.cell b 0=some (sl b2 o2 n c2)) (h37:C (Value.func (Fn.func 37) (Array.mk []) (Array.mk [])) [(u32 4294967295),(sl (b2) (o2) (n) (c2))] (h)=some ((u32 (refN 4294967295 xs)),(p11_h1 h))) (hs:sumN xs=s) (hsl:s<4294967296):denG envT C (BIG) 11 [(sl (b) (0) (1) (c))] (h)=some ((u32 s),(p11_h1 h)):=
  syR_sound (p11_ok C b c b2 o2 n c2 s xs h)<|goodY_cons (cI (not_sum hs))<|
  goodY_cons (kr (h37) (by kernel_rfl))<|
  goodY_cons (ldE (hc))<|
  goodY_nil
theorem c11 {d b c b2 o2 n c2 s:Nat} {xs:List Nat} {H:AH} (hc:H.cell b 0=some (sl b2 o2 n c2)) (hb:Bys H b2 o2 xs) (hl:xs.length=n) (hn:n<4611686018427387904) (hs:sumN xs=s) (hsl:s<4294967296) :
    orcS envT tbSum BIG (d+1) (.func (.func 11) ⟨[]⟩ ⟨[]⟩) [sl b 0 1 c] H=some (u32 s,H.up 1):=
  orcS_of (by kernel_rfl) (p11 (orcS envT tbSum BIG d) b c b2 o2 n c2 s xs H hc (thr37 hl hb (by decide) hn) hs hsl)
theorem c101 {d fl m:Nat} {H:AH} (f3:H.cell fl 3=some (.map (some m))) (f9:H.cell fl 9=some (.bool false)):orcS envT tbSum BIG (d+1) (.func (.func 101) ⟨[]⟩ ⟨[]⟩) [ptr fl 0] H=some (i64 0,H):=
  orcS_of (by kernel_rfl) (p101 _ fl m H f3 f9)
theorem c121 {d fl k:Nat} {H:AH} (f1:H.cell fl 1=some (i64 k)):orcS envT tbSum BIG (d+1) (.func (.func 121) ⟨[]⟩ ⟨[]⟩) [ptr fl 0,i64 0] H=some (i64 k,H):=
  orcS_of (by kernel_rfl) (p121 _ fl k H f1)
theorem c50 {d dv fl:Nat} {H:AH} (d0:H.cell dv 0=some (ptr fl 0)):orcS envT tbSum BIG (d+1) (.func (.func 50) ⟨[]⟩ ⟨[]⟩) [ptr dv 0] H=some (.bool true,H):=
  orcS_of (by kernel_rfl) (p50 _ dv fl H d0)
theorem c51 {d fl m:Nat} {H:AH} (f3:H.cell fl 3=some (.map (some m))) (f9:H.cell fl 9=some (.bool false)):orcS envT tbSum BIG (d+2) (.func (.func 51) ⟨[]⟩ ⟨[]⟩) [ptr fl 0] H=some (.bool true,H):=
  orcS_of (by kernel_rfl) (p51 _ fl m H (c101 f3 f9))
section
variable {fl m fb pg k n:Nat} {xs:List Nat} {j:Nat} {h h':AH}
theorem c77 {d:Nat} {av:List Nat} (hx:xs.length=n) (hp:64≤pg) (hp2:pg≤4096) (hn:n≤16777216) {i j:Nat} {h:AH} (I:PI fl m fb pg k n xs av j h) (hij:i≤j) (hi:i*pg<n) :
    ∃ p b h',orcS envT tbSum BIG (d+2) (.func (.func 77) ⟨[]⟩ ⟨[]⟩) [ptr fl 0,spot 0 i] h=some (ptr p 0,h')∧PI fl m fb pg k n xs av (max j (i+1)) h'∧Fr m h h'∧h'.cell p 0=some (sl b 0 pg pg)∧Bys h' b 0 (pgL xs pg i):=by
  obtain ⟨p,b,h',h1,h2,h3,h4,h5⟩:=at_ok (C:=orcS envT tbSum BIG (d+1)) I hij hi hx hp hp2 hn fun a b c=>c127 a b c
  exact ⟨p,b,h'.wdf h.df,orcS_of (by kernel_rfl) h1,h2.wdf _,h3,h4,h5⟩
theorem read_ok {d:Nat} (I:PI fl m fb pg k n xs [] j h) (hx:xs.length=n) (hp:64≤pg) (hp2:pg≤4096) (hk:1≤k) (hM:k*pg≤16777216) (hn:n≤k*pg) (hb:∀ x ∈ xs,x<256) :
    ∃ h' j',denG envT (orcS envT tbSum BIG (d+2)) BIG 67 [ptr fl 0,i64 0,i64 0,i64 n] h=some (.tuple ⟨[sl (h.next+10) 0 n n,i64 0]⟩,h')∧PI fl m fb pg k n xs [] j' h'∧Bys h' (h.next+10) 0 xs∧h.next+10<h'.next∧(∃ oc,h'.get (h.next+10)=some (.cells oc n 0))∧∀ b,b<h.next→b≠m→h'.get b=h.get b:=by
  have hkp:1≤k*pg:=Nat.le_trans hk (Nat.le_mul_of_pos_right k (by omega))
  have e0:∀ b,b≠h.next+10→(p67_h2 n h).get b=h.get b:=fun b hb=>by
    simp only [p67_h2,AH.get_new,get_mk,mem_get]
    rw [if_neg hb]
  have I1:PI fl m fb pg k n xs [h.next+10] j (p67_h2 n h):=
    I.add (by omega) (by show h.next+10<h.next+10+1;omega) (fun b hb=>e0 b (by omega)) fun b hb=>by
      have hb':h.next+10+1≤b:=hb
      rw [e0 b (by omega)];exact I.lim b (by omega)
  obtain ⟨T,h',j',oc',l1,l2,l3,l4,l5,l6,l7⟩:=loop_67 (C:=orcS envT tbSum BIG (d+2)) (ob:=h.next+10) hx hp hp2 (by omega) (fun I hij hi=>c77 hx hp hp2 (by omega) I hij hi) n BIG 0 j 0 n (p67_t0 fl pg k n h) (p67_h2 n h) (zrep [u8 0] n) (Nat.le_refl _) (Nat.lt_of_le_of_lt (show n≤16777216 by omega) (by unfold BIG;decide)) (by omega) (.inr ⟨by omega,by omega⟩) ⟨by kernel_rfl,by kernel_rfl,by kernel_rfl,by kernel_rfl,by kernel_rfl⟩ I1 (by
      show (AH.new _ _).get _=_
      exact new_get _ _) ⟨fun q hq=>⟨u8 0,zrep_get hq⟩,fun q x hq=>by omega⟩
  have eT:tmK [(12,sl (h.next+10) 0 n n)] T=T:=tmK_self _ _ fun p hp=>by
    simp only [List.mem_cons,List.not_mem_nil,or_false] at hp
    subst hp;exact l2
  have hr:=p67 (orcS envT tbSum BIG (d+2)) fl m pg k n (k*pg) T h h' I.f0 I.f1 I.f3 I.f9 I.lfl rfl hkp hM hn (fun a b=>c101 a b) (fun a=>c121 a) (fun K=>by rw [eT];exact l1 K)
  have hn2:(p67_h2 n h).next=h.next+11:=rfl
  refine ⟨h',j',hr,l3.drop,bys_of l4 hb fun i x hi=>?_,by omega,⟨oc',l4⟩,fun b hb hm=>?_⟩
  · rw [Nat.zero_add]
    exact l5.2 i x (by have:=(List.getElem?_eq_some_iff.1 hi).1;omega) hi
  · rw [l7 b (by omega) hm (by omega),e0 b (by omega)]
theorem PI.ext (I:PI fl m fb pg k n xs [] j h) (hx:h.next≤h'.next) (e:∀ b,b<h.next→h'.get b=h.get b) (hl:∀ b,h'.next≤b→h'.get b=none):PI fl m fb pg k n xs [] j h':=I.move hx (fun b hb _=>e b hb) hl
theorem holds_ok {d dv s v:Nat} (I:PI fl m fb pg k n xs [] j h) (d0:h.cell dv 0=some (ptr fl 0)) (hdv:dv<h.next) (hdm:dv≠m) (hx:xs.length=n) (hp:64≤pg) (hp2:pg≤4096) (hk:1≤k) (hM:k*pg≤16777216) (hn:n≤k*pg) (hb:∀ x ∈ xs,x<256) (hs:sumN xs=s) (hsl:s<4294967296) :
    ∃ h' j',denG envT (orcS envT tbSum BIG (d+3)) BIG 55 [ptr dv 0,agg4 (i64 0) (i64 v) (i64 n) (u32 s)] h=some (.bool true,h')∧PI fl m fb pg k n xs [] j' h'∧h.next≤h'.next∧∀ b,b<h.next→b≠m→h'.get b=h.get b:=by
  have lm:=I.lm
  have e1:∀ b,b≠h.next→(p55_h1 n s v h).get b=h.get b:=fun b hb=>get_newN hb
  have n1:(p55_h1 n s v h).next=h.next+1:=rfl
  have o1:(p55_h1 n s v h).get h.next=some (.cells (PT.ofList [i64 0,i64 v,i64 n,u32 s] 0 .leaf) 4 0):=get_newS
  have I1:PI fl m fb pg k n xs [] j (p55_h1 n s v h):=I.ext (by omega) (fun b hb=>e1 b (by omega)) fun b hb=>by rw [e1 b (by omega)];exact I.lim b (by omega)
  let h3:=(p71_h2 pg k (p55_h1 n s v h)).wdf (p55_h1 n s v h).df
  have c71:orcS envT tbSum BIG (d+3) (.func (.func 71) ⟨[]⟩ ⟨[]⟩) [ptr fl 0] (p55_h1 n s v h)=some (agg2 (i64 pg) (i64 k),h3):=orcS_of (by kernel_rfl) (p71 _ fl pg k _ I1.f0 I1.f1 I1.lfl)
  have e3:∀ b,b≠h.next+1→h3.get b=(p55_h1 n s v h).get b:=fun b hb=>by
    show AH.get (p71_h2 pg k (p55_h1 n s v h)) b=_
    simp only [p71_h2,AH.get_put,AH.get_new,n1]
    rw [if_neg hb,if_neg hb,if_neg hb]
  have n3:h3.next=h.next+2:=rfl
  have e4:∀ b,b≠h.next+2→(p55_h4 pg k h3).get b=h3.get b:=fun b hb=>by
    simp only [p55_h4,get_mk,mem_get,AH.get_put,AH.get_new,n3]
    rw [if_neg hb,if_neg hb,if_neg hb]
  have n4:(p55_h4 pg k h3).next=h.next+17:=rfl
  have e43:∀ b,b<h.next+1→(p55_h4 pg k h3).get b=(p55_h1 n s v h).get b:=fun b hb=>by rw [e4 b (by omega),e3 b (by omega)]
  have I4:PI fl m fb pg k n xs [] j (p55_h4 pg k h3):=I1.ext (by omega) (fun b hb=>e43 b (by omega)) fun b hb=>by
    rw [e4 b (by omega),e3 b (by omega)];exact I1.lim b (by omega)
  obtain ⟨h5,j5,r1,r2,r3,r4,r5,r6⟩:=read_ok (d:=d) I4 hx hp hp2 hk hM hn hb
  let h5':=h5.wdf (p55_h4 pg k h3).df
  have c67:orcS envT tbSum BIG (d+3) (.func (.func 67) ⟨[]⟩ ⟨[]⟩) [ptr fl 0,i64 0,i64 0,i64 n] (p55_h4 pg k h3)=some (.tuple ⟨[sl ((p55_h4 pg k h3).next+10) 0 n n,i64 0]⟩,h5'):=orcS_of (by kernel_rfl) r1
  have e5:h5'.get h.next=(p55_h1 n s v h).get h.next:=by
    show h5.get h.next=_
    rw [r6 h.next (by omega) (by omega),e43 _ (by omega)]
  have n5:h5'.next=h5.next:=rfl
  have hr:=p55 (orcS envT tbSum BIG (d+3)) dv fl pg k n s v ((p55_h4 pg k h3).next+10) (pg*k) xs h h5' h3 d0 hdv rfl (by rw [Nat.mul_comm];exact hM) (by rw [Nat.mul_comm];exact hn) c71
    (cell_eq (e3 dv (by omega)) (cell_eq (e1 dv (by omega)) d0)) (cell_eq (e3 _ (by omega)) (cell_of o1 rfl)) (cell_eq (e3 _ (by omega)) (cell_of o1 rfl)) (by omega) (by omega) c67
    (cell_eq e5 (cell_of o1 rfl)) r3 (by omega) (by omega) (fun a b=>c11 a b hx (by omega) hs hsl)
  have e6:∀ b,b<h5.next→(p55_h6 n ((p55_h4 pg k h3).next+10) h5').get b=h5.get b:=fun b hb=>by
    simp only [p55_h6,AH.up_get,AH.get_put,get_mk,mem_get]
    rw [if_neg (by omega)] <;> rfl
  have n6:(p55_h6 n ((p55_h4 pg k h3).next+10) h5').next=h5.next+12:=rfl
  refine ⟨_,j5,hr,r2.ext (by omega) e6 fun b hb=>?_,by omega,fun b hb hm=>?_⟩
  · simp only [p55_h6,AH.up_get,AH.get_put,get_mk,mem_get]
    rw [if_neg (by omega)]
    exact r2.lim b (by omega)
  · rw [e6 b (by omega),r6 b (by omega) hm,e43 b (by omega),e1 b (by omega)]
theorem image_ok {d dv s v:Nat} (I:PI fl m fb pg k n xs [] j h) (d0:h.cell dv 0=some (ptr fl 0)) (hdv:dv<h.next) (hdm:dv≠m) (hx:xs.length=n) (hp:64≤pg) (hp2:pg≤4096) (hk:1≤k) (hM:k*pg≤16777216) (hn:n≤k*pg) (hb:∀ x ∈ xs,x<256) (hs:sumN xs=s) (hsl:s<4294967296) :
    ∃ h' ob oc,denG envT (orcS envT tbSum BIG (d+4)) BIG 33 [ptr dv 0,agg4 (i64 0) (i64 v) (i64 n) (u32 s)] h=some (.tuple ⟨[sl ob 0 n n,i64 0]⟩,h')∧h.next≤ob∧ob<h'.next∧h'.get ob=some (.cells oc n 0)∧Bys h' ob 0 xs∧(∀ b,h'.next≤b→h'.get b=none)∧∀ b,b<h.next→b≠m→h'.get b=h.get b:=by
  have lm:=I.lm
  have e1:∀ b,b≠h.next→(p33_h1 n s v h).get b=h.get b:=fun b hb=>get_newN hb
  have n1:(p33_h1 n s v h).next=h.next+1:=rfl
  have o1:(p33_h1 n s v h).get h.next=some (.cells (PT.ofList [i64 0,i64 v,i64 n,u32 s] 0 .leaf) 4 0):=get_newS
  have I1:PI fl m fb pg k n xs [] j (p33_h1 n s v h):=I.ext (by omega) (fun b hb=>e1 b (by omega)) fun b hb=>by rw [e1 b (by omega)];exact I.lim b (by omega)
  obtain ⟨h2,j2,r1,r2,r3,r4⟩:=holds_ok (d:=d) (v:=v) I1 (cell_eq (e1 dv (by omega)) d0) (by omega) hdm hx hp hp2 hk hM hn hb hs hsl
  let h2':=h2.wdf (p33_h1 n s v h).df
  have c55:orcS envT tbSum BIG (d+4) (.func (.func 55) ⟨[]⟩ ⟨[]⟩) [ptr dv 0,agg4 (i64 0) (i64 v) (i64 n) (u32 s)] (p33_h1 n s v h)=some (.bool true,h2'):=orcS_of (by kernel_rfl) r1
  have n2:h2'.next=h2.next:=rfl
  have I3:PI fl m fb pg k n xs [] j2 (p33_h2 h2'):=r2.ext (by show h2.next≤h2.next+13;omega) (fun b _=>rfl) fun b hb=>by
    have hb':h2.next+13≤b:=hb
    exact r2.lim b (by omega)
  obtain ⟨h5,j5,q1,q2,q3,q4,⟨oc,q5⟩,q6⟩:=read_ok (d:=d+1) I3 hx hp hp2 hk hM hn hb
  let h5':=h5.wdf (p33_h2 h2').df
  have c67:orcS envT tbSum BIG (d+4) (.func (.func 67) ⟨[]⟩ ⟨[]⟩) [ptr fl 0,i64 0,i64 0,i64 n] (p33_h2 h2')=some (.tuple ⟨[sl ((p33_h2 h2').next+10) 0 n n,i64 0]⟩,h5'):=orcS_of (by kernel_rfl) q1
  have n3:(p33_h2 h2').next=h2.next+13:=rfl
  have e2:h2'.get h.next=(p33_h1 n s v h).get h.next:=r4 h.next (by omega) (by omega)
  have hr:=p33 (orcS envT tbSum BIG (d+4)) dv fl m n s v ((p33_h2 h2').next+10) h h2' h5' d0 I.f3 I.f9 hdv I.lfl (fun a=>c50 a) (fun a b=>c51 a b) c55
    (cell_eq (show h2'.get dv=(p33_h1 n s v h).get dv from r4 dv (by omega) hdm) (cell_eq (e1 dv (by omega)) d0)) (cell_eq e2 (cell_of o1 rfl)) (cell_eq e2 (cell_of o1 rfl)) c67
  refine ⟨h5',(p33_h2 h2').next+10,oc,hr,by omega,q4,q5,q3,fun b hb=>q2.lim b hb,fun b hb hm=>?_⟩
  show h5.get b=_
  rw [q6 b (by omega) hm]
  show h2.get b=_
  rw [r4 b (by omega) hm,e1 b (by omega)]
end
end Go.Proofs.YtejgabehfdapjaaGreat.Sym
