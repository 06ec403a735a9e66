/- What is told of the parts; the tables. Conditions: none. -/
import Derived.Test.YtejgabehfdapjaaGreatMc
import Derived.ChangeShapes
import Derived.SizedLaws
set_option maxRecDepth 100000
set_option maxHeartbeats 4000000
namespace Go.Proofs.YtejgabehfdapjaaGreat.Sym
open Go.Den
theorem ren_new {hn b i:Nat} {ids:List Nat} (h:ids[i]?=some b) (hb:hn≤b):Ren hn ids b (hn+i):=.inr ⟨i,h,hb,rfl⟩
def bysT (xs:List Nat):PT Value:=PT.ofList (xs.map u8) 0 .leaf
theorem bysT_get {xs:List Nat} {i:Nat} {v:Value} (h:(bysT xs).get i=some v):∃ x,xs[i]?=some x∧v=u8 x:=by
  unfold bysT at h
  rw [ofList_at,List.getElem?_map] at h
  cases hx:xs[i]? with
  | none=>rw [hx] at h;cases h
  | some x=>rw [hx] at h;cases h;exact ⟨x,rfl,rfl⟩
theorem oto_bys {hn:Nat} {ids:List Nat} {oc:PT Value} {n t:Nat} {xs:List Nat} (h:∀ i x,xs[i]?=some x→oc.get i=some (u8 x)):OTo hn ids (.cells oc n t) (.cells (bysT xs) n t):=
  .cells fun i v hv=>by
    obtain ⟨x,hx,rfl⟩:=bysT_get hv
    exact ⟨rfl,u8 x,h i x hx,.int _ _⟩
theorem bys_cells {h:AH} {b n t:Nat} {oc:PT Value} {xs:List Nat} (hb:Bys h b 0 xs) (hg:h.get b=some (.cells oc n t)):∀ i x,xs[i]?=some x→oc.get i=some (u8 x):=fun i x hi=>by
  have h1:=(hb i x hi).2
  rw [Nat.zero_add] at h1
  have hg':h.mem.get b=some (.cells oc n t):=hg
  unfold AH.cell at h1
  rw [hg'] at h1;exact h1
open Classical in
noncomputable def fHolds (dv f pg k n pb ab s v:Nat) (xs:List Nat):Fun:=fun args h=>
  if args=[ptr dv 0,agg4 (i64 0) (i64 v) (i64 n) (u32 s)]∧h.cell dv 0=some (ptr f 0)∧h.cell f 0=some (i64 pg)∧h.cell f 1=some (i64 k)∧h.cell f 3=some (sl pb 0 k 4611686018427387907)∧h.cell f 7=some (.bool false) ∧
      (∀ q,q<k→h.cell pb (q*3)=some (sl ab (q*pg) pg (pg*k-q*pg)))∧Bys h ab 0 xs∧dv<h.next∧f<h.next∧pb<h.next∧ab<h.next then
    some (.tuple ⟨[.slice (if n=0 then none else some ⟨h.next,0,none⟩) n (if n=0 then 0 else 4611686018427387905),.bool true]⟩,(h.up 1).put h.next (if n=0 then none else some (.cells (bysT xs) n 11))) else none
theorem t_holds {dv f pg k n pb ab s v:Nat} {xs:List Nat} (hx:xs.length=n) (hb:∀ x ∈ xs,x<256) (hp:64≤pg) (hp2:pg≤4096) (hk:1≤k) (hk2:k≤4096) (hM:pg*k≤16777216) (hnk:n≤pg*k) (hs:sumN xs=s) (hsl:s<4294967296) :
    Den.Told Tryz.prog 34 (fHolds dv f pg k n pb ab s v xs):=told_ren envT_ok (orcS_sound envT_ok tbSum_ok BIG 3) fun args h v₂ h₂ hl lim=>by
  unfold fHolds at hl
  split at hl
  · rename_i hc
    obtain ⟨rfl,d0,f0,f1,f3,f7,hpg,hB,hdv,hf,hpb,hab⟩:=hc
    obtain ⟨h1,o,r1,r2,r3,r4,r5⟩:=holds34_ok (d:=0) (v:=v) d0 hdv f0 f1 f3 f7 hpg hB hx hb hp hp2 hk hk2 hM hnk hf hpb hab lim hs hsl
    refine ⟨BIG,_,h1,r1,?_⟩
    rcases r2 with ⟨rfl,rfl⟩|⟨k1,b,oc,rfl,k3,k4,k5,k6⟩
    · rw [if_pos rfl,if_pos rfl,if_pos rfl] at hl
      cases hl
      refine ⟨[],Nat.le_succ _,.nil,.tuple (.cons .sliceNil (.cons (.bool _) .nil)),fun d o₂ hd=>?_,fun d hd=>?_,fun φ w args' ha r d hd=>?_⟩
      · rw [AH.get_put] at hd
        split at hd
        · cases hd
        · have hd:h.get d=some o₂:=hd
          have hdl:d<h.next:=by
            rcases Nat.lt_or_ge d h.next with hlt|hge
            · exact hlt
            · rw [lim d hge] at hd;cases hd
          exact .inl ⟨hdl,(r5 d hdl).trans hd,hd⟩
      · have hd':h.next+1≤d:=hd
        rw [AH.get_put,if_neg (by omega)];exact lim d (by omega)
      · rw [AH.get_put,if_neg (by omega)];exact .inl rfl
    · rw [if_neg (by omega),if_neg (by omega),if_neg (by omega)] at hl
      cases hl
      refine ⟨[b],Nat.le_refl _,by simp,.tuple (.cons (.slice 0 n _ (ren_new (i:=0) rfl k4)) (.cons (.bool _) .nil)),fun d o₂ hd=>?_,fun d hd=>?_,fun φ w args' ha r d hd=>?_⟩
      · rw [AH.get_put] at hd
        split at hd
        · rename_i e
          subst e
          cases hd
          exact .inr ⟨b,_,ren_new (i:=0) rfl k4,k3,oto_bys (bys_cells k6 k3)⟩
        · have hd:h.get d=some o₂:=hd
          have hdl:d<h.next:=by
            rcases Nat.lt_or_ge d h.next with hlt|hge
            · exact hlt
            · rw [lim d hge] at hd;cases hd
          exact .inl ⟨hdl,(r5 d hdl).trans hd,hd⟩
      · have hd':h.next+1≤d:=hd
        rw [AH.get_put,if_neg (by omega)];exact lim d (by omega)
      · rw [AH.get_put,if_neg (by omega)];exact .inl rfl
  · cases hl
theorem reach {φ:Phi} {h:AH} {w:World} {b o:Nat} {v:Value} (r:Rel φ h w) (hb:φ b≠none) (hc:h.cell b o=some v):∃ v',VR φ v v':=by
  cases e:φ b with
  | none=>exact absurd e hb
  | some x=>
    obtain ⟨b',s,T⟩:=x
    have ho:=r.blk _ _ _ _ e
    rcases AH.cell_get hc with ⟨c,n,t,h1,h2⟩|⟨c,h1|⟨g,h1⟩,h2⟩
    · rw [h1] at ho
      obtain ⟨⟨a,_,lo,hi,_,_,_,h4⟩,_⟩:=ho
      obtain ⟨_,_,v',_,h6⟩:=h4 o v h2
      exact ⟨v',h6⟩
    · rw [h1] at ho
      obtain ⟨a,_,lo,hi,_,h4⟩:=ho
      obtain ⟨_,_,v',_,h6⟩:=h4 o v h2
      exact ⟨v',h6⟩
    · rw [h1] at ho
      obtain ⟨a,_,lo,hi,_,h4⟩:=ho
      obtain ⟨_,_,v',_,h6⟩:=h4 o v h2
      exact ⟨v',h6⟩
open Classical in
noncomputable def fImage (dv fl m fb pg k n s v j:Nat) (xs:List Nat):Fun:=fun args h=>
  if args=[ptr dv 0,agg4 (i64 0) (i64 v) (i64 n) (u32 s)]∧h.cell dv 0=some (ptr fl 0)∧dv<h.next∧dv≠m∧PI fl m fb pg k n xs [] j h then
    some (.tuple ⟨[sl h.next 0 n n,i64 0]⟩,(h.put m none).new (.cells (bysT xs) n 0)) else none
theorem t_image {dv fl m fb pg k n s v j:Nat} {xs:List Nat} (hx:xs.length=n) (hb:∀ x ∈ xs,x<256) (hp:64≤pg) (hp2:pg≤4096) (hk:1≤k) (hM:k*pg≤16777216) (hnk:n≤k*pg) (hs:sumN xs=s) (hsl:s<4294967296) :
    Den.Told Tryz.prog 33 (fImage dv fl m fb pg k n s v j xs):=told_ren envT_ok (orcS_sound envT_ok tbSum_ok BIG 4) fun args h v₂ h₂ hl lim=>by
  unfold fImage at hl
  split at hl
  · rename_i hc
    obtain ⟨rfl,d0,hdv,hdm,I⟩:=hc
    obtain ⟨h1,b,oc,r1,k4,k5,k3,k6,r4,r5⟩:=image_ok (d:=0) (v:=v) I d0 hdv hdm hx hp hp2 hk hM hnk hb hs hsl
    cases hl
    have nx:(h.put m none).next=h.next:=rfl
    refine ⟨BIG,_,h1,r1,[b],Nat.le_refl _,by simp,.tuple (.cons (.slice 0 n _ (ren_new (i:=0) rfl k4)) (.cons (.int _ _) .nil)),fun d o₂ hd=>?_,fun d hd=>?_,fun φ w args' ha r d hd=>?_⟩
    · rw [AH.get_new,nx] at hd
      split at hd
      · rename_i e
        subst e
        cases hd
        exact .inr ⟨b,_,ren_new (i:=0) rfl k4,k3,oto_bys (bys_cells k6 k3)⟩
      · rw [AH.get_put] at hd
        split at hd
        · cases hd
        · rename_i hm
          have hdl:d<h.next:=by
            rcases Nat.lt_or_ge d h.next with hlt|hge
            · exact hlt
            · rw [lim d hge] at hd;cases hd
          exact .inl ⟨hdl,(r5 d hdl hm).trans hd,hd⟩
    · have hd':h.next+1≤d:=hd
      have:=I.lm
      rw [AH.get_new,nx,if_neg (by omega),AH.get_put,if_neg (by omega)];exact lim d (by omega)
    · by_cases hm:d=m
      · subst hm
        refine .inr (.inr ?_)
        have h1:φ dv≠none:=by
          cases ha with
          | cons _ _ _ _ a _=>cases a with|ptr _ _ _ _ _ g=>rw [g];simp
        obtain ⟨_,h2⟩:=reach r h1 d0
        have h3:φ fl≠none:=by cases h2 with|ptr _ _ _ _ _ g=>rw [g];simp
        obtain ⟨_,h4⟩:=reach r h3 I.f3
        cases h4 with|map _ _ _ g=>rw [g];simp
      · rw [AH.get_new,nx,if_neg (by omega),AH.get_put,if_neg hm];exact .inl rfl
  · cases hl
def pgsT (ab pg k:Nat):PT Value:=PT.ofList ((List.range (k*3)).map fun o=>if o % 3=0 then sl ab (o/3*pg) pg (pg*k-o/3*pg) else if o % 3=1 then .bool false else i64 0) 0 .leaf
theorem pgsT_get {ab pg k o:Nat} {v:Value} (h:(pgsT ab pg k).get o=some v):o<k*3∧v=(if o % 3=0 then sl ab (o/3*pg) pg (pg*k-o/3*pg) else if o % 3=1 then .bool false else i64 0):=by
  unfold pgsT at h
  rw [ofList_at,List.getElem?_map] at h
  by_cases ho:o<k*3
  · rw [List.getElem?_range ho] at h
    cases h
    exact ⟨ho,rfl⟩
  · rw [List.getElem?_eq_none (by rw [List.length_range];omega)] at h
    cases h
theorem pgsT_has {ab pg k q:Nat} (h:q<k):(pgsT ab pg k).get (q*3)=some (sl ab (q*pg) pg (pg*k-q*pg)):=by
  unfold pgsT
  rw [ofList_at,List.getElem?_map,List.getElem?_range (by omega)]
  show some (if q*3 % 3=0 then _ else _)=_
  rw [if_pos (by omega),Nat.mul_div_cancel _ (by omega)]
end Go.Proofs.YtejgabehfdapjaaGreat.Sym
namespace Go.Proofs.YtejgabehfdapjaaGreat.Sym
open Go.Den
def IntT (c:PT Value):Prop:=∀ i v,c.get i=some v→∃ k n,v=Value.int k n
theorem intT_zrep (n:Nat):IntT (zrep [u8 0] n):=fun i v h=>by
  have h1:=Go.Den.zrep_get [u8 0] n i v h
  have h2:=List.mem_of_getElem? h1
  rw [List.mem_flatten] at h2
  obtain ⟨l,hl,hv⟩:=h2
  rw [List.mem_replicate] at hl
  obtain ⟨_,rfl⟩:=hl
  rw [List.mem_singleton] at hv
  exact ⟨_,_,hv⟩
theorem intT_puts {c:PT Value} {o:Nat} {l:List Value} (hc:IntT c) (hl:∀ v ∈ l,∃ k n,v=Value.int k n):IntT (PT.puts c o l):=fun i v h=>by
  rw [PT.get_puts] at h
  split at h
  · exact hl v (List.mem_of_getElem? h)
  · exact hc i v h
theorem intT_fill {c:PT Value} {o n:Nat} (hc:IntT c):IntT (fillC c o n):=intT_puts hc fun v hv=>by
  rw [List.mem_replicate] at hv;exact ⟨_,_,hv.2⟩
theorem oto_int {hn:Nat} {ids:List Nat} {c:PT Value} {n t:Nat} (hc:IntT c):OTo hn ids (.cells c n t) (.cells c n t):=.cells fun i v hv=>by
  obtain ⟨k,m,rfl⟩:=hc i v hv
  exact ⟨rfl,_,hv,.int _ _⟩
def flT (N pg k:Nat):PT Value:=((((((((((PT.leaf.put 0 (some (i64 pg))).put 1 (some (i64 k))).put 2 (some (i64 0))).put 3 (some (sl (N+1) 0 k 4611686018427387907))).put 5 (some (sl (N+3) 0 2 2))).put 6 (some (.slice none 0 0))).put 7 (some (.bool false))).put 8 (some (i64 0))).put 9 (some (.slice none 0 0))).put 10 (some (i64 0)))
def newH (pg k:Nat) (xs:List Nat) (h:AH):AH:=(((((h.new (.cells (flT h.next pg k) 11 0)).new (.cells (pgsT (h.next+2) pg k) (k*3) 255)).new (.cells (PT.puts (fillC (zrep [u8 0] (pg*k)) 0 (pg*k)) 0 (xs.map u8)) (pg*k) 0)).new (.cells (ar2 (h.next+4) (h.next+5) pg) 6 0)).new (.cells (fillC (zrep [u8 0] pg) 0 pg) pg 0)).new (.cells (fillC (zrep [u8 0] pg) 0 pg) pg 0)
open Classical in
noncomputable def fNew (pg k n c:Nat) (ia:Option Addr) (im:Nat) (xs:List Nat):Fun:=fun args h=>
  if args=[i64 pg,i64 k,i64 0,.agg ⟨[.slice ia n c,.slice none 0 0]⟩]∧Bys h im 0 xs∧im<h.next then some (.tuple ⟨[ptr h.next 0,i64 0]⟩,newH pg k xs h) else none
theorem t_new {pg k n c im:Nat} {ia:Option Addr} {xs:List Nat} (hia:IA ia im n c) (hx:xs.length=n) (hb:∀ x ∈ xs,x<256) (hp:64≤pg) (hp2:pg≤4096) (hk:1≤k) (hk2:k≤4096) (hM:pg*k≤16777216) (hnk:n≤pg*k) :
    Den.Told Tryz.prog 13 (fNew pg k n c ia im xs):=told_ren envT_ok (orcS_sound envT_ok tbSum_ok BIG 1) fun args h v₂ h₂ hl lim=>by
  unfold fNew at hl
  split at hl
  · rename_i hc
    obtain ⟨rfl,hB,him⟩:=hc
    obtain ⟨h1,f,b,ab,a2,l0,l1,r1,R⟩:=new_ok (d:=0) (c:=c) hia hp hp2 hk hk2 hM hnk hx hb hB him lim
    cases hl
    obtain ⟨i0,i1,i2,i3,i4,i5⟩:=R.ids
    have e0:Ren h.next [f,b,ab,a2,l0,l1] f h.next:=ren_new (i:=0) rfl i0
    have e1:Ren h.next [f,b,ab,a2,l0,l1] b (h.next+1):=ren_new (i:=1) rfl i1
    have e2:Ren h.next [f,b,ab,a2,l0,l1] ab (h.next+2):=ren_new (i:=2) rfl i2
    have e3:Ren h.next [f,b,ab,a2,l0,l1] a2 (h.next+3):=ren_new (i:=3) rfl i3
    have e4:Ren h.next [f,b,ab,a2,l0,l1] l0 (h.next+4):=ren_new (i:=4) rfl i4
    have e5:Ren h.next [f,b,ab,a2,l0,l1] l1 (h.next+5):=ren_new (i:=5) rfl i5
    obtain ⟨fc,f1,f2,f3,_,f5⟩:=R.fl
    obtain ⟨bc,p1,p2⟩:=R.pgs
    have a1:=R.rcd
    refine ⟨BIG,_,h1,r1,[f,b,ab,a2,l0,l1],Nat.le_refl _,R.nd,.tuple (.cons (.ptr 0 e0) (.cons (.int _ _) .nil)),fun d o₂ hd=>?_,fun d hd=>?_,fun φ w args' ha r d hd=>?_⟩
    · simp only [newH,AH.get_new,AH.new_next] at hd
      split at hd
      · rename_i e;subst e;cases hd
        exact .inr ⟨l1,_,e5,R.bl1,oto_int (intT_fill (intT_zrep _))⟩
      split at hd
      · rename_i e;subst e;cases hd
        exact .inr ⟨l0,_,e4,R.bl0,oto_int (intT_fill (intT_zrep _))⟩
      split at hd
      · rename_i e;subst e;cases hd
        refine .inr ⟨a2,_,e3,a1,.cells fun o v hv=>?_⟩
        unfold ar2 at hv ⊢
        rw [ofList_at] at hv
        match o with
        | 0=>cases hv;exact ⟨rfl,_,rfl,.slice _ _ _ e4⟩
        | 1=>cases hv;exact ⟨rfl,_,rfl,.bool _⟩
        | 2=>cases hv;exact ⟨rfl,_,rfl,.int _ _⟩
        | 3=>cases hv;exact ⟨rfl,_,rfl,.slice _ _ _ e5⟩
        | 4=>cases hv;exact ⟨rfl,_,rfl,.bool _⟩
        | 5=>cases hv;exact ⟨rfl,_,rfl,.int _ _⟩
        | o+6=>simp at hv
      split at hd
      · rename_i e;subst e;cases hd
        refine .inr ⟨ab,_,e2,R.all,oto_int (intT_puts (intT_fill (intT_zrep _)) fun v hv=>?_)⟩
        obtain ⟨x,_,rfl⟩:=List.mem_map.1 hv
        exact ⟨_,_,rfl⟩
      split at hd
      · rename_i e;subst e;cases hd
        refine .inr ⟨b,_,e1,p1,.cells fun o v hv=>?_⟩
        obtain ⟨ho,rfl⟩:=pgsT_get hv
        obtain ⟨q0,q1,q2⟩:=p2 (o/3) (by omega)
        by_cases m0:o % 3=0
        · rw [if_pos m0]
          rw [show o/3*3=o by omega] at q0
          exact ⟨rfl,_,q0,.slice _ _ _ e2⟩
        · rw [if_neg m0]
          by_cases m1:o % 3=1
          · rw [if_pos m1]
            rw [show o/3*3+1=o by omega] at q1
            exact ⟨rfl,_,q1,.bool _⟩
          · rw [if_neg m1]
            rw [show o/3*3+2=o by omega] at q2
            exact ⟨rfl,_,q2,.int _ _⟩
      split at hd
      · rename_i e;subst e;cases hd
        refine .inr ⟨f,_,e0,f1,.cells fun o v hv=>?_⟩
        unfold flT at hv
        rw [PT.get_put] at hv;split at hv
        · rename_i e;subst e;cases hv;exact ⟨rfl,_,(f2 10 (by omega) (by omega) (by omega)).trans rfl,.int _ _⟩
        rw [PT.get_put] at hv;split at hv
        · rename_i e;subst e;cases hv;exact ⟨rfl,_,(f2 9 (by omega) (by omega) (by omega)).trans rfl,.sliceNil⟩
        rw [PT.get_put] at hv;split at hv
        · rename_i e;subst e;cases hv;exact ⟨rfl,_,(f2 8 (by omega) (by omega) (by omega)).trans rfl,.int _ _⟩
        rw [PT.get_put] at hv;split at hv
        · rename_i e;subst e;cases hv;exact ⟨rfl,_,(f2 7 (by omega) (by omega) (by omega)).trans rfl,.bool _⟩
        rw [PT.get_put] at hv;split at hv
        · rename_i e;subst e;cases hv;exact ⟨rfl,_,(f2 6 (by omega) (by omega) (by omega)).trans rfl,.sliceNil⟩
        rw [PT.get_put] at hv;split at hv
        · rename_i e;subst e;cases hv;exact ⟨rfl,_,f5,.slice _ _ _ e3⟩
        rw [PT.get_put] at hv;split at hv
        · rename_i e;subst e;cases hv;exact ⟨rfl,_,f3,.slice _ _ _ e1⟩
        rw [PT.get_put] at hv;split at hv
        · rename_i e;subst e;cases hv;exact ⟨rfl,_,(f2 2 (by omega) (by omega) (by omega)).trans rfl,.int _ _⟩
        rw [PT.get_put] at hv;split at hv
        · rename_i e;subst e;cases hv;exact ⟨rfl,_,(f2 1 (by omega) (by omega) (by omega)).trans rfl,.int _ _⟩
        rw [PT.get_put] at hv;split at hv
        · rename_i e;subst e;cases hv;exact ⟨rfl,_,(f2 0 (by omega) (by omega) (by omega)).trans rfl,.int _ _⟩
        rw [PT.get_leaf] at hv;cases hv
      · have hdl:d<h.next:=by
          rcases Nat.lt_or_ge d h.next with hlt|hge
          · exact hlt
          · rw [lim d hge] at hd;cases hd
        exact .inl ⟨hdl,(R.old d hdl).trans hd,hd⟩
    · have hd':h.next+6≤d:=hd
      simp only [newH,AH.get_new,AH.new_next]
      repeat rw [if_neg (by omega)]
      exact lim d (by omega)
    · refine .inl ?_
      simp only [newH,AH.get_new,AH.new_next]
      repeat rw [if_neg (by omega)]
  · cases hl
end Go.Proofs.YtejgabehfdapjaaGreat.Sym
namespace Go.Proofs.YtejgabehfdapjaaGreat.Sym
open Go.Den
def shB (pg k:Nat):AObj:=.cells (ofC [i64 pg,i64 k]) 2 0
def oPgs (ab pg k:Nat):AObj:=.cells (pgsT ab pg k) (k*3) 255
def oAll (pg k:Nat) (xs:List Nat):AObj:=.cells (PT.puts (fillC (zrep [u8 0] (pg*k)) 0 (pg*k)) 0 (xs.map u8)) (pg*k) 0
def oBl (pg:Nat):AObj:=.cells (fillC (zrep [u8 0] pg) 0 pg) pg 0
def newHN (N pg k:Nat) (xs:List Nat) (h:AH):AH:=(((((h.new (.cells (flT N pg k) 11 0)).new (oPgs (N+2) pg k)).new (oAll pg k xs)).new (.cells (ar2 (N+4) (N+5) pg) 6 0)).new (oBl pg)).new (oBl pg)
theorem newHN_eq (pg k:Nat) (xs:List Nat) (h:AH):newHN h.next pg k xs h=newH pg k xs h:=rfl
end Go.Proofs.YtejgabehfdapjaaGreat.Sym
namespace Go.Proofs.YtejgabehfdapjaaGreat.Sym
open Go.Den
theorem bys_pf {h:AH} {ys:List Nat} {b o n L m M t:Nat} {ce:PT Value} (hb:∀ y ∈ ys,y<256) (hL:ys.length=L) (h1:L≤n) (h2:n≤m) (hg:h.get b=some (.cells (PT.puts (fillC ce o m) o (ys.map u8)) M t)):Bys h b o (ys++List.replicate (n-L) 255):=by
  subst hL
  refine bys_of hg (fun x hx=>?_) fun i x hi=>?_
  · rcases List.mem_append.1 hx with h|h
    · exact hb x h
    · rw [List.mem_replicate] at h;omega
  · rw [PT.get_puts,List.length_map]
    by_cases hl:i<ys.length
    · rw [List.getElem?_append_left hl] at hi
      rw [if_pos ⟨by omega,by omega⟩,show o+i-o=i by omega,List.getElem?_map,hi] <;> rfl
    · rw [List.getElem?_append_right (by omega),List.getElem?_replicate] at hi
      split at hi
      · cases hi
        rw [if_neg (by omega),fillC_get,if_pos (by omega)]
      · cases hi
theorem upd_comm {α:Type} (x y:Option α):∀ (f g k l:Nat) (t:PT α),k≠l→k<f→l<g→k<g→l<f→PT.upd f (PT.upd g t l y) k x=PT.upd g (PT.upd f t k x) l y
  | 0,_,_,_,_,_,h,_,_,_=>by omega
  | _,0,_,_,_,_,_,h,_,_=>by omega
  | f+1,g+1,k,l,t,hkl,h1,h2,h3,h4=>by
    simp only [PT.upd]
    cases a0:Nat.beq k 0 with
    | true=>
      have hk:=nat_beq a0
      have b0:Nat.beq l 0=false:=Den.beq_false_of_ne (by omega)
      rw [b0]
      simp only [cond_true,cond_false,PT.val,PT.left,PT.right]
      cases Nat.beq (l % 2) 1 <;> rfl
    | false=>
      have hk:k≠0:=fun e=>by rw [e] at a0;cases a0
      cases b0:Nat.beq l 0 with
      | true=>
        simp only [cond_true,cond_false,PT.val,PT.left,PT.right]
        cases Nat.beq (k % 2) 1 <;> rfl
      | false=>
        have hl:l≠0:=fun e=>by rw [e] at b0;cases b0
        simp only [cond_false]
        cases a1:Nat.beq (k % 2) 1 with
        | true=>
          have hk2:=nat_beq a1
          cases b1:Nat.beq (l % 2) 1 with
          | true=>
            have hl2:=nat_beq b1
            simp only [cond_true,PT.val,PT.left,PT.right]
            rw [upd_comm x y f g (k/2) (l/2) _ (by omega) (by omega) (by omega) (by omega) (by omega)]
          | false=>simp only [cond_true,cond_false,PT.val,PT.left,PT.right]
        | false=>
          cases b1:Nat.beq (l % 2) 1 with
          | true=>simp only [cond_true,cond_false,PT.val,PT.left,PT.right]
          | false=>
            have hk2:k % 2≠1:=fun e=>by rw [e] at a1;cases a1
            have hl2:l % 2≠1:=fun e=>by rw [e] at b1;cases b1
            simp only [cond_false,PT.val,PT.left,PT.right]
            rw [upd_comm x y f g (k/2-1) (l/2-1) _ (by omega) (by omega) (by omega) (by omega) (by omega)]
theorem upd_fuel {α:Type} (x:Option α):∀ (f g k:Nat) (t:PT α),k<f→k<g→PT.upd f t k x=PT.upd g t k x
  | 0,_,_,_,h,_=>by omega
  | _,0,_,_,_,h=>by omega
  | f+1,g+1,k,t,h1,h2=>by
    simp only [PT.upd]
    cases a0:Nat.beq k 0 with
    | true=>rfl
    | false=>
      have hk:k≠0:=fun e=>by rw [e] at a0;cases a0
      simp only [cond_false]
      rw [upd_fuel x f g (k/2) t.left (by omega) (by omega),upd_fuel x f g (k/2-1) t.right (by omega) (by omega)]
theorem put_comm {α:Type} (x y:Option α) {k l:Nat} (t:PT α) (h:k≠l):(t.put l y).put k x=(t.put k x).put l y:=by
  show PT.upd (k+1) (PT.upd (l+1) t l y) k x=PT.upd (l+1) (PT.upd (k+1) t k x) l y
  rw [upd_fuel x (k+1) (k+l+1) k _ (by omega) (by omega),upd_fuel y (l+1) (k+l+1) l t (by omega) (by omega),upd_fuel y (l+1) (k+l+1) l _ (by omega) (by omega),upd_fuel x (k+1) (k+l+1) k t (by omega) (by omega)]
  exact upd_comm x y (k+l+1) (k+l+1) k l t h (by omega) (by omega) (by omega) (by omega)
theorem puts_put {k:Nat} {x:Value}:∀ (l:List Value) (c:PT Value) (o:Nat),k<o→PT.puts (c.put k (some x)) o l=(PT.puts c o l).put k (some x)
  | [],_,_,_=>rfl
  | y::l,c,o,h=>by
    simp only [PT.puts]
    rw [put_comm _ _ _ (show o≠k by omega),puts_put l _ _ (by omega)]
theorem puts_swap:∀ (l m:List Value) (c:PT Value) (o:Nat),PT.puts c o (l++m)=PT.puts (PT.puts c (o+l.length) m) o l
  | [],m,c,o=>rfl
  | x::l,m,c,o=>by
    simp only [List.cons_append,PT.puts,List.length_cons]
    rw [puts_swap l m _ (o+1),show o+1+l.length=o+(l.length+1) by omega,puts_put m c _ (by omega)]
theorem app_in2 {H:AH} {e b o m c b2 o2 n c2 M t m' p L q:Nat} {ce:PT Value} {y1 y2:List Nat} (hl:(y1++y2).length=n) (hy:Bys H b2 o2 (y1++y2)) (hb:H.get b=some (.cells ce M t)) (hc:∀ i,i<n→∃ u,ce.get (p+i)=some u) (hp:o+m=p) (hm:m+n=m') (hmc:m'≤c) (hcc:c≤100000000000000) (hL:y1.length=L) (hq:p+L=q) :
    hApp e 1 1 (sl b o m c) (sl b2 o2 n c2) H=some (sl b o m' c,H.put b (some (.cells (PT.puts (PT.puts ce q (y2.map u8)) p (y1.map u8)) M t))):=by
  subst hq hL
  have:=app_in (e:=e) (c2:=c2) hl hy hb hc hp hm hmc hcc
  rw [this,List.map_append,puts_swap,List.length_map]
end Go.Proofs.YtejgabehfdapjaaGreat.Sym
namespace Go.Proofs.YtejgabehfdapjaaGreat.Sym
open Go.Den
structure F0 (fl m pg k:Nat) (h:AH):Prop where
  lim:∀ b,h.next≤b→h.get b=none
  f0:h.cell fl 0=some (i64 pg)
  f1:h.cell fl 1=some (i64 k)
  f3:h.cell fl 3=some (.map (some m))
  f9:h.cell fl 9=some (.bool false)
  lfl:fl<h.next
section
variable {fl m pg k:Nat} {h h':AH}
theorem F0.ext (I:F0 fl m pg k h) (hx:h.next≤h'.next) (e:∀ b,b<h.next→h'.get b=h.get b) (hl:∀ b,h'.next≤b→h'.get b=none):F0 fl m pg k h':=
  ⟨hl,cell_eq (e _ I.lfl) I.f0,cell_eq (e _ I.lfl) I.f1,cell_eq (e _ I.lfl) I.f3,cell_eq (e _ I.lfl) I.f9,Nat.lt_of_lt_of_le I.lfl hx⟩
theorem bys_nil {h:AH} {b o:Nat}:Bys h b o []:=fun i x hi=>by simp at hi
theorem read0_ok {d:Nat} (I:F0 fl m pg k h) (hkp:1≤k*pg) (hM:k*pg≤16777216) :
    ∃ h',denG envT (orcS envT tbSum BIG (d+2)) BIG 67 [ptr fl 0,i64 0,i64 0,i64 0] h=some (.tuple ⟨[sl (h.next+10) 0 0 0,i64 0]⟩,h')∧h.next+10<h'.next∧(∃ oc,h'.get (h.next+10)=some (.cells oc 0 0))∧(∀ b,h'.next≤b→h'.get b=none)∧∀ b,b<h.next→h'.get b=h.get b:=by
  have e0:∀ b,b≠h.next+10→(p67_h2 0 h).get b=h.get b:=fun b hb=>by
    simp only [p67_h2,AH.get_new,get_mk,mem_get]
    rw [if_neg hb]
  have t:In_67 fl (h.next+10) 0 0 0 (p67_t0 fl pg k 0 h):=⟨by kernel_rfl,by kernel_rfl,by kernel_rfl,by kernel_rfl,by kernel_rfl⟩
  obtain ⟨T,l1,l2⟩:=e67 (orcS envT tbSum BIG (d+2)) fl 0 (h.next+10) (p67_t0 fl pg k 0 h) (p67_h2 0 h)
  rw [t.eq] at l1
  have eT:tmK [(12,sl (h.next+10) 0 0 0)] T=T:=tmK_self _ _ fun p hp=>by
    simp only [List.mem_cons,List.not_mem_nil,or_false] at hp
    subst hp;exact l2
  have hr:=p67 (orcS envT tbSum BIG (d+2)) fl m pg k 0 (k*pg) T h (p67_h2 0 h) I.f0 I.f1 I.f3 I.f9 I.lfl rfl hkp hM (Nat.zero_le _) (fun a b=>c101 a b) (fun a=>c121 a) (fun K=>by rw [eT];exact loop_out (m:=BIG-1) (fun h=>by cases h) l1)
  have o:(p67_h2 0 h).get (h.next+10)=some (.cells (zrep [u8 0] 0) 0 0):=by
    show (AH.new _ _).get _=_
    exact new_get _ _
  have n2:(p67_h2 0 h).next=h.next+11:=rfl
  refine ⟨_,hr,by omega,⟨_,o⟩,fun b hb=>?_,fun b hb=>e0 b (by omega)⟩
  rw [e0 b (by omega)];exact I.lim b (by omega)
theorem sum_nil:sumN []=0:=by
  show 4294967295 ^^^ 4294967295=0
  exact Nat.xor_self _
theorem holds0_ok {d dv:Nat} (I:F0 fl m pg k h) (d0:h.cell dv 0=some (ptr fl 0)) (hdv:dv<h.next) (hkp:1≤k*pg) (hM:k*pg≤16777216) :
    ∃ h',denG envT (orcS envT tbSum BIG (d+3)) BIG 55 [ptr dv 0,agg4 (i64 0) (i64 0) (i64 0) (u32 0)] h=some (.bool true,h')∧h.next≤h'.next∧(∀ b,h'.next≤b→h'.get b=none)∧∀ b,b<h.next→h'.get b=h.get b:=by
  have e1:∀ b,b≠h.next→(p55_h1 0 0 0 h).get b=h.get b:=fun b hb=>get_newN hb
  have n1:(p55_h1 0 0 0 h).next=h.next+1:=rfl
  have o1:(p55_h1 0 0 0 h).get h.next=some (.cells (PT.ofList [i64 0,i64 0,i64 0,u32 0] 0 .leaf) 4 0):=get_newS
  have I1:F0 fl m pg k (p55_h1 0 0 0 h):=I.ext (by omega) (fun b hb=>e1 b (by omega)) fun b hb=>by rw [e1 b (by omega)];exact I.lim b (by omega)
  let h3:=(p71_h2 pg k (p55_h1 0 0 0 h)).wdf (p55_h1 0 0 0 h).df
  have c71:orcS envT tbSum BIG (d+3) (.func (.func 71) ⟨[]⟩ ⟨[]⟩) [ptr fl 0] (p55_h1 0 0 0 h)=some (agg2 (i64 pg) (i64 k),h3):=orcS_of (by kernel_rfl) (p71 _ fl pg k _ I1.f0 I1.f1 I1.lfl)
  have e3:∀ b,b≠h.next+1→h3.get b=(p55_h1 0 0 0 h).get b:=fun b hb=>by
    show AH.get (p71_h2 pg k (p55_h1 0 0 0 h)) b=_
    simp only [p71_h2,AH.get_put,AH.get_new,n1]
    rw [if_neg hb,if_neg hb,if_neg hb]
  have n3:h3.next=h.next+2:=rfl
  have e4:∀ b,b≠h.next+2→(p55_h4 pg k h3).get b=h3.get b:=fun b hb=>by
    simp only [p55_h4,get_mk,mem_get,AH.get_put,AH.get_new,n3]
    rw [if_neg hb,if_neg hb,if_neg hb]
  have n4:(p55_h4 pg k h3).next=h.next+17:=rfl
  have e43:∀ b,b<h.next+1→(p55_h4 pg k h3).get b=(p55_h1 0 0 0 h).get b:=fun b hb=>by rw [e4 b (by omega),e3 b (by omega)]
  have I4:F0 fl m pg k (p55_h4 pg k h3):=I1.ext (by omega) (fun b hb=>e43 b (by omega)) fun b hb=>by
    rw [e4 b (by omega),e3 b (by omega)];exact I1.lim b (by omega)
  obtain ⟨h5,r1,r4,r5,r7,r6⟩:=read0_ok (d:=d) I4 hkp hM
  let h5':=h5.wdf (p55_h4 pg k h3).df
  have c67:orcS envT tbSum BIG (d+3) (.func (.func 67) ⟨[]⟩ ⟨[]⟩) [ptr fl 0,i64 0,i64 0,i64 0] (p55_h4 pg k h3)=some (.tuple ⟨[sl ((p55_h4 pg k h3).next+10) 0 0 0,i64 0]⟩,h5'):=orcS_of (by kernel_rfl) r1
  have e5:h5'.get h.next=(p55_h1 0 0 0 h).get h.next:=by
    show h5.get h.next=_
    rw [r6 h.next (by omega),e43 _ (by omega)]
  have n5:h5'.next=h5.next:=rfl
  have hr:=p55 (orcS envT tbSum BIG (d+3)) dv fl pg k 0 0 0 ((p55_h4 pg k h3).next+10) (pg*k) [] h h5' h3 d0 hdv rfl (by rw [Nat.mul_comm];exact hM) (Nat.zero_le _) c71
    (cell_eq (e3 dv (by omega)) (cell_eq (e1 dv (by omega)) d0)) (cell_eq (e3 _ (by omega)) (cell_of o1 rfl)) (cell_eq (e3 _ (by omega)) (cell_of o1 rfl)) (by omega) (by omega) c67
    (cell_eq e5 (cell_of o1 rfl)) bys_nil (by omega) (by omega) (fun a b=>c11 a b rfl (by omega) sum_nil (by omega))
  have e6:∀ b,b<h5.next→(p55_h6 0 ((p55_h4 pg k h3).next+10) h5').get b=h5.get b:=fun b hb=>by
    simp only [p55_h6,AH.up_get,AH.get_put,get_mk,mem_get]
    rw [if_neg (by omega)] <;> rfl
  have n6:(p55_h6 0 ((p55_h4 pg k h3).next+10) h5').next=h5.next+12:=rfl
  refine ⟨_,hr,by omega,fun b hb=>?_,fun b hb=>?_⟩
  · simp only [p55_h6,AH.up_get,AH.get_put,get_mk,mem_get]
    rw [if_neg (by omega)]
    exact r7 b (by omega)
  · rw [e6 b (by omega),r6 b (by omega),e43 b (by omega),e1 b (by omega)]
theorem image0_ok {d dv:Nat} (I:F0 fl m pg k h) (d0:h.cell dv 0=some (ptr fl 0)) (hdv:dv<h.next) (hkp:1≤k*pg) (hM:k*pg≤16777216) :
    ∃ h' ob oc,denG envT (orcS envT tbSum BIG (d+4)) BIG 33 [ptr dv 0,agg4 (i64 0) (i64 0) (i64 0) (u32 0)] h=some (.tuple ⟨[sl ob 0 0 0,i64 0]⟩,h')∧h.next≤ob∧ob<h'.next∧h'.get ob=some (.cells oc 0 0)∧(∀ b,h'.next≤b→h'.get b=none)∧∀ b,b<h.next→h'.get b=h.get b:=by
  have e1:∀ b,b≠h.next→(p33_h1 0 0 0 h).get b=h.get b:=fun b hb=>get_newN hb
  have n1:(p33_h1 0 0 0 h).next=h.next+1:=rfl
  have o1:(p33_h1 0 0 0 h).get h.next=some (.cells (PT.ofList [i64 0,i64 0,i64 0,u32 0] 0 .leaf) 4 0):=get_newS
  have I1:F0 fl m pg k (p33_h1 0 0 0 h):=I.ext (by omega) (fun b hb=>e1 b (by omega)) fun b hb=>by rw [e1 b (by omega)];exact I.lim b (by omega)
  obtain ⟨h2,r1,r3,r5,r4⟩:=holds0_ok (d:=d) I1 (cell_eq (e1 dv (by omega)) d0) (by omega) hkp hM
  let h2':=h2.wdf (p33_h1 0 0 0 h).df
  have c55:orcS envT tbSum BIG (d+4) (.func (.func 55) ⟨[]⟩ ⟨[]⟩) [ptr dv 0,agg4 (i64 0) (i64 0) (i64 0) (u32 0)] (p33_h1 0 0 0 h)=some (.bool true,h2'):=orcS_of (by kernel_rfl) r1
  have n2:h2'.next=h2.next:=rfl
  have I3:F0 fl m pg k (p33_h2 h2'):=I1.ext (by show _≤h2.next+13;omega) (fun b hb=>r4 b hb) fun b hb=>by
    have hb':h2.next+13≤b:=hb
    exact r5 b (by omega)
  obtain ⟨h5,q1,q4,⟨oc,q5⟩,q7,q6⟩:=read0_ok (d:=d+1) I3 hkp hM
  let h5':=h5.wdf (p33_h2 h2').df
  have c67:orcS envT tbSum BIG (d+4) (.func (.func 67) ⟨[]⟩ ⟨[]⟩) [ptr fl 0,i64 0,i64 0,i64 0] (p33_h2 h2')=some (.tuple ⟨[sl ((p33_h2 h2').next+10) 0 0 0,i64 0]⟩,h5'):=orcS_of (by kernel_rfl) q1
  have n3:(p33_h2 h2').next=h2.next+13:=rfl
  have e2:h2'.get h.next=(p33_h1 0 0 0 h).get h.next:=r4 h.next (by omega)
  have hr:=p33 (orcS envT tbSum BIG (d+4)) dv fl m 0 0 0 ((p33_h2 h2').next+10) h h2' h5' d0 I.f3 I.f9 hdv I.lfl (fun a=>c50 a) (fun a b=>c51 a b) c55
    (cell_eq (show h2'.get dv=(p33_h1 0 0 0 h).get dv from r4 dv (by omega)) (cell_eq (e1 dv (by omega)) d0)) (cell_eq e2 (cell_of o1 rfl)) (cell_eq e2 (cell_of o1 rfl)) c67
  refine ⟨h5',(p33_h2 h2').next+10,oc,hr,by omega,q4,q5,fun b hb=>q7 b hb,fun b hb=>?_⟩
  show h5.get b=_
  rw [q6 b (by omega)]
  show h2.get b=_
  rw [r4 b (by omega),e1 b (by omega)]
end
open Classical in
noncomputable def fImage0 (dv fl m pg k:Nat):Fun:=fun args h=>
  if args=[ptr dv 0,agg4 (i64 0) (i64 0) (i64 0) (u32 0)]∧h.cell dv 0=some (ptr fl 0)∧dv<h.next∧F0 fl m pg k h then
    some (.tuple ⟨[sl h.next 0 0 0,i64 0]⟩,h.new (.cells (bysT []) 0 0)) else none
theorem t_image0 {dv fl m pg k:Nat} (hkp:1≤k*pg) (hM:k*pg≤16777216) :
    Den.Told Tryz.prog 33 (fImage0 dv fl m pg k):=told_ren envT_ok (orcS_sound envT_ok tbSum_ok BIG 4) fun args h v₂ h₂ hl lim=>by
  unfold fImage0 at hl
  split at hl
  · rename_i hc
    obtain ⟨rfl,d0,hdv,I⟩:=hc
    obtain ⟨h1,b,oc,r1,k4,k5,k3,r4,r5⟩:=image0_ok (d:=0) I d0 hdv hkp hM
    cases hl
    refine ⟨BIG,_,h1,r1,[b],Nat.le_refl _,by simp,.tuple (.cons (.slice 0 0 _ (ren_new (i:=0) rfl k4)) (.cons (.int _ _) .nil)),fun d o₂ hd=>?_,fun d hd=>?_,fun φ w args' ha r d hd=>?_⟩
    · rw [AH.get_new] at hd
      split at hd
      · rename_i e
        subst e
        cases hd
        exact .inr ⟨b,_,ren_new (i:=0) rfl k4,k3,oto_bys fun i x hi=>by simp at hi⟩
      · have hdl:d<h.next:=by
          rcases Nat.lt_or_ge d h.next with hlt|hge
          · exact hlt
          · rw [lim d hge] at hd;cases hd
        exact .inl ⟨hdl,(r5 d hdl).trans hd,hd⟩
    · have hd':h.next+1≤d:=hd
      rw [AH.get_new,if_neg (by omega)];exact lim d (by omega)
    · rw [AH.get_new,if_neg (by omega)];exact .inl rfl
  · cases hl
end Go.Proofs.YtejgabehfdapjaaGreat.Sym
namespace Go.Proofs.YtejgabehfdapjaaGreat.Sym
open Go.Den
noncomputable def kf58:Value→Bool:=match envT.key 58 with|some f=>f|none=>fun _=>false
def rec58 (q s v n u s' v' n' u' t:Nat):Value:=.agg ⟨[i64 q,i64 s,i64 v,i64 n,u32 u,i64 s',i64 v',i64 n',u32 u',i64 t]⟩
theorem wf_u32 {i:Nat} (hi:i<4294967296):(Lit.int .u32 (.ofNat i)).wf=true:=by
  have h1:IntKind.u32.min=0:=by decide
  have h2:IntKind.u32.max=4294967295:=by decide
  show (decide (IntKind.u32.min≤Int.ofNat i) && decide (Int.ofNat i≤IntKind.u32.max))=true
  rw [h1,h2]
  simp only [Bool.and_eq_true,decide_eq_true_eq]
  exact ⟨Int.natCast_nonneg i,by show (i:Int)≤4294967295;omega⟩
theorem kf58_eq (v:Value):kf58 v=(keyOf Tryz.prog 58 v).isSome:=by kernel_rfl
theorem key58 (q s v n u s' v' n' u' t:Nat):keyOf Tryz.prog 58 (rec58 q s v n u s' v' n' u' t)=(Tryz.prog.keyLits (587+3) 58 [i64 q,i64 s,i64 v,i64 n,u32 u,i64 s',i64 v',i64 n',u32 u',i64 t]).map fun ls=>.string (keyBytes ls):=by kernel_rfl
theorem lits_i (d i:Nat):Tryz.prog.keyLits (d+1) 3 [i64 i]=(if IntKind.i64=IntKind.i64∧(Lit.int .i64 (.ofNat i)).wf=true then some [.int .i64 (.ofNat i)] else none):=by kernel_rfl
theorem lits_u (d i:Nat):Tryz.prog.keyLits (d+1) 40 [u32 i]=(if IntKind.u32=IntKind.u32∧(Lit.int .u32 (.ofNat i)).wf=true then some [.int .u32 (.ofNat i)] else none):=by kernel_rfl
theorem lits_56 (d s v n u:Nat):Tryz.prog.keyLits (d+2) 56 [i64 s,i64 v,i64 n,u32 u]=((Tryz.prog.keyLits (d+1) 3 [i64 s]).bind fun a=>(Tryz.prog.keyLits (d+1) 3 [i64 v]).bind fun b=>(Tryz.prog.keyLits (d+1) 3 [i64 n]).bind fun c=>(Tryz.prog.keyLits (d+1) 40 [u32 u]).bind fun e=>some [a,b,c,e]).map List.flatten:=by kernel_rfl
theorem lits_58 (d q s v n u s' v' n' u' t:Nat):Tryz.prog.keyLits (d+3) 58 [i64 q,i64 s,i64 v,i64 n,u32 u,i64 s',i64 v',i64 n',u32 u',i64 t]=((Tryz.prog.keyLits (d+2) 3 [i64 q]).bind fun a=>(Tryz.prog.keyLits (d+2) 56 [i64 s,i64 v,i64 n,u32 u]).bind fun b=>(Tryz.prog.keyLits (d+2) 56 [i64 s',i64 v',i64 n',u32 u']).bind fun c=>(Tryz.prog.keyLits (d+2) 3 [i64 t]).bind fun e=>some [a,b,c,e]).map List.flatten:=by kernel_rfl
theorem lits_i' (d:Nat) {i:Nat} (h:i<9223372036854775808):Tryz.prog.keyLits (d+1) 3 [i64 i]=some [.int .i64 (.ofNat i)]:=by rw [lits_i,if_pos ⟨rfl,wf_i64 h⟩]
theorem lits_u' (d:Nat) {i:Nat} (h:i<4294967296):Tryz.prog.keyLits (d+1) 40 [u32 i]=some [.int .u32 (.ofNat i)]:=by rw [lits_u,if_pos ⟨rfl,wf_u32 h⟩]
theorem lits_56' (d:Nat) {s v n u:Nat} (h1:s<9223372036854775808) (h2:v<9223372036854775808) (h3:n<9223372036854775808) (h4:u<4294967296):(Tryz.prog.keyLits (d+2) 56 [i64 s,i64 v,i64 n,u32 u]).isSome=true:=by
  rw [lits_56,lits_i' d h1,lits_i' d h2,lits_i' d h3,lits_u' d h4] <;> rfl
theorem kf58_ok {q s v n u s' v' n' u' t:Nat} (h0:q<9223372036854775808) (h1:s<9223372036854775808) (h2:v<9223372036854775808) (h3:n<9223372036854775808) (h4:u<4294967296) (h5:s'<9223372036854775808) (h6:v'<9223372036854775808) (h7:n'<9223372036854775808) (h8:u'<4294967296) (h9:t<9223372036854775808):kf58 (rec58 q s v n u s' v' n' u' t)=true:=by
  obtain ⟨a,ha⟩:=Option.isSome_iff_exists.1 (lits_56' 587 h1 h2 h3 h4)
  obtain ⟨b,hb⟩:=Option.isSome_iff_exists.1 (lits_56' 587 h5 h6 h7 h8)
  rw [kf58_eq,key58,lits_58,ha,hb,lits_i' (587+1) h0,lits_i' (587+1) h9] <;> rfl
theorem atom58 (q s v n u s' v' n' u' t:Nat):atomA (rec58 q s v n u s' v' n' u' t)=true:=rfl
theorem kBin58 (x y:Value):kBin envT .neq 58 none x y=bif kf58 x && kf58 y && atomA x && atomA y then some (.bool (!vEqA x y)) else none:=by kernel_rfl
theorem neq58 {q s v n u s' v' n' u' t:Nat} {H:AH} (h0:q<9223372036854775808) (h1:s<9223372036854775808) (h2:v<9223372036854775808) (h3:n<9223372036854775808) (h4:u<4294967296) (h5:s'<9223372036854775808) (h6:v'<9223372036854775808) (h7:n'<9223372036854775808) (h8:u'<4294967296) (h9:t<9223372036854775808) :
    ((kBin envT BinOp.neq 58 none (rec58 q s v n u s' v' n' u' t) (rec58 q s v n u s' v' n' u' t)).bind fun zv=>some (zv,H))=some (.bool false,H):=by
  rw [kBin58,kf58_ok h0 h1 h2 h3 h4 h5 h6 h7 h8 h9,atom58,vEqA_self (atom58 ..)] <;> rfl
end Go.Proofs.YtejgabehfdapjaaGreat.Sym
namespace Go.Proofs.YtejgabehfdapjaaGreat.Sym
open Go.Den
theorem bys_ofl {h:AH} {xs:List Nat} {b n t:Nat} (hb:∀ x ∈ xs,x<256) (hg:h.get b=some (.cells (PT.ofList (xs.map u8) 0 .leaf) n t)):Bys h b 0 xs:=fun i x hi=>
  ⟨hb x (List.mem_of_getElem? hi),cell_of hg (by rw [ofList_at,Nat.zero_add,List.getElem?_map,hi] <;> rfl)⟩
theorem orE0 {b:Nat} (hb:b<256):bitsOf .u64 Nat.lor (fun x1 x2=>x1 ||| x2) (.ofNat 0) (.ofNat b)=.ofNat b:=orE (a:=0) (by omega) hb (by omega)
theorem recA_len (v n s r:Nat):(recA v n s r).length=43:=rfl
def OA (oa:Option Addr) (ob:Option AObj) (n N:Nat) (xs:List Nat):Prop:=(n=0∧oa=none)∨(oa=some ⟨N,0,none⟩∧ob=some (.cells (PT.ofList (xs.map u8) 0 .leaf) n 11))
theorem cbO {H:AH} {oa:Option Addr} {ob:Option AObj} {n N oc:Nat} {xs:List Nat} (ho:OA oa ob n N xs) (hx:xs.length=n) (hb:∀ x ∈ xs,x<256) (hg:H.get N=ob):((cBytes (.slice oa n oc) H).bind fun v=>some (v,H))=some (Value.string (strOf xs),H):=by
  rcases ho with ⟨h0,rfl⟩|⟨rfl,rfl⟩
  · have e:xs=[]:=List.eq_nil_of_length_eq_zero (by omega)
    subst e;rfl
  · exact cb hx (bys_ofl hb hg)
def fA (n b o:Nat):Value:=.func (.func n) ⟨[]⟩ ⟨[ptr b o]⟩
theorem gc {a:Prop} {l:Ps} (h:a) (hl:GoodP' l):GoodP' (a::l):=goodY_cons h hl
theorem gn:GoodP' []:=goodY_nil
def klt:PT AObj→Nat→Nat→Nat→Bool
  | .leaf,_,_,_=>true
  | .node v l r,a,b,n=>(Nat.ble (b+1) n || (match v with|some _=>false|none=>true)) && (klt l (2*a) (a+b) n && klt r (2*a) (2*a+b) n)
theorem klt_get:∀ (t:PT AObj) (a b n k:Nat),klt t a b n=true→n≤a*k+b→t.get k=none
  | .leaf,_,_,_,k,_,_=>PT.get_leaf k
  | .node v l r,a,b,n,k,h,hk=>by
    simp only [klt,Bool.and_eq_true] at h
    obtain ⟨h1,h2,h3⟩:=h
    simp only [PT.get]
    cases e:Nat.beq k 0 with
    | true=>
      have e:=nat_beq e
      subst e
      simp only [cond_true]
      cases v with
      | none=>rfl
      | some x=>
        rw [Bool.or_false] at h1
        have:=Nat.le_of_ble_eq_true h1
        omega
    | false=>
      have hk0:k≠0:=fun e'=>by rw [e'] at e;cases e
      simp only [cond_false]
      cases e2:Nat.beq (k % 2) 1 with
      | true=>
        have e2:=nat_beq e2
        simp only [cond_true]
        refine klt_get l _ _ n _ h2 ?_
        have:a*k=a*(2*(k/2)+1):=by congr 1;omega
        rw [this,Nat.mul_add,← Nat.mul_assoc,Nat.mul_comm a 2] at hk
        omega
      | false=>
        have e2:k % 2≠1:=fun e'=>by rw [e'] at e2;cases e2
        simp only [cond_false]
        refine klt_get r _ _ n _ h3 ?_
        have:a*k=a*(2*(k/2-1)+2):=by congr 1;omega
        rw [this,Nat.mul_add,← Nat.mul_assoc,Nat.mul_comm a 2] at hk
        omega
theorem lim_of {H:AH} (h:klt H.mem 1 0 H.next=true):∀ b,H.next≤b→H.get b=none:=fun b hb=>klt_get _ 1 0 _ b h (by omega)
noncomputable def mAwake:Fun:=memo [] [] 0 (.bool true) [] 38501
noncomputable def f33 (pg k n s v:Nat) (xs:List Nat):Fun:=orF (fImage 489 7 5 16 pg k n s v 0 xs) (fImage0 489 7 5 pg k)
noncomputable def f34 (pg k n s v:Nat) (xs:List Nat):Fun:=orF (fHolds 653 490 pg k n 491 492 s v xs) (fHolds 653 490 pg k 0 491 492 0 0 [])
noncomputable def tbD (pg k n c s v:Nat) (ia:Option Addr) (xs:List Nat):PT Fun:=(((tbSum.put 13 (some (fNew pg k n c ia 0 xs))).put 33 (some (f33 pg k n s v xs))).put 34 (some (f34 pg k n s v xs))).put 7 (some mAwake)
theorem tbD_ok {pg k n c s v:Nat} {ia:Option Addr} {xs:List Nat} (hia:IA ia 0 n c) (h7:Den.Told Tryz.prog 7 mAwake) (hx:xs.length=n) (hb:∀ x ∈ xs,x<256) (hp:64≤pg) (hp2:pg≤4096) (hk:1≤k) (hk2:k≤4096) (hM:pg*k≤16777216) (hnk:n≤pg*k) (hs:sumN xs=s) (hsl:s<4294967296):TabOK Tryz.prog envT (tbD pg k n c s v ia xs):=
  have hM':k*pg≤16777216:=by rw [Nat.mul_comm];exact hM
  have hnk':n≤k*pg:=by rw [Nat.mul_comm];exact hnk
  have hkp:1≤k*pg:=Nat.le_trans hk (Nat.le_mul_of_pos_right k (by omega))
  (((tbSum_ok.put (t_new hia hx hb hp hp2 hk hk2 hM hnk) (fnS (by kernel_rfl))).put ((t_image hx hb hp hp2 hk hM' hnk' hs hsl).or (t_image0 hkp hM')) (fnS (by kernel_rfl))).put ((t_holds hx hb hp hp2 hk hk2 hM hnk hs hsl).or (t_holds (xs:=[]) rfl (fun x hx=>by simp at hx) hp hp2 hk hk2 hM (Nat.zero_le _) sum_nil (by omega))) (fnS (by kernel_rfl))).put h7 (fnS (by kernel_rfl))
namespace D
section
variable {pg k n s v:Nat} {ia:Option Addr} {xs:List Nat}
theorem c7 {c d:Nat} {H:AH}:orcS envT (tbD pg k n c s v ia xs) BIG d (.func (.func 7) ⟨[]⟩ ⟨[]⟩) [] H=some (.bool true,AH.mk (H.next+38501) H.mem H.df):=
  orcS_tb (f:=mAwake) (h':=AH.mk (H.next+38501) H.mem H.df) (by kernel_rfl) (by kernel_rfl)
theorem c13 {c d N:Nat} {H:AH} (hB:Bys H 0 0 xs) (h0:0<H.next) (hN:H.next=N):orcS envT (tbD pg k n c s v ia xs) BIG d (.func (.func 13) ⟨[]⟩ ⟨[]⟩) [i64 pg,i64 k,i64 0,.agg ⟨[.slice ia n c,.slice none 0 0]⟩] H=some (.tuple ⟨[ptr N 0,i64 0]⟩,newHN N pg k xs H):=by
  subst hN
  rw [newHN_eq]
  refine orcS_tb (f:=fNew pg k n c ia 0 xs) (h':=newH pg k xs H) (by kernel_rfl) ?_
  unfold fNew
  rw [if_pos ⟨rfl,hB,h0⟩]
theorem c127 {c n' c' d b o M t:Nat} {ce:PT Value} {H:AH} (hn:n'<4611686018427387904) (hb:H.get b=some (.cells ce M t)) (hc:∀ i,i<n'→∃ u,ce.get (o+i)=some u) :
    orcS envT (tbD pg k n c s v ia xs) BIG (d+1) (.func (.func 127) ⟨[]⟩ ⟨[]⟩) [sl b o n' c'] H=some (.tuple ⟨[]⟩,H.put b (some (.cells (fillC ce o n') M t))):=
  orcS_of (by kernel_rfl) (r_127 _ hn hb hc)
theorem c42 {c n' d N:Nat} {H:AH} (hn:n'≤281474976710656) (hN:H.next=N) :
    orcS envT (tbD pg k n c s v ia xs) BIG (d+1) (.func (.func 42) ⟨[]⟩ ⟨[]⟩) [i64 n'] H=some (sl N 0 n' n',H.new (.cells (fillC (zrep [u8 0] n') 0 n') n' 0)):=by
  subst hN
  exact orcS_of (by kernel_rfl) (r_42 _ hn)
theorem thr37 {c n' c':Nat} {H:AH} {r b o d:Nat} {ys:List Nat} (hl:ys.length=n') (hy:Bys H b o ys) (hr:r<4294967296) (hn:n'<4611686018427387904) :
    orcS envT (tbD pg k n c s v ia xs) BIG d (.func (.func 37) ⟨[]⟩ ⟨[]⟩) [u32 r,sl b o n' c'] H=some (u32 (refN r ys),H.up 1):=by
  subst hl
  exact orcS_tb (f:=orF fThrough fThrZ) (by kernel_rfl) (orF_l (fThrough_eq hr hy hn))
theorem run79 {c n' c':Nat} {H:AH} {r b o d:Nat} {ys:List Nat} (hl:ys.length=n') (hy:Bys H b o ys) (hr:r<4294967296) (hn:n'<4611686018427387904) :
    orcS envT (tbD pg k n c s v ia xs) BIG d (.func (.func 79) ⟨[]⟩ ⟨[]⟩) [u32 r,sl b o n' c'] H=some (u32 (refN r ys),H):=by
  subst hl
  exact orcS_tb (f:=orF fRun fRunZ) (by kernel_rfl) (orF_l (fRun_eq hr hy hn))
theorem thrI {c n' c':Nat} {H:AH} {r im d:Nat} {ys:List Nat} {ib:Option Addr} (hi:IA ib im n' c') (hl:ys.length=n') (hy:Bys H im 0 ys) (hr:r<4294967296) (hn:n'<4611686018427387904) :
    orcS envT (tbD pg k n c s v ia xs) BIG d (.func (.func 37) ⟨[]⟩ ⟨[]⟩) [u32 r,.slice ib n' c'] H=some (u32 (refN r ys),H.up 1):=by
  rcases hi with rfl|⟨rfl,rfl,rfl⟩
  · exact thr37 hl hy hr hn
  · have e:ys=[]:=List.eq_nil_of_length_eq_zero hl
    subst e
    exact orcS_tb (f:=orF fThrough fThrZ) (h':=H.up 1) (v:=u32 r) (by kernel_rfl) (orF_r rfl rfl)
theorem runI {c n' c':Nat} {H:AH} {r im d:Nat} {ys:List Nat} {ib:Option Addr} (hi:IA ib im n' c') (hl:ys.length=n') (hy:Bys H im 0 ys) (hr:r<4294967296) (hn:n'<4611686018427387904) :
    orcS envT (tbD pg k n c s v ia xs) BIG d (.func (.func 79) ⟨[]⟩ ⟨[]⟩) [u32 r,.slice ib n' c'] H=some (u32 (refN r ys),H):=by
  rcases hi with rfl|⟨rfl,rfl,rfl⟩
  · exact run79 hl hy hr hn
  · have e:ys=[]:=List.eq_nil_of_length_eq_zero hl
    subst e
    exact orcS_tb (f:=orF fRun fRunZ) (h':=H) (v:=u32 r) (by kernel_rfl) (orF_r rfl rfl)
end
end D
def mapEs (H:AH) (b:Nat):List (Value × Value):=match H.get b with|some (.map es _ _)=>es|_=>[]
def mapBs (H:AH) (b:Nat):List Nat:=match H.get b with|some (.map _ bs _)=>bs|_=>[]
def mapCl (H:AH) (b:Nat):Nat:=match H.get b with|some (.map _ _ cl)=>cl|_=>0
namespace D
section
variable {pg k n s v:Nat} {ia:Option Addr} {xs:List Nat}
theorem c33 {c d N:Nat} {H:AH} (hN:H.next=N) (hl:klt H.mem 1 0 H.next=true) (h0:H.cell 489 0=some (ptr 7 0)) (hlt:Nat.ble 490 H.next=true) (f0:H.cell 7 0=some (i64 pg)) (f1:H.cell 7 1=some (i64 k)) (f3:H.cell 7 3=some (.map (some 5))) (f4:H.cell 7 4=some (sl 16 0 n n)) (f9:H.cell 7 9=some (.bool false))
    (hB:H.get 16=some (.cells (PT.puts (zrep [u8 0] n) 0 (xs.map u8)) n 0)) (hb:∀ x ∈ xs,x<256) (hm:H.get 5=some (.map (mapEs H 5) (mapBs H 5) (mapCl H 5))) (hK:esKeys kf (mapEs H 5)=true) (hF:∀ i,esFind (spot 0 i) (mapEs H 5)=none) :
    orcS envT (tbD pg k n c s v ia xs) BIG d (.func (.func 33) ⟨[]⟩ ⟨[]⟩) [ptr 489 0,.agg ⟨[i64 0,i64 v,i64 n,u32 s]⟩] H=some (.tuple ⟨[sl N 0 n n,i64 0]⟩,(H.put 5 none).new (.cells (bysT xs) n 0)):=by
  subst hN
  have hlt:=Nat.le_of_ble_eq_true hlt
  refine orcS_tb (f:=f33 pg k n s v xs) (h':=(H.put 5 none).new (.cells (bysT xs) n 0)) (by kernel_rfl) (orF_l ?_)
  have I:PI 7 5 16 pg k n xs [] 0 H:=⟨lim_of hl,f0,f1,f3,f4,f9,bys_puts hb hB,by omega,by omega,by omega,by omega,by omega,by simp,by simp,by simp,by simp,_,_,_,hm,hK,fun i _=>hF i,fun i hi=>by omega⟩
  unfold fImage
  rw [if_pos ⟨rfl,h0,by omega,by omega,I⟩]
theorem c33z {c d N:Nat} {H:AH} (hv:v≠0) (hN:H.next=N) (hl:klt H.mem 1 0 H.next=true) (h0:H.cell 489 0=some (ptr 7 0)) (hlt:Nat.ble 490 H.next=true) (f0:H.cell 7 0=some (i64 pg)) (f1:H.cell 7 1=some (i64 k)) (f3:H.cell 7 3=some (.map (some 5))) (f9:H.cell 7 9=some (.bool false)) :
    orcS envT (tbD pg k n c s v ia xs) BIG d (.func (.func 33) ⟨[]⟩ ⟨[]⟩) [ptr 489 0,.agg ⟨[i64 0,i64 0,i64 0,u32 0]⟩] H=some (.tuple ⟨[sl N 0 0 0,i64 0]⟩,H.new (.cells (bysT []) 0 0)):=by
  subst hN
  have hlt:=Nat.le_of_ble_eq_true hlt
  refine orcS_tb (f:=f33 pg k n s v xs) (h':=H.new (.cells (bysT []) 0 0)) (by kernel_rfl) (orF_r ?_ ?_)
  · unfold fImage
    rw [if_neg]
    rintro ⟨h,-⟩
    simp only [agg4,List.cons.injEq,Value.agg.injEq,Array.mk.injEq,i64,Value.int.injEq,Int.ofNat.injEq,true_and,and_true] at h
    omega
  · unfold fImage0
    rw [if_pos ⟨rfl,h0,by omega,lim_of hl,f0,f1,f3,f9,by omega⟩]
theorem pgs_in {H:AH} {a ab M t:Nat} (h:H.get a=some (.cells (pgsT ab pg k) M t)):∀ q,q<k→H.cell a (q*3)=some (sl ab (q*pg) pg (pg*k-q*pg)):=fun q hq=>cell_of h (pgsT_has hq)
theorem c34 {c d N oc:Nat} {oa:Option Addr} {ob:Option AObj} {H:AH} (ho:OA oa ob n N xs) (ho2:n=0→ob=none∧oc=0) (ho3:n≠0→oa≠none∧oc=4611686018427387905) (hb:∀ x ∈ xs,x<256) (hN:H.next=N) (h0:H.cell 653 0=some (ptr 490 0)) (hlt:Nat.ble 654 H.next=true) (f0:H.cell 490 0=some (i64 pg)) (f1:H.cell 490 1=some (i64 k)) (f3:H.cell 490 3=some (sl 491 0 k 4611686018427387907)) (f7:H.cell 490 7=some (.bool false)) (hP:H.get 491=some (oPgs 492 pg k)) (hA:H.get 492=some (oAll pg k xs)) :
    orcS envT (tbD pg k n c s v ia xs) BIG d (.func (.func 34) ⟨[]⟩ ⟨[]⟩) [ptr 653 0,.agg ⟨[i64 0,i64 v,i64 n,u32 s]⟩] H=some (.tuple ⟨[.slice oa n oc,.bool true]⟩,(H.up 1).put N ob):=by
  have hlt:=Nat.le_of_ble_eq_true hlt
  have e:f34 pg k n s v xs [ptr 653 0,.agg ⟨[i64 0,i64 v,i64 n,u32 s]⟩] H=some (.tuple ⟨[.slice oa n oc,.bool true]⟩,(H.up 1).put N ob):=by
    refine orF_l ?_
    unfold fHolds
    rw [if_pos ⟨rfl,h0,f0,f1,f3,f7,pgs_in hP,bys_puts hb hA,by omega,by omega,by omega,by omega⟩]
    by_cases hn:n=0
    · obtain ⟨rfl,rfl⟩:=ho2 hn
      rcases ho with ⟨_,rfl⟩|⟨_,h⟩
      · rw [if_pos hn,if_pos hn,if_pos hn,hN]
      · cases h
    · obtain ⟨h1,rfl⟩:=ho3 hn
      rcases ho with ⟨h,_⟩|⟨rfl,rfl⟩
      · exact absurd h hn
      · rw [if_neg hn,if_neg hn,if_neg hn,hN] <;> rfl
  exact orcS_tb (f:=f34 pg k n s v xs) (h':=(H.up 1).put N ob) (by kernel_rfl) e
theorem c34z {c d:Nat} {H:AH} (hv:v≠0) (h0:H.cell 653 0=some (ptr 490 0)) (hlt:Nat.ble 654 H.next=true) (f0:H.cell 490 0=some (i64 pg)) (f1:H.cell 490 1=some (i64 k)) (f3:H.cell 490 3=some (sl 491 0 k 4611686018427387907)) (f7:H.cell 490 7=some (.bool false)) (hP:H.get 491=some (oPgs 492 pg k)) :
    orcS envT (tbD pg k n c s v ia xs) BIG d (.func (.func 34) ⟨[]⟩ ⟨[]⟩) [ptr 653 0,.agg ⟨[i64 0,i64 0,i64 0,u32 0]⟩] H=some (.tuple ⟨[.slice none 0 0,.bool true]⟩,AH.put (H.up 1) H.next none):=by
  have hlt:=Nat.le_of_ble_eq_true hlt
  refine orcS_tb (f:=f34 pg k n s v xs) (h':=AH.put (H.up 1) H.next none) (by kernel_rfl) (orF_r ?_ ?_)
  · unfold fHolds
    rw [if_neg]
    rintro ⟨h,-⟩
    simp only [agg4,List.cons.injEq,Value.agg.injEq,Array.mk.injEq,i64,Value.int.injEq,Int.ofNat.injEq,true_and,and_true] at h
    omega
  · unfold fHolds
    rw [if_pos ⟨rfl,h0,f0,f1,f3,f7,pgs_in hP,bys_nil,by omega,by omega,by omega,by omega⟩,if_pos rfl,if_pos rfl,if_pos rfl]
end
end D
theorem ltTi {a:Int} {b:Nat} (h:a<(b:Int)):ilt a (.ofNat b)=true:=by rw [ilt_eq];exact decide_eq_true h
noncomputable def tbX:PT Fun:=tbSum.put 7 (some mAwake)
theorem tbX_ok (h7:Den.Told Tryz.prog 7 mAwake):TabOK Tryz.prog envT tbX:=tbSum_ok.put h7 (fnS (by kernel_rfl))
namespace X
theorem c7 {d:Nat} {H:AH}:orcS envT tbX BIG d (.func (.func 7) ⟨[]⟩ ⟨[]⟩) [] H=some (.bool true,AH.mk (H.next+38501) H.mem H.df):=
  orcS_tb (f:=mAwake) (h':=AH.mk (H.next+38501) H.mem H.df) (by kernel_rfl) (by kernel_rfl)
end X
noncomputable def tbE (pg k n c:Nat) (ia:Option Addr) (xs:List Nat):PT Fun:=(tbSum.put 13 (some (fNew pg k n c ia 0 xs))).put 7 (some mAwake)
theorem tbE_ok {pg k n c:Nat} {ia:Option Addr} {xs:List Nat} (hia:IA ia 0 n c) (h7:Den.Told Tryz.prog 7 mAwake) (hx:xs.length=n) (hb:∀ x ∈ xs,x<256) (hp:64≤pg) (hp2:pg≤4096) (hk:1≤k) (hk2:k≤4096) (hM:pg*k≤16777216) (hnk:n≤pg*k):TabOK Tryz.prog envT (tbE pg k n c ia xs):=
  (tbSum_ok.put (t_new hia hx hb hp hp2 hk hk2 hM hnk) (fnS (by kernel_rfl))).put h7 (fnS (by kernel_rfl))
namespace E
section
variable {pg k n c:Nat} {ia:Option Addr} {xs:List Nat}
theorem c7 {d:Nat} {H:AH}:orcS envT (tbE pg k n c ia xs) BIG d (.func (.func 7) ⟨[]⟩ ⟨[]⟩) [] H=some (.bool true,AH.mk (H.next+38501) H.mem H.df):=
  orcS_tb (f:=mAwake) (h':=AH.mk (H.next+38501) H.mem H.df) (by kernel_rfl) (by kernel_rfl)
theorem c13 {d N:Nat} {H:AH} (hB:Bys H 0 0 xs) (h0:0<H.next) (hN:H.next=N):orcS envT (tbE pg k n c ia xs) BIG d (.func (.func 13) ⟨[]⟩ ⟨[]⟩) [i64 pg,i64 k,i64 0,.agg ⟨[.slice ia n c,.slice none 0 0]⟩] H=some (.tuple ⟨[ptr N 0,i64 0]⟩,newHN N pg k xs H):=by
  subst hN
  rw [newHN_eq]
  refine orcS_tb (f:=fNew pg k n c ia 0 xs) (h':=newH pg k xs H) (by kernel_rfl) ?_
  unfold fNew
  rw [if_pos ⟨rfl,hB,h0⟩]
theorem thrI {n' c':Nat} {H:AH} {r im d:Nat} {ys:List Nat} {ib:Option Addr} (hi:IA ib im n' c') (hl:ys.length=n') (hy:Bys H im 0 ys) (hr:r<4294967296) (hn:n'<4611686018427387904) :
    orcS envT (tbE pg k n c ia xs) BIG d (.func (.func 37) ⟨[]⟩ ⟨[]⟩) [u32 r,.slice ib n' c'] H=some (u32 (refN r ys),H.up 1):=by
  subst hl
  rcases hi with rfl|⟨rfl,h0,rfl⟩
  · exact orcS_tb (f:=orF fThrough fThrZ) (by kernel_rfl) (orF_l (fThrough_eq hr hy hn))
  · have e:ys=[]:=List.eq_nil_of_length_eq_zero h0
    subst e
    exact orcS_tb (f:=orF fThrough fThrZ) (h':=H.up 1) (v:=u32 r) (by kernel_rfl) (orF_r rfl rfl)
theorem runI {n' c':Nat} {H:AH} {r im d:Nat} {ys:List Nat} {ib:Option Addr} (hi:IA ib im n' c') (hl:ys.length=n') (hy:Bys H im 0 ys) (hr:r<4294967296) (hn:n'<4611686018427387904) :
    orcS envT (tbE pg k n c ia xs) BIG d (.func (.func 79) ⟨[]⟩ ⟨[]⟩) [u32 r,.slice ib n' c'] H=some (u32 (refN r ys),H):=by
  subst hl
  rcases hi with rfl|⟨rfl,h0,rfl⟩
  · exact orcS_tb (f:=orF fRun fRunZ) (by kernel_rfl) (orF_l (fRun_eq hr hy hn))
  · have e:ys=[]:=List.eq_nil_of_length_eq_zero h0
    subst e
    exact orcS_tb (f:=orF fRun fRunZ) (h':=H) (v:=u32 r) (by kernel_rfl) (orF_r rfl rfl)
end
end E
end Go.Proofs.YtejgabehfdapjaaGreat.Sym
namespace Go.Proofs.YtejgabehfdapjaaGreat.Sym
open Go.Den
theorem cell_in {P:Program} {w:World} {r:Reach} {base:Nat} {u e:TypeId} {b s n c:Nat} (ht:P.underlying u=some (.slice e)) (h:Cell.okWide P w r base u (.slice (some ⟨b,s,none⟩) n c)):∃ cs t lo hi,w.heap[b]?=some (.cells cs t (lo,hi)):=by
  simp only [Cell.okWide,ht,Cell.ok] at h
  obtain ⟨h1,_,_,h2,row,cells,h3,_⟩:=h
  unfold World.shape? at h3
  simp only at h3
  split at h3
  · rename_i cs t f hb
    obtain ⟨lo,hi⟩:=f
    exact ⟨_,_,_,_,hb⟩
  · cases h3
end Go.Proofs.YtejgabehfdapjaaGreat.Sym
