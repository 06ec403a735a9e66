/- Told runs serve under other names of the blocks; comparisons that are foretold. Conditions: none. -/
import Derived.Test.YtejgabehfdapjaaGreatDenF
namespace Go.Den
noncomputable section
abbrev OL:=List (Nat × AObj)
def look:OL→Nat→Option AObj
  | [],_=>none
  | (i,o)::L,j=>bif Nat.beq j i then some o else look L j
def putL:OL→PT AObj→PT AObj
  | [],t=>t
  | (i,o)::L,t=>(putL L t).put i (some o)
def ofL (L:OL) (n:Nat):AH:=⟨n,putL L .leaf,[]⟩
theorem putL_get (L:OL) (t:PT AObj) (j:Nat):(putL L t).get j=match look L j with | some o=>some o | none=>t.get j:=by
  induction L with
  | nil=>rfl
  | cons p L ih=>
    obtain ⟨i,o⟩:=p
    simp only [putL,look]
    rw [PT.get_put]
    by_cases e:j=i
    · subst e;rw [if_pos rfl,Nat.beq_refl];rfl
    · rw [if_neg e,beq_false_of_ne e,cond_false];exact ih
theorem ofL_get (L:OL) (n j:Nat):(ofL L n).get j=look L j:=by
  show (putL L .leaf).get j=_
  rw [putL_get,PT.get_leaf]
  cases look L j <;> rfl
theorem look_mem:∀ {L:OL} {j:Nat} {o:AObj},look L j=some o→(j,o) ∈ L
  | [],j,o,h=>by cases h
  | (i,x)::L,j,o,h=>by
    simp only [look] at h
    by_cases e:j=i
    · subst e;rw [Nat.beq_refl,cond_true] at h;cases h;exact List.mem_cons_self ..
    · rw [beq_false_of_ne e,cond_false] at h;exact List.mem_cons_of_mem _ (look_mem h)
theorem look_append (L M:OL) (j:Nat):look (L++M) j=match look L j with | some o=>some o | none=>look M j:=by
  induction L with
  | nil=>rfl
  | cons p L ih=>
    obtain ⟨i,o⟩:=p
    simp only [List.cons_append,look]
    by_cases e:j=i
    · subst e;rw [Nat.beq_refl];rfl
    · rw [beq_false_of_ne e,cond_false,cond_false];exact ih
def ptSub:PT Value→PT Value→Bool
  | .leaf,_=>true
  | .node v l r,.node v' l' r'=>(match v with | none=>true | some x=>match v' with | some y=>vEq 64 x y | none=>false) && ptSub l l' && ptSub r r'
  | .node none l r,.leaf=>ptSub l .leaf && ptSub r .leaf
  | .node (some _) _ _,.leaf=>false
theorem ptSub_get:∀ {t t':PT Value},ptSub t t'=true→∀ i v,t.get i=some v→t'.get i=some v
  | .leaf,_,_,i,v,h=>by rw [PT.get_leaf] at h;cases h
  | .node a l r,.node a' l' r',hs,i,v,h=>by
    simp only [ptSub,Bool.and_eq_true] at hs
    obtain ⟨⟨h1,h2⟩,h3⟩:=hs
    simp only [PT.get] at h ⊢
    cases e1:Nat.beq i 0 with
    | true=>
      rw [e1,cond_true] at h
      subst h
      simp only [cond_true] at h1 ⊢
      cases a' with
      | none=>cases h1
      | some y=>rw [vEq_eq _ _ _ h1]
    | false=>
      rw [e1,cond_false] at h
      rw [cond_false]
      cases e2:Nat.beq (i % 2) 1 with
      | true=>rw [e2,cond_true] at h;rw [cond_true];exact ptSub_get h2 _ _ h
      | false=>rw [e2,cond_false] at h;rw [cond_false];exact ptSub_get h3 _ _ h
  | .node none l r,.leaf,hs,i,v,h=>by
    simp only [ptSub,Bool.and_eq_true] at hs
    simp only [PT.get] at h
    cases e1:Nat.beq i 0 with
    | true=>rw [e1,cond_true] at h;cases h
    | false=>
      rw [e1,cond_false] at h
      cases e2:Nat.beq (i % 2) 1 with
      | true=>rw [e2,cond_true] at h;have:=ptSub_get hs.1 _ _ h;rw [PT.get_leaf] at this;cases this
      | false=>rw [e2,cond_false] at h;have:=ptSub_get hs.2 _ _ h;rw [PT.get_leaf] at this;cases this
  | .node (some _) _ _,.leaf,hs,_,_,_=>by cases hs
def esEq:List (Value × Value)→List (Value × Value)→Bool
  | [],[]=>true
  | (k,v)::l,(k',v')::l'=>vEq 64 k k' && vEq 64 v v' && esEq l l'
  | _,_=>false
theorem esEq_eq:∀ {l m:List (Value × Value)},esEq l m=true→l=m
  | [],[],_=>rfl
  | (k,v)::l,(k',v')::m,h=>by
    simp only [esEq,Bool.and_eq_true] at h
    rw [vEq_eq _ _ _ h.1.1,vEq_eq _ _ _ h.1.2,esEq_eq h.2]
  | [],_::_,h=>by cases h
  | _::_,[],h=>by cases h
def obSub:AObj→Option AObj→Bool
  | .cells c n t,some (.cells c' n' t')=>Nat.beq n n' && Nat.beq t t' && ptSub c c'
  | .ro c,some (.ro c')=>ptSub c c'
  | .glob g c,some (.glob g' c')=>Nat.beq g g' && ptSub c c'
  | .map es bs cl,some (.map es' bs' cl')=>esEq es es' && decide (bs=bs') && Nat.beq cl cl'
  | _,_=>false
theorem obSub_OR {φ:Phi} {s T:Nat} {o:AObj} {x:Option AObj} {co:Option Obj} (h:obSub o x=true) (ho:OR φ s T x co):OR φ s T (some o) co:=by
  unfold obSub at h
  split at h
  · rename_i c n t c' n' t'
    simp only [Bool.and_eq_true] at h
    have e:=nat_beq h.1.1
    have e2:=nat_beq h.1.2
    subst e;subst e2
    obtain ⟨⟨a,e,lo,hi,h1,h2,h3,h4⟩,ht⟩:=ho
    exact ⟨⟨a,e,lo,hi,h1,h2,h3,fun i v hv=>h4 i v (ptSub_get h.2 i v hv)⟩,ht⟩
  · obtain ⟨a,e,lo,hi,h1,h4⟩:=ho
    exact ⟨a,e,lo,hi,h1,fun i v hv=>h4 i v (ptSub_get h i v hv)⟩
  · simp only [Bool.and_eq_true] at h
    obtain ⟨a,e,lo,hi,h1,h4⟩:=ho
    exact ⟨a,e,lo,hi,h1,fun i v hv=>h4 i v (ptSub_get h.2 i v hv)⟩
  · simp only [Bool.and_eq_true,decide_eq_true_eq] at h
    rw [esEq_eq h.1.1,h.1.2,nat_beq h.2];exact ho
  · cases h
theorem obSub_glob {g:Nat} {c:PT Value} {x:Option AObj} (h:obSub (.glob g c) x=true):∃ c',x=some (.glob g c'):=by
  cases x with
  | none=>cases h
  | some x=>cases x with
    | glob g' c'=>
      have h:(Nat.beq g g' && ptSub c c')=true:=h
      simp only [Bool.and_eq_true] at h
      rw [nat_beq h.1];exact ⟨_,rfl⟩
    | _=>cases h
theorem obSub_some {o:AObj} {x:Option AObj} (h:obSub o x=true):x≠none:=by
  unfold obSub at h
  split at h <;> first | cases h;done | simp
theorem obSub_wr {o:AObj} {x:Option AObj} (h:obSub o x=true) (hw:wrB (some o)=true):wrB x=true:=by
  unfold obSub at h
  split at h <;> first | cases h;done | rfl | cases hw
def subL (L':OL) (h:AH):OL→Bool
  | []=>true
  | (i,o)::L=>(match look L' i with | some _=>true | none=>obSub o (h.get i)) && subL L' h L
def allSub (h:AH):OL→Bool
  | []=>true
  | (i,o)::L=>obSub o (h.get i) && allSub h L
theorem allSub_mem {h:AH}:∀ {L:OL},allSub h L=true→∀ p ∈ L,obSub p.2 (h.get p.1)=true
  | [],_,p,hp=>by cases hp
  | (i,o)::L,hl,p,hp=>by
    simp only [allSub,Bool.and_eq_true] at hl
    rcases List.mem_cons.1 hp with rfl | hp
    · exact hl.1
    · exact allSub_mem hl.2 p hp
theorem subL_mem {h:AH} {L':OL}:∀ {L:OL},subL L' h L=true→∀ p ∈ L,look L' p.1=none→obSub p.2 (h.get p.1)=true
  | [],_,p,hp,_=>by cases hp
  | (i,o)::L,hl,p,hp,hn=>by
    simp only [subL,Bool.and_eq_true] at hl
    rcases List.mem_cons.1 hp with rfl | hp
    · have h1:=hl.1
      rw [hn] at h1;exact h1
    · exact subL_mem hl.2 p hp hn
def turned (L:OL) (n:Nat):OL→Bool
  | []=>true
  | (i,o)::L'=>(Nat.ble n i || !obSub o (look L i)) && turned L n L'
theorem turned_mem {L:OL} {n:Nat}:∀ {L':OL},turned L n L'=true→∀ p ∈ L',p.1 < n→obSub p.2 (look L p.1)=false
  | [],_,p,hp,_=>by cases hp
  | (i,o)::L',hl,p,hp,hn=>by
    simp only [turned,Bool.and_eq_true,Bool.or_eq_true,Bool.not_eq_true'] at hl
    rcases List.mem_cons.1 hp with rfl | hp
    · rcases hl.1 with h | h
      · have:=Nat.le_of_ble_eq_true h;exact absurd hn (Nat.not_lt.2 this)
      · exact h
    · exact turned_mem hl.2 p hp hn
def chkRun (r:Option (Value × AH)) (L:OL) (n:Nat) (v:Value) (L':OL) (n':Nat):Bool:=
  match r with
  | some (u,h)=>vEq 64 v u && Nat.beq h.next n' && allSub h L' && subL L' h L && turned L n L'
  | none=>false
def Run (P:Program) (g:FuncId) (args:List Value) (L:OL) (n:Nat) (v:Value) (L':OL) (n':Nat):Prop:=
  ∀ φ w args',VRs φ args args'→Rel φ (ofL L n) w→Goes P g ⟨args'⟩ w fun v' w'=>Aft φ (ofL L n) w v (ofL (L'++L) n') v' w'∧∀ i,i < n→look L' i≠none→φ i≠none
section
variable {P:Program} {E:Env} {φ φ':Phi} {w w':World} {h h':AH} {v:Value}
theorem Aft.weaken {hs:AH} {h₂:AH} (hn:h₂.next=h'.next) (hg:∀ i o,h₂.get i=some o→obSub o (h'.get i)=true) {v':Value}
    (hu:∀ i,i < hs.next→φ i=none→h'.get i=hs.get i→h₂.get i=hs.get i) (ha:Aft φ hs w v h' v' w'):Aft φ hs w v h₂ v' w':=by
  obtain ⟨φ',h1,h2,h3⟩:=ha
  have live:∀ i,h₂.get i≠none→h'.get i≠none:=by
    intro i hi
    cases e:h₂.get i with
    | none=>exact absurd e hi
    | some o=>exact obSub_some (hg i o e)
  have lwr:∀ i,wrB (h₂.get i)=true→wrB (h'.get i)=true:=by
    intro i hi
    cases e:h₂.get i with
    | none=>rw [e] at hi;cases hi
    | some o=>rw [e] at hi;exact obSub_wr (hg i o e) hi
  refine ⟨φ',h1,⟨fun b b' s T hb=>?_,fun b₁ b₂ b' s₁ s₂ g1 g2 g3 g4=>h2.inj _ _ _ _ _ g1 g2 (live _ g3) (live _ g4),fun b b' s hb=>by rw [hn];exact h2.bnd _ _ _ hb,fun b hb=>?_,fun b g c hb=>by obtain ⟨c',hc'⟩:=obSub_glob (hg b _ hb);exact h2.gl b g c' hc'⟩,⟨by rw [hn];exact h3.nx,h3.ext,fun b hb hφ=>⟨(h3.unm b hb hφ).1,hu b hb hφ (h3.unm b hb hφ).2⟩,h3.fresh,fun b hb hl=>h3.liv b hb (live b hl),fun b hb hl=>h3.lw b hb (lwr b hl),h3.sz,h3.os,h3.out,h3.keep⟩⟩
  · cases e:h₂.get b with
    | none=>trivial
    | some o=>exact obSub_OR (hg b o e) (h2.blk _ _ _ _ hb)
  · cases e:h₂.get b with
    | none=>rfl
    | some o=>exact absurd (h2.lim b (by rw [← hn];exact hb)) (live b (by rw [e];simp))
theorem Goes.mono {g:FuncId} {args:Array Value} {R R':Post} (hg:Goes P g args w R) (hR:∀ v w',R v w'→R' v w'):Goes P g args w R':=by
  intro kind cs hk
  obtain ⟨fr,v,w',h1,h2⟩:=hg kind cs hk
  exact ⟨fr,v,w',hR _ _ h1,h2⟩
theorem run_of_goes {g:FuncId} {args:List Value} {L L':OL} {n n':Nat} {u:Value} {h₁:AH} (hg:∀ φ w args',VRs φ args args'→Rel φ (ofL L n) w→Goes P g ⟨args'⟩ w (Aft φ (ofL L n) w u h₁))
    (hl:chkRun (some (u,h₁)) L n v L' n'=true):Run P g args L n v L' n':=by
  unfold chkRun at hl
  simp only [Bool.and_eq_true] at hl
  obtain ⟨⟨⟨⟨e1,e2⟩,e3⟩,e4⟩,e5⟩:=hl
  rw [vEq_eq _ _ _ e1]
  intro φ w args' ha r
  refine (hg φ w args' ha r).mono fun v' w' hA=>?_
  have hmap:∀ i,i < n→look L' i≠none→φ i≠none:=by
    intro i hi hne hφ
    obtain ⟨φ',h1,h2,h3⟩:=hA
    have hu:=(h3.unm i hi hφ).2
    rw [ofL_get] at hu
    cases e:look L' i with
    | none=>exact hne e
    | some o=>
      have k1:=allSub_mem e3 _ (look_mem e)
      have k2:=turned_mem e5 _ (look_mem e) hi
      simp only at k1 k2
      rw [hu,k2] at k1;cases k1
  refine ⟨hA.weaken (nat_beq e2).symm (fun i o hi=>?_) fun i hi hφ hu=>?_,hmap⟩
  · rw [ofL_get,look_append] at hi
    cases e:look L' i with
    | some x=>rw [e] at hi;cases hi;exact allSub_mem e3 _ (look_mem e)
    | none=>rw [e] at hi;exact subL_mem e4 _ (look_mem hi) e
  · rw [ofL_get,look_append,ofL_get]
    cases e:look L' i with
    | none=>rfl
    | some x=>exact absurd hφ (hmap i hi (by rw [e];simp))
theorem run_of_den (ok:EnvOK P E) {S:Oracle} (hS:Sound P S) {N d:Nat} {g:FuncId} {args:List Value} {L L':OL} {n n':Nat}
    (hl:chkRun (denF E (den E S N d) (xdraw E (den E S N d)) N g args (ofL L n)) L n v L' n'=true):Run P g args L n v L' n':=by
  cases hx:denF E (den E S N d) (xdraw E (den E S N d)) N g args (ofL L n) with
  | none=>rw [hx] at hl;cases hl
  | some p=>
    obtain ⟨u,h₁⟩:=p
    rw [hx] at hl
    exact run_of_goes (fun φ w args' ha r=>den_goes ok hS hx ha r) hl
end
end
end Go.Den
namespace Go.Den
noncomputable section
section
variable {φ φ₀ φ₁ φ':Phi} {f:Nat→Nat}
def rnB (f:Nat→Nat):Nat→Value→Value→Bool
  | 0,_,_=>false
  | n+1,a,b=>match a,b with
    | .bool x,.bool y=>x == y
    | .int k x,.int j y=>decide (k=j) && decide (x=y)
    | .string x,.string y=>decide (x=y)
    | .pointer none,.pointer none=>true
    | .pointer (some ⟨b,o,none⟩),.pointer (some ⟨b',o',none⟩)=>Nat.beq (f b) b' && Nat.beq o o'
    | .slice none 0 0,.slice none 0 0=>true
    | .slice (some ⟨b,o,none⟩) n c,.slice (some ⟨b',o',none⟩) n' c'=>Nat.beq (f b) b' && Nat.beq o o' && Nat.beq n n' && Nat.beq c c'
    | .map none,.map none=>true
    | .map (some x),.map (some y)=>Nat.beq (f x) y
    | .nilFunc,.nilFunc=>true
    | .func (.func g) ⟨a⟩ ⟨c⟩,.func (.func g') ⟨a'⟩ ⟨c'⟩=>Nat.beq g g' && lEq (rnB f n) a a' && lEq (rnB f n) c c'
    | .nilIface,.nilIface=>true
    | .iface t v,.iface t' v'=>Nat.beq t t' && rnB f n v v'
    | .agg ⟨l⟩,.agg ⟨l'⟩=>lEq (rnB f n) l l'
    | .tuple ⟨l⟩,.tuple ⟨l'⟩=>lEq (rnB f n) l l'
    | .chan none,.chan none=>true
    | .chan (some x),.chan (some y)=>Nat.beq x y
    | _,_=>false
theorem lEq_back {g:Value→Value→Bool} (hg:∀ a b v',g a b=true→VR φ b v'→VR φ₀ a v'):∀ {l m l':List Value},lEq g l m=true→VRs φ m l'→VRs φ₀ l l'
  | [],[],_,_,h=>by cases h;exact .nil
  | a::l,b::m,_,e,h=>by
    simp only [lEq,Bool.and_eq_true] at e
    cases h with
    | cons _ v' _ l' h hl=>exact .cons _ _ _ _ (hg _ _ _ e.1 h) (lEq_back hg e.2 hl)
  | [],_::_,_,e,_=>by cases e
  | _::_,[],_,e,_=>by cases e
theorem lEq_fore {g:Value→Value→Bool} (hg:∀ a b v',g a b=true→VR φ₁ a v'→VR φ' b v'):∀ {l m l':List Value},lEq g l m=true→VRs φ₁ l l'→VRs φ' m l'
  | [],[],_,_,h=>by cases h;exact .nil
  | a::l,b::m,_,e,h=>by
    simp only [lEq,Bool.and_eq_true] at e
    cases h with
    | cons _ v' _ l' h hl=>exact .cons _ _ _ _ (hg _ _ _ e.1 h) (lEq_fore hg e.2 hl)
  | [],_::_,_,e,_=>by cases e
  | _::_,[],_,e,_=>by cases e
theorem lEq_nil {g:Value→Value→Bool} {l:List Value} (h:lEq g l []=true):l=[]:=by cases l with | nil=>rfl | cons=>cases h
theorem lEq_nil' {g:Value→Value→Bool} {l:List Value} (h:lEq g [] l=true):l=[]:=by cases l with | nil=>rfl | cons=>cases h
theorem rnB_back (hf:∀ i x,φ (f i)=some x→φ₀ i=some x):∀ (n:Nat) (a b v':Value),rnB f n a b=true→VR φ b v'→VR φ₀ a v'
  | 0,_,_,_,h,_=>by cases h
  | n+1,a,b,v',h,hv=>by
    have ih:=rnB_back hf n
    unfold rnB at h
    split at h
    · cases hv;rw [eq_of_beq h];exact .bool _
    · simp only [Bool.and_eq_true,decide_eq_true_eq] at h;obtain ⟨rfl,rfl⟩:=h;cases hv;exact .int _ _
    · simp only [decide_eq_true_eq] at h;subst h;cases hv;exact .string _
    · cases hv;exact .ptrNil
    · simp only [Bool.and_eq_true] at h
      have e1:=nat_beq h.1;have e2:=nat_beq h.2
      subst e1;subst e2
      cases hv with
      | ptr _ _ b' s T hb=>exact .ptr _ _ b' s T (hf _ _ hb)
    · cases hv;exact .sliceNil
    · simp only [Bool.and_eq_true] at h
      obtain ⟨⟨⟨h1,h2⟩,h3⟩,h4⟩:=h
      have e1:=nat_beq h1;have e2:=nat_beq h2;have e3:=nat_beq h3;have e4:=nat_beq h4
      subst e1;subst e2;subst e3;subst e4
      cases hv with
      | slice _ _ b' s T _ _ c' hb hn hc=>exact .slice _ _ b' s T _ _ c' (hf _ _ hb) hn hc
      | empty _ y _ z hx hc=>exact .empty _ y _ z (hf _ _ hx) hc
    · cases hv;exact .mapNil
    · have e:=nat_beq h
      subst e
      cases hv with
      | map _ r' T hb=>exact .map _ r' T (hf _ _ hb)
    · cases hv;exact .nilFunc
    · simp only [Bool.and_eq_true] at h
      obtain ⟨⟨h1,h2⟩,h3⟩:=h
      have e:=nat_beq h1
      subst e
      cases hv with
      | func _ hy _ a' _ c' ha hc=>exact .func _ hy _ _ _ _ (lEq_back ih h2 ha) (lEq_back ih h3 hc)
    · cases hv;exact .nilIface
    · simp only [Bool.and_eq_true] at h
      have e:=nat_beq h.1
      subst e
      cases hv with
      | iface _ _ v' hv=>exact .iface _ _ _ (ih _ _ _ h.2 hv)
    · cases hv with
      | agg _ l' hl=>exact .agg _ _ (lEq_back ih h hl)
    · cases hv with
      | junk=>rw [lEq_nil h];exact .junk _
      | tuple _ l' hl=>exact .tuple _ _ (lEq_back ih h hl)
    · cases hv;exact .und
    · cases hv with | any r v h2=>exact .any _ _ h2
    · cases h
theorem rnB_fore (hf:∀ i x,φ₁ i=some x→φ' (f i)=some x):∀ (n:Nat) (a b v':Value),rnB f n a b=true→VR φ₁ a v'→VR φ' b v'
  | 0,_,_,_,h,_=>by cases h
  | n+1,a,b,v',h,hv=>by
    have ih:=rnB_fore hf n
    unfold rnB at h
    split at h
    · cases hv;rw [eq_of_beq h];exact .bool _
    · simp only [Bool.and_eq_true,decide_eq_true_eq] at h;obtain ⟨rfl,rfl⟩:=h;cases hv;exact .int _ _
    · simp only [decide_eq_true_eq] at h;subst h;cases hv;exact .string _
    · cases hv;exact .ptrNil
    · simp only [Bool.and_eq_true] at h
      have e1:=nat_beq h.1;have e2:=nat_beq h.2
      subst e1;subst e2
      cases hv with
      | ptr _ _ b' s T hb=>exact .ptr _ _ b' s T (hf _ _ hb)
    · cases hv;exact .sliceNil
    · simp only [Bool.and_eq_true] at h
      obtain ⟨⟨⟨h1,h2⟩,h3⟩,h4⟩:=h
      have e1:=nat_beq h1;have e2:=nat_beq h2;have e3:=nat_beq h3;have e4:=nat_beq h4
      subst e1;subst e2;subst e3;subst e4
      cases hv with
      | slice _ _ b' s T _ _ c' hb hn hc=>exact .slice _ _ b' s T _ _ c' (hf _ _ hb) hn hc
      | empty _ y _ z hx hc=>exact .empty _ y _ z (hf _ _ hx) hc
    · cases hv;exact .mapNil
    · have e:=nat_beq h
      subst e
      cases hv with
      | map _ r' T hb=>exact .map _ r' T (hf _ _ hb)
    · cases hv;exact .nilFunc
    · simp only [Bool.and_eq_true] at h
      obtain ⟨⟨h1,h2⟩,h3⟩:=h
      have e:=nat_beq h1
      subst e
      cases hv with
      | func _ hy _ a' _ c' ha hc=>exact .func _ hy _ _ _ _ (lEq_fore ih h2 ha) (lEq_fore ih h3 hc)
    · cases hv;exact .nilIface
    · simp only [Bool.and_eq_true] at h
      have e:=nat_beq h.1
      subst e
      cases hv with
      | iface _ _ v' hv=>exact .iface _ _ _ (ih _ _ _ h.2 hv)
    · cases hv with
      | agg _ l' hl=>exact .agg _ _ (lEq_fore ih h hl)
    · cases hv with
      | junk=>rw [lEq_nil' h];exact .junk _
      | tuple _ l' hl=>exact .tuple _ _ (lEq_fore ih h hl)
    · cases hv;exact .und
    · cases hv with | any r v h2=>exact .any _ _ h2
    · cases h
theorem rnB_oneC:∀ {n:Nat} {a b:Value},rnB f n a b=true→oneC a=oneC b
  | 0,_,_,h=>by cases h
  | n+1,a,b,h=>by
    unfold rnB at h
    split at h <;> first | rfl | cases h
def rnV (f:Nat→Nat):Nat→Value→Value
  | 0,_=>.tuple #[]
  | n+1,v=>match v with
    | .pointer (some ⟨b,o,p⟩)=>.pointer (some ⟨f b,o,p⟩)
    | .slice (some ⟨b,o,p⟩) m c=>.slice (some ⟨f b,o,p⟩) m c
    | .map (some r)=>.map (some (f r))
    | .func (.yield l) _ _=>.func (.yield (f l)) #[] #[]
    | .func g ⟨a⟩ ⟨c⟩=>.func g ⟨a.map (rnV f n)⟩ ⟨c.map (rnV f n)⟩
    | .iface t v=>.iface t (rnV f n v)
    | .agg ⟨l⟩=>.agg ⟨l.map (rnV f n)⟩
    | .tuple ⟨l⟩=>.tuple ⟨l.map (rnV f n)⟩
    | v=>v
theorem VRs.map_fore {g:Value→Value} (hg:∀ v v',VR φ₁ v v'→VR φ' (g v) v'):∀ {l l':List Value},VRs φ₁ l l'→VRs φ' (l.map g) l'
  | _,_,.nil=>.nil
  | _,_,.cons _ _ _ _ h hl=>.cons _ _ _ _ (hg _ _ h) (VRs.map_fore hg hl)
theorem rnV_VR (hf:∀ i x,φ₁ i=some x→φ' (f i)=some x):∀ (n:Nat) (v v':Value),VR φ₁ v v'→VR φ' (rnV f n v) v'
  | 0,_,_,_=>.junk _
  | n+1,v,v',hv=>by
    have ih:=rnV_VR hf n
    cases hv with
    | junk=>exact .junk _
    | und=>exact .und
    | bool=>exact .bool _
    | int=>exact .int _ _
    | string=>exact .string _
    | ptrNil=>exact .ptrNil
    | ptr _ _ b' s T hb=>exact .ptr _ _ b' s T (hf _ _ hb)
    | sliceNil=>exact .sliceNil
    | slice _ _ b' s T _ _ c' hb hn hc=>exact .slice _ _ b' s T _ _ c' (hf _ _ hb) hn hc
    | empty x y c z hx hc=>
      obtain ⟨b,o,p⟩:=x
      exact .empty ⟨f b,o,p⟩ y _ z (hf _ _ hx) hc
    | mapNil=>exact .mapNil
    | map _ r' T hb=>exact .map _ r' T (hf _ _ hb)
    | nilFunc=>exact .nilFunc
    | func g hy a a' c c' ha hc=>
      have e:rnV f (n+1) (.func g ⟨a⟩ ⟨c⟩)=.func g ⟨a.map (rnV f n)⟩ ⟨c.map (rnV f n)⟩:=by
        cases g <;> first | rfl | exact absurd rfl (hy _)
      rw [e];exact .func g hy _ _ _ _ (ha.map_fore ih) (hc.map_fore ih)
    | yield l l' T hb=>exact .yield _ l' T (hf _ _ hb)
    | nilIface=>exact .nilIface
    | iface t v v' hv=>exact .iface _ _ _ (ih _ _ hv)
    | agg l l' hl=>exact .agg _ _ (hl.map_fore ih)
    | tuple l l' hl=>exact .tuple _ _ (hl.map_fore ih)
    | any r v h=>exact .any _ _ h
theorem rnV_oneC {n:Nat} {v v':Value} (hv:VR φ₁ v v'):oneC v=true→oneC (rnV f (n+1) v)=true:=by
  intro h
  cases hv <;> first | rfl | cases h | skip
  rename_i g hy a a' c c' ha hc
  cases g <;> rfl
def ptB (f:Nat→Nat):PT Value→PT Value→Bool
  | .leaf,.leaf=>true
  | .node v l r,.node v' l' r'=>(match v with | none=>(match v' with | none=>true | some _=>false) | some x=>(match v' with | none=>false | some y=>rnB f 64 x y)) && ptB f l l' && ptB f r r'
  | _,_=>false
theorem ptB_get:∀ {t t':PT Value},ptB f t t'=true→∀ i,(t.get i=none∧t'.get i=none)∨∃ x y,t.get i=some x∧t'.get i=some y∧rnB f 64 x y=true
  | .leaf,.leaf,_,i=>.inl ⟨PT.get_leaf i,PT.get_leaf i⟩
  | .node v l r,.node v' l' r',h,i=>by
    simp only [ptB,Bool.and_eq_true] at h
    obtain ⟨⟨h1,h2⟩,h3⟩:=h
    simp only [PT.get]
    cases Nat.beq i 0 with
    | true=>
      simp only [cond_true]
      cases v with
      | none=>cases v' with
        | none=>exact .inl ⟨rfl,rfl⟩
        | some y=>cases h1
      | some x=>cases v' with
        | none=>cases h1
        | some y=>exact .inr ⟨x,y,rfl,rfl,h1⟩
    | false=>
      simp only [cond_false]
      cases Nat.beq (i % 2) 1 with
      | true=>exact ptB_get h2 _
      | false=>exact ptB_get h3 _
  | .leaf,.node _ _ _,h,_=>by cases h
  | .node _ _ _,.leaf,h,_=>by cases h
def ptV (f:Nat→Nat):PT Value→PT Value
  | .leaf=>.leaf
  | .node v l r=>.node (match v with | none=>none | some x=>some (rnV f 64 x)) (ptV f l) (ptV f r)
theorem ptV_get:∀ (t:PT Value) (i:Nat),(ptV f t).get i=(t.get i).map (rnV f 64)
  | .leaf,i=>by rw [show ptV f .leaf=.leaf from rfl,PT.get_leaf];rfl
  | .node v l r,i=>by
    simp only [ptV,PT.get]
    cases Nat.beq i 0 with
    | true=>cases v <;> rfl
    | false=>
      simp only [cond_false]
      cases Nat.beq (i % 2) 1 with
      | true=>exact ptV_get l _
      | false=>exact ptV_get r _
def esB (f:Nat→Nat):List (Value × Value)→List (Value × Value)→Bool
  | [],[]=>true
  | (k,v)::l,(k',v')::l'=>rnB f 64 k k' && rnB f 64 v v' && esB f l l'
  | _,_=>false
theorem esB_fore (hf:∀ i x,φ₁ i=some x→φ' (f i)=some x):∀ {l m:List (Value × Value)} {es:List MapEntry},esB f l m=true→EsR φ₁ l es→EsR φ' m es
  | [],[],[],_,_=>trivial
  | [],[],_::_,_,h=>h.elim
  | (k,v)::l,(k',v')::m,[],_,h=>h.elim
  | (k,v)::l,(k',v')::m,x::es,e,h=>by
    simp only [esB,Bool.and_eq_true] at e
    exact ⟨rnB_fore hf _ _ _ _ e.1.1 h.1,rnB_fore hf _ _ _ _ e.1.2 h.2.1,esB_fore hf e.2 h.2.2⟩
  | [],_::_,_,e,_=>by cases e
  | _::_,[],_,e,_=>by cases e
theorem esB_back (hf:∀ i x,φ (f i)=some x→φ₀ i=some x):∀ {l m:List (Value × Value)} {es:List MapEntry},esB f l m=true→EsR φ m es→EsR φ₀ l es
  | [],[],[],_,_=>trivial
  | [],[],_::_,_,h=>h.elim
  | (k,v)::l,(k',v')::m,[],_,h=>h.elim
  | (k,v)::l,(k',v')::m,x::es,e,h=>by
    simp only [esB,Bool.and_eq_true] at e
    exact ⟨rnB_back hf _ _ _ _ e.1.1 h.1,rnB_back hf _ _ _ _ e.1.2 h.2.1,esB_back hf e.2 h.2.2⟩
  | [],_::_,_,e,_=>by cases e
  | _::_,[],_,e,_=>by cases e
def esV (f:Nat→Nat):List (Value × Value)→List (Value × Value)
  | []=>[]
  | (k,v)::l=>(rnV f 64 k,rnV f 64 v)::esV f l
theorem esV_fore (hf:∀ i x,φ₁ i=some x→φ' (f i)=some x):∀ {l:List (Value × Value)} {es:List MapEntry},EsR φ₁ l es→EsR φ' (esV f l) es
  | [],[],_=>trivial
  | [],_::_,h=>h.elim
  | _::_,[],h=>h.elim
  | _::_,_::_,h=>⟨rnV_VR hf _ _ _ h.1,rnV_VR hf _ _ _ h.2.1,esV_fore hf h.2.2⟩
def obB (f:Nat→Nat):AObj→Option AObj→Bool
  | .cells c n t,some (.cells c' n' t')=>Nat.beq n n' && Nat.beq t t' && ptB f c c'
  | .ro c,some (.ro c')=>ptB f c c'
  | .glob g c,some (.glob g' c')=>Nat.beq g g' && ptB f c c'
  | .map es bs cl,some (.map es' bs' cl')=>esB f es es' && decide (bs=bs') && Nat.beq cl cl'
  | _,_=>false
def obV (f:Nat→Nat):AObj→AObj
  | .cells c n t=>.cells (ptV f c) n t
  | .ro c=>.ro (ptV f c)
  | .map es bs cl=>.map (esV f es) bs cl
  | o=>o
def noLoop:AObj→Bool
  | .loop ..=>false
  | .iter ..=>false
  | .glob ..=>false
  | _=>true
theorem obB_wr {f:Nat→Nat} {o:AObj} {x:Option AObj} (h:obB f o x=true) (hw:wrB (some o)=true):wrB x=true:=by
  unfold obB at h
  split at h <;> first | cases h;done | rfl | cases hw
theorem obV_wr {f:Nat→Nat} {o:AObj} (h:wrB (some (obV f o))=true):wrB (some o)=true:=by
  cases o <;> first | rfl | exact h
theorem obB_glob {f:Nat→Nat} {g:Nat} {c:PT Value} {x:Option AObj} (h:obB f (.glob g c) x=true):∃ c',x=some (.glob g c'):=by
  cases x with
  | none=>cases h
  | some x=>cases x with
    | glob g' c'=>
      have h:(Nat.beq g g' && ptB f c c')=true:=h
      simp only [Bool.and_eq_true] at h
      rw [nat_beq h.1];exact ⟨_,rfl⟩
    | _=>cases h
theorem obB_some {o:AObj} {x:Option AObj} (h:obB f o x=true):x≠none:=by
  unfold obB at h
  split at h <;> first | cases h;done | simp
theorem obB_fore (hf:∀ i x,φ₁ i=some x→φ' (f i)=some x) {s T:Nat} {o:AObj} {x:Option AObj} {co:Option Obj} (h:obB f o x=true) (ho:OR φ₁ s T (some o) co):OR φ' s T x co:=by
  unfold obB at h
  split at h
  · rename_i c n t c' n' t'
    simp only [Bool.and_eq_true] at h
    have e:=nat_beq h.1.1
    have e2:=nat_beq h.1.2
    subst e;subst e2
    obtain ⟨⟨a,e,lo,hi,h1,h2,h3,h4⟩,ht⟩:=ho
    refine ⟨⟨a,e,lo,hi,h1,h2,h3,fun i v hv=>?_⟩,ht⟩
    rcases ptB_get h.2 i with ⟨_,g⟩ | ⟨x,y,g1,g2,g3⟩
    · rw [hv] at g;cases g
    · rw [hv] at g2;cases g2
      obtain ⟨k1,k2,v',k3,k4⟩:=h4 i x g1
      exact ⟨k1,by rw [← rnB_oneC g3];exact k2,v',k3,rnB_fore hf _ _ _ _ g3 k4⟩
  · obtain ⟨a,e,lo,hi,h1,h4⟩:=ho
    refine ⟨a,e,lo,hi,h1,fun i v hv=>?_⟩
    rcases ptB_get h i with ⟨_,g⟩ | ⟨x,y,g1,g2,g3⟩
    · rw [hv] at g;cases g
    · rw [hv] at g2;cases g2
      obtain ⟨k2,k1,v',k3,k4⟩:=h4 i x g1
      exact ⟨by rw [← rnB_oneC g3];exact k2,k1,v',k3,rnB_fore hf _ _ _ _ g3 k4⟩
  · simp only [Bool.and_eq_true] at h
    obtain ⟨a,e,lo,hi,h1,h4⟩:=ho
    refine ⟨a,e,lo,hi,h1,fun i v hv=>?_⟩
    rcases ptB_get h.2 i with ⟨_,g⟩ | ⟨x,y,g1,g2,g3⟩
    · rw [hv] at g;cases g
    · rw [hv] at g2;cases g2
      obtain ⟨k2,k1,v',k3,k4⟩:=h4 i x g1
      exact ⟨by rw [← rnB_oneC g3];exact k2,k1,v',k3,rnB_fore hf _ _ _ _ g3 k4⟩
  · simp only [Bool.and_eq_true,decide_eq_true_eq] at h
    cases co with
    | none=>exact ho.elim
    | some co=>cases co with
      | map=>exact ⟨ho.1,esB_fore hf h.1.1 ho.2.1,by rw [← h.1.2];exact ho.2.2.1,by rw [← nat_beq h.2];exact ho.2.2.2⟩
      | _=>exact ho.elim
  · cases h
theorem obB_back (hf:∀ i x,φ (f i)=some x→φ₀ i=some x) {s T:Nat} {o:AObj} {x:Option AObj} {co:Option Obj} (h:obB f o x=true) (ho:OR φ s T x co):OR φ₀ s T (some o) co:=by
  unfold obB at h
  split at h
  · rename_i c n t c' n' t'
    simp only [Bool.and_eq_true] at h
    have e:=nat_beq h.1.1
    have e2:=nat_beq h.1.2
    subst e;subst e2
    obtain ⟨⟨a,e,lo,hi,h1,h2,h3,h4⟩,ht⟩:=ho
    refine ⟨⟨a,e,lo,hi,h1,h2,h3,fun i v hv=>?_⟩,ht⟩
    rcases ptB_get h.2 i with ⟨g,_⟩ | ⟨x,y,g1,g2,g3⟩
    · rw [hv] at g;cases g
    · rw [hv] at g1;cases g1
      obtain ⟨k1,k2,v',k3,k4⟩:=h4 i y g2
      exact ⟨k1,by rw [rnB_oneC g3];exact k2,v',k3,rnB_back hf _ _ _ _ g3 k4⟩
  · obtain ⟨a,e,lo,hi,h1,h4⟩:=ho
    refine ⟨a,e,lo,hi,h1,fun i v hv=>?_⟩
    rcases ptB_get h i with ⟨g,_⟩ | ⟨x,y,g1,g2,g3⟩
    · rw [hv] at g;cases g
    · rw [hv] at g1;cases g1
      obtain ⟨k2,k1,v',k3,k4⟩:=h4 i y g2
      exact ⟨by rw [rnB_oneC g3];exact k2,k1,v',k3,rnB_back hf _ _ _ _ g3 k4⟩
  · simp only [Bool.and_eq_true] at h
    obtain ⟨a,e,lo,hi,h1,h4⟩:=ho
    refine ⟨a,e,lo,hi,h1,fun i v hv=>?_⟩
    rcases ptB_get h.2 i with ⟨g,_⟩ | ⟨x,y,g1,g2,g3⟩
    · rw [hv] at g;cases g
    · rw [hv] at g1;cases g1
      obtain ⟨k2,k1,v',k3,k4⟩:=h4 i y g2
      exact ⟨by rw [rnB_oneC g3];exact k2,k1,v',k3,rnB_back hf _ _ _ _ g3 k4⟩
  · simp only [Bool.and_eq_true,decide_eq_true_eq] at h
    cases co with
    | none=>exact ho.elim
    | some co=>cases co with
      | map=>exact ⟨ho.1,esB_back hf h.1.1 ho.2.1,by rw [h.1.2];exact ho.2.2.1,by rw [nat_beq h.2];exact ho.2.2.2⟩
      | _=>exact ho.elim
  · cases h
theorem obV_fore (hf:∀ i x,φ₁ i=some x→φ' (f i)=some x) {s T:Nat} {o:AObj} {co:Option Obj} (h:noLoop o=true) (ho:OR φ₁ s T (some o) co):OR φ' s T (some (obV f o)) co:=by
  cases o with
  | cells c n t=>
    obtain ⟨⟨a,e,lo,hi,h1,h2,h3,h4⟩,ht⟩:=ho
    refine ⟨⟨a,e,lo,hi,h1,h2,h3,fun i v hv=>?_⟩,ht⟩
    rw [ptV_get] at hv
    cases g:c.get i with
    | none=>rw [g] at hv;cases hv
    | some x=>
      rw [g] at hv;cases hv
      obtain ⟨k1,k2,v',k3,k4⟩:=h4 i x g
      exact ⟨k1,rnV_oneC k4 k2,v',k3,rnV_VR hf _ _ _ k4⟩
  | ro c=>
    obtain ⟨a,e,lo,hi,h1,h4⟩:=ho
    refine ⟨a,e,lo,hi,h1,fun i v hv=>?_⟩
    rw [ptV_get] at hv
    cases g:c.get i with
    | none=>rw [g] at hv;cases hv
    | some x=>
      rw [g] at hv;cases hv
      obtain ⟨k2,k1,v',k3,k4⟩:=h4 i x g
      exact ⟨rnV_oneC k4 k2,k1,v',k3,rnV_VR hf _ _ _ k4⟩
  | map es bs cl=>
    cases co with
    | none=>exact ho.elim
    | some co=>cases co with
      | map=>exact ⟨ho.1,esV_fore hf ho.2.1,ho.2.2⟩
      | _=>exact ho.elim
  | loop=>cases h
  | iter=>cases h
  | glob=>cases h
end
end
end Go.Den
namespace Go.Den
noncomputable section
def rnf (l:List Nat) (n nx i:Nat):Nat:=bif Nat.ble (i+1) n then l.getD i 0 else nx+(i - n)
def lookF (f:Nat→Nat):OL→Nat→Option (Nat × AObj)
  | [],_=>none
  | (i,o)::L,b=>bif Nat.beq b (f i) then some (i,o) else lookF f L b
def putF (f:Nat→Nat):OL→PT AObj→PT AObj
  | [],t=>t
  | (i,o)::L,t=>(putF f L t).put (f i) (some (obV f o))
def chkL (f:Nat→Nat) (h:AH) (n:Nat):OL→Bool
  | []=>true
  | (i,o)::L=>Nat.ble (i+1) n && obB f o (h.get (f i)) && chkL f h n L
def outL (f:Nat→Nat) (i:Nat):OL→Bool
  | []=>true
  | (j,_)::L=>(Nat.beq i j || !Nat.beq (f i) (f j)) && outL f i L
def injL (f:Nat→Nat):OL→Bool
  | []=>true
  | (i,_)::L=>outL f i L && injL f L
def noLoops:OL→Bool
  | []=>true
  | (_,o)::L=>noLoop o && noLoops L
theorem putF_get (f:Nat→Nat) (L:OL) (t:PT AObj) (b:Nat):(putF f L t).get b=match lookF f L b with | some p=>some (obV f p.2) | none=>t.get b:=by
  induction L with
  | nil=>rfl
  | cons p L ih=>
    obtain ⟨i,o⟩:=p
    simp only [putF,lookF]
    rw [PT.get_put]
    by_cases e:b=f i
    · rw [if_pos e,e,Nat.beq_refl];rfl
    · rw [if_neg e,beq_false_of_ne e,cond_false];exact ih
theorem lookF_spec {f:Nat→Nat}:∀ {L:OL} {b i:Nat} {o:AObj},lookF f L b=some (i,o)→f i=b∧look L i=some o
  | [],b,i,o,h=>by cases h
  | (j,x)::L,b,i,o,h=>by
    simp only [lookF] at h
    by_cases e:b=f j
    · rw [e,Nat.beq_refl,cond_true] at h;cases h
      exact ⟨e.symm,by simp [look,Nat.beq_refl]⟩
    · rw [beq_false_of_ne e,cond_false] at h
      obtain ⟨h1,h2⟩:=lookF_spec h
      refine ⟨h1,?_⟩
      have hne:i≠j:=by rintro rfl;exact e h1.symm
      simp only [look];rw [beq_false_of_ne hne,cond_false];exact h2
theorem lookF_of_look {f:Nat→Nat}:∀ {L:OL} {i:Nat} {o:AObj},look L i=some o→∃ p,lookF f L (f i)=some p
  | [],i,o,h=>by cases h
  | (j,x)::L,i,o,h=>by
    simp only [look] at h
    simp only [lookF]
    by_cases e:f i=f j
    · rw [e,Nat.beq_refl];exact ⟨_,rfl⟩
    · rw [beq_false_of_ne e,cond_false]
      have hne:i≠j:=by rintro rfl;exact e rfl
      rw [beq_false_of_ne hne,cond_false] at h
      exact lookF_of_look h
theorem chkL_mem {f:Nat→Nat} {h:AH} {n:Nat}:∀ {L:OL},chkL f h n L=true→∀ p ∈ L,p.1 < n∧obB f p.2 (h.get (f p.1))=true
  | [],_,p,hp=>by cases hp
  | (i,o)::L,hl,p,hp=>by
    simp only [chkL,Bool.and_eq_true] at hl
    rcases List.mem_cons.1 hp with rfl | hp
    · exact ⟨Nat.le_of_ble_eq_true hl.1.1,hl.1.2⟩
    · exact chkL_mem hl.2 p hp
theorem outL_mem {f:Nat→Nat} {i:Nat}:∀ {L:OL},outL f i L=true→∀ p ∈ L,f i=f p.1→i=p.1
  | [],_,p,hp,_=>by cases hp
  | (j,o)::L,hl,p,hp,he=>by
    simp only [outL,Bool.and_eq_true,Bool.or_eq_true] at hl
    rcases List.mem_cons.1 hp with rfl | hp
    · rcases hl.1 with h | h
      · exact nat_beq h
      · rw [show f i=f j from he,Nat.beq_refl] at h;cases h
    · exact outL_mem hl.2 p hp he
theorem injL_mem {f:Nat→Nat}:∀ {L:OL},injL f L=true→∀ p ∈ L,∀ q ∈ L,f p.1=f q.1→p.1=q.1
  | [],_,p,hp,_,_,_=>by cases hp
  | (j,o)::L,hl,p,hp,q,hq,he=>by
    simp only [injL,Bool.and_eq_true] at hl
    rcases List.mem_cons.1 hp with rfl | hp <;> rcases List.mem_cons.1 hq with rfl | hq
    · rfl
    · exact outL_mem hl.1 q hq he
    · exact (outL_mem hl.1 p hp he.symm).symm
    · exact injL_mem hl.2 p hp q hq he
theorem noLoops_mem:∀ {L:OL},noLoops L=true→∀ p ∈ L,noLoop p.2=true
  | [],_,p,hp=>by cases hp
  | (i,o)::L,hl,p,hp=>by
    simp only [noLoops,Bool.and_eq_true] at hl
    rcases List.mem_cons.1 hp with rfl | hp
    · exact hl.1
    · exact noLoops_mem hl.2 p hp
def memoF (f:Nat→Nat) (args₀:List Value) (L:OL) (n:Nat) (v₀:Value) (L':OL) (n':Nat) (args:List Value) (h:AH):Res:=
  bif lEq (rnB f 64) args₀ args && (chkL f h n L && (injL f L && noLoops L')) then some (rnV f 64 v₀,⟨h.next+(n' - n),putF f L' h.mem,h.df⟩) else none
section
variable {P:Program} {φ:Phi} {w:World} {h h':AH} {v:Value}
theorem memo_told {g:FuncId} {args₀:List Value} {L L':OL} {n n':Nat} {v₀:Value} (hr:Run P g args₀ L n v₀ L' n') (l:List Nat) {args:List Value}
    (hl:memoF (rnf l n h.next) args₀ L n v₀ L' n' args h=some (v,h')) {args':List Value} (ha:VRs φ args args') (r:Rel φ h w):Goes P g ⟨args'⟩ w (Aft φ h w v h'):=by
  generalize hfd:rnf l n h.next=f at hl
  have fhi:∀ i,n≤i→f i=h.next+(i - n):=by
    intro i hi
    have:Nat.ble (i+1) n=false:=by cases e:Nat.ble (i+1) n with | false=>rfl | true=>have:=Nat.le_of_ble_eq_true e;omega
    rw [← hfd,rnf,this];rfl
  clear hfd
  unfold memoF at hl
  cases hb:(lEq (rnB f 64) args₀ args && (chkL f h n L && (injL f L && noLoops L'))) with
  | false=>rw [hb] at hl;cases hl
  | true=>
    rw [hb] at hl
    simp only [cond_true,Option.some.injEq,Prod.mk.injEq] at hl
    obtain ⟨rfl,rfl⟩:=hl
    simp only [Bool.and_eq_true] at hb
    obtain ⟨b1,b2,b3,b4⟩:=hb
    let φ₀:Phi:=fun i=>if i < n then φ (f i) else none
    have hf0:∀ i x,φ (f i)=some x→φ₀ i=some x:=by
      intro i x hx
      by_cases hi:i < n
      · show (if i < n then φ (f i) else none)=_;rw [if_pos hi];exact hx
      · have h1:=(r.bnd _ x.1 x.2 (by rw [hx])).1
        rw [fhi i (by omega)] at h1;omega
    have hf0':∀ i x,φ₀ i=some x→i < n∧φ (f i)=some x:=by
      intro i x hx
      change (if i < n then φ (f i) else none)=_ at hx
      by_cases hi:i < n
      · rw [if_pos hi] at hx;exact ⟨hi,hx⟩
      · rw [if_neg hi] at hx;cases hx
    have inL:∀ i o,look L i=some o→i < n∧obB f o (h.get (f i))=true:=fun i o hi=>chkL_mem b2 _ (look_mem hi)
    have liveL:∀ i,(ofL L n).get i≠none→i < n∧h.get (f i)≠none:=by
      intro i hi
      rw [ofL_get] at hi
      cases e:look L i with
      | none=>exact absurd e hi
      | some o=>obtain ⟨h1,h2⟩:=inL i o e;exact ⟨h1,obB_some h2⟩
    have injA:∀ i j,(ofL L n).get i≠none→(ofL L n).get j≠none→f i=f j→i=j:=by
      intro i j hi hj he
      rw [ofL_get] at hi hj
      cases e1:look L i with
      | none=>exact absurd e1 hi
      | some o=>cases e2:look L j with
        | none=>exact absurd e2 hj
        | some o'=>exact injL_mem b3 _ (look_mem e1) _ (look_mem e2) he
    have r0:Rel φ₀ (ofL L n) w:=by
      refine ⟨fun b b' s T hb=>?_,fun x y b' s₁ s₂ g1 g2 g3 g4=>?_,fun b b' s hb=>?_,fun b hb=>?_,fun b g c hb=>?_⟩
      · obtain ⟨h1,h2⟩:=hf0' _ _ hb
        rw [ofL_get]
        cases e:look L b with
        | none=>trivial
        | some o=>exact obB_back hf0 (inL b o e).2 (r.blk _ _ _ _ h2)
      · obtain ⟨h1,h2⟩:=hf0' _ _ g1
        obtain ⟨h3,h4⟩:=hf0' _ _ g2
        exact injA _ _ g3 g4 (r.inj _ _ _ _ _ h2 h4 (liveL _ g3).2 (liveL _ g4).2)
      · obtain ⟨h1,h2⟩:=hf0' _ _ hb
        exact ⟨h1,(r.bnd _ _ _ h2).2⟩
      · cases e:(ofL L n).get b with
        | none=>rfl
        | some o=>have:=(liveL b (by rw [e];simp)).1;have hb':n≤b:=hb;omega
      · rw [ofL_get] at hb
        obtain ⟨c',hc'⟩:=obB_glob (inL b _ hb).2
        obtain ⟨T,hT⟩:=r.gl _ _ _ hc'
        exact ⟨T,hf0 _ _ hT⟩
    refine (hr φ₀ w args' (lEq_back (fun a b v'=>rnB_back hf0 64 a b v') b1 ha) r0).mono fun v' w' hA=>?_
    obtain ⟨⟨φ₁,hv,r1,F⟩,hmap⟩:=hA
    have hnn:n≤n':=F.nx
    have outG:∀ i,(ofL (L'++L) n').get i=match look L' i with | some o=>some o | none=>look L i:=fun i=>by rw [ofL_get,look_append];first | done | (cases look L' i <;> rfl)
    have live1:∀ i,i < n→(ofL (L'++L) n').get i≠none→i < n∧h.get (f i)≠none:=fun i hi hl=>liveL i (F.liv i hi hl)
    have ext0:∀ i x,i < n→φ₁ i=some x→φ (f i)=some x:=by
      intro i x hi hx
      cases e:φ₀ i with
      | none=>have:=(F.unm i hi e).1;rw [hx] at this;cases this
      | some y=>have:=F.ext _ _ e;rw [hx] at this;cases this;exact (hf0' _ _ e).2
    let φ':Phi:=fun b=>if b < h.next then φ b else φ₁ (b - h.next+n)
    have lo':∀ b,b < h.next→φ' b=φ b:=fun b hb=>by show (if b < h.next then _ else _)=_;rw [if_pos hb]
    have hi':∀ b,h.next≤b→φ' b=φ₁ (b - h.next+n):=fun b hb=>by show (if b < h.next then _ else _)=_;rw [if_neg (by omega)]
    have hle:φ.le φ':=fun b x hx=>by rw [lo' b (r.bnd _ x.1 x.2 (by rw [hx])).1];exact hx
    have hf1:∀ i x,φ₁ i=some x→φ' (f i)=some x:=by
      intro i x hx
      rcases Nat.lt_or_ge i n with hi | hi
      · exact hle _ _ (ext0 i x hi hx)
      · rw [fhi i hi,hi' _ (by omega),show h.next+(i - n) - h.next+n=i by omega];exact hx
    have inL':∀ b i o,lookF f L' b=some (i,o)→f i=b∧(ofL (L'++L) n').get i=some o∧noLoop o=true:=by
      intro b i o hb
      obtain ⟨h1,h2⟩:=lookF_spec hb
      refine ⟨h1,by rw [outG,h2],noLoops_mem b4 _ (look_mem h2)⟩
    have small:∀ b i o,lookF f L' b=some (i,o)→b < h.next→i < n:=by
      intro b i o hb hlt
      obtain ⟨h1,_,_⟩:=inL' b i o hb
      rcases Nat.lt_or_ge i n with hi | hi
      · exact hi
      · rw [fhi i hi] at h1;omega
    have great:∀ b i o,lookF f L' b=some (i,o)→h.next≤b→n≤i∧i=b - h.next+n:=by
      intro b i o hb hge
      obtain ⟨h1,h2,_⟩:=inL' b i o hb
      rcases Nat.lt_or_ge i n with hi | hi
      · have:=(live1 i hi (by rw [h2];simp)).2
        rw [h1] at this
        exact absurd (r.lim b hge) this
      · rw [fhi i hi] at h1;exact ⟨hi,by omega⟩
    have hG:∀ b,(⟨h.next+(n' - n),putF f L' h.mem,h.df⟩:AH).get b=match lookF f L' b with | some p=>some (obV f p.2) | none=>h.get b:=fun b=>putF_get f L' h.mem b
    have seen:∀ i o,lookF f L' (f i)=none→look L i=some o→(ofL (L'++L) n').get i=some o:=by
      intro i o h1 h2
      rw [outG]
      cases e:look L' i with
      | none=>exact h2
      | some x=>obtain ⟨p,hp⟩:=lookF_of_look (f:=f) e;rw [hp] at h1;cases h1
    have keepB:∀ b b' s,b < h.next→φ b=some (b',s)→h.get b≠none→(∀ i,(ofL L n).get i≠none→f i≠b)→w'.heap[b']?=w.heap[b']?:=by
      intro b b' s hb hφ hlv hno
      refine F.keep b' (r.bnd _ _ _ hφ).2 fun i s' hi=>?_
      obtain ⟨h1,h2⟩:=hf0' _ _ hi
      cases e:(ofL L n).get i with
      | none=>rfl
      | some o=>
        have hne:(ofL L n).get i≠none:=by rw [e];simp
        exact absurd (r.inj _ _ _ _ _ h2 hφ (liveL i hne).2 hlv) (hno i hne)
    have back:∀ b b' s,φ' b=some (b',s)→(⟨h.next+(n' - n),putF f L' h.mem,h.df⟩:AH).get b≠none →
        (∃ i,f i=b∧(ofL (L'++L) n').get i≠none∧φ₁ i=some (b',s))∨(b < h.next∧h.get b≠none∧φ b=some (b',s)∧∀ i,(ofL L n).get i≠none→f i≠b):=by
      intro b b' s hφ hlv
      rw [hG] at hlv
      cases e:lookF f L' b with
      | some p=>
        obtain ⟨i,o⟩:=p
        obtain ⟨h1,h2,_⟩:=inL' b i o e
        refine .inl ⟨i,h1,by rw [h2];simp,?_⟩
        rcases Nat.lt_or_ge b h.next with hb | hb
        · rw [lo' b hb,← h1] at hφ
          exact F.ext _ _ (hf0 _ _ hφ)
        · rw [hi' b hb,← (great b i o e hb).2] at hφ;exact hφ
      | none=>
        rw [e] at hlv
        have hb:b < h.next:=by
          rcases Nat.lt_or_ge b h.next with hb | hb
          · exact hb
          · exact absurd (r.lim b hb) hlv
        rw [lo' b hb] at hφ
        by_cases hex:∃ i,(ofL L n).get i≠none∧f i=b
        · obtain ⟨i,hi,rfl⟩:=hex
          rw [ofL_get] at hi
          cases e2:look L i with
          | none=>exact absurd e2 hi
          | some o=>exact .inl ⟨i,rfl,by rw [seen i o e e2];simp,F.ext _ _ (hf0 _ _ hφ)⟩
        · exact .inr ⟨hb,hlv,hφ,fun i hi he=>hex ⟨i,hi,he⟩⟩
    have cross:∀ i b b' s₁ s₂,(ofL (L'++L) n').get i≠none→φ₁ i=some (b',s₁)→b < h.next→h.get b≠none→φ b=some (b',s₂)→(∀ i,(ofL L n).get i≠none→f i≠b)→False:=by
      intro i b b' s₁ s₂ hl1 h1 hb hlv hφ hno
      have hb':=(r.bnd _ _ _ hφ).2
      rcases Nat.lt_or_ge i n with hi | hi
      · have h2:=ext0 i _ hi h1
        have h3:=F.liv i hi hl1
        exact hno i h3 (r.inj _ _ _ _ _ h2 hφ (liveL i h3).2 hlv)
      · have h0:φ₀ i=none:=by show (if i < n then _ else _)=_;rw [if_neg (by omega)]
        rcases F.fresh i b' s₁ h1 h0 with h2 | ⟨j,s₃,h2,h3⟩
        · omega
        · obtain ⟨_,h4⟩:=hf0' _ _ h2
          exact hno j (wrB_live h3) (r.inj _ _ _ _ _ h4 hφ (liveL j (wrB_live h3)).2 hlv)
    have wrL:∀ i,wrB ((ofL L n).get i)=true→wrB (h.get (f i))=true:=by
      intro i hi
      cases e:(ofL L n).get i with
      | none=>rw [e] at hi;cases hi
      | some o=>
        rw [e] at hi
        rw [ofL_get] at e
        exact obB_wr (inL i o e).2 hi
    refine ⟨φ',rnV_VR hf1 64 _ _ hv,⟨fun b b' s T hφ=>?_,fun x y b' s₁ s₂ g1 g2 g3 g4=>?_,fun b b' s hφ=>?_,fun b hb=>?_,r.glu hle fun b g c hb=>?_⟩,⟨?_,hle,fun b hb hn=>⟨by rw [lo' b hb];exact hn,?_⟩,fun b b' s hφ hn=>?_,fun b hb hlv=>?_,fun b hb hlv=>?_,F.sz,F.os,F.out,fun c hc hk=>?_⟩⟩
    · rw [hG]
      cases e:lookF f L' b with
      | some p=>
        obtain ⟨i,o⟩:=p
        obtain ⟨h1,h2,h3⟩:=inL' b i o e
        have hφ1:φ₁ i=some (b',s,T):=by
          rcases Nat.lt_or_ge b h.next with hb | hb
          · rw [lo' b hb,← h1] at hφ;exact F.ext _ _ (hf0 _ _ hφ)
          · rw [hi' b hb,← (great b i o e hb).2] at hφ;exact hφ
        have:=r1.blk _ _ _ _ hφ1
        rw [h2] at this
        exact obV_fore hf1 h3 this
      | none=>
        show OR φ' s T (h.get b) _
        rcases Nat.lt_or_ge b h.next with hb | hb
        · rw [lo' b hb] at hφ
          cases hlv:h.get b with
          | none=>trivial
          | some ob=>
            rw [← hlv]
            by_cases hex:∃ i,(ofL L n).get i≠none∧f i=b
            · obtain ⟨i,hi,rfl⟩:=hex
              rw [ofL_get] at hi
              cases e2:look L i with
              | none=>exact absurd e2 hi
              | some o=>
                have h1:=r1.blk _ _ _ _ (F.ext _ _ (hf0 _ _ hφ))
                rw [seen i o e e2] at h1
                exact obB_fore hf1 (inL i o e2).2 h1
            · rw [keepB b b' (s,T) hb hφ (by rw [hlv];simp) fun i hi he=>hex ⟨i,hi,he⟩]
              exact (r.blk _ _ _ _ hφ).mono hle
        · rw [r.lim b hb];trivial
    · rcases back x b' s₁ g1 g3 with ⟨i,rfl,i1,i2⟩ | ⟨i1,i2,i3,i4⟩ <;> rcases back y b' s₂ g2 g4 with ⟨j,rfl,j1,j2⟩ | ⟨j1,j2,j3,j4⟩
      · rw [r1.inj _ _ _ _ _ i2 j2 i1 j1]
      · exact (cross i y b' s₁ s₂ i1 i2 j1 j2 j3 j4).elim
      · exact (cross j x b' s₂ s₁ j1 j2 i1 i2 i3 i4).elim
      · exact r.inj _ _ _ _ _ i3 j3 i2 j2
    · rcases Nat.lt_or_ge b h.next with hb | hb
      · rw [lo' b hb] at hφ
        have:=r.bnd _ _ _ hφ
        exact ⟨by show b < h.next+(n' - n);omega,Nat.lt_of_lt_of_le this.2 F.sz⟩
      · rw [hi' b hb] at hφ
        have:=r1.bnd _ _ _ hφ
        have h1:b - h.next+n < n':=this.1
        exact ⟨by show b < h.next+(n' - n);omega,this.2⟩
    · have hb':h.next+(n' - n)≤b:=hb
      rw [hG]
      cases e:lookF f L' b with
      | some p=>
        obtain ⟨i,o⟩:=p
        obtain ⟨h1,h2,h3⟩:=inL' b i o e
        obtain ⟨h4,h5⟩:=great b i o e (by omega)
        have:=r1.lim i (by show n'≤i;omega)
        rw [h2] at this;cases this
      | none=>exact r.lim b (by omega)
    · rw [hG] at hb
      cases e:lookF f L' b with
      | some p=>
        obtain ⟨i,o⟩:=p
        rw [e] at hb
        obtain ⟨_,_,h3⟩:=inL' b i o e
        cases o <;> first | cases hb;done | cases h3
      | none=>rw [e] at hb;exact hb
    · show h.next≤h.next+(n' - n);omega
    · rw [hG]
      cases e:lookF f L' b with
      | some p=>
        obtain ⟨i,o⟩:=p
        obtain ⟨h1,h2⟩:=lookF_spec e
        have hi:=small b i o e hb
        exfalso
        refine hmap i hi (by rw [h2];simp) ?_
        show (if i < n then φ (f i) else none)=none
        rw [if_pos hi,h1];exact hn
      | none=>rfl
    · rcases Nat.lt_or_ge b h.next with hb | hb
      · rw [lo' b hb,hn] at hφ;cases hφ
      · rw [hi' b hb] at hφ
        have h0:φ₀ (b - h.next+n)=none:=by show (if _ < n then _ else _)=_;rw [if_neg (by omega)]
        rcases F.fresh _ b' s hφ h0 with h2 | ⟨j,s₃,h2,h3⟩
        · exact .inl h2
        · obtain ⟨_,h4⟩:=hf0' _ _ h2
          exact .inr ⟨f j,s₃,h4,wrL j h3⟩
    · rw [hG] at hlv
      cases e:lookF f L' b with
      | some p=>
        obtain ⟨i,o⟩:=p
        obtain ⟨h1,h2,h3⟩:=inL' b i o e
        have:=live1 i (small b i o e hb) (by rw [h2];simp)
        rw [h1] at this;exact this.2
      | none=>rw [e] at hlv;exact hlv
    · rw [hG] at hlv
      cases e:lookF f L' b with
      | some p=>
        obtain ⟨i,o⟩:=p
        rw [e] at hlv
        obtain ⟨h1,h2,h3⟩:=inL' b i o e
        have h4:=F.lw i (small b i o e hb) (by rw [h2];exact obV_wr hlv)
        have h5:=wrL i h4
        rw [h1] at h5;exact h5
      | none=>rw [e] at hlv;exact hlv
    · refine F.keep c hc fun i s hi=>?_
      obtain ⟨h1,h2⟩:=hf0' _ _ hi
      cases e:wrB ((ofL L n).get i) with
      | false=>rfl
      | true=>have h5:=wrL i e;rw [hk _ _ h2] at h5;cases h5
end
def walkV:Nat→Value→Value→List Nat→List Nat
  | 0,_,_,acc=>acc
  | n+1,a,b,acc=>match a,b with
    | .pointer (some x),.pointer (some y)=>acc.set x.block y.block
    | .slice (some x) _ _,.slice (some y) _ _=>acc.set x.block y.block
    | .map (some x),.map (some y)=>acc.set x y
    | .iface _ x,.iface _ y=>walkV n x y acc
    | .agg ⟨l⟩,.agg ⟨m⟩=>walkL (walkV n) l m acc
    | .tuple ⟨l⟩,.tuple ⟨m⟩=>walkL (walkV n) l m acc
    | .func _ ⟨l⟩ ⟨c⟩,.func _ ⟨m⟩ ⟨d⟩=>walkL (walkV n) c d (walkL (walkV n) l m acc)
    | _,_=>acc
where walkL (g:Value→Value→List Nat→List Nat):List Value→List Value→List Nat→List Nat
  | x::l,y::m,acc=>walkL g l m (g x y acc)
  | _,_,acc=>acc
def walkP:PT Value→PT Value→List Nat→List Nat
  | .node (some x) l r,.node (some y) l' r',acc=>walkP r r' (walkP l l' (walkV 64 x y acc))
  | .node none l r,.node _ l' r',acc=>walkP r r' (walkP l l' acc)
  | _,_,acc=>acc
def walkE:List (Value × Value)→List (Value × Value)→List Nat→List Nat
  | (k,v)::l,(k',v')::m,acc=>walkE l m (walkV 64 v v' (walkV 64 k k' acc))
  | _,_,acc=>acc
def walkO (h:AH):List (Nat × Bool × AObj)→List Nat→List Nat
  | [],acc=>acc
  | (_,false,_)::L,acc=>walkO h L acc
  | (i,true,o)::L,acc=>match o,h.get (acc.getD i 0) with
    | .cells c _ _,some (.cells c' _ _)=>walkO h L (walkP c c' acc)
    | .map es _ _,some (.map es' _ _)=>walkO h L (walkE es es' acc)
    | _,_=>walkO h L acc
def guess (args₀:List Value) (L:List (Nat × Bool × AObj)) (n:Nat) (args:List Value) (h:AH):List Nat:=
  walkO h L (walkV.walkL (walkV 64) args₀ args (List.replicate n 0))
def bare:List (Nat × Bool × AObj)→OL
  | []=>[]
  | (i,_,o)::L=>(i,o)::bare L
def preB:List Value→List Value→Bool
  | [],[]=>true
  | .int _ x::l,.int _ y::m=>decide (x=y) && preB l m
  | .bool x::l,.bool y::m=>(x == y) && preB l m
  | .slice _ x _::l,.slice _ y _::m=>Nat.beq x y && preB l m
  | _::l,_::m=>preB l m
  | _,_=>false
def memo (args₀:List Value) (L:List (Nat × Bool × AObj)) (n:Nat) (v₀:Value) (L':OL) (n':Nat):Fun:=fun args h=>
  bif preB args₀ args then memoF (rnf (guess args₀ L n args h) n h.next) args₀ (bare L) n v₀ L' n' args h else none
theorem memo_ok {P:Program} {g:FuncId} {args₀:List Value} {L:List (Nat × Bool × AObj)} {L':OL} {n n':Nat} {v₀:Value} (hr:Run P g args₀ (bare L) n v₀ L' n') :
    Told P g (memo args₀ L n v₀ L' n'):=by
  intro args h v h' hl φ w args' ha r
  unfold memo at hl
  cases hp:preB args₀ args with
  | false=>rw [hp] at hl;cases hl
  | true=>rw [hp,cond_true] at hl;exact memo_told hr _ hl ha r
def orF (a b:Fun):Fun:=fun args h=>match a args h with
  | some x=>some x
  | none=>b args h
theorem Told.or {P:Program} {g:FuncId} {a b:Fun} (ha:Told P g a) (hb:Told P g b):Told P g (orF a b):=by
  intro args h v h' hl
  unfold orF at hl
  cases e:a args h with
  | some x=>rw [e] at hl;cases hl;exact ha _ _ _ _ e
  | none=>rw [e] at hl;exact hb _ _ _ _ hl
def addT (t:PT Fun) (g:Nat) (a:Fun):PT Fun:=t.put g (some (match t.get g with | some b=>orF a b | none=>a))
theorem TabOK.add {P:Program} {E:Env} {t:PT Fun} (ht:TabOK P E t) {g:Nat} {a:Fun} (ha:Told P g a) (hE:∃ fi,E.fn g=some fi):TabOK P E (addT t g a):=by
  refine ht.put ?_ hE
  cases e:t.get g with
  | none=>exact ha
  | some b=>exact ha.or (ht g b e).1
end
end Go.Den
namespace Go.Den
noncomputable section
section
variable {E:Env} {C:Oracle}
theorem opK_of_xop0 {op:Op} {ρ:Operand→Value} {h h':AH} {v:Value} {K:Value→AH→Res} (hx:xop0 E C op ρ h=some (v,h')):opK E C op ρ h K=K v h':=by
  unfold xop0 at hx
  unfold opK
  split at hx
  · rename_i f args ts
    simp only [hx]
  · split at hx
    · rename_i hr
      subst hx
      rfl
    rename_i hr
    generalize aop E _ ρ h=r at hx ⊢
    cases r with
    | mo x=>cases hx;rfl
    | va x=>
      cases x with
      | none=>cases hx
      | some y=>cases hx;rfl
    | hv x=>
      cases x with
      | none=>cases hx
      | some y=>cases hx;rfl
    | st x=>
      cases x with
      | none=>cases hx
      | some y=>cases hx;rfl
end
def plainV:Value→Bool
  | .bool _ | .int _ _ | .string _ | .nilFunc | .nilIface | .pointer none | .map none=>true
  | _=>false
def plainVs:Value→Bool
  | .agg ⟨l⟩=>l.all plainV
  | v=>plainV v
theorem plainV_VR {φ φ':Phi} {v v':Value} (hp:plainV v=true) (h:VR φ v v'):VR φ' v v':=by
  cases h <;> first | exact .bool _ | exact .int _ _ | exact .string _ | exact .nilFunc | exact .nilIface | exact .ptrNil | exact .mapNil | cases hp
theorem plainL_VR {φ φ':Phi}:∀ {l l':List Value},l.all plainV=true→VRs φ l l'→VRs φ' l l'
  | [],_,_,h=>by cases h;exact .nil
  | v::l,_,hp,h=>by
    cases h with
    | cons _ v' _ l' h hl=>
      simp only [List.all_cons,Bool.and_eq_true] at hp
      exact .cons _ _ _ _ (plainV_VR hp.1 h) (plainL_VR hp.2 hl)
theorem plainVs_VR {φ φ':Phi} {v v':Value} (hp:plainVs v=true) (h:VR φ v v'):VR φ' v v':=by
  cases v with
  | agg c=>
    obtain ⟨l⟩:=c
    cases h with
    | agg _ l' hl=>exact .agg _ _ (plainL_VR hp hl)
  | _=>exact plainV_VR hp h
theorem plainVss_VR {φ φ':Phi}:∀ {l l':List Value},l.all plainVs=true→VRs φ l l'→VRs φ' l l'
  | [],_,_,h=>by cases h;exact .nil
  | v::l,_,hp,h=>by
    cases h with
    | cons _ v' _ l' h hl=>
      simp only [List.all_cons,Bool.and_eq_true] at hp
      exact .cons _ _ _ _ (plainVs_VR hp.1 h) (plainVss_VR hp.2 hl)
theorem pure_goes {P:Program} {g:FuncId} {args:List Value} {v:Value} {h₁:AH} (hp:args.all plainVs=true) (hv:plainVs v=true)
    (hr:∀ w args',VRs φ0 args args'→Goes P g ⟨args'⟩ w (Aft φ0 h0 w v h₁)) {φ:Phi} {h:AH} {w:World} {args':List Value} (ha:VRs φ args args') (r:Rel φ h w) :
    Goes P g ⟨args'⟩ w (Aft φ h w v h):=by
  refine Goes.mono' (hr w args' (plainVss_VR hp ha)) fun v' w' ⟨φ',h1,_,F⟩=>?_
  have hk:∀ c,c < w.heap.size→w'.heap[c]?=w.heap[c]?:=fun c hc=>F.keep c hc fun b s _=>by rw [h0_get b];rfl
  refine ⟨φ,plainVs_VR hv h1,⟨fun b b' s T hb=>by rw [hk b' (r.bnd _ _ _ hb).2];exact r.blk _ _ _ _ hb,r.inj,fun b b' s hb=>⟨(r.bnd _ _ _ hb).1,Nat.lt_of_lt_of_le (r.bnd _ _ _ hb).2 F.sz⟩,r.lim,r.gl⟩,
    ⟨Nat.le_refl _,fun _ _ h=>h,fun _ _ h=>⟨h,rfl⟩,(fun _ _ _ h h'=>by rw [h] at h';cases h'),fun _ _ h=>h,fun _ _ h=>h,F.sz,F.os,F.out,fun c hc _=>hk c hc⟩⟩
where
  Goes.mono' {P:Program} {g:FuncId} {args:Array Value} {w:World} {R R':Post} (hg:Goes P g args w R) (hR:∀ v w',R v w'→R' v w'):Goes P g args w R':=by
    intro kind cs hk
    obtain ⟨fr,v,w',h1,h2⟩:=hg kind cs hk
    exact ⟨fr,v,w',hR _ _ h1,h2⟩
end
end Go.Den
