/- An abstract heap and how it stands to a world of the model; the plain operations' abstract steps, each sound. Conditions: none. -/
import Derived.AtR
import Derived.Calls
namespace Go.Den
inductive PT (α:Type) where
  | leaf
  | node (v:Option α) (l r:PT α)
def PT.get {α:Type}:PT α→Nat→Option α
  | .leaf,_=>none
  | .node v l r,k=>bif Nat.beq k 0 then v else bif Nat.beq (k % 2) 1 then l.get (k / 2) else r.get (k / 2 - 1)
def PT.val {α:Type}:PT α→Option α
  | .leaf=>none
  | .node v _ _=>v
def PT.left {α:Type}:PT α→PT α
  | .leaf=>.leaf
  | .node _ l _=>l
def PT.right {α:Type}:PT α→PT α
  | .leaf=>.leaf
  | .node _ _ r=>r
def PT.upd {α:Type}:Nat→PT α→Nat→Option α→PT α
  | 0,t,_,_=>t
  | f+1,t,k,x=>
    bif Nat.beq k 0 then .node x t.left t.right
    else bif Nat.beq (k % 2) 1 then .node t.val (PT.upd f t.left (k / 2) x) t.right
    else .node t.val t.left (PT.upd f t.right (k / 2 - 1) x)
def PT.put {α:Type} (t:PT α) (k:Nat) (x:Option α):PT α:=PT.upd (k+1) t k x
theorem PT.get_leaf {α:Type} (k:Nat):(PT.leaf:PT α).get k=none:=by cases k <;> rfl
theorem PT.get_parts {α:Type} (t:PT α) (k:Nat) :
    t.get k=bif Nat.beq k 0 then t.val else bif Nat.beq (k % 2) 1 then t.left.get (k / 2) else t.right.get (k / 2 - 1):=by
  cases t with
  | leaf=>
    simp only [PT.val,PT.left,PT.right,PT.get_leaf]
    cases Nat.beq k 0 <;> cases Nat.beq (k % 2) 1 <;> rfl
  | node v l r=>rfl
theorem beq_false_of_ne {a b:Nat} (h:a≠b):Nat.beq a b=false:=by
  cases hb:Nat.beq a b with
  | false=>rfl
  | true=>exact absurd (Nat.eq_of_beq_eq_true hb) h
theorem PT.get_upd {α:Type} (x:Option α):∀ (f k j:Nat) (t:PT α),k < f→(PT.upd f t k x).get j=if j=k then x else t.get j:=by
  intro f
  induction f with
  | zero=>intro k j t h;omega
  | succ f ih=>
    intro k j t h
    have hp:=PT.get_parts t j
    simp only [PT.upd]
    by_cases k0:k=0
    · subst k0
      show (PT.node x t.left t.right).get j=_
      by_cases j0:j=0
      · subst j0;rfl
      · rw [if_neg j0,hp,PT.get_parts]
        simp [PT.left,PT.right,beq_false_of_ne j0]
    · rw [beq_false_of_ne k0,cond_false]
      by_cases ko:k % 2=1
      · have e:Nat.beq (k % 2) 1=true:=by rw [ko];rfl
        rw [e,cond_true,PT.get_parts,hp]
        simp only [PT.left,PT.right,PT.val]
        by_cases j0:j=0
        · subst j0;rw [if_neg (fun h=>k0 h.symm)];rfl
        · rw [beq_false_of_ne j0,cond_false,cond_false]
          by_cases jo:j % 2=1
          · have e':Nat.beq (j % 2) 1=true:=by rw [jo];rfl
            rw [e',cond_true,cond_true,ih _ _ _ (by omega)]
            by_cases hjk:j=k
            · subst hjk;simp
            · rw [if_neg hjk,if_neg (by omega)]
          · rw [beq_false_of_ne jo,cond_false,cond_false,if_neg (by rintro rfl;exact jo ko)]
      · rw [beq_false_of_ne ko,cond_false,PT.get_parts,hp]
        simp only [PT.left,PT.right,PT.val]
        by_cases j0:j=0
        · subst j0;rw [if_neg (fun h=>k0 h.symm)];rfl
        · rw [beq_false_of_ne j0,cond_false,cond_false]
          by_cases jo:j % 2=1
          · have e':Nat.beq (j % 2) 1=true:=by rw [jo];rfl
            rw [e',cond_true,cond_true,if_neg (by rintro rfl;exact ko jo)]
          · rw [beq_false_of_ne jo,cond_false,cond_false,ih _ _ _ (by omega)]
            by_cases hjk:j=k
            · subst hjk;simp
            · rw [if_neg hjk,if_neg (by omega)]
theorem PT.get_put {α:Type} (t:PT α) (k j:Nat) (x:Option α):(t.put k x).get j=if j=k then x else t.get j:=
  PT.get_upd x (k+1) k j t (by omega)
def PT.ofList {α:Type}:List α→Nat→PT α→PT α
  | [],_,t=>t
  | x::l,k,t=>PT.ofList l (k+1) (t.put k (some x))
theorem PT.get_ofList {α:Type}:∀ (l:List α) (k j:Nat) (t:PT α),
    (PT.ofList l k t).get j=if k≤j then (match l[j - k]? with | some x=>some x | none=>t.get j) else t.get j:=by
  intro l
  induction l with
  | nil=>intro k j t;simp [PT.ofList]
  | cons x l ih=>
    intro k j t
    rw [PT.ofList,ih,PT.get_put]
    by_cases h:k+1≤j
    · have e:j - k=(j - (k+1))+1:=by omega
      have hne:j≠k:=by omega
      have hle:k≤j:=by omega
      simp [h,hne,hle,e]
    · rw [if_neg h]
      by_cases h':j=k
      · subst h';simp
      · rw [if_neg h',if_neg (by omega)]
inductive AObj where
  | cells (c:PT Value) (n:Nat) (t:Nat)
  | ro (c:PT Value)
  | map (es:List (Value × Value)) (bs:List Nat) (cl:Nat)
  | iter (m since:Nat) (seen:List Nat) (cur:Option Nat) (cl:Nat)
  | loop (fn:FuncId) (tms:List Value) (params:Array Tmp) (assign body:Code) (state:LoopState) (pending:Option Code)
  | glob (g:Nat) (c:PT Value)
structure AH where
  next:Nat
  mem:PT AObj
  df:List Deferred
def AH.get (h:AH) (b:Nat):Option AObj:=h.mem.get b
def AH.put (h:AH) (b:Nat) (o:Option AObj):AH:={ h with mem:=h.mem.put b o }
def AH.cell (h:AH) (b o:Nat):Option Value:=
  match h.mem.get b with
  | some (.cells c _ _)=>c.get o
  | some (.ro c)=>c.get o
  | some (.glob _ c)=>c.get o
  | _=>none
abbrev Phi:=Nat→Option (Nat × Nat × Nat)
def unk (size:Nat):Nat:=4611686018427387904+size
def oneC:Value→Bool
  | .agg _ | .tuple _ | .chan none=>false
  | _=>true
mutual
inductive VR (φ:Phi):Value→Value→Prop
  | junk (v:Value):VR φ (.tuple #[]) v
  | und:VR φ (.chan none) (.tuple #[])
  | bool (b:Bool):VR φ (.bool b) (.bool b)
  | int (k:IntKind) (n:Int):VR φ (.int k n) (.int k n)
  | string (s:ByteArray):VR φ (.string s) (.string s)
  | ptrNil:VR φ (.pointer none) (.pointer none)
  | ptr (b o b' s T:Nat) (h:φ b=some (b',s,T)):VR φ (.pointer (some ⟨b,o,none⟩)) (.pointer (some ⟨b',o+s,none⟩))
  | sliceNil:VR φ (.slice none 0 0) (.slice none 0 0)
  | slice (b o b' s T n c c':Nat) (h:φ b=some (b',s,T)) (hn:n≤c') (hc:(c=c'∧c < unk 0)∨∃ e,c=unk e∧o+s+c' * e≤T) :
      VR φ (.slice (some ⟨b,o,none⟩) n c) (.slice (some ⟨b',o+s,none⟩) n c')
  | empty (x y:Addr) (c:Nat) (z:Nat × Nat × Nat) (hx:φ x.block=some z) (hc:c=0∨∃ e,c=unk e):VR φ (.slice (some x) 0 c) (.slice (some y) 0 0)
  | mapNil:VR φ (.map none) (.map none)
  | map (r r' T:Nat) (h:φ r=some (r',0,T)):VR φ (.map (some r)) (.map (some r'))
  | nilFunc:VR φ .nilFunc .nilFunc
  | func (fn:Fn) (hy:∀ l,fn≠.yield l) (a a' c c':List Value) (ha:VRs φ a a') (hc:VRs φ c c'):VR φ (.func fn ⟨a⟩ ⟨c⟩) (.func fn ⟨a'⟩ ⟨c'⟩)
  | yield (l l' T:Nat) (h:φ l=some (l',0,T)):VR φ (.func (.yield l) #[] #[]) (.func (.yield l') #[] #[])
  | nilIface:VR φ .nilIface .nilIface
  | iface (t:TypeId) (v v':Value) (h:VR φ v v'):VR φ (.iface t v) (.iface t v')
  | agg (l l':List Value) (h:VRs φ l l'):VR φ (.agg ⟨l⟩) (.agg ⟨l'⟩)
  | tuple (l l':List Value) (h:VRs φ l l'):VR φ (.tuple ⟨l⟩) (.tuple ⟨l'⟩)
  | any (r:Nat) (v:Value) (h:oneC v=true):VR φ (.chan (some r)) v
inductive VRs (φ:Phi):List Value→List Value→Prop
  | nil:VRs φ [] []
  | cons (v v':Value) (l l':List Value) (h:VR φ v v') (hl:VRs φ l l'):VRs φ (v::l) (v'::l')
end
def Phi.le (φ φ':Phi):Prop:=∀ b x,φ b=some x→φ' b=some x
mutual
theorem VR.mono {φ φ':Phi} (hle:φ.le φ'):∀ {v v':Value},VR φ v v'→VR φ' v v'
  | _,_,.junk v=>.junk v
  | _,_,.und=>.und
  | _,_,.bool b=>.bool b
  | _,_,.int k n=>.int k n
  | _,_,.string s=>.string s
  | _,_,.ptrNil=>.ptrNil
  | _,_,.ptr b o b' s T h=>.ptr b o b' s T (hle _ _ h)
  | _,_,.sliceNil=>.sliceNil
  | _,_,.slice b o b' s T n c c' h hn hc=>.slice b o b' s T n c c' (hle _ _ h) hn hc
  | _,_,.empty x y c z hx hc=>.empty x y c z (hle _ _ hx) hc
  | _,_,.mapNil=>.mapNil
  | _,_,.map r r' T h=>.map r r' T (hle _ _ h)
  | _,_,.nilFunc=>.nilFunc
  | _,_,.func fn hy a a' c c' ha hc=>.func fn hy a a' c c' (VRs.mono hle ha) (VRs.mono hle hc)
  | _,_,.yield l l' T h=>.yield l l' T (hle _ _ h)
  | _,_,.nilIface=>.nilIface
  | _,_,.iface t v v' h=>.iface t v v' (VR.mono hle h)
  | _,_,.agg l l' h=>.agg l l' (VRs.mono hle h)
  | _,_,.tuple l l' h=>.tuple l l' (VRs.mono hle h)
  | _,_,.any r v h=>.any r v h
theorem VRs.mono {φ φ':Phi} (hle:φ.le φ'):∀ {l l':List Value},VRs φ l l'→VRs φ' l l'
  | _,_,.nil=>.nil
  | _,_,.cons v v' l l' h hl=>.cons v v' l l' (VR.mono hle h) (VRs.mono hle hl)
end
theorem VRs.length {φ:Phi}:∀ {l l':List Value},VRs φ l l'→l.length=l'.length
  | _,_,.nil=>rfl
  | _,_,.cons _ _ _ _ _ hl=>by simp [VRs.length hl]
theorem VRs.get {φ:Phi}:∀ {l l':List Value},VRs φ l l'→∀ (i:Nat) (v:Value),l[i]?=some v→∃ v',l'[i]?=some v'∧VR φ v v'
  | _,_,.nil=>by intro i v h;simp at h
  | _,_,.cons v v' l l' h hl=>by
    intro i u hu
    cases i with
    | zero=>simp at hu;subst hu;exact ⟨v',by simp,h⟩
    | succ i=>simp at hu;simpa using VRs.get hl i u hu
theorem VRs.getD {φ:Phi} {l l':List Value} (h:VRs φ l l') (i:Nat):VR φ (l.getD i (.tuple #[])) (l'.getD i (.tuple #[])):=by
  cases hi:l[i]? with
  | none=>rw [List.getD_eq_getElem?_getD,hi];exact .junk _
  | some v=>obtain ⟨v',hv',hr⟩:=h.get i v hi;rw [List.getD_eq_getElem?_getD,List.getD_eq_getElem?_getD,hi,hv'];exact hr
theorem VRs.set {φ:Phi}:∀ {l l':List Value},VRs φ l l'→∀ (i:Nat) {v v':Value},VR φ v v'→VRs φ (l.set i v) (l'.set i v')
  | _,_,.nil=>fun _ _ _ _=>.nil
  | _,_,.cons v v' l l' h hl=>fun i u u' hu=>by
    cases i with
    | zero=>exact .cons _ _ _ _ hu hl
    | succ i=>exact .cons _ _ _ _ h (VRs.set hl i hu)
theorem VRs.append {φ:Phi}:∀ {l l' m m':List Value},VRs φ l l'→VRs φ m m'→VRs φ (l++m) (l'++m')
  | _,_,_,_,.nil,h=>h
  | _,_,_,_,.cons v v' l l' h hl,hm=>.cons _ _ _ _ h (VRs.append hl hm)
def EsR (φ:Phi):List (Value × Value)→List MapEntry→Prop
  | [],[]=>True
  | (k,v)::es,e::es'=>VR φ k e.key∧VR φ v e.val∧EsR φ es es'
  | _,_=>False
def Obj.slot (φ:Phi) (s T:Nat) (c:PT Value) (n:Nat) (o:Option Obj):Prop:=
  ∃ c' e lo hi,o=some (.cells c' e (lo,hi))∧T≤c'.size∧(lo=hi∨c'.size≤lo) ∧
    ∀ i v,c.get i=some v→i < n∧oneC v=true∧∃ v',c'[i+s]?=some v'∧VR φ v v'
def Obj.typed (s t:Nat) (o:Option Obj):Prop:=t=0∨∃ c e fr,o=some (.cells c e fr)∧(t=2 * e+1∨t=2 * e+2∧s=0)
def Obj.roslot (φ:Phi) (s:Nat) (c:PT Value) (o:Option Obj):Prop:=
  ∃ c' e lo hi,o=some (.cells c' e (lo,hi))∧∀ i v,c.get i=some v→oneC v=true∧(lo≤i+s→i+s < hi→False)∧∃ v',c'[i+s]?=some v'∧VR φ v v'
def OR (φ:Phi) (s T:Nat):Option AObj→Option Obj→Prop
  | none,_=>True
  | some (.cells c n t),o=>Obj.slot φ s T c n o∧Obj.typed s t o
  | some (.ro c),o=>Obj.roslot φ s c o
  | some (.glob _ c),o=>Obj.roslot φ s c o
  | some (.map es bs cl),some (.map es' cl')=>s=0∧EsR φ es es'.toList∧es'.toList.map (·.born)=bs∧cl'=cl
  | some (.iter m since seen cur cl),some (.mapIter (some m') since' seen' cl')=>s=0∧(∃ T',φ m=some (m',0,T'))∧since'=since∧(∀ x,x ∈ seen'.toList ↔ x ∈ seen)∧(∀ c,cur=some c→seen'.back?=some c)∧cl'=cl
  | some (.loop fn tms ps as bd st pd),some (.loop r)=>s=0∧r.fn=fn∧VRs φ tms r.tmps.toList∧r.params=ps∧r.assign=as∧r.body=bd∧r.state=st∧r.pending=pd
  | _,_=>False
structure Rel (φ:Phi) (h:AH) (w:World):Prop where
  blk:∀ b b' s T,φ b=some (b',s,T)→OR φ s T (h.get b) w.heap[b']?
  inj:∀ b₁ b₂ b' s₁ s₂,φ b₁=some (b',s₁)→φ b₂=some (b',s₂)→h.get b₁≠none→h.get b₂≠none→b₁=b₂
  bnd:∀ b b' s,φ b=some (b',s)→b < h.next∧b' < w.heap.size
  lim:∀ b,h.next≤b→h.get b=none
  gl:∀ b g c,h.get b=some (.glob g c)→∃ T,φ b=some (g,0,T)
theorem Rel.glu {φ φ':Phi} {h h':AH} {w:World} (r:Rel φ h w) (hle:φ.le φ') (hs:∀ b g c,h'.get b=some (.glob g c)→h.get b=some (.glob g c)):∀ b g c,h'.get b=some (.glob g c)→∃ T,φ' b=some (g,0,T):=fun b g c hb=>by
  obtain ⟨T,hT⟩:=r.gl b g c (hs b g c hb)
  exact ⟨T,hle _ _ hT⟩
def wrB:Option AObj→Bool
  | some (.ro _)=>false
  | some (.glob ..)=>false
  | some _=>true
  | none=>false
theorem wrB_live {o:Option AObj} (h:wrB o=true):o≠none:=by rintro rfl;cases h
structure Fwd (φ:Phi) (h:AH) (w:World) (φ':Phi) (h':AH) (w':World):Prop where
  nx:h.next≤h'.next
  ext:φ.le φ'
  unm:∀ b,b < h.next→φ b=none→φ' b=none∧h'.get b=h.get b
  fresh:∀ b b' s,φ' b=some (b',s)→φ b=none→w.heap.size≤b'∨∃ b₀ s₀,φ b₀=some (b',s₀)∧wrB (h.get b₀)=true
  liv:∀ b,b < h.next→h'.get b≠none→h.get b≠none
  lw:∀ b,b < h.next→wrB (h'.get b)=true→wrB (h.get b)=true
  sz:w.heap.size≤w'.heap.size
  os:w'.os=w.os
  out:w'.output=w.output
  keep:∀ c,c < w.heap.size→(∀ b s,φ b=some (c,s)→wrB (h.get b)=false)→w'.heap[c]?=w.heap[c]?
theorem Fwd.refl (φ:Phi) (h:AH) (w:World):Fwd φ h w φ h w:=
  ⟨Nat.le_refl _,fun _ _ h=>h,fun _ _ h=>⟨h,rfl⟩,(fun _ _ _ h h'=>by rw [h] at h';cases h'),fun _ _ h=>h,fun _ _ h=>h,Nat.le_refl _,rfl,rfl,fun _ _ _=>rfl⟩
theorem Fwd.trans {φ φ₁ φ₂:Phi} {h h₁ h₂:AH} {w w₁ w₂:World} (hr:Rel φ h w) (a:Fwd φ h w φ₁ h₁ w₁) (b:Fwd φ₁ h₁ w₁ φ₂ h₂ w₂):Fwd φ h w φ₂ h₂ w₂ where
  nx:=Nat.le_trans a.nx b.nx
  ext:=fun x y hx=>b.ext _ _ (a.ext _ _ hx)
  unm:=fun x hx hn=>by
    obtain ⟨h1,h2⟩:=a.unm x hx hn
    obtain ⟨h3,h4⟩:=b.unm x (Nat.lt_of_lt_of_le hx a.nx) h1
    exact ⟨h3,h4.trans h2⟩
  fresh:=fun x y s hx hn=>by
    cases h1:φ₁ x with
    | none=>
      rcases b.fresh x y s hx h1 with h | ⟨b₀,s₀,h3,h4⟩
      · exact .inl (Nat.le_trans a.sz h)
      · cases h5:φ b₀ with
        | none=>
          rcases a.fresh b₀ y s₀ h3 h5 with h | h
          · exact .inl h
          · exact .inr h
        | some z=>
          have:=a.ext _ _ h5
          rw [h3] at this;cases this
          exact .inr ⟨b₀,s₀,h5,a.lw b₀ (hr.bnd _ _ _ h5).1 h4⟩
    | some z=>
      have:=b.ext _ _ h1
      rw [hx] at this;cases this
      exact a.fresh x y s h1 hn
  liv:=fun x hx hl=>a.liv x hx (b.liv x (Nat.lt_of_lt_of_le hx a.nx) hl)
  lw:=fun x hx hl=>a.lw x hx (b.lw x (Nat.lt_of_lt_of_le hx a.nx) hl)
  sz:=Nat.le_trans a.sz b.sz
  os:=b.os.trans a.os
  out:=b.out.trans a.out
  keep:=fun c hc hk=>by
    refine (b.keep c (Nat.lt_of_lt_of_le hc a.sz) ?_).trans (a.keep c hc hk)
    intro x s hx
    cases h5:φ x with
    | none=>
      rcases a.fresh x c s hx h5 with h | ⟨b₀,s₀,h3,h4⟩
      · omega
      · rw [hk b₀ s₀ h3] at h4;cases h4
    | some z=>
      have:=a.ext _ _ h5
      rw [hx] at this;cases this
      have h6:=hk x s h5
      cases h7:wrB (h₁.get x) with
      | false=>rfl
      | true=>rw [a.lw x (hr.bnd _ _ _ h5).1 h7] at h6;cases h6
end Go.Den
namespace Go.Den
theorem EsR.mono {φ φ':Phi} (hle:φ.le φ'):∀ {es:List (Value × Value)} {es':List MapEntry},EsR φ es es'→EsR φ' es es'
  | [],[],_=>trivial
  | (_,_)::_,_::_,h=>⟨h.1.mono hle,h.2.1.mono hle,EsR.mono hle h.2.2⟩
  | [],_::_,h=>h.elim
  | _::_,[],h=>h.elim
theorem Obj.slot_mono {φ φ':Phi} (hle:φ.le φ') {s T:Nat} {c:PT Value} {n:Nat} {o:Option Obj} (h:Obj.slot φ s T c n o):Obj.slot φ' s T c n o:=by
  obtain ⟨c',e,lo,hi,h1,hT,hf,h2⟩:=h
  refine ⟨c',e,lo,hi,h1,hT,hf,fun i v hv=>?_⟩
  obtain ⟨h5,h6,v',h3,h4⟩:=h2 i v hv
  exact ⟨h5,h6,v',h3,h4.mono hle⟩
theorem Obj.ro_mono {φ φ':Phi} (hle:φ.le φ') {s:Nat} {c:PT Value} {o:Option Obj} (h:Obj.roslot φ s c o):Obj.roslot φ' s c o:=by
  obtain ⟨c',e,lo,hi,h1,h2⟩:=h
  refine ⟨c',e,lo,hi,h1,fun i v hv=>?_⟩
  obtain ⟨h5,h6,v',h3,h4⟩:=h2 i v hv
  exact ⟨h5,h6,v',h3,h4.mono hle⟩
theorem OR.mono {φ φ':Phi} (hle:φ.le φ') {s T:Nat} {a:Option AObj} {o:Option Obj} (h:OR φ s T a o):OR φ' s T a o:=by
  unfold OR at *
  split
  · trivial
  · exact ⟨Obj.slot_mono hle h.1,h.2⟩
  · exact Obj.ro_mono hle h
  · exact Obj.ro_mono hle h
  · exact ⟨h.1,h.2.1.mono hle,h.2.2⟩
  · obtain ⟨h1,⟨T',h2⟩,h3⟩:=h
    exact ⟨h1,⟨T',hle _ _ h2⟩,h3⟩
  · obtain ⟨h1,h2,h3,h4⟩:=h
    exact ⟨h1,h2,h3.mono hle,h4⟩
  · rename_i x1 x2 h1 h2 h6 h7 h3 h5 h4
    split at h
    · exact absurd rfl (h1 ·)
    · exact absurd rfl (h2 _ _ _ ·)
    · exact absurd rfl (h6 _ ·)
    · exact absurd rfl (h7 _ _ ·)
    · exact (h3 _ _ _ _ _ rfl rfl).elim
    · exact (h5 _ _ _ _ _ _ _ _ _ rfl rfl).elim
    · exact (h4 _ _ _ _ _ _ _ _ rfl rfl).elim
    · exact h
def Phi.set (φ:Phi) (b:Nat) (x:Nat × Nat × Nat):Phi:=fun b'=>if b'=b then some x else φ b'
theorem Phi.le_set {φ:Phi} {b:Nat} {x:Nat × Nat × Nat} (h:φ b=none):φ.le (φ.set b x):=fun b' y hy=>by
  unfold Phi.set
  by_cases e:b'=b
  · subst e;rw [h] at hy;cases hy
  · rw [if_neg e];exact hy
def AH.new (h:AH) (o:AObj):AH:={ next:=h.next+1,mem:=h.mem.put h.next (some o),df:=h.df }
theorem AH.get_new (h:AH) (o:AObj) (b:Nat):(h.new o).get b=if b=h.next then some o else h.get b:=PT.get_put _ _ _ _
theorem AH.get_put (h:AH) (b:Nat) (o:Option AObj) (b':Nat):(h.put b o).get b'=if b'=b then o else h.get b':=PT.get_put _ _ _ _
theorem Rel.none_next {φ:Phi} {h:AH} {w:World} (r:Rel φ h w):φ h.next=none:=by
  cases e:φ h.next with
  | none=>rfl
  | some x=>have:=(r.bnd _ x.1 x.2 (by rw [e])).1;omega
theorem push_get {w:World} (o:Obj) (i:Nat) (hi:i < w.heap.size):(w.heap.push o)[i]?=w.heap[i]?:=by
  rw [Array.getElem?_push];simp [Nat.ne_of_lt hi]
theorem Rel.new {φ:Phi} {h:AH} {w:World} (r:Rel φ h w) (o:AObj) (co:Obj) (T:Nat) (ho:OR (φ.set h.next (w.heap.size,0,T)) 0 T (some o) (some co)) (hng:∀ g c,o≠.glob g c:=by exact fun _ _ h=>(by cases h)) :
    Rel (φ.set h.next (w.heap.size,0,T)) (h.new o) { w with heap:=w.heap.push co } ∧
    Fwd φ h w (φ.set h.next (w.heap.size,0,T)) (h.new o) { w with heap:=w.heap.push co }:=by
  have hn:=r.none_next
  have hle:φ.le (φ.set h.next (w.heap.size,0,T)):=Phi.le_set hn
  constructor
  · constructor
    · intro b b' s T' hb
      rw [AH.get_new]
      unfold Phi.set at hb
      by_cases e:b=h.next
      · rw [if_pos e] at hb ⊢
        cases hb
        have:(w.heap.push co)[w.heap.size]?=some co:=by simp
        rw [this];exact ho
      · rw [if_neg e] at hb ⊢
        rw [push_get _ _ (r.bnd _ _ _ hb).2]
        exact (r.blk _ _ _ _ hb).mono hle
    · intro b₁ b₂ b' s₁ s₂ h1 h2 l1 l2
      rw [AH.get_new] at l1 l2
      unfold Phi.set at h1 h2
      by_cases e1:b₁=h.next <;> by_cases e2:b₂=h.next
      · rw [e1,e2]
      · rw [if_pos e1] at h1;rw [if_neg e2] at h2
        cases h1;have:=(r.bnd _ _ _ h2).2;omega
      · rw [if_neg e1] at h1;rw [if_pos e2] at h2
        cases h2;have:=(r.bnd _ _ _ h1).2;omega
      · rw [if_neg e1] at h1 l1;rw [if_neg e2] at h2 l2
        exact r.inj _ _ _ _ _ h1 h2 l1 l2
    · intro b b' s hb
      unfold Phi.set at hb
      by_cases e:b=h.next
      · rw [if_pos e] at hb;cases hb;subst e;simp [AH.new]
      · rw [if_neg e] at hb
        have:=r.bnd _ _ _ hb
        simp [AH.new];omega
    · intro b hb
      simp only [AH.new] at hb
      rw [AH.get_new,if_neg (by omega)]
      exact r.lim b (by omega)
    · refine r.glu hle fun b g c hb=>?_
      rw [AH.get_new] at hb
      split at hb
      · cases hb;exact absurd rfl (hng _ _)
      · exact hb
  · refine ⟨by simp [AH.new],hle,?_,?_,?_,?_,by simp,rfl,rfl,?_⟩
    · intro b hb hb'
      refine ⟨?_,?_⟩
      · unfold Phi.set;rw [if_neg (by omega)];exact hb'
      · rw [AH.get_new,if_neg (by omega)]
    · intro b b' s hb hb'
      unfold Phi.set at hb
      by_cases e:b=h.next
      · rw [if_pos e] at hb;cases hb;exact .inl (Nat.le_refl _)
      · rw [if_neg e,hb'] at hb;cases hb
    · intro b hb hl
      rw [AH.get_new,if_neg (by omega)] at hl;exact hl
    · intro b hb hl
      rw [AH.get_new,if_neg (by omega)] at hl;exact hl
    · intro c hc _
      exact push_get _ _ hc
theorem Rel.drawn {φ:Phi} {h:AH} {w:World} (r:Rel φ h w) (n:Nat):Rel φ h { w with drawn:=n }∧Fwd φ h w φ h { w with drawn:=n }:=
  ⟨⟨r.blk,r.inj,r.bnd,r.lim,r.gl⟩,⟨Nat.le_refl _,fun _ _ h=>h,fun _ _ h=>⟨h,rfl⟩,(fun _ _ _ h h'=>by rw [h] at h';cases h'),fun _ _ h=>h,fun _ _ h=>h,Nat.le_refl _,rfl,rfl,fun _ _ _=>rfl⟩⟩
theorem AH.cell_get {h:AH} {b o:Nat} {v:Value} (hc:h.cell b o=some v):(∃ c n t,h.get b=some (.cells c n t)∧c.get o=some v)∨∃ c,(h.get b=some (.ro c)∨∃ g,h.get b=some (.glob g c))∧c.get o=some v:=by
  unfold AH.cell at hc
  split at hc
  · rename_i c n t e;exact .inl ⟨c,n,t,e,hc⟩
  · rename_i c e;exact .inr ⟨c,.inl e,hc⟩
  · rename_i g c e;exact .inr ⟨c,.inr ⟨g,e⟩,hc⟩
  · cases hc
theorem Rel.slot {φ:Phi} {h:AH} {w:World} (r:Rel φ h w) {b b' s T:Nat} {c:PT Value} {n t:Nat} (hb:φ b=some (b',s,T)) (hc:h.get b=some (.cells c n t)) :
    Obj.slot φ s T c n w.heap[b']?:=by
  have h3:=r.blk _ _ _ _ hb
  rw [hc] at h3
  exact h3.1
theorem Rel.typedAt {φ:Phi} {h:AH} {w:World} (r:Rel φ h w) {b b' s T:Nat} {c:PT Value} {n t:Nat} (hb:φ b=some (b',s,T)) (hc:h.get b=some (.cells c n t)) :
    Obj.typed s t w.heap[b']?:=by
  have h3:=r.blk _ _ _ _ hb
  rw [hc] at h3
  exact h3.2
theorem Rel.cell {φ:Phi} {h:AH} {w:World} (r:Rel φ h w) {b b' s T o:Nat} {v:Value} (hb:φ b=some (b',s,T)) (hc:h.cell b o=some v) :
    ∃ v',w.cell? ⟨b',o+s,none⟩=some v'∧VR φ v v'∧w.frozen? ⟨b',o+s,none⟩=false∧oneC v=true:=by
  rcases AH.cell_get hc with ⟨c,n,t,h1,h2⟩ | ⟨c,h1,h2⟩
  · obtain ⟨c',e,lo,hi,hx,_,hf,h3⟩:=r.slot hb h1
    obtain ⟨_,hone,v',h4,h5⟩:=h3 o v h2
    refine ⟨v',by simp [World.cell?,hx,h4],h5,?_,hone⟩
    have:o+s < c'.size:=(Array.getElem?_eq_some_iff.1 h4).1
    simp only [World.frozen?,hx]
    simp
    omega
  · have h3:Obj.roslot φ s c w.heap[b']?:=by
      have h3:=r.blk _ _ _ _ hb
      rcases h1 with h1 | ⟨g,h1⟩ <;> (rw [h1] at h3;exact h3)
    obtain ⟨c',e,lo,hi,hx,h3⟩:=h3
    obtain ⟨hone,hf,v',h4,h5⟩:=h3 o v h2
    refine ⟨v',by simp [World.cell?,hx,h4],h5,?_,hone⟩
    simp only [World.frozen?,hx]
    simp
    exact fun g1=>Nat.le_of_not_lt fun g2=>hf g1 g2
theorem Rel.cell_shape {φ:Phi} {h:AH} {w:World} (r:Rel φ h w) {b b' s T o:Nat} {v:Value} (hb:φ b=some (b',s,T)) (hc:h.cell b o=some v):∃ c' e f,w.heap[b']?=some (.cells c' e f)∧o+s < c'.size:=by
  rcases AH.cell_get hc with ⟨c,n,t,h1,h2⟩ | ⟨c,h1,h2⟩
  · obtain ⟨c',e,lo,hi,hx,_,hf,h3⟩:=r.slot hb h1
    obtain ⟨_,_,v',h4,_⟩:=h3 o v h2
    exact ⟨c',e,_,hx,(Array.getElem?_eq_some_iff.1 h4).1⟩
  · have h3:Obj.roslot φ s c w.heap[b']?:=by
      have h3:=r.blk _ _ _ _ hb
      rcases h1 with h1 | ⟨g,h1⟩ <;> (rw [h1] at h3;exact h3)
    obtain ⟨c',e,lo,hi,hx,h3⟩:=h3
    obtain ⟨_,_,v',h4,_⟩:=h3 o v h2
    exact ⟨c',e,_,hx,(Array.getElem?_eq_some_iff.1 h4).1⟩
def AH.st (h:AH) (b o:Nat) (v:Value):Option AH:=
  match h.mem.get b with
  | some (.cells c n t)=>match c.get o with
    | some _=>some (h.put b (some (.cells (c.put o (some v)) n t)))
    | none=>none
  | _=>none
theorem AH.st_eq {h h':AH} {b o:Nat} {v:Value} (hs:h.st b o v=some h') :
    ∃ c n t u,h.get b=some (.cells c n t)∧c.get o=some u∧h'=h.put b (some (.cells (c.put o (some v)) n t))∧h.cell b o=some u:=by
  unfold AH.st at hs
  split at hs
  · rename_i c n t e
    split at hs
    · rename_i u hu;cases hs;exact ⟨c,n,t,u,e,hu,rfl,by simp [AH.cell,e,hu]⟩
    · cases hs
  · cases hs
theorem setCell_heap {w:World} {a:Addr} {v:Value} {c:Array Value} {e:TypeId} {f:Nat × Nat} (ha:a.spot=none) (hb:w.heap[a.block]?=some (.cells c e f)) (i:Nat) :
    (w.setCell a v).heap[i]?=if i=a.block then some (.cells (c.setIfInBounds a.off v) e f) else w.heap[i]?:=by
  unfold World.setCell
  simp only [Array.getElem?_modify]
  by_cases h:i=a.block
  · subst h;simp [hb,ha]
  · simp [h,Ne.symm h]
theorem Rel.st {φ:Phi} {h h':AH} {w:World} (r:Rel φ h w) {b b' s T o:Nat} {v v':Value} (hb:φ b=some (b',s,T)) (hs:h.st b o v=some h') (hv:VR φ v v') (hone:oneC v=true) :
    Rel φ h' (w.setCell ⟨b',o+s,none⟩ v')∧Fwd φ h w φ h' (w.setCell ⟨b',o+s,none⟩ v'):=by
  obtain ⟨c,n,t,u,h1,h2,rfl,_⟩:=AH.st_eq hs
  obtain ⟨c',e,lo,hi,hx,hT,hfz,hcs⟩:=r.slot hb h1
  have hheap:=fun i=>setCell_heap (w:=w) (a:=⟨b',o+s,none⟩) (v:=v') rfl hx i
  have hsz:(w.setCell ⟨b',o+s,none⟩ v').heap.size=w.heap.size:=by simp [World.setCell]
  have live:h.get b≠none:=by rw [h1];simp
  constructor
  · constructor
    · intro x y z T' hxy
      rw [AH.get_put,hheap]
      by_cases e1:x=b
      · subst e1
        rw [hb] at hxy;cases hxy
        rw [if_pos rfl,if_pos rfl]
        refine ⟨⟨_,e,lo,hi,rfl,by simpa using hT,by simpa using hfz,?_⟩,by
          rcases r.typedAt hb h1 with h0 | ⟨c₀,e₀,fr,h9,h10⟩
          · exact .inl h0
          · rw [hx] at h9;cases h9;exact .inr ⟨_,_,_,rfl,h10⟩⟩
        intro i v₁ hv₁
        rw [PT.get_put] at hv₁
        obtain ⟨hlt,_,u',h5,h6⟩:=hcs o u h2
        by_cases e2:i=o
        · subst e2
          rw [if_pos rfl] at hv₁;cases hv₁
          refine ⟨hlt,hone,v',?_,hv⟩
          have:i+s < c'.size:=(Array.getElem?_eq_some_iff.1 h5).1
          simp [this]
        · rw [if_neg e2] at hv₁
          obtain ⟨g1,g2,u₁,h8,h9⟩:=hcs i v₁ hv₁
          refine ⟨g1,g2,u₁,?_,h9⟩
          rw [Array.getElem?_setIfInBounds_ne (by simp;omega)];exact h8
      · rw [if_neg e1]
        by_cases e2:y=b'
        · subst e2
          cases e3:h.get x with
          | none=>trivial
          | some o=>exact absurd (r.inj _ _ _ _ _ hxy hb (by rw [e3];simp) live) e1
        · simp only [e2,if_false]
          exact r.blk _ _ _ _ hxy
    · intro b₁ b₂ y s₁ s₂ g1 g2 l1 l2
      refine r.inj _ _ _ _ _ g1 g2 ?_ ?_
      · rw [AH.get_put] at l1
        by_cases e1:b₁=b
        · rw [e1];exact live
        · rw [if_neg e1] at l1;exact l1
      · rw [AH.get_put] at l2
        by_cases e1:b₂=b
        · rw [e1];exact live
        · rw [if_neg e1] at l2;exact l2
    · intro x y z hxy
      rw [hsz];exact r.bnd _ _ _ hxy
    · intro x hx
      rw [AH.get_put,if_neg (by have:=(r.bnd _ _ _ hb).1;show x≠b;have:h.next≤x:=hx;omega)]
      exact r.lim x hx
    · refine r.glu (fun _ _ h=>h) fun x g c hx=>?_
      rw [AH.get_put] at hx
      split at hx
      · cases hx
      · exact hx
  · refine ⟨Nat.le_refl _,fun _ _ h=>h,?_,(fun _ _ _ h h'=>by rw [h] at h';cases h'),?_,?_,by rw [hsz];exact Nat.le_refl _,rfl,rfl,?_⟩
    · intro x hx hn
      refine ⟨hn,?_⟩
      rw [AH.get_put,if_neg (by rintro rfl;rw [hb] at hn;cases hn)]
    · intro x hx hl
      rw [AH.get_put] at hl
      by_cases e1:x=b
      · rw [e1];exact live
      · rw [if_neg e1] at hl;exact hl
    · intro x hx hl
      rw [AH.get_put] at hl
      by_cases e1:x=b
      · rw [e1,h1];rfl
      · rw [if_neg e1] at hl;exact hl
    · intro x hx hk
      rw [hheap,if_neg]
      rintro rfl
      have h9:=hk b (s,T) hb
      rw [h1] at h9;cases h9
theorem Rel.newCells {φ:Phi} {h:AH} {w:World} (r:Rel φ h w) {l l':List Value} (hv:VRs φ l l') (c:PT Value) (n:Nat) (hc:∀ i v,c.get i=some v→i < n∧oneC v=true∧l[i]?=some v)
    (ca:Array Value) (e:TypeId) (hca:∀ (i:Nat) (v':Value),l'[i]?=some v'→ca[i]?=some v') (t:Nat:=0) (ht:t=0∨(t=2 * e+1∨t=2 * e+2∧0=0):=by exact .inl rfl) :
    Rel (φ.set h.next (w.heap.size,0,ca.size)) (h.new (.cells c n t)) { w with heap:=w.heap.push (.cells ca e) } ∧
    Fwd φ h w (φ.set h.next (w.heap.size,0,ca.size)) (h.new (.cells c n t)) { w with heap:=w.heap.push (.cells ca e) }:=by
  refine r.new _ _ _ ?_
  refine ⟨⟨ca,e,0,0,rfl,Nat.le_refl _,.inl rfl,fun i v hi=>?_⟩,ht.imp id fun h=>⟨ca,e,_,rfl,h⟩⟩
  obtain ⟨g1,g2,g3⟩:=hc i v hi
  obtain ⟨v',h1,h2⟩:=hv.get i v g3
  exact ⟨g1,g2,v',hca i v' h1,h2.mono (Phi.le_set r.none_next)⟩
theorem Phi.set_self (φ:Phi) (b:Nat) (x:Nat × Nat × Nat):φ.set b x b=some x:=by simp [Phi.set]
theorem ofList_get (l:List Value) (i:Nat) (v:Value) (h:(PT.ofList l 0 .leaf).get i=some v):l[i]?=some v:=by
  rw [PT.get_ofList,if_pos (Nat.zero_le _),PT.get_leaf,Nat.sub_zero] at h
  cases e:l[i]? with
  | none=>rw [e] at h;cases h
  | some u=>rw [e] at h;exact h
def allC:List Value→Bool
  | []=>true
  | v::l=>bif oneC v then allC l else false
theorem allC_get:∀ {l:List Value},allC l=true→∀ (i:Nat) (v:Value),l[i]?=some v→oneC v=true
  | [],_=>by intro i v h;simp at h
  | u::l,h=>by
    intro i v hi
    unfold allC at h
    cases ho:oneC u with
    | false=>rw [ho] at h;cases h
    | true=>
      rw [ho,cond_true] at h
      cases i with
      | zero=>simp at hi;subst hi;exact ho
      | succ i=>exact allC_get h i v (by simpa using hi)
def PT.rep (z:Value):Nat→Nat→PT Value
  | 0,_=>.leaf
  | _+1,0=>.leaf
  | f+1,n+1=>.node (some z) (PT.rep z f ((n+1) / 2)) (PT.rep z f (n / 2))
theorem PT.get_rep (z:Value):∀ (f n k:Nat) (v:Value),(PT.rep z f n).get k=some v→k < n∧v=z:=by
  intro f
  induction f with
  | zero=>intro n k v h;rw [PT.rep,PT.get_leaf] at h;cases h
  | succ f ih=>
    intro n k v h
    cases n with
    | zero=>rw [PT.rep,PT.get_leaf] at h;cases h
    | succ n=>
      rw [PT.rep,PT.get_parts] at h
      by_cases k0:k=0
      · subst k0;cases h;exact ⟨by omega,rfl⟩
      · rw [beq_false_of_ne k0,cond_false] at h
        by_cases ko:k % 2=1
        · rw [show Nat.beq (k % 2) 1=true from by rw [ko];rfl,cond_true] at h
          have:=ih _ _ _ h
          exact ⟨by omega,this.2⟩
        · rw [beq_false_of_ne ko,cond_false] at h
          have:=ih _ _ _ h
          exact ⟨by omega,this.2⟩
end Go.Den
namespace Go.Den
noncomputable section
structure TI where
  desc:TypeDesc
  size:Nat
  bytes:Nat
  zero:List Value
def TI.agg (t:TI):Bool:=match t.desc with | .struct _ | .array _ _=>true | _=>false
structure FI where
  body:Code
  ntmps:Nat
  results:Array ResultVar
inductive XK where
  | nop
  | mark
  | load (k:IntKind)
  | store
  | cas (k:IntKind)
  | add (k:IntKind)
  | cntS
  | idxB
  | same
structure Env where
  ty:Nat→Option TI
  fn:Nat→Option FI
  meth:Nat→String→Option Nat
  ext:Nat→Option XK
  key:Nat→Option (Value→Bool)
def TIok (P:Program) (t:TypeId) (ti:TI):Prop:=
  P.underlying t=some ti.desc∧∃ i z,P.info? t=some i∧i.size=ti.size∧i.bytes=ti.bytes∧i.zero=some z∧z.cells.toList=ti.zero∧(ti.agg=false→z.cells=#[z])
section
variable {P:Program} {t:TypeId} {ti:TI} (w:World)
theorem run_ty (h:TIok P t ti):(underlying t).run P w=.ok ti.desc w:=by
  simp [underlying,h.1]
theorem run_info (h:TIok P t ti):∃ i z,(typeInfo t).run P w=.ok i w∧i.size=ti.size∧i.bytes=ti.bytes∧i.zero=some z∧z.cells.toList=ti.zero∧(ti.agg=false→z.cells=#[z]):=by
  obtain ⟨_,i,z,h1,h2⟩:=h
  exact ⟨i,z,by simp [typeInfo,h1],h2⟩
theorem run_size (h:TIok P t ti):(sizeOf t).run P w=.ok ti.size w:=by
  obtain ⟨i,z,h1,h2,_⟩:=run_info w h
  simp [Go.sizeOf,h1,h2]
theorem run_bytes (h:TIok P t ti):∃ i,(typeInfo t).run P w=.ok i w∧i.bytes=ti.bytes:=by
  obtain ⟨i,z,h1,h2,h3,_⟩:=run_info w h
  exact ⟨i,h1,h3⟩
theorem run_zero (h:TIok P t ti):∃ z,(zeroValue t).run P w=.ok z w∧z.cells.toList=ti.zero∧(ti.agg=false→z.cells=#[z]):=by
  obtain ⟨i,z,h1,_,_,h4,h5,h6⟩:=run_info w h
  exact ⟨z,by simp [zeroValue,h1,h4],h5,h6⟩
theorem run_agg (h:TIok P t ti):(isAgg t).run P w=.ok ti.agg w:=by
  simp only [isAgg,Sem.run_bind,run_ty w h,Result.andThen_ok,TI.agg]
  cases ti.desc <;> rfl
end
def junk:Value:=.tuple #[]
def undV:Value:=.chan none
def gt (l:List Value) (t:Nat):Value:=List.rec (motive:=fun _=>Nat→Value) (fun _=>junk) (fun x _ ih t=>Nat.rec (motive:=fun _=>Value) x (fun t' _=>ih t') t) l t
def setR (l:List Value) (t:Nat) (v:Value):List Value:=List.rec (motive:=fun _=>Nat→List Value) (fun _=>[]) (fun x xs ih t=>Nat.rec (motive:=fun _=>List Value) (v::xs) (fun t' _=>x::ih t') t) l t
theorem gt_def:∀ (l:List Value) (t:Nat),gt l t=l.getD t junk
  | [],_=>rfl
  | _::_,0=>rfl
  | _::l,t+1=>gt_def l t
theorem setR_def (v:Value):∀ (l:List Value) (t:Nat),setR l t v=l.set t v
  | [],_=>rfl
  | _::_,0=>rfl
  | x::l,t+1=>congrArg (x::·) (setR_def v l t)
def sto (tm:List Value) (d:Option Tmp) (v:Value):List Value:=match d with | some d=>setR tm d v | none=>tm
def vBool:Value→Option Bool
  | .bool b=>some b
  | _=>none
def vGuard (want:Bool):Value→Option Bool
  | .bool b=>some (b == want)
  | .chan none=>some false
  | _=>none
section
variable {φ:Phi} {v:Value}
theorem VR.bool_inv {b:Bool} (h:VR φ (.bool b) v):v=.bool b:=by cases h;rfl
theorem VR.int_inv {k:IntKind} {n:Int} (h:VR φ (.int k n) v):v=.int k n:=by cases h;rfl
theorem VR.und_inv (h:VR φ (.chan none) v):v=.tuple #[]:=by cases h;rfl
end
def ld1 (p:Value) (h:AH):Option Value:=
  match p with
  | .pointer (some ⟨b,o,_⟩)=>h.cell b o
  | _=>none
def AH.cellsN (h:AH) (b:Nat):Nat→Nat→Option (List Value)
  | _,0=>some []
  | o,n+1=>(h.cell b o).bind fun v=>(h.cellsN b (o+1) n).bind fun l=>some (v::l)
def ldN (n:Nat) (p:Value) (h:AH):Option Value:=
  match p with
  | .pointer (some ⟨b,o,_⟩)=>(h.cellsN b o n).bind fun l=>some (.agg ⟨l⟩)
  | _=>none
theorem add_cells (b' x s o:Nat):Addr.add ⟨b',x+s,none⟩ o=⟨b',x+o+s,none⟩:=by
  unfold Addr.add
  split
  · simp_all
  · simp;omega
theorem cellsN_sound {P:Program} {φ:Phi} {h:AH} {w:World} (r:Rel φ h w) {b b' s T:Nat} (hb:φ b=some (b',s,T)) (o:Nat) :
    ∀ (n i:Nat) (l:List Value) (acc:Array Value),h.cellsN b (o+i) n=some l →
      ∃ l',(∀ d,(loadCellsFrom ⟨b',o+s,none⟩ i n acc).run P { w with drawn:=d }=.ok (acc++⟨l'⟩) { w with drawn:=d })∧VRs φ l l':=by
  intro n
  induction n with
  | zero=>intro i l acc hl;simp [AH.cellsN] at hl;subst hl;exact ⟨[],by simp [loadCellsFrom],.nil⟩
  | succ n ih=>
    intro i l acc hl
    simp only [AH.cellsN] at hl
    cases hc:h.cell b (o+i) with
    | none=>rw [hc] at hl;cases hl
    | some v=>
      rw [hc] at hl
      cases hr:h.cellsN b (o+i+1) n with
      | none=>simp [hr] at hl
      | some l₁=>
        simp [hr] at hl
        subst hl
        obtain ⟨v',h1,h2,_,_⟩:=r.cell hb hc
        obtain ⟨l',h3,h4⟩:=ih (i+1) l₁ (acc.push v') hr
        refine ⟨v'::l',fun d=>?_,.cons _ _ _ _ h2 h4⟩
        have h1':({ w with drawn:=d }:World).cell? ⟨b',o+i+s,none⟩=some v':=h1
        simp only [loadCellsFrom,Sem.run_bind,add_cells,run_load,h1',Result.andThen_ok,h3]
        congr 1
        apply Array.ext'
        simp
theorem ld1_sound {P:Program} {φ:Phi} {h:AH} {w:World} {t:TypeId} {ti:TI} (r:Rel φ h w) (ht:TIok P t ti) (ha:ti.agg=false) {p p' v:Value} (hp:VR φ p p')
    (hl:ld1 p h=some v):∃ v',(Instr.loadAt t p').run P w=.ok v' w∧VR φ v v':=by
  unfold ld1 at hl
  split at hl
  · rename_i b o sp
    cases hp with
    | ptr b o b' s T hb=>
      obtain ⟨v',h1,h2,_,_⟩:=r.cell hb hl
      refine ⟨v',?_,h2⟩
      simp [Instr.loadAt,Instr.sureAddr,loadVar,run_agg w ht,ha,h1]
  · cases hl
theorem ldN_sound {P:Program} {φ:Phi} {h:AH} {w:World} {t:TypeId} {ti:TI} (r:Rel φ h w) (ht:TIok P t ti) (ha:ti.agg=true) {p p' v:Value} (hp:VR φ p p')
    (hl:ldN ti.size p h=some v):∃ v',(Instr.loadAt t p').run P w=.ok v' w∧VR φ v v':=by
  unfold ldN at hl
  split at hl
  · rename_i b o sp
    cases hp with
    | ptr b o b' s T hb=>
      cases hc:h.cellsN b o ti.size with
      | none=>simp [hc] at hl
      | some l=>
        simp [hc] at hl
        subst hl
        obtain ⟨l',h1,h2⟩:=cellsN_sound (P:=P) r hb o ti.size 0 l #[] hc
        refine ⟨.agg ⟨l'⟩,?_,.agg _ _ h2⟩
        have h1:=h1 w.drawn
        simp [Instr.loadAt,Instr.sureAddr,loadVar,run_agg w ht,ha,run_size w ht,loadCells,h1]
  · cases hl
def pNil:Value→Option Value
  | .pointer (some a)=>some (.pointer (some a))
  | .func (.func f) a c=>some (.func (.func f) a c)
  | .func (.yield l) a c=>some (.func (.yield l) a c)
  | _=>none
def pFld (off:Nat):Value→Option Value
  | .pointer (some ⟨b,o,_⟩)=>some (.pointer (some ⟨b,o+off,none⟩))
  | _=>none
def ixOk:Int→Nat→Option Nat
  | .ofNat m,n=>bif Nat.blt m n then some m else none
  | .negSucc _,_=>none
def pIxS (size:Nat):Value→Value→Option Value
  | .slice (some ⟨b,o,_⟩) n _,.int _ i=>(ixOk i n).bind fun m=>some (.pointer (some ⟨b,o+m * size,none⟩))
  | _,_=>none
def pIxA (len size:Nat):Value→Value→Option Value
  | .pointer (some ⟨b,o,_⟩),.int _ i=>(ixOk i len).bind fun m=>some (.pointer (some ⟨b,o+m * size,none⟩))
  | _,_=>none
theorem ixOk_eq {i:Int} {n m:Nat} (h:ixOk i n=some m):i=(m:Int)∧m < n:=by
  unfold ixOk at h
  split at h
  · rename_i a
    cases hb:Nat.blt a n with
    | false=>rw [hb] at h;cases h
    | true=>
      rw [hb] at h;cases h
      exact ⟨rfl,by have:=Nat.le_of_ble_eq_true hb;omega⟩
  · cases h
theorem pNil_sound {P:Program} {φ:Phi} {w:World} {x x' v:Value} (hx:VR φ x x') (hl:pNil x=some v) :
    ∃ v',(match x' with
    | .pointer none | .nilIface | .nilFunc=>(runtimePanic .nilDeref:Sem Next)
    | .func (.method name) first captured=>
      match (first[0]?:Option Value) with
      | some .nilIface=>runtimePanic .nilDeref
      | some (.iface t w)=>do
        if (← nilAhead ((← program).types.size+Made.depth) t w name) != some false then
          unsupported (.noEntry "op/nilCheck.the method's receiver behind this interface value is a nil pointer, or cannot be seen to be none, and the arguments act or may panic (ledger 612)")
        pure (.value (.func (.method name) first captured))
      | _=>pure (.value (.func (.method name) first captured))
    | x=>pure (.value x)).run P w=.ok (.value v') w∧VR φ v v':=by
  unfold pNil at hl
  split at hl <;> cases hl
  · cases hx with
    | ptr b o b' s T hb=>exact ⟨_,rfl,.ptr b o b' s T hb⟩
  · cases hx with
    | func fn hy a a' c c' ha hc=>exact ⟨_,rfl,.func _ hy _ _ _ _ ha hc⟩
  · cases hx with
    | func fn hy a a' c c' ha hc=>exact absurd rfl (hy _)
    | yield l l' T h=>exact ⟨_,rfl,.yield _ _ _ h⟩
theorem pFld_sound {P:Program} {φ:Phi} {w:World} {t:TypeId} {ti fi:TI} {fs:Array Field} {i:Nat} {f:Field} (ht:TIok P t ti) (hd:ti.desc=.struct fs) (hf:fs[i]?=some f)
    (hft:TIok P f.type fi) (hz:fi.size≠0) {x x' v:Value} (hx:VR φ x x') (hl:pFld f.offset x=some v):∃ v',(Instr.fieldAt t x' i).run P w=.ok v' w∧VR φ v v':=by
  unfold pFld at hl
  split at hl <;> cases hl
  rename_i b o sp
  cases hx with
  | ptr _ _ b' s T hb=>
    refine ⟨_,?_,.ptr b (o+f.offset) b' s T hb⟩
    simp [Instr.fieldAt,run_ty w ht,hd,hf,Instr.sureAddr,fieldPlace,run_size w hft,hz,add_cells]
theorem pIxS_sound {P:Program} {φ:Phi} {w:World} {t e:TypeId} {ti ei:TI} (ht:TIok P t ti) (hd:ti.desc=.slice e) (he:TIok P e ei) {x x' y y' v:Value} (hx:VR φ x x') (hy:VR φ y y')
    (hl:pIxS ei.size x y=some v):∃ v',(Instr.indexAt t x' y').run P w=.ok v' w∧VR φ v v':=by
  unfold pIxS at hl
  split at hl
  · rename_i b o sp n c k i
    cases hm:ixOk i n with
    | none=>simp [hm] at hl
    | some m=>
      simp [hm] at hl
      subst hl
      obtain ⟨rfl,hlt⟩:=ixOk_eq hm
      cases hy
      cases hx with
      | slice b o b' s T n c c' hb hn hc=>
        refine ⟨_,?_,.ptr b (o+m * ei.size) b' s T hb⟩
        simp [Instr.indexAt,asIntOf,run_ty w ht,hd,run_size w he,hlt,add_cells]
      | empty=>omega
  · cases hl
theorem pIxA_sound {P:Program} {φ:Phi} {w:World} {t e:TypeId} {len:Nat} {ti ei:TI} (ht:TIok P t ti) (hd:ti.desc=.array len e) (he:TIok P e ei) {x x' y y' v:Value} (hx:VR φ x x') (hy:VR φ y y')
    (hl:pIxA len ei.size x y=some v):∃ v',(Instr.indexAt t x' y').run P w=.ok v' w∧VR φ v v':=by
  unfold pIxA at hl
  split at hl
  · rename_i b o sp k i
    cases hm:ixOk i len with
    | none=>simp [hm] at hl
    | some m=>
      simp [hm] at hl
      subst hl
      obtain ⟨rfl,hlt⟩:=ixOk_eq hm
      cases hy
      cases hx with
      | ptr b o b' s T hb=>
        refine ⟨_,?_,.ptr b (o+m * ei.size) b' s T hb⟩
        simp [Instr.indexAt,asIntOf,run_ty w ht,hd,run_size w he,hlt,add_cells,Instr.sureAddr]
  · cases hl
end
end Go.Den
namespace Go.Den
noncomputable section
def ikn:IntKind→Nat
  | .i8=>0 | .i16=>1 | .i32=>2 | .i64=>3 | .u8=>4 | .u16=>5 | .u32=>6 | .u64=>7
theorem ikn_inj {a b:IntKind} (h:Nat.beq (ikn a) (ikn b)=true):a=b:=by
  have:=Nat.eq_of_beq_eq_true h
  cases a <;> cases b <;> first | rfl | (simp [ikn] at this)
def ikLim:IntKind→Nat
  | .i8=>128 | .i16=>32768 | .i32=>2147483648 | .i64=>9223372036854775808 | .u8=>256 | .u16=>65536 | .u32=>4294967296 | .u64=>18446744073709551616
def wr (k:IntKind):Int→Int
  | .ofNat m=>bif Nat.blt m (ikLim k) then .ofNat m else k.wrap (.ofNat m)
  | .negSucc m=>k.wrap (.negSucc m)
theorem wrap_small (k:IntKind) (m:Nat) (h:m < ikLim k):k.wrap (m:Int)=m:=by
  unfold IntKind.wrap
  cases k <;> simp [IntKind.bits,IntKind.signed,ikLim] at * <;> omega
theorem wr_eq (k:IntKind) (n:Int):wr k n=k.wrap n:=by
  cases n with
  | negSucc m=>rfl
  | ofNat m=>
    show (bif Nat.blt m (ikLim k) then Int.ofNat m else k.wrap (Int.ofNat m))=_
    cases hb:Nat.blt m (ikLim k) with
    | false=>rfl
    | true=>
      exact (wrap_small k m (by have:=Nat.le_of_ble_eq_true hb;omega)).symm
def iAdd (x y:Value):Option Value:=match x,y with | .int k a,.int k' b=>bif Nat.beq (ikn k) (ikn k') then some (.int k (wr k (a+b))) else none | _,_=>none
def iSub (x y:Value):Option Value:=match x,y with | .int k a,.int k' b=>bif Nat.beq (ikn k) (ikn k') then some (.int k (wr k (a - b))) else none | _,_=>none
def iMul (x y:Value):Option Value:=match x,y with | .int k a,.int k' b=>bif Nat.beq (ikn k) (ikn k') then some (.int k (wr k (a * b))) else none | _,_=>none
def iQuo (x y:Value):Option Value:=match x,y with | .int k a,.int k' b=>bif Nat.beq (ikn k) (ikn k') then bif b == 0 then none else some (.int k (wr k (a.tdiv b))) else none | _,_=>none
def iRem (x y:Value):Option Value:=match x,y with | .int k a,.int k' b=>bif Nat.beq (ikn k) (ikn k') then bif b == 0 then none else some (.int k (a.tmod b)) else none | _,_=>none
def bitsOf (k:IntKind) (f:Nat→Nat→Nat) (g:BitVec k.bits→BitVec k.bits→BitVec k.bits):Int→Int→Int
  | .ofNat a,.ofNat b=>wr k (.ofNat (f (a % 2 ^ k.bits) (b % 2 ^ k.bits)))
  | a,b=>wr k ((g (BitVec.ofInt k.bits a) (BitVec.ofInt k.bits b)).toNat:Int)
def iAnd (x y:Value):Option Value:=match x,y with | .int k a,.int k' b=>bif Nat.beq (ikn k) (ikn k') then some (.int k (bitsOf k Nat.land (· &&& ·) a b)) else none | _,_=>none
def iOr (x y:Value):Option Value:=match x,y with | .int k a,.int k' b=>bif Nat.beq (ikn k) (ikn k') then some (.int k (bitsOf k Nat.lor (· ||| ·) a b)) else none | _,_=>none
def iXor (x y:Value):Option Value:=match x,y with | .int k a,.int k' b=>bif Nat.beq (ikn k) (ikn k') then some (.int k (bitsOf k Nat.xor (· ^^^ ·) a b)) else none | _,_=>none
def iShl (x y:Value):Option Value:=match x,y with | .int k a,.int _ b=>(match b with | .ofNat n=>some (.int k (wr k (a * 2 ^ (min n k.bits)))) | .negSucc _=>none) | _,_=>none
def iShr (x y:Value):Option Value:=match x,y with | .int k a,.int _ b=>(match b with | .ofNat n=>some (.int k (a.fdiv (2 ^ (min n k.bits)))) | .negSucc _=>none) | _,_=>none
def ieq:Int→Int→Bool
  | .ofNat a,.ofNat b=>Nat.beq a b
  | .negSucc a,.negSucc b=>Nat.beq a b
  | _,_=>false
def ilt:Int→Int→Bool
  | .ofNat a,.ofNat b=>Nat.blt a b
  | .negSucc a,.negSucc b=>Nat.blt b a
  | .negSucc _,.ofNat _=>true
  | .ofNat _,.negSucc _=>false
theorem ieq_eq (a b:Int):ieq a b=(a == b):=by
  rw [Bool.eq_iff_iff]
  cases a <;> cases b <;> simp [ieq] <;> omega
theorem ilt_eq (a b:Int):ilt a b=decide (a < b):=by
  rw [Bool.eq_iff_iff]
  cases a <;> cases b <;> simp [ilt,Nat.blt] <;> omega
def iEql (x y:Value):Option Value:=match x,y with | .int k a,.int k' b=>bif Nat.beq (ikn k) (ikn k') then some (.bool (ieq a b)) else none | _,_=>none
def iNeq (x y:Value):Option Value:=match x,y with | .int k a,.int k' b=>bif Nat.beq (ikn k) (ikn k') then some (.bool (!ieq a b)) else none | _,_=>none
def iLss (x y:Value):Option Value:=match x,y with | .int k a,.int k' b=>bif Nat.beq (ikn k) (ikn k') then some (.bool (ilt a b)) else none | _,_=>none
def iLeq (x y:Value):Option Value:=match x,y with | .int k a,.int k' b=>bif Nat.beq (ikn k) (ikn k') then some (.bool (!ilt b a)) else none | _,_=>none
def sEql (x y:Value):Option Value:=match x,y with | .string a,.string b=>some (.bool (a.toList == b.toList)) | _,_=>none
def sNeq (x y:Value):Option Value:=match x,y with | .string a,.string b=>some (.bool (!(a.toList == b.toList))) | _,_=>none
def sLss (x y:Value):Option Value:=match x,y with | .string a,.string b=>some (.bool (Op.bytesLess a.toList b.toList)) | _,_=>none
def sGtr (x y:Value):Option Value:=match x,y with | .string a,.string b=>some (.bool (!(Op.bytesLess a.toList b.toList || a.toList == b.toList))) | _,_=>none
def sAdd (x y:Value):Option Value:=match x,y with | .string a,.string b=>bif Nat.blt (a.size+b.size) 1099511627776 then some (.string (a++b)) else none | _,_=>none
def vEql (d:TypeDesc) (cst:Bool) (x y:Value):Option Bool:=
  match d with
  | .bool=>(match x,y with | .bool a,.bool b=>some (a == b) | _,_=>none)
  | .pointer _=>(match x,y with
    | .pointer none,.pointer none=>some true
    | .pointer (some _),.pointer none=>some false
    | .pointer none,.pointer (some _)=>some false
    | _,_=>none)
  | .slice _=>(match x,y with
    | .slice none _ _,.slice none _ _=>some true
    | .slice (some _) _ _,.slice none _ _=>some false
    | .slice none _ _,.slice (some _) _ _=>some false
    | _,_=>none)
  | .map _ _=>(match x,y with
    | .map none,.map none=>some true
    | .map (some _),.map none=>some false
    | .map none,.map (some _)=>some false
    | _,_=>none)
  | .interface _=>(match x,y with
    | .nilIface,.nilIface=>bif cst then some true else none
    | .iface _ _,.nilIface=>some false
    | .nilIface,.iface _ _=>some false
    | _,_=>none)
  | _=>none
def vBin (op:BinOp) (d:TypeDesc) (cst:Bool) (x y:Value):Option Value:=
  match d with
  | .int _=>(match op with
    | .add=>iAdd x y | .sub=>iSub x y | .mul=>iMul x y | .quo=>iQuo x y | .rem=>iRem x y
    | .and=>iAnd x y | .or=>iOr x y | .xor=>iXor x y | .shl=>iShl x y | .shr=>iShr x y
    | .eql=>iEql x y | .neq=>iNeq x y | .lss=>iLss x y | .leq=>iLeq x y | .gtr=>iLss y x | .geq=>iLeq y x
    | _=>none)
  | .string=>(match op with | .add=>sAdd x y | .eql=>sEql x y | .neq=>sNeq x y | .lss=>sLss x y | .gtr=>sGtr x y | _=>none)
  | d=>(match op with
    | .eql=>(vEql d cst x y).bind fun b=>some (.bool b)
    | .neq=>(vEql d cst x y).bind fun b=>some (.bool (!b))
    | _=>none)
def BinOp.sh:BinOp→Bool
  | .shl | .shr=>true
  | _=>false
theorem bitsOf_eq (k:IntKind) (f:Nat→Nat→Nat) (g:BitVec k.bits→BitVec k.bits→BitVec k.bits) (h:∀ a b:BitVec k.bits,(g a b).toNat=f a.toNat b.toNat) (a b:Int) :
    bitsOf k f g a b=k.wrap ((g (BitVec.ofInt k.bits a) (BitVec.ofInt k.bits b)).toNat:Int):=by
  unfold bitsOf
  split
  · rename_i a b
    rw [wr_eq]
    congr 1
    show ((f (a % 2 ^ k.bits) (b % 2 ^ k.bits):Nat):Int)=_
    rw [h]
    simp
  · rw [wr_eq]
section
variable {P:Program} {φ:Phi} {w:World} {x x' y y' v:Value} {t:TypeId}
theorem ints (f:Int→Int→Value) {g:Value→Value→Option Value} (hg:∀ x y,g x y=match x,y with | .int k a,.int k' b=>(bif Nat.beq (ikn k) (ikn k') then some (f a b) else none) | _,_=>none)
    (h:g x y=some v):∃ k a b,x=.int k a∧y=.int k b∧v=f a b:=by
  rw [hg] at h
  split at h
  · rename_i k a k' b
    cases hb:Nat.beq (ikn k) (ikn k') with
    | false=>rw [hb] at h;cases h
    | true=>
      rw [hb] at h
      obtain rfl:=ikn_inj hb
      cases h
      exact ⟨_,_,_,rfl,rfl,rfl⟩
  · cases h
theorem ints2 {f:IntKind→Int→Int→Option Value} {g:Value→Value→Option Value} (hg:∀ x y,g x y=match x,y with | .int k a,.int k' b=>(bif Nat.beq (ikn k) (ikn k') then f k a b else none) | _,_=>none)
    (h:g x y=some v):∃ k a b,x=.int k a∧y=.int k b∧f k a b=some v:=by
  rw [hg] at h
  split at h
  · rename_i k a k' b
    cases hb:Nat.beq (ikn k) (ikn k') with
    | false=>rw [hb] at h;cases h
    | true=>
      rw [hb] at h
      obtain rfl:=ikn_inj hb
      exact ⟨_,_,_,rfl,rfl,h⟩
  · cases h
theorem vEql_sound {ti:TI} {d:TypeDesc} {cst:Bool} {b:Bool} (ht:TIok P t ti) (hd:ti.desc=d) (hx:VR φ x x') (hy:VR φ y y') (hl:vEql d cst x y=some b) :
    (Op.equal t x' y').run P w=.ok b w∧binOp .eql t x' y'=(do pure (.bool (← Op.equal t x' y')))∧binOp .neq t x' y'=(do pure (.bool (!(← Op.equal t x' y'))))∧(∀ a,x'≠.agg a) ∧
    ((x'=.nilIface∧y'=.nilIface)→cst=true):=by
  have hu:∀ n,(Op.equalIn (n+1) t x' y').run P w=.ok b w→(Op.equalIn (n+1) t x' y').run P w=.ok b w:=fun _ h=>h
  have hq:∀ x y,Op.equal t x y=Op.equalIn (9999+1) t x y:=fun _ _=>rfl
  generalize hn:9999=n at hq
  clear hn hu
  unfold vEql at hl
  split at hl
  · split at hl <;> cases hl
    cases hx;cases hy
    refine ⟨?_,rfl,rfl,by simp,by simp⟩
    simp [hq,Op.equalIn,run_ty w ht,hd]
  · split at hl <;> cases hl <;> cases hx <;> cases hy <;> (refine ⟨?_,rfl,rfl,by simp,by simp⟩;simp [hq,Op.equalIn,run_ty w ht,hd])
  · split at hl <;> cases hl <;> cases hx <;> cases hy <;> (refine ⟨?_,rfl,rfl,by simp,by simp⟩;simp [hq,Op.equalIn,run_ty w ht,hd])
  · split at hl <;> cases hl <;> cases hx <;> cases hy <;> (refine ⟨?_,rfl,rfl,by simp,by simp⟩;simp [hq,Op.equalIn,run_ty w ht,hd])
  · split at hl
    · cases cst <;> cases hl
      cases hx;cases hy
      refine ⟨?_,rfl,rfl,by simp,by simp⟩
      simp [hq,Op.equalIn,run_ty w ht,hd]
    all_goals (cases hl <;> cases hx <;> cases hy <;> (refine ⟨?_,rfl,rfl,by simp,by simp⟩;simp [hq,Op.equalIn,run_ty w ht,hd]))
  · cases hl
end
end
end Go.Den
namespace Go.Den
noncomputable section
def isC:Operand→Bool
  | .const _=>true
  | _=>false
section
variable {P:Program} {φ:Phi} {w:World} {x x' y y' v:Value} {t:TypeId}
theorem guard_nil (op:BinOp) (ox oy:Operand) (h1:∀ a,x'≠.agg a) (h2:¬ (x'=.nilIface∧y'=.nilIface)∨(isC ox || isC oy)=true) :
    (eqGuard op t ox oy x' y').run P w=.ok () w:=by
  have key:(match x',y' with
      | Value.nilIface,Value.nilIface=>do
        if (ox matches .const _) || (oy matches .const _) then return
        if ← Op.eqGuardIn Op.maxDepth t x' y' then unsupported (.noEntry "binop/eql: two nil values of an interface type with methods, neither of them the literal nil")
      | Value.agg _,Value.agg _=>do
        if !(← program).eqGuardType (← program).depth t then return
        if ← Op.eqGuardIn Op.maxDepth t x' y' then unsupported (.noEntry "binop/eql: two nil values of an interface type with methods, in a part of a struct or an array")
      | _,_=>(pure ():Sem Unit)).run P w=.ok () w:=by
    split
    · rcases h2 with h2 | h2
      · exact absurd ⟨rfl,rfl⟩ h2
      · cases ox <;> cases oy <;> first | rfl | (simp [isC] at h2)
    · exact absurd rfl (h1 _)
    · rfl
  cases op <;> first | exact key | rfl
theorem not_lt_le (a b:Int):(!decide (b < a))=decide (a≤b):=by
  rw [Bool.eq_iff_iff];simp
theorem vBin_sound {ti:TI} {op:BinOp} {ox oy:Operand} (ht:TIok P t ti) (hx:VR φ x x') (hy:VR φ y y')
    (hl:vBin op ti.desc (isC ox || isC oy) x y=some v) :
    ∃ v',(do eqGuard op t ox oy x' y';binOp op t x' y').run P w=.ok v' w∧VR φ v v':=by
  unfold vBin at hl
  split at hl
  · -- ints
    have key:∀ k a b,x=.int k a→y=.int k b→(binOp op t (.int k a) (.int k b)).run P w=.ok v w∧(∃ u,v=u∧VR φ u u)→∃ v',(do eqGuard op t ox oy x' y';binOp op t x' y').run P w=.ok v' w∧VR φ v v':=by
      rintro k a b rfl rfl ⟨h1,u,rfl,h2⟩
      cases hx;cases hy
      refine ⟨v,?_,h2⟩
      rw [Sem.run_bind,guard_nil op ox oy (by simp) (.inl (by simp))]
      exact h1
    have key2:∀ k a j b,x=.int k a→y=.int j b→(binOp op t (.int k a) (.int j b)).run P w=.ok v w∧(∃ u,v=u∧VR φ u u)→∃ v',(do eqGuard op t ox oy x' y';binOp op t x' y').run P w=.ok v' w∧VR φ v v':=by
      rintro k a j b rfl rfl ⟨h1,u,rfl,h2⟩
      cases hx;cases hy
      refine ⟨v,?_,h2⟩
      rw [Sem.run_bind,guard_nil op ox oy (by simp) (.inl (by simp))]
      exact h1
    split at hl
    · obtain ⟨k,a,b,hx1,hy1,hv⟩:=ints2 (g:=iAdd) (f:=fun k a b=>some (.int k (wr k (a+b)))) (fun _ _=>rfl) hl
      cases hv
      exact key k a b hx1 hy1 ⟨by simp [binOp,Op.intArith,wr_eq],_,rfl,.int _ _⟩
    · obtain ⟨k,a,b,hx1,hy1,hv⟩:=ints2 (g:=iSub) (f:=fun k a b=>some (.int k (wr k (a - b)))) (fun _ _=>rfl) hl
      cases hv
      exact key k a b hx1 hy1 ⟨by simp [binOp,Op.intArith,wr_eq],_,rfl,.int _ _⟩
    · obtain ⟨k,a,b,hx1,hy1,hv⟩:=ints2 (g:=iMul) (f:=fun k a b=>some (.int k (wr k (a * b)))) (fun _ _=>rfl) hl
      cases hv
      exact key k a b hx1 hy1 ⟨by simp [binOp,Op.intArith,wr_eq],_,rfl,.int _ _⟩
    · obtain ⟨k,a,b,hx1,hy1,hv⟩:=ints2 (g:=iQuo) (f:=fun k a b=>bif b == 0 then none else some (.int k (wr k (a.tdiv b)))) (fun _ _=>rfl) hl
      cases hb:(b == 0) with
      | true=>simp [hb] at hv
      | false=>
        simp [hb] at hv
        subst hv
        have:b≠0:=by simpa using hb
        exact key k a b hx1 hy1 ⟨by simp [binOp,Op.intDiv,wr_eq,this],_,rfl,.int _ _⟩
    · obtain ⟨k,a,b,hx1,hy1,hv⟩:=ints2 (g:=iRem) (f:=fun k a b=>bif b == 0 then none else some (.int k (a.tmod b))) (fun _ _=>rfl) hl
      cases hb:(b == 0) with
      | true=>simp [hb] at hv
      | false=>
        simp [hb] at hv
        subst hv
        have:b≠0:=by simpa using hb
        exact key k a b hx1 hy1 ⟨by simp [binOp,Op.intDiv,this],_,rfl,.int _ _⟩
    · obtain ⟨k,a,b,hx1,hy1,hv⟩:=ints2 (g:=iAnd) (f:=fun k a b=>some (.int k (bitsOf k Nat.land (· &&& ·) a b))) (fun _ _=>rfl) hl
      cases hv
      exact key k a b hx1 hy1 ⟨by simp only [binOp,Op.intBits];rw [bitsOf_eq k Nat.land (· &&& ·) (fun a b=>BitVec.toNat_and a b)];simp,_,rfl,.int _ _⟩
    · obtain ⟨k,a,b,hx1,hy1,hv⟩:=ints2 (g:=iOr) (f:=fun k a b=>some (.int k (bitsOf k Nat.lor (· ||| ·) a b))) (fun _ _=>rfl) hl
      cases hv
      exact key k a b hx1 hy1 ⟨by simp only [binOp,Op.intBits];rw [bitsOf_eq k Nat.lor (· ||| ·) (fun a b=>BitVec.toNat_or a b)];simp,_,rfl,.int _ _⟩
    · obtain ⟨k,a,b,hx1,hy1,hv⟩:=ints2 (g:=iXor) (f:=fun k a b=>some (.int k (bitsOf k Nat.xor (· ^^^ ·) a b))) (fun _ _=>rfl) hl
      cases hv
      exact key k a b hx1 hy1 ⟨by simp only [binOp,Op.intBits];rw [bitsOf_eq k Nat.xor (· ^^^ ·) (fun a b=>BitVec.toNat_xor a b)];simp,_,rfl,.int _ _⟩
    · unfold iShl at hl
      split at hl
      · rename_i k a j b
        split at hl <;> cases hl
        rename_i n
        exact key2 k a j _ rfl rfl ⟨by simp only [binOp,Op.shift,wr_eq];rw [if_neg (show ¬ (Int.ofNat n < 0) from Int.not_lt.2 (Int.natCast_nonneg n))];rfl,_,rfl,.int _ _⟩
      · cases hl
    · unfold iShr at hl
      split at hl
      · rename_i k a j b
        split at hl <;> cases hl
        rename_i n
        exact key2 k a j _ rfl rfl ⟨by simp only [binOp,Op.shift];rw [if_neg (show ¬ (Int.ofNat n < 0) from Int.not_lt.2 (Int.natCast_nonneg n))];rfl,_,rfl,.int _ _⟩
      · cases hl
    · obtain ⟨k,a,b,hx1,hy1,hv⟩:=ints2 (g:=iEql) (f:=fun _ a b=>some (.bool (ieq a b))) (fun _ _=>rfl) hl
      cases hv
      exact key k a b hx1 hy1 ⟨by simp [binOp,Op.intCmp,ieq_eq],_,rfl,.bool _⟩
    · obtain ⟨k,a,b,hx1,hy1,hv⟩:=ints2 (g:=iNeq) (f:=fun _ a b=>some (.bool (!ieq a b))) (fun _ _=>rfl) hl
      cases hv
      exact key k a b hx1 hy1 ⟨by simp [binOp,Op.intCmp,ieq_eq,bne],_,rfl,.bool _⟩
    · obtain ⟨k,a,b,hx1,hy1,hv⟩:=ints2 (g:=iLss) (f:=fun _ a b=>some (.bool (ilt a b))) (fun _ _=>rfl) hl
      cases hv
      exact key k a b hx1 hy1 ⟨by simp [binOp,Op.intCmp,ilt_eq],_,rfl,.bool _⟩
    · obtain ⟨k,a,b,hx1,hy1,hv⟩:=ints2 (g:=iLeq) (f:=fun _ a b=>some (.bool (!ilt b a))) (fun _ _=>rfl) hl
      cases hv
      exact key k a b hx1 hy1 ⟨by simp only [binOp,Op.intCmp,ilt_eq];rw [not_lt_le];simp,_,rfl,.bool _⟩
    · obtain ⟨k,a,b,hx1,hy1,hv⟩:=ints2 (g:=iLss) (f:=fun _ a b=>some (.bool (ilt a b))) (fun _ _=>rfl) hl
      cases hv
      exact key k b a hy1 hx1 ⟨by simp [binOp,Op.intCmp,ilt_eq],_,rfl,.bool _⟩
    · obtain ⟨k,a,b,hx1,hy1,hv⟩:=ints2 (g:=iLeq) (f:=fun _ a b=>some (.bool (!ilt b a))) (fun _ _=>rfl) hl
      cases hv
      exact key k b a hy1 hx1 ⟨by simp only [binOp,Op.intCmp,ilt_eq];rw [not_lt_le];simp,_,rfl,.bool _⟩
    · cases hl
  · -- strings
    have key:∀ a b,x=.string a→y=.string b→(binOp op t (.string a) (.string b)).run P w=.ok v w∧(∃ u,v=u∧VR φ u u)→∃ v',(do eqGuard op t ox oy x' y';binOp op t x' y').run P w=.ok v' w∧VR φ v v':=by
      rintro a b rfl rfl ⟨h1,u,rfl,h2⟩
      cases hx;cases hy
      refine ⟨v,?_,h2⟩
      rw [Sem.run_bind,guard_nil op ox oy (by simp) (.inl (by simp))]
      exact h1
    split at hl
    · unfold sAdd at hl
      split at hl
      · rename_i a b
        cases hb:Nat.blt (a.size+b.size) 1099511627776 with
        | false=>rw [hb] at hl;cases hl
        | true=>
          rw [hb] at hl;cases hl
          have hlt:=Nat.le_of_ble_eq_true hb
          refine key a b rfl rfl ⟨?_,_,rfl,.string _⟩
          simp only [binOp,Op.stringOp,IntKind.max,IntKind.signed,IntKind.bits]
          rw [Sem.run_ite,if_neg (by simp;omega)]
          rfl
      · cases hl
    · unfold sEql at hl
      split at hl <;> cases hl
      exact key _ _ rfl rfl ⟨by simp [binOp,Op.stringOp],_,rfl,.bool _⟩
    · unfold sNeq at hl
      split at hl <;> cases hl
      exact key _ _ rfl rfl ⟨by simp [binOp,Op.stringOp],_,rfl,.bool _⟩
    · unfold sLss at hl
      split at hl <;> cases hl
      exact key _ _ rfl rfl ⟨by simp [binOp,Op.stringOp],_,rfl,.bool _⟩
    · unfold sGtr at hl
      split at hl <;> cases hl
      exact key _ _ rfl rfl ⟨by simp [binOp,Op.stringOp],_,rfl,.bool _⟩
    · cases hl
  · -- the others
    rename_i d _ _
    split at hl
    · cases he:vEql ti.desc (isC ox || isC oy) x y with
      | none=>simp [he] at hl
      | some b=>
        simp [he] at hl
        subst hl
        obtain ⟨h1,h2,_,h4,h5⟩:=vEql_sound (w:=w) ht rfl hx hy he
        refine ⟨.bool b,?_,.bool _⟩
        rw [Sem.run_bind,guard_nil .eql ox oy h4 (by by_cases hn:x'=.nilIface∧y'=.nilIface;exact .inr (h5 hn);exact .inl hn)]
        simp [h2,h1]
    · cases he:vEql ti.desc (isC ox || isC oy) x y with
      | none=>simp [he] at hl
      | some b=>
        simp [he] at hl
        subst hl
        obtain ⟨h1,_,h3,h4,h5⟩:=vEql_sound (w:=w) ht rfl hx hy he
        refine ⟨.bool (!b),?_,.bool _⟩
        rw [Sem.run_bind,guard_nil .neq ox oy h4 (by by_cases hn:x'=.nilIface∧y'=.nilIface;exact .inr (h5 hn);exact .inl hn)]
        simp [h3,h1]
    · cases hl
end
end
end Go.Den
namespace Go.Den
noncomputable section
def uNot (x:Value):Option Value:=match x with | .bool b=>some (.bool (!b)) | _=>none
def uNeg (x:Value):Option Value:=match x with | .int k n=>some (.int k (wr k (0 - n))) | _=>none
def uXor (x:Value):Option Value:=match x with | .int k n=>some (.int k (bitsOf k Nat.xor (· ^^^ ·) (if k.signed then -1 else k.max) n)) | _=>none
def vUn (op:UnOp) (x:Value):Option Value:=match op with | .not=>uNot x | .neg=>uNeg x | .xor=>uXor x | _=>none
def cInt (k:IntKind) (x:Value):Option Value:=match x with | .int _ n=>some (.int k (wr k n)) | _=>none
def cRune (x:Value):Option Value:=match x with | .int _ n=>some (.string (Utf8.encode n)) | _=>none
def cStr (x:Value):Option Value:=match x with | .string s=>some (.string s) | _=>none
def bytesOf:List Value→Option (List UInt8)
  | []=>some []
  | .int .u8 n::l=>(bytesOf l).bind fun r=>some (UInt8.ofNat n.toNat::r)
  | _::_=>none
def cBytes (x:Value) (h:AH):Option Value:=
  match x with
  | .slice none _ _=>some (.string .empty)
  | .slice (some ⟨b,o,_⟩) n _=>match n with
    | 0=>some (.string .empty)
    | n=>(h.cellsN b o n).bind fun l=>(bytesOf l).bind fun s=>some (.string ⟨⟨s⟩⟩)
  | _=>none
def lenS (x:Value):Option Value:=match x with | .slice _ n _=>some (.int .i64 (.ofNat n)) | _=>none
def lenT (x:Value):Option Value:=match x with | .string s=>some (.int .i64 (.ofNat s.size)) | _=>none
def lenM (x:Value) (h:AH):Option Value:=
  match x with
  | .map none=>some (.int .i64 0)
  | .map (some r)=>match h.get r with
    | some (.map es _ _)=>some (.int .i64 (.ofNat es.length))
    | _=>none
  | _=>none
def vNat (n:Nat):Option Value→Nat→Option Nat
  | none,d=>some d
  | some (.int _ (.ofNat m)),_=>bif Nat.ble m n then some m else none
  | _,_=>none
def bnds (len cap:Nat) (lo hi mx:Option Value):Option (Nat × Nat × Nat):=
  (vNat cap mx cap).bind fun m=>(vNat m hi len).bind fun h=>(vNat h lo 0).bind fun l=>some (l,h,m)
def cutAt (a:Addr) (l m size:Nat):Addr:=bif Nat.beq m l then a else ⟨a.block,a.off+l * size,none⟩
def slS (size:Nat) (x:Value) (lo hi mx:Option Value):Option Value:=
  match x with
  | .slice none 0 0=>(bnds 0 0 lo hi mx).bind fun _=>some (.slice none 0 0)
  | .slice (some a) n c=>
    bif Nat.beq c (unk size) then
      (match mx with
      | none=>(bnds n n lo hi none).bind fun p=>some (.slice (some ⟨a.block,a.off+p.1 * size,none⟩) (p.2.1 - p.1) (unk size))
      | some v=>bif Nat.ble (unk 0) n then none else (bnds n n lo hi (some v)).bind fun p=>some (.slice (some (cutAt a p.1 p.2.2 size)) (p.2.1 - p.1) (p.2.2 - p.1)))
    else bif Nat.ble (unk 0) c then none else (bnds n c lo hi mx).bind fun p=>some (.slice (some (cutAt a p.1 p.2.2 size)) (p.2.1 - p.1) (p.2.2 - p.1))
  | _=>none
def slA (len size:Nat) (x:Value) (lo hi mx:Option Value):Option Value:=
  match x with
  | .pointer (some a)=>bif Nat.ble (unk 0) len then none else (bnds len len lo hi mx).bind fun p=>some (.slice (some (cutAt a p.1 p.2.2 size)) (p.2.1 - p.1) (p.2.2 - p.1))
  | _=>none
def slT (x:Value) (lo hi:Option Value):Option Value:=
  match x with
  | .string s=>(bnds s.size s.size lo hi none).bind fun p=>some (.string (s.extract p.1 p.2.1))
  | _=>none
def prt (agg:Bool) (off size:Nat) (l:List Value):Option Value:=
  bif agg then (bif Nat.ble (off+size) l.length then some (.agg ⟨(l.drop off).take size⟩) else none) else l[off]?
def fld (agg:Bool) (off size:Nat) (x:Value):Option Value:=match x with | .agg ⟨l⟩=>prt agg off size l | _=>none
def ixG (agg:Bool) (len size:Nat) (x i:Value):Option Value:=match x,i with | .agg ⟨l⟩,.int _ i=>(ixOk i len).bind fun m=>prt agg (m * size) size l | _,_=>none
def ixT (x i:Value):Option Value:=match x,i with | .string s,.int _ i=>(ixOk i s.size).bind fun m=>s[m]?.bind fun b=>some (.int .u8 (.ofNat b.toNat)) | _,_=>none
def ext (i:Nat) (x:Value):Option Value:=match x with | .tuple ⟨l⟩=>l[i]? | _=>none
def mnI (x y:Value):Option Value:=match x,y with | .int k a,.int _ b=>some (.int k (bif ilt b a then b else a)) | _,_=>none
def mxI (x y:Value):Option Value:=match x,y with | .int k a,.int _ b=>some (.int k (bif ilt a b then b else a)) | _,_=>none
section
variable {P:Program} {φ:Phi} {w:World} {h:AH} {x x' y y' v:Value} {t:TypeId}
theorem vUn_sound {op:UnOp} (hx:VR φ x x') (hl:vUn op x=some v):∃ v',(Op.unary op x').run P w=.ok v' w∧VR φ v v':=by
  unfold vUn at hl
  split at hl
  · unfold uNot at hl;split at hl <;> cases hl;cases hx;exact ⟨_,by simp [Op.unary],.bool _⟩
  · unfold uNeg at hl;split at hl <;> cases hl;cases hx
    exact ⟨_,by simp only [Op.unary,Op.intArith];rfl,by rw [wr_eq];exact .int _ _⟩
  · unfold uXor at hl;split at hl <;> cases hl;cases hx
    exact ⟨_,by simp only [Op.unary,Op.intBits];rfl,by rw [bitsOf_eq _ Nat.xor (· ^^^ ·) (fun a b=>BitVec.toNat_xor a b)];exact .int _ _⟩
  · cases hl
theorem cInt_sound {s:TypeId} {si ti:TI} {j k:IntKind} (hs:TIok P s si) (ht:TIok P t ti) (hd:si.desc=.int j) (hd':ti.desc=.int k) (hx:VR φ x x') (hl:cInt k x=some v) :
    ∃ v',(convert s t x').run P w=.ok v' w∧VR φ v v':=by
  unfold cInt at hl;split at hl <;> cases hl;cases hx
  exact ⟨_,by simp only [convert,Sem.run_bind,run_ty w hs,run_ty w ht,hd,hd',Result.andThen_ok];rfl,by rw [wr_eq];exact .int _ _⟩
theorem cRune_sound {s:TypeId} {si ti:TI} {j:IntKind} (hs:TIok P s si) (ht:TIok P t ti) (hd:si.desc=.int j) (hd':ti.desc=.string) (hx:VR φ x x') (hl:cRune x=some v) :
    ∃ v',(convert s t x').run P w=.ok v' w∧VR φ v v':=by
  unfold cRune at hl;split at hl <;> cases hl;cases hx
  exact ⟨_,by simp only [convert,Sem.run_bind,run_ty w hs,run_ty w ht,hd,hd',Result.andThen_ok];rfl,.string _⟩
theorem cStr_sound {s:TypeId} {si ti:TI} (hs:TIok P s si) (ht:TIok P t ti) (hd:si.desc=.string) (hd':ti.desc=.string) (hx:VR φ x x') (hl:cStr x=some v) :
    ∃ v',(convert s t x').run P w=.ok v' w∧VR φ v v':=by
  unfold cStr at hl;split at hl <;> cases hl;cases hx
  exact ⟨_,by simp only [convert,Sem.run_bind,run_ty w hs,run_ty w ht,hd,hd',Result.andThen_ok];rfl,.string _⟩
theorem lenS_sound {ti:TI} {e:TypeId} {ty:TypeId} (ht:TIok P t ti) (hd:ti.desc=.slice e) (hx:VR φ x x') (hl:lenS x=some v) :
    ∃ v',(Builtin.len_ #[t] ty #[x']).run P w=.ok v' w∧VR φ v v':=by
  unfold lenS at hl;split at hl <;> cases hl
  cases hx <;> exact ⟨_,by simp [Builtin.len_,run_ty w ht,hd,goInt],.int _ _⟩
theorem lenT_sound {ti:TI} {ty:TypeId} (ht:TIok P t ti) (hd:ti.desc=.string) (hx:VR φ x x') (hl:lenT x=some v) :
    ∃ v',(Builtin.len_ #[t] ty #[x']).run P w=.ok v' w∧VR φ v v':=by
  unfold lenT at hl;split at hl <;> cases hl
  cases hx;exact ⟨_,by simp [Builtin.len_,run_ty w ht,hd,goInt],.int _ _⟩
theorem EsR.length:∀ {es:List (Value × Value)} {es':List MapEntry},EsR φ es es'→es.length=es'.length
  | [],[],_=>rfl
  | (_,_)::_,_::_,h=>by simp [EsR.length h.2.2]
  | [],_::_,h=>h.elim
  | _::_,[],h=>h.elim
theorem Rel.map {es:List (Value × Value)} {bs:List Nat} {cl:Nat} (r:Rel φ h w) {b b' T:Nat} (hb:φ b=some (b',0,T)) (hc:h.get b=some (.map es bs cl)) :
    ∃ es' cl,w.heap[b']?=some (.map es' cl)∧EsR φ es es'.toList:=by
  have h3:=r.blk _ _ _ _ hb
  rw [hc] at h3
  unfold OR at h3
  split at h3
  · rename_i e;cases e
  · rename_i e;cases e
  · rename_i e;cases e
  · rename_i e;cases e
  · rename_i e1 e2;cases e1;exact ⟨_,_,e2,h3.2.1⟩
  · rename_i e1 e2;cases e1
  · rename_i e1 e2;cases e1
  · exact h3.elim
theorem lenM_sound {ti:TI} {k e:TypeId} {ty:TypeId} (r:Rel φ h w) (ht:TIok P t ti) (hd:ti.desc=.map k e) (hx:VR φ x x') (hl:lenM x h=some v) :
    ∃ v',(Builtin.len_ #[t] ty #[x']).run P w=.ok v' w∧VR φ v v':=by
  unfold lenM at hl;split at hl
  · cases hl;cases hx;exact ⟨_,by simp [Builtin.len_,run_ty w ht,hd,goInt],.int _ _⟩
  · split at hl <;> cases hl
    rename_i es he
    cases hx with
    | map _ r' T hb=>
      obtain ⟨es',cl,h1,h2⟩:=r.map hb he
      refine ⟨_,?_,.int _ _⟩
      have:=EsR.length h2
      simp at this
      simp [Builtin.len_,run_ty w ht,hd,goInt,getObj,Sem.run,h1,this]
  · cases hl
theorem bytesOf_sound:∀ {l l':List Value} {s:List UInt8},VRs φ l l'→bytesOf l=some s→∀ acc:ByteArray,
    (forIn (m:=Sem) (⟨l'⟩:Array Value) acc fun c s=>match c with
      | .int .u8 n=>pure (ForInStep.yield (s.push (UInt8.ofNat n.toNat)))
      | _=>do
        let _ : Unit ← stuck "bytesToString: byte expected"
        pure (ForInStep.yield s)).run P w=.ok ⟨⟨acc.data.toList++s⟩⟩ w:=by
  intro l l' s hv
  show _→∀ acc:ByteArray,Sem.run P (forIn (m:=Sem) l'.toArray acc _) w=_
  simp only [List.forIn_toArray]
  induction l generalizing l' s with
  | nil=>intro hs acc;cases hv;simp [bytesOf] at hs;subst hs;simp
  | cons v l ih=>
    intro hs acc
    cases hv with
    | cons _ v' _ l' h1 h2=>
      unfold bytesOf at hs
      split at hs
      · rename_i e;cases e
      · rename_i n l₁ e
        cases e
        cases h1
        cases hb:bytesOf l with
        | none=>simp [hb] at hs
        | some r=>
          simp [hb] at hs
          subst hs
          simp only [List.forIn_cons,Sem.run_bind,Sem.run_pure,Result.andThen_ok]
          have:=ih h2 hb (acc.push (UInt8.ofNat n.toNat))
          simp only [this]
          congr 2
          simp [ByteArray.push]
      · cases hs
theorem cBytes_sound {s e:TypeId} {si ti ei:TI} (r:Rel φ h w) (hs:TIok P s si) (ht:TIok P t ti) (he:TIok P e ei) (hd:si.desc=.slice e) (hd':ti.desc=.string) (hde:ei.desc=.int .u8) (hx:VR φ x x') (hl:cBytes x h=some v) :
    ∃ v',(convert s t x').run P w=.ok v' w∧VR φ v v':=by
  have hc:∀ x',(convert s t x').run P w=(match x' with | .slice ..=>(Conv.bytesToString x').run P w | _=>(convert s t x').run P w):=by
    intro x'
    cases x' <;> try rfl
    simp [convert,run_ty w hs,run_ty w ht,run_ty w he,hd,hd',hde]
  unfold cBytes at hl
  split at hl
  · cases hl;cases hx;refine ⟨_,?_,.string _⟩;rw [hc];rfl
  · rename_i b o sp n c
    split at hl
    · cases hl
      cases hx <;> (refine ⟨_,?_,.string _⟩;rw [hc];rfl)
    · rename_i hn0
      cases hl1:h.cellsN b o n with
      | none=>simp [hl1] at hl
      | some l=>
        cases hl2:bytesOf l with
        | none=>simp [hl1,hl2] at hl
        | some s'=>
          simp [hl1,hl2] at hl
          subst hl
          cases hx with
          | slice _ _ b' s T n c c' hb hn hcc=>
            obtain ⟨l',h1,h2⟩:=cellsN_sound (P:=P) r hb o n 0 l #[] hl1
            refine ⟨_,?_,.string _⟩
            have h1:=h1 w.drawn
            rw [hc]
            simp only [Conv.bytesToString,loadCells,Sem.run_bind,h1,Result.andThen_ok]
            have:=bytesOf_sound (P:=P) (w:=w) h2 hl2 .empty
            simp only [Array.empty_append]
            refine (congrArg (fun r=>Result.andThen r fun a w'=>Sem.run P (pure (Value.string a)) w') this).trans ?_
            simp
          | empty=>exact absurd rfl (hn0)
  · cases hl
def OV (φ:Phi):Option Value→Option Value→Prop
  | some a,some b=>VR φ a b
  | none,none=>True
  | _,_=>False
theorem vNat_sound {n d m:Nat} {o o':Option Value} {code:BoundsCode} (hl:vNat n o d=some m) (hv:OV φ o o') (cap:Nat) (hn:n≤cap) :
    (match o' with | some v=>Instr.sliceBound v cap code | none=>pure d).run P w=.ok m w∧(o≠none→m≤n):=by
  cases o with
  | none=>
    cases hl
    cases o' with
    | none=>exact ⟨rfl,by simp⟩
    | some b=>exact hv.elim
  | some v=>
    cases o' with
    | none=>exact hv.elim
    | some b=>
      cases v with
      | int k i=>
        cases i with
        | negSucc i=>cases hl
        | ofNat m'=>
          have hl':(bif Nat.ble m' n then some m' else none)=some m:=hl
          cases hb:Nat.ble m' n with
          | false=>rw [hb] at hl';cases hl'
          | true=>
            rw [hb] at hl';cases hl'
            have:=Nat.le_of_ble_eq_true hb
            cases hv
            refine ⟨?_,fun _=>this⟩
            have h2:(m:Int)≤cap:=by omega
            simp [Instr.sliceBound,asIntOf,h2]
      | _=>cases hl
theorem bnds_sound {len cap cap' l hh m:Nat} {lo hi mx lo' hi' mx':Option Value} {sl:Bool} (h1:OV φ lo lo') (h2:OV φ hi hi') (h3:OV φ mx mx') (hm:mx≠none→hi≠none)
    (hc:cap≤cap') (hlen:len≤cap) (hl:bnds len cap lo hi mx=some (l,hh,m)) :
    ∃ m',(Instr.sliceBounds sl len cap' lo' hi' mx').run P w=.ok (l,hh,m') w∧l≤hh∧hh≤m∧(mx=none→m'=cap'∧m=cap)∧(mx≠none→m'=m)∧m≤cap:=by
  unfold bnds at hl
  cases e1:vNat cap mx cap with
  | none=>simp [e1] at hl
  | some m1=>
    cases e2:vNat m1 hi len with
    | none=>simp [e1,e2] at hl
    | some h1'=>
      cases e3:vNat h1' lo 0 with
      | none=>simp [e1,e2,e3] at hl
      | some l1=>
        simp [e1,e2,e3] at hl
        obtain ⟨rfl,rfl,rfl⟩:=hl
        have hlo:l1≤h1':=by
          cases lo with
          | none=>simp [vNat] at e3;omega
          | some v=>
            exact (vNat_sound (P:=P) (φ:=φ) (w:=w) (o':=lo') (code:=.sliceB) e3 h1 h1' (Nat.le_refl _)).2 (by simp)
        cases mx with
        | none=>
          simp [vNat] at e1
          subst e1
          have hmx:mx'=none:=by cases mx' <;> first | rfl | exact h3.elim
          subst hmx
          have hhi:h1'≤cap:=by
            cases hi with
            | none=>simp [vNat] at e2;omega
            | some v=>exact (vNat_sound (P:=P) (φ:=φ) (w:=w) (o':=hi') (code:=.sliceB) e2 h2 cap (Nat.le_refl _)).2 (by simp)
          refine ⟨cap',?_,hlo,hhi,fun _=>⟨rfl,rfl⟩,fun h=>absurd rfl h,Nat.le_refl _⟩
          have r2:=fun code=>(vNat_sound (P:=P) (φ:=φ) (w:=w) (o:=hi) (o':=hi') (code:=code) e2 h2 cap' hc).1
          have r3:=fun code=>(vNat_sound (P:=P) (φ:=φ) (w:=w) (o:=lo) (o':=lo') (code:=code) e3 h1 h1' (Nat.le_refl _)).1
          unfold Instr.sliceBounds
          cases hi' <;> cases lo' <;> simp_all
        | some vm=>
          obtain ⟨vh,rfl⟩:∃ vh,hi=some vh:=by cases hi with | none=>exact absurd rfl (hm (by simp)) | some v=>exact ⟨v,rfl⟩
          cases mx' with
          | none=>exact h3.elim
          | some vm'=>
            cases hi' with
            | none=>exact h2.elim
            | some vh'=>
              have r1:=fun code=>vNat_sound (P:=P) (φ:=φ) (w:=w) (o:=some vm) (o':=some vm') (code:=code) e1 h3 cap' hc
              have r2:=fun code=>vNat_sound (P:=P) (φ:=φ) (w:=w) (o:=some vh) (o':=some vh') (code:=code) e2 h2 m1 (Nat.le_refl _)
              have r3:=fun code=>(vNat_sound (P:=P) (φ:=φ) (w:=w) (o:=lo) (o':=lo') (code:=code) e3 h1 h1' (Nat.le_refl _)).1
              have b1:=(r1 .index).2 (by simp)
              have b2:=(r2 .index).2 (by simp)
              refine ⟨m1,?_,hlo,b2,(by simp),fun _=>rfl,b1⟩
              have r1':=fun code=>(r1 code).1
              have r2':=fun code=>(r2 code).1
              unfold Instr.sliceBounds
              cases lo' <;> simp_all
end
end
end Go.Den
namespace Go.Den
noncomputable section
def ifc (t:TypeId) (x:Value):Option Value:=some (.iface t x)
def clo (fn:FuncId) (first cap:List Value):Value:=.func (.func fn) ⟨first⟩ ⟨cap⟩
section
variable {P:Program} {φ:Phi} {w:World} {h:AH} {x x' y y' v:Value} {t:TypeId}
theorem cutAt_sound {b o b' s T l m size:Nat} (hb:φ b=some (b',s,T)) {n c:Nat} (hn:n≤c) (hc:c < unk 0) :
    VR φ (.slice (some (cutAt ⟨b,o,none⟩ l m size)) n c) (.slice (some (if m=l then ⟨b',o+s,none⟩ else Addr.add ⟨b',o+s,none⟩ (l * size))) n c):=by
  unfold cutAt
  by_cases e:m=l
  · subst e;simp;exact .slice b o b' s T n c c hb hn (.inl ⟨rfl,hc⟩)
  · rw [beq_false_of_ne e,cond_false,if_neg e,add_cells]
    exact .slice b (o+l * size) b' s T n c c hb hn (.inl ⟨rfl,hc⟩)
theorem slS_sound {ti ei:TI} {e:TypeId} {lo hi mx lo' hi' mx':Option Value} (ht:TIok P t ti) (hd:ti.desc=.slice e) (he:TIok P e ei) (hx:VR φ x x')
    (h1:OV φ lo lo') (h2:OV φ hi hi') (h3:OV φ mx mx') (hm:mx≠none→hi≠none) (hl:slS ei.size x lo hi mx=some v) :
    ∃ v',(Instr.sliceAt t x' lo' hi' mx').run P w=.ok v' w∧VR φ v v':=by
  have key:∀ (a:Option Addr) (n c l hh m:Nat),(Instr.sliceBounds true n c lo' hi' mx').run P w=.ok (l,hh,m) w →
      (Instr.sliceAt t (.slice a n c) lo' hi' mx').run P w=.ok (.slice (if m=l then a else a.map (·.add (l * ei.size))) (hh - l) (m - l)) w:=by
    intro a n c l hh m hb
    simp [Instr.sliceAt,Instr.slice,run_ty w ht,hd,hb,run_size w he]
  have hbl:∀ c,Nat.ble (unk 0) c=true∨(Nat.ble (unk 0) c=false∧∀ e,c≠unk e):=by
    intro c
    cases hb:Nat.ble (unk 0) c with
    | true=>exact .inl rfl
    | false=>
      refine .inr ⟨rfl,fun e he=>?_⟩
      subst he
      have:Nat.ble (unk 0) (unk e)=true:=Nat.ble_eq_true_of_le (by unfold unk;omega)
      rw [hb] at this;cases this
  unfold slS at hl
  split at hl
  · cases hbn:bnds 0 0 lo hi mx with
    | none=>simp [hbn] at hl
    | some p=>
      obtain ⟨l,hh,m⟩:=p
      simp [hbn] at hl
      subst hl
      cases hx
      obtain ⟨m',r1,r2,r3,r4,r5,r6⟩:=bnds_sound (P:=P) (w:=w) (sl:=true) h1 h2 h3 hm (Nat.le_refl 0) (Nat.le_refl 0) hbn
      have hm0:m'=0:=by
        by_cases hmx:mx=none
        · exact (r4 hmx).1
        · rw [r5 hmx];omega
      refine ⟨_,key _ _ _ _ _ _ r1,?_⟩
      have e1:hh - l=0:=by omega
      have e2:m' - l=0:=by omega
      rw [e1,e2]
      simp
      exact .sliceNil
  · rename_i a n c
    cases hx with
    | slice b o b' s T n c c' hb hn hcc=>
      by_cases hu:c=unk ei.size
      · have hbe:Nat.beq c (unk ei.size)=true:=by rw [hu];exact Nat.beq_refl _
        rw [hbe,cond_true] at hl
        split at hl
        · cases hbn:bnds n n lo hi none with
          | none=>simp [hbn] at hl
          | some p=>
            obtain ⟨l,hh,m⟩:=p
            simp [hbn] at hl
            subst hl
            obtain ⟨m',r1,r2,r3,r4,r5,r6⟩:=bnds_sound (P:=P) (w:=w) (sl:=true) h1 h2 h3 hm hn (Nat.le_refl n) hbn
            obtain ⟨rfl,rfl⟩:=r4 rfl
            refine ⟨_,key _ _ _ _ _ _ r1,?_⟩
            by_cases e:m'=l
            · have e1:hh - l=0:=by omega
              have e2:m' - l=0:=by omega
              rw [e1,e2,if_pos e]
              exact .empty _ _ _ _ hb (.inr ⟨_,rfl⟩)
            · rw [if_neg e]
              simp only [Option.map_some,add_cells]
              rcases hcc with hcc | ⟨e',hcc,hT⟩
              · exact absurd hcc.2 (by rw [hu];unfold unk;omega)
              · have:e'=ei.size:=by rw [hu] at hcc;unfold unk at hcc;omega
                subst this
                refine .slice b (o+l * ei.size) b' s T _ _ _ hb (by omega) (.inr ⟨_,rfl,?_⟩)
                have h6:l≤m':=by omega
                obtain ⟨d,rfl⟩:∃ d,m'=l+d:=⟨m' - l,by omega⟩
                rw [Nat.add_mul] at hT
                rw [Nat.add_sub_cancel_left]
                omega
        · rename_i vm
          cases hb1:Nat.ble (unk 0) n with
          | true=>rw [hb1] at hl;cases hl
          | false=>
          have hlen:n < unk 0:=by
            rcases Nat.lt_or_ge n (unk 0) with h | h
            · exact h
            · have:=Nat.ble_eq_true_of_le h;rw [hb1] at this;cases this
          rw [hb1,cond_false] at hl
          cases hbn:bnds n n lo hi (some vm) with
          | none=>simp [hbn] at hl
          | some p=>
            obtain ⟨l,hh,m⟩:=p
            simp [hbn] at hl
            subst hl
            obtain ⟨m',r1,r2,r3,r4,r5,r6⟩:=bnds_sound (P:=P) (w:=w) (sl:=true) h1 h2 h3 hm hn (Nat.le_refl n) hbn
            obtain rfl:=r5 (by simp)
            refine ⟨_,key _ _ _ _ _ _ r1,?_⟩
            have hlt:m' - l < unk 0:=by omega
            have:=cutAt_sound (o:=o) (l:=l) (m:=m') (size:=ei.size) hb (show hh - l≤m' - l by omega) hlt
            by_cases e:m'=l
            · simpa [e] using this
            · simpa [e] using this
      · rw [beq_false_of_ne hu,cond_false] at hl
        rcases hbl c with hb1 | ⟨hb1,hb2⟩
        · rw [hb1] at hl;cases hl
        rw [hb1,cond_false] at hl
        obtain rfl:c=c':=(hcc.resolve_right (fun ⟨e,he,_⟩=>hb2 e he)).1
        cases hbn:bnds n c lo hi mx with
        | none=>simp [hbn] at hl
        | some p=>
          obtain ⟨l,hh,m⟩:=p
          simp [hbn] at hl
          subst hl
          obtain ⟨m',r1,r2,r3,r4,r5,r6⟩:=bnds_sound (P:=P) (w:=w) (sl:=true) h1 h2 h3 hm (Nat.le_refl c) hn hbn
          have hmm:m'=m:=by
            by_cases hmx:mx=none
            · obtain ⟨h5,h6⟩:=r4 hmx;omega
            · exact r5 hmx
          subst hmm
          refine ⟨_,key _ _ _ _ _ _ r1,?_⟩
          have hlt:m' - l < unk 0:=by
            rcases hcc with ⟨hcc,hcc2⟩ | ⟨e',hcc,hT⟩
            · omega
            · exact absurd hcc (hb2 _)
          have:=cutAt_sound (o:=o) (l:=l) (m:=m') (size:=ei.size) hb (show hh - l≤m' - l by omega) hlt
          by_cases e:m'=l
          · simpa [e] using this
          · simpa [e] using this
    | empty _ y c z0 hz0 hc=>
      have fin:∀ l hh m (z:Addr) c'',z.block=a.block→(Instr.sliceBounds true 0 0 lo' hi' mx').run P w=.ok (l,hh,m) w→l≤hh→hh≤m→m≤0→(c''=0∨∃ e,c''=unk e) →
          ∃ v',(Instr.sliceAt t (.slice (some y) 0 0) lo' hi' mx').run P w=.ok v' w∧VR φ (.slice (some z) (hh - l) c'') v':=by
        intro l hh m z c'' hzb r1 r2 r3 r4 r5
        refine ⟨_,key _ _ _ _ _ _ r1,?_⟩
        have e1:hh - l=0:=by omega
        have e2:m - l=0:=by omega
        rw [e1,e2,if_pos (by omega)]
        exact .empty _ _ _ z0 (by rw [hzb];exact hz0) r5
      by_cases hu:c=unk ei.size
      · have hbe:Nat.beq c (unk ei.size)=true:=by rw [hu];exact Nat.beq_refl _
        rw [hbe,cond_true] at hl
        split at hl
        · cases hbn:bnds 0 0 lo hi none with
          | none=>simp [hbn] at hl
          | some p=>
            obtain ⟨l,hh,m⟩:=p
            simp [hbn] at hl
            subst hl
            obtain ⟨m',r1,r2,r3,r4,r5,r6⟩:=bnds_sound (P:=P) (w:=w) (sl:=true) h1 h2 h3 hm (Nat.le_refl 0) (Nat.le_refl 0) hbn
            obtain ⟨rfl,rfl⟩:=r4 rfl
            exact fin _ _ _ _ _ rfl r1 r2 r3 r6 (.inr ⟨_,rfl⟩)
        · rename_i vm
          rw [show Nat.ble (unk 0) 0=false from rfl,cond_false] at hl
          cases hbn:bnds 0 0 lo hi (some vm) with
          | none=>simp [hbn] at hl
          | some p=>
            obtain ⟨l,hh,m⟩:=p
            simp [hbn] at hl
            subst hl
            obtain ⟨m',r1,r2,r3,r4,r5,r6⟩:=bnds_sound (P:=P) (w:=w) (sl:=true) h1 h2 h3 hm (Nat.le_refl 0) (Nat.le_refl 0) hbn
            obtain rfl:=r5 (by simp)
            exact fin _ _ _ _ _ (by unfold cutAt;cases Nat.beq _ _ <;> rfl) r1 r2 r3 r6 (.inl (by omega))
      · rw [beq_false_of_ne hu,cond_false] at hl
        rcases hbl c with hb1 | ⟨hb1,hb2⟩
        · rw [hb1] at hl;cases hl
        rw [hb1,cond_false] at hl
        obtain rfl:c=0:=hc.resolve_right (fun ⟨e,he⟩=>hb2 e he)
        cases hbn:bnds 0 0 lo hi mx with
        | none=>simp [hbn] at hl
        | some p=>
          obtain ⟨l,hh,m⟩:=p
          simp [hbn] at hl
          subst hl
          obtain ⟨m',r1,r2,r3,r4,r5,r6⟩:=bnds_sound (P:=P) (w:=w) (sl:=true) h1 h2 h3 hm (Nat.le_refl 0) (Nat.le_refl 0) hbn
          have hmm:m'=m:=by
            by_cases hmx:mx=none
            · obtain ⟨h5,h6⟩:=r4 hmx;omega
            · exact r5 hmx
          subst hmm
          exact fin _ _ _ _ _ (by unfold cutAt;cases Nat.beq _ _ <;> rfl) r1 r2 r3 r6 (.inl (by omega))
  · cases hl
theorem slA_sound {ti ei:TI} {e:TypeId} {len:Nat} {lo hi mx lo' hi' mx':Option Value} (ht:TIok P t ti) (hd:ti.desc=.array len e) (he:TIok P e ei) (hx:VR φ x x')
    (h1:OV φ lo lo') (h2:OV φ hi hi') (h3:OV φ mx mx') (hm:mx≠none→hi≠none) (hl:slA len ei.size x lo hi mx=some v) :
    ∃ v',(Instr.sliceAt t x' lo' hi' mx').run P w=.ok v' w∧VR φ v v':=by
  unfold slA at hl
  split at hl
  · rename_i a
    cases hx with
    | ptr b o b' s T hb=>
      cases hb1:Nat.ble (unk 0) len with
      | true=>rw [hb1] at hl;cases hl
      | false=>
      have hlen:len < unk 0:=by
        rcases Nat.lt_or_ge len (unk 0) with h | h
        · exact h
        · have:=Nat.ble_eq_true_of_le h;rw [hb1] at this;cases this
      rw [hb1,cond_false] at hl
      cases hbn:bnds len len lo hi mx with
      | none=>simp [hbn] at hl
      | some p=>
        obtain ⟨l,hh,m⟩:=p
        simp [hbn] at hl
        subst hl
        obtain ⟨m',r1,r2,r3,r4,r5,r6⟩:=bnds_sound (P:=P) (w:=w) (sl:=false) h1 h2 h3 hm (Nat.le_refl len) (Nat.le_refl len) hbn
        have hmm:m'=m:=by
          by_cases hmx:mx=none
          · obtain ⟨h5,h6⟩:=r4 hmx;omega
          · exact r5 hmx
        subst hmm
        exact ⟨_,by simp [Instr.sliceAt,run_ty w ht,hd,Instr.sureAddr,r1,run_size w he],cutAt_sound hb (by omega) (by omega)⟩
  · cases hl
theorem slT_sound {ti:TI} {lo hi lo' hi':Option Value} (ht:TIok P t ti) (hd:ti.desc=.string) (hx:VR φ x x')
    (h1:OV φ lo lo') (h2:OV φ hi hi') (hl:slT x lo hi=some v) :
    ∃ v',(Instr.sliceAt t x' lo' hi' none).run P w=.ok v' w∧VR φ v v':=by
  unfold slT at hl
  split at hl
  · rename_i s
    cases hx
    cases hbn:bnds s.size s.size lo hi none with
    | none=>simp [hbn] at hl
    | some p=>
      obtain ⟨l,hh,m⟩:=p
      simp [hbn] at hl
      subst hl
      obtain ⟨m',r1,r2,r3,r4,r5,r6⟩:=bnds_sound (P:=P) (φ:=φ) (mx:=none) (mx':=none) (w:=w) (sl:=false) h1 h2 trivial (by simp) (Nat.le_refl _) (Nat.le_refl _) hbn
      exact ⟨_,by simp [Instr.sliceAt,Instr.slice,run_ty w ht,hd,r1],.string _⟩
  · cases hl
theorem VRs.drop {φ:Phi}:∀ {l l':List Value},VRs φ l l'→∀ n,VRs φ (l.drop n) (l'.drop n)
  | _,_,.nil=>fun n=>by simp;exact .nil
  | _,_,.cons v v' l l' h hl=>fun n=>by
    cases n with
    | zero=>exact .cons _ _ _ _ h hl
    | succ n=>exact VRs.drop hl n
theorem VRs.take {φ:Phi}:∀ {l l':List Value},VRs φ l l'→∀ n,VRs φ (l.take n) (l'.take n)
  | _,_,.nil=>fun n=>by simp;exact .nil
  | _,_,.cons v v' l l' h hl=>fun n=>by
    cases n with
    | zero=>exact .nil
    | succ n=>exact .cons _ _ _ _ h (VRs.take hl n)
theorem prt_sound {ti:TI} {off:Nat} {l l':List Value} (ht:TIok P t ti) (hv:VRs φ l l') (hl:prt ti.agg off ti.size l=some v) :
    ∃ v',(part t ⟨l'⟩ off).run P w=.ok v' w∧VR φ v v':=by
  unfold prt at hl
  cases ha:ti.agg with
  | true=>
    rw [ha,cond_true] at hl
    cases hb:Nat.ble (off+ti.size) l.length with
    | false=>rw [hb] at hl;cases hl
    | true=>
      rw [hb] at hl;cases hl
      have hle:=Nat.le_of_ble_eq_true hb
      refine ⟨.agg ⟨(l'.drop off).take ti.size⟩,?_,.agg _ _ ((hv.drop off).take ti.size)⟩
      simp [part,run_agg w ht,ha,run_size w ht]
  | false=>
    rw [ha,cond_false] at hl
    obtain ⟨v',h1,h2⟩:=hv.get _ _ hl
    exact ⟨v',by simp [part,run_agg w ht,ha,h1],h2⟩
theorem fld_sound {ti fi:TI} {fs:Array Field} {i:Nat} {f:Field} (ht:TIok P t ti) (hd:ti.desc=.struct fs) (hf:fs[i]?=some f) (hft:TIok P f.type fi) (hx:VR φ x x')
    (hl:fld fi.agg f.offset fi.size x=some v):∃ v',(Instr.field t x' i).run P w=.ok v' w∧VR φ v v':=by
  unfold fld at hl
  split at hl
  · cases hx with
    | agg l l' hv=>
      obtain ⟨v',h1,h2⟩:=prt_sound (P:=P) (w:=w) hft hv hl
      exact ⟨v',by simp [Instr.field,run_ty w ht,hd,hf,asAgg,h1],h2⟩
  · cases hl
theorem ixG_sound {ti ei:TI} {e:TypeId} {len:Nat} (ht:TIok P t ti) (hd:ti.desc=.array len e) (he:TIok P e ei) (hx:VR φ x x') (hy:VR φ y y')
    (hl:ixG ei.agg len ei.size x y=some v):∃ v',(Instr.index t x' y').run P w=.ok v' w∧VR φ v v':=by
  unfold ixG at hl
  split at hl
  · rename_i l k i
    cases hm:ixOk i len with
    | none=>simp [hm] at hl
    | some m=>
      simp [hm] at hl
      obtain ⟨rfl,hlt⟩:=ixOk_eq hm
      cases hy
      cases hx with
      | agg l l' hv=>
        obtain ⟨v',h1,h2⟩:=prt_sound (P:=P) (w:=w) he hv hl
        exact ⟨v',by simp [Instr.index,asIntOf,run_ty w ht,hd,run_size w he,hlt,h1],h2⟩
  · cases hl
theorem ixT_sound {ti:TI} (ht:TIok P t ti) (hd:ti.desc=.string) (hx:VR φ x x') (hy:VR φ y y') (hl:ixT x y=some v) :
    ∃ v',(Instr.index t x' y').run P w=.ok v' w∧VR φ v v':=by
  unfold ixT at hl
  split at hl
  · rename_i s k i
    cases hm:ixOk i s.size with
    | none=>simp [hm] at hl
    | some m=>
      obtain ⟨rfl,hlt⟩:=ixOk_eq hm
      cases hb:s[m]? with
      | none=>simp [hm,hb] at hl
      | some b=>
        simp [hm,hb] at hl
        subst hl
        cases hx;cases hy
        exact ⟨_,by simp [Instr.index,asIntOf,run_ty w ht,hd,hb],.int _ _⟩
  · cases hl
theorem ext_sound {i:Nat} (hx:VR φ x x') (hl:ext i x=some v):∃ v',(Instr.extract x' i).run P w=.ok v' w∧VR φ v v':=by
  unfold ext at hl
  split at hl
  · rename_i l
    cases hx with
    | junk=>simp at hl
    | tuple l l' hv=>
      obtain ⟨v',h1,h2⟩:=hv.get _ _ hl
      exact ⟨v',by simp [Instr.extract,h1],h2⟩
  · cases hl
theorem mnI_sound (hx:VR φ x x') (hy:VR φ y y') (hl:mnI x y=some v):∃ v',(Builtin.min2 x' y').run P w=.ok v' w∧VR φ v v':=by
  unfold mnI at hl
  split at hl <;> cases hl
  cases hx;cases hy
  refine ⟨_,rfl,?_⟩
  rw [ilt_eq,Bool.cond_decide]
  exact .int _ _
theorem mxI_sound (hx:VR φ x x') (hy:VR φ y y') (hl:mxI x y=some v):∃ v',(Builtin.max2 x' y').run P w=.ok v' w∧VR φ v v':=by
  unfold mxI at hl
  split at hl <;> cases hl
  cases hx;cases hy
  refine ⟨_,rfl,?_⟩
  rw [ilt_eq,Bool.cond_decide]
  exact .int _ _
theorem ifc_sound {ti:TI} (ht:TIok P t ti) (hd:∀ ms,ti.desc≠.interface ms) (hx:VR φ x x') (hl:ifc t x=some v):∃ v',(Instr.makeInterface t x').run P w=.ok v' w∧VR φ v v':=by
  cases hl
  refine ⟨.iface t x',?_,.iface _ _ _ hx⟩
  simp only [Instr.makeInterface,Sem.run_bind,run_ty w ht,Result.andThen_ok]
  cases e:ti.desc <;> first | exact absurd e (hd _) | rfl
end
end
end Go.Den
namespace Go.Den
noncomputable section
theorem oneC_cells {φ:Phi} {v v':Value} (hv:VR φ v v') (h:oneC v=true):v'.cells=#[v']∧v'.oneCell'=true:=by
  cases hv <;> first | exact ⟨rfl,rfl⟩ | (cases h;done) | (rename_i h2;cases v' <;> first | exact ⟨rfl,rfl⟩ | (cases h2;done) | (rename_i x;cases x <;> first | exact ⟨rfl,rfl⟩ | (cases h2;done)))
def cellsO (v:Value):Option (List Value):=
  match v with
  | .agg ⟨l⟩=>some l
  | v=>bif oneC v then some [v] else none
theorem cellsO_sound {φ:Phi} {v v':Value} {l:List Value} (hv:VR φ v v') (h:cellsO v=some l):∃ l',v'.cells=⟨l'⟩∧VRs φ l l':=by
  unfold cellsO at h
  split at h
  · cases h
    cases hv with
    | agg l l' hl=>exact ⟨l',rfl,hl⟩
  · cases ho:oneC v with
    | false=>rw [ho] at h;cases h
    | true=>
      rw [ho] at h;cases h
      have:=oneC_cells hv ho
      exact ⟨[v'],this.1,.cons _ _ _ _ hv .nil⟩
def hNew (l:List Value) (h:AH):Option (Value × AH):=bif allC l then some (.pointer (some ⟨h.next,0,none⟩),h.new (.cells (PT.ofList l 0 .leaf) l.length 0)) else none
def hAlc (t:Nat) (l:List Value) (h:AH):Option (Value × AH):=bif allC l then some (.pointer (some ⟨h.next,0,none⟩),h.new (.cells (PT.ofList l 0 .leaf) l.length (2 * t+2))) else none
def hBox (v:Value) (h:AH):Option (Value × AH):=(cellsO v).bind fun l=>hNew l h
def st1 (p v:Value) (h:AH):Option AH:=
  match p with
  | .pointer (some ⟨b,o,_⟩)=>bif oneC v then h.st b o v else none
  | _=>none
def AH.stL (h:AH) (b:Nat):Nat→List Value→Option AH
  | _,[]=>some h
  | o,v::l=>bif oneC v then (h.st b o v).bind fun h=>h.stL b (o+1) l else none
def stN (n:Nat) (p v:Value) (h:AH):Option AH:=
  match p,v with
  | .pointer (some ⟨b,o,_⟩),.agg ⟨l⟩=>bif Nat.beq l.length n then h.stL b o l else none
  | _,_=>none
section
variable {P:Program} {φ:Phi} {w:World} {h h':AH} {x x' y y' v:Value} {t:TypeId}
def Makes (P:Program) (φ:Phi) (h:AH) (w:World) (s:Sem Value) (v:Value) (h':AH):Prop:=
  ∃ φ' v' w',s.run P w=.ok v' w'∧VR φ' v v'∧Rel φ' h' w'∧Fwd φ h w φ' h' w'
def Turns (P:Program) (φ:Phi) (h:AH) (w:World) (s:Sem Unit) (h':AH):Prop:=
  ∃ w',s.run P w=.ok () w'∧Rel φ h' w'∧Fwd φ h w φ h' w'
theorem hNew_sound {l l':List Value} (r:Rel φ h w) (hv:VRs φ l l') (e:TypeId) (hl:hNew l h=some (v,h')) :
    Makes P φ h w (do pure (.pointer (some (← newRow e ⟨l'⟩)))) v h':=by
  unfold hNew at hl
  cases ha:allC l with
  | false=>rw [ha] at hl;cases hl
  | true=>
  rw [ha] at hl;cases hl
  obtain ⟨h1,h2⟩:=r.newCells hv (PT.ofList l 0 .leaf) l.length (fun i v hi=>by
    have:=ofList_get l i v hi
    exact ⟨(List.getElem?_eq_some_iff.1 this).1,allC_get ha i v this,this⟩) ⟨l'⟩ e (fun i v' h=>by simpa using h)
  exact ⟨_,_,_,by simp [newRow],.ptr h.next 0 w.heap.size 0 _ (Phi.set_self _ _ _),h1,h2⟩
theorem hAlc_sound {l l':List Value} (r:Rel φ h w) (hv:VRs φ l l') (e:TypeId) (hl:hAlc e l h=some (v,h')) :
    Makes P φ h w (do pure (.pointer (some (← newRow e ⟨l'⟩)))) v h':=by
  unfold hAlc at hl
  cases ha:allC l with
  | false=>rw [ha] at hl;cases hl
  | true=>
  rw [ha] at hl;cases hl
  obtain ⟨h1,h2⟩:=r.newCells hv (PT.ofList l 0 .leaf) l.length (fun i v hi=>by
    have:=ofList_get l i v hi
    exact ⟨(List.getElem?_eq_some_iff.1 this).1,allC_get ha i v this,this⟩) ⟨l'⟩ e (fun i v' h=>by simpa using h) (2 * e+2) (.inr (.inr ⟨rfl,rfl⟩))
  exact ⟨_,_,_,by simp [newRow],.ptr h.next 0 w.heap.size 0 _ (Phi.set_self _ _ _),h1,h2⟩
theorem hBox_sound (r:Rel φ h w) (hx:VR φ x x') (e:TypeId) (hl:hBox x h=some (v,h')):Makes P φ h w (Instr.box e x') v h':=by
  unfold hBox at hl
  cases hc:cellsO x with
  | none=>simp [hc] at hl
  | some l=>
    simp [hc] at hl
    obtain ⟨l',h1,h2⟩:=cellsO_sound hx hc
    have:=hNew_sound (P:=P) r h2 e hl
    unfold Instr.box newVar
    rw [h1]
    exact this
def selfOk (l:List Value):Prop:=∀ φ,VRs φ l l
theorem hAlloc_sound {ti:TI} (r:Rel φ h w) (ht:TIok P t ti) (hz:selfOk ti.zero) (hl:hAlc t ti.zero h=some (v,h')):Makes P φ h w (Instr.alloc t true (.tuple #[])) v h':=by
  obtain ⟨z,h1,h2,_⟩:=run_zero w ht
  have:=hAlc_sound (P:=P) (w:=w) r (hz φ) t hl
  obtain ⟨φ',v',w',g1,g2⟩:=this
  refine ⟨φ',v',w',?_,g2⟩
  have e:z.cells=⟨ti.zero⟩:=Array.ext' h2
  simp only [Instr.alloc,Sem.run_bind,h1,Result.andThen_ok,newVar,e]
  simpa using g1
theorem st1_run {b b' s T o:Nat} {v v':Value} (r:Rel φ h w) (hb:φ b=some (b',s,T)) (hs:h.st b o v=some h') (hv:VR φ v v') (ho:oneC v=true) :
    (store ⟨b',o+s,none⟩ v').run P w=.ok () (w.setCell ⟨b',o+s,none⟩ v'):=by
  obtain ⟨c,n,t,u,h1,h2,rfl,h3⟩:=AH.st_eq hs
  obtain ⟨u',g1,g2,g3,_⟩:=r.cell hb h3
  rw [run_store _ _ _ _ _ (oneC_cells hv ho).2,g1]
  simp [g3]
theorem st1_sound {ti:TI} (r:Rel φ h w) (ht:TIok P t ti) (hs1:ti.size=1) (hp:VR φ x x') (hv:VR φ y y') (hl:st1 x y h=some h'):Turns P φ h w (Instr.storeAt t x' y') h':=by
  unfold st1 at hl
  split at hl
  · rename_i b o sp
    cases ho:oneC y with
    | false=>rw [ho] at hl;cases hl
    | true=>
      rw [ho,cond_true] at hl
      cases hp with
      | ptr b o b' s T hb=>
        have h1:=st1_run (P:=P) r hb hl hv ho
        obtain ⟨h2,h3⟩:=r.st hb hl hv ho
        refine ⟨_,?_,h2,h3⟩
        simp [Instr.storeAt,Instr.sureAddr,storeVar,(oneC_cells hv ho).1,run_size w ht,hs1,storeCells,add_cells,h1]
  · cases hl
theorem stL_sound {b b' s T o:Nat}:∀ {l l':List Value} {h h':AH} {w:World} (i:Nat),Rel φ h w→φ b=some (b',s,T)→VRs φ l l'→h.stL b (o+i) l=some h' →
    ∃ w',(storeCells ⟨b',o+s,none⟩ l' i).run P w=.ok () w'∧Rel φ h' w'∧Fwd φ h w φ h' w':=by
  intro l
  induction l with
  | nil=>
    intro l' h h' w i r hb hv hl
    cases hv;cases hl
    exact ⟨w,rfl,r,Fwd.refl _ _ _⟩
  | cons v l ih=>
    intro l' h h' w i r hb hv hl
    cases hv with
    | cons _ v' _ l' h1 h2=>
      simp only [AH.stL] at hl
      cases ho:oneC v with
      | false=>rw [ho] at hl;cases hl
      | true=>
        rw [ho,cond_true] at hl
        cases hs:h.st b (o+i) v with
        | none=>simp [hs] at hl
        | some h₁=>
          simp [hs] at hl
          have g1:=st1_run (P:=P) r hb hs h1 ho
          obtain ⟨g2,g3⟩:=r.st hb hs h1 ho
          obtain ⟨w',g4,g5,g6⟩:=ih (i+1) g2 hb h2 hl
          refine ⟨w',?_,g5,g3.trans r g6⟩
          simp only [storeCells,Sem.run_bind,add_cells,g1,Result.andThen_ok,g4]
theorem stN_sound {ti:TI} (r:Rel φ h w) (ht:TIok P t ti) (hp:VR φ x x') (hv:VR φ y y') (hl:stN ti.size x y h=some h'):Turns P φ h w (Instr.storeAt t x' y') h':=by
  unfold stN at hl
  split at hl
  · rename_i b o sp l
    cases hn:Nat.beq l.length ti.size with
    | false=>rw [hn] at hl;cases hl
    | true=>
      rw [hn,cond_true] at hl
      have hn:=Nat.eq_of_beq_eq_true hn
      cases hp with
      | ptr b o b' s T hb=>
        cases hv with
        | agg l l' hv=>
          obtain ⟨w',g1,g2,g3⟩:=stL_sound (P:=P) (o:=o) 0 r hb hv hl
          refine ⟨w',?_,g2,g3⟩
          have e:l'.length=ti.size:=by rw [← hv.length,hn]
          simp [Instr.storeAt,Instr.sureAddr,storeVar,Value.cells,run_size w ht,e,g1]
  · cases hl
theorem fold_set:∀ (l:List Value) (k off:Nat) (cells:List Value),off+k+l.length≤cells.length →
    (l.zipIdx k).foldl (fun cs (p:Value × Nat)=>cs.set (off+p.2) p.1) cells=cells.take (off+k)++(l++cells.drop (off+k+l.length)):=by
  intro l
  induction l with
  | nil=>intro k off cells h;simp
  | cons v l ih=>
    intro k off cells h
    simp only [List.zipIdx_cons,List.foldl_cons,List.length_cons] at h ⊢
    rw [ih (k+1) off (cells.set (off+k) v) (by simp;omega)]
    have e1:off+(k+1)=off+k+1:=by omega
    rw [e1,List.drop_set_of_lt (by omega)]
    rw [List.take_set,List.take_succ_eq_append_getElem (by omega)]
    rw [List.set_append_right _ _ (by simp;omega)]
    simp only [List.length_take,List.append_assoc]
    rw [show off+k - min (off+k) cells.length=0 by omega,show off+k+1+l.length=off+k+(l.length+1) by omega]
    rfl
def splice (cells:List Value) (off:Nat) (l:List Value):List Value:=cells.take off++(l++cells.drop (off+l.length))
theorem fill_one (v:Value) (l:List Value) (off:Nat) (cells:Array Value) (hv:v.cells=⟨l⟩) (h:off+l.length≤cells.size) :
    (v.cells.zipIdx.foldl (fun cs (c,j)=>cs.setIfInBounds (off+j) c) cells).toList=splice cells.toList off l:=by
  rw [hv,← Array.foldl_toList]
  have:=fold_set l 0 off cells.toList (by simpa using h)
  unfold splice
  rw [Nat.add_zero] at this
  rw [← this]
  simp only [Array.toList_zipIdx]
  generalize l.zipIdx 0=z
  clear this h hv
  induction z generalizing cells with
  | nil=>rfl
  | cons p z ih=>simp only [List.foldl_cons];rw [ih];simp
theorem splice_VR {cells cells' l l':List Value} (hc:VRs φ cells cells') (hl:VRs φ l l') (off:Nat):VRs φ (splice cells off l) (splice cells' off l'):=by
  unfold splice
  rw [← hl.length]
  exact (hc.take _).append (hl.append (hc.drop _))
def LayP (φ:Phi) (place:Nat→Option (Nat × Nat)):List (Nat × Nat × Value)→List (Nat × Value)→Prop
  | [],[]=>True
  | (off,size,v)::r,(i,v')::r'=>place i=some (off,size)∧VR φ v v'∧LayP φ place r r'
  | _,_=>False
def lay:List (Nat × Nat × Value)→List Value→Option (List Value)
  | [],cells=>some cells
  | (off,size,v)::r,cells=>
    (cellsO v).bind fun l=>bif Nat.beq l.length size && Nat.ble (off+size) cells.length then lay r (splice cells off l) else none
theorem lay_sound {place:Nat→Option (Nat × Nat)}:∀ {ps:List (Nat × Nat × Value)} {ps':List (Nat × Value)} {cells cells':List Value} {out:List Value},
    LayP φ place ps ps'→VRs φ cells cells'→lay ps cells=some out→∃ out',Instr.fill place ⟨cells'⟩ ps'=some ⟨out'⟩∧VRs φ out out':=by
  intro ps
  induction ps with
  | nil=>
    intro ps' cells cells' out hp hc hl
    cases ps' with
    | nil=>cases hl;exact ⟨cells',rfl,hc⟩
    | cons _ _=>exact hp.elim
  | cons p ps ih=>
    intro ps' cells cells' out hp hc hl
    obtain ⟨off,size,v⟩:=p
    cases ps' with
    | nil=>exact hp.elim
    | cons p' ps'=>
      obtain ⟨i,v'⟩:=p'
      obtain ⟨h1,h2,h4⟩:=hp
      cases hco:cellsO v with
      | none=>simp [lay,hco] at hl
      | some l=>
        obtain ⟨l',g1,g2⟩:=cellsO_sound h2 hco
        simp only [lay,hco,Option.bind_some] at hl
        cases hb:(Nat.beq l.length size && Nat.ble (off+size) cells.length) with
        | false=>rw [hb] at hl;cases hl
        | true=>
          rw [hb,cond_true] at hl
          simp only [Bool.and_eq_true] at hb
          have e1:=Nat.eq_of_beq_eq_true hb.1
          have e2:=Nat.le_of_ble_eq_true hb.2
          have e3:l'.length=size:=by rw [← g2.length,e1]
          have e4:=hc.length
          obtain ⟨out',k1,k2⟩:=ih h4 (splice_VR hc g2 off) hl
          refine ⟨out',?_,k2⟩
          have hf:=fill_one v' l' off ⟨cells'⟩ g1 (by simp;omega)
          simp only [Instr.fill,h1]
          have hs:v'.cells.size=size:=by rw [g1];simpa using e3
          rw [if_neg (by simp [hs];omega)]
          have:(v'.cells.zipIdx.foldl (fun cs (c,j)=>cs.setIfInBounds (off+j) c) (⟨cells'⟩:Array Value))=⟨splice cells' off l'⟩:=Array.ext' hf
          exact (congrArg (fun x=>Instr.fill place x ps') this).trans k1
end
end
end Go.Den
