/- Calls, deferred calls, ranges over functions: the abstract run of a function is sound. Conditions: none. -/
import Derived.Test.YtejgabehfdapjaaGreatDenB
import Derived.RangeFuncIn
import Derived.RangeFuncRecord
namespace Go.Den
noncomputable section
inductive DfR (s₀:Nat) (φ:Phi) (h:AH) (w:World):List Deferred→List Deferred→Prop
  | nil:DfR s₀ φ h w [] []
  | call (g:FuncId) (cap cap' args args':List Value) (hc:VRs φ cap cap') (ha:VRs φ args args') (ds ds':List Deferred) (hd:DfR s₀ φ h w ds ds') :
      DfR s₀ φ h w (⟨.fn (.func g) ⟨cap⟩,⟨args⟩⟩::ds) (⟨.fn (.func g) ⟨cap'⟩,⟨args'⟩⟩::ds')
  | mark (b:Nat) (hs:s₀≤b) (hb:w.heap[b]?=some (.deferred (some []))) (hf:∀ x s,φ x=some (b,s)→h.get x=none) (ds ds':List Deferred) (hn:∀ d ∈ ds',d.target≠.collected b) (hd:DfR s₀ φ h w ds ds') :
      DfR s₀ φ h w ds (⟨.collected b,#[]⟩::ds')
theorem Fwd.free {φ φ':Phi} {h h':AH} {w w':World} (r:Rel φ h w) (f:Fwd φ h w φ' h' w') {b:Nat} (hlt:b < w.heap.size)
    (hf:∀ x s,φ x=some (b,s)→h.get x=none):∀ x s,φ' x=some (b,s)→h'.get x=none:=by
  intro x s hx
  cases h5:φ x with
  | none=>
    rcases f.fresh x b s hx h5 with h | ⟨b₀,s₀,h3,h4⟩
    · omega
    · rw [hf b₀ s₀ h3] at h4;cases h4
  | some z=>
    have:=f.ext _ _ h5
    rw [hx] at this;cases this
    have h6:=hf x s h5
    cases h7:h'.get x with
    | none=>rfl
    | some o=>exact absurd h6 (f.liv x (r.bnd _ _ _ h5).1 (by rw [h7];simp))
theorem DfR.fwd {s₀:Nat} {φ φ':Phi} {h h':AH} {w w':World} (r:Rel φ h w) (f:Fwd φ h w φ' h' w') {ds ds':List Deferred} (hd:DfR s₀ φ h w ds ds'):DfR s₀ φ' h' w' ds ds':=by
  induction hd with
  | nil=>exact .nil
  | call g cap cap' args args' hc ha ds ds' _ ih=>exact .call g _ _ _ _ (hc.mono f.ext) (ha.mono f.ext) _ _ ih
  | mark b hs hb hf ds ds' hn _ ih=>
    have hlt:b < w.heap.size:=(Array.getElem?_eq_some_iff.1 hb).1
    exact .mark b hs ((f.keep b hlt fun x s hx=>by rw [hf x s hx];rfl).trans hb) (f.free r hlt hf) _ _ hn ih
theorem DfR.marks_lt {s₀:Nat} {φ:Phi} {h:AH} {w:World} {ds ds':List Deferred} (hd:DfR s₀ φ h w ds ds'):∀ d ∈ ds',∀ b,d.target=.collected b→b < w.heap.size:=by
  induction hd with
  | nil=>intro d h;cases h
  | call g cap cap' args args' hc ha ds ds' _ ih=>
    intro d hd b hb
    rcases List.mem_cons.1 hd with rfl | hd
    · cases hb
    · exact ih d hd b hb
  | mark b hs hb hf ds ds' hn _ ih=>
    intro d hd b' hb'
    rcases List.mem_cons.1 hd with rfl | hd
    · cases hb';exact (Array.getElem?_eq_some_iff.1 hb).1
    · exact ih d hd b' hb'
theorem DfR.poke {s₀:Nat} {φ:Phi} {h:AH} {w:World} {ds ds':List Deferred} (hd:DfR s₀ φ h w ds ds') {b:Nat} {o:Obj} (hn:∀ d ∈ ds',d.target≠.collected b) :
    DfR s₀ φ h { w with heap:=w.heap.setIfInBounds b o } ds ds':=by
  induction hd with
  | nil=>exact .nil
  | call g cap cap' args args' hc ha ds ds' _ ih=>exact .call g _ _ _ _ hc ha _ _ (ih fun d hd=>hn d (List.mem_cons_of_mem _ hd))
  | mark b' hs hb hf ds ds' hn' _ ih=>
    refine .mark b' hs ?_ hf _ _ hn' (ih fun d hd=>hn d (List.mem_cons_of_mem _ hd))
    have hne:b'≠b:=fun e=>hn _ (List.mem_cons_self ..) (by rw [e])
    show (w.heap.setIfInBounds b o)[b']?=_
    rw [Array.getElem?_setIfInBounds_ne (Ne.symm hne)];exact hb
def okKind (kind:CallKind) (cs:List Frame):Prop:=kind=.normal∨(kind=.deferred∧∃ c cs',cs=c::cs'∧c.mode=.returning)
def Gone (P:Program) (kind:CallKind) (fr:Frame) (w:World) (v:Value):Prop:=
  fr.mode=.returning∧fr.defers=[]∧fr.kind=kind∧∃ fn,P.funcs[fr.fn]?=some fn∧(results fn fr.tmps).run P w=.ok v w
abbrev Post:=Value→World→Prop
def Goes (P:Program) (g:FuncId) (args:Array Value) (w:World) (R:Post):Prop:=
  ∀ kind cs,okKind kind cs→∃ fr v w',R v w'∧fr.fn=g∧Steps P (lone (Frame.enter P g args kind) cs w) (lone fr cs w')∧Gone P kind fr w' v
section
variable {P:Program} {g:FuncId} {args:Array Value} {w:World} {R:Post}
theorem Goes.normal (hg:Goes P g args w R) (c:Frame) (cs:List Frame) :
    ∃ v w',R v w'∧Steps P (lone (Frame.enter P g args .normal) (c::cs) w) (lone (c.finish v) cs w'):=by
  obtain ⟨fr,v,w',hR,_,hs,hm,hd,hk,hr⟩:=hg .normal (c::cs) (.inl rfl)
  exact ⟨v,w',hR,hs.trans (.one (step_leave_returned ⟨hm,hd,hk,hr⟩))⟩
theorem Goes.deferred (hg:Goes P g args w R) {c:Frame} (cs:List Frame) (hc:c.mode=.returning) :
    ∃ v w',R v w'∧Steps P (lone (Frame.enter P g args .deferred) (c::cs) w) (lone c cs w'):=by
  obtain ⟨fr,v,w',hR,_,hs,hm,hd,hk,fn,hf,hr⟩:=hg .deferred (c::cs) (.inr ⟨rfl,c,cs,rfl,hc⟩)
  exact ⟨v,w',hR,hs.trans (.one (step_lone_go (by simp [stepG,unwind,doReturn,hm,hd,hk,hf,hr,hc])))⟩
theorem Goes.calls (hg:Goes P g args w R):Calls P g args w fun e w''=>∃ v,e=.returned v∧R v w'':=by
  intro cs
  obtain ⟨fr,v,w',hR,hfn,hs,hm,hd,hk,hr⟩:=hg .normal cs (.inl rfl)
  exact ⟨.returned v,w',fr,⟨v,rfl,hR⟩,hs,hfn,hm,hd,hk,hr⟩
end
inductive Invd (P:Program) (s:Sem Next) (w:World) (R:Post):Prop
  | value (v:Value) (w':World) (h:s.run P w=.ok (.value v) w') (hR:R v w')
  | enter (g:FuncId) (as:Array Value) (w₁:World) (h:s.run P w=.ok (.enter g as) w₁) (hg:Goes P g as w₁ R)
  | round (l fn:Nat) (tmps:Array Value) (as bd:Code) (w₁:World) (h:s.run P w=.ok (.round l fn tmps as bd) w₁)
      (hg:∀ c cs,∃ v w',R v w'∧Steps P (lone (Frame.round l fn tmps as bd .normal) (c::cs) w₁) (lone (c.finish v) cs w'))
def callV (f:Value) (args:Array Value):Sem Next:=do let d ← Deferred.ofValue f args;invoke d.target d.args
def Aft (φ:Phi) (h:AH) (w:World) (v:Value) (h':AH):Post:=fun v' w'=>∃ φ',VR φ' v v'∧Rel φ' h' w'∧Fwd φ h w φ' h' w'
def Sound (P:Program) (C:Oracle):Prop:=
  ∀ f args h v h',C f args h=some (v,h')→h'.df=h.df∧∀ φ w f' args',VR φ f f'→VRs φ args args'→Rel φ h w→Invd P (callV f' ⟨args'⟩) w (Aft φ h w v h')
def xop (E:Env) (C:Oracle) (rd:Bool) (op:Op) (ρ:Operand→Value) (h:AH):Option (Value × AH):=
  match op with
  | .call { callee:=.value f,args,argTypes:=_ }=>C (ρ f) (args.toList.map ρ) h
  | .call { callee:=.builtin .recover,args:=_,argTypes:=_ }=>bif rd then none else some (.nilIface,h)
  | .defer { callee:=.value f,args,argTypes:=_ }=>bif rd then none else match ρ f with
    | .func (.func g) ⟨first⟩ ⟨cap⟩=>some (junk,{ h with df:=⟨.fn (.func g) ⟨cap⟩,⟨first++args.toList.map ρ⟩⟩::h.df })
    | _=>none
  | .call { callee:=.invoke r n,args,argTypes:=_ }=>match ρ r with
    | .iface t v=>match E.meth t n with
      | some g=>C (.func (.func g) ⟨[]⟩ ⟨[]⟩) (v::args.toList.map ρ) h
      | none=>none
    | _=>none
  | .mapUpdate t m k v=>match mUpd E t (ρ m) (ρ k) (ρ v) h with
    | some h'=>some (junk,h')
    | none=>none
  | .call { callee:=.builtin .delete,args,argTypes }=>match argTypes.toList,args.toList with
    | t::_,[x,k]=>mDel E t (ρ x) (ρ k) h
    | _,_=>none
  | .insert t m k v=>match mUpd E t (ρ m) (ρ k) (ρ v) h with
    | some h'=>some (junk,h')
    | none=>none
  | .mapEntry t m k=>mEntry E t (ρ m) (ρ k) h
  | .entryStore _ m s x=>match eStore (ρ m) (ρ s) (ρ x) h with
    | some h'=>some (junk,h')
    | none=>none
  | op=>(aop E op ρ h).run h
section
variable {P:Program} {E:Env} {C:Oracle} {φ:Phi} {w:World} {h h':AH} {v:Value} {b:Frame} {a:Act} {k:List Item} {cs:List Frame} {ops:Array Oper} {s₀:Nat}
def notDef:Op→Bool
  | .defer _=>false
  | _=>true
def OpEnds (P:Program) (nd:Bool) (s₀:Nat) (φ:Phi) (h:AH) (w:World) (b:Frame) (a:Act) (m:Machine) (dst:Option Tmp) (ops:Array Oper) (rest:List Nat) (k:List Item) (cs:List Frame) (v:Value) (h':AH):Prop:=
  ∃ φ' v' ds w',Steps P m (lone (b.atR ((⟨a.tmps,ds⟩:Act).put dst v') (.inRegion ops rest::k)) cs w') ∧
    VR φ' v v'∧Rel φ' h' w'∧Fwd φ h w φ' h' w'∧DfR s₀ φ' h' w' h'.df ds∧(nd=true→ds=a.defers)
theorem map_eval (a:Act) (args:Array Operand):args.map a.eval=⟨args.toList.map a.eval⟩:=by
  apply Array.ext';simp
theorem evals_VR {tm:List Value} (hv:VRs φ tm a.tmps.toList) (l:List Operand):VRs φ (l.map (aev tm)) (l.map a.eval):=by
  induction l with
  | nil=>exact .nil
  | cons x l ih=>exact .cons _ _ _ _ (aev_VR hv x) ih
theorem opr_of_gives {i:Nat} {rest:List Nat} {o:Oper} (ho:ops[i]?=some o) (hw:Region.wanted o (yielded ops a.tmps)=true) (hdf:∀ c,o.op≠.defer c)
    (r:Rel φ h w) (hd:DfR s₀ φ h w h.df a.defers) (hg:Gives P φ h w (execOp a.eval o) v h') :
    OpEnds P (notDef o.op) s₀ φ h w b a (lone (b.atR a (.inRegion ops (i::rest)::k)) cs w) o.dst ops rest k cs v h':=by
  obtain ⟨φ',n,v',w',h1,h2,h3,h4,h5,h6⟩:=hg
  have hst:=stepGR_op (P:=P) (b:=b) (k:=k) (cs:=cs) (w:=w) (rest:=rest) ho hw
  rw [Oper.semAt_eq _ _ _ hdf] at hst
  have hfin:=Frame.finish_atR b a ops i rest k v'
  rw [ho] at hfin
  refine ⟨φ',v',a.defers,w',.one (step_lone_go ?_),h3,h4,h5,by rw [h6];exact hd.fwd r h5,fun _=>rfl⟩
  rw [hst]
  change _=GStep.go { frame:=b.atR (a.put (Option.bind (some o) (·.dst)) v') (.inRegion ops rest::k),callers:=cs,status:=.running,dying:=none } w'
  rw [← hfin]
  rcases h2 with rfl | ⟨rfl,rfl⟩ <;> simp [stepG.apply,Sem.runT_eq,GStep.bare_after,h1]
theorem opr_sound (ok:EnvOK P E) (hC:Sound P C) (hk:okKind b.kind cs) {rd:Bool} (hrd:rd=b.roundOf.isSome) {tm:List Value} (hv:VRs φ tm a.tmps.toList) (r:Rel φ h w)
    (hd:DfR s₀ φ h w h.df a.defers) {i:Nat} {rest:List Nat} {o:Oper} (ho:ops[i]?=some o) (hw:Region.wanted o (yielded ops a.tmps)=true)
    (hl:xop E C rd o.op (aev tm) h=some (v,h')) :
    OpEnds P (notDef o.op) s₀ φ h w b a (lone (b.atR a (.inRegion ops (i::rest)::k)) cs w) o.dst ops rest k cs v h':=by
  have hst:=stepGR_op (P:=P) (b:=b) (k:=k) (cs:=cs) (w:=w) (rest:=rest) ho hw
  have hfin:=fun v'=>Frame.finish_atR b a ops i rest k v'
  rw [ho] at hfin
  unfold xop at hl
  split at hl
  · rename_i f args ts hop
    have hex:execOp a.eval o=callV (a.eval f) ⟨args.toList.map a.eval⟩:=by
      simp only [execOp,hop,resolve,callV,map_eval]
    rw [Oper.semAt_eq _ _ _ (by rw [hop];simp),hex] at hst
    obtain ⟨hdf,hS⟩:=hC _ _ _ _ _ hl
    have key:∃ v' w',Aft φ h w v h' v' w'∧Steps P (lone (b.atR a (.inRegion ops (i::rest)::k)) cs w) (lone ((b.atR a (.inRegion ops (i::rest)::k)).finish v') cs w'):=by
      cases hS φ w (a.eval f) _ (aev_VR hv f) (evals_VR hv _) r with
      | value v' w' h hR=>exact ⟨v',w',hR,.one (step_lone_go (by rw [hst];simp [stepG.apply,Sem.runT_eq,GStep.bare_after,h]))⟩
      | enter g as w₁ h hg=>
        obtain ⟨v',w',hR,hs⟩:=hg.normal (b.atR a (.inRegion ops (i::rest)::k)) cs
        refine ⟨v',w',hR,.head (step_lone_go ?_) hs⟩
        rw [hst];simp [stepG.apply,Sem.runT_eq,GStep.bare_after,h,Frame.atR]
      | round l fn tmps as bd w₁ h hg=>
        obtain ⟨v',w',hR,hs⟩:=hg (b.atR a (.inRegion ops (i::rest)::k)) cs
        refine ⟨v',w',hR,.head (step_lone_go ?_) hs⟩
        rw [hst];simp [stepG.apply,Sem.runT_eq,GStep.bare_after,h]
    obtain ⟨v',w',⟨φ',h1,h2,h3⟩,hs⟩:=key
    rw [hfin] at hs
    exact ⟨φ',v',a.defers,w',hs,h1,h2,h3,by rw [hdf];exact hd.fwd r h3,fun _=>rfl⟩
  · rename_i args ts hop
    cases rd <;> cases hl
    have hro:b.roundOf=none:=by simpa using hrd.symm
    refine ⟨φ,.nilIface,a.defers,w,.one (step_lone_go ?_),.nilIface,r,Fwd.refl _ _ _,hd,fun _=>rfl⟩
    change _=GStep.go { frame:=b.atR (a.put (Option.bind (some o) (·.dst)) .nilIface) (.inRegion ops rest::k),callers:=cs,status:=.running,dying:=none } w
    rw [← hfin,hst,Oper.semAt_eq _ _ _ (by rw [hop];simp)]
    have hx:(execOp a.eval o).run P w=.ok .recover w:=by
      simp [execOp,hop,resolve,invoke,builtin]
    have ht:tryRecover (b.atR a (.inRegion ops (i::rest)::k)) cs=none:=by
      rcases hk with hk | ⟨hk,c,cs',rfl,hc⟩
      · simp [tryRecover,Frame.atR,hk]
      · simp [tryRecover,Frame.atR,hk,hc]
    have hro':(b.atR a (.inRegion ops (i::rest)::k)).roundOf=none:=hro
    simp only [stepG.apply,Sem.runT_eq,hx,hro',ht,GStep.bare_after]
    rfl
  · rename_i f args ts hop
    cases rd <;> simp only [cond_true,cond_false] at hl
    case true=>cases hl
    have hro:b.roundOf=none:=by simpa using hrd.symm
    split at hl
    · rename_i g first cap hf
      cases hl
      have hfv:=aev_VR hv f
      rw [hf] at hfv
      generalize hfe:a.eval f=fe at hfv
      cases hfv with
      | func _ hy _ first' _ cap' h1 h2=>
        have hx:(execOp a.eval o).run P w=.ok (.defer ⟨.fn (.func g) ⟨cap'⟩,⟨first'++args.toList.map a.eval⟩⟩) w:=by
          simp [execOp,hop,resolve,hfe,Deferred.ofValue,map_eval]
        refine ⟨φ,undef,⟨.fn (.func g) ⟨cap'⟩,⟨first'++args.toList.map a.eval⟩⟩::a.defers,w,.one (step_lone_go ?_),.junk _,⟨r.blk,r.inj,r.bnd,r.lim,r.gl⟩,
          ⟨Nat.le_refl _,fun _ _ h=>h,fun _ _ h=>⟨h,rfl⟩,(fun _ _ _ h h'=>by rw [h] at h';cases h'),fun _ _ h=>h,fun _ _ h=>h,Nat.le_refl _,rfl,rfl,fun _ _ _=>rfl⟩,?_,fun hn=>by rw [hop] at hn;cases hn⟩
        · have hfin':=Frame.finish_atR b ⟨a.tmps,⟨.fn (.func g) ⟨cap'⟩,⟨first'++args.toList.map a.eval⟩⟩::a.defers⟩ ops i rest k undef
          rw [ho] at hfin'
          change _=GStep.go { frame:=b.atR ((⟨a.tmps,⟨.fn (.func g) ⟨cap'⟩,⟨first'++args.toList.map a.eval⟩⟩::a.defers⟩:Act).put (Option.bind (some o) (·.dst)) undef) (.inRegion ops rest::k),callers:=cs,status:=.running,dying:=none } w
          rw [← hfin',hst,hro,Oper.semAt_none]
          simp only [stepG.apply,Sem.runT_eq,hx,GStep.bare_after]
          rfl
        · have hd':DfR s₀ φ { h with df:=⟨.fn (.func g) ⟨cap⟩,⟨first++args.toList.map (aev tm)⟩⟩::h.df } w h.df a.defers:=by
            have:∀ {ds ds'},DfR s₀ φ h w ds ds'→DfR s₀ φ { h with df:=⟨.fn (.func g) ⟨cap⟩,⟨first++args.toList.map (aev tm)⟩⟩::h.df } w ds ds':=by
              intro ds ds' hh
              induction hh with
              | nil=>exact .nil
              | call g cap cap' args args' hc ha ds ds' _ ih=>exact .call g _ _ _ _ hc ha _ _ ih
              | mark b hs hb hf ds ds' hn _ ih=>exact .mark b hs hb (by exact hf) _ _ hn ih
            exact this hd
          exact .call g _ _ _ _ h2 (h1.append (evals_VR hv _)) _ _ hd'
    · cases hl
  · rename_i rc n args ts hop
    split at hl
    · rename_i t u hrc
      split at hl
      · rename_i g hm
        have hrv:=aev_VR hv rc
        rw [hrc] at hrv
        generalize hre:a.eval rc=re at hrv
        cases hrv with
        | iface _ _ u' hu=>
          have hrun:∀ w,(execOp a.eval o).run P w=(callV (.func (.func g) #[] #[]) ⟨u'::args.toList.map a.eval⟩).run P w:=by
            intro w
            have h1:(execOp a.eval o).run P w=(callMethod (.iface t u') n ⟨args.toList.map a.eval⟩).run P w:=by
              simp only [execOp,hop,resolve,hre,map_eval]
              simp [invoke]
              rw [List.take_of_length_le (by simp)]
            rw [h1,ok.meth _ _ _ hm]
            have e:(#[u']:Array Value)++(⟨args.toList.map a.eval⟩:Array Value)=⟨u'::args.toList.map a.eval⟩:=by apply Array.ext';simp
            rw [e]
            simp [callV,Deferred.ofValue,invoke]
          rw [Oper.semAt_eq _ _ _ (by rw [hop];simp)] at hst
          obtain ⟨hdf,hS⟩:=hC _ _ _ _ _ hl
          have key:∃ v' w',Aft φ h w v h' v' w'∧Steps P (lone (b.atR a (.inRegion ops (i::rest)::k)) cs w) (lone ((b.atR a (.inRegion ops (i::rest)::k)).finish v') cs w'):=by
            cases hS φ w (.func (.func g) ⟨[]⟩ ⟨[]⟩) (u'::args.toList.map a.eval) (.func _ (by simp) _ _ _ _ .nil .nil) (.cons _ _ _ _ hu (evals_VR hv _)) r with
            | value v' w' h hR=>exact ⟨v',w',hR,.one (step_lone_go (by rw [hst];simp [stepG.apply,Sem.runT_eq,GStep.bare_after,hrun,h]))⟩
            | enter g as w₁ h hg=>
              obtain ⟨v',w',hR,hs⟩:=hg.normal (b.atR a (.inRegion ops (i::rest)::k)) cs
              refine ⟨v',w',hR,.head (step_lone_go ?_) hs⟩
              rw [hst];simp [stepG.apply,Sem.runT_eq,GStep.bare_after,hrun,h,Frame.atR]
            | round l fn tmps as bd w₁ h hg=>
              obtain ⟨v',w',hR,hs⟩:=hg (b.atR a (.inRegion ops (i::rest)::k)) cs
              refine ⟨v',w',hR,.head (step_lone_go ?_) hs⟩
              rw [hst];simp [stepG.apply,Sem.runT_eq,GStep.bare_after,hrun,h]
          obtain ⟨v',w',⟨φ',h1,h2,h3⟩,hs⟩:=key
          rw [hfin] at hs
          exact ⟨φ',v',a.defers,w',hs,h1,h2,h3,by rw [hdf];exact hd.fwd r h3,fun _=>rfl⟩
      · cases hl
    · cases hl
  · rename_i t m x u hop
    split at hl
    · rename_i h₁ hu
      cases hl
      refine opr_of_gives ho hw (by rw [hop];simp) r hd ?_
      have e:execOp a.eval o=(do Instr.mapUpdate t (a.eval m) (a.eval x) (a.eval u);pure .skip):=by simp only [execOp,hop]
      rw [e]
      obtain ⟨g1,g2⟩:=mUpd_sound ok r (aev_VR hv m) (aev_VR hv x) (aev_VR hv u) hu
      exact Gives.turned g1 g2
    · cases hl
  · rename_i args ts hop
    split at hl
    · rename_i t ts' x k' e1 e2
      refine opr_of_gives ho hw (by rw [hop];simp) r hd ?_
      obtain ⟨args⟩:=args
      obtain ⟨ts⟩:=ts
      have e1':ts=t::ts':=e1
      have e2':args=[x,k']:=e2
      subst e1' e2'
      obtain ⟨g1,g2⟩:=mDel_sound (ts:=ts') (ty:=o.type) ok r (aev_VR hv x) (aev_VR hv k') hl
      have e:execOp a.eval o=(do pure (.value (← Builtin.delete_ ⟨t::ts'⟩ o.type #[a.eval x,a.eval k']))):=by
        simp [execOp,hop,resolve,invoke,builtin]
      rw [e]
      exact Gives.made g1 g2
    · cases hl
  · rename_i t m x u hop
    split at hl
    · rename_i h₁ hu
      cases hl
      refine opr_of_gives ho hw (by rw [hop];simp) r hd ?_
      have e:execOp a.eval o=(do Instr.mapUpdate t (a.eval m) (a.eval x) (a.eval u);pure .skip):=by simp only [execOp,hop]
      rw [e]
      obtain ⟨g1,g2⟩:=mUpd_sound ok r (aev_VR hv m) (aev_VR hv x) (aev_VR hv u) hu
      exact Gives.turned g1 g2
    · cases hl
  · rename_i t m x hop
    refine opr_of_gives ho hw (by rw [hop];simp) r hd ?_
    have e:execOp a.eval o=(do pure (.value (← Instr.mapEntry t (a.eval m) (a.eval x)))):=by simp only [execOp,hop]
    rw [e]
    obtain ⟨⟨v',w',g1,g2,g3,g4⟩,g5⟩:=mEntry_sound ok r (aev_VR hv m) (aev_VR hv x) hl
    exact Gives.made ⟨φ,v',w',g1,g2,g3,g4⟩ g5
  · rename_i t m s x hop
    split at hl
    · rename_i h₁ hu
      cases hl
      refine opr_of_gives ho hw (by rw [hop];simp) r hd ?_
      have e:execOp a.eval o=(do Instr.entryStore t (a.eval m) (a.eval s) (a.eval x);pure .skip):=by simp only [execOp,hop]
      rw [e]
      obtain ⟨g1,g2⟩:=eStore_sound (t:=t) r (aev_VR hv m) (aev_VR hv s) (aev_VR hv x) hu
      exact Gives.turned g1 g2
    · cases hl
  · refine opr_of_gives ho hw ?_ r hd (aop_exec ok hv r hl)
    intro c hc
    rw [hc] at hl
    simp [aop,AR.run] at hl
end
end
end Go.Den
namespace Go.Den
noncomputable section
theorem Fwd.poke {φ₀ φ:Phi} {h₀ h:AH} {w₀ w:World} (f:Fwd φ₀ h₀ w₀ φ h w) {b:Nat} {o:Obj} (hs:w₀.heap.size≤b):Fwd φ₀ h₀ w₀ φ h (w.putObj b o):=
  ⟨f.nx,f.ext,f.unm,f.fresh,f.liv,f.lw,by rw [World.putObj_size];exact f.sz,f.os,f.out,fun c hc hk=>by rw [World.putObj_heap_other (by omega)];exact f.keep c hc hk⟩
theorem Rel.poke {φ:Phi} {h:AH} {w:World} (r:Rel φ h w) {b:Nat} {o:Obj} (hf:∀ x s,φ x=some (b,s)→h.get x=none):Rel φ h (w.putObj b o):=
  ⟨fun x b' s T hx=>by
    by_cases e:b'=b
    · subst e;rw [hf _ _ hx];trivial
    · rw [World.putObj_heap_other e];exact r.blk _ _ _ _ hx,r.inj,fun x b' s hx=>by rw [World.putObj_size];exact r.bnd _ _ _ hx,r.lim,r.gl⟩
def AH.wdf (h:AH) (ds:List Deferred):AH:={ h with df:=ds }
theorem Rel.wdf {φ:Phi} {h:AH} {w:World} (r:Rel φ h w) (ds:List Deferred):Rel φ (h.wdf ds) w:=⟨r.blk,r.inj,r.bnd,r.lim,r.gl⟩
theorem Fwd.wdfL {φ φ':Phi} {h h':AH} {w w':World} {ds:List Deferred} (f:Fwd φ (h.wdf ds) w φ' h' w'):Fwd φ h w φ' h' w':=
  ⟨f.nx,f.ext,f.unm,f.fresh,f.liv,f.lw,f.sz,f.os,f.out,f.keep⟩
theorem Fwd.wdf {φ φ':Phi} {h h':AH} {w w':World} (f:Fwd φ h w φ' h' w') (ds:List Deferred):Fwd φ h w φ' (h'.wdf ds) w':=
  ⟨f.nx,f.ext,f.unm,f.fresh,f.liv,f.lw,f.sz,f.os,f.out,f.keep⟩
theorem DfR.wdf {s₀:Nat} {φ:Phi} {h:AH} {w:World} {ds ds':List Deferred} (d:DfR s₀ φ h w ds ds') (x:List Deferred):DfR s₀ φ (h.wdf x) w ds ds':=by
  induction d with
  | nil=>exact .nil
  | call g cap cap' args args' hc ha ds ds' _ ih=>exact .call g _ _ _ _ hc ha _ _ ih
  | mark b hs hb hf ds ds' hn _ ih=>exact .mark b hs hb (by exact hf) _ _ hn ih
def wantedA (all:List Oper) (tm:List Value) (o:Oper):Option Bool:=
  match o.guard with
  | none=>some true
  | some (j,want)=>match all[j]? with
    | some g=>match g.dst with
      | some d=>vGuard want (gt tm d)
      | none=>some false
    | none=>some false
def xregion (E:Env) (C:Oracle) (rd:Bool) (all:List Oper):List Oper→List Value→AH→Option (List Value × AH)
  | [],tm,h=>some (tm,h)
  | o::os,tm,h=>match wantedA all tm o with
    | some true=>match xop E C rd o.op (aev tm) h with
      | some (v,h')=>xregion E C rd all os (sto tm o.dst v) h'
      | none=>none
    | some false=>xregion E C rd all os (sto tm o.dst undV) h
    | none=>none
structure FR (s₀:Nat) (φ:Phi) (h:AH) (w:World) (tm:List Value) (a:Act):Prop where
  tms:VRs φ tm a.tmps.toList
  rel:Rel φ h w
  dfs:DfR s₀ φ h w h.df a.defers
section
variable {P:Program} {E:Env} {C:Oracle} {φ:Phi} {w:World} {h h':AH} {v:Value} {b:Frame} {a:Act} {k:List Item} {cs:List Frame} {s₀:Nat} {tm tm':List Value}
theorem sto_VR (hv:VRs φ tm a.tmps.toList) (dst:Option Tmp) {v v':Value} (h:VR φ v v') (ds:List Deferred):VRs φ (sto tm dst v) ((⟨a.tmps,ds⟩:Act).put dst v').tmps.toList:=by
  cases dst with
  | none=>exact hv
  | some d=>simpa [sto,setR_def,Act.put] using hv.set d h
theorem put_defers (dst:Option Tmp) (v:Value) (ds:List Deferred) (t:Array Value):((⟨t,ds⟩:Act).put dst v).defers=ds:=by cases dst <;> rfl
theorem wantedA_sound {ops:Array Oper} (hv:VRs φ tm a.tmps.toList) {o:Oper} {t:Bool} (hl:wantedA ops.toList tm o=some t) :
    Region.wanted o (yielded ops a.tmps)=t:=by
  unfold wantedA at hl
  unfold Region.wanted
  cases hg:o.guard with
  | none=>rw [hg] at hl;cases hl;rfl
  | some jw=>
    obtain ⟨j,want⟩:=jw
    rw [hg] at hl
    simp only [Array.getElem?_toList] at hl
    unfold yielded
    cases hj:ops[j]? with
    | none=>rw [hj] at hl;cases hl;simp [hj]
    | some g=>
      rw [hj] at hl
      simp only at hl
      cases hd:g.dst with
      | none=>rw [hd] at hl;cases hl;simp [hj,hd]
      | some d=>
        rw [hd] at hl
        simp only at hl
        have hx:=hv.getD d
        simp only [hj,Option.bind_some,hd]
        have e:a.tmps.toList.getD d (.tuple #[])=(a.tmps[d]?).getD (.tuple #[]):=by simp [List.getD_eq_getElem?_getD]
        rw [e] at hx
        rw [gt_def] at hl
        generalize ht:tm.getD d junk=x at hl
        have ht':tm.getD d (.tuple #[])=x:=ht
        rw [ht'] at hx
        unfold vGuard at hl
        split at hl
        · rename_i bb
          cases hl
          have:=hx.bool_inv
          cases hq:a.tmps[d]? with
          | none=>rw [hq] at this;cases this
          | some y=>rw [hq] at this;simp only [Option.getD_some] at this;subst this;simp
        · cases hl
          have:=hx.und_inv
          cases hq:a.tmps[d]? with
          | none=>simp
          | some y=>rw [hq] at this;simp only [Option.getD_some] at this;subst this;simp
        · cases hl
theorem xregion_sound (ok:EnvOK P E) (hC:Sound P C) (hk:okKind b.kind cs) {rd:Bool} (hrd:rd=b.roundOf.isSome) (ops:Array Oper) :
    ∀ (n i:Nat) (φ:Phi) (tm:List Value) (h:AH) (a:Act) (w:World),i+n=ops.size→FR s₀ φ h w tm a →
      xregion E C rd ops.toList (ops.toList.drop i) tm h=some (tm',h') →
      ∃ φ' a' w',Steps P (lone (b.atR a (.inRegion ops (List.range' i n)::k)) cs w) (lone (b.atR a' k) cs w')∧FR s₀ φ' h' w' tm' a'∧Fwd φ h w φ' h' w'∧((∀ o ∈ ops.toList,notDef o.op=true)→a'.defers=a.defers):=by
  intro n
  induction n with
  | zero=>
    intro i φ tm h a w hi hf hl
    rw [List.drop_of_length_le (by simp;omega)] at hl
    cases hl
    exact ⟨φ,a,w,.one stepR_region_end,hf,Fwd.refl _ _ _,fun _=>rfl⟩
  | succ n ih=>
    intro i φ tm h a w hi hf hl
    have hlt:i < ops.size:=by omega
    have hd:ops.toList.drop i=ops[i]::ops.toList.drop (i+1):=by
      rw [List.drop_eq_getElem_cons (by simpa using hlt)];simp
    rw [hd] at hl
    simp only [xregion] at hl
    have ho:ops[i]?=some ops[i]:=Array.getElem?_eq_getElem hlt
    rw [List.range'_succ]
    cases hw:wantedA ops.toList tm ops[i] with
    | none=>rw [hw] at hl;cases hl
    | some t=>
      rw [hw] at hl
      have hw':=wantedA_sound hf.tms hw
      cases t with
      | false=>
        simp only at hl
        have hs:=stepR_op_skip (P:=P) (b:=b) (a:=a) (k:=k) (cs:=cs) (w:=w) (ops:=ops) (i:=i) (rest:=List.range' (i+1) n) (by rw [ho];simp [hw'])
        rw [ho] at hs
        have hfr:FR s₀ φ h w (sto tm ops[i].dst undV) (a.put ops[i].dst undef):=
          ⟨sto_VR hf.tms _ .und a.defers,hf.rel,by rw [show (a.put ops[i].dst undef).defers=a.defers from put_defers _ _ _ _];exact hf.dfs⟩
        obtain ⟨φ',a',w',h1,h2,h3,h4⟩:=ih (i+1) φ _ h _ w (by omega) hfr hl
        exact ⟨φ',a',w',.head hs h1,h2,h3,fun hd=>(h4 hd).trans (put_defers _ _ _ _)⟩
      | true=>
        simp only at hl
        cases hx:xop E C rd ops[i].op (aev tm) h with
        | none=>rw [hx] at hl;cases hl
        | some p=>
          obtain ⟨v,h₁⟩:=p
          rw [hx] at hl
          simp only at hl
          obtain ⟨φ₁,v',ds,w₁,g1,g2,g3,g4,g5,g6⟩:=opr_sound (k:=k) ok hC hk hrd hf.tms hf.rel hf.dfs (rest:=List.range' (i+1) n) ho hw' hx
          have hfr:FR s₀ φ₁ h₁ w₁ (sto tm ops[i].dst v) ((⟨a.tmps,ds⟩:Act).put ops[i].dst v'):=
            ⟨sto_VR (a:=a) (hf.tms.mono g4.ext) _ g2 ds,g3,by rw [put_defers];exact g5⟩
          obtain ⟨φ',a',w',h1,h2,h3,h4⟩:=ih (i+1) φ₁ _ h₁ _ w₁ (by omega) hfr hl
          exact ⟨φ',a',w',g1.trans h1,h2,g4.trans hf.rel h3,fun hd=>(h4 hd).trans ((put_defers _ _ _ _).trans (g6 (hd _ (List.getElem_mem _))))⟩
end
end
end Go.Den
namespace Go.Den
noncomputable section
theorem Rel.push {φ:Phi} {h:AH} {w:World} (r:Rel φ h w) (o:Obj):Rel φ h (w.alloc o)∧Fwd φ h w φ h (w.alloc o):=by
  refine ⟨⟨fun b b' s T hb=>?_,r.inj,fun b b' s hb=>?_,r.lim,r.gl⟩,⟨Nat.le_refl _,fun _ _ h=>h,fun _ _ h=>⟨h,rfl⟩,(fun _ _ _ h h'=>by rw [h] at h';cases h'),fun _ _ h=>h,fun _ _ h=>h,?_,rfl,rfl,fun c hc _=>?_⟩⟩
  · have:=(r.bnd _ _ _ hb).2
    have e:(w.alloc o).heap[b']?=w.heap[b']?:=by
      show (w.heap.push o)[b']?=_
      rw [Array.getElem?_push,if_neg (by omega)]
    rw [e];exact r.blk _ _ _ _ hb
  · have:=r.bnd _ _ _ hb
    refine ⟨this.1,?_⟩
    show b' < (w.heap.push o).size
    rw [Array.size_push];omega
  · show w.heap.size≤(w.heap.push o).size
    rw [Array.size_push];omega
  · show (w.heap.push o)[c]?=_
    rw [Array.getElem?_push,if_neg (by omega)]
def xrange (C:Oracle) (fn:FuncId) (g:Value) (tm:List Value) (ps:Array Tmp) (as bd:Code) (h:AH):Option (Option Code × AH):=
  match C g [.func (.yield h.next) #[] #[]] (h.new (.loop fn tm ps as bd .ready none)) with
  | some (_,h₁)=>match h₁.get h.next with
    | some (.loop _ _ _ _ _ .ready pd)=>some (pd,h₁.put h.next none)
    | some (.loop _ _ _ _ _ .done pd)=>some (pd,h₁.put h.next none)
    | _=>none
  | none=>none
section
variable {P:Program} {E:Env} {C:Oracle} {φ:Phi} {w:World} {h h':AH} {v:Value} {b:Frame} {a:Act} {k:List Item} {cs:List Frame} {s₀:Nat} {tm tm':List Value}
theorem stepG_rangeFunc {g:Operand} {ps:Array Tmp} {as bd:Code} {l:Nat} {mark:List Deferred} {w₁:World}
    (he:(Instr.enterLoop b.fn a.tmps ps as bd b.roundOf).run P w=.ok (l,mark) w₁) :
    (stepG P true { frame:=b.atR a (.code (.rangeFunc g ps as bd)::k),callers:=cs,status:=.running,dying:=none } w).bare=
      (stepG.apply P true (b.atR { a with defers:=mark++a.defers } (.inRangeFunc l::k)) cs none (callV (a.eval g) ⟨[.func (.yield l) #[] #[]]⟩) w₁).bare:=by
  have hev:=Frame.eval_atR b { a with defers:=mark++a.defers } (.inRangeFunc l::k)
  simp only [Frame.atR] at hev
  have hcall:(do let d ← resolve ({ tmps:=a.tmps,defers:=mark++a.defers }:Act).eval { callee:=.value g,args:=#[.const (.func (.yield l) #[] #[])],argTypes:=#[] } 0;invoke d.target d.args)=
      callV (a.eval g) ⟨[.func (.yield l) #[] #[]]⟩:=by
    simp only [resolve,callV,map_eval]
    cases g <;> rfl
  simp only [stepG,stepG.exec,Frame.atR,Sem.runT_eq,he,GStep.bare_after,hev,hcall]
theorem xrange_sound (hC:Sound P C) (hro:b.roundOf=none) {g:Operand} {ps:Array Tmp} {as bd:Code} {pd:Option Code} (hf:FR s₀ φ h w tm a) (hs:s₀≤w.heap.size)
    (hl:xrange C b.fn (aev tm g) tm ps as bd h=some (pd,h')) :
    ∃ φ' a' w',Steps P (lone (b.atR a (.code (.rangeFunc g ps as bd)::k)) cs w) (lone (b.atR a' ((pd.map Item.code).toList++k)) cs w')∧FR s₀ φ' h' w' tm a'∧Fwd φ h w φ' h' w':=by
  unfold xrange at hl
  cases hc:C (aev tm g) [.func (.yield h.next) #[] #[]] (h.new (.loop b.fn tm ps as bd .ready none)) with
  | none=>rw [hc] at hl;cases hl
  | some p=>
    obtain ⟨v,h₁⟩:=p
    rw [hc] at hl
    simp only at hl
    have he:=run_enterLoop_outer (P:=P) (w:=w) b.fn a.tmps ps as bd
    obtain ⟨r1,f1⟩:=hf.rel.push (.deferred (some []))
    let rec_:Loop:={ state:=.ready,pending:=none,fn:=b.fn,tmps:=a.tmps,params:=ps,assign:=as,body:=bd,defers:=w.heap.size }
    have hle:φ.le (φ.set h.next ((w.alloc (.deferred (some []))).heap.size,0,0)):=Phi.le_set r1.none_next
    obtain ⟨r2,f2⟩:=r1.new (.loop b.fn tm ps as bd .ready none) (.loop rec_) 0 ⟨rfl,rfl,hf.tms.mono hle,rfl,rfl,rfl,rfl,rfl⟩
    have hsz:(w.alloc (.deferred (some []))).heap.size=w.heap.size+1:=by simp
    rw [hsz] at r2 f2 hle
    have hset:(φ.set h.next (w.heap.size+1,0,0)) h.next=some (w.heap.size+1,0,0):=Phi.set_self _ _ _
    obtain ⟨g4,hS⟩:=hC _ _ _ _ _ hc
    have hInv:=hS (φ.set h.next (w.heap.size+1,0,0)) ((w.alloc (.deferred (some []))).alloc (.loop rec_)) (a.eval g) [.func (.yield (w.heap.size+1)) #[] #[]]
      (aev_VR (hf.tms.mono hle) g) (.cons _ _ _ _ (.yield _ _ _ hset) .nil) r2
    have hst:=stepG_rangeFunc (P:=P) (b:=b) (a:=a) (k:=k) (cs:=cs) (w:=w) (g:=g) (by rw [hro];exact he)
    have back:∃ v' w₂,Aft (φ.set h.next (w.heap.size+1,0,0)) (h.new (.loop b.fn tm ps as bd .ready none)) ((w.alloc (.deferred (some []))).alloc (.loop rec_)) v h₁ v' w₂ ∧
        Steps P (lone (b.atR a (.code (.rangeFunc g ps as bd)::k)) cs w) (lone (b.atR { a with defers:=[{ target:=.collected w.heap.size,args:=#[] }]++a.defers } (.endRangeFunc (w.heap.size+1)::k)) cs w₂):=by
      have hfin:=fun v'=>finish_atR_inRangeFunc (b:=b) (a:={ a with defers:=[{ target:=.collected w.heap.size,args:=#[] }]++a.defers }) (k:=k) (w.heap.size+1) v'
      cases hInv with
      | value v' w' h hR=>
        refine ⟨v',w',hR,?_⟩
        rw [← hfin v']
        exact .one (step_lone_go (by rw [hst];simp [stepG.apply,Sem.runT_eq,GStep.bare_after,rec_,h]))
      | enter g as w₁ h hg=>
        obtain ⟨v',w',hR,hs⟩:=hg.normal (b.atR { a with defers:=[{ target:=.collected w.heap.size,args:=#[] }]++a.defers } (.inRangeFunc (w.heap.size+1)::k)) cs
        rw [hfin] at hs
        refine ⟨v',w',hR,.head (step_lone_go ?_) hs⟩
        rw [hst];simp [stepG.apply,Sem.runT_eq,GStep.bare_after,h,rec_,Frame.atR]
      | round l fn tmps as bd w₁ h hg=>
        obtain ⟨v',w',hR,hs⟩:=hg (b.atR { a with defers:=[{ target:=.collected w.heap.size,args:=#[] }]++a.defers } (.inRangeFunc (w.heap.size+1)::k)) cs
        rw [hfin] at hs
        refine ⟨v',w',hR,.head (step_lone_go ?_) hs⟩
        rw [hst];simp [stepG.apply,Sem.runT_eq,GStep.bare_after,h,rec_]
    obtain ⟨v',w₂,⟨φ₂,g1,g2,g3⟩,back⟩:=back
    have hφ₂:=g3.ext _ _ hset
    have hblk:=g2.blk _ _ _ _ hφ₂
    have hdm:DfR s₀ φ h (w.alloc (.deferred (some []))) h.df ([{ target:=.collected w.heap.size,args:=#[] }]++a.defers):=by
      refine .mark w.heap.size hs (World.alloc_heap_new w _) (fun x s hx=>?_) _ _ (fun d hd hb=>Nat.lt_irrefl _ (hf.dfs.marks_lt d hd _ hb)) (hf.dfs.fwd hf.rel f1)
      have:=(hf.rel.bnd _ _ _ hx).2
      omega
    have fin:∀ st,st≠.busy→h₁.get h.next=some (.loop b.fn tm ps as bd st pd)∨(∃ fn tm ps as bd,h₁.get h.next=some (.loop fn tm ps as bd st pd))→h'=h₁.put h.next none →
        ∃ φ' a' w',Steps P (lone (b.atR a (.code (.rangeFunc g ps as bd)::k)) cs w) (lone (b.atR a' ((pd.map Item.code).toList++k)) cs w')∧FR s₀ φ' h' w' tm a'∧Fwd φ h w φ' h' w':=by
      intro st hst' hget heq
      have hget:∃ fn tm ps as bd,h₁.get h.next=some (.loop fn tm ps as bd st pd):=by
        rcases hget with h | h
        · exact ⟨_,_,_,_,_,h⟩
        · exact h
      obtain ⟨fn',tm',ps',as',bd',hget⟩:=hget
      rw [hget] at hblk
      cases hw2:w₂.heap[w.heap.size+1]? with
      | none=>rw [hw2] at hblk;exact hblk.elim
      | some ob=>
        rw [hw2] at hblk
        cases ob with
        | loop rr=>
          obtain ⟨_,_,_,_,_,_,e1,e2⟩:=hblk
          have hend:=run_endLoop (P:=P) hw2 (by rw [e1];exact hst')
          have hend:(Instr.endLoop (w.heap.size+1)).run P w₂=.ok pd (w₂.putObj (w.heap.size+1) (.loop { rr with state:=.exhausted })):=by rw [hend,e2]
          obtain ⟨r4,f4⟩:=g2.obj (o:=none) (co:=.loop { rr with state:=.exhausted }) hφ₂ (by rw [hget];rfl) trivial
          have fall:=f1.trans hf.rel (f2.trans r1 (g3.trans r2 f4))
          refine ⟨φ₂,_,_,back.trans (.one (stepR_endRangeFunc hend)),⟨hf.tms.mono fall.ext,by rw [heq];exact r4,?_⟩,by rw [heq];exact fall⟩
          have hdf':h'.df=h.df:=by rw [heq];exact g4
          rw [hdf',heq]
          exact (((hdm.fwd r1 f2).fwd r2 g3).fwd g2 f4)
        | _=>exact hblk.elim
    split at hl
    · rename_i hget;cases hl;exact fin .ready (by simp) (.inr ⟨_,_,_,_,_,hget⟩) rfl
    · rename_i hget;cases hl;exact fin .done (by simp) (.inr ⟨_,_,_,_,_,hget⟩) rfl
    · cases hl
end
end
end Go.Den
namespace Go.Den
noncomputable section
abbrev Drawer:=Bool→Array Oper→List Value→AH→Option (List Value × AH)
def noDef:List Oper→Bool
  | []=>true
  | o::os=>bif notDef o.op then noDef os else false
def DrawSound (P:Program) (D:Drawer):Prop:=
  ∀ rd ops tm h tm' h',D rd ops tm h=some (tm',h')→∀ (s₀:Nat) (φ:Phi) (w:World) (a:Act) (b:Frame) (k:List Item) (cs:List Frame) (id:Nat),okKind b.kind cs→rd=b.roundOf.isSome→FR s₀ φ h w tm a →
    ∃ φ' a' w',Steps P (lone (b.atR a (.code (.region id ops true)::k)) cs w) (lone (b.atR a' k) cs w')∧FR s₀ φ' h' w' tm' a'∧Fwd φ h w φ' h' w'∧(noDef ops.toList=true→a'.defers=a.defers)
inductive St where
  | next (tm:List Value) (todo:List Item) (h:AH)
  | leave (j:Option Code) (tm:List Value) (h:AH)
def fcode (E:Env) (C:Oracle) (D:Drawer) (fn:FuncId) (ro:Option Nat) (tm:List Value) (c:Code) (k:List Item) (h:AH):Option St:=
  match c with
  | .ret=>some (.leave (some .ret) tm h)
  | .skip=>some (.next tm k h)
  | .label _=>some (.next tm k h)
  | .seq x y=>some (.next tm (.code x::.code y::k) h)
  | .cond c x y=>match vBool (aev tm c) with
    | some true=>some (.next tm (.code x::k) h)
    | some false=>some (.next tm (.code y::k) h)
    | none=>none
  | .block id x=>some (.next tm (.code x::.inBlock id::k) h)
  | .loop x=>some (.next tm (.code x::.inLoop x::k) h)
  | .scope x=>some (.next tm (.code x::.inScope x::k) h)
  | .exit id=>match exitTo id k with
    | some k'=>some (.next tm k' h)
    | none=>bif ro.isSome then some (.leave (some (.exit id)) tm h) else none
  | .goto l=>match gotoIn l k with
    | some k'=>some (.next tm k' h)
    | none=>bif ro.isSome then some (.leave (some (.goto l)) tm h) else none
  | .region _ ops false=>match xregion E C ro.isSome ops.toList ops.toList tm h with
    | some (tm',h')=>some (.next tm' k h')
    | none=>none
  | .region _ ops true=>match D ro.isSome ops tm h with
    | some (tm',h')=>some (.next tm' k h')
    | none=>none
  | .rangeFunc g ps as bd=>bif ro.isSome then none else match xrange C fn (aev tm g) tm ps as bd h with
    | some (some c,h')=>some (.next tm (.code c::k) h')
    | some (none,h')=>some (.next tm k h')
    | none=>none
  | .refuse _=>none
def fstep (E:Env) (C:Oracle) (D:Drawer) (fn:FuncId) (ro:Option Nat) (tm:List Value) (todo:List Item) (h:AH):Option St:=
  match todo with
  | []=>some (.leave none tm h)
  | .code c::k=>fcode E C D fn ro tm c k h
  | .inBlock _::k=>some (.next tm k h)
  | .inScope _::k=>some (.next tm k h)
  | .inLoop x::k=>some (.next tm (.code x::.inLoop x::k) h)
  | .beginRound::k=>match ro with
    | some l=>match h.get l with
      | some (.loop fn tms ps as bd .ready pd)=>some (.next tm k (h.put l (some (.loop fn tms ps as bd .busy pd))))
      | _=>none
    | none=>none
  | _=>none
def frun (E:Env) (C:Oracle) (D:Drawer) (fn:FuncId) (ro:Option Nat):Nat→List Value→List Item→AH→Option (Option Code × List Value × AH)
  | 0,_,_,_=>none
  | n+1,tm,todo,h=>match fstep E C D fn ro tm todo h with
    | some (.next tm' todo' h')=>frun E C D fn ro n tm' todo' h'
    | some (.leave j tm' h')=>some (j,tm',h')
    | none=>none
def RO (φ:Phi):Option Nat→Option Nat→Prop
  | none,none=>True
  | some l,some l'=>∃ T,φ l=some (l',0,T)
  | _,_=>False
theorem RO.isSome {φ:Phi} {ro ro':Option Nat} (h:RO φ ro ro'):ro.isSome=ro'.isSome:=by
  cases ro <;> cases ro' <;> first | rfl | exact h.elim
theorem RO.mono {φ φ':Phi} (hle:φ.le φ') {ro ro':Option Nat} (h:RO φ ro ro'):RO φ' ro ro':=by
  cases ro <;> cases ro' <;> first | trivial | exact h.elim | exact h.imp fun _ h=>hle _ _ h
def Left (ro:Option Nat) (j:Option Code) (todo:List Item):Prop:=
  match j with
  | none=>todo=[]
  | some .ret=>∃ k,todo=.code .ret::k
  | some (.exit id)=>ro.isSome=true∧∃ k,todo=.code (.exit id)::k∧exitTo id k=none
  | some (.goto l)=>ro.isSome=true∧∃ k,todo=.code (.goto l)::k∧gotoIn l k=none
  | _=>False
section
variable {P:Program} {E:Env} {C:Oracle} {D:Drawer} {φ:Phi} {w:World} {h h':AH} {v:Value} {b:Frame} {a:Act} {k:List Item} {cs:List Frame} {s₀:Nat} {tm tm':List Value} {ro:Option Nat}
def StepTo (P:Program) (s₀:Nat) (φ:Phi) (h:AH) (w:World) (b:Frame) (a:Act) (cs:List Frame) (todo:List Item) (tm':List Value) (todo':List Item) (h':AH):Prop:=
  ∃ φ' a' w',Steps P (lone (b.atR a todo) cs w) (lone (b.atR a' todo') cs w')∧FR s₀ φ' h' w' tm' a'∧Fwd φ h w φ' h' w'
def StOK (P:Program) (s₀:Nat) (φ:Phi) (h:AH) (w:World) (b:Frame) (a:Act) (cs:List Frame) (ro:Option Nat) (tm:List Value) (todo:List Item):St→Prop
  | .next tm' todo' h'=>StepTo P s₀ φ h w b a cs todo tm' todo' h'
  | .leave j tm' h'=>tm'=tm∧h'=h∧Left ro j todo
theorem StepTo.still (hf:FR s₀ φ h w tm a) {todo todo':List Item} (hs:step P (lone (b.atR a todo) cs w)=.next (lone (b.atR a todo') cs w)):StepTo P s₀ φ h w b a cs todo tm todo' h:=
  ⟨φ,a,w,.one hs,hf,Fwd.refl _ _ _⟩
theorem fcode_sound (ok:EnvOK P E) (hC:Sound P C) (hD:DrawSound P D) (hk:okKind b.kind cs) (hro:RO φ ro b.roundOf) (hf:FR s₀ φ h w tm a) (hs:s₀≤w.heap.size) {c:Code} {s:St}
    (hl:fcode E C D b.fn ro tm c k h=some s):StOK P s₀ φ h w b a cs ro tm (.code c::k) s:=by
  cases c with
  | ret=>cases hl;exact ⟨rfl,rfl,k,rfl⟩
  | skip=>cases hl;exact .still hf stepR_skip
  | label l=>cases hl;exact .still hf stepR_label
  | seq x y=>cases hl;exact .still hf stepR_seq
  | cond c x y=>
    simp only [fcode] at hl
    have hv:=aev_VR hf.tms c
    cases hb:aev tm c with
    | bool t=>
      rw [hb] at hv hl
      have he:=hv.bool_inv
      cases t <;> cases hl
      · exact .still hf (stepR_cond he)
      · exact .still hf (stepR_cond he)
    | _=>rw [hb] at hl;cases hl
  | block id x=>cases hl;exact .still hf stepR_block
  | loop x=>cases hl;exact .still hf stepR_loop
  | scope x=>cases hl;exact .still hf (step_lone_go (by simp [stepG,stepG.exec,Frame.atR]))
  | exit id=>
    simp only [fcode] at hl
    cases hx:exitTo id k with
    | some k'=>rw [hx] at hl;cases hl;exact .still hf (stepR_exit hx)
    | none=>
      rw [hx] at hl
      cases hr:ro.isSome <;> rw [hr] at hl <;> cases hl
      exact ⟨rfl,rfl,hr,k,rfl,hx⟩
  | goto l=>
    simp only [fcode] at hl
    cases hx:gotoIn l k with
    | some k'=>rw [hx] at hl;cases hl;exact .still hf (stepR_goto hx)
    | none=>
      rw [hx] at hl
      cases hr:ro.isSome <;> rw [hr] at hl <;> cases hl
      exact ⟨rfl,rfl,hr,k,rfl,hx⟩
  | region id ops draw=>
    cases draw with
    | false=>
      simp only [fcode] at hl
      cases hx:xregion E C ro.isSome ops.toList ops.toList tm h with
      | none=>rw [hx] at hl;cases hl
      | some p=>
        obtain ⟨tm',h'⟩:=p
        rw [hx] at hl;cases hl
        obtain ⟨φ',a',w',h1,h2,h3,_⟩:=xregion_sound (k:=k) ok hC hk hro.isSome ops ops.size 0 φ tm h a w (by omega) hf (by simpa using hx)
        refine ⟨φ',a',w',.head stepR_region ?_,h2,h3⟩
        rw [List.range_eq_range'];exact h1
    | true=>
      simp only [fcode] at hl
      cases hx:D ro.isSome ops tm h with
      | none=>rw [hx] at hl;cases hl
      | some p=>
        obtain ⟨tm',h'⟩:=p
        rw [hx] at hl;cases hl
        obtain ⟨φ',a',w',h1,h2,h3,_⟩:=hD _ _ _ _ _ _ hx s₀ φ w a b k cs id hk hro.isSome hf
        exact ⟨φ',a',w',h1,h2,h3⟩
  | rangeFunc g ps as bd=>
    simp only [fcode] at hl
    cases hr:ro.isSome with
    | true=>rw [hr] at hl;cases hl
    | false=>
      rw [hr,cond_false] at hl
      have hb:b.roundOf=none:=by
        have:=hro.isSome;rw [hr] at this
        cases hb:b.roundOf with
        | none=>rfl
        | some x=>rw [hb] at this;cases this
      cases hx:xrange C b.fn (aev tm g) tm ps as bd h with
      | none=>rw [hx] at hl;cases hl
      | some p=>
        obtain ⟨pd,h'⟩:=p
        rw [hx] at hl
        have:=xrange_sound (k:=k) (cs:=cs) hC hb hf hs hx
        cases pd with
        | none=>cases hl;exact this
        | some c=>cases hl;exact this
  | refuse y=>cases hl
theorem fstep_sound (ok:EnvOK P E) (hC:Sound P C) (hD:DrawSound P D) (hk:okKind b.kind cs) (hro:RO φ ro b.roundOf) (hf:FR s₀ φ h w tm a) (hs:s₀≤w.heap.size) {todo:List Item} {s:St}
    (hl:fstep E C D b.fn ro tm todo h=some s):StOK P s₀ φ h w b a cs ro tm todo s:=by
  cases todo with
  | nil=>cases hl;exact ⟨rfl,rfl,rfl⟩
  | cons it k=>
    cases it with
    | code c=>exact fcode_sound ok hC hD hk hro hf hs hl
    | inBlock id=>cases hl;exact .still hf stepR_inBlock
    | inScope x=>cases hl;exact .still hf (step_lone_go (by simp [stepG,stepG.exec,Frame.atR]))
    | inLoop x=>cases hl;exact .still hf stepR_inLoop
    | beginRound=>
      simp only [fstep] at hl
      cases ro with
      | none=>cases hl
      | some l=>
        simp only at hl
        split at hl
        · rename_i fn tms ps as bd pd hg
          cases hl
          cases hb:b.roundOf with
          | none=>rw [hb] at hro;exact hro.elim
          | some l'=>
            rw [hb] at hro
            obtain ⟨T,hφ⟩:=hro
            have hblk:=hf.rel.blk _ _ _ _ hφ
            rw [hg] at hblk
            cases hw:w.heap[l']? with
            | none=>rw [hw] at hblk;exact hblk.elim
            | some ob=>
              rw [hw] at hblk
              cases ob with
              | loop rr=>
                obtain ⟨_,e1,e2,e3,e4,e5,e6,e7⟩:=hblk
                obtain ⟨r4,f4⟩:=hf.rel.obj (o:=some (.loop fn tms ps as bd .busy pd)) (co:=.loop { rr with state:=.busy }) hφ (by rw [hg];rfl) ⟨rfl,e1,e2,e3,e4,e5,rfl,e7⟩
                exact ⟨φ,a,_,.one (stepR_beginRound hb (run_beginRound hw e6)),⟨hf.tms,r4,hf.dfs.fwd hf.rel f4⟩,f4⟩
              | _=>exact hblk.elim
        · cases hl
    | _=>cases hl
theorem frun_sound (ok:EnvOK P E) (hC:Sound P C) (hD:DrawSound P D) (hk:okKind b.kind cs) {j:Option Code}:∀ (n:Nat) (φ:Phi) (tm:List Value) (todo:List Item) (h:AH) (a:Act) (w:World),
    RO φ ro b.roundOf→FR s₀ φ h w tm a→s₀≤w.heap.size→frun E C D b.fn ro n tm todo h=some (j,tm',h') →
      ∃ todo',Left ro j todo'∧StepTo P s₀ φ h w b a cs todo tm' todo' h':=by
  intro n
  induction n with
  | zero=>intro φ tm todo h a w _ _ _ hl;cases hl
  | succ n ih=>
    intro φ tm todo h a w hro hf hs hl
    simp only [frun] at hl
    cases hx:fstep E C D b.fn ro tm todo h with
    | none=>rw [hx] at hl;cases hl
    | some s=>
      rw [hx] at hl
      have hst:=fstep_sound (cs:=cs) ok hC hD hk hro hf hs hx
      cases s with
      | next tm₁ todo₁ h₁=>
        obtain ⟨φ₁,a₁,w₁,g1,g2,g3⟩:=hst
        obtain ⟨todo',hL,φ₂,a₂,w₂,k1,k2,k3⟩:=ih φ₁ tm₁ todo₁ h₁ a₁ w₁ (hro.mono g3.ext) g2 (Nat.le_trans hs g3.sz) hl
        exact ⟨todo',hL,φ₂,a₂,w₂,g1.trans k1,k2,g3.trans hf.rel k3⟩
      | leave j' tm₁ h₁=>
        cases hl
        obtain ⟨rfl,rfl,hL⟩:=hst
        exact ⟨todo,hL,φ,a,w,.refl _ _,hf,Fwd.refl _ _ _⟩
end
end
end Go.Den
namespace Go.Den
noncomputable section
def runDf (E:Env) (C:Oracle):List Deferred→AH→Option AH
  | [],h=>some h
  | ⟨.fn (.func g) ⟨cap⟩,⟨args⟩⟩::ds,h=>bif (E.fn g).isSome then match C (.func (.func g) ⟨[]⟩ ⟨cap⟩) args h with
    | some (_,h')=>runDf E C ds h'
    | none=>none else none
  | _,_=>none
def resV (E:Env) (tm:List Value) (h:AH):List ResultVar→Option (List Value)
  | []=>some []
  | .tmp t::rs=>match resV E tm h rs with
    | some l=>some (gt tm t::l)
    | none=>none
  | .cell c t::rs=>match E.ty t with
    | some ti=>match (bif ti.agg then ldN ti.size (gt tm c) h else ld1 (gt tm c) h) with
      | some v=>match resV E tm h rs with
        | some l=>some (v::l)
        | none=>none
      | none=>none
    | none=>none
def tup (l:List Value):Value:=match l with | [v]=>v | l=>.tuple ⟨l⟩
def denF (E:Env) (C:Oracle) (D:Drawer) (N:Nat) (g:FuncId) (args:List Value) (h:AH):Option (Value × AH):=
  match E.fn g with
  | some fi=>match frun E C D g none N (args++List.replicate (fi.ntmps - args.length) undV) [.code fi.body] (h.wdf []) with
    | some (_,tm,h₁)=>match runDf E C h₁.df (h₁.wdf []) with
      | some h₂=>match resV E tm h₂ fi.results.toList with
        | some l=>some (tup l,h₂.wdf h.df)
        | none=>none
      | none=>none
    | none=>none
  | none=>none
def putParams:List Tmp→List Value→List Value→Option (List Value)
  | [],[],tm=>some tm
  | t::ts,v::vs,tm=>putParams ts vs (tm.set t v)
  | _,_,_=>none
def denR (E:Env) (C:Oracle) (D:Drawer) (N:Nat) (l:Nat) (args:List Value) (h:AH):Option (Value × AH):=
  match h.get l with
  | some (.loop fn tms ps as bd _ _)=>match putParams ps.toList args tms with
    | some tm=>match frun E C D fn (some l) N tm [.code as,.beginRound,.code bd] (h.wdf []) with
      | some (j,_,h₁)=>match h₁.get l with
        | some (.loop fn tms ps as bd _ _)=>some (.bool j.isNone,(h₁.put l (some (.loop fn tms ps as bd (bif j.isNone then .ready else .done) j))).wdf h.df)
        | _=>none
      | none=>none
    | none=>none
  | _=>none
def stepC (E:Env) (S:Oracle) (N:Nat) (C:Oracle) (D:Drawer):Oracle:=fun f args h=>
  match S f args h with
  | some r=>some r
  | none=>match f with
    | .func (.func g) ⟨first⟩ ⟨cap⟩=>match E.ext g with
      | some k=>extF k (first++args++cap) h
      | none=>denF E C D N g (first++args++cap) h
    | .func (.yield l) ⟨[]⟩ ⟨[]⟩=>denR E C D N l args h
    | _=>none
def noC:Oracle:=fun _ _ _=>none
section
variable {P:Program} {E:Env} {C:Oracle} {D:Drawer} {φ:Phi} {w:World} {h h':AH} {v:Value} {b:Frame} {a:Act} {k:List Item} {cs:List Frame} {s₀:Nat} {tm tm':List Value} {ro:Option Nat}
theorem step_unwind_mark {fr:Frame} {blk:Nat} {ds:List Deferred} (hm:fr.mode=.returning) (hd:fr.defers=⟨.collected blk,#[]⟩::ds) {calls:List Deferred} {w':World}
    (hr:(Instr.takeDeferred blk).run P w=.ok calls w'):step P (lone fr cs w)=.next (lone { fr with defers:=calls++ds } cs w'):=
  step_lone_go (by simp [stepG,unwind,hm,hd,Sem.runT_eq,hr,GStep.bare_after])
theorem stepG_unwind_call {fr:Frame} {d:Deferred} {ds:List Deferred} (hm:fr.mode=.returning) (hd:fr.defers=d::ds) (hc:∀ b,d.target≠.collected b) :
    stepG P true { frame:=fr,callers:=cs,status:=.running,dying:=none } w=callDeferred P { fr with defers:=ds } cs none d w:=by
  obtain ⟨t,as⟩:=d
  cases t with
  | collected b=>exact absurd rfl (hc b)
  | _=>simp [stepG,unwind,hm,hd]
theorem runDf_sound (ok:EnvOK P E) (hC:Sound P C) {φ₀:Phi} {h₀:AH} {w₀:World} {fr₀:Frame} (hm:fr₀.mode=.returning) (hr₀:Rel φ₀ h₀ w₀):∀ (ds' ds:List Deferred) (φ:Phi) (h h':AH) (w:World),DfR w₀.heap.size φ h w ds ds' →
    Fwd φ₀ h₀ w₀ φ h w→Rel φ h w→runDf E C ds h=some h' →
    ∃ φ' w',Steps P (lone { fr₀ with defers:=ds' } cs w) (lone { fr₀ with defers:=[] } cs w')∧Rel φ' h' w'∧Fwd φ₀ h₀ w₀ φ' h' w'∧φ.le φ'∧h'.df=h.df:=by
  intro ds'
  induction ds' with
  | nil=>
    intro ds φ h h' w hd hf hr hl
    cases hd
    cases hl
    exact ⟨φ,w,.refl _ _,hr,hf,fun _ _ h=>h,rfl⟩
  | cons d ds' ih=>
    intro ds φ h h' w hd hf hr hl
    cases hd with
    | call g cap cap' args args' hc ha ds _ hd=>
      simp only [runDf] at hl
      cases hE:E.fn g with
      | none=>rw [hE] at hl;cases hl
      | some fi=>
      rw [hE] at hl
      simp only [Option.isSome_some,cond_true] at hl
      cases hx:C (.func (.func g) ⟨[]⟩ ⟨cap⟩) args h with
      | none=>rw [hx] at hl;cases hl
      | some p=>
        obtain ⟨v,h₁⟩:=p
        rw [hx] at hl
        simp only at hl
        obtain ⟨g4,hS⟩:=hC _ _ _ _ _ hx
        have hst:=stepG_unwind_call (P:=P) (fr:={ fr₀ with defers:=⟨.fn (.func g) ⟨cap'⟩,⟨args'⟩⟩::ds' }) (cs:=cs) (w:=w) hm rfl (by simp)
        have hcv:∀ n w',(callV (.func (.func g) ⟨[]⟩ ⟨cap'⟩) ⟨args'⟩).run P w=.ok n w'→(invoke (.fn (.func g) ⟨cap'⟩) ⟨args'⟩).run P w=.ok n w':=by
          intro n w' hh
          simpa [callV,Deferred.ofValue] using hh
        have key:∃ v' w₁,Aft φ h w v h₁ v' w₁∧Steps P (lone { fr₀ with defers:=⟨.fn (.func g) ⟨cap'⟩,⟨args'⟩⟩::ds' } cs w) (lone { fr₀ with defers:=ds' } cs w₁):=by
          cases hS φ w (.func (.func g) ⟨[]⟩ ⟨cap'⟩) args' (.func _ (by simp) _ _ _ _ .nil hc) ha hr with
          | value v' w' hh hR=>exact ⟨v',w',hR,.one (step_lone_go (by rw [hst];simp [callDeferred,Sem.runT_eq,GStep.bare_after,hcv _ _ hh]))⟩
          | enter g as w₁ hh hg=>
            obtain ⟨v',w',hR,hs⟩:=hg.deferred (c:={ fr₀ with defers:=ds' }) cs hm
            refine ⟨v',w',hR,.head (step_lone_go ?_) hs⟩
            rw [hst];simp [callDeferred,Sem.runT_eq,GStep.bare_after,hcv _ _ hh]
          | round l fn tmps as bd w₁ hh hg=>
            have:=hcv _ _ hh
            simp only [invoke,ok.call g fi hE] at this
            cases this
        obtain ⟨v',w₁,⟨φ₁,g1,g2,g3⟩,hs⟩:=key
        obtain ⟨φ₂,w₂,k1,k2,k3,k4,k5⟩:=ih ds φ₁ h₁ h' w₁ (hd.fwd hr g3) (hf.trans hr₀ g3) g2 hl
        exact ⟨φ₂,w₂,hs.trans k1,k2,k3,fun b x hb=>k4 _ _ (g3.ext _ _ hb),k5.trans g4⟩
    | mark blk hs hb hfr _ _ hn hd=>
      obtain ⟨φ₂,w₂,k1,k2,k3,k4,k5⟩:=ih ds φ h h' (w.putObj blk (.deferred none)) (hd.poke hn) (hf.poke hs) (hr.poke hfr) hl
      exact ⟨φ₂,w₂,.head (step_unwind_mark (fr:={ fr₀ with defers:=⟨.collected blk,#[]⟩::ds' }) (calls:=[]) hm rfl (run_takeDeferred hb)) k1,k2,k3,k4,k5⟩
theorem loadVar_sound (ok:EnvOK P E) (r:Rel φ h w) {t:TypeId} {ti:TI} (ht:E.ty t=some ti) {p p' v:Value} (hp:VR φ p p')
    (hl:(bif ti.agg then ldN ti.size p h else ld1 p h)=some v):∃ x v',p'=.pointer (some x)∧(loadVar t x).run P w=.ok v' w∧VR φ v v':=by
  have hk:=(ok.ty _ _ ht).1
  have key:∃ v',(Instr.loadAt t p').run P w=.ok v' w∧VR φ v v':=by
    cases ha:ti.agg with
    | true=>rw [ha] at hl;exact ldN_sound r hk ha hp hl
    | false=>rw [ha] at hl;exact ld1_sound r hk ha hp hl
  have hptr:∃ x,p'=.pointer (some x):=by
    cases ha:ti.agg <;> rw [ha] at hl
    · unfold ld1 at hl;rw [cond_false] at hl;split at hl
      · cases hp;exact ⟨_,rfl⟩
      · cases hl
    · unfold ldN at hl;rw [cond_true] at hl;split at hl
      · cases hp;exact ⟨_,rfl⟩
      · cases hl
  obtain ⟨x,rfl⟩:=hptr
  obtain ⟨v',h1,h2⟩:=key
  exact ⟨x,v',rfl,by simpa [Instr.loadAt,Instr.sureAddr] using h1,h2⟩
def resOne (t:Array Value):ResultVar→Sem Value
  | .tmp u=>pure (t.getD u undef)
  | .cell c ty=>do loadVar ty (← asAddr (t.getD c undef))
theorem resV_sound (ok:EnvOK P E) (r:Rel φ h w) {t:Array Value} (hv:VRs φ tm t.toList):∀ (rs:List ResultVar) (l:List Value) (acc:Array Value),resV E tm h rs=some l →
    ∃ l',(rs.foldlM (fun (acc:Array Value) x=>do let y ← resOne t x;pure (acc.push y)) acc).run P w=.ok (acc++(⟨l'⟩:Array Value)) w∧VRs φ l l':=by
  have gtv:∀ u,VR φ (gt tm u) (t.getD u undef):=by
    intro u
    have:=hv.getD u
    simpa [gt_def,junk,undef,Array.getD_eq_getD_getElem?,List.getD_eq_getElem?_getD] using this
  intro rs
  induction rs with
  | nil=>intro l acc hl;cases hl;exact ⟨[],by simp,.nil⟩
  | cons x rs ih=>
    intro l acc hl
    cases x with
    | tmp u=>
      simp only [resV] at hl
      cases h1:resV E tm h rs with
      | none=>rw [h1] at hl;cases hl
      | some l₁=>
        rw [h1] at hl;cases hl
        obtain ⟨l',g1,g2⟩:=ih l₁ (acc.push (t.getD u undef)) h1
        refine ⟨t.getD u undef::l',?_,.cons _ _ _ _ (gtv u) g2⟩
        rw [List.foldlM_cons]
        rw [show resOne t (.tmp u)=pure (t.getD u undef) from rfl]
        simp only [pure_bind,g1]
        congr 1
        apply Array.ext';simp
    | cell c ty=>
      simp only [resV] at hl
      cases ht:E.ty ty with
      | none=>rw [ht] at hl;cases hl
      | some ti=>
        rw [ht] at hl
        simp only at hl
        cases hx:(bif ti.agg then ldN ti.size (gt tm c) h else ld1 (gt tm c) h) with
        | none=>rw [hx] at hl;cases hl
        | some v=>
          rw [hx] at hl
          simp only at hl
          cases h1:resV E tm h rs with
          | none=>rw [h1] at hl;cases hl
          | some l₁=>
            rw [h1] at hl;cases hl
            obtain ⟨y,v',e,k1,k2⟩:=loadVar_sound ok r ht (gtv c) hx
            obtain ⟨l',g1,g2⟩:=ih l₁ (acc.push v') h1
            refine ⟨v'::l',?_,.cons _ _ _ _ k2 g2⟩
            rw [List.foldlM_cons]
            rw [show resOne t (.cell c ty)=(do loadVar ty (← asAddr (t.getD c undef))) from rfl,e]
            simp only [asAddr,pure_bind,bind_assoc,Sem.run_bind,k1,Result.andThen_ok,g1]
            congr 1
            apply Array.ext';simp
theorem results_sound (ok:EnvOK P E) (r:Rel φ h w) {t:Array Value} (hv:VRs φ tm t.toList) {fn:Func} {l:List Value} (hl:resV E tm h fn.results.toList=some l) :
    ∃ v',(results fn t).run P w=.ok v' w∧VR φ (tup l) v':=by
  obtain ⟨l',h1,h2⟩:=resV_sound ok r hv _ _ #[] hl
  have hm:(fn.results.mapM (resOne t)).run P w=.ok ⟨l'⟩ w:=by
    rw [Array.mapM_eq_foldlM,← Array.foldlM_toList]
    have e:(#[]:Array Value)++(⟨l'⟩:Array Value)=⟨l'⟩:=by simp
    rw [e] at h1
    exact h1
  have hr:results fn t=(do let vs ← fn.results.mapM (resOne t);pure (if h:vs.size=1 then vs[0] else .tuple vs)):=by
    have e:∀ f:ResultVar→Sem Value,(∀ x,f x=resOne t x)→(do let vs ← fn.results.mapM f;pure (if h:vs.size=1 then vs[0] else .tuple vs):Sem Value)=(do let vs ← fn.results.mapM (resOne t);pure (if h:vs.size=1 then vs[0] else .tuple vs)):=by
      intro f hf
      rw [funext hf]
    exact e _ fun x=>by cases x <;> rfl
  refine ⟨tup l',?_,?_⟩
  · rw [hr]
    simp only [Sem.run_bind,hm,Result.andThen_ok,Sem.run_pure]
    congr 1
    cases l' with
    | nil=>rfl
    | cons x m=>cases m <;> rfl
  · clear h1 hm hl
    cases h2 with
    | nil=>exact .tuple _ _ .nil
    | cons x x' m m' hx hm=>
      cases hm with
      | nil=>exact hx
      | cons y y' m m' hy hm=>exact .tuple _ _ (.cons _ _ _ _ hx (.cons _ _ _ _ hy hm))
theorem stepR_leave (hb:b.roundOf=none) {j:Option Code} {todo:List Item} (hL:Left none j todo) :
    step P (lone (b.atR a todo) cs w)=.next (lone { b.atR a todo with mode:=.returning } cs w):=by
  unfold Left at hL
  split at hL
  · subst hL;exact stepR_end hb
  · obtain ⟨k,rfl⟩:=hL;exact stepR_ret hb
  · cases hL.1
  · cases hL.1
  · exact hL.elim
theorem denF_sound (ok:EnvOK P E) (hC:Sound P C) (hD:DrawSound P D) {N:Nat} {g:FuncId} {args:List Value} (hl:denF E C D N g args h=some (v,h')) :
    h'.df=h.df∧(∃ fi,E.fn g=some fi)∧∀ φ w args',VRs φ args args'→Rel φ h w→Goes P g ⟨args'⟩ w (Aft φ h w v h'):=by
  unfold denF at hl
  cases hE:E.fn g with
  | none=>rw [hE] at hl;cases hl
  | some fi=>
    rw [hE] at hl
    simp only at hl
    cases hx:frun E C D g none N (args++List.replicate (fi.ntmps - args.length) undV) [.code fi.body] (h.wdf []) with
    | none=>rw [hx] at hl;cases hl
    | some p=>
      obtain ⟨j,tm,h₁⟩:=p
      rw [hx] at hl
      simp only at hl
      cases hy:runDf E C h₁.df (h₁.wdf []) with
      | none=>rw [hy] at hl;cases hl
      | some h₂=>
        rw [hy] at hl
        simp only at hl
        cases hz:resV E tm h₂ fi.results.toList with
        | none=>rw [hz] at hl;cases hl
        | some l=>
          rw [hz] at hl
          cases hl
          refine ⟨rfl,⟨fi,rfl⟩,fun φ w args' ha r kind cs hk=>?_⟩
          obtain ⟨fn,e1,e2,e3,e4⟩:=ok.fn _ _ hE
          have hundef:∀ n,VRs φ (List.replicate n undV) (List.replicate n undef):=by
            intro n
            induction n with
            | zero=>exact .nil
            | succ n ih=>exact .cons _ _ _ _ .und ih
          have hlen:=ha.length
          have hfr:FR w.heap.size φ (h.wdf []) w (args++List.replicate (fi.ntmps - args.length) undV) ⟨⟨args'++List.replicate (fi.ntmps - args'.length) undef⟩,[]⟩:=
            ⟨ha.append (by rw [hlen];exact hundef _),r.wdf [],.nil⟩
          let b:Frame:={ (default:Frame) with fn:=g,kind:=kind,roundOf:=none }
          have hent:Frame.enter P g ⟨args'⟩ kind=b.atR ⟨⟨args'++List.replicate (fi.ntmps - args'.length) undef⟩,[]⟩ [.code fi.body]:=by
            have:(⟨args'⟩:Array Value)++Array.replicate (fi.ntmps - args'.length) undef=⟨args'++List.replicate (fi.ntmps - args'.length) undef⟩:=by
              apply Array.ext';simp
            simp [Frame.enter,Frame.atR,b,e1,e2,e3,this]
          obtain ⟨todo',hL,φ₁,a₁,w₁,g1,g2,g3⟩:=frun_sound (b:=b) (cs:=cs) (ro:=none) ok hC hD hk N φ _ _ _ _ w (by trivial) hfr (Nat.le_refl _) hx
          have hleave:=stepR_leave (P:=P) (b:=b) (a:=a₁) (cs:=cs) (w:=w₁) rfl hL
          obtain ⟨φ₂,w₂,k1,k2,k3,k4,k5⟩:=runDf_sound (cs:=cs) (fr₀:={ b.atR a₁ todo' with mode:=.returning }) ok hC rfl (r.wdf []) a₁.defers h₁.df φ₁ (h₁.wdf []) h₂ w₁
            (g2.dfs.wdf []) (g3.wdf []) (g2.rel.wdf []) hy
          obtain ⟨v',m1,m2⟩:=results_sound ok k2 (g2.tms.mono k4) (fn:=fn) (by rw [e4];exact hz)
          refine ⟨{ b.atR a₁ todo' with mode:=.returning,defers:=[] },v',w₂,⟨φ₂,m2,k2.wdf _,k3.wdfL.wdf _⟩,rfl,?_,rfl,rfl,rfl,fn,e1,m1⟩
          rw [hent]
          exact g1.trans (.head hleave k1)
theorem putParams_sound:∀ (ps:List Tmp) (args args' tms:List Value) (tms':Array Value),VRs φ args args'→VRs φ tms tms'.toList→putParams ps args tms=some tm →
    args'.length=ps.length∧VRs φ tm ((ps.zip args').foldl (fun (t:Array Value) (x:Tmp × Value)=>t.setIfInBounds x.1 x.2) tms').toList:=by
  intro ps
  induction ps with
  | nil=>
    intro args args' tms tms' ha ht hl
    cases ha with
    | nil=>cases hl;exact ⟨rfl,ht⟩
    | cons=>cases hl
  | cons p ps ih=>
    intro args args' tms tms' ha ht hl
    cases ha with
    | nil=>cases hl
    | cons x x' l l' hx hl'=>
      obtain ⟨h1,h2⟩:=ih l l' (tms.set p x) (tms'.setIfInBounds p x') hl' (by simpa using ht.set p hx) hl
      exact ⟨by simp [h1],h2⟩
theorem denR_sound (ok:EnvOK P E) (hC:Sound P C) (hD:DrawSound P D) {N:Nat} {l:Nat} {args:List Value} (hl:denR E C D N l args h=some (v,h')) :
    h'.df=h.df∧∀ φ w l' T args',φ l=some (l',0,T)→VRs φ args args'→Rel φ h w→Invd P (callV (.func (.yield l') #[] #[]) ⟨args'⟩) w (Aft φ h w v h'):=by
  unfold denR at hl
  split at hl
  · rename_i fn tms ps as bd st pd hg
    split at hl
    · rename_i tm hp
      split at hl
      · rename_i j tm' h₁ hx
        split at hl
        · rename_i fn' tms' ps' as' bd' st' pd' hg'
          cases hl
          refine ⟨rfl,fun φ w l' T args' hφ ha r=>?_⟩
          have hblk:=r.blk _ _ _ _ hφ
          rw [hg] at hblk
          cases hw:w.heap[l']? with
          | none=>rw [hw] at hblk;exact hblk.elim
          | some ob=>
            rw [hw] at hblk
            cases ob with
            | loop rr=>
              obtain ⟨_,e1,e2,e3,e4,e5,e6,e7⟩:=hblk
              obtain ⟨p1,p2⟩:=putParams_sound ps.toList args args' tms rr.tmps ha e2 hp
              have hy:=run_yield (P:=P) (args:=⟨args'⟩) hw (by rw [e3];simpa using p1)
              have hrun:(callV (.func (.yield l') #[] #[]) ⟨args'⟩).run P w=.ok (.round l' fn ((ps.toList.zip args').foldl (fun (t:Array Value) (x:Tmp × Value)=>t.setIfInBounds x.1 x.2) rr.tmps) as bd) w:=by
                have e:(rr.params.zip ⟨args'⟩).foldl (fun (tmps:Array Value) (x:Tmp × Value)=>tmps.setIfInBounds x.1 x.2) rr.tmps=(ps.toList.zip args').foldl (fun (t:Array Value) (x:Tmp × Value)=>t.setIfInBounds x.1 x.2) rr.tmps:=by
                  rw [e3,← Array.foldl_toList];simp
                rw [e1,e4,e5] at hy
                rw [← e]
                simpa [callV,Deferred.ofValue,invoke] using hy
              refine .round _ _ _ _ _ _ hrun fun c cs=>?_
              let b:Frame:={ (default:Frame) with fn:=fn,kind:=.normal,roundOf:=some l' }
              let a₀:Act:=⟨(ps.toList.zip args').foldl (fun (t:Array Value) (x:Tmp × Value)=>t.setIfInBounds x.1 x.2) rr.tmps,[]⟩
              have hb0:Frame.round l' fn a₀.tmps as bd .normal=b.atR a₀ [.code as,.beginRound,.code bd]:=by
                simp [Frame.round,Frame.atR,b,a₀]
              obtain ⟨todo',hL,φ₁,a₁,w₁,g1,g2,g3⟩:=frun_sound (b:=b) (cs:=c::cs) (ro:=some l) (s₀:=w.heap.size) ok hC hD (.inl rfl) N φ tm _ (h.wdf []) a₀ w ⟨T,hφ⟩ ⟨p2,r.wdf [],.nil⟩ (Nat.le_refl _) hx
              have hφ₁:=g3.ext _ _ hφ
              have hblk₁:=g2.rel.blk _ _ _ _ hφ₁
              rw [hg'] at hblk₁
              cases hw₁:w₁.heap[l']? with
              | none=>rw [hw₁] at hblk₁;exact hblk₁.elim
              | some ob₁=>
                rw [hw₁] at hblk₁
                cases ob₁ with
                | loop r₁=>
                  obtain ⟨_,d1,d2,d3,d4,d5,d6,d7⟩:=hblk₁
                  obtain ⟨r4,f4⟩:=g2.rel.obj (o:=some (.loop fn' tms' ps' as' bd' (bif j.isNone then .ready else .done) j)) (co:=.loop { r₁ with state:=if j.isNone then .ready else .done,pending:=j }) hφ₁ (by rw [hg'];rfl)
                    ⟨rfl,d1,d2,d3,d4,d5,by cases j <;> rfl,rfl⟩
                  have hend:=run_endRound (P:=P) j hw₁
                  refine ⟨.bool j.isNone,_,⟨φ₁,.bool _,r4.wdf _,(g3.wdfL.trans r f4).wdf _⟩,?_⟩
                  rw [show Frame.round l' fn ((ps.toList.zip args').foldl (fun (t:Array Value) (x:Tmp × Value)=>t.setIfInBounds x.1 x.2) rr.tmps) as bd .normal=b.atR a₀ [.code as,.beginRound,.code bd] from hb0]
                  refine g1.trans (.one ?_)
                  unfold Left at hL
                  split at hL
                  · subst hL;exact stepR_round_end rfl rfl hend
                  · obtain ⟨k,rfl⟩:=hL;exact stepR_round_ret rfl rfl hend
                  · obtain ⟨_,k,rfl,hk⟩:=hL;exact stepR_round_exit rfl rfl hk hend
                  · obtain ⟨_,k,rfl,hk⟩:=hL;exact stepR_round_goto rfl rfl hk hend
                  · exact hL.elim
                | _=>exact hblk₁.elim
            | _=>exact hblk.elim
        · cases hl
      · cases hl
    · cases hl
  · cases hl
theorem noC_sound:Sound P noC:=by intro f args h v h' hl;cases hl
theorem stepC_sound (ok:EnvOK P E) {S:Oracle} (hS:Sound P S) (hC:Sound P C) (hD:DrawSound P D) (N:Nat):Sound P (stepC E S N C D):=by
  intro f args h v h' hl
  unfold stepC at hl
  cases hs:S f args h with
  | some r=>rw [hs] at hl;cases hl;exact hS _ _ _ _ _ hs
  | none=>
    rw [hs] at hl
    simp only at hl
    split at hl
    · rename_i g first cap
      split at hl
      · rename_i k hk
        refine ⟨extF_df hl,fun φ w f' args' hf ha r=>?_⟩
        cases hf with
        | func _ hy _ first' _ cap' hfi hca=>
          obtain ⟨v',w',g1,g2,g3,g4,_⟩:=extF_sound (P:=P) r ((hfi.append ha).append hca) hl
          refine .value v' w' ?_ ⟨φ,g2,g3,g4⟩
          have e:(⟨first'⟩:Array Value)++(⟨args'⟩:Array Value)++(⟨cap'⟩:Array Value)=⟨first'++args'++cap'⟩:=by apply Array.ext';simp
          have:=ok.ext g k hk ⟨first'++args'++cap'⟩ w v' w' g1
          simpa [callV,Deferred.ofValue,invoke,e] using this
      · obtain ⟨h1,⟨fi,hE⟩,h2⟩:=denF_sound ok hC hD hl
        refine ⟨h1,fun φ w f' args' hf ha r=>?_⟩
        cases hf with
        | func _ hy _ first' _ cap' hfi hca=>
          have hg:=h2 φ w (first'++args'++cap') ((hfi.append ha).append hca) r
          refine .enter g ⟨first'++args'++cap'⟩ w ?_ hg
          have e:(⟨first'⟩:Array Value)++(⟨args'⟩:Array Value)++(⟨cap'⟩:Array Value)=⟨first'++args'++cap'⟩:=by apply Array.ext';simp
          have:=ok.call g fi hE ⟨first'++args'++cap'⟩ w
          simpa [callV,Deferred.ofValue,invoke,e] using this
    · rename_i l
      obtain ⟨h1,h2⟩:=denR_sound ok hC hD hl
      refine ⟨h1,fun φ w f' args' hf ha r=>?_⟩
      cases hf with
      | func _ hy=>exact absurd rfl (hy l)
      | yield _ l' T hφ=>exact h2 φ w l' T args' hφ ha r
    · cases hl
end
end
end Go.Den
