/- A structural evaluation of functions, sound; a table of told functions is an oracle. Conditions: none. -/
import Derived.Test.YtejgabehfdapjaaGreatDenE
namespace Go.Den
noncomputable section
abbrev Tm:=Nat→Value
abbrev Res:=Option (Value × AH)
def stoF (tm:Tm) (d:Option Tmp) (v:Value):Tm:=match d with
  | some d=>fun i=>bif Nat.beq i d then v else tm i
  | none=>tm
def aevF (tm:Tm):Operand→Value
  | .tmp t=>tm t
  | .const v=>cst v
  | .global _=>junk
  | .func f=>.func (.func f) ⟨[]⟩ ⟨[]⟩
def runA (r:AR) (h:AH) (K:Value→AH→Res):Res:=match r with
  | .mo v=>K v h
  | .va x=>match x with
    | some v=>K v h
    | none=>none
  | .hv x=>match x with
    | some (v,h')=>K v h'
    | none=>none
  | .st x=>match x with
    | some h'=>K junk h'
    | none=>none
def skH:Option AH→Option (Value × AH)
  | some h'=>some (junk,h')
  | none=>none
def xopM (E:Env) (C:Oracle) (op:Op) (ρ:Operand→Value) (h:AH):Option (Option (Value × AH)):=
  match op with
  | .call { callee:=.invoke r n,args,argTypes:=_ }=>some (match ρ r with
    | .iface t v=>match E.meth t n with
      | some g=>C (.func (.func g) ⟨[]⟩ ⟨[]⟩) (v::args.toList.map ρ) h
      | none=>none
    | _=>none)
  | .mapUpdate t m k v=>some (skH (mUpd E t (ρ m) (ρ k) (ρ v) h))
  | .insert t m k v=>some (skH (mUpd E t (ρ m) (ρ k) (ρ v) h))
  | .mapEntry t m k=>some (mEntry E t (ρ m) (ρ k) h)
  | .entryStore _ m s x=>some (skH (eStore (ρ m) (ρ s) (ρ x) h))
  | _=>none
def xop0 (E:Env) (C:Oracle) (op:Op) (ρ:Operand→Value) (h:AH):Option (Value × AH):=
  match op with
  | .call { callee:=.value f,args,argTypes:=_ }=>C (ρ f) (args.toList.map ρ) h
  | op=>match xopM E C op ρ h with
    | some r=>r
    | none=>(aop E op ρ h).run h
def runM (r:Option (Value × AH)) (K:Value→AH→Res):Res:=
  match r with
  | some (v,h')=>K v h'
  | none=>none
def opK (E:Env) (C:Oracle) (op:Op) (ρ:Operand→Value) (h:AH) (K:Value→AH→Res):Res:=
  match op with
  | .call { callee:=.value f,args,argTypes:=_ }=>match C (ρ f) (args.toList.map ρ) h with
    | some (v,h')=>K v h'
    | none=>none
  | op=>match xopM E C op ρ h with
    | some r=>runM r K
    | none=>runA (aop E op ρ h) h K
theorem runA_run {r:AR} {h:AH} {K:Value→AH→Res} {x:Value × AH} (hl:runA r h K=some x):∃ v h',r.run h=some (v,h')∧K v h'=some x:=by
  cases r with
  | mo v=>exact ⟨v,h,rfl,hl⟩
  | va y=>cases y with
    | none=>cases hl
    | some v=>exact ⟨v,h,rfl,hl⟩
  | hv y=>cases y with
    | none=>cases hl
    | some p=>exact ⟨p.1,p.2,rfl,hl⟩
  | st y=>cases y with
    | none=>cases hl
    | some h'=>exact ⟨junk,h',rfl,hl⟩
theorem opK_run {E:Env} {C:Oracle} {op:Op} {ρ:Operand→Value} {h:AH} {K:Value→AH→Res} {x:Value × AH} (hl:opK E C op ρ h K=some x) :
    ∃ v h',xop0 E C op ρ h=some (v,h')∧K v h'=some x:=by
  unfold opK at hl
  split at hl
  · rename_i f args ts
    cases hc:C (ρ f) (args.toList.map ρ) h with
    | none=>rw [hc] at hl;cases hl
    | some p=>rw [hc] at hl;exact ⟨p.1,p.2,hc,hl⟩
  · rename_i op hn
    split at hl
    · rename_i r hr
      cases r with
      | none=>cases hl
      | some p=>
        refine ⟨p.1,p.2,?_,hl⟩
        unfold xop0
        split
        · exact absurd rfl (hn _ _ _)
        · rw [hr]
    · rename_i hr
      obtain ⟨v,h',h1,h2⟩:=runA_run hl
      refine ⟨v,h',?_,h2⟩
      unfold xop0
      split
      · exact absurd rfl (hn _ _ _)
      · rw [hr];exact h1
def grpF (E:Env) (C:Oracle):List Oper→(Tm→AH→Res)→Tm→AH→Res
  | [],K,tm,h=>K tm h
  | o::os,K,tm,h=>opK E C o.op (aevF tm) h fun v h'=>grpF E C os K (stoF tm o.dst v) h'
def skpF:List Oper→Tm→Tm
  | [],tm=>tm
  | o::os,tm=>skpF os (stoF tm o.dst undV)
def inG (j:Nat) (want:Bool) (d:Tmp) (o:Oper):Bool:=
  match o.guard with
  | some (j',want')=>Nat.beq j' j && (bif want then want' else !want') && (match o.dst with | some x=>!Nat.beq x d | none=>true)
  | none=>false
def spanG (j:Nat) (want:Bool) (d:Tmp):List Oper→List Oper
  | []=>[]
  | o::os=>bif inG j want d o then o::spanG j want d os else []
def restG (j:Nat) (want:Bool) (d:Tmp):List Oper→List Oper
  | []=>[]
  | o::os=>bif inG j want d o then restG j want d os else o::os
def regF (E:Env) (C:Oracle) (all:List Oper):Nat→List Oper→(Tm→AH→Res)→Tm→AH→Res
  | _,[],K,tm,h=>K tm h
  | 0,_,_,_,_=>none
  | f+1,o::os,K,tm,h=>match o.guard with
    | none=>opK E C o.op (aevF tm) h fun v h'=>regF E C all f os K (stoF tm o.dst v) h'
    | some (j,want)=>match (all[j]?).bind (·.dst) with
      | some d=>bif inG j want d o then match vGuard want (tm d) with
        | some true=>grpF E C (spanG j want d (o::os)) (regF E C all f (restG j want d (o::os)) K) tm h
        | some false=>regF E C all f (restG j want d (o::os)) K (skpF (spanG j want d (o::os)) tm) h
        | none=>none
        else none
      | none=>none
theorem span_rest (j:Nat) (want:Bool) (d:Tmp):∀ os:List Oper,spanG j want d os++restG j want d os=os
  | []=>rfl
  | o::os=>by
    simp only [spanG,restG]
    cases h:inG j want d o with
    | true=>simp only [cond_true,List.cons_append,span_rest j want d os]
    | false=>rfl
theorem span_in (j:Nat) (want:Bool) (d:Tmp):∀ os:List Oper,∀ o ∈ spanG j want d os,inG j want d o=true
  | [],o,h=>by cases h
  | x::os,o,h=>by
    simp only [spanG] at h
    cases hx:inG j want d x with
    | true=>
      rw [hx,cond_true] at h
      rcases List.mem_cons.1 h with rfl | h
      · exact hx
      · exact span_in j want d os o h
    | false=>rw [hx] at h;cases h
section
variable {P:Program} {E:Env} {C:Oracle} {D:Drawer} {φ:Phi} {w:World} {h h':AH} {v:Value} {b:Frame} {a:Act} {k:List Item} {cs:List Frame} {ops:Array Oper} {tm tm':Tm} {n:Nat}
structure F0 (n:Nat) (φ:Phi) (h:AH) (w:World) (tm:Tm) (a:Act):Prop where
  sz:a.tmps.size=n
  tms:∀ t,VR φ (tm t) (a.tmps.getD t undef)
  rel:Rel φ h w
  dfs:a.defers=[]
theorem aevF_VR (hv:∀ t,VR φ (tm t) (a.tmps.getD t undef)) (o:Operand):VR φ (aevF tm o) (a.eval o):=by
  cases o with
  | tmp t=>exact hv t
  | const v=>exact cst_VR v
  | global g=>exact .junk _
  | func f=>exact .func _ (by simp) _ _ _ _ .nil .nil
theorem stoF_VR (hv:∀ t,VR φ (tm t) (a.tmps.getD t undef)) (dst:Option Tmp) {v v':Value} (hx:VR φ v v') (hs:∀ d,dst=some d→d < a.tmps.size) (t:Nat):VR φ (stoF tm dst v t) ((a.put dst v').tmps.getD t undef):=by
  cases dst with
  | none=>exact hv t
  | some d=>
    simp only [stoF,Act.put]
    have hd:=hs d rfl
    cases hb:Nat.beq t d with
    | true=>
      have:=nat_beq hb;subst this
      simpa [hd] using hx
    | false=>
      have hne:d≠t:=by rintro rfl;rw [Nat.beq_refl] at hb;cases hb
      have:=hv t
      simpa [Array.getElem?_setIfInBounds_ne hne] using this
def dstOK (n:Nat):List Oper→Bool
  | []=>true
  | o::os=>bif (match o.dst with | some d=>Nat.ble (d+1) n | none=>true) then dstOK n os else false
theorem dstOK_spec:∀ {os:List Oper},dstOK n os=true→∀ o ∈ os,∀ d,o.dst=some d→d < n
  | [],_=>by intro o h;cases h
  | x::os,h=>by
    intro o ho d hd
    simp only [dstOK] at h
    cases hx:(match x.dst with | some d=>Nat.ble (d+1) n | none=>true) with
    | false=>rw [hx] at h;cases h
    | true=>
      rw [hx,cond_true] at h
      rcases List.mem_cons.1 ho with rfl | ho
      · rw [hd] at hx;exact Nat.le_of_ble_eq_true hx
      · exact dstOK_spec h o ho d hd
theorem evalsF_VR (hv:∀ t,VR φ (tm t) (a.tmps.getD t undef)) (l:List Operand):VRs φ (l.map (aevF tm)) (l.map a.eval):=by
  induction l with
  | nil=>exact .nil
  | cons x l ih=>exact .cons _ _ _ _ (aevF_VR hv x) ih
theorem put_size (a:Act) (d:Option Tmp) (v:Value):(a.put d v).tmps.size=a.tmps.size:=by cases d <;> simp [Act.put]
theorem xopM_gives (ok:EnvOK P E) {o:Oper} {ρ:Operand→Value} (hρ:∀ x,VR φ (ρ x) (a.eval x)) (r:Rel φ h w) (hl:xopM E C o.op ρ h=some (some (v,h'))) (hi:∀ rc n args ts,o.op≠.call { callee:=.invoke rc n,args:=args,argTypes:=ts }) :
    Gives P φ h w (execOp a.eval o) v h':=by
  unfold xopM at hl
  split at hl
  · rename_i rc n args ts hop
    exact absurd hop (hi _ _ _ _)
  · rename_i t m x u hop
    cases hu:mUpd E t (ρ m) (ρ x) (ρ u) h with
    | none=>rw [hu] at hl;cases hl
    | some h₁=>
      rw [hu] at hl;cases hl
      have e:execOp a.eval o=(do Instr.mapUpdate t (a.eval m) (a.eval x) (a.eval u);pure .skip):=by simp only [execOp,hop]
      rw [e]
      obtain ⟨g1,g2⟩:=mUpd_sound ok r (hρ m) (hρ x) (hρ u) hu
      exact Gives.turned g1 g2
  · rename_i t m x u hop
    cases hu:mUpd E t (ρ m) (ρ x) (ρ u) h with
    | none=>rw [hu] at hl;cases hl
    | some h₁=>
      rw [hu] at hl;cases hl
      have e:execOp a.eval o=(do Instr.mapUpdate t (a.eval m) (a.eval x) (a.eval u);pure .skip):=by simp only [execOp,hop]
      rw [e]
      obtain ⟨g1,g2⟩:=mUpd_sound ok r (hρ m) (hρ x) (hρ u) hu
      exact Gives.turned g1 g2
  · rename_i t m x hop
    simp only [Option.some.injEq] at hl
    have e:execOp a.eval o=(do pure (.value (← Instr.mapEntry t (a.eval m) (a.eval x)))):=by simp only [execOp,hop]
    rw [e]
    obtain ⟨⟨v',w',g1,g2,g3,g4⟩,g5⟩:=mEntry_sound ok r (hρ m) (hρ x) hl
    exact Gives.made ⟨φ,v',w',g1,g2,g3,g4⟩ g5
  · rename_i t m s x hop
    cases hu:eStore (ρ m) (ρ s) (ρ x) h with
    | none=>rw [hu] at hl;cases hl
    | some h₁=>
      rw [hu] at hl;cases hl
      have e:execOp a.eval o=(do Instr.entryStore t (a.eval m) (a.eval s) (a.eval x);pure .skip):=by simp only [execOp,hop]
      rw [e]
      obtain ⟨g1,g2⟩:=eStore_sound (t:=t) r (hρ m) (hρ s) (hρ x) hu
      exact Gives.turned g1 g2
  · cases hl
theorem op0_sound (ok:EnvOK P E) (hC:Sound P C) (hro:b.roundOf=none) (hf:F0 n φ h w tm a) {i:Nat} {rest:List Nat} {o:Oper} (ho:ops[i]?=some o) (hdst:∀ d,o.dst=some d→d < n)
    (hw:Region.wanted o (yielded ops a.tmps)=true) (hl:xop0 E C o.op (aevF tm) h=some (v,h')) :
    ∃ φ' v' w',Steps P (lone (b.atR a (.inRegion ops (i::rest)::k)) cs w) (lone (b.atR (a.put o.dst v') (.inRegion ops rest::k)) cs w')∧F0 n φ' h' w' (stoF tm o.dst v) (a.put o.dst v')∧Fwd φ h w φ' h' w':=by
  have hst:=stepGR_op (P:=P) (b:=b) (k:=k) (cs:=cs) (w:=w) (rest:=rest) ho hw
  rw [hro,Oper.semAt_none] at hst
  have hfin:=fun v'=>Frame.finish_atR b a ops i rest k v'
  rw [ho] at hfin
  have fin:∀ {φ' v' w'},Steps P (lone (b.atR a (.inRegion ops (i::rest)::k)) cs w) (lone ((b.atR a (.inRegion ops (i::rest)::k)).finish v') cs w')→VR φ' v v'→Rel φ' h' w'→Fwd φ h w φ' h' w' →
      ∃ φ' v' w',Steps P (lone (b.atR a (.inRegion ops (i::rest)::k)) cs w) (lone (b.atR (a.put o.dst v') (.inRegion ops rest::k)) cs w')∧F0 n φ' h' w' (stoF tm o.dst v) (a.put o.dst v')∧Fwd φ h w φ' h' w':=by
    intro φ' v' w' hs h1 h2 h3
    rw [hfin] at hs
    refine ⟨φ',v',w',hs,⟨by rw [put_size];exact hf.sz,stoF_VR (fun t=>(hf.tms t).mono h3.ext) _ h1 (by rw [hf.sz];exact hdst),h2,?_⟩,h3⟩
    have:(a.put o.dst v').defers=a.defers:=put_defers _ _ _ _
    exact this.trans hf.dfs
  unfold xop0 at hl
  split at hl
  · rename_i f args ts hop
    have hex:execOp a.eval o=callV (a.eval f) ⟨args.toList.map a.eval⟩:=by
      simp only [execOp,hop,resolve,callV,map_eval]
    rw [hex] at hst
    obtain ⟨hdf,hS⟩:=hC _ _ _ _ _ hl
    have key:∃ v' w',Aft φ h w v h' v' w'∧Steps P (lone (b.atR a (.inRegion ops (i::rest)::k)) cs w) (lone ((b.atR a (.inRegion ops (i::rest)::k)).finish v') cs w'):=by
      cases hS φ w (a.eval f) _ (aevF_VR hf.tms f) (evalsF_VR hf.tms _) hf.rel with
      | value v' w' h hR=>exact ⟨v',w',hR,.one (step_lone_go (by rw [hst];simp [stepG.apply,Sem.runT_eq,GStep.bare_after,h]))⟩
      | enter g as w₁ h hg=>
        obtain ⟨v',w',hR,hs⟩:=hg.normal (b.atR a (.inRegion ops (i::rest)::k)) cs
        refine ⟨v',w',hR,.head (step_lone_go ?_) hs⟩
        rw [hst];simp [stepG.apply,Sem.runT_eq,GStep.bare_after,h,Frame.atR]
      | round l fn tmps as bd w₁ h hg=>
        obtain ⟨v',w',hR,hs⟩:=hg (b.atR a (.inRegion ops (i::rest)::k)) cs
        refine ⟨v',w',hR,.head (step_lone_go ?_) hs⟩
        rw [hst];simp [stepG.apply,Sem.runT_eq,GStep.bare_after,h]
    obtain ⟨v',w',⟨φ',h1,h2,h3⟩,hs⟩:=key
    exact fin hs h1 h2 h3
  · have gv:Gives P φ h w (execOp a.eval o) v h'→∃ φ' v' w',Steps P (lone (b.atR a (.inRegion ops (i::rest)::k)) cs w) (lone (b.atR (a.put o.dst v') (.inRegion ops rest::k)) cs w')∧F0 n φ' h' w' (stoF tm o.dst v) (a.put o.dst v')∧Fwd φ h w φ' h' w':=by
      intro ⟨φ',m,v',w',h1,h2,h3,h4,h5,_⟩
      refine fin (.one (step_lone_go ?_)) h3 h4 h5
      rw [hst]
      rcases h2 with rfl | ⟨rfl,rfl⟩ <;> simp [stepG.apply,Sem.runT_eq,GStep.bare_after,h1]
    split at hl
    · rename_i hr
      subst hl
      by_cases hi:∃ rc n args ts,o.op=.call { callee:=.invoke rc n,args:=args,argTypes:=ts }
      case neg=>exact gv (xopM_gives ok (fun x=>aevF_VR hf.tms x) hf.rel hr fun rc n args ts h=>hi ⟨rc,n,args,ts,h⟩)
      case pos=>
        obtain ⟨rc,m,args,ts,hop⟩:=hi
        rw [hop] at hr
        simp only [xopM,Option.some.injEq] at hr
        split at hr
        · rename_i t u hrc
          split at hr
          · rename_i g hm
            have hrv:=aevF_VR hf.tms rc
            rw [hrc] at hrv
            generalize hre:a.eval rc=re at hrv
            cases hrv with
            | iface _ _ u' hu=>
              have hrun:∀ w,(execOp a.eval o).run P w=(callV (.func (.func g) #[] #[]) ⟨u'::args.toList.map a.eval⟩).run P w:=by
                intro w
                have h1:(execOp a.eval o).run P w=(callMethod (.iface t u') m ⟨args.toList.map a.eval⟩).run P w:=by
                  simp only [execOp,hop,resolve,hre,map_eval]
                  simp [invoke]
                  rw [List.take_of_length_le (by simp)]
                rw [h1,ok.meth _ _ _ hm]
                have e:(#[u']:Array Value)++(⟨args.toList.map a.eval⟩:Array Value)=⟨u'::args.toList.map a.eval⟩:=by apply Array.ext';simp
                rw [e]
                simp [callV,Deferred.ofValue,invoke]
              obtain ⟨hdf,hS⟩:=hC _ _ _ _ _ hr
              have key:∃ v' w',Aft φ h w v h' v' w'∧Steps P (lone (b.atR a (.inRegion ops (i::rest)::k)) cs w) (lone ((b.atR a (.inRegion ops (i::rest)::k)).finish v') cs w'):=by
                cases hS φ w (.func (.func g) ⟨[]⟩ ⟨[]⟩) (u'::args.toList.map a.eval) (.func _ (by simp) _ _ _ _ .nil .nil) (.cons _ _ _ _ hu (evalsF_VR hf.tms _)) hf.rel with
                | value v' w' h hR=>exact ⟨v',w',hR,.one (step_lone_go (by rw [hst];simp [stepG.apply,Sem.runT_eq,GStep.bare_after,hrun,h]))⟩
                | enter g as w₁ h hg=>
                  obtain ⟨v',w',hR,hs⟩:=hg.normal (b.atR a (.inRegion ops (i::rest)::k)) cs
                  refine ⟨v',w',hR,.head (step_lone_go ?_) hs⟩
                  rw [hst];simp [stepG.apply,Sem.runT_eq,GStep.bare_after,hrun,h,Frame.atR]
                | round l fn tmps as bd w₁ h hg=>
                  obtain ⟨v',w',hR,hs⟩:=hg (b.atR a (.inRegion ops (i::rest)::k)) cs
                  refine ⟨v',w',hR,.head (step_lone_go ?_) hs⟩
                  rw [hst];simp [stepG.apply,Sem.runT_eq,GStep.bare_after,hrun,h]
              obtain ⟨v',w',⟨φ',h1,h2,h3⟩,hs⟩:=key
              exact fin hs h1 h2 h3
          · cases hr
        · cases hr
    · exact gv (aop_exec_of ok (fun x=>aevF_VR hf.tms x) hf.rel hl)
theorem wanted_in {j:Nat} {want:Bool} {d:Tmp} {g o:Oper} (hg:ops[j]?=some g) (hd:g.dst=some d) (hi:inG j want d o=true) (hv:∀ t,VR φ (tm t) (a.tmps.getD t undef)) {t:Bool} (hl:vGuard want (tm d)=some t) :
    Region.wanted o (yielded ops a.tmps)=t:=by
  unfold inG at hi
  split at hi
  · rename_i j' want' hgd
    simp only [Bool.and_eq_true] at hi
    obtain ⟨⟨h1,h2⟩,_⟩:=hi
    have e1:=nat_beq h1
    have e2:want'=want:=by cases want <;> cases want' <;> first | rfl | cases h2
    subst e1;subst e2
    unfold Region.wanted
    rw [hgd]
    simp only
    unfold yielded
    simp only [hg,hd,Option.bind_some]
    have hx:=hv d
    have e:a.tmps.getD d undef=(a.tmps[d]?).getD undef:=by simp [Array.getD_eq_getD_getElem?]
    rw [e] at hx
    generalize tm d=x at hl hx
    unfold vGuard at hl
    split at hl
    · rename_i bb
      cases hl
      have:=hx.bool_inv
      cases hq:a.tmps[d]? with
      | none=>rw [hq] at this;cases this
      | some y=>rw [hq] at this;simp only [Option.getD_some] at this;subst this;simp
    · cases hl
      have:=hx.und_inv
      cases hq:a.tmps[d]? with
      | none=>simp
      | some y=>rw [hq] at this;simp only [Option.getD_some] at this;subst this;simp
    · cases hl
  · cases hi
theorem inG_dst {j:Nat} {want:Bool} {d:Tmp} {o:Oper} (hi:inG j want d o=true):o.dst≠some d:=by
  unfold inG at hi
  split at hi
  · simp only [Bool.and_eq_true] at hi
    intro h
    rw [h] at hi
    simp [Nat.beq_refl] at hi
  · cases hi
theorem stoF_ne {dst:Option Tmp} {d:Tmp} {v:Value} (h:dst≠some d):stoF tm dst v d=tm d:=by
  cases dst with
  | none=>rfl
  | some x=>
    simp only [stoF]
    cases hb:Nat.beq d x with
    | true=>exact absurd (by rw [nat_beq hb]) h
    | false=>rfl
theorem drop_cons {os:List Oper} {i:Nat} {o:Oper} {l:List Oper} (h:os.drop i=o::l):os[i]?=some o∧os.drop (i+1)=l:=by
  constructor
  · have:=congrArg (fun l=>l[0]?) h
    simpa using this
  · have:=congrArg (List.drop 1) h
    simpa [List.drop_drop,Nat.add_comm] using this
end
end
end Go.Den
namespace Go.Den
noncomputable section
inductive Ex where
  | normal
  | exit (id:Nat)
  | ret
  | goto (l:Nat)
abbrev Kont:=Ex→Tm→AH→Res
section
variable {P:Program} {E:Env} {C:Oracle} {D:Drawer} {φ:Phi} {w:World} {h h':AH} {v:Value} {b:Frame} {a:Act} {k:List Item} {cs:List Frame} {ops:Array Oper} {tm tm':Tm} {n:Nat} {r:Value × AH}
theorem grpF_sound (ok:EnvOK P E) (hC:Sound P C) (hro:b.roundOf=none) {j:Nat} {want:Bool} {d:Tmp} {g:Oper} (hg:ops[j]?=some g) (hd:g.dst=some d) (m:Nat) {K:Tm→AH→Res} :
    ∀ (xs ys:List Oper) (i:Nat) (φ:Phi) (tm:Tm) (h:AH) (a:Act) (w:World),ops.toList.drop i=xs++ys→(∀ o ∈ xs,inG j want d o=true)→(∀ o ∈ xs,∀ d,o.dst=some d→d < n)→vGuard want (tm d)=some true→F0 n φ h w tm a→grpF E C xs K tm h=some r →
      ∃ tm' h' φ' a' w',K tm' h'=some r∧Steps P (lone (b.atR a (.inRegion ops (List.range' i (xs.length+m))::k)) cs w) (lone (b.atR a' (.inRegion ops (List.range' (i+xs.length) m)::k)) cs w')∧F0 n φ' h' w' tm' a'∧Fwd φ h w φ' h' w':=by
  intro xs
  induction xs with
  | nil=>
    intro ys i φ tm h a w _ _ _ _ hf hl
    refine ⟨tm,h,φ,a,w,hl,?_,hf,Fwd.refl _ _ _⟩
    simp;exact .refl _ _
  | cons o xs ih=>
    intro ys i φ tm h a w hdr hin hdst hgd hf hl
    obtain ⟨e1,e2⟩:=drop_cons hdr
    have ho:ops[i]?=some o:=by simpa using e1
    have hino:=hin o (List.mem_cons_self ..)
    have hw:=wanted_in hg hd hino hf.tms hgd
    simp only [grpF] at hl
    obtain ⟨v,h₁,hx,hl⟩:=opK_run hl
    obtain ⟨φ₁,v',w₁,g1,g2,g3⟩:=op0_sound (k:=k) (cs:=cs) ok hC hro hf (rest:=List.range' (i+1) (xs.length+m)) ho (hdst o (List.mem_cons_self ..)) hw hx
    obtain ⟨tm',h',φ',a',w',k1,k2,k3,k4⟩:=ih ys (i+1) φ₁ _ h₁ _ w₁ e2 (fun x hx=>hin x (List.mem_cons_of_mem _ hx)) (fun x hx=>hdst x (List.mem_cons_of_mem _ hx)) (by rw [stoF_ne (inG_dst hino)];exact hgd) g2 hl
    refine ⟨tm',h',φ',a',w',k1,?_,k3,g3.trans hf.rel k4⟩
    rw [show (o::xs).length+m=(xs.length+m)+1 by simp;omega,List.range'_succ,show i+(o::xs).length=i+1+xs.length by simp;omega]
    exact g1.trans k2
theorem skpF_sound {j:Nat} {want:Bool} {d:Tmp} {g:Oper} (hg:ops[j]?=some g) (hd:g.dst=some d) (m:Nat) :
    ∀ (xs ys:List Oper) (i:Nat) (tm:Tm) (a:Act),ops.toList.drop i=xs++ys→(∀ o ∈ xs,inG j want d o=true)→(∀ o ∈ xs,∀ d,o.dst=some d→d < n)→vGuard want (tm d)=some false→F0 n φ h w tm a →
      ∃ a',Steps P (lone (b.atR a (.inRegion ops (List.range' i (xs.length+m))::k)) cs w) (lone (b.atR a' (.inRegion ops (List.range' (i+xs.length) m)::k)) cs w)∧F0 n φ h w (skpF xs tm) a':=by
  intro xs
  induction xs with
  | nil=>
    intro ys i tm a _ _ _ _ hf
    refine ⟨a,?_,hf⟩
    simp;exact .refl _ _
  | cons o xs ih=>
    intro ys i tm a hdr hin hdst hgd hf
    obtain ⟨e1,e2⟩:=drop_cons hdr
    have ho:ops[i]?=some o:=by simpa using e1
    have hino:=hin o (List.mem_cons_self ..)
    have hw:=wanted_in hg hd hino hf.tms hgd
    have hs:=stepR_op_skip (P:=P) (b:=b) (a:=a) (k:=k) (cs:=cs) (w:=w) (ops:=ops) (i:=i) (rest:=List.range' (i+1) (xs.length+m)) (by rw [ho];simp [hw])
    rw [ho] at hs
    have hd':(a.put o.dst undef).defers=a.defers:=put_defers _ _ _ _
    have hf':F0 n φ h w (stoF tm o.dst undV) (a.put o.dst undef):=⟨by rw [put_size];exact hf.sz,stoF_VR hf.tms _ .und (by rw [hf.sz];exact hdst o (List.mem_cons_self ..)),hf.rel,hd'.trans hf.dfs⟩
    obtain ⟨a',k1,k2⟩:=ih ys (i+1) _ _ e2 (fun x hx=>hin x (List.mem_cons_of_mem _ hx)) (fun x hx=>hdst x (List.mem_cons_of_mem _ hx)) (by rw [stoF_ne (inG_dst hino)];exact hgd) hf'
    refine ⟨a',?_,k2⟩
    rw [show (o::xs).length+m=(xs.length+m)+1 by simp;omega,List.range'_succ,show i+(o::xs).length=i+1+xs.length by simp;omega]
    exact .head hs k1
theorem regF_sound (ok:EnvOK P E) (hC:Sound P C) (hro:b.roundOf=none) {K:Tm→AH→Res} :
    ∀ (f:Nat) (os:List Oper) (i:Nat) (φ:Phi) (tm:Tm) (h:AH) (a:Act) (w:World),ops.toList.drop i=os→(∀ o ∈ os,∀ d,o.dst=some d→d < n)→F0 n φ h w tm a→regF E C ops.toList f os K tm h=some r →
      ∃ tm' h' φ' a' w',K tm' h'=some r∧Steps P (lone (b.atR a (.inRegion ops (List.range' i os.length)::k)) cs w) (lone (b.atR a' k) cs w')∧F0 n φ' h' w' tm' a'∧Fwd φ h w φ' h' w':=by
  intro f
  induction f with
  | zero=>
    intro os i φ tm h a w hdr hdst hf hl
    cases os with
    | nil=>exact ⟨tm,h,φ,a,w,hl,.one stepR_region_end,hf,Fwd.refl _ _ _⟩
    | cons=>cases hl
  | succ f ih=>
    intro os i φ tm h a w hdr hdst hf hl
    cases os with
    | nil=>exact ⟨tm,h,φ,a,w,hl,.one stepR_region_end,hf,Fwd.refl _ _ _⟩
    | cons o os=>
      obtain ⟨e1,e2⟩:=drop_cons hdr
      have ho:ops[i]?=some o:=by simpa using e1
      simp only [regF] at hl
      split at hl
      · rename_i hgn
        obtain ⟨v,h₁,hx,hl⟩:=opK_run hl
        obtain ⟨φ₁,v',w₁,g1,g2,g3⟩:=op0_sound (k:=k) (cs:=cs) ok hC hro hf (rest:=List.range' (i+1) os.length) ho (hdst o (List.mem_cons_self ..)) (by unfold Region.wanted;rw [hgn]) hx
        obtain ⟨tm',h',φ',a',w',k1,k2,k3,k4⟩:=ih os (i+1) φ₁ _ h₁ _ w₁ e2 (fun x hx=>hdst x (List.mem_cons_of_mem _ hx)) g2 hl
        refine ⟨tm',h',φ',a',w',k1,?_,k3,g3.trans hf.rel k4⟩
        rw [List.length_cons,List.range'_succ]
        exact g1.trans k2
      · rename_i j want hgj
        split at hl
        · rename_i d hjd
          cases hb:inG j want d o with
          | false=>rw [hb] at hl;cases hl
          | true=>
            rw [hb,cond_true] at hl
            have hj:∃ g,ops[j]?=some g∧g.dst=some d:=by
              simp only [Array.getElem?_toList] at hjd
              cases hq:ops[j]? with
              | none=>rw [hq] at hjd;cases hjd
              | some g=>rw [hq] at hjd;exact ⟨g,rfl,hjd⟩
            obtain ⟨g,hg,hd⟩:=hj
            have hsp:=span_rest j want d (o::os)
            have hin:=span_in j want d (o::os)
            have hlen:(o::os).length=(spanG j want d (o::os)).length+(restG j want d (o::os)).length:=by rw [← List.length_append,hsp]
            have hdr':ops.toList.drop i=spanG j want d (o::os)++restG j want d (o::os):=by rw [hsp];exact hdr
            have hdr2:ops.toList.drop (i+(spanG j want d (o::os)).length)=restG j want d (o::os):=by
              rw [← List.drop_drop,hdr',List.drop_left]
            have hm1:∀ x ∈ spanG j want d (o::os),∀ d,x.dst=some d→d < n:=fun x hx=>hdst x (by rw [← hsp];exact List.mem_append_left _ hx)
            have hm2:∀ x ∈ restG j want d (o::os),∀ d,x.dst=some d→d < n:=fun x hx=>hdst x (by rw [← hsp];exact List.mem_append_right _ hx)
            rw [hlen]
            split at hl
            · rename_i hgd
              obtain ⟨tm₁,h₁,φ₁,a₁,w₁,k1,k2,k3,k4⟩:=grpF_sound (k:=k) (cs:=cs) ok hC hro hg hd (restG j want d (o::os)).length _ _ i φ tm h a w hdr' hin hm1 hgd hf hl
              obtain ⟨tm',h',φ',a',w',l1,l2,l3,l4⟩:=ih _ (i+(spanG j want d (o::os)).length) φ₁ tm₁ h₁ a₁ w₁ hdr2 hm2 k3 k1
              exact ⟨tm',h',φ',a',w',l1,k2.trans l2,l3,k4.trans hf.rel l4⟩
            · rename_i hgd
              obtain ⟨a₁,k2,k3⟩:=skpF_sound (P:=P) (b:=b) (k:=k) (cs:=cs) hg hd (restG j want d (o::os)).length _ _ i tm a hdr' hin hm1 hgd hf
              obtain ⟨tm',h',φ',a',w',l1,l2,l3,l4⟩:=ih _ (i+(spanG j want d (o::os)).length) φ _ h a₁ w hdr2 hm2 k3 hl
              exact ⟨tm',h',φ',a',w',l1,k2.trans l2,l3,l4⟩
            · cases hl
        · cases hl
end
end
end Go.Den
namespace Go.Den
noncomputable section
def drawK (E:Env) (C:Oracle) (rd:Bool) (all:List Oper) (base:Nat):List Oper→Nat→(List Value→AH→Res)→List Value→AH→Res
  | [],_,K,tm,h=>K tm h
  | o::os,i,K,tm,h=>match opT E C rd all base i o tm h with
    | some (v,h')=>drawK E C rd all base os (i+1) K (sto tm o.dst v) h'
    | none=>none
def tightRd (ms effs:List Nat) (nm i:Nat):Bool:=effs.all fun m=>bif Nat.beq m nm then true else !possB ms effs i m
def tightGo (ms effs:List Nat):Nat→List Oper→Bool
  | _,[]=>true
  | i,o::os=>bif Nat.beq (cls o.op) 0 && isRd o.op then (bif tightRd ms effs (natM (o::os) i) i then tightGo ms effs (i+1) os else false) else tightGo ms effs (i+1) os
section
variable {E:Env} {C:Oracle} {rd:Bool} {all:List Oper} {base:Nat}
theorem trace_drawK {K:List Value→AH→Res}:∀ (os:List Oper) (i:Nat) (tm:List Value) (h:AH),
    (match trace E C rd all base os i tm h with | some tr=>K (tr.T os.length) (tr.H os.length) | none=>none)=drawK E C rd all base os i K tm h:=by
  intro os
  induction os with
  | nil=>intro i tm h;rfl
  | cons o os ih=>
    intro i tm h
    simp only [trace,drawK]
    cases h1:opT E C rd all base i o tm h with
    | none=>rfl
    | some p=>
      obtain ⟨v,h'⟩:=p
      simp only
      rw [← ih]
      cases h2:trace E C rd all base os (i+1) (sto tm o.dst v) h' with
      | none=>rfl
      | some l=>
        have e1:Tr.H ((tm,h,v)::l) (o::os).length=l.H os.length:=by simp [Tr.H]
        have e2:Tr.T ((tm,h,v)::l) (o::os).length=l.T os.length:=by simp [Tr.T]
        simp only [e1,e2]
theorem tight_dyn {ms effs:List Nat} {tr:Tr}:∀ (os:List Oper) (i:Nat),tightGo ms effs i os=true→dynGo E all ms effs tr i os=true:=by
  intro os
  induction os with
  | nil=>intro i _;rfl
  | cons o os ih=>
    intro i h
    simp only [tightGo] at h
    simp only [dynGo]
    cases hb:(Nat.beq (cls o.op) 0 && isRd o.op) with
    | false=>rw [hb,cond_false] at h;rw [cond_false];exact ih _ h
    | true=>
      rw [hb,cond_true] at h
      rw [cond_true]
      cases ht:tightRd ms effs (natM (o::os) i) i with
      | false=>rw [ht] at h;cases h
      | true=>
        rw [ht,cond_true] at h
        have hr:rdOK E ms effs tr (natM (o::os) i) i o=true:=by
          unfold rdOK
          rw [List.all_eq_true]
          intro m hm
          unfold tightRd at ht
          have:=List.all_eq_true.1 ht m hm
          cases hq:Nat.beq m (natM (o::os) i) with
          | true=>rfl
          | false=>
            rw [hq,cond_false] at this
            rw [cond_false]
            cases hp:possB ms effs i m with
            | false=>rfl
            | true=>rw [hp] at this;cases this
        split
        · rw [hr,cond_true];exact ih _ h
        · exact ih _ h
theorem xdraw_tight {K:List Value→AH→Res} {ops:Array Oper} (h1:statGo ops.toList (masks ops.toList []) 0 ops.toList []=true) (h2:tightGo (masks ops.toList []) (effsOf ops.toList 0) 0 ops.toList=true) (tm:List Value) (h:AH) :
    (match xdraw E C rd ops tm h with | some (tm',h')=>K tm' h' | none=>none)=drawK E C rd ops.toList h.next ops.toList 0 K tm { next:=h.next+ops.toList.length,mem:=h.mem,df:=h.df }:=by
  rw [← trace_drawK]
  unfold xdraw
  rw [h1,cond_true]
  cases ht:trace E C rd ops.toList h.next ops.toList 0 tm { next:=h.next+ops.toList.length,mem:=h.mem,df:=h.df } with
  | none=>rfl
  | some tr=>
    simp only
    rw [tight_dyn _ _ h2]
    rfl
def cutF (n:Nat) (tm:Tm):Tm:=fun i=>bif Nat.ble (i+1) n then tm i else junk
def lstF (n:Nat) (tm:Tm):List Value:=(List.range n).map tm
def wantedF (all:List Oper) (tm:Tm) (o:Oper):Option Bool:=
  match o.guard with
  | none=>some true
  | some (j,want)=>match all[j]? with
    | some g=>match g.dst with
      | some d=>vGuard want (tm d)
      | none=>some false
    | none=>some false
def opTF (E:Env) (C:Oracle) (all:List Oper) (base i:Nat) (o:Oper) (tm:Tm) (h:AH) (K:Value→AH→Res):Res:=
  match wantedF all tm o with
  | some true=>match cls o.op with
    | 0=>match pv (aop E o.op (aevF tm) h) with
      | some v=>K v h
      | none=>none
    | 1=>match xop E C false o.op (aevF tm) h with
      | some (v,h')=>K v h'
      | none=>none
    | _=>match mkObj E o.op (aevF tm) with
      | some (ob,mk)=>K (mk (base+i)) (h.put (base+i) (some ob))
      | none=>none
  | some false=>K undV h
  | none=>none
def drawF (E:Env) (C:Oracle) (all:List Oper) (base:Nat):List Oper→Nat→(Tm→AH→Res)→Tm→AH→Res
  | [],_,K,tm,h=>K tm h
  | o::os,i,K,tm,h=>opTF E C all base i o tm h fun v h'=>drawF E C all base os (i+1) K (stoF tm o.dst v) h'
theorem aev_gt (L:List Value):aev L=aevF (fun i=>gt L i):=by
  funext x;cases x <;> rfl
theorem opTF_eq (i:Nat) (o:Oper) (L:List Value) (h:AH) (K:Value→AH→Res) :
    opTF E C all base i o (fun i=>gt L i) h K=match opT E C false all base i o L h with | some (v,h')=>K v h' | none=>none:=by
  unfold opTF opT
  rw [aev_gt]
  have hw:wantedF all (fun i=>gt L i) o=wantedA all L o:=by
    unfold wantedF wantedA;rfl
  rw [hw]
  cases wantedA all L o with
  | none=>rfl
  | some t=>
    cases t with
    | false=>rfl
    | true=>
      simp only
      generalize cls o.op=c
      rcases c with _ | _ | c
      · cases pv (aop E o.op (aevF fun i=>gt L i) h) <;> simp only
      · rfl
      · cases mkObj E o.op (aevF fun i=>gt L i) <;> simp only
theorem sto_gt {L:List Value} {d:Option Tmp} {v:Value} (hd:∀ x,d=some x→x < L.length):(fun i=>gt (sto L d v) i)=stoF (fun i=>gt L i) d v:=by
  funext i
  cases d with
  | none=>rfl
  | some x=>
    have hx:=hd x rfl
    simp only [stoF]
    cases hb:Nat.beq i x with
    | true=>
      have:=nat_beq hb;subst this
      simp [sto,setR_def,gt_def,List.getD_eq_getElem?_getD,hx]
    | false=>
      have hne:x≠i:=by rintro rfl;rw [Nat.beq_refl] at hb;cases hb
      simp [sto,setR_def,gt_def,List.getD_eq_getElem?_getD,List.getElem?_set_ne hne]
theorem sto_len (L:List Value) (d:Option Tmp) (v:Value):(sto L d v).length=L.length:=by cases d <;> simp [sto,setR_def]
theorem drawK_F {n:Nat} {K:Tm→AH→Res}:∀ (os:List Oper) (i:Nat) (L:List Value) (h:AH),L.length=n→(∀ o ∈ os,∀ d,o.dst=some d→d < n) →
    drawK E C false all base os i (fun tm' h'=>bif Nat.beq tm'.length n then K (fun i=>gt tm' i) h' else none) L h=drawF E C all base os i K (fun i=>gt L i) h:=by
  intro os
  induction os with
  | nil=>
    intro i L h hL _
    simp only [drawK,drawF]
    rw [hL,Nat.beq_refl,cond_true]
  | cons o os ih=>
    intro i L h hL hd
    simp only [drawK,drawF]
    rw [opTF_eq]
    cases opT E C false all base i o L h with
    | none=>rfl
    | some p=>
      obtain ⟨v,h'⟩:=p
      simp only
      rw [ih (i+1) _ h' (by rw [sto_len];exact hL) fun o ho=>hd o (List.mem_cons_of_mem _ ho),sto_gt (by rw [hL];exact hd o (List.mem_cons_self ..))]
theorem lst_gt (n:Nat) (tm:Tm):(fun i=>gt (lstF n tm) i)=cutF n tm:=by
  funext i
  simp only [gt_def]
  unfold cutF lstF
  rw [List.getD_eq_getElem?_getD,List.getElem?_map]
  by_cases h:i < n
  · rw [List.getElem?_range h,Nat.ble_eq_true_of_le h];rfl
  · rw [List.getElem?_eq_none (by simpa using h)]
    cases hb:Nat.ble (i+1) n with
    | true=>exact absurd (Nat.le_of_ble_eq_true hb) h
    | false=>rfl
def drawOK (n:Nat) (os:List Oper):Bool:=bif noDef os then bif dstOK n os then bif statGo os (masks os []) 0 os [] then tightGo (masks os []) (effsOf os 0) 0 os else false else false else false
theorem drawOK_spec {n:Nat} {os:List Oper} (h:drawOK n os=true):noDef os=true∧dstOK n os=true∧statGo os (masks os []) 0 os []=true∧tightGo (masks os []) (effsOf os 0) 0 os=true:=by
  unfold drawOK at h
  cases h1:noDef os <;> rw [h1] at h
  · cases h
  · cases h2:dstOK n os <;> rw [h2] at h
    · cases h
    · cases h3:statGo os (masks os []) 0 os [] <;> rw [h3] at h
      · cases h
      · exact ⟨rfl,rfl,rfl,h⟩
theorem drawF_xdraw {n:Nat} {K:Tm→AH→Res} {ops:Array Oper} (hok:drawOK n ops.toList=true) (tm:Tm) (h:AH) {x:Value × AH}
    (hl:drawF E C ops.toList h.next ops.toList 0 K (cutF n tm) { next:=h.next+ops.toList.length,mem:=h.mem,df:=[] }=some x) :
    ∃ tm' h',xdraw E C false ops (lstF n tm) (h.wdf [])=some (tm',h')∧tm'.length=n∧K (fun i=>gt tm' i) h'=some x:=by
  obtain ⟨_,h2,h3,h4⟩:=drawOK_spec hok
  rw [← lst_gt] at hl
  have hL:(lstF n tm).length=n:=by simp [lstF]
  rw [← drawK_F ops.toList 0 (lstF n tm) _ hL (dstOK_spec h2)] at hl
  have hx:=xdraw_tight (E:=E) (C:=C) (rd:=false) (K:=fun tm' h'=>bif Nat.beq tm'.length n then K (fun i=>gt tm' i) h' else none) h3 h4 (lstF n tm) (h.wdf [])
  have hl':drawK E C false ops.toList (h.wdf []).next ops.toList 0 (fun tm' h'=>bif Nat.beq tm'.length n then K (fun i=>gt tm' i) h' else none) (lstF n tm) { next:=(h.wdf []).next+ops.toList.length,mem:=(h.wdf []).mem,df:=(h.wdf []).df }=some x:=hl
  rw [← hx] at hl'
  cases hq:xdraw E C false ops (lstF n tm) (h.wdf []) with
  | none=>rw [hq] at hl';cases hl'
  | some p=>
    obtain ⟨tm',h'⟩:=p
    rw [hq] at hl'
    simp only at hl'
    cases hb:Nat.beq tm'.length n with
    | false=>rw [hb] at hl';cases hl'
    | true=>rw [hb] at hl';exact ⟨tm',h',rfl,nat_beq hb,hl'⟩
end
end
end Go.Den
namespace Go.Den
noncomputable section
def loopK:Nat→((Tm→AH→Res)→Tm→AH→Res)→Tm→AH→Res
  | 0,_,_,_=>none
  | n+1,F,tm,h=>F (loopK n F) tm h
def thenK (y:Tm→AH→Res) (K:Kont):Kont:=fun e tm h=>match e with
  | .normal=>y tm h
  | e=>K e tm h
def blockK (id:Nat) (K:Kont):Kont:=fun e tm h=>match e with
  | .exit id'=>bif Nat.beq id' id then K .normal tm h else K (.exit id') tm h
  | e=>K e tm h
def evF0 (E:Env) (C:Oracle) (n:Nat):Code→Kont→Tm→AH→Res
  | .skip,K=>K .normal
  | .label _,K=>K .normal
  | .seq x y,K=>evF0 E C n x (thenK (evF0 E C n y K) K)
  | .cond c x y,K=>fun tm h=>match vBool (aevF tm c) with
    | some true=>evF0 E C n x K tm h
    | some false=>evF0 E C n y K tm h
    | none=>none
  | .exit id,K=>K (.exit id)
  | .ret,K=>K .ret
  | .region _ ops false,K=>fun tm h=>bif dstOK n ops.toList then regF E C ops.toList ops.toList.length ops.toList (K .normal) tm h else none
  | _,_=>fun _ _=>none
def noGo (K:Kont):Kont:=fun e tm h=>match e with
  | .goto _=>none
  | e=>K e tm h
def scopeK (x:Code) (G:Code→Kont→Tm→AH→Res) (K:Kont):Kont:=fun e tm h=>match e with
  | .goto l=>match findLabel x l with
    | some rest=>G rest (noGo K) tm h
    | none=>K (.goto l) tm h
  | e=>K e tm h
def anyF (E:Env) (C:Oracle) (n:Nat) (ops:Array Oper) (K:Tm→AH→Res) (tm:Tm) (h:AH):Res:=
  match xdraw E C false ops (lstF n tm) (h.wdf []) with
  | some (tm',h')=>bif noDef ops.toList && Nat.beq tm'.length n then K (fun i=>gt tm' i) h' else none
  | none=>none
def evF (E:Env) (C:Oracle) (n N:Nat):Code→Kont→Tm→AH→Res
  | .skip,K=>K .normal
  | .label _,K=>K .normal
  | .seq x y,K=>evF E C n N x (thenK (evF E C n N y K) K)
  | .cond c x y,K=>fun tm h=>match vBool (aevF tm c) with
    | some true=>evF E C n N x K tm h
    | some false=>evF E C n N y K tm h
    | none=>none
  | .block id x,K=>evF E C n N x (blockK id K)
  | .loop x,K=>loopK N fun G=>evF E C n N x (thenK G K)
  | .scope x,K=>evF E C n N x (scopeK x (evF0 E C n) K)
  | .goto l,K=>K (.goto l)
  | .exit id,K=>K (.exit id)
  | .ret,K=>K .ret
  | .region _ ops false,K=>fun tm h=>bif dstOK n ops.toList then regF E C ops.toList ops.toList.length ops.toList (K .normal) tm h else none
  | .region _ ops true,K=>fun tm h=>bif drawOK n ops.toList then drawF E C ops.toList h.next ops.toList 0 (K .normal) (cutF n tm) { next:=h.next+ops.toList.length,mem:=h.mem,df:=[] } else anyF E C n ops (K .normal) tm h
  | _,_=>fun _ _=>none
def resF (E:Env) (tm:Tm) (h:AH):List ResultVar→Option (List Value)
  | []=>some []
  | .tmp t::rs=>match resF E tm h rs with
    | some l=>some (tm t::l)
    | none=>none
  | .cell c t::rs=>match E.ty t with
    | some ti=>match (bif ti.agg then ldN ti.size (tm c) h else ld1 (tm c) h) with
      | some v=>match resF E tm h rs with
        | some l=>some (v::l)
        | none=>none
      | none=>none
    | none=>none
def endK (E:Env) (rs:Array ResultVar):Kont:=fun e tm h=>match e with
  | .exit _=>none
  | .goto _=>none
  | _=>match resF E tm h rs.toList with
    | some l=>some (tup l,h)
    | none=>none
def denG (E:Env) (C:Oracle) (N:Nat) (g:FuncId) (args:List Value) (h:AH):Res:=
  match E.fn g with
  | some fi=>evF E C (args.length+(fi.ntmps - args.length)) N fi.body (endK E fi.results) (fun i=>gt (args++List.replicate (fi.ntmps - args.length) undV) i) h
  | none=>none
section
variable {P:Program} {E:Env} {C:Oracle} {φ:Phi} {w:World} {h h':AH} {v:Value} {b:Frame} {a:Act} {k:List Item} {cs:List Frame} {ops:Array Oper} {tm tm':Tm} {n:Nat}
theorem lstF_VR (hf:F0 n φ h w tm a):VRs φ (lstF n tm) a.tmps.toList:=by
  refine .of_get (by simp [lstF,hf.sz]) fun t ht=>?_
  have ht':t < n:=by simpa [lstF] using ht
  have:=hf.tms t
  simpa [lstF,List.getD_eq_getElem?_getD,ht',Array.getD_eq_getD_getElem?,undef,junk] using this
theorem resF_run (ok:EnvOK P E) (hf:F0 n φ h w tm a):∀ (rs:List ResultVar) (l:List Value) (acc:Array Value),resF E tm h rs=some l →
    ∃ l',(rs.foldlM (fun (acc:Array Value) x=>do let y ← resOne a.tmps x;pure (acc.push y)) acc).run P w=.ok (acc++(⟨l'⟩:Array Value)) w∧VRs φ l l':=by
  intro rs
  induction rs with
  | nil=>intro l acc hl;cases hl;exact ⟨[],by simp,.nil⟩
  | cons x rs ih=>
    intro l acc hl
    cases x with
    | tmp u=>
      simp only [resF] at hl
      cases h1:resF E tm h rs with
      | none=>rw [h1] at hl;cases hl
      | some l₁=>
        rw [h1] at hl;cases hl
        obtain ⟨l',g1,g2⟩:=ih l₁ (acc.push (a.tmps.getD u undef)) h1
        refine ⟨a.tmps.getD u undef::l',?_,.cons _ _ _ _ (hf.tms u) g2⟩
        rw [List.foldlM_cons]
        rw [show resOne a.tmps (.tmp u)=pure (a.tmps.getD u undef) from rfl]
        simp only [pure_bind,g1]
        congr 1
        apply Array.ext';simp
    | cell c ty=>
      simp only [resF] at hl
      cases ht:E.ty ty with
      | none=>rw [ht] at hl;cases hl
      | some ti=>
        rw [ht] at hl
        simp only at hl
        cases hx:(bif ti.agg then ldN ti.size (tm c) h else ld1 (tm c) h) with
        | none=>rw [hx] at hl;cases hl
        | some v=>
          rw [hx] at hl
          simp only at hl
          cases h1:resF E tm h rs with
          | none=>rw [h1] at hl;cases hl
          | some l₁=>
            rw [h1] at hl;cases hl
            obtain ⟨y,v',e,k1,k2⟩:=loadVar_sound ok hf.rel ht (hf.tms c) hx
            obtain ⟨l',g1,g2⟩:=ih l₁ (acc.push v') h1
            refine ⟨v'::l',?_,.cons _ _ _ _ k2 g2⟩
            rw [List.foldlM_cons]
            rw [show resOne a.tmps (.cell c ty)=(do loadVar ty (← asAddr (a.tmps.getD c undef))) from rfl,e]
            simp only [asAddr,pure_bind,bind_assoc,Sem.run_bind,k1,Result.andThen_ok,g1]
            congr 1
            apply Array.ext';simp
theorem resultsF_sound (ok:EnvOK P E) (hf:F0 n φ h w tm a) {fn:Func} {l:List Value} (hl:resF E tm h fn.results.toList=some l) :
    ∃ v',(results fn a.tmps).run P w=.ok v' w∧VR φ (tup l) v':=by
  obtain ⟨l',h1,h2⟩:=resF_run ok hf _ _ #[] hl
  have hm:(fn.results.mapM (resOne a.tmps)).run P w=.ok ⟨l'⟩ w:=by
    rw [Array.mapM_eq_foldlM,← Array.foldlM_toList]
    have e:(#[]:Array Value)++(⟨l'⟩:Array Value)=⟨l'⟩:=by simp
    rw [e] at h1
    exact h1
  have hr:results fn a.tmps=(do let vs ← fn.results.mapM (resOne a.tmps);pure (if h:vs.size=1 then vs[0] else .tuple vs)):=by
    have e:∀ f:ResultVar→Sem Value,(∀ x,f x=resOne a.tmps x)→(do let vs ← fn.results.mapM f;pure (if h:vs.size=1 then vs[0] else .tuple vs):Sem Value)=(do let vs ← fn.results.mapM (resOne a.tmps);pure (if h:vs.size=1 then vs[0] else .tuple vs)):=by
      intro f hf
      rw [funext hf]
    exact e _ fun x=>by cases x <;> rfl
  refine ⟨tup l',?_,?_⟩
  · rw [hr]
    simp only [Sem.run_bind,hm,Result.andThen_ok,Sem.run_pure]
    congr 1
    cases l' with
    | nil=>rfl
    | cons x m=>cases m <;> rfl
  · clear h1 hm hl
    cases h2 with
    | nil=>exact .tuple _ _ .nil
    | cons x x' m m' hx hm=>
      cases hm with
      | nil=>exact hx
      | cons y y' m m' hy hm=>exact .tuple _ _ (.cons _ _ _ _ hx (.cons _ _ _ _ hy hm))
def ArrK (P:Program) (m:Machine) (b:Frame) (k:List Item) (cs:List Frame) (a:Act) (w:World):Ex→Prop
  | .normal=>Steps P m (lone (b.atR a k) cs w)
  | .exit id=>∀ k',exitTo id k=some k'→Steps P m (lone (b.atR a k') cs w)
  | .ret=>∃ k',Steps P m (lone (b.atR a (.code .ret::k')) cs w)
  | .goto l=>∀ k',gotoIn l k=some k'→Steps P m (lone (b.atR a k') cs w)
theorem ArrK.of_steps {m m₁:Machine} {e:Ex} (h:Steps P m m₁) (h':ArrK P m₁ b k cs a w e):ArrK P m b k cs a w e:=by
  cases e with
  | normal=>exact h.trans h'
  | exit id=>exact fun k' hk=>h.trans (h' k' hk)
  | ret=>obtain ⟨k',hs⟩:=h';exact ⟨k',h.trans hs⟩
  | goto l=>exact fun k' hk=>h.trans (h' k' hk)
theorem ArrK.pass {m:Machine} {e:Ex} {x:Item} (hx:x.plain=true) (he:e≠.normal) (h:ArrK P m b (x::k) cs a w e):ArrK P m b k cs a w e:=by
  cases e with
  | normal=>exact absurd rfl he
  | exit id=>exact fun k' hk=>h k' (by cases x <;> simp_all [exitTo,Item.plain])
  | ret=>exact h
  | goto l=>exact fun k' hk=>h k' (by cases x <;> simp_all [gotoIn,Item.plain])
def Ends (P:Program) (n:Nat) (K:Kont) (r:Value × AH) (φ:Phi) (h:AH) (w:World) (b:Frame) (k:List Item) (cs:List Frame) (m:Machine):Prop:=
  ∃ e tm' h' φ' a' w',K e tm' h'=some r∧ArrK P m b k cs a' w' e∧F0 n φ' h' w' tm' a'∧Fwd φ h w φ' h' w'
theorem evF0_sound (ok:EnvOK P E) (hC:Sound P C) (hro:b.roundOf=none) {r:Value × AH}:∀ (c:Code) (K:Kont) (k:List Item) (φ:Phi) (tm:Tm) (h:AH) (a:Act) (w:World),
    F0 n φ h w tm a→evF0 E C n c K tm h=some r→Ends P n K r φ h w b k cs (lone (b.atR a (.code c::k)) cs w):=by
  intro c
  induction c with
  | skip=>intro K k φ tm h a w hf hl;exact ⟨.normal,tm,h,φ,a,w,hl,.one stepR_skip,hf,Fwd.refl _ _ _⟩
  | label l=>intro K k φ tm h a w hf hl;exact ⟨.normal,tm,h,φ,a,w,hl,.one stepR_label,hf,Fwd.refl _ _ _⟩
  | exit id=>intro K k φ tm h a w hf hl;exact ⟨.exit id,tm,h,φ,a,w,hl,fun k' hk'=>.one (stepR_exit hk'),hf,Fwd.refl _ _ _⟩
  | ret=>intro K k φ tm h a w hf hl;exact ⟨.ret,tm,h,φ,a,w,hl,⟨k,.refl _ _⟩,hf,Fwd.refl _ _ _⟩
  | region id ops draw=>
    intro K k φ tm h a w hf hl
    cases draw with
    | false=>
      simp only [evF0] at hl
      cases hn:dstOK n ops.toList with
      | false=>rw [hn] at hl;cases hl
      | true=>
        rw [hn,cond_true] at hl
        obtain ⟨tm',h',φ',a',w',h1,h2,h3,h4⟩:=regF_sound (k:=k) (cs:=cs) ok hC hro ops.toList.length ops.toList 0 φ tm h a w rfl (dstOK_spec hn) hf hl
        refine ⟨.normal,tm',h',φ',a',w',h1,.head stepR_region ?_,h3,h4⟩
        rw [List.range_eq_range']
        simpa using h2
    | true=>cases hl
  | seq x y ihx ihy=>
    intro K k φ tm h a w hf hl
    simp only [evF0] at hl
    obtain ⟨e,tm₁,h₁,φ₁,a₁,w₁,g1,g2,g3,g4⟩:=ihx _ (.code y::k) φ tm h a w hf hl
    cases e with
    | normal=>
      obtain ⟨e₂,tm₂,h₂,φ₂,a₂,w₂,k1,k2,k3,k4⟩:=ihy K k φ₁ tm₁ h₁ a₁ w₁ g3 g1
      exact ⟨e₂,tm₂,h₂,φ₂,a₂,w₂,k1,.of_steps (.head stepR_seq g2) k2,k3,g4.trans hf.rel k4⟩
    | exit id=>exact ⟨_,tm₁,h₁,φ₁,a₁,w₁,g1,.of_steps (.one stepR_seq) (.pass (x:=.code y) rfl (by simp) g2),g3,g4⟩
    | ret=>exact ⟨_,tm₁,h₁,φ₁,a₁,w₁,g1,.of_steps (.one stepR_seq) (.pass (x:=.code y) rfl (by simp) g2),g3,g4⟩
    | goto l=>exact ⟨_,tm₁,h₁,φ₁,a₁,w₁,g1,.of_steps (.one stepR_seq) (.pass (x:=.code y) rfl (by simp) g2),g3,g4⟩
  | cond c x y ihx ihy=>
    intro K k φ tm h a w hf hl
    simp only [evF0] at hl
    have hv:=aevF_VR hf.tms c
    cases hb:aevF tm c with
    | bool t=>
      rw [hb] at hv hl
      have he:=hv.bool_inv
      cases t with
      | true=>
        obtain ⟨e,tm₁,h₁,φ₁,a₁,w₁,g1,g2,g3,g4⟩:=ihx K k φ tm h a w hf hl
        exact ⟨e,tm₁,h₁,φ₁,a₁,w₁,g1,.of_steps (.one (stepR_cond he)) g2,g3,g4⟩
      | false=>
        obtain ⟨e,tm₁,h₁,φ₁,a₁,w₁,g1,g2,g3,g4⟩:=ihy K k φ tm h a w hf hl
        exact ⟨e,tm₁,h₁,φ₁,a₁,w₁,g1,.of_steps (.one (stepR_cond he)) g2,g3,g4⟩
    | _=>rw [hb] at hl;cases hl
  | _=>intro K k φ tm h a w hf hl;cases hl
theorem evF_sound (ok:EnvOK P E) (hC:Sound P C) (hk:okKind b.kind cs) (hro:b.roundOf=none) {N:Nat} {r:Value × AH}:∀ (c:Code) (K:Kont) (k:List Item) (φ:Phi) (tm:Tm) (h:AH) (a:Act) (w:World),
    F0 n φ h w tm a→evF E C n N c K tm h=some r→Ends P n K r φ h w b k cs (lone (b.atR a (.code c::k)) cs w):=by
  intro c
  induction c with
  | skip=>intro K k φ tm h a w hf hl;exact ⟨.normal,tm,h,φ,a,w,hl,.one stepR_skip,hf,Fwd.refl _ _ _⟩
  | label l=>intro K k φ tm h a w hf hl;exact ⟨.normal,tm,h,φ,a,w,hl,.one stepR_label,hf,Fwd.refl _ _ _⟩
  | exit id=>intro K k φ tm h a w hf hl;exact ⟨.exit id,tm,h,φ,a,w,hl,fun k' hk'=>.one (stepR_exit hk'),hf,Fwd.refl _ _ _⟩
  | ret=>intro K k φ tm h a w hf hl;exact ⟨.ret,tm,h,φ,a,w,hl,⟨k,.refl _ _⟩,hf,Fwd.refl _ _ _⟩
  | goto l=>intro K k φ tm h a w hf hl;exact ⟨.goto l,tm,h,φ,a,w,hl,fun k' hk'=>.one (stepR_goto hk'),hf,Fwd.refl _ _ _⟩
  | refuse y=>intro K k φ tm h a w hf hl;cases hl
  | rangeFunc f ps as bd=>intro K k φ tm h a w hf hl;cases hl
  | region id ops draw=>
    intro K k φ tm h a w hf hl
    cases draw with
    | false=>
      simp only [evF] at hl
      cases hn:dstOK n ops.toList with
      | false=>rw [hn] at hl;cases hl
      | true=>
        rw [hn,cond_true] at hl
        obtain ⟨tm',h',φ',a',w',h1,h2,h3,h4⟩:=regF_sound (k:=k) (cs:=cs) ok hC hro ops.toList.length ops.toList 0 φ tm h a w rfl (dstOK_spec hn) hf hl
        refine ⟨.normal,tm',h',φ',a',w',h1,.head stepR_region ?_,h3,h4⟩
        rw [List.range_eq_range']
        simpa using h2
    | true=>
      simp only [evF] at hl
      have fin:∀ {tm' h'},xdraw E C false ops (lstF n tm) (h.wdf [])=some (tm',h')→noDef ops.toList=true→tm'.length=n→K .normal (fun i=>gt tm' i) h'=some r→Ends P n K r φ h w b k cs (lone (b.atR a (.code (.region id ops true)::k)) cs w):=by
        intro tm' h' hx hnd hq hl
        obtain ⟨φ',a',w',h1,h2,h3,h4⟩:=xdraw_sound ok hC _ _ _ _ _ _ hx 0 φ w a b k cs id hk (by rw [hro];rfl) ⟨lstF_VR hf,hf.rel.wdf [],by rw [hf.dfs];exact .nil⟩
        have hlen:=h2.tms.length
        refine ⟨.normal,_,h',φ',a',w',hl,h1,⟨?_,fun t=>?_,h2.rel,(h4 hnd).trans hf.dfs⟩,h3.wdfL⟩
        · rw [← Array.length_toList,← hlen];exact hq
        · have:=h2.tms.getD t
          simpa [gt_def,junk,undef,Array.getD_eq_getD_getElem?,List.getD_eq_getElem?_getD] using this
      cases hn:drawOK n ops.toList with
      | false=>
        rw [hn,cond_false] at hl
        unfold anyF at hl
        split at hl
        · rename_i tm' h' hx
          cases hb:(noDef ops.toList && Nat.beq tm'.length n) with
          | false=>rw [hb] at hl;cases hl
          | true=>
            rw [hb,cond_true] at hl
            simp only [Bool.and_eq_true] at hb
            exact fin hx hb.1 (nat_beq hb.2) hl
        · cases hl
      | true=>
        rw [hn,cond_true] at hl
        obtain ⟨tm',h',hx,hq,hl⟩:=drawF_xdraw hn tm h hl
        exact fin hx (drawOK_spec hn).1 hq hl
  | seq x y ihx ihy=>
    intro K k φ tm h a w hf hl
    simp only [evF] at hl
    obtain ⟨e,tm₁,h₁,φ₁,a₁,w₁,g1,g2,g3,g4⟩:=ihx _ (.code y::k) φ tm h a w hf hl
    cases e with
    | normal=>
      obtain ⟨e₂,tm₂,h₂,φ₂,a₂,w₂,k1,k2,k3,k4⟩:=ihy K k φ₁ tm₁ h₁ a₁ w₁ g3 g1
      exact ⟨e₂,tm₂,h₂,φ₂,a₂,w₂,k1,.of_steps (.head stepR_seq g2) k2,k3,g4.trans hf.rel k4⟩
    | exit id=>exact ⟨_,tm₁,h₁,φ₁,a₁,w₁,g1,.of_steps (.one stepR_seq) (.pass (x:=.code y) rfl (by simp) g2),g3,g4⟩
    | ret=>exact ⟨_,tm₁,h₁,φ₁,a₁,w₁,g1,.of_steps (.one stepR_seq) (.pass (x:=.code y) rfl (by simp) g2),g3,g4⟩
    | goto l=>exact ⟨_,tm₁,h₁,φ₁,a₁,w₁,g1,.of_steps (.one stepR_seq) (.pass (x:=.code y) rfl (by simp) g2),g3,g4⟩
  | cond c x y ihx ihy=>
    intro K k φ tm h a w hf hl
    simp only [evF] at hl
    have hv:=aevF_VR hf.tms c
    cases hb:aevF tm c with
    | bool t=>
      rw [hb] at hv hl
      have he:=hv.bool_inv
      cases t with
      | true=>
        obtain ⟨e,tm₁,h₁,φ₁,a₁,w₁,g1,g2,g3,g4⟩:=ihx K k φ tm h a w hf hl
        exact ⟨e,tm₁,h₁,φ₁,a₁,w₁,g1,.of_steps (.one (stepR_cond he)) g2,g3,g4⟩
      | false=>
        obtain ⟨e,tm₁,h₁,φ₁,a₁,w₁,g1,g2,g3,g4⟩:=ihy K k φ tm h a w hf hl
        exact ⟨e,tm₁,h₁,φ₁,a₁,w₁,g1,.of_steps (.one (stepR_cond he)) g2,g3,g4⟩
    | _=>rw [hb] at hl;cases hl
  | block id x ih=>
    intro K k φ tm h a w hf hl
    simp only [evF] at hl
    obtain ⟨e,tm₁,h₁,φ₁,a₁,w₁,g1,g2,g3,g4⟩:=ih _ (.inBlock id::k) φ tm h a w hf hl
    cases e with
    | normal=>exact ⟨.normal,tm₁,h₁,φ₁,a₁,w₁,g1,.head stepR_block (Steps.trans g2 (.one stepR_inBlock)),g3,g4⟩
    | exit id'=>
      simp only [blockK] at g1
      cases hid:Nat.beq id' id with
      | true=>
        rw [hid,cond_true] at g1
        have e:=nat_beq hid
        subst e
        exact ⟨.normal,tm₁,h₁,φ₁,a₁,w₁,g1,.head stepR_block (g2 k (by simp [exitTo])),g3,g4⟩
      | false=>
        rw [hid,cond_false] at g1
        refine ⟨.exit id',tm₁,h₁,φ₁,a₁,w₁,g1,fun k' hk'=>.head stepR_block (g2 k' ?_),g3,g4⟩
        have:(id == id')=false:=by
          cases hx:id == id' with
          | false=>rfl
          | true=>have:=eq_of_beq hx;subst this;rw [Nat.beq_refl] at hid;cases hid
        simp [exitTo,this,hk']
    | ret=>exact ⟨_,tm₁,h₁,φ₁,a₁,w₁,g1,.of_steps (.one stepR_block) (by obtain ⟨k',hs⟩:=g2;exact ⟨k',hs⟩),g3,g4⟩
    | goto l=>exact ⟨.goto l,tm₁,h₁,φ₁,a₁,w₁,g1,fun k' hk'=>.head stepR_block (g2 k' (by simp [gotoIn,hk'])),g3,g4⟩
  | scope x ih=>
    intro K k φ tm h a w hf hl
    simp only [evF] at hl
    obtain ⟨e,tm₁,h₁,φ₁,a₁,w₁,g1,g2,g3,g4⟩:=ih _ (.inScope x::k) φ tm h a w hf hl
    have s1:step P (lone (b.atR a (.code (.scope x)::k)) cs w)=.next (lone (b.atR a (.code x::.inScope x::k)) cs w):=step_lone_go (by simp [stepG,stepG.exec,Frame.atR])
    cases e with
    | normal=>exact ⟨.normal,tm₁,h₁,φ₁,a₁,w₁,g1,.head s1 (Steps.trans g2 (.one (step_lone_go (by simp [stepG,stepG.exec,Frame.atR])))),g3,g4⟩
    | exit id'=>exact ⟨.exit id',tm₁,h₁,φ₁,a₁,w₁,g1,fun k' hk'=>.head s1 (g2 k' (by simp [exitTo,hk'])),g3,g4⟩
    | ret=>exact ⟨_,tm₁,h₁,φ₁,a₁,w₁,g1,.of_steps (.one s1) (by obtain ⟨k',hs⟩:=g2;exact ⟨k',hs⟩),g3,g4⟩
    | goto l=>
      simp only [scopeK] at g1
      cases hfl:findLabel x l with
      | none=>
        rw [hfl] at g1
        exact ⟨.goto l,tm₁,h₁,φ₁,a₁,w₁,g1,fun k' hk'=>.head s1 (g2 k' (by simp [gotoIn,hfl,hk'])),g3,g4⟩
      | some rest=>
        rw [hfl] at g1
        have s2:=g2 (.code rest::.inScope x::k) (by simp [gotoIn,hfl])
        obtain ⟨e₂,tm₂,h₂,φ₂,a₂,w₂,k1,k2,k3,k4⟩:=evF0_sound (b:=b) (cs:=cs) ok hC hro rest (noGo K) (.inScope x::k) φ₁ tm₁ h₁ a₁ w₁ g3 g1
        have s3:Steps P (lone (b.atR a (.code (.scope x)::k)) cs w) (lone (b.atR a₁ (.code rest::.inScope x::k)) cs w₁):=.head s1 s2
        cases e₂ with
        | normal=>exact ⟨.normal,tm₂,h₂,φ₂,a₂,w₂,k1,s3.trans (Steps.trans k2 (.one (step_lone_go (by simp [stepG,stepG.exec,Frame.atR])))),k3,g4.trans hf.rel k4⟩
        | exit id'=>exact ⟨.exit id',tm₂,h₂,φ₂,a₂,w₂,k1,fun k' hk'=>s3.trans (k2 k' (by simp [exitTo,hk'])),k3,g4.trans hf.rel k4⟩
        | ret=>exact ⟨.ret,tm₂,h₂,φ₂,a₂,w₂,k1,.of_steps s3 (by obtain ⟨k',hs⟩:=k2;exact ⟨k',hs⟩),k3,g4.trans hf.rel k4⟩
        | goto l'=>cases k1
  | loop x ih=>
    intro K k φ tm h a w hf hl
    simp only [evF] at hl
    have key:∀ (m:Nat) (φ:Phi) (tm:Tm) (h:AH) (a:Act) (w:World),F0 n φ h w tm a→loopK m (fun G=>evF E C n N x (thenK G K)) tm h=some r →
        Ends P n K r φ h w b k cs (lone (b.atR a (.code x::.inLoop x::k)) cs w):=by
      intro m
      induction m with
      | zero=>intro φ tm h a w hf hl;cases hl
      | succ m ihn=>
        intro φ tm h a w hf hl
        simp only [loopK] at hl
        obtain ⟨e,tm₁,h₁,φ₁,a₁,w₁,g1,g2,g3,g4⟩:=ih _ (.inLoop x::k) φ tm h a w hf hl
        cases e with
        | normal=>
          obtain ⟨e₂,tm₂,h₂,φ₂,a₂,w₂,k1,k2,k3,k4⟩:=ihn φ₁ tm₁ h₁ a₁ w₁ g3 g1
          exact ⟨e₂,tm₂,h₂,φ₂,a₂,w₂,k1,.of_steps (Steps.trans g2 (.one stepR_inLoop)) k2,k3,g4.trans hf.rel k4⟩
        | exit id=>exact ⟨_,tm₁,h₁,φ₁,a₁,w₁,g1,.pass (x:=.inLoop x) rfl (by simp) g2,g3,g4⟩
        | ret=>exact ⟨_,tm₁,h₁,φ₁,a₁,w₁,g1,.pass (x:=.inLoop x) rfl (by simp) g2,g3,g4⟩
        | goto l=>exact ⟨_,tm₁,h₁,φ₁,a₁,w₁,g1,.pass (x:=.inLoop x) rfl (by simp) g2,g3,g4⟩
    obtain ⟨e,tm₁,h₁,φ₁,a₁,w₁,g1,g2,g3,g4⟩:=key N φ tm h a w hf hl
    exact ⟨e,tm₁,h₁,φ₁,a₁,w₁,g1,.of_steps (.one stepR_loop) g2,g3,g4⟩
theorem denG_goes (ok:EnvOK P E) (hC:Sound P C) {N:Nat} {g:FuncId} {args:List Value} (hl:denG E C N g args h=some (v,h')) :
    (∃ fi,E.fn g=some fi)∧∀ φ w args',VRs φ args args'→Rel φ h w→Goes P g ⟨args'⟩ w (Aft φ h w v h'):=by
  unfold denG at hl
  cases hE:E.fn g with
  | none=>rw [hE] at hl;cases hl
  | some fi=>
    rw [hE] at hl
    simp only at hl
    refine ⟨⟨fi,rfl⟩,fun φ w args' ha r kind cs hk=>?_⟩
    obtain ⟨fn,e1,e2,e3,e4⟩:=ok.fn _ _ hE
    have hundef:∀ n,VRs φ (List.replicate n undV) (List.replicate n undef):=by
      intro n
      induction n with
      | zero=>exact .nil
      | succ n ih=>exact .cons _ _ _ _ .und ih
    have hlen:=ha.length
    have hL:VRs φ (args++List.replicate (fi.ntmps - args.length) undV) (args'++List.replicate (fi.ntmps - args'.length) undef):=ha.append (by rw [hlen];exact hundef _)
    have hf:F0 (args'.length+(fi.ntmps - args'.length)) φ h w (fun i=>gt (args++List.replicate (fi.ntmps - args.length) undV) i) ⟨⟨args'++List.replicate (fi.ntmps - args'.length) undef⟩,[]⟩:=
      ⟨by simp,fun t=>by have:=hL.getD t;simpa [gt_def,junk,undef,Array.getD_eq_getD_getElem?,List.getD_eq_getElem?_getD] using this,r,rfl⟩
    let b:Frame:={ (default:Frame) with fn:=g,kind:=kind,roundOf:=none }
    have hent:Frame.enter P g ⟨args'⟩ kind=b.atR ⟨⟨args'++List.replicate (fi.ntmps - args'.length) undef⟩,[]⟩ [.code fi.body]:=by
      have:(⟨args'⟩:Array Value)++Array.replicate (fi.ntmps - args'.length) undef=⟨args'++List.replicate (fi.ntmps - args'.length) undef⟩:=by
        apply Array.ext';simp
      simp [Frame.enter,Frame.atR,b,e1,e2,e3,this]
    obtain ⟨e,tm₁,h₁,φ₁,a₁,w₁,g1,g2,g3,g4⟩:=evF_sound (b:=b) (cs:=cs) ok hC hk rfl fi.body _ [] φ _ h _ w hf (by rw [← hlen];exact hl)
    have fin:∀ l,resF E tm₁ h₁ fi.results.toList=some l→(tup l,h₁)=(v,h')→(∃ todo,Steps P (lone (Frame.enter P g ⟨args'⟩ kind) cs w) (lone { b.atR a₁ todo with mode:=.returning } cs w₁)) →
        ∃ fr v' w',Aft φ h w v h' v' w'∧fr.fn=g∧Steps P (lone (Frame.enter P g ⟨args'⟩ kind) cs w) (lone fr cs w')∧Gone P kind fr w' v':=by
      intro l hl he ⟨todo,hs⟩
      cases he
      obtain ⟨v',m1,m2⟩:=resultsF_sound ok g3 (fn:=fn) (by rw [e4];exact hl)
      exact ⟨{ b.atR a₁ todo with mode:=.returning },v',w₁,⟨φ₁,m2,g3.rel,g4⟩,rfl,hs,rfl,g3.dfs,rfl,fn,e1,m1⟩
    have res:∀ {x:Res},(match resF E tm₁ h₁ fi.results.toList with | some l=>some (tup l,h₁) | none=>none)=some (v,h')→∃ l,resF E tm₁ h₁ fi.results.toList=some l∧(tup l,h₁)=(v,h'):=by
      intro _ hx
      cases hr:resF E tm₁ h₁ fi.results.toList with
      | none=>rw [hr] at hx;cases hx
      | some l=>rw [hr] at hx;exact ⟨l,rfl,by simpa using hx⟩
    cases e with
    | normal=>
      obtain ⟨l,hl1,hl2⟩:=res (x:=none) g1
      exact fin l hl1 hl2 ⟨[],by rw [hent];exact Steps.trans g2 (.one (stepR_end rfl))⟩
    | exit id=>cases g1
    | goto l=>cases g1
    | ret=>
      obtain ⟨l,hl1,hl2⟩:=res (x:=none) g1
      obtain ⟨k',hs⟩:=g2
      exact fin l hl1 hl2 ⟨_,by rw [hent];exact hs.trans (.one (stepR_ret rfl))⟩
def Told (P:Program) (g:FuncId) (f:List Value→AH→Res):Prop:=
  ∀ args h v h',f args h=some (v,h')→∀ φ w args',VRs φ args args'→Rel φ h w→Goes P g ⟨args'⟩ w (Aft φ h w v h')
end
end
end Go.Den
namespace Go.Den
noncomputable section
abbrev Fun:=List Value→AH→Res
def tabS (tbl:PT Fun):Oracle:=fun fv args h=>
  match fv with
  | .func (.func g) ⟨first⟩ ⟨cap⟩=>match tbl.get g with
    | some f=>match f (first++args++cap) h with
      | some (v,h')=>some (v,h'.wdf h.df)
      | none=>none
    | none=>none
  | _=>none
def TabOK (P:Program) (E:Env) (tbl:PT Fun):Prop:=∀ g f,tbl.get g=some f→Told P g f∧∃ fi,E.fn g=some fi
theorem TabOK.leaf {P:Program} {E:Env}:TabOK P E .leaf:=by
  intro g f h;rw [PT.get_leaf] at h;cases h
theorem TabOK.put {P:Program} {E:Env} {tbl:PT Fun} (ht:TabOK P E tbl) {g:Nat} {f:Fun} (hf:Told P g f) (hE:∃ fi,E.fn g=some fi):TabOK P E (tbl.put g (some f)):=by
  intro g' f' h
  rw [PT.get_put] at h
  by_cases e:g'=g
  · rw [if_pos e] at h;cases h;subst e;exact ⟨hf,hE⟩
  · rw [if_neg e] at h;exact ht g' f' h
theorem tabS_sound {P:Program} {E:Env} (ok:EnvOK P E) {tbl:PT Fun} (ht:TabOK P E tbl):Sound P (tabS tbl):=by
  intro fv args h v h' hl
  unfold tabS at hl
  split at hl
  · rename_i g first cap
    split at hl
    · rename_i f hf
      obtain ⟨htold,fi,hE⟩:=ht g f hf
      split at hl
      · rename_i v₁ h₁ hx
        cases hl
        refine ⟨rfl,fun φ w f' args' hfv ha r=>?_⟩
        cases hfv with
        | func _ hy _ first' _ cap' hfi hca=>
          have hg:=htold _ _ _ _ hx φ w (first'++args'++cap') ((hfi.append ha).append hca) r
          refine .enter g ⟨first'++args'++cap'⟩ w ?_ ?_
          · have e:(⟨first'⟩:Array Value)++(⟨args'⟩:Array Value)++(⟨cap'⟩:Array Value)=⟨first'++args'++cap'⟩:=by apply Array.ext';simp
            have:=ok.call g fi hE ⟨first'++args'++cap'⟩ w
            simpa [callV,Deferred.ofValue,invoke,e] using this
          · intro kind cs hk
            obtain ⟨fr,v',w',⟨φ',m1,m2,m3⟩,rest⟩:=hg kind cs hk
            exact ⟨fr,v',w',⟨φ',m1,m2.wdf _,m3.wdf _⟩,rest⟩
      · cases hl
    · cases hl
  · cases hl
theorem denG_told {P:Program} {E:Env} (ok:EnvOK P E) {C:Oracle} (hC:Sound P C) (N:Nat) (g:FuncId):Told P g (denG E C N g):=by
  intro args h v h' hl φ w args' ha r
  exact (denG_goes ok hC hl).2 φ w args' ha r
theorem Told.mono {P:Program} {g:FuncId} {f f':Fun} (ht:Told P g f) (h:∀ args hp x,f' args hp=some x→f args hp=some x):Told P g f':=by
  intro args hp v h' hl
  exact ht args hp v h' (h _ _ _ hl)
end
end Go.Den
