/- Calls within calls in the symbolic evaluation. Conditions: none. -/
import Derived.Test.YtejgabehfdapjaaGreatDenK
namespace Go.Den
noncomputable section
def orcS (E:Env) (tb:PT Fun) (N:Nat):Nat→Oracle
  | 0=>tabS tb
  | d+1=>fun fv args h=>match fv with
    | .func (.func g) ⟨first⟩ ⟨cap⟩=>match tb.get g with
      | some f=>match f (first++args++cap) h with
        | some (v,h')=>some (v,h'.wdf h.df)
        | none=>none
      | none=>match denG E (orcS E tb N d) N g (first++args++cap) h with
        | some (v,h')=>some (v,h'.wdf h.df)
        | none=>none
    | _=>none
theorem call_sound {P:Program} {E:Env} (ok:EnvOK P E) {g:FuncId} {f:Fun} (ht:Told P g f) (hE:∃ fi,E.fn g=some fi) {first args cap:List Value} {h h₁:AH} {v:Value} (hx:f (first++args++cap) h=some (v,h₁)) :
    ∀ φ w f' args',VR φ (.func (.func g) ⟨first⟩ ⟨cap⟩) f'→VRs φ args args'→Rel φ h w→Invd P (callV f' ⟨args'⟩) w (Aft φ h w v (h₁.wdf h.df)):=by
  intro φ w f' args' hfv ha r
  obtain ⟨fi,hE⟩:=hE
  cases hfv with
  | func _ hy _ first' _ cap' hfi hca=>
    have hg:=ht _ _ _ _ hx φ w (first'++args'++cap') ((hfi.append ha).append hca) r
    refine .enter g ⟨first'++args'++cap'⟩ w ?_ ?_
    · have e:(⟨first'⟩:Array Value)++(⟨args'⟩:Array Value)++(⟨cap'⟩:Array Value)=⟨first'++args'++cap'⟩:=by apply Array.ext';simp
      have:=ok.call g fi hE ⟨first'++args'++cap'⟩ w
      simpa [callV,Deferred.ofValue,invoke,e] using this
    · intro kind cs hk
      obtain ⟨fr,v',w',⟨φ',m1,m2,m3⟩,rest⟩:=hg kind cs hk
      exact ⟨fr,v',w',⟨φ',m1,m2.wdf _,m3.wdf _⟩,rest⟩
theorem orcS_sound {P:Program} {E:Env} (ok:EnvOK P E) {tb:PT Fun} (ht:TabOK P E tb) (N:Nat):∀ d,Sound P (orcS E tb N d)
  | 0=>tabS_sound ok ht
  | d+1=>by
    intro fv args h v h' hl
    unfold orcS at hl
    split at hl
    · rename_i g first cap
      split at hl
      · rename_i f hf
        obtain ⟨htold,hE⟩:=ht g f hf
        split at hl
        · rename_i hx
          cases hl
          exact ⟨rfl,call_sound ok htold hE hx⟩
        · cases hl
      · split at hl
        · rename_i hx
          cases hl
          exact ⟨rfl,call_sound ok (denG_told ok (orcS_sound ok ht N d) N g) (denG_goes ok (orcS_sound ok ht N d) hx).1 hx⟩
        · cases hl
    · cases hl
theorem tabS_at' {tb:PT Fun} {g:Nat} {f:Fun} {args:List Value} {h h':AH} {v:Value} (hg:tb.get g=some f) (hf:f args h=some (v,h')):tabS tb (.func (.func g) ⟨[]⟩ ⟨[]⟩) args h=some (v,h'.wdf h.df):=by
  show (match tb.get g with | some f=>(match f ([]++args++[]) h with | some (v,h')=>some (v,h'.wdf h.df) | none=>none) | none=>none)=_
  rw [hg]
  simp only [List.nil_append,List.append_nil,hf]
def callOf (E:Env) (op:Op) (ρ:Operand→Value):Option (Value × List Value):=
  match op with
  | .call { callee:=.value f,args,argTypes:=_ }=>some (ρ f,args.toList.map ρ)
  | .call { callee:=.invoke r n,args,argTypes:=_ }=>match ρ r with
    | .iface t v=>match E.meth t n with
      | some g=>some (.func (.func g) ⟨[]⟩ ⟨[]⟩,v::args.toList.map ρ)
      | none=>none
    | _=>none
  | _=>none
theorem callOf_xop0 {E:Env} {C:Oracle} {op:Op} {ρ:Operand→Value} {f:Value} {as:List Value} (hc:callOf E op ρ=some (f,as)) (h:AH):xop0 E C op ρ h=C f as h:=by
  unfold callOf at hc
  split at hc
  · cases hc;rfl
  · split at hc
    · rename_i hr
      split at hc
      · rename_i hm
        cases hc
        simp only [xop0,xopM,hr,hm]
      · cases hc
    · cases hc
  · cases hc
theorem callOf_xop {E:Env} {C:Oracle} {op:Op} {ρ:Operand→Value} {f:Value} {as:List Value} (hc:callOf E op ρ=some (f,as)) (h:AH):xop E C false op ρ h=C f as h:=by
  unfold callOf at hc
  split at hc
  · cases hc;rfl
  · split at hc
    · rename_i hr
      split at hc
      · rename_i hm
        cases hc
        simp only [xop,hr,hm]
      · cases hc
    · cases hc
  · cases hc
abbrev RC:=Value→List Value→AH→Nat→Fo→Ps→Option (Value × AH × Nat × Fo × Ps)
def RS (C:Oracle) (R:RC):Prop:=∀ f args h k fo cs v h' k' fo' cs',R f args h k fo cs=some (v,h',k',fo',cs')→GoodP' cs'→C f args h=some (v,h')∧GoodP' cs
def opm {α:Type} (_k:Nat) (_op:Op) (_ρ:Operand→Value) (_h:AH) (r:α):α:=r
abbrev RV:=Option (Value × AH × Nat × Fo × Ps)
def tkV (op:Op) (ρ:Operand→Value) (h:AH) (k:Nat) (fo:Fo) (cs:Ps) (x:Option (Value × AH)):RV:=
  match x with
  | some (.bool b,h')=>(match b with
    | true=>some (opm k op ρ h (.bool true),h',k+1,fo,cs)
    | false=>some (opm k op ρ h (.bool false),h',k+1,fo,cs))
  | some (v,h')=>some (opm k op ρ h v,h',k+1,fo,cs)
  | none=>none
def goV (E:Env) (R:RC) (op:Op) (ρ:Operand→Value) (h:AH) (k:Nat) (fo:Fo) (cs:Ps) (x:Option (Value × AH)):RV:=
  match callOf E op ρ with
  | some (f,as)=>R f as h (k+1) fo cs
  | none=>tkV op ρ h k fo cs x
def eyR (E:Env) (R:RC) (op:Op) (ρ:Operand→Value) (h:AH) (k:Nat) (fo:Fo) (cs:Ps) (x:Option (Value × AH)):RV:=
  match fo with
  | []=>goV E R op ρ h k [] cs x
  | (i,v,g)::r=>bif Nat.beq i k then some (v,newH g h,k+1,r,(x=some (v,newH g h))::cs) else goV E R op ρ h k ((i,v,g)::r) cs x
section
variable {E:Env} {C:Oracle} {R:RC} {n N:Nat}
theorem tkV_sound {op:Op} {ρ:Operand→Value} {h h':AH} {k k':Nat} {fo fo':Fo} {cs cs':Ps} {x:Option (Value × AH)} {v:Value} (hl:tkV op ρ h k fo cs x=some (v,h',k',fo',cs')) (hg:GoodP' cs'):x=some (v,h')∧GoodP' cs:=by
  unfold tkV at hl
  split at hl
  · split at hl <;> (cases hl;exact ⟨rfl,hg⟩)
  · cases hl;exact ⟨rfl,hg⟩
  · cases hl
theorem goV_sound (hR:RS C R) {op:Op} {ρ:Operand→Value} {h h':AH} {k k':Nat} {fo fo':Fo} {cs cs':Ps} {x:Option (Value × AH)} {v:Value} (hx:∀ f as,callOf E op ρ=some (f,as)→x=C f as h)
    (hl:goV E R op ρ h k fo cs x=some (v,h',k',fo',cs')) (hg:GoodP' cs'):x=some (v,h')∧GoodP' cs:=by
  unfold goV at hl
  split at hl
  · rename_i f as hc
    rw [hx f as hc]
    exact hR _ _ _ _ _ _ _ _ _ _ _ hl hg
  · exact tkV_sound hl hg
theorem eyR_sound (hR:RS C R) {op:Op} {ρ:Operand→Value} {h h':AH} {k k':Nat} {fo fo':Fo} {cs cs':Ps} {x:Option (Value × AH)} {v:Value} (hx:∀ f as,callOf E op ρ=some (f,as)→x=C f as h)
    (hl:eyR E R op ρ h k fo cs x=some (v,h',k',fo',cs')) (hg:GoodP' cs'):x=some (v,h')∧GoodP' cs:=by
  unfold eyR at hl
  split at hl
  · exact goV_sound hR hx hl hg
  · rename_i i v₁ g r
    cases hb:Nat.beq i k with
    | true=>
      rw [hb,cond_true] at hl;cases hl
      exact ⟨hg _ (List.mem_cons_self ..),fun p hp=>hg p (List.mem_cons_of_mem _ hp)⟩
    | false=>
      rw [hb,cond_false] at hl
      exact goV_sound hR hx hl hg
end
def ryGrp (E:Env) (C:Oracle) (R:RC):List Oper→Tm→AH→Nat→Fo→Ps→Option (Tm × AH × Nat × Fo × Ps)
  | [],tm,h,k,fo,cs=>some (tm,h,k,fo,cs)
  | o::os,tm,h,k,fo,cs=>match eyR E R o.op (aevF tm) h k fo cs (xop0 E C o.op (aevF tm) h) with
    | some (v,h',k',fo',cs')=>ryGrp E C R os (stoF tm o.dst v) h' k' fo' cs'
    | none=>none
def ryReg (E:Env) (C:Oracle) (R:RC) (all:List Oper):Nat→List Oper→Tm→AH→Nat→Fo→Ps→Option (Tm × AH × Nat × Fo × Ps)
  | _,[],tm,h,k,fo,cs=>some (tm,h,k,fo,cs)
  | 0,_,_,_,_,_,_=>none
  | f+1,o::os,tm,h,k,fo,cs=>match o.guard with
    | none=>match eyR E R o.op (aevF tm) h k fo cs (xop0 E C o.op (aevF tm) h) with
      | some (v,h',k',fo',cs')=>ryReg E C R all f os (stoF tm o.dst v) h' k' fo' cs'
      | none=>none
    | some (j,want)=>match (all[j]?).bind (·.dst) with
      | some d=>bif inG j want d o then match vGuard want (tm d) with
        | some true=>match ryGrp E C R (spanG j want d (o::os)) tm h k fo cs with
          | some (tm',h',k',fo',cs')=>ryReg E C R all f (restG j want d (o::os)) tm' h' k' fo' cs'
          | none=>none
        | some false=>ryReg E C R all f (restG j want d (o::os)) (skpF (spanG j want d (o::os)) tm) h k fo cs
        | none=>none
        else none
      | none=>none
def eyT (op:Op) (ρ:Operand→Value) (h:AH) (k:Nat) (fo:Fo) (cs:Ps) (x:Option (Value × AH)):RV:=
  match fo with
  | []=>tkV op ρ h k [] cs x
  | (i,v,g)::r=>bif Nat.beq i k then some (v,newH g h,k+1,r,(x=some (v,newH g h))::cs) else tkV op ρ h k ((i,v,g)::r) cs x
theorem eyT_sound {op:Op} {ρ:Operand→Value} {h h':AH} {k k':Nat} {fo fo':Fo} {cs cs':Ps} {x:Option (Value × AH)} {v:Value}
    (hl:eyT op ρ h k fo cs x=some (v,h',k',fo',cs')) (hg:GoodP' cs'):x=some (v,h')∧GoodP' cs:=by
  unfold eyT at hl
  split at hl
  · exact tkV_sound hl hg
  · rename_i i v₁ g r
    cases hb:Nat.beq i k with
    | true=>
      rw [hb,cond_true] at hl;cases hl
      exact ⟨hg _ (List.mem_cons_self ..),fun p hp=>hg p (List.mem_cons_of_mem _ hp)⟩
    | false=>
      rw [hb,cond_false] at hl
      exact tkV_sound hl hg
def dyR (E:Env) (C:Oracle) (R:RC) (all:List Oper) (base i:Nat) (o:Oper) (tm:Tm) (h:AH) (k:Nat) (fo:Fo) (cs:Ps):RV:=
  match wantedF all tm o with
  | some true=>match cls o.op with
    | 1=>eyR E R o.op (aevF tm) h k fo cs (xop E C false o.op (aevF tm) h)
    | _=>eyT o.op (aevF tm) h k fo cs (opTV E C all base i o tm h)
  | some false=>some (undV,h,k+1,fo,cs)
  | none=>none
def ryDrw (E:Env) (C:Oracle) (R:RC) (all:List Oper) (base:Nat):List Oper→Nat→Tm→AH→Nat→Fo→Ps→Option (Tm × AH × Nat × Fo × Ps)
  | [],_,tm,h,k,fo,cs=>some (tm,h,k,fo,cs)
  | o::os,i,tm,h,k,fo,cs=>match dyR E C R all base i o tm h k fo cs with
    | some (v,h',k',fo',cs')=>ryDrw E C R all base os (i+1) (stoF tm o.dst v) h' k' fo' cs'
    | none=>none
section
variable {E:Env} {C:Oracle} {R:RC} {n N:Nat}
theorem ryGrp_sound (hR:RS C R):∀ (os:List Oper) {tm tm':Tm} {h h':AH} {k k':Nat} {fo fo':Fo} {cs cs':Ps},ryGrp E C R os tm h k fo cs=some (tm',h',k',fo',cs')→GoodP' cs'→(∀ K,grpF E C os K tm h=K tm' h')∧GoodP' cs
  | [],_,_,_,_,_,_,_,_,_,_,hl,hg=>by cases hl;exact ⟨fun _=>rfl,hg⟩
  | o::os,tm,tm',h,h',k,k',fo,fo',cs,cs',hl,hg=>by
    simp only [ryGrp] at hl
    split at hl
    · rename_i hx
      obtain ⟨h1,h2⟩:=ryGrp_sound hR os hl hg
      obtain ⟨h3,h4⟩:=eyR_sound hR (fun f as hc=>callOf_xop0 hc h) hx h2
      refine ⟨fun K=>?_,h4⟩
      simp only [grpF]
      rw [opK_of_xop0 h3]
      exact h1 K
    · cases hl
theorem ryReg_sound (hR:RS C R) {all:List Oper}:∀ (f:Nat) (os:List Oper) {tm tm':Tm} {h h':AH} {k k':Nat} {fo fo':Fo} {cs cs':Ps},ryReg E C R all f os tm h k fo cs=some (tm',h',k',fo',cs')→GoodP' cs'→(∀ K,regF E C all f os K tm h=K tm' h')∧GoodP' cs:=by
  intro f
  induction f with
  | zero=>
    intro os tm tm' h h' k k' fo fo' cs cs' hl hg
    cases os with
    | nil=>cases hl;exact ⟨fun _=>rfl,hg⟩
    | cons=>cases hl
  | succ f ih=>
    intro os tm tm' h h' k k' fo fo' cs cs' hl hg
    cases os with
    | nil=>cases hl;exact ⟨fun _=>rfl,hg⟩
    | cons o os=>
      simp only [ryReg] at hl
      split at hl
      · rename_i hgn
        split at hl
        · rename_i hx
          obtain ⟨h1,h2⟩:=ih _ hl hg
          obtain ⟨h3,h4⟩:=eyR_sound hR (fun f as hc=>callOf_xop0 hc h) hx h2
          refine ⟨fun K=>?_,h4⟩
          simp only [regF,hgn]
          rw [opK_of_xop0 h3]
          exact h1 K
        · cases hl
      · rename_i j want hgj
        split at hl
        · rename_i d hjd
          cases hb:inG j want d o with
          | false=>rw [hb] at hl;cases hl
          | true=>
            rw [hb,cond_true] at hl
            split at hl
            · rename_i hv
              split at hl
              · rename_i hx
                obtain ⟨h1,h2⟩:=ih _ hl hg
                obtain ⟨h3,h4⟩:=ryGrp_sound hR _ hx h2
                refine ⟨fun K=>?_,h4⟩
                simp only [regF,hgj,hjd,hb,cond_true,hv]
                rw [h3];exact h1 K
              · cases hl
            · rename_i hv
              obtain ⟨h1,h2⟩:=ih _ hl hg
              refine ⟨fun K=>?_,h2⟩
              simp only [regF,hgj,hjd,hb,cond_true,hv]
              exact h1 K
            · cases hl
        · cases hl
theorem opTV_und {all:List Oper} {base i:Nat} {o:Oper} {tm:Tm} {h:AH} (hw:wantedF all tm o=some false):opTV E C all base i o tm h=some (undV,h):=by unfold opTV;rw [hw]
theorem dyR_sound (hR:RS C R) {all:List Oper} {base i:Nat} {o:Oper} {tm:Tm} {h h':AH} {k k':Nat} {fo fo':Fo} {cs cs':Ps} {v:Value}
    (hl:dyR E C R all base i o tm h k fo cs=some (v,h',k',fo',cs')) (hg:GoodP' cs'):opTV E C all base i o tm h=some (v,h')∧GoodP' cs:=by
  unfold dyR at hl
  split at hl
  · rename_i hw
    split at hl
    · rename_i hc
      have e:opTV E C all base i o tm h=xop E C false o.op (aevF tm) h:=by unfold opTV;rw [hw];simp only [hc]
      rw [e]
      exact eyR_sound hR (fun f as hc=>callOf_xop hc h) hl hg
    · exact eyT_sound hl hg
  · rename_i hw
    cases hl
    exact ⟨opTV_und hw,hg⟩
  · cases hl
theorem ryDrw_sound (hR:RS C R) {all:List Oper} {base:Nat}:∀ (os:List Oper) (i:Nat) {tm tm':Tm} {h h':AH} {k k':Nat} {fo fo':Fo} {cs cs':Ps},ryDrw E C R all base os i tm h k fo cs=some (tm',h',k',fo',cs')→GoodP' cs'→(∀ K,drawF E C all base os i K tm h=K tm' h')∧GoodP' cs
  | [],_,_,_,_,_,_,_,_,_,_,_,hl,hg=>by cases hl;exact ⟨fun _=>rfl,hg⟩
  | o::os,i,tm,tm',h,h',k,k',fo,fo',cs,cs',hl,hg=>by
    simp only [ryDrw] at hl
    split at hl
    · rename_i hx
      obtain ⟨h1,h2⟩:=ryDrw_sound hR os (i+1) hl hg
      obtain ⟨h3,h4⟩:=dyR_sound hR hx h2
      refine ⟨fun K=>?_,h4⟩
      simp only [drawF]
      rw [opTF_of_opTV h3]
      exact h1 K
    · cases hl
end
def vSelf:Nat→Value→Bool
  | 0,_=>false
  | n+1,v=>match v with
    | .bool _=>true
    | .int _ _=>true
    | .string _=>true
    | .pointer none=>true
    | .pointer (some ⟨_,_,none⟩)=>true
    | .slice none 0 0=>true
    | .slice (some ⟨_,_,none⟩) _ _=>true
    | .map none=>true
    | .map (some _)=>true
    | .nilFunc=>true
    | .func (.func _) ⟨a⟩ ⟨c⟩=>a.all (vSelf n) && c.all (vSelf n)
    | .nilIface=>true
    | .iface _ v=>vSelf n v
    | .agg ⟨l⟩=>l.all (vSelf n)
    | .tuple ⟨l⟩=>l.all (vSelf n)
    | .chan none=>true
    | .chan (some _)=>true
    | _=>false
theorem lEq_self {f:Value→Value→Bool} {g:Value→Bool} (hf:∀ a,g a=true→f a a=true):∀ {l:List Value},l.all g=true→lEq f l l=true
  | [],_=>rfl
  | a::l,h=>by
    simp only [List.all_cons,Bool.and_eq_true] at h
    simp only [lEq,Bool.and_eq_true]
    exact ⟨hf a h.1,lEq_self hf h.2⟩
theorem vSelf_eq:∀ (n:Nat) (v:Value),vSelf n v=true→vEq n v v=true
  | 0,_,h=>by cases h
  | n+1,v,h=>by
    have ih:=vSelf_eq n
    unfold vSelf at h
    unfold vEq
    split at h <;> first
      | rfl
      | (simp only [Nat.beq_refl,Bool.and_self,decide_true,beq_self_eq_true];done)
      | (simp only [Bool.and_eq_true] at h;simp only [Nat.beq_refl,Bool.true_and,lEq_self ih h.1,lEq_self ih h.2];done)
      | (simp only [Nat.beq_refl,Bool.true_and,ih _ h];done)
      | (exact lEq_self ih h)
      | (cases h;done)
def addP (E:Env) (ms effs:List Nat) (tr:Tr) (nm i:Nat) (o:Oper):List Nat→Ps→Ps
  | [],cs=>cs
  | m::l,cs=>bif Nat.beq m nm then addP E ms effs tr nm i o l cs else bif possB ms effs i m then addP E ms effs tr nm i o l ((pv (aop E o.op (aev (tr.T i)) (tr.H m))=some (tr.V i))::cs) else addP E ms effs tr nm i o l cs
def dynP (E:Env) (all:List Oper) (ms effs:List Nat) (tr:Tr):Nat→List Oper→Ps→Option Ps
  | _,[],cs=>some cs
  | i,o::os,cs=>bif Nat.beq (cls o.op) 0 && isRd o.op then (match wantedA all (tr.T i) o with
      | some true=>bif vSelf 64 (tr.V i) then dynP E all ms effs tr (i+1) os (addP E ms effs tr (natM (o::os) i) i o effs cs) else none
      | _=>dynP E all ms effs tr (i+1) os cs) else dynP E all ms effs tr (i+1) os cs
theorem addP_sound {E:Env} {ms effs:List Nat} {tr:Tr} {nm i:Nat} {o:Oper} (hv:vSelf 64 (tr.V i)=true):∀ (l:List Nat) {cs:Ps},GoodP' (addP E ms effs tr nm i o l cs) →
    (l.all fun m=>bif Nat.beq m nm then true else bif possB ms effs i m then chkB E o (tr.T i) (tr.V i) (tr.H m) else true)=true∧GoodP' cs
  | [],cs,h=>⟨rfl,h⟩
  | m::l,cs,h=>by
    simp only [addP] at h
    simp only [List.all_cons,Bool.and_eq_true]
    cases h1:Nat.beq m nm with
    | true=>
      rw [h1,cond_true] at h
      obtain ⟨g1,g2⟩:=addP_sound hv l h
      exact ⟨⟨rfl,g1⟩,g2⟩
    | false=>
      rw [h1,cond_false] at h
      cases h2:possB ms effs i m with
      | true=>
        rw [h2,cond_true] at h
        obtain ⟨g1,g2⟩:=addP_sound hv l h
        have g3:=g2 _ (List.mem_cons_self ..)
        refine ⟨⟨?_,g1⟩,fun p hp=>g2 p (List.mem_cons_of_mem _ hp)⟩
        rw [cond_false,cond_true]
        unfold chkB
        rw [g3]
        exact vSelf_eq 64 _ hv
      | false=>
        rw [h2,cond_false] at h
        obtain ⟨g1,g2⟩:=addP_sound hv l h
        exact ⟨⟨rfl,g1⟩,g2⟩
theorem dynP_sound {E:Env} {all:List Oper} {ms effs:List Nat} {tr:Tr}:∀ (os:List Oper) (i:Nat) {cs cs':Ps},dynP E all ms effs tr i os cs=some cs'→GoodP' cs'→dynGo E all ms effs tr i os=true∧GoodP' cs
  | [],i,cs,cs',h,hg=>by cases h;exact ⟨rfl,hg⟩
  | o::os,i,cs,cs',h,hg=>by
    simp only [dynP] at h
    simp only [dynGo]
    cases h1:(Nat.beq (cls o.op) 0 && isRd o.op) with
    | false=>rw [h1,cond_false] at h;rw [cond_false];exact dynP_sound os (i+1) h hg
    | true=>
      rw [h1,cond_true] at h
      rw [cond_true]
      cases h2:wantedA all (tr.T i) o with
      | none=>rw [h2] at h;exact dynP_sound os (i+1) h hg
      | some t=>
        rw [h2] at h
        cases t with
        | false=>exact dynP_sound os (i+1) h hg
        | true=>
          simp only at h ⊢
          cases h3:vSelf 64 (tr.V i) with
          | false=>rw [h3] at h;cases h
          | true=>
            rw [h3,cond_true] at h
            obtain ⟨g1,g2⟩:=dynP_sound os (i+1) h hg
            obtain ⟨g3,g4⟩:=addP_sound h3 effs g2
            refine ⟨?_,g4⟩
            have:rdOK E ms effs tr (natM (o::os) i) i o=true:=g3
            rw [this,cond_true];exact g1
def ryTr (E:Env) (C:Oracle) (R:RC) (all:List Oper) (base:Nat):List Oper→Nat→List Value→AH→Nat→Fo→Ps→Option (Tr × Nat × Fo × Ps)
  | [],_,L,h,k,fo,cs=>some ([(L,h,junk)],k,fo,cs)
  | o::os,i,L,h,k,fo,cs=>match dyR E C R all base i o (fun i=>gt L i) h k fo cs with
    | some (v,h',k',fo',cs')=>match ryTr E C R all base os (i+1) (sto L o.dst v) h' k' fo' cs' with
      | some (tr,r)=>some ((L,h,v)::tr,r)
      | none=>none
    | none=>none
theorem opT_of_opTV {E:Env} {C:Oracle} {all:List Oper} {base i:Nat} {o:Oper} {L:List Value} {h h':AH} {v:Value} (hx:opTV E C all base i o (fun i=>gt L i) h=some (v,h')):opT E C false all base i o L h=some (v,h'):=by
  have h1:=opTF_eq (E:=E) (C:=C) (all:=all) (base:=base) i o L h fun v h=>some (v,h)
  rw [opTF_of_opTV hx] at h1
  cases hq:opT E C false all base i o L h with
  | none=>rw [hq] at h1;cases h1
  | some p=>rw [hq] at h1;obtain ⟨a,b⟩:=p;exact h1.symm
theorem ryTr_sound {E:Env} {C:Oracle} {R:RC} (hR:RS C R) {all:List Oper} {base:Nat}:∀ (os:List Oper) (i:Nat) {L:List Value} {h:AH} {k k':Nat} {fo fo':Fo} {cs cs':Ps} {tr:Tr},ryTr E C R all base os i L h k fo cs=some (tr,k',fo',cs')→GoodP' cs'→trace E C false all base os i L h=some tr∧GoodP' cs
  | [],_,_,_,_,_,_,_,_,_,_,hl,hg=>by cases hl;exact ⟨rfl,hg⟩
  | o::os,i,L,h,k,k',fo,fo',cs,cs',tr,hl,hg=>by
    simp only [ryTr] at hl
    split at hl
    · rename_i hx
      split at hl
      · rename_i hy
        cases hl
        obtain ⟨h1,h2⟩:=ryTr_sound hR os (i+1) hy hg
        obtain ⟨h3,h4⟩:=dyR_sound hR hx h2
        refine ⟨?_,h4⟩
        simp only [trace]
        rw [opT_of_opTV h3]
        simp only [h1]
      · cases hl
    · cases hl
def ryAny (E:Env) (C:Oracle) (R:RC) (n:Nat) (l:List Oper) (tm:Tm) (h:AH) (k:Nat) (fo:Fo) (cs:Ps):Option (Tm × AH × Nat × Fo × Ps):=
  bif noDef l && statGo l (masks l []) 0 l [] then
    match ryTr E C R l h.next l 0 (lstF n tm) { next:=h.next+l.length,mem:=h.mem,df:=[] } k fo cs with
    | some (tr,k',fo',cs')=>bif Nat.beq (tr.T l.length).length n then
        match dynP E l (masks l []) (effsOf l 0) tr 0 l cs' with
        | some cs''=>some (fun i=>gt (tr.T l.length) i,tr.H l.length,k',fo',cs'')
        | none=>none
      else none
    | none=>none
  else none
theorem ryAny_sound {E:Env} {C:Oracle} {R:RC} {n:Nat} (hR:RS C R) {ops:Array Oper} {tm tm':Tm} {h h':AH} {k k':Nat} {fo fo':Fo} {cs cs':Ps}
    (hl:ryAny E C R n ops.toList tm h k fo cs=some (tm',h',k',fo',cs')) (hg:GoodP' cs'):(∀ K,anyF E C n ops K tm h=K tm' h')∧GoodP' cs:=by
  unfold ryAny at hl
  cases h1:(noDef ops.toList && statGo ops.toList (masks ops.toList []) 0 ops.toList []) with
  | false=>rw [h1] at hl;cases hl
  | true=>
    rw [h1,cond_true] at hl
    simp only [Bool.and_eq_true] at h1
    split at hl
    · rename_i tr k₁ fo₁ cs₁ hx
      cases h2:Nat.beq (tr.T ops.toList.length).length n with
      | false=>rw [h2] at hl;cases hl
      | true=>
        rw [h2,cond_true] at hl
        split at hl
        · rename_i cs₂ hd
          cases hl
          obtain ⟨g1,g2⟩:=dynP_sound _ _ hd hg
          obtain ⟨g3,g4⟩:=ryTr_sound hR _ _ hx g2
          refine ⟨fun K=>?_,g4⟩
          have hxd:xdraw E C false ops (lstF n tm) (h.wdf [])=some (tr.T ops.toList.length,tr.H ops.toList.length):=by
            unfold xdraw
            rw [h1.2,cond_true]
            show (match trace E C false ops.toList h.next ops.toList 0 (lstF n tm) { next:=h.next+ops.toList.length,mem:=h.mem,df:=[] } with
              | some tr=>bif dynGo E ops.toList (masks ops.toList []) (effsOf ops.toList 0) tr 0 ops.toList then some (tr.T ops.toList.length,tr.H ops.toList.length) else none
              | none=>none)=_
            rw [g3]
            simp only [g1,cond_true]
          unfold anyF
          rw [hxd]
          simp only [h1.1,h2,Bool.and_self,cond_true]
        · cases hl
    · cases hl
abbrev RY:=Option (Ex × Tm × AH × Nat × Fo × Ps)
def ryLoop (f:Tm→AH→Nat→Fo→Ps→RY):Nat→Tm→AH→Nat→Fo→Ps→RY
  | 0,_,_,_,_,_=>none
  | m+1,tm,h,k,fo,cs=>match f tm h k fo cs with
    | some (.normal,tm,h,k,fo,cs)=>ryLoop f m tm h k fo cs
    | r=>r
def ry0 (E:Env) (C:Oracle) (R:RC) (n:Nat):Code→Tm→AH→Nat→Fo→Ps→RY
  | .skip,tm,h,k,fo,cs=>some (.normal,tm,h,k,fo,cs)
  | .label _,tm,h,k,fo,cs=>some (.normal,tm,h,k,fo,cs)
  | .seq x y,tm,h,k,fo,cs=>match ry0 E C R n x tm h k fo cs with
    | some (.normal,tm,h,k,fo,cs)=>ry0 E C R n y tm h k fo cs
    | r=>r
  | .cond c x y,tm,h,k,fo,cs=>match vBool (aevF tm c) with
    | some true=>ry0 E C R n x tm h k fo cs
    | some false=>ry0 E C R n y tm h k fo cs
    | none=>none
  | .exit id,tm,h,k,fo,cs=>some (.exit id,tm,h,k,fo,cs)
  | .ret,tm,h,k,fo,cs=>some (.ret,tm,h,k,fo,cs)
  | .region _ ops false,tm,h,k,fo,cs=>bif dstOK n ops.toList then (match ryReg E C R ops.toList ops.toList.length ops.toList tm h k fo cs with
    | some (tm,h,k,fo,cs)=>some (.normal,tm,h,k,fo,cs)
    | none=>none) else none
  | _,_,_,_,_,_=>none
def ryC (E:Env) (C:Oracle) (R:RC) (n N:Nat) (lo:Lo):Code→Tm→AH→Nat→Fo→Ps→RY
  | .skip,tm,h,k,fo,cs=>some (.normal,tm,h,k,fo,cs)
  | .label _,tm,h,k,fo,cs=>some (.normal,tm,h,k,fo,cs)
  | .seq x y,tm,h,k,fo,cs=>match ryC E C R n N lo x tm h k fo cs with
    | some (.normal,tm,h,k,fo,cs)=>ryC E C R n N lo y tm h k fo cs
    | r=>r
  | .cond c x y,tm,h,k,fo,cs=>match vBool (aevF tm c) with
    | some true=>ryC E C R n N lo x tm h k fo cs
    | some false=>ryC E C R n N lo y tm h k fo cs
    | none=>none
  | .block id x,tm,h,k,fo,cs=>match ryC E C R n N lo x tm h k fo cs with
    | some (.exit id',tm,h,k,fo,cs)=>bif Nat.beq id' id then some (.normal,tm,h,k,fo,cs) else some (.exit id',tm,h,k,fo,cs)
    | r=>r
  | .loop x,tm,h,k,fo,cs=>match tellL lo k with
    | some (e,tm',h')=>some (e,tm',h',k+1,fo,(∀ K:Kont,loopK N (fun G=>evF E C n N x (thenK G K)) tm h=K e tm' h')::cs)
    | none=>ryLoop (fun tm h k fo cs=>ryC E C R n N lo x tm h k fo cs) N tm h k fo cs
  | .goto l,tm,h,k,fo,cs=>some (.goto l,tm,h,k,fo,cs)
  | .scope x,tm,h,k,fo,cs=>match ryC E C R n N lo x tm h k fo cs with
    | some (.goto l,tm,h,k,fo,cs)=>(match findLabel x l with
      | some rest=>ry0 E C R n rest tm h k fo cs
      | none=>none)
    | r=>r
  | .exit id,tm,h,k,fo,cs=>some (.exit id,tm,h,k,fo,cs)
  | .ret,tm,h,k,fo,cs=>some (.ret,tm,h,k,fo,cs)
  | .region _ ops false,tm,h,k,fo,cs=>bif dstOK n ops.toList then (match ryReg E C R ops.toList ops.toList.length ops.toList tm h k fo cs with
    | some (tm,h,k,fo,cs)=>some (.normal,tm,h,k,fo,cs)
    | none=>none) else none
  | .region _ ops true,tm,h,k,fo,cs=>bif drawOK n ops.toList then (match ryDrw E C R ops.toList h.next ops.toList 0 (cutF n tm) { next:=h.next+ops.toList.length,mem:=h.mem,df:=[] } k fo cs with
    | some (tm,h,k,fo,cs)=>some (.normal,tm,h,k,fo,cs)
    | none=>none) else (match ryAny E C R n ops.toList tm h k fo cs with
    | some (tm,h,k,fo,cs)=>some (.normal,tm,h,k,fo,cs)
    | none=>none)
  | _,_,_,_,_,_=>none
section
variable {E:Env} {C:Oracle} {R:RC} {n N:Nat} {lo:Lo}
theorem ryLoop_sound {x:Code} (ih:∀ {tm tm':Tm} {h h':AH} {k k':Nat} {fo fo':Fo} {cs cs':Ps} {e:Ex},ryC E C R n N lo x tm h k fo cs=some (e,tm',h',k',fo',cs')→GoodP' cs'→(∀ K,evF E C n N x K tm h=K e tm' h')∧GoodP' cs) :
    ∀ (m:Nat) {tm tm':Tm} {h h':AH} {k k':Nat} {fo fo':Fo} {cs cs':Ps} {e:Ex},ryLoop (fun tm h k fo cs=>ryC E C R n N lo x tm h k fo cs) m tm h k fo cs=some (e,tm',h',k',fo',cs')→GoodP' cs' →
      (∀ K,loopK m (fun G=>evF E C n N x (thenK G K)) tm h=K e tm' h')∧GoodP' cs:=by
  intro m
  induction m with
  | zero=>intro tm tm' h h' k k' fo fo' cs cs' e hl;cases hl
  | succ m ihm=>
    intro tm tm' h h' k k' fo fo' cs cs' e hl hg
    simp only [ryLoop] at hl
    split at hl
    · rename_i hx
      obtain ⟨h1,h2⟩:=ihm hl hg
      obtain ⟨h3,h4⟩:=ih hx h2
      refine ⟨fun K=>?_,h4⟩
      simp only [loopK]
      rw [h3]
      exact h1 K
    · rename_i hn
      obtain ⟨h3,h4⟩:=ih hl hg
      refine ⟨fun K=>?_,h4⟩
      simp only [loopK]
      rw [h3]
      cases e with
      | normal=>exact absurd hl (hn _ _ _ _ _)
      | exit id=>rfl
      | ret=>rfl
      | goto l=>rfl
theorem ry0_sound (hR:RS C R):∀ (c:Code) {tm tm':Tm} {h h':AH} {k k':Nat} {fo fo':Fo} {cs cs':Ps} {e:Ex},ry0 E C R n c tm h k fo cs=some (e,tm',h',k',fo',cs')→GoodP' cs'→(∀ K,evF0 E C n c K tm h=K e tm' h')∧GoodP' cs∧∀ l,e≠.goto l:=by
  intro c
  induction c with
  | skip=>intro tm tm' h h' k k' fo fo' cs cs' e hl hg;cases hl;exact ⟨fun _=>rfl,hg,fun _ h=>by cases h⟩
  | label l=>intro tm tm' h h' k k' fo fo' cs cs' e hl hg;cases hl;exact ⟨fun _=>rfl,hg,fun _ h=>by cases h⟩
  | exit id=>intro tm tm' h h' k k' fo fo' cs cs' e hl hg;cases hl;exact ⟨fun _=>rfl,hg,fun _ h=>by cases h⟩
  | ret=>intro tm tm' h h' k k' fo fo' cs cs' e hl hg;cases hl;exact ⟨fun _=>rfl,hg,fun _ h=>by cases h⟩
  | seq x y ihx ihy=>
    intro tm tm' h h' k k' fo fo' cs cs' e hl hg
    simp only [ry0] at hl
    split at hl
    · rename_i hx
      obtain ⟨h1,h2,h5⟩:=ihy hl hg
      obtain ⟨h3,h4,_⟩:=ihx hx h2
      exact ⟨fun K=>by simp only [evF0];rw [h3];exact h1 K,h4,h5⟩
    · rename_i hn
      obtain ⟨h3,h4,h5⟩:=ihx hl hg
      refine ⟨fun K=>?_,h4,h5⟩
      simp only [evF0]
      rw [h3]
      cases e with
      | normal=>exact absurd hl (hn _ _ _ _ _)
      | exit id=>rfl
      | ret=>rfl
      | goto l=>rfl
  | cond c x y ihx ihy=>
    intro tm tm' h h' k k' fo fo' cs cs' e hl hg
    simp only [ry0] at hl
    split at hl
    · rename_i hv
      obtain ⟨h1,h2,h3⟩:=ihx hl hg
      exact ⟨fun K=>by simp only [evF0,hv];exact h1 K,h2,h3⟩
    · rename_i hv
      obtain ⟨h1,h2,h3⟩:=ihy hl hg
      exact ⟨fun K=>by simp only [evF0,hv];exact h1 K,h2,h3⟩
    · cases hl
  | region id ops draw=>
    intro tm tm' h h' k k' fo fo' cs cs' e hl hg
    cases draw with
    | true=>cases hl
    | false=>
      simp only [ry0] at hl
      cases hn:dstOK n ops.toList with
      | false=>rw [hn] at hl;cases hl
      | true=>
        rw [hn,cond_true] at hl
        split at hl
        · rename_i hx
          cases hl
          obtain ⟨h1,h2⟩:=ryReg_sound hR _ _ hx hg
          exact ⟨fun K=>by simp only [evF0,hn,cond_true];exact h1 _,h2,fun _ h=>by cases h⟩
        · cases hl
  | _=>intro tm tm' h h' k k' fo fo' cs cs' e hl hg;cases hl
theorem ryC_sound (hR:RS C R):∀ (c:Code) {tm tm':Tm} {h h':AH} {k k':Nat} {fo fo':Fo} {cs cs':Ps} {e:Ex},ryC E C R n N lo c tm h k fo cs=some (e,tm',h',k',fo',cs')→GoodP' cs'→(∀ K,evF E C n N c K tm h=K e tm' h')∧GoodP' cs:=by
  intro c
  induction c with
  | skip=>intro tm tm' h h' k k' fo fo' cs cs' e hl hg;cases hl;exact ⟨fun _=>rfl,hg⟩
  | label l=>intro tm tm' h h' k k' fo fo' cs cs' e hl hg;cases hl;exact ⟨fun _=>rfl,hg⟩
  | exit id=>intro tm tm' h h' k k' fo fo' cs cs' e hl hg;cases hl;exact ⟨fun _=>rfl,hg⟩
  | ret=>intro tm tm' h h' k k' fo fo' cs cs' e hl hg;cases hl;exact ⟨fun _=>rfl,hg⟩
  | goto l=>intro tm tm' h h' k k' fo fo' cs cs' e hl hg;cases hl;exact ⟨fun _=>rfl,hg⟩
  | seq x y ihx ihy=>
    intro tm tm' h h' k k' fo fo' cs cs' e hl hg
    simp only [ryC] at hl
    split at hl
    · rename_i hx
      obtain ⟨h1,h2⟩:=ihy hl hg
      obtain ⟨h3,h4⟩:=ihx hx h2
      exact ⟨fun K=>by simp only [evF];rw [h3];exact h1 K,h4⟩
    · rename_i hn
      obtain ⟨h3,h4⟩:=ihx hl hg
      refine ⟨fun K=>?_,h4⟩
      simp only [evF]
      rw [h3]
      cases e with
      | normal=>exact absurd hl (hn _ _ _ _ _)
      | exit id=>rfl
      | ret=>rfl
      | goto l=>rfl
  | cond c x y ihx ihy=>
    intro tm tm' h h' k k' fo fo' cs cs' e hl hg
    simp only [ryC] at hl
    split at hl
    · rename_i hv
      obtain ⟨h1,h2⟩:=ihx hl hg
      exact ⟨fun K=>by simp only [evF,hv];exact h1 K,h2⟩
    · rename_i hv
      obtain ⟨h1,h2⟩:=ihy hl hg
      exact ⟨fun K=>by simp only [evF,hv];exact h1 K,h2⟩
    · cases hl
  | block id x ih=>
    intro tm tm' h h' k k' fo fo' cs cs' e hl hg
    simp only [ryC] at hl
    split at hl
    · rename_i id' tm₁ h₁ k₁ fo₁ cs₁ hx
      cases hb:Nat.beq id' id with
      | true=>
        rw [hb,cond_true] at hl;cases hl
        obtain ⟨h1,h2⟩:=ih hx hg
        exact ⟨fun K=>by simp only [evF];rw [h1];simp only [blockK,hb,cond_true],h2⟩
      | false=>
        rw [hb,cond_false] at hl;cases hl
        obtain ⟨h1,h2⟩:=ih hx hg
        exact ⟨fun K=>by simp only [evF];rw [h1];simp only [blockK,hb,cond_false],h2⟩
    · rename_i hn
      obtain ⟨h1,h2⟩:=ih hl hg
      refine ⟨fun K=>?_,h2⟩
      simp only [evF]
      rw [h1]
      cases e with
      | normal=>rfl
      | exit id'=>exact absurd hl (hn _ _ _ _ _ _)
      | ret=>rfl
      | goto l=>rfl
  | scope x ih=>
    intro tm tm' h h' k k' fo fo' cs cs' e hl hg
    simp only [ryC] at hl
    split at hl
    · rename_i l tm₁ h₁ k₁ fo₁ cs₁ hx
      split at hl
      · rename_i rest hf
        obtain ⟨h1,h2,h3⟩:=ry0_sound hR rest hl hg
        obtain ⟨h4,h5⟩:=ih hx h2
        refine ⟨fun K=>?_,h5⟩
        simp only [evF]
        rw [h4]
        simp only [scopeK,hf]
        rw [h1]
        cases e with
        | goto l'=>exact absurd rfl (h3 l')
        | _=>rfl
      · cases hl
    · rename_i hn
      obtain ⟨h1,h2⟩:=ih hl hg
      refine ⟨fun K=>?_,h2⟩
      simp only [evF]
      rw [h1]
      cases e with
      | normal=>rfl
      | exit id=>rfl
      | ret=>rfl
      | goto l=>exact absurd hl (hn _ _ _ _ _ _)
  | loop x ih=>
    intro tm tm' h h' k k' fo fo' cs cs' e hl hg
    simp only [ryC] at hl
    split at hl
    · cases hl
      exact ⟨fun K=>hg _ (List.mem_cons_self ..) K,fun p hp=>hg p (List.mem_cons_of_mem _ hp)⟩
    · exact ryLoop_sound ih N hl hg
  | region id ops draw=>
    intro tm tm' h h' k k' fo fo' cs cs' e hl hg
    cases draw with
    | true=>
      simp only [ryC] at hl
      cases hn:drawOK n ops.toList with
      | false=>
        rw [hn,cond_false] at hl
        split at hl
        · rename_i hx
          cases hl
          obtain ⟨h1,h2⟩:=ryAny_sound hR hx hg
          exact ⟨fun K=>by simp only [evF,hn,cond_false];exact h1 _,h2⟩
        · cases hl
      | true=>
        rw [hn,cond_true] at hl
        split at hl
        · rename_i hx
          cases hl
          obtain ⟨h1,h2⟩:=ryDrw_sound hR _ _ hx hg
          exact ⟨fun K=>by simp only [evF,hn,cond_true];exact h1 _,h2⟩
        · cases hl
    | false=>
      simp only [ryC] at hl
      cases hn:dstOK n ops.toList with
      | false=>rw [hn] at hl;cases hl
      | true=>
        rw [hn,cond_true] at hl
        split at hl
        · rename_i hx
          cases hl
          obtain ⟨h1,h2⟩:=ryReg_sound hR _ _ hx hg
          exact ⟨fun K=>by simp only [evF,hn,cond_true];exact h1 _,h2⟩
        · cases hl
  | _=>intro tm tm' h h' k k' fo fo' cs cs' e hl hg;cases hl
def ryG (E:Env) (C:Oracle) (R:RC) (N:Nat) (lo:Lo) (g:FuncId) (args:List Value) (h:AH) (k:Nat) (fo:Fo) (cs:Ps):RV:=
  match E.fn g with
  | some fi=>match ryC E C R (args.length+(fi.ntmps - args.length)) N lo fi.body (fun i=>gt (args++List.replicate (fi.ntmps - args.length) undV) i) h k fo cs with
    | some (.exit _,_,_,_,_,_)=>none
    | some (.goto _,_,_,_,_,_)=>none
    | some (_,tm,h',k',fo',cs')=>match resF E tm h' fi.results.toList with
      | some l=>some (tup l,h',k',fo',cs')
      | none=>none
    | none=>none
  | none=>none
theorem ryG_sound (hR:RS C R) {g:FuncId} {args:List Value} {h h':AH} {v:Value} {k k':Nat} {fo fo':Fo} {cs cs':Ps} (hl:ryG E C R N lo g args h k fo cs=some (v,h',k',fo',cs')) (hg:GoodP' cs'):denG E C N g args h=some (v,h')∧GoodP' cs:=by
  unfold ryG at hl
  unfold denG
  split at hl
  · rename_i fi hf
    rw [hf]
    simp only
    split at hl
    · cases hl
    · cases hl
    · rename_i e tm h₁ k₁ fo₁ cs₁ hne hne2 hx
      split at hl
      · rename_i l hr
        cases hl
        obtain ⟨h1,h2⟩:=ryC_sound hR _ hx hg
        refine ⟨?_,h2⟩
        rw [h1]
        cases e with
        | exit id=>exact (hne _ rfl).elim
        | normal=>simp only [endK,hr]
        | ret=>simp only [endK,hr]
        | goto l=>exact (hne2 _ rfl).elim
      · cases hl
    · cases hl
  · cases hl
end
def ryR (E:Env) (Cs:Nat→Oracle) (tb:PT Fun) (N:Nat):Nat→RC
  | 0=>fun _ _ _ _ _ _=>none
  | d+1=>fun fv args h k fo cs=>match fv with
    | .func (.func g) ⟨first⟩ ⟨cap⟩=>match tb.get g with
      | some f=>match f (first++args++cap) h with
        | some (v,h')=>some (v,h'.wdf h.df,k,fo,cs)
        | none=>none
      | none=>match ryG E (Cs d) (ryR E Cs tb N d) N [] g (first++args++cap) h k fo cs with
        | some (v,h',k',fo',cs')=>some (v,h'.wdf h.df,k',fo',cs')
        | none=>none
    | _=>none
theorem orcS_succ {E:Env} {tb:PT Fun} {N d:Nat} {g:FuncId} {first args cap:List Value} {h:AH}:orcS E tb N (d+1) (.func (.func g) ⟨first⟩ ⟨cap⟩) args h=match tb.get g with
      | some f=>match f (first++args++cap) h with
        | some (v,h')=>some (v,h'.wdf h.df)
        | none=>none
      | none=>match denG E (orcS E tb N d) N g (first++args++cap) h with
        | some (v,h')=>some (v,h'.wdf h.df)
        | none=>none:=rfl
theorem ryR_sound (E:Env) (tb:PT Fun) (N:Nat):∀ d,RS (orcS E tb N d) (ryR E (orcS E tb N) tb N d)
  | 0=>fun _ _ _ _ _ _ _ _ _ _ _ hl=>by cases hl
  | d+1=>by
    intro fv args h k fo cs v h' k' fo' cs' hl hg
    unfold ryR at hl
    split at hl
    · split at hl
      · rename_i f hf
        rw [orcS_succ,hf]
        split at hl
        · rename_i hx
          cases hl
          simp only [hx];exact ⟨trivial,hg⟩
        · cases hl
      · rename_i hf
        rw [orcS_succ,hf]
        split at hl
        · rename_i hx
          cases hl
          obtain ⟨h1,h2⟩:=ryG_sound (ryR_sound E tb N d) hx hg
          simp only [h1];exact ⟨trivial,h2⟩
        · cases hl
    · cases hl
def rySD (E:Env) (Cs:Nat→Oracle) (tb:PT Fun) (N d:Nat) (fo:Fo) (g:FuncId) (args:List Value) (h:AH):Option (Value × AH × Ps):=
  match ryG E (Cs d) (ryR E Cs tb N d) N [] g args h 0 fo [] with
  | some (v,h',_,_,cs)=>some (v,h',cs)
  | none=>none
theorem rySD_sound {E:Env} {tb:PT Fun} {N d:Nat} {fo:Fo} {g:FuncId} {args:List Value} {h h':AH} {v:Value} {cs:Ps} (hl:rySD E (orcS E tb N) tb N d fo g args h=some (v,h',cs)) (hg:GoodP' cs):denG E (orcS E tb N d) N g args h=some (v,h'):=by
  unfold rySD at hl
  split at hl
  · rename_i hx
    cases hl
    exact (ryG_sound (ryR_sound E tb N d) hx hg).1
  · cases hl
theorem orcS_of {E:Env} {tb:PT Fun} {N d:Nat} {g:FuncId} {args:List Value} {h h':AH} {v:Value} (ht:tb.get g=none) (hl:denG E (orcS E tb N d) N g args h=some (v,h')) :
    orcS E tb N (d+1) (.func (.func g) ⟨[]⟩ ⟨[]⟩) args h=some (v,h'.wdf h.df):=by
  show (match tb.get g with
      | some f=>match f ([]++args++[]) h with
        | some (v,h')=>some (v,h'.wdf h.df)
        | none=>none
      | none=>match denG E (orcS E tb N d) N g ([]++args++[]) h with
        | some (v,h')=>some (v,h'.wdf h.df)
        | none=>none)=_
  rw [ht]
  simp only [List.nil_append,List.append_nil,hl]
theorem orcS_tb {E:Env} {tb:PT Fun} {N d:Nat} {g:FuncId} {f:Fun} {args:List Value} {h h':AH} {v:Value} (ht:tb.get g=some f) (hf':f args h=some (v,h')) :
    orcS E tb N d (.func (.func g) ⟨[]⟩ ⟨[]⟩) args h=some (v,h'.wdf h.df):=by
  cases d with
  | zero=>exact tabS_at' ht hf'
  | succ d=>
    show (match tb.get g with
      | some f=>match f ([]++args++[]) h with
        | some (v,h')=>some (v,h'.wdf h.df)
        | none=>none
      | none=>match denG E (orcS E tb N d) N g ([]++args++[]) h with
        | some (v,h')=>some (v,h'.wdf h.df)
        | none=>none)=_
    rw [ht]
    simp only [List.nil_append,List.append_nil,hf']
end
end Go.Den
namespace Go.Den
noncomputable section
def Ren (hn:Nat) (ids:List Nat) (b d:Nat):Prop:=(b < hn∧d=b)∨∃ i,ids[i]?=some b∧hn≤b∧d=hn+i
def RenOK (hn:Nat) (ids:List Nat) (φ₁ φ₂:Phi):Prop:=∀ b d x,Ren hn ids b d→φ₁ b=some x→φ₂ d=some x
def VTo (hn:Nat) (ids:List Nat) (v₁ v₂:Value):Prop:=∀ φ₁ φ₂,RenOK hn ids φ₁ φ₂→∀ v',VR φ₁ v₁ v'→VR φ₂ v₂ v'
def VsTo (hn:Nat) (ids:List Nat) (l₁ l₂:List Value):Prop:=∀ φ₁ φ₂,RenOK hn ids φ₁ φ₂→∀ l',VRs φ₁ l₁ l'→VRs φ₂ l₂ l'
def OTo (hn:Nat) (ids:List Nat) (o₁ o₂:AObj):Prop:=(∀ φ₁ φ₂,RenOK hn ids φ₁ φ₂→∀ s T co,OR φ₁ s T (some o₁) co→OR φ₂ s T (some o₂) co)∧(wrB (some o₂)=true→wrB (some o₁)=true)∧∀ g c,o₂=.glob g c→∃ c',o₁=.glob g c'
section
variable {hn:Nat} {ids:List Nat}
theorem VTo.bool (b:Bool):VTo hn ids (.bool b) (.bool b):=fun _ _ _ _ h=>by cases h;exact .bool _
theorem VTo.int (k:IntKind) (n:Int):VTo hn ids (.int k n) (.int k n):=fun _ _ _ _ h=>by cases h;exact .int _ _
theorem VTo.string (s:ByteArray):VTo hn ids (.string s) (.string s):=fun _ _ _ _ h=>by cases h;exact .string _
theorem VTo.ptrNil:VTo hn ids (.pointer none) (.pointer none):=fun _ _ _ _ h=>by cases h;exact .ptrNil
theorem VTo.sliceNil:VTo hn ids (.slice none 0 0) (.slice none 0 0):=fun _ _ _ _ h=>by cases h;exact .sliceNil
theorem VTo.nilIface:VTo hn ids .nilIface .nilIface:=fun _ _ _ _ h=>by cases h;exact .nilIface
theorem VTo.nilFunc:VTo hn ids .nilFunc .nilFunc:=fun _ _ _ _ h=>by cases h;exact .nilFunc
theorem VTo.mapNil:VTo hn ids (.map none) (.map none):=fun _ _ _ _ h=>by cases h;exact .mapNil
theorem VTo.junk (v:Value):VTo hn ids v (.tuple #[]):=fun _ _ _ _ _=>.junk _
theorem VTo.ptr {b d:Nat} (o:Nat) (r:Ren hn ids b d):VTo hn ids (.pointer (some ⟨b,o,none⟩)) (.pointer (some ⟨d,o,none⟩)):=fun _ _ hf _ h=>by
  cases h with | ptr _ _ b' s T hb=>exact .ptr _ _ b' s T (hf _ _ _ r hb)
theorem VTo.map {b d:Nat} (r:Ren hn ids b d):VTo hn ids (.map (some b)) (.map (some d)):=fun _ _ hf _ h=>by
  cases h with | map _ r' T hb=>exact .map _ r' T (hf _ _ _ r hb)
theorem VTo.slice {b d:Nat} (o n c:Nat) (r:Ren hn ids b d):VTo hn ids (.slice (some ⟨b,o,none⟩) n c) (.slice (some ⟨d,o,none⟩) n c):=fun _ _ hf _ h=>by
  cases h with
  | slice _ _ b' s T _ _ c' hb hn hc=>exact .slice _ _ b' s T _ _ c' (hf _ _ _ r hb) hn hc
  | empty x y c z hx hc=>exact .empty ⟨d,o,none⟩ y _ z (hf _ _ _ r hx) hc
theorem VsTo.nil:VsTo hn ids [] []:=fun _ _ _ _ h=>by cases h;exact .nil
theorem VsTo.cons {v₁ v₂:Value} {l₁ l₂:List Value} (h:VTo hn ids v₁ v₂) (hl:VsTo hn ids l₁ l₂):VsTo hn ids (v₁::l₁) (v₂::l₂):=fun _ _ hf _ h'=>by
  cases h' with | cons _ _ _ _ a b=>exact .cons _ _ _ _ (h _ _ hf _ a) (hl _ _ hf _ b)
theorem VTo.agg {l₁ l₂:List Value} (h:VsTo hn ids l₁ l₂):VTo hn ids (.agg ⟨l₁⟩) (.agg ⟨l₂⟩):=fun _ _ hf _ h'=>by
  cases h' with | agg _ l' hl=>exact .agg _ _ (h _ _ hf _ hl)
theorem VTo.tuple {v₁ v₂:Value} {l₁ l₂:List Value} (h:VsTo hn ids (v₁::l₁) (v₂::l₂)):VTo hn ids (.tuple ⟨v₁::l₁⟩) (.tuple ⟨v₂::l₂⟩):=fun _ _ hf _ h'=>by
  cases h' with | tuple _ l' hl=>exact .tuple _ _ (h _ _ hf _ hl)
theorem OTo.cells {c₁ c₂:PT Value} {n t:Nat} (h:∀ i v,c₂.get i=some v→oneC v=true∧∃ u,c₁.get i=some u∧VTo hn ids u v):OTo hn ids (.cells c₁ n t) (.cells c₂ n t):=by
  refine ⟨fun φ₁ φ₂ hf s T co ho=>?_,fun _=>rfl,fun g c e=>by cases e⟩
  obtain ⟨⟨a,e,lo,hi,h1,h2,h3,h4⟩,ht⟩:=ho
  refine ⟨⟨a,e,lo,hi,h1,h2,h3,fun i v hv=>?_⟩,ht⟩
  obtain ⟨k1,u,k2,k3⟩:=h i v hv
  obtain ⟨g1,_,v',g3,g4⟩:=h4 i u k2
  exact ⟨g1,k1,v',g3,k3 _ _ hf _ g4⟩
mutual
theorem VR.old {φ φ₁ φ₂:Phi} (hf:∀ b x,φ b≠none→φ₁ b=some x→φ₂ b=some x):∀ {v v' u:Value},VR φ₁ v v'→VR φ v u→VR φ₂ v v'
  | _,_,_,.junk v,_=>.junk v
  | _,_,_,.und,_=>.und
  | _,_,_,.bool b,_=>.bool b
  | _,_,_,.int k n,_=>.int k n
  | _,_,_,.string s,_=>.string s
  | _,_,_,.ptrNil,_=>.ptrNil
  | _,_,_,.ptr b o b' s T h,k=>.ptr b o b' s T (hf _ _ (by cases k with | ptr _ _ _ _ _ g=>rw [g];simp) h)
  | _,_,_,.sliceNil,_=>.sliceNil
  | _,_,_,.slice b o b' s T n c c' h hn hc,k=>.slice b o b' s T n c c' (hf _ _ (by cases k with | slice _ _ _ _ _ _ _ _ g=>rw [g];simp | empty _ _ _ _ g _=>rw [g];simp) h) hn hc
  | _,_,_,.empty x y c z hx hc,k=>.empty x y c z (hf _ _ (by cases k with | slice _ _ _ _ _ _ _ _ g=>rw [g];simp | empty _ _ _ _ g _=>rw [g];simp) hx) hc
  | _,_,_,.mapNil,_=>.mapNil
  | _,_,_,.map r r' T h,k=>.map r r' T (hf _ _ (by cases k with | map _ _ _ g=>rw [g];simp) h)
  | _,_,_,.nilFunc,_=>.nilFunc
  | _,_,_,.func fn hy a a' c c' ha hc,k=>.func fn hy a a' c c' (by cases k with | func _ _ _ _ _ _ g _=>exact VRs.old hf ha g | yield _ _ _ g=>exact absurd rfl (hy _)) (by cases k with | func _ _ _ _ _ _ _ g=>exact VRs.old hf hc g | yield _ _ _ g=>exact absurd rfl (hy _))
  | _,_,_,.yield l l' T h,k=>.yield l l' T (hf _ _ (by cases k with | func _ hy=>exact absurd rfl (hy _) | yield _ _ _ g=>rw [g];simp) h)
  | _,_,_,.nilIface,_=>.nilIface
  | _,_,_,.iface t v v' h,k=>.iface t v v' (by cases k with | iface _ _ _ g=>exact VR.old hf h g)
  | _,_,_,.agg l l' h,k=>.agg l l' (by cases k with | agg _ _ g=>exact VRs.old hf h g)
  | _,_,_,.tuple l l' h,k=>.tuple l l' (by
      cases k with
      | junk=>cases h;exact .nil
      | tuple _ _ g=>exact VRs.old hf h g)
  | _,_,_,.any r v h,_=>.any r v h
theorem VRs.old {φ φ₁ φ₂:Phi} (hf:∀ b x,φ b≠none→φ₁ b=some x→φ₂ b=some x):∀ {l l' m:List Value},VRs φ₁ l l'→VRs φ l m→VRs φ₂ l l'
  | _,_,_,.nil,_=>.nil
  | _,_,_,.cons v v' l l' h hl,k=>.cons v v' l l' (by cases k with | cons _ _ _ _ g _=>exact VR.old hf h g) (by cases k with | cons _ _ _ _ _ g=>exact VRs.old hf hl g)
end
theorem EsR.old {φ φ₁ φ₂:Phi} (hf:∀ b x,φ b≠none→φ₁ b=some x→φ₂ b=some x):∀ {es:List (Value × Value)} {es' es'':List MapEntry},EsR φ es es''→EsR φ₁ es es'→EsR φ₂ es es'
  | [],[],_,_,_=>trivial
  | [],_::_,_,_,h=>h.elim
  | _::_,[],_,_,h=>h.elim
  | _::_,_::_,[],h,_=>h.elim
  | _::_,_::_,_::_,k,h=>⟨VR.old hf h.1 k.1,VR.old hf h.2.1 k.2.1,EsR.old hf k.2.2 h.2.2⟩
theorem OR.old {φ φ₁ φ₂:Phi} (hf:∀ b x,φ b≠none→φ₁ b=some x→φ₂ b=some x) {s T s' T':Nat} {o:AObj} {co co':Option Obj} (k:OR φ s' T' (some o) co') (h:OR φ₁ s T (some o) co):OR φ₂ s T (some o) co:=by
  cases o with
  | cells c n t=>
    obtain ⟨⟨a,e,lo,hi,h1,h2,h3,h4⟩,ht⟩:=h
    obtain ⟨⟨a',e',lo',hi',k1,k2,k3,k4⟩,kt⟩:=k
    refine ⟨⟨a,e,lo,hi,h1,h2,h3,fun i v hv=>?_⟩,ht⟩
    obtain ⟨g1,g2,v',g3,g4⟩:=h4 i v hv
    obtain ⟨_,_,u,_,m4⟩:=k4 i v hv
    exact ⟨g1,g2,v',g3,VR.old hf g4 m4⟩
  | ro c=>
    obtain ⟨a,e,lo,hi,h1,h4⟩:=h
    obtain ⟨a',e',lo',hi',k1,k4⟩:=k
    refine ⟨a,e,lo,hi,h1,fun i v hv=>?_⟩
    obtain ⟨g1,g2,v',g3,g4⟩:=h4 i v hv
    obtain ⟨_,_,u,_,m4⟩:=k4 i v hv
    exact ⟨g1,g2,v',g3,VR.old hf g4 m4⟩
  | glob g c=>
    obtain ⟨a,e,lo,hi,h1,h4⟩:=h
    obtain ⟨a',e',lo',hi',k1,k4⟩:=k
    refine ⟨a,e,lo,hi,h1,fun i v hv=>?_⟩
    obtain ⟨g1,g2,v',g3,g4⟩:=h4 i v hv
    obtain ⟨_,_,u,_,m4⟩:=k4 i v hv
    exact ⟨g1,g2,v',g3,VR.old hf g4 m4⟩
  | map es bs cl=>
    rcases co with _ | co
    · exact h.elim
    rcases co' with _ | co'
    · exact k.elim
    cases co <;> first | exact h.elim | skip
    cases co' <;> first | exact k.elim | skip
    exact ⟨h.1,EsR.old hf k.2.1 h.2.1,h.2.2⟩
  | iter m since seen cur cl=>
    rcases co with _ | co
    · exact h.elim
    rcases co' with _ | co'
    · exact k.elim
    cases co <;> first | exact h.elim | skip
    cases co' <;> first | exact k.elim | skip
    rename_i m1 s1 n1 c1 m2 s2 n2 c2
    rcases m1 with _ | m1
    · exact h.elim
    rcases m2 with _ | m2
    · exact k.elim
    obtain ⟨h1,⟨T1,h2⟩,h3⟩:=h
    obtain ⟨k1,⟨T2,k2⟩,k3⟩:=k
    exact ⟨h1,⟨T1,hf _ _ (by rw [k2];simp) h2⟩,h3⟩
  | loop fn tms ps as bd st pd=>
    rcases co with _ | co
    · exact h.elim
    rcases co' with _ | co'
    · exact k.elim
    cases co <;> first | exact h.elim | skip
    cases co' <;> first | exact k.elim | skip
    obtain ⟨h1,h2,h3,h4⟩:=h
    obtain ⟨k1,k2,k3,k4⟩:=k
    exact ⟨h1,h2,VRs.old hf h3 k3,h4⟩
variable {P:Program} {E:Env} {C:Oracle} {φ:Phi} {h h₁ h₂:AH} {w:World} {v v₂:Value}
theorem Aft.ren {v':Value} {w':World} (r0:Rel φ h w) (ha:Aft φ h w v h₁ v' w') (hn:h.next+ids.length≤h₂.next) (hd:ids.Nodup) (hv:VTo h.next ids v v₂)
    (hb:∀ d o₂,h₂.get d=some o₂→(d < h.next∧h₁.get d=some o₂∧h.get d=some o₂)∨∃ b o₁,Ren h.next ids b d∧h₁.get b=some o₁∧OTo h.next ids o₁ o₂)
    (hl:∀ d,h₂.next≤d→h₂.get d=none) (hu:∀ d,d < h.next→h₂.get d=h.get d∨h₁.get d≠h.get d∨φ d≠none):Aft φ h w v₂ h₂ v' w':=by
  obtain ⟨φ₁,hv1,r,F⟩:=ha
  let φ₂:Phi:=fun d=>if d < h.next then φ₁ d else match ids[d - h.next]? with | some b=>if h.next≤b then φ₁ b else none | none=>none
  have lo:∀ d,d < h.next→φ₂ d=φ₁ d:=fun d hd=>by show (if d < h.next then _ else _)=_;rw [if_pos hd]
  have hf:RenOK h.next ids φ₁ φ₂:=by
    intro b d x hr hx
    rcases hr with ⟨h1,rfl⟩ | ⟨i,h1,h2,rfl⟩
    · rw [lo _ h1];exact hx
    · show (if h.next+i < h.next then _ else _)=_
      rw [if_neg (by omega),show h.next+i - h.next=i by omega,h1]
      show (if h.next≤b then φ₁ b else none)=_
      rw [if_pos h2];exact hx
  have up:∀ d x,h.next≤d→φ₂ d=some x→∃ b,ids[d - h.next]?=some b∧h.next≤b∧φ₁ b=some x∧Ren h.next ids b d:=by
    intro d x hd hx
    have hx':(if d < h.next then φ₁ d else match ids[d - h.next]? with | some b=>if h.next≤b then φ₁ b else none | none=>none)=some x:=hx
    rw [if_neg (by omega)] at hx'
    cases e:ids[d - h.next]? with
    | none=>rw [e] at hx';cases hx'
    | some b=>
      rw [e] at hx'
      have hx2:(if h.next≤b then φ₁ b else none)=some x:=hx'
      by_cases hb:h.next≤b
      · rw [if_pos hb] at hx2;exact ⟨b,rfl,hb,hx2,.inr ⟨d - h.next,e,hb,by omega⟩⟩
      · rw [if_neg hb] at hx2;cases hx2
  have src:∀ d x,φ₂ d=some x→∃ b,φ₁ b=some x∧Ren h.next ids b d:=by
    intro d x hx
    rcases Nat.lt_or_ge d h.next with hd | hd
    · rw [lo d hd] at hx;exact ⟨d,hx,.inl ⟨hd,rfl⟩⟩
    · obtain ⟨b,_,_,h3,h4⟩:=up d x hd hx;exact ⟨b,h3,h4⟩
  have uni:∀ b b' d,Ren h.next ids b d→Ren h.next ids b' d→b=b':=by
    intro b b' d h1 h2
    rcases h1 with ⟨h1,rfl⟩ | ⟨i,h1,h1',rfl⟩ <;> rcases h2 with ⟨h2,e⟩ | ⟨j,h2,h2',e⟩
    · exact e
    · omega
    · omega
    · have:i=j:=by omega
      subst this;rw [h1] at h2;cases h2;rfl
  have uni2:∀ b d d',Ren h.next ids b d→Ren h.next ids b d'→d=d':=by
    intro b d d' h1 h2
    rcases h1 with ⟨h1,rfl⟩ | ⟨i,h1,h1',rfl⟩ <;> rcases h2 with ⟨h2,e⟩ | ⟨j,h2,h2',e⟩
    · exact e.symm
    · omega
    · omega
    · have hi:i < ids.length:=(List.getElem?_eq_some_iff.1 h1).1
      have:i=j:=by
        have hh:=h1.trans h2.symm
        exact (List.getElem?_inj hi hd).1 hh
      omega
  have hold:∀ b x,φ b≠none→φ₁ b=some x→φ₂ b=some x:=by
    intro b x hb hx
    cases e:φ b with
    | none=>exact absurd e hb
    | some y=>rw [lo b (r0.bnd b y.1 y.2 e).1];exact hx
  have hb':∀ d o₂,h₂.get d=some o₂→∃ b o₁,Ren h.next ids b d∧h₁.get b=some o₁∧(wrB (some o₂)=true→wrB (some o₁)=true)∧(∀ g c,o₂=.glob g c→∃ c',o₁=.glob g c')∧∀ s T co,φ₁ b≠none→OR φ₁ s T (some o₁) co→OR φ₂ s T (some o₂) co:=by
    intro d o₂ hd
    rcases hb d o₂ hd with ⟨k1,k2,k3⟩ | ⟨b,o₁,k1,k2,k3⟩
    · refine ⟨d,o₂,.inl ⟨k1,rfl⟩,k2,id,fun _ c e=>⟨c,e⟩,fun s T co hn' ho=>?_⟩
      cases e:φ d with
      | none=>exact absurd (F.unm d k1 e).1 hn'
      | some x=>
        obtain ⟨b',s',T'⟩:=x
        have:=r0.blk _ _ _ _ e
        rw [k3] at this
        exact OR.old hold this ho
    · exact ⟨b,o₁,k1,k2,k3.2.1,k3.2.2,fun s T co _ ho=>k3.1 _ _ hf _ _ _ ho⟩
  refine ⟨φ₂,hv _ _ hf _ hv1,⟨fun d b' s T hφ=>?_,fun d₁ d₂ b' s₁ s₂ g1 g2 l1 l2=>?_,fun d b' s hφ=>?_,hl,fun d g c hg=>?_⟩,⟨?_,fun b x hx=>?_,fun b hb hn'=>⟨?_,?_⟩,fun d b' s hφ hn'=>?_,fun d hd' hlv=>?_,fun d hd' hlv=>?_,F.sz,F.os,F.out,F.keep⟩⟩
  · cases e:h₂.get d with
    | none=>trivial
    | some o₂=>
      obtain ⟨b,o₁,k1,k2,_,_,k3⟩:=hb' d o₂ e
      obtain ⟨b1,k4,k5⟩:=src d _ hφ
      have:=uni _ _ _ k1 k5
      subst this
      have:=r.blk _ _ _ _ k4
      rw [k2] at this
      exact k3 _ _ _ (by rw [k4];simp) this
  · cases e1:h₂.get d₁ with
    | none=>exact absurd e1 l1
    | some o1=>cases e2:h₂.get d₂ with
      | none=>exact absurd e2 l2
      | some o2=>
        obtain ⟨b1,o1',k1,k2,_⟩:=hb' d₁ o1 e1
        obtain ⟨b2,o2',m1,m2,_⟩:=hb' d₂ o2 e2
        obtain ⟨c1,k4,k5⟩:=src d₁ _ g1
        obtain ⟨c2,m4,m5⟩:=src d₂ _ g2
        have:=uni _ _ _ k1 k5;subst this
        have:=uni _ _ _ m1 m5;subst this
        have:=r.inj _ _ _ _ _ k4 m4 (by rw [k2];simp) (by rw [m2];simp)
        subst this
        exact uni2 _ _ _ k1 m1
  · obtain ⟨b,k1,k2⟩:=src d _ hφ
    refine ⟨?_,(r.bnd _ _ _ k1).2⟩
    rcases k2 with ⟨k2,rfl⟩ | ⟨i,k2,_,rfl⟩
    · omega
    · have:=(List.getElem?_eq_some_iff.1 k2).1;omega
  · obtain ⟨b,o₁,k1,k2,_,k3,_⟩:=hb' d _ hg
    obtain ⟨c',rfl⟩:=k3 g c rfl
    obtain ⟨T,hT⟩:=r.gl _ _ _ k2
    exact ⟨T,hf _ _ _ k1 hT⟩
  · omega
  · rw [lo b (r0.bnd b x.1 x.2 hx).1];exact F.ext _ _ hx
  · rw [lo b hb];exact (F.unm b hb hn').1
  · rcases hu b hb with e | e | e
    · exact e
    · exact absurd (F.unm b hb hn').2 e
    · exact absurd hn' e
  · rcases Nat.lt_or_ge d h.next with hd' | hd'
    · rw [lo d hd'] at hφ;exact F.fresh _ _ _ hφ hn'
    · obtain ⟨b,_,k2,k3,_⟩:=up d _ hd' hφ
      refine F.fresh _ _ _ k3 ?_
      cases e:φ b with
      | none=>rfl
      | some x=>have:=(r0.bnd b x.1 x.2 e).1;omega
  · cases e:h₂.get d with
    | none=>exact absurd e hlv
    | some o=>
      obtain ⟨b,o₁,k1,k2,_⟩:=hb' d o e
      rcases k1 with ⟨_,rfl⟩ | ⟨i,_,_,rfl⟩
      · exact F.liv _ hd' (by rw [k2];simp)
      · omega
  · cases e:h₂.get d with
    | none=>rw [e] at hlv;cases hlv
    | some o=>
      obtain ⟨b,o₁,k1,k2,k3,_⟩:=hb' d o e
      rw [e] at hlv
      rcases k1 with ⟨_,rfl⟩ | ⟨i,_,_,rfl⟩
      · exact F.lw _ hd' (by rw [k2];exact k3 hlv)
      · omega
theorem OTo.same {o:AObj} (h:∀ φ₁ φ₂:Phi,RenOK hn ids φ₁ φ₂→∀ s T co,OR φ₁ s T (some o) co→OR φ₂ s T (some o) co):OTo hn ids o o:=⟨h,id,fun _ c e=>⟨c,e⟩⟩
theorem told_ren (ok:EnvOK P E) (hC:Sound P C) {g:FuncId} {f:List Value→AH→Res}
    (H:∀ args h v₂ h₂,f args h=some (v₂,h₂)→(∀ b,h.next≤b→h.get b=none)→∃ N v h₁,denG E C N g args h=some (v,h₁) ∧
      ∃ ids,h.next+ids.length≤h₂.next∧ids.Nodup∧VTo h.next ids v v₂∧(∀ d o₂,h₂.get d=some o₂→(d < h.next∧h₁.get d=some o₂∧h.get d=some o₂)∨∃ b o₁,Ren h.next ids b d∧h₁.get b=some o₁∧OTo h.next ids o₁ o₂) ∧
        (∀ d,h₂.next≤d→h₂.get d=none)∧∀ φ w args',VRs φ args args'→Rel φ h w→∀ d,d < h.next→h₂.get d=h.get d∨h₁.get d≠h.get d∨φ d≠none):Told P g f:=by
  intro args h v₂ h₂ hl φ w args' ha r
  obtain ⟨N,v,h₁,h1,ids,h2,h3,h4,h5,h6,h7⟩:=H args h v₂ h₂ hl r.lim
  exact pure_goes.Goes.mono' ((denG_goes ok hC h1).2 φ w args' ha r) fun v' w' hA=>hA.ren r h2 h3 h4 h5 h6 (h7 φ w args' ha r)
end
end
end Go.Den
namespace Go.Den
noncomputable section
theorem vEqA_f {a b:Value} (h:a≠b):vEqA a b=false:=by
  cases e:vEqA a b with
  | false=>rfl
  | true=>exact absurd (vEqA_eq e) h
theorem esFind_put_self {k v:Value} (hk:atomA k=true):∀ es:List (Value × Value),esFind k (esPut k v es)=some v
  | []=>by simp only [esPut,esFind,vEqA_self hk,cond_true]
  | (k',v')::es=>by
    simp only [esPut]
    cases e:vEqA k k' with
    | true=>simp only [cond_true,esFind,e]
    | false=>simp only [cond_false,esFind,e,esFind_put_self hk es]
theorem esFind_put_ne {k k' v:Value} (hn:k'≠k):∀ es:List (Value × Value),esFind k' (esPut k v es)=esFind k' es
  | []=>by simp only [esPut,esFind,vEqA_f hn,cond_false]
  | (k₁,v₁)::es=>by
    simp only [esPut]
    cases e:vEqA k k₁ with
    | true=>
      have:=vEqA_eq e
      subst this
      simp only [cond_true,esFind,vEqA_f hn,cond_false]
    | false=>simp only [cond_false,esFind,esFind_put_ne hn es]
theorem esKeys_put {f:Value→Bool} {k v:Value} (hf:f k=true) (hk:atomA k=true):∀ {es:List (Value × Value)},esKeys f es=true→esKeys f (esPut k v es)=true
  | [],_=>by simp only [esPut,esKeys,esFind,hf,hk,Bool.and_self]
  | (k',v')::es,h=>by
    simp only [esKeys,Bool.and_eq_true] at h
    obtain ⟨⟨⟨h1,h2⟩,h3⟩,h4⟩:=h
    simp only [esPut]
    cases e:vEqA k k' with
    | true=>simp only [cond_true,esKeys,h1,h2,h4,Bool.and_true,Bool.true_and];exact h3
    | false=>
      have hn:k'≠k:=by rintro rfl;rw [vEqA_self h2] at e;cases e
      simp only [cond_false,esKeys,h1,h2,esKeys_put hf hk h4,esFind_put_ne hn,Bool.and_true,Bool.true_and];exact h3
theorem cell_of {h:AH} {b o n t:Nat} {c:PT Value} {v:Value} (hb:h.get b=some (.cells c n t)) (ho:c.get o=some v):h.cell b o=some v:=by
  have hb':h.mem.get b=some (.cells c n t):=hb
  unfold AH.cell
  rw [hb'];exact ho
theorem get_mk (n:Nat) (m:PT AObj) (d:List Deferred) (b:Nat):AH.get ⟨n,m,d⟩ b=m.get b:=rfl
theorem mem_get (h:AH) (b:Nat):PT.get (AH.mem h) b=h.get b:=rfl
theorem get_newN {h:AH} {o:AObj} {b:Nat} (hb:b≠h.next):(h.new o).get b=h.get b:=by rw [AH.get_new,if_neg hb]
theorem get_newS {h:AH} {o:AObj}:(h.new o).get h.next=some o:=by rw [AH.get_new,if_pos rfl]
theorem get_putN {h:AH} {o:Option AObj} {b b':Nat} (hb:b≠b'):(h.put b' o).get b=h.get b:=by rw [AH.get_put,if_neg hb]
theorem get_putS {h:AH} {o:Option AObj} {b:Nat}:(h.put b o).get b=o:=by rw [AH.get_put,if_pos rfl]
def Fr (m:Nat) (h h':AH):Prop:=h.next≤h'.next∧∀ b,b < h.next→b≠m→h'.get b=h.get b
theorem Fr.refl (m:Nat) (h:AH):Fr m h h:=⟨Nat.le_refl _,fun _ _ _=>rfl⟩
theorem Fr.trans {m:Nat} {a b c:AH} (x:Fr m a b) (y:Fr m b c):Fr m a c:=
  ⟨Nat.le_trans x.1 y.1,fun i hi hm=>by rw [y.2 i (Nat.lt_of_lt_of_le hi x.1) hm,x.2 i hi hm]⟩
theorem Bys.fr {m:Nat} {h h':AH} (x:Fr m h h') {b o:Nat} {xs:List Nat} (hb:Bys h b o xs) (hl:b < h.next) (hm:b≠m):Bys h' b o xs:=fun i y hy=>by
  refine ⟨(hb i y hy).1,?_⟩
  have:=x.2 b hl hm
  have h1:=(hb i y hy).2
  unfold AH.cell at h1 ⊢
  have e:PT.get h'.mem b=PT.get h.mem b:=this
  rw [e];exact h1
end
end Go.Den
