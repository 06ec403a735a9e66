/- The interpreter is sound; its tables are read off a program; a call's end is one good run. Conditions: none. -/
import Derived.Test.YtejgabehfdapjaaGreatDenD
import Derived.Conc.LeavingOf
import Derived.Conc.LoneCalls
namespace Go.Den
noncomputable section
section
variable {E:Env} {C:Oracle} {rd:Bool} {all:List Oper} {base:Nat} {tm0:List Value} {tr:Tr}
variable {P:Program} {s₀:Nat} {φ₀ φ φ':Phi} {h₀ h h':AH} {w₀ w w':World} {S:Array Bool} {m:Nat} {a:Act} {b:Frame} {k:List Item} {cs:List Frame} {ops:Array Oper} {ds₀:List Deferred}
def msk (l:List Tmp) (tm:List Value):List Value:=(List.range tm.length).map fun t=>if memN t l=true then gt tm t else junk
theorem gt_msk (l:List Tmp) (tm:List Value) (t:Nat):gt (msk l tm) t=if memN t l=true then gt tm t else junk:=by
  unfold msk
  simp only [gt_def]
  rw [List.getD_eq_getElem?_getD,List.getElem?_map]
  by_cases h:t < tm.length
  · rw [List.getElem?_range h];rfl
  · rw [List.getElem?_eq_none (by simpa using h)]
    have:tm.getD t junk=junk:=by rw [List.getD_eq_getElem?_getD,List.getElem?_eq_none (by simpa using h)];rfl
    rw [this];simp
theorem VRs.of_get {l l':List Value} (hl:l.length=l'.length) (h:∀ t,t < l.length→VR φ (l.getD t junk) (l'.getD t junk)):VRs φ l l':=by
  induction l generalizing l' with
  | nil=>cases l' with
    | nil=>exact .nil
    | cons=>cases hl
  | cons x l ih=>cases l' with
    | nil=>cases hl
    | cons y l'=>exact .cons _ _ _ _ (h 0 (by simp)) (ih (by simpa using hl) fun t ht=>by simpa using h (t+1) (by simpa using ht))
theorem looks_operand {o:Oper} {t:Tmp} (h:(.tmp t:Operand) ∈ o.op.operands):t ∈ looks all o:=by
  unfold looks
  refine List.mem_append_left _ (List.mem_filterMap.2 ⟨.tmp t,by simpa using h,rfl⟩)
theorem looks_guard {o g:Oper} {j:Nat} {want:Bool} {d:Tmp} (h1:o.guard=some (j,want)) (h2:all[j]?=some g) (h3:g.dst=some d):d ∈ looks all o:=by
  unfold looks
  refine List.mem_append_right _ ?_
  rw [h1];simp only [h2,h3];simp
theorem aev_msk (o:Oper) (tm:List Value):∀ x ∈ o.op.operands,aev (msk (looks all o) tm) x=aev tm x:=by
  intro x hx
  cases x with
  | tmp t=>simp only [aev];rw [gt_msk,if_pos (memN_iff.2 (looks_operand hx))]
  | _=>rfl
theorem wanted_msk (o:Oper) (tm:List Value):wantedA all (msk (looks all o) tm) o=wantedA all tm o:=by
  unfold wantedA
  cases hg:o.guard with
  | none=>rfl
  | some jw=>
    obtain ⟨j,want⟩:=jw
    simp only
    cases h2:all[j]? with
    | none=>rfl
    | some g=>
      simp only
      cases h3:g.dst with
      | none=>rfl
      | some d=>simp only;rw [gt_msk,if_pos (memN_iff.2 (looks_guard hg h2 h3))]
theorem noDef_at:∀ {l:List Oper} {i:Nat} {o:Oper},noDef l=true→l[i]?=some o→notDef o.op=true
  | [],i,o,_,ho=>by simp at ho
  | x::l,i,o,h,ho=>by
    simp only [noDef] at h
    cases hx:notDef x.op with
    | false=>rw [hx] at h;cases h
    | true=>
      rw [hx,cond_true] at h
      cases i with
      | zero=>simp at ho;subst ho;exact hx
      | succ i=>exact noDef_at h (by simpa using ho)
theorem xop_pure {op:Op} {ρ:Operand→Value} (hc:cls op=0):xop E C rd op ρ h=(aop E op ρ h).run h:=by
  cases op with
  | call c=>
    obtain ⟨callee,args,ts⟩:=c
    cases callee with
    | value f=>cases hc
    | invoke r m=>cases hc
    | builtin b=>cases b <;> first | rfl | cases hc
  | defer c=>cases hc
  | mapUpdate=>cases hc
  | mapEntry=>cases hc
  | entryStore=>cases hc
  | insert=>cases hc
  | _=>rfl
def Picks (P:Program) (E:Env) (all:List Oper) (base:Nat) (tm0:List Value) (tr:Tr) (s₀:Nat) (φ₀:Phi) (h₀:AH) (w₀:World) (ds₀:List Deferred) (S:Array Bool) (i:Nat) (b:Frame) (ops:Array Oper) (rest:List Nat) (k:List Item) (cs:List Frame) (mc:Machine):Prop:=
  ∃ m' φ' a' w',Steps P mc (lone (b.atR a' (.inRegion ops rest::k)) cs w')∧Inv E all base tm0 tr s₀ φ₀ h₀ w₀ (S.setIfInBounds i true) m' φ' a' w' ds₀
theorem put_tmps_length (a:Act) (d:Option Tmp) (v:Value):(a.put d v).tmps.toList.length=a.tmps.toList.length:=by cases d <;> simp [Act.put]
theorem put_getD (t:Array Value) (ds:List Deferred) (d:Option Tmp) (v:Value) (j:Nat) (hj:j < t.toList.length) :
    ((⟨t,ds⟩:Act).put d v).tmps.toList.getD j junk=if d=some j then v else t.toList.getD j junk:=by
  cases d with
  | none=>simp [Act.put]
  | some d=>
    have hj':j < t.size:=by simpa using hj
    by_cases e:d=j
    · subst e;simp [Act.put,List.getD_eq_getElem?_getD,hj']
    · rw [if_neg (by simpa using e)]
      simp [Act.put,List.getD_eq_getElem?_getD,List.getElem?_set_ne e]
theorem Inv.closed_set (v:Inv E all base tm0 tr s₀ φ₀ h₀ w₀ S m φ a w ds₀) {i:Nat} (hb:∀ j,ordB (ms all) i j=true→S.getD j false=true):Closed all (S.setIfInBounds i true):=by
  intro x j hx ho
  by_cases e:i=x
  · subst e
    by_cases e':i=j
    · subst e';exact hx
    · rw [set_ne e'];exact hb j ho
  · rw [set_ne e] at hx
    have:=v.cl x j hx ho
    by_cases e':i=j
    · subst e';exact getD_set_true this
    · rw [set_ne e'];exact this
theorem Inv.pick (ok:EnvOK P E) (hC:Sound P C) (s:Sch E C rd all base tm0 tr) (hb0:base=h₀.next) (ha:all=ops.toList) (hk:okKind b.kind cs) (hrd:rd=b.roundOf.isSome) (hr₀:Rel φ₀ h₀ w₀)
    (v:Inv E all base tm0 tr s₀ φ₀ h₀ w₀ S m φ a w ds₀) {i:Nat} {o:Oper} (ho:all[i]?=some o) (hn:S.getD i false=false) (hbef:∀ j,ordB (ms all) i j=true→S.getD j false=true) (rest:List Nat) :
    Picks P E all base tm0 tr s₀ φ₀ h₀ w₀ ds₀ S i b ops rest k cs (lone (b.atR a (.inRegion ops (i::rest)::k)) cs w):=by
  have hlt:i < all.length:=(List.getElem?_eq_some_iff.1 ho).1
  have ho':ops[i]?=some o:=by rw [ha] at ho;simpa using ho
  have hlen:=s.len (Nat.le_of_lt hlt)
  have hS:∀ e,i≠e→(S.setIfInBounds i true).getD e false=S.getD e false:=fun e he=>set_ne he
  have hSi:(S.setIfInBounds i true).getD i false=true:=set_at (by rw [v.sz];exact hlt)
  have htm:VRs φ (msk (looks all o) (tr.T i)) a.tmps.toList:=by
    refine .of_get (by simp [msk,hlen,← v.tsz]) fun t ht=>?_
    have ht':t < tm0.length:=by simpa [msk,hlen] using ht
    rw [← gt_def]
    rw [gt_msk]
    by_cases hm:memN t (looks all o)=true
    · rw [if_pos hm,← agree s v.cl ho hn hbef ht' (memN_iff.1 hm)];exact v.tms t ht'
    · rw [if_neg hm];exact .junk _
  have tms':∀ {φ':Phi} {v':Value} (ds:List Deferred),φ.le φ'→VR φ' (tr.V i) v'→∀ t,t < tm0.length→VR φ' (curN tm0 all tr.V (S.setIfInBounds i true) t all.length) (((⟨a.tmps,ds⟩:Act).put o.dst v').tmps.toList.getD t junk):=by
    intro φ' v' ds hle hv t ht
    rw [insert_cur s v.sz v.cl ho hn,put_getD _ _ _ _ _ (by rw [v.tsz];exact ht)]
    by_cases hd:o.dst=some t
    · rw [if_pos hd,if_pos hd];exact hv
    · rw [if_neg hd,if_neg hd];exact (v.tms t ht).mono hle
  have tsz':∀ (v':Value) (ds:List Deferred),((⟨a.tmps,ds⟩:Act).put o.dst v').tmps.toList.length=tm0.length:=fun v' ds=>by rw [put_tmps_length];exact v.tsz
  have newS:∀ {m':Nat} {φ':Phi} {h':AH} {w':World},(∀ ob,¬ NewAt E all tr i ob)→NewOK E all base tr S m' φ' h' w'→NewOK E all base tr (S.setIfInBounds i true) m' φ' h' w':=by
    intro m' φ' h' w' hno hN j ob hj
    have hne:i≠j:=by rintro rfl;exact hno ob hj
    rw [hS j hne];exact hN j ob hj
  have hsp:=(s.sp i o ho).1
  unfold opT at hsp
  split at hsp
  · rename_i hw
    have hwant:Region.wanted o (yielded ops a.tmps)=true:=wantedA_sound (tm:=msk (looks all o) (tr.T i)) htm (by rw [← ha,wanted_msk];exact hw)
    split at hsp
    · -- turns no memory
      rename_i hcl
      obtain ⟨m',v,hm'⟩:=v.norm s hb0 all.length m (by omega)
      split at hsp
      · rename_i x hx
        simp only [Option.some.injEq,Prod.mk.injEq] at hsp
        obtain ⟨rfl,hH⟩:=hsp
        have hpv:pv (aop E o.op (aev (tr.T i)) (tr.H m'))=some (tr.V i):=by
          cases hrdr:isRd o.op with
          | false=>rw [pure_any hrdr hcl (tr.H m') (tr.H i)];exact hx
          | true=>
            have hd:=dynGo_spec all 0 s.dy i o ho hcl hrdr (by simpa using hw)
            simp only [Nat.zero_add,rdOK,List.all_eq_true] at hd
            have hmem:m' ∈ effsOf all 0:=(effsOf_mem all 0 m').2 (hm'.imp (by omega) fun ⟨x,h1,h2⟩=>⟨m',x,by omega,h1,h2⟩)
            have hd:=hd m' hmem
            have hposs:possB (ms all) (effsOf all 0) i m'=true:=by
              unfold possB
              cases hle:Nat.ble m' i with
              | true=>
                have hle':=Nat.le_of_ble_eq_true hle
                rw [cond_true]
                cases hx:ordB (ms all) i m' with
                | false=>rfl
                | true=>
                  rcases hm' with e | ⟨x,h1,h2⟩
                  · omega
                  · exact absurd ((v.ef m' x h1 h2).1 (hbef m' hx)) (Nat.lt_irrefl _)
              | false=>
                have hle':=lt_of_ble_false hle
                rw [cond_false,List.all_eq_true]
                intro e he
                cases h1:Nat.ble e i with
                | true=>rfl
                | false=>
                  have h1':=lt_of_ble_false h1
                  rw [cond_false]
                  cases h2:Nat.ble m' e with
                  | true=>rfl
                  | false=>
                    have h2':=lt_of_ble_false h2
                    rw [cond_false]
                    cases hx:ordB (ms all) e i with
                    | false=>rfl
                    | true=>
                      rcases (effsOf_mem all 0 e).1 he with e1 | ⟨x,y,e1,e2,e3⟩
                      · have:=v.mn;omega
                      · have e1:e=x:=by omega
                        subst e1
                        rw [v.cl e i ((v.ef e y e2 e3).2 h2') hx] at hn;cases hn
            have hd':(bif Nat.beq m' (natM (all.drop i) i) then true else bif possB (ms all) (effsOf all 0) i m' then chkB E o (tr.T i) (tr.V i) (tr.H m') else true)=true:=hd
            cases hnat:Nat.beq m' (natM (all.drop i) i) with
            | true=>
              have hmn:=nat_beq hnat
              have hge:i≤m':=by
                rcases Nat.lt_or_ge m' i with h | h
                · exfalso
                  have hge:∀ (os:List Oper) (i:Nat),i≤natM os i:=by
                    intro os
                    induction os with
                    | nil=>intro i;exact Nat.le_refl _
                    | cons x os ih=>
                      intro i
                      simp only [natM]
                      cases Nat.beq (cls x.op) 0 with
                      | true=>exact Nat.le_trans (Nat.le_succ i) (ih (i+1))
                      | false=>exact Nat.le_refl _
                  have:=hge (all.drop i) i
                  omega
                · exact h
              have hst:=s.still (i:=i) (m' - i) fun j h1 h2=>by
                obtain ⟨x,g1,g2⟩:=natM_spec (all.drop i) i j h1 (by omega)
                refine ⟨x,?_,g2⟩
                rw [List.getElem?_drop,show i+(j - i)=j by omega] at g1
                exact g1
              rw [show i+(m' - i)=m' by omega] at hst
              rw [hst];exact hx
            | false=>
            rw [hnat,cond_false,hposs,cond_true] at hd'
            unfold chkB at hd'
            split at hd'
            · rename_i y hy;rw [hy,vEq_eq _ _ _ hd']
            · cases hd'
        have hxop:xop E C rd o.op (aev (msk (looks all o) (tr.T i))) (tr.H m')=some (tr.V i,tr.H m'):=by
          rw [xop_pure hcl,aop_congr o.op (aev_msk o _)];exact pv_run hpv
        obtain ⟨φ',v',ds,w',g1,g2,g3,g4,g5,g6⟩:=opr_sound (rest:=rest) (k:=k) ok hC hk hrd htm v.rel v.dfs ho' hwant hxop
        have hno:∀ ob,¬ NewAt E all tr i ob:=fun ob ⟨o',_,h1,h2,_⟩=>by rw [ho] at h1;cases h1;omega
        obtain ⟨n1,n2⟩:=v.world g4
        refine ⟨m',φ',_,w',g1,by rw [Array.size_setIfInBounds];exact v.sz,v.closed_set hbef,v.mn,fun e x he hc=>?_,g3,v.fwd.trans hr₀ g4,by rw [put_defers];exact g5,v.nx,tsz' _ _,tms' ds g4.ext g2,newS hno n1,n2,fun hnd=>by rw [put_defers,g6 (noDef_at hnd ho)];exact v.dk hnd⟩
        have hne:i≠e:=by rintro rfl;rw [ho] at he;cases he;omega
        rw [hS e hne];exact v.ef e x he hc
      · cases hsp
    · -- acts
      rename_i hcl
      obtain ⟨m',v,hm'⟩:=v.norm s hb0 all.length m (by omega)
      have hmi:m'=i:=by
        have hle:m'≤i:=by
          rcases Nat.lt_or_ge i m' with h | h
          · rw [(v.ef i o ho hcl).2 h] at hn;cases hn
          · exact h
        rcases hm' with e | ⟨x,h1,h2⟩
        · omega
        · by_cases e:m'=i
          · exact e
          · exfalso
            cases hx:ordB (ms all) i m' with
            | true=>exact absurd ((v.ef m' x h1 h2).1 (hbef m' hx)) (Nat.lt_irrefl _)
            | false=>exact (pairOK_spec (s.pair ho h1 (by omega)) hx).2.2 ⟨hcl,h2⟩
      subst hmi
      have hxop:xop E C rd o.op (aev (msk (looks all o) (tr.T m'))) (tr.H m')=some (tr.V m',tr.H (m'+1)):=by
        rw [xop_congr o.op (aev_msk o _)];exact hsp
      obtain ⟨φ',v',ds,w',g1,g2,g3,g4,g5,g6⟩:=opr_sound (rest:=rest) (k:=k) ok hC hk hrd htm v.rel v.dfs ho' hwant hxop
      have hno:∀ ob,¬ NewAt E all tr m' ob:=fun ob ⟨o',_,h1,h2,_⟩=>by rw [ho] at h1;cases h1;omega
      obtain ⟨n1,n2⟩:=v.world g4
      refine ⟨m'+1,φ',_,w',g1,by rw [Array.size_setIfInBounds];exact v.sz,v.closed_set hbef,hlt,fun e x he hc=>?_,g3,v.fwd.trans hr₀ g4,by rw [put_defers];exact g5,Nat.le_trans v.nx g4.nx,tsz' _ _,tms' ds g4.ext g2,
        newS hno (n1.shift hno),fun i h1 h2=>n2 i (by omega) h2,fun hnd=>by rw [put_defers,g6 (noDef_at hnd ho)];exact v.dk hnd⟩
      by_cases e1:m'=e
      · subst e1;exact ⟨fun _=>Nat.lt_succ_self _,fun _=>hSi⟩
      · rw [hS e e1,v.ef e x he hc];omega
    · -- makes a block
      rename_i hc0 hc1
      split at hsp
      · rename_i ob mk hmk
        simp only [Option.some.injEq,Prod.mk.injEq] at hsp
        obtain ⟨hV,hH⟩:=hsp
        have hcls:cls o.op=2:=by cases hop:o.op <;> rw [hop] at hmk <;> first | rfl | cases hmk
        have hnew:NewAt E all tr i ob:=⟨o,mk,ho,hcls,hw,hmk⟩
        obtain ⟨sm,hex,co,T,v',hrun,hlay⟩:=mkObj_sound (w:=w) ok htm (ob:=ob) (mk:=mk) (by rw [mkObj_congr o.op (aev_msk o _)];exact hmk)
        obtain ⟨hφ,hlive⟩:=(v.new i ob hnew).2 hn
        have hle:φ.le (φ.set (base+i) (w.heap.size,0,T)):=Phi.le_set hφ
        obtain ⟨hvr,hor⟩:=hlay _ (base+i) hle (Phi.set_self _ _ _)
        have hst:=stepGR_op (P:=P) (b:=b) (k:=k) (cs:=cs) (w:=w) (rest:=rest) ho' hwant
        have hdf:∀ c,o.op≠.defer c:=by intro c h;rw [h] at hcls;cases hcls
        rw [Oper.semAt_eq _ _ _ hdf,hex] at hst
        have hfin:=Frame.finish_atR b a ops i rest k v'
        rw [ho'] at hfin
        have hset:∀ x y,(φ.set (base+i) (w.heap.size,0,T)) x=some y→(x=base+i∧y=(w.heap.size,0,T))∨(x≠base+i∧φ x=some y):=by
          intro x y hx
          unfold Phi.set at hx
          by_cases e:x=base+i
          · rw [if_pos e] at hx;cases hx;exact .inl ⟨e,rfl⟩
          · rw [if_neg e] at hx;exact .inr ⟨e,hx⟩
        have hpush:∀ c,c < w.heap.size→(w.heap.push co)[c]?=w.heap[c]?:=fun c hc=>push_get _ _ hc
        refine ⟨m,φ.set (base+i) (w.heap.size,0,T),(⟨a.tmps,a.defers⟩:Act).put o.dst v',{ w with heap:=w.heap.push co },.one (step_lone_go ?_),?_⟩
        · rw [hst]
          change _=GStep.go { frame:=b.atR (a.put (Option.bind (some o) (·.dst)) v') (.inRegion ops rest::k),callers:=cs,status:=.running,dying:=none } _
          rw [← hfin]
          simp [stepG.apply,Sem.runT_eq,GStep.bare_after,hrun]
        · refine ⟨by rw [Array.size_setIfInBounds];exact v.sz,v.closed_set hbef,v.mn,fun e x he hc=>?_,⟨fun b₁ b' s₁ T₁ hb=>?_,fun b₁ b₂ b' s₁ s₂ h1 h2 g1 g2=>?_,fun b₁ b' s₁ hb=>?_,v.rel.lim,v.rel.glu hle fun _ _ _ h=>h⟩,?_,?_,v.nx,tsz' _ _,tms' a.defers hle (by rw [← hV];exact hvr),fun j ob' hj=>?_,v.fut,fun hnd=>by rw [put_defers];exact v.dk hnd⟩
          · have hne:i≠e:=by rintro rfl;rw [ho] at he;cases he;omega
            rw [hS e hne];exact v.ef e x he hc
          · rcases hset _ _ hb with ⟨rfl,hy⟩ | ⟨hne,hb⟩
            · cases hy
              have e1:(w.heap.push co)[w.heap.size]?=some co:=by simp
              rw [e1]
              rcases Nat.lt_or_ge i m with h | h
              · rw [hlive h];exact hor
              · rw [v.fut i h hlt];trivial
            · rw [hpush _ (v.rel.bnd _ _ _ hb).2]
              exact (v.rel.blk _ _ _ _ hb).mono hle
          · rcases hset _ _ h1 with ⟨rfl,hy⟩ | ⟨hne,h1⟩ <;> rcases hset _ _ h2 with ⟨rfl,hy'⟩ | ⟨hne',h2⟩
            · rfl
            · cases hy;have:=(v.rel.bnd _ _ _ h2).2;omega
            · cases hy';have:=(v.rel.bnd _ _ _ h1).2;omega
            · exact v.rel.inj _ _ _ _ _ h1 h2 g1 g2
          · show b₁ < (tr.H m).next∧b' < (w.heap.push co).size
            rw [Array.size_push]
            rcases hset _ _ hb with ⟨rfl,hy⟩ | ⟨hne,hb⟩
            · cases hy;exact ⟨Nat.lt_of_lt_of_le (by omega) v.nx,by omega⟩
            · have:=v.rel.bnd _ _ _ hb;omega
          · have f:=v.fwd
            refine ⟨f.nx,fun x y hx=>hle _ _ (f.ext _ _ hx),fun x hx hxn=>?_,fun x c s₁ hx hxn=>?_,f.liv,f.lw,?_,f.os,f.out,fun c hc hkc=>?_⟩
            · refine ⟨?_,(f.unm x hx hxn).2⟩
              unfold Phi.set;rw [if_neg (by omega)];exact (f.unm x hx hxn).1
            · rcases hset _ _ hx with ⟨rfl,hy⟩ | ⟨hne,hx⟩
              · cases hy;exact .inl f.sz
              · exact f.fresh x c s₁ hx hxn
            · show w₀.heap.size≤(w.heap.push co).size
              rw [Array.size_push];have:=f.sz;omega
            · show (w.heap.push co)[c]?=_
              rw [hpush c (Nat.lt_of_lt_of_le hc f.sz)];exact f.keep c hc hkc
          · rw [put_defers]
            have hd:=v.dfs
            generalize (tr.H m).df=ds at hd
            generalize a.defers=ds' at hd
            induction hd with
            | nil=>exact .nil
            | call g cap cap' args args' hc ha ds ds' _ ih=>exact .call g _ _ _ _ (hc.mono hle) (ha.mono hle) _ _ ih
            | mark blk hs hb hf ds ds' hn _ ih=>
              have hblt:blk < w.heap.size:=(Array.getElem?_eq_some_iff.1 hb).1
              refine .mark blk hs ?_ (fun x s₁ hx=>?_) _ _ hn ih
              · show (w.heap.push co)[blk]?=_
                rw [hpush _ hblt];exact hb
              · rcases hset _ _ hx with ⟨rfl,hy⟩ | ⟨hne,hx⟩
                · cases hy;omega
                · exact hf x s₁ hx
          · by_cases e:i=j
            · subst e
              have hob:=hnew.uniq hj
              subst hob
              refine ⟨fun _=>⟨w.heap.size,T,Phi.set_self _ _ _,fun _=>⟨?_,fun x s₁ hx=>?_⟩⟩,fun hs=>by rw [hSi] at hs;cases hs⟩
              · have e1:(w.heap.push co)[w.heap.size]?=some co:=by simp
                show OR _ _ _ _ (w.heap.push co)[w.heap.size]?
                rw [e1];exact hor
              · rcases hset _ _ hx with ⟨rfl,hy⟩ | ⟨hne,hx⟩
                · rfl
                · have:=(v.rel.bnd _ _ _ hx).2;omega
            · rw [hS j e]
              obtain ⟨h1,h2⟩:=v.new j ob' hj
              refine ⟨fun hs=>?_,fun hs=>?_⟩
              · obtain ⟨c,T',g1,g2⟩:=h1 hs
                have hc:=(v.rel.bnd _ _ _ g1).2
                refine ⟨c,T',hle _ _ g1,fun hm=>?_⟩
                obtain ⟨g3,g4⟩:=g2 hm
                refine ⟨?_,fun x s₁ hx=>?_⟩
                · show OR _ _ _ _ (w.heap.push co)[c]?
                  rw [hpush c hc];exact g3.mono hle
                · rcases hset _ _ hx with ⟨rfl,hy⟩ | ⟨hne,hx⟩
                  · cases hy;omega
                  · exact g4 x s₁ hx
              · obtain ⟨g1,g2⟩:=h2 hs
                refine ⟨?_,g2⟩
                unfold Phi.set
                rw [if_neg (by omega)];exact g1
      · cases hsp
  · -- skipped
    rename_i hw
    simp only [Option.some.injEq,Prod.mk.injEq] at hsp
    obtain ⟨hV,hH⟩:=hsp
    have hwant:Region.wanted o (yielded ops a.tmps)=false:=wantedA_sound (tm:=msk (looks all o) (tr.T i)) htm (by rw [← ha,wanted_msk];exact hw)
    have hno:∀ ob,¬ NewAt E all tr i ob:=fun ob ⟨o',_,h1,_,h3,_⟩=>by rw [ho] at h1;cases h1;rw [hw] at h3;cases h3
    have hs:=stepR_op_skip (P:=P) (b:=b) (a:=a) (k:=k) (cs:=cs) (w:=w) (ops:=ops) (i:=i) (rest:=rest) (by rw [ho'];simp [hwant])
    rw [ho'] at hs
    have hs':step P (lone (b.atR a (.inRegion ops (i::rest)::k)) cs w)=.next (lone (b.atR ((⟨a.tmps,a.defers⟩:Act).put o.dst undef) (.inRegion ops rest::k)) cs w):=hs
    obtain ⟨m',v',hm'⟩:=v.norm s hb0 all.length m (by omega)
    have hund:VR φ (tr.V i) undef:=by rw [← hV];exact .und
    by_cases hce:cls o.op=1
    · have hmi:m'=i:=by
        have hle:m'≤i:=by
          rcases Nat.lt_or_ge i m' with h | h
          · rw [(v'.ef i o ho hce).2 h] at hn;cases hn
          · exact h
        rcases hm' with e | ⟨x,h1,h2⟩
        · omega
        · by_cases e:m'=i
          · exact e
          · exfalso
            cases hx:ordB (ms all) i m' with
            | true=>exact absurd ((v'.ef m' x h1 h2).1 (hbef m' hx)) (Nat.lt_irrefl _)
            | false=>exact (pairOK_spec (s.pair ho h1 (by omega)) hx).2.2 ⟨hce,h2⟩
      subst hmi
      refine ⟨m'+1,φ,_,w,.one hs',by rw [Array.size_setIfInBounds];exact v.sz,v.closed_set hbef,hlt,fun e x he hc=>?_,by rw [← hH];exact v'.rel,by rw [← hH];exact v'.fwd,by rw [← hH,put_defers];exact v'.dfs,by rw [← hH];exact v'.nx,
        tsz' _ _,tms' a.defers (fun _ _ h=>h) hund,newS hno (by rw [← hH];exact v'.new.shift hno),fun j h1 h2=>(by rw [← hH];exact v'.fut j (by omega) h2),fun hnd=>by rw [put_defers];exact v.dk hnd⟩
      by_cases e1:m'=e
      · subst e1;exact ⟨fun _=>Nat.lt_succ_self _,fun _=>hSi⟩
      · rw [hS e e1,v'.ef e x he hc];omega
    · refine ⟨m,φ,_,w,.one hs',by rw [Array.size_setIfInBounds];exact v.sz,v.closed_set hbef,v.mn,fun e x he hc=>?_,v.rel,v.fwd,by rw [put_defers];exact v.dfs,v.nx,tsz' _ _,tms' a.defers (fun _ _ h=>h) hund,newS hno v.new,v.fut,fun hnd=>by rw [put_defers];exact v.dk hnd⟩
      have hne:i≠e:=by rintro rfl;rw [ho] at he;cases he;exact hce hc
      rw [hS e hne];exact v.ef e x he hc
  · cases hsp
end
end
end Go.Den
namespace Go.Den
noncomputable section
section
variable {E:Env} {C:Oracle} {rd:Bool} {all:List Oper} {base:Nat} {tm0:List Value} {tr:Tr}
variable {P:Program} {s₀:Nat} {φ₀ φ φ':Phi} {h₀ h h':AH} {w₀ w w':World} {S:Array Bool} {m:Nat} {a:Act} {b:Frame} {k:List Item} {cs:List Frame} {ops:Array Oper} {ds₀:List Deferred}
def left (S:Array Bool):Nat→Nat
  | 0=>0
  | n+1=>left S n+if S.getD n false=true then 0 else 1
theorem left_set {i:Nat} (hi:i < S.size) (hn:S.getD i false=false):∀ n,left (S.setIfInBounds i true) n+(if i < n then 1 else 0)=left S n
  | 0=>by simp [left]
  | n+1=>by
    have ih:=left_set hi hn n
    simp only [left]
    by_cases e:i=n
    · subst e
      rw [set_at hi,hn]
      simp at ih ⊢
      exact ih
    · rw [set_ne e]
      by_cases h:i < n
      · rw [if_pos h] at ih;rw [if_pos (show i < n+1 by omega)];omega
      · rw [if_neg h] at ih;rw [if_neg (show ¬ i < n+1 by omega)];omega
theorem left_zero:∀ {n:Nat},left S n=0→∀ i,i < n→S.getD i false=true
  | 0,_,i,hi=>by omega
  | n+1,h,i,hi=>by
    simp only [left] at h
    by_cases e:i=n
    · subst e
      cases hs:S.getD i false with
      | true=>rfl
      | false=>rw [hs] at h;simp at h
    · exact left_zero (n:=n) (by omega) i (by omega)
theorem ready_spec {i:Nat} (ha:all=ops.toList):i ∈ Region.ready .any ops S ↔ S.getD i true=false∧∃ o,all[i]?=some o∧∀ e ∈ o.after,Region.binds .any e=true→S.getD e.on false=true:=by
  rw [mem_ready,ha]
  simp
theorem getD_flip {i:Nat} (h:S.getD i true=false):i < S.size∧S.getD i false=false:=by
  rcases Nat.lt_or_ge i S.size with h' | h'
  · exact ⟨h',by simpa [h'] using h⟩
  · simp [Array.getElem?_eq_none h'] at h
theorem all_done (s:Sch E C rd all base tm0 tr) (ha:all=ops.toList) (hS:S.size=all.length) (hr:Region.ready .any ops S=[]):∀ i,i < all.length→S.getD i false=true:=by
  intro i
  induction i using Nat.strongRecOn with
  | _ i ih=>
    intro hi
    cases hs:S.getD i false with
    | true=>rfl
    | false=>
      exfalso
      have ho:all[i]?=some all[i]:=List.getElem?_eq_getElem hi
      have:i ∈ Region.ready .any ops S:=(ready_spec ha).2 ⟨by simp [hS,hi] at hs ⊢;exact hs,_,ho,fun e he hb=>ih e.on (s.edge ho he hb) (Nat.lt_trans (s.edge ho he hb) hi)⟩
      rw [hr] at this;cases this
theorem draw_end (s:Sch E C rd all base tm0 tr) (hb0:base=h₀.next) (v:Inv E all base tm0 tr s₀ φ₀ h₀ w₀ S m φ a w ds₀) (hd:∀ i,i < all.length→S.getD i false=true) :
    FR s₀ φ (tr.H all.length) w (tr.T all.length) a∧Fwd φ₀ h₀ w₀ φ (tr.H all.length) w∧(noDef all=true→a.defers=ds₀):=by
  obtain ⟨m',v,hm⟩:=v.norm s hb0 all.length m (by omega)
  have hm:m'=all.length:=by
    rcases hm with e | ⟨o,h1,h2⟩
    · exact e
    · exact absurd ((v.ef m' o h1 h2).1 (hd m' (List.getElem?_eq_some_iff.1 h1).1)) (Nat.lt_irrefl _)
  subst hm
  refine ⟨⟨.of_get (by rw [s.len (Nat.le_refl _),v.tsz]) fun t ht=>?_,v.rel,v.dfs⟩,v.fwd,v.dk⟩
  have ht':t < tm0.length:=by rw [s.len (Nat.le_refl _)] at ht;exact ht
  have:=v.tms t ht'
  rw [cur_pre s ht' (Nat.le_refl _) fun j o hj _ _=>hd j hj,gt_def] at this
  exact this
theorem draw_run (ok:EnvOK P E) (hC:Sound P C) (s:Sch E C rd all base tm0 tr) (hb0:base=h₀.next) (ha:all=ops.toList) (hk:okKind b.kind cs) (hrd:rd=b.roundOf.isSome) (hr₀:Rel φ₀ h₀ w₀) :
    ∀ (fuel t:Nat) (S:Array Bool) (m:Nat) (φ:Phi) (a:Act) (w:World),Inv E all base tm0 tr s₀ φ₀ h₀ w₀ S m φ a w ds₀→left S all.length≤fuel →
      ∃ φ' a' w',Steps P (lone (b.atR a (.inRegion ops (Region.linearise.go .any ops fuel t S [])::k)) cs w) (lone (b.atR a' k) cs w')∧FR s₀ φ' (tr.H all.length) w' (tr.T all.length) a'∧Fwd φ₀ h₀ w₀ φ' (tr.H all.length) w'∧(noDef all=true→a'.defers=ds₀):=by
  intro fuel
  induction fuel with
  | zero=>
    intro t S m φ a w v hl
    obtain ⟨g1,g2⟩:=draw_end s hb0 v (left_zero (by omega))
    refine ⟨φ,a,w,.one ?_,g1,g2⟩
    simp only [Region.linearise.go]
    exact stepR_region_end
  | succ fuel ih=>
    intro t S m φ a w v hl
    have hgo:Region.linearise.go .any ops (fuel+1) t S []=match (Region.ready .any ops S)[t % (Region.ready .any ops S).length]? with
        | some i=>Region.linearise.go .any ops fuel (t / (Region.ready .any ops S).length) (S.setIfInBounds i true) [i]
        | none=>[].reverse:=rfl
    rw [hgo]
    cases hi:(Region.ready .any ops S)[t % (Region.ready .any ops S).length]? with
    | none=>
      have hnil:Region.ready .any ops S=[]:=by
        cases hr:Region.ready .any ops S with
        | nil=>rfl
        | cons x xs=>
          rw [hr] at hi
          have hlt:t % (x::xs).length < (x::xs).length:=Nat.mod_lt _ (by simp)
          simp at hi
          simp at hlt
          omega
      obtain ⟨g1,g2⟩:=draw_end s hb0 v (all_done s ha v.sz hnil)
      exact ⟨φ,a,w,.one stepR_region_end,g1,g2⟩
    | some i=>
      simp only []
      rw [linearise_go_acc,List.reverse_singleton,List.singleton_append]
      obtain ⟨h1,o,ho,h2⟩:=(ready_spec ha).1 (List.mem_of_getElem? hi)
      obtain ⟨hsz,hn⟩:=getD_flip h1
      have hbef:∀ j,ordB (ms all) i j=true→S.getD j false=true:=by
        intro j hj
        obtain ⟨o',e1,e,e2,e3,e4⟩:=anc hj
        rw [ho] at e1;cases e1
        rcases e4 with rfl | e4
        · exact h2 e e2 e3
        · exact v.cl e.on j (h2 e e2 e3) e4
      obtain ⟨m',φ',a',w',g1,g2⟩:=v.pick (b:=b) (k:=k) (cs:=cs) ok hC s hb0 ha hk hrd hr₀ ho hn hbef (Region.linearise.go .any ops fuel (t / (Region.ready .any ops S).length) (S.setIfInBounds i true) [])
      have hlt:i < all.length:=by rw [← v.sz];exact hsz
      have:=left_set hsz hn all.length
      rw [if_pos hlt] at this
      obtain ⟨φ₂,a₂,w₂,k1,k2,k3⟩:=ih (t / (Region.ready .any ops S).length) _ m' φ' a' w' g2 (by omega)
      exact ⟨φ₂,a₂,w₂,g1.trans k1,k2,k3⟩
theorem left_le (S:Array Bool):∀ n,left S n≤n
  | 0=>Nat.le_refl _
  | n+1=>by
    have:=left_le S n
    simp only [left]
    split <;> omega
theorem xdraw_sound (ok:EnvOK P E) (hC:Sound P C):DrawSound P (xdraw E C):=by
  intro rd ops tm h tm' h' hl s₀ φ w a b k cs id hk hrd hf
  unfold xdraw at hl
  cases h1:statGo ops.toList (masks ops.toList []) 0 ops.toList [] with
  | false=>rw [h1] at hl;cases hl
  | true=>
    rw [h1,cond_true] at hl
    cases h2:trace E C rd ops.toList h.next ops.toList 0 tm { next:=h.next+ops.toList.length,mem:=h.mem,df:=h.df } with
    | none=>rw [h2] at hl;cases hl
    | some tr=>
      rw [h2] at hl
      simp only at hl
      cases h3:dynGo E ops.toList (masks ops.toList []) (effsOf ops.toList 0) tr 0 ops.toList with
      | false=>rw [h3] at hl;cases hl
      | true=>
        rw [h3] at hl;cases hl
        obtain ⟨t1,t2,t3,t4⟩:=trace_spec _ _ _ _ _ h2
        have s:Sch E C rd ops.toList h.next tm tr:=⟨h1,h3,t1,fun j o ho=>by have:=t4 j o ho;rw [Nat.zero_add] at this;exact this⟩
        obtain ⟨r1,f1⟩:=hf.rel.drawn (w.drawn+1)
        have hgetH:∀ b,(tr.H 0).get b=h.get b:=fun b=>by rw [t2];rfl
        have hfalse:∀ i,(Array.replicate ops.size false).getD i false=false:=fun i=>by
          rcases Nat.lt_or_ge i ops.size with h | h
          · simp [h]
          · simp [Array.getElem?_eq_none (show (Array.replicate ops.size false).size≤i by simpa using h)]
        have v:Inv E ops.toList h.next tm tr s₀ φ h w (Array.replicate ops.size false) 0 φ a { w with drawn:=w.drawn+1 } a.defers:=by
          refine ⟨by simp,fun i j hi=>(by rw [hfalse] at hi;cases hi),Nat.zero_le _,fun e o he hc=>by rw [hfalse];simp,⟨fun b b' s T hb=>by rw [hgetH];exact r1.blk _ _ _ _ hb,fun b₁ b₂ b' s₁ s₂ g1 g2 g3 g4=>r1.inj _ _ _ _ _ g1 g2 (by rw [hgetH] at g3;exact g3) (by rw [hgetH] at g4;exact g4),
            fun b b' s hb=>?_,fun b hb=>?_,fun b g c hb=>r1.gl b g c (by rw [← hgetH];exact hb)⟩,⟨?_,f1.ext,fun b hb hn=>⟨hn,hgetH b⟩,f1.fresh,fun b hb hn=>by rw [hgetH] at hn;exact hn,fun b hb hn=>by rw [hgetH] at hn;exact hn,f1.sz,f1.os,f1.out,f1.keep⟩,?_,by rw [t2];exact Nat.le_refl _,?_,fun t ht=>?_,fun i ob hn=>⟨fun hs=>(by rw [hfalse] at hs;cases hs),fun _=>⟨?_,fun h=>by omega⟩⟩,fun i _ _=>?_,fun _=>rfl⟩
          · have:=r1.bnd _ _ _ hb
            rw [t2];exact ⟨Nat.lt_of_lt_of_le this.1 (Nat.le_add_right _ _),this.2⟩
          · rw [hgetH]
            have hb':h.next+ops.toList.length≤b:=by rw [t2] at hb;exact hb
            exact hf.rel.lim b (by omega)
          · rw [t2];exact Nat.le_add_right _ _
          · have hdf:(tr.H 0).df=h.df:=by rw [t2]
            rw [hdf]
            have hd:=hf.dfs
            have:∀ {ds ds'},DfR s₀ φ h w ds ds'→DfR s₀ φ (tr.H 0) { w with drawn:=w.drawn+1 } ds ds':=by
              intro ds ds' hd
              induction hd with
              | nil=>exact .nil
              | call g cap cap' args args' hc ha ds ds' _ ih=>exact .call g _ _ _ _ hc ha _ _ ih
              | mark b hs hb hf ds ds' hn _ ih=>exact .mark b hs (by exact hb) (fun x s hx=>by rw [hgetH];exact hf x s hx) _ _ hn ih
            exact this hd
          · exact hf.tms.length.symm
          · have e:curN tm ops.toList tr.V (Array.replicate ops.size false) t ops.toList.length=gt tm t:=by
              have:∀ n,curN tm ops.toList tr.V (Array.replicate ops.size false) t n=gt tm t:=by
                intro n
                induction n with
                | zero=>rfl
                | succ n ih=>simp only [curN];rw [if_neg (fun h=>by rw [hfalse] at h;cases h.1),ih]
              exact this _
            rw [e,gt_def];exact hf.tms.getD t
          · cases hx:φ (h.next+i) with
            | none=>rfl
            | some y=>have:=(hf.rel.bnd _ y.1 y.2 (by rw [hx])).1;omega
          · rw [hgetH];exact hf.rel.lim _ (by omega)
        obtain ⟨φ',a',w',g1,g2,g3⟩:=draw_run (k:=k) ok hC s rfl rfl hk hrd hf.rel ops.size (w.tape w.drawn (.order b.fn id)) _ 0 φ a _ v (by have:=left_le (Array.replicate ops.size false) ops.toList.length;simpa using this)
        refine ⟨φ',a',w',.head stepR_region_draw ?_,g2,g3⟩
        have hsch:Region.schedule (P.follows .mixedOrders) ops (w.tape w.drawn (.order b.fn id))=Region.linearise.go .any ops ops.size (w.tape w.drawn (.order b.fn id)) (Array.replicate ops.size false) []:=by
          simp [Region.schedule,ok.mixed,Region.linearise]
        rw [hsch];exact g1
end
def den (E:Env) (S:Oracle) (N:Nat):Nat→Oracle
  | 0=>noC
  | d+1=>stepC E S N (den E S N d) (xdraw E (den E S N d))
theorem den_sound {P:Program} {E:Env} (ok:EnvOK P E) {S:Oracle} (hS:Sound P S) (N:Nat):∀ d,Sound P (den E S N d)
  | 0=>noC_sound
  | d+1=>stepC_sound ok hS (den_sound ok hS N d) (xdraw_sound ok (den_sound ok hS N d)) N
theorem den_goes {P:Program} {E:Env} (ok:EnvOK P E) {S:Oracle} (hS:Sound P S) {N d:Nat} {g:FuncId} {args:List Value} {h h':AH} {v:Value} (hl:denF E (den E S N d) (xdraw E (den E S N d)) N g args h=some (v,h'))
    {φ:Phi} {w:World} {args':List Value} (ha:VRs φ args args') (r:Rel φ h w):Goes P g ⟨args'⟩ w (Aft φ h w v h'):=
  (denF_sound ok (den_sound ok hS N d) (xdraw_sound ok (den_sound ok hS N d)) hl).2.2 φ w args' ha r
end
end Go.Den
namespace Go.Den
noncomputable section
def tyOf (P:Program) (t:TypeId):Option TI:=
  match P.info? t,P.underlying t with
  | some i,some d=>match i.zero with
    | some z=>match d with
      | .struct fs=>match z with
        | .agg ⟨l⟩=>bif l.all atomV && Nat.beq l.length i.size && fs.toList.all (fun f=>(P.info? f.type).isSome) then some ⟨.struct fs,i.size,i.bytes,l⟩ else none
        | _=>none
      | .array n e=>match z with
        | .agg ⟨l⟩=>bif l.all atomV && Nat.beq l.length i.size then some ⟨.array n e,i.size,i.bytes,l⟩ else none
        | _=>none
      | d=>bif atomV z && Nat.beq i.size 1 then some ⟨d,1,i.bytes,[z]⟩ else none
    | none=>none
  | _,_=>none
def fnOf (P:Program) (f:FuncId):Option FI:=
  match P.funcs[f]? with
  | some fn=>match fn.body with
    | some c=>some ⟨c,fn.ntmps,fn.results⟩
    | none=>none
  | none=>none
structure Tabs where
  meth:List (Nat × String × Nat)
  ext:List (Nat × XK)
  key:List Nat
def Tabs.none:Tabs:=⟨[],[],[]⟩
def Tabs.methOf:List (Nat × String × Nat)→Nat→String→Option Nat
  | [],_,_=>Option.none
  | (t,n,g)::l,t',n'=>bif Nat.beq t t' && (n == n') then some g else Tabs.methOf l t' n'
def Tabs.extOf:List (Nat × XK)→Nat→Option XK
  | [],_=>Option.none
  | (g,k)::l,g'=>bif Nat.beq g g' then some k else Tabs.extOf l g'
def Tabs.keyOf (P:Program):List Nat→Nat→Option (Value→Bool)
  | [],_=>Option.none
  | k::l,k'=>bif Nat.beq k k' then some (fun v=>(Go.keyOf P k v).isSome) else Tabs.keyOf P l k'
def envX (P:Program) (T:Tabs):Env:=⟨tyOf P,fnOf P,Tabs.methOf T.meth,Tabs.extOf T.ext,Tabs.keyOf P T.key⟩
theorem Tabs.methOf_mem:∀ {l:List (Nat × String × Nat)} {t:Nat} {n:String} {g:Nat},Tabs.methOf l t n=some g→(t,n,g) ∈ l
  | [],_,_,_,h=>by cases h
  | (t,n,g)::l,t',n',g',h=>by
    simp only [Tabs.methOf] at h
    cases hb:(Nat.beq t t' && (n == n')) with
    | true=>
      rw [hb,cond_true] at h;cases h
      simp only [Bool.and_eq_true] at hb
      rw [nat_beq hb.1,eq_of_beq hb.2];exact List.mem_cons_self ..
    | false=>rw [hb,cond_false] at h;exact List.mem_cons_of_mem _ (Tabs.methOf_mem h)
theorem Tabs.extOf_mem:∀ {l:List (Nat × XK)} {g:Nat} {k:XK},Tabs.extOf l g=some k→(g,k) ∈ l
  | [],_,_,h=>by cases h
  | (g,k)::l,g',k',h=>by
    simp only [Tabs.extOf] at h
    cases hb:Nat.beq g g' with
    | true=>rw [hb,cond_true] at h;cases h;rw [nat_beq hb];exact List.mem_cons_self ..
    | false=>rw [hb,cond_false] at h;exact List.mem_cons_of_mem _ (Tabs.extOf_mem h)
theorem Tabs.keyOf_mem {P:Program}:∀ {l:List Nat} {t:Nat} {f:Value→Bool},Tabs.keyOf P l t=some f→t ∈ l∧f=fun v=>(Go.keyOf P t v).isSome
  | [],_,_,h=>by cases h
  | k::l,k',f,h=>by
    simp only [Tabs.keyOf] at h
    cases hb:Nat.beq k k' with
    | true=>rw [hb,cond_true] at h;cases h;rw [nat_beq hb];exact ⟨List.mem_cons_self ..,rfl⟩
    | false=>rw [hb,cond_false] at h;obtain ⟨h1,h2⟩:=Tabs.keyOf_mem h;exact ⟨List.mem_cons_of_mem _ h1,h2⟩
structure Tabs.OK (P:Program) (T:Tabs):Prop where
  meth:∀ p ∈ T.meth,∀ v args w,(callMethod (.iface p.1 v) p.2.1 args).run P w=(callFunc p.2.2 (#[v]++args)).run P w
  ext:∀ p ∈ T.ext,∀ args w v w',(p.2.sem args).run P w=.ok v w'→(callFunc p.1 args).run P w=.ok (.value v) w'
  key:∀ k ∈ T.key,Maps.Keyed P k∧EqLaw P k
theorem atomV_cells {z:Value} (h:atomV z=true):z.cells=#[z]:=by
  unfold atomV at h
  split at h <;> first | rfl | cases h
theorem tyOf_ok {P:Program} {t:TypeId} {ti:TI} (hl:tyOf P t=some ti):TIok P t ti∧selfOk ti.zero∧(ti.agg=false→ti.size=1)∧ti.zero.length=ti.size∧fieldsOk P ti.desc:=by
  unfold tyOf at hl
  split at hl
  · rename_i i d hi hd
    split at hl
    · rename_i z hz
      split at hl
      · rename_i fs
        split at hl
        · rename_i l
          cases hb:(l.all atomV && Nat.beq l.length i.size && fs.toList.all (fun f=>(P.info? f.type).isSome)) with
          | false=>rw [hb] at hl;cases hl
          | true=>
            rw [hb] at hl;cases hl
            simp only [Bool.and_eq_true] at hb
            obtain ⟨⟨h1,h2⟩,h3⟩:=hb
            refine ⟨⟨hd,i,.agg ⟨l⟩,hi,rfl,rfl,hz,rfl,fun h=>(by cases h)⟩,fun φ=>atoms_self h1,fun h=>(by cases h),nat_beq h2,fun f hf=>?_⟩
            have:=List.all_eq_true.1 h3 f hf
            intro hn;rw [hn] at this;cases this
        · cases hl
      · rename_i n e
        split at hl
        · rename_i l
          cases hb:(l.all atomV && Nat.beq l.length i.size) with
          | false=>rw [hb] at hl;cases hl
          | true=>
            rw [hb] at hl;cases hl
            simp only [Bool.and_eq_true] at hb
            obtain ⟨h1,h2⟩:=hb
            exact ⟨⟨hd,i,.agg ⟨l⟩,hi,rfl,rfl,hz,rfl,fun h=>(by cases h)⟩,fun φ=>atoms_self h1,fun h=>(by cases h),nat_beq h2,trivial⟩
        · cases hl
      · rename_i n1 n2
        cases hb:(atomV z && Nat.beq i.size 1) with
        | false=>rw [hb] at hl;cases hl
        | true=>
          rw [hb] at hl;cases hl
          simp only [Bool.and_eq_true] at hb
          obtain ⟨h1,h2⟩:=hb
          have hc:=atomV_cells h1
          have hag:(⟨d,1,i.bytes,[z]⟩:TI).agg=false:=by
            unfold TI.agg
            cases d <;> first | rfl | exact absurd rfl (n1 _) | exact absurd rfl (n2 _ _)
          refine ⟨⟨hd,i,z,hi,nat_beq h2,rfl,hz,by rw [hc],fun _=>hc⟩,fun φ=>.cons _ _ _ _ (atomV_self h1) .nil,fun _=>rfl,rfl,?_⟩
          cases d <;> first | trivial | exact absurd rfl (n1 _)
    · cases hl
  · cases hl
theorem tyOf_zagg {P:Program} {t:TypeId} {ti:TI} (hl:tyOf P t=some ti) (hag:ti.agg=true):∃ i,P.info? t=some i∧i.zero=some (.agg ⟨ti.zero⟩):=by
  unfold tyOf at hl
  split at hl
  · rename_i i d hi hd
    split at hl
    · rename_i z hz
      split at hl
      · rename_i fs
        split at hl
        · rename_i l
          cases hb:(l.all atomV && Nat.beq l.length i.size && fs.toList.all (fun f=>(P.info? f.type).isSome)) with
          | false=>rw [hb] at hl;cases hl
          | true=>rw [hb] at hl;cases hl;exact ⟨i,hi,hz⟩
        · cases hl
      · rename_i n e
        split at hl
        · rename_i l
          cases hb:(l.all atomV && Nat.beq l.length i.size) with
          | false=>rw [hb] at hl;cases hl
          | true=>rw [hb] at hl;cases hl;exact ⟨i,hi,hz⟩
        · cases hl
      · rename_i n1 n2
        cases hb:(atomV z && Nat.beq i.size 1) with
        | false=>rw [hb] at hl;cases hl
        | true=>
          rw [hb] at hl;cases hl
          unfold TI.agg at hag
          cases d <;> first | (cases hag;done) | exact absurd rfl (n1 _) | exact absurd rfl (n2 _ _)
    · cases hl
  · cases hl
theorem envX_ok {P : Program} {T : Tabs} (hT : Tabs.OK P T) (hm : P.follows .mixedOrders = true) (hn : P.funcs.toList.all (fun fn => !(fn.name == "runtime.NumGoroutine")) = true) : EnvOK P (envX P T) where
  ty t ti h:=tyOf_ok h
  fn f fi h:=by
    change fnOf P f=some fi at h
    unfold fnOf at h
    split at h
    · rename_i fn hfn
      split at h
      · rename_i c hc
        cases h
        exact ⟨fn,hfn,hc,rfl,rfl⟩
      · cases h
    · cases h
  call f fi h as w:=by
    change fnOf P f=some fi at h
    unfold fnOf at h
    split at h
    · rename_i fn hfn
      split at h
      · rename_i c hc
        cases h
        have hmem:fn ∈ P.funcs.toList:=by rw [Array.mem_toList_iff];exact Array.mem_of_getElem? hfn
        have:=List.all_eq_true.1 hn fn hmem
        have hne : ¬ fn.name = "runtime.NumGoroutine" := by simpa using this
        simp [callFunc,hfn,hne,hc]
      · cases h
    · cases h
  mixed:=hm
  zagg t ti h hag w:=by
    obtain ⟨i,h1,h2⟩:=tyOf_zagg h hag
    simp [zeroValue,typeInfo,h1,h2]
  meth t n g h:=hT.meth _ (Tabs.methOf_mem h)
  ext g k h:=hT.ext _ (Tabs.extOf_mem h)
  key t f h:=by
    obtain ⟨h1,h2⟩:=Tabs.keyOf_mem (P:=P) h
    refine ⟨(hT.key t h1).1,(hT.key t h1).2,fun v hv=>?_⟩
    subst h2
    exact Option.isSome_iff_exists.1 hv
end
end Go.Den
namespace Go.Den
noncomputable section
open Go.Conc
def h0:AH:=⟨0,.leaf,[]⟩
def φ0:Phi:=fun _=>none
theorem h0_get (b:Nat):h0.get b=none:=PT.get_leaf b
end
end Go.Den
