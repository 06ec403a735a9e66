/- Functions with a loop over a map, run with every order looked at. Conditions: none. -/
import Derived.Test.YtejgabehfdapjaaGreatDenJ
namespace Go.Den
noncomputable section
abbrev Fs:=List (Option Value)
def selO:Op→Bool
  | .binOp ..=>true
  | .load ..=>true
  | .indexAddr ..=>true
  | .index ..=>true
  | .call ..=>true
  | _=>false
def exOp (E:Env) (C:Oracle) (op:Op) (ρ:Operand→Value) (h:AH) (fs:Fs) (cs:Ct):Option (Value × AH × Fs × Ct):=
  bif selO op then (match fs with
    | some v::fs=>some (v,h,fs,(xop0 E C op ρ h,(v,h))::cs)
    | none::fs=>match xop0 E C op ρ h with
      | some (v,h')=>some (v,h',fs,cs)
      | none=>none
    | []=>none) else match xop0 E C op ρ h with
    | some (v,h')=>some (v,h',fs,cs)
    | none=>none
def exGrp (E:Env) (C:Oracle):List Oper→Tm→AH→Fs→Ct→Option (Tm × AH × Fs × Ct)
  | [],tm,h,fs,cs=>some (tm,h,fs,cs)
  | o::os,tm,h,fs,cs=>match exOp E C o.op (aevF tm) h fs cs with
    | some (v,h',fs',cs')=>exGrp E C os (stoF tm o.dst v) h' fs' cs'
    | none=>none
def exReg (E:Env) (C:Oracle) (all:List Oper):Nat→List Oper→Tm→AH→Fs→Ct→Option (Tm × AH × Fs × Ct)
  | _,[],tm,h,fs,cs=>some (tm,h,fs,cs)
  | 0,_,_,_,_,_=>none
  | f+1,o::os,tm,h,fs,cs=>match o.guard with
    | none=>match exOp E C o.op (aevF tm) h fs cs with
      | some (v,h',fs',cs')=>exReg E C all f os (stoF tm o.dst v) h' fs' cs'
      | none=>none
    | some (j,want)=>match (all[j]?).bind (·.dst) with
      | some d=>bif inG j want d o then match vGuard want (tm d) with
        | some true=>match exGrp E C (spanG j want d (o::os)) tm h fs cs with
          | some (tm',h',fs',cs')=>exReg E C all f (restG j want d (o::os)) tm' h' fs' cs'
          | none=>none
        | some false=>exReg E C all f (restG j want d (o::os)) (skpF (spanG j want d (o::os)) tm) h fs cs
        | none=>none
        else none
      | none=>none
def exC (E:Env) (C:Oracle) (n:Nat):Code→Tm→AH→Fs→Ct→Option (Ex × Tm × AH × Fs × Ct)
  | .skip,tm,h,fs,cs=>some (.normal,tm,h,fs,cs)
  | .label _,tm,h,fs,cs=>some (.normal,tm,h,fs,cs)
  | .seq x y,tm,h,fs,cs=>match exC E C n x tm h fs cs with
    | some (.normal,tm,h,fs,cs)=>exC E C n y tm h fs cs
    | r=>r
  | .cond c x y,tm,h,fs,cs=>match vBool (aevF tm c) with
    | some true=>exC E C n x tm h fs cs
    | some false=>exC E C n y tm h fs cs
    | none=>none
  | .block id x,tm,h,fs,cs=>match exC E C n x tm h fs cs with
    | some (.exit id',tm,h,fs,cs)=>bif Nat.beq id' id then some (.normal,tm,h,fs,cs) else some (.exit id',tm,h,fs,cs)
    | r=>r
  | .exit id,tm,h,fs,cs=>some (.exit id,tm,h,fs,cs)
  | .ret,tm,h,fs,cs=>some (.ret,tm,h,fs,cs)
  | .region _ ops false,tm,h,fs,cs=>bif dstOK n ops.toList then (match exReg E C ops.toList ops.toList.length ops.toList tm h fs cs with
    | some (tm,h,fs,cs)=>some (.normal,tm,h,fs,cs)
    | none=>none) else none
  | _,_,_,_,_=>none
section
variable {E:Env} {C:Oracle} {n:Nat}
theorem exOp_sound {op:Op} {ρ:Operand→Value} {h h':AH} {v:Value} {fs fs':Fs} {cs cs':Ct} (hl:exOp E C op ρ h fs cs=some (v,h',fs',cs')) (hg:GoodC cs'):xop0 E C op ρ h=some (v,h')∧GoodC cs:=by
  unfold exOp at hl
  cases hs:selO op with
  | true=>
    rw [hs,cond_true] at hl
    split at hl
    · cases hl
      exact ⟨hg _ (List.mem_cons_self ..),fun p hp=>hg p (List.mem_cons_of_mem _ hp)⟩
    · split at hl
      · rename_i hx;cases hl;exact ⟨hx,hg⟩
      · cases hl
    · cases hl
  | false=>
    rw [hs,cond_false] at hl
    split at hl
    · rename_i hx;cases hl;exact ⟨hx,hg⟩
    · cases hl
theorem exGrp_sound:∀ (os:List Oper) {tm tm':Tm} {h h':AH} {fs fs':Fs} {cs cs':Ct},exGrp E C os tm h fs cs=some (tm',h',fs',cs')→GoodC cs'→(∀ K,grpF E C os K tm h=K tm' h')∧GoodC cs
  | [],_,_,_,_,_,_,_,_,hl,hg=>by cases hl;exact ⟨fun _=>rfl,hg⟩
  | o::os,tm,tm',h,h',fs,fs',cs,cs',hl,hg=>by
    simp only [exGrp] at hl
    split at hl
    · rename_i v h₁ fs₁ cs₁ hx
      obtain ⟨h1,h2⟩:=exGrp_sound os hl hg
      obtain ⟨h3,h4⟩:=exOp_sound hx h2
      refine ⟨fun K=>?_,h4⟩
      simp only [grpF]
      rw [opK_of_xop0 h3]
      exact h1 K
    · cases hl
theorem exReg_sound {all:List Oper}:∀ (f:Nat) (os:List Oper) {tm tm':Tm} {h h':AH} {fs fs':Fs} {cs cs':Ct},exReg E C all f os tm h fs cs=some (tm',h',fs',cs')→GoodC cs'→(∀ K,regF E C all f os K tm h=K tm' h')∧GoodC cs:=by
  intro f
  induction f with
  | zero=>
    intro os tm tm' h h' fs fs' cs cs' hl hg
    cases os with
    | nil=>cases hl;exact ⟨fun _=>rfl,hg⟩
    | cons=>cases hl
  | succ f ih=>
    intro os tm tm' h h' fs fs' cs cs' hl hg
    cases os with
    | nil=>cases hl;exact ⟨fun _=>rfl,hg⟩
    | cons o os=>
      simp only [exReg] at hl
      split at hl
      · rename_i hgn
        split at hl
        · rename_i v h₁ fs₁ cs₁ hx
          obtain ⟨h1,h2⟩:=ih _ hl hg
          obtain ⟨h3,h4⟩:=exOp_sound hx h2
          refine ⟨fun K=>?_,h4⟩
          simp only [regF,hgn]
          rw [opK_of_xop0 h3]
          exact h1 K
        · cases hl
      · rename_i j want hgj
        split at hl
        · rename_i d hjd
          cases hb:inG j want d o with
          | false=>rw [hb] at hl;cases hl
          | true=>
            rw [hb,cond_true] at hl
            split at hl
            · rename_i hv
              split at hl
              · rename_i hx
                obtain ⟨h1,h2⟩:=ih _ hl hg
                obtain ⟨h3,h4⟩:=exGrp_sound _ hx h2
                refine ⟨fun K=>?_,h4⟩
                simp only [regF,hgj,hjd,hb,cond_true,hv]
                rw [h3];exact h1 K
              · cases hl
            · rename_i hv
              obtain ⟨h1,h2⟩:=ih _ hl hg
              refine ⟨fun K=>?_,h2⟩
              simp only [regF,hgj,hjd,hb,cond_true,hv]
              exact h1 K
            · cases hl
        · cases hl
theorem exC_sound:∀ (c:Code) {tm tm':Tm} {h h':AH} {fs fs':Fs} {cs cs':Ct} {e:Ex},exC E C n c tm h fs cs=some (e,tm',h',fs',cs')→GoodC cs'→(∀ N K,evF E C n N c K tm h=K e tm' h')∧GoodC cs:=by
  intro c
  induction c with
  | skip=>intro tm tm' h h' fs fs' cs cs' e hl hg;cases hl;exact ⟨fun _ _=>rfl,hg⟩
  | label l=>intro tm tm' h h' fs fs' cs cs' e hl hg;cases hl;exact ⟨fun _ _=>rfl,hg⟩
  | exit id=>intro tm tm' h h' fs fs' cs cs' e hl hg;cases hl;exact ⟨fun _ _=>rfl,hg⟩
  | ret=>intro tm tm' h h' fs fs' cs cs' e hl hg;cases hl;exact ⟨fun _ _=>rfl,hg⟩
  | seq x y ihx ihy=>
    intro tm tm' h h' fs fs' cs cs' e hl hg
    simp only [exC] at hl
    split at hl
    · rename_i hx
      obtain ⟨h1,h2⟩:=ihy hl hg
      obtain ⟨h3,h4⟩:=ihx hx h2
      exact ⟨fun N K=>by simp only [evF];rw [h3];exact h1 N K,h4⟩
    · rename_i hn
      obtain ⟨h3,h4⟩:=ihx hl hg
      refine ⟨fun N K=>?_,h4⟩
      simp only [evF]
      rw [h3]
      cases e with
      | normal=>exact absurd hl (hn _ _ _ _)
      | exit id=>rfl
      | ret=>rfl
      | goto l=>rfl
  | cond c x y ihx ihy=>
    intro tm tm' h h' fs fs' cs cs' e hl hg
    simp only [exC] at hl
    split at hl
    · rename_i hv
      obtain ⟨h1,h2⟩:=ihx hl hg
      exact ⟨fun N K=>by simp only [evF,hv];exact h1 N K,h2⟩
    · rename_i hv
      obtain ⟨h1,h2⟩:=ihy hl hg
      exact ⟨fun N K=>by simp only [evF,hv];exact h1 N K,h2⟩
    · cases hl
  | block id x ih=>
    intro tm tm' h h' fs fs' cs cs' e hl hg
    simp only [exC] at hl
    split at hl
    · rename_i id' tm₁ h₁ fs₁ cs₁ hx
      cases hb:Nat.beq id' id with
      | true=>
        rw [hb,cond_true] at hl;cases hl
        obtain ⟨h1,h2⟩:=ih hx hg
        exact ⟨fun N K=>by simp only [evF];rw [h1];simp only [blockK,hb,cond_true],h2⟩
      | false=>
        rw [hb,cond_false] at hl;cases hl
        obtain ⟨h1,h2⟩:=ih hx hg
        exact ⟨fun N K=>by simp only [evF];rw [h1];simp only [blockK,hb,cond_false],h2⟩
    · rename_i hn
      obtain ⟨h1,h2⟩:=ih hl hg
      refine ⟨fun N K=>?_,h2⟩
      simp only [evF]
      rw [h1]
      cases e with
      | normal=>rfl
      | exit id'=>exact absurd hl (hn _ _ _ _ _)
      | ret=>rfl
      | goto l=>rfl
  | region id ops draw=>
    intro tm tm' h h' fs fs' cs cs' e hl hg
    cases draw with
    | true=>cases hl
    | false=>
      simp only [exC] at hl
      cases hn:dstOK n ops.toList with
      | false=>rw [hn] at hl;cases hl
      | true=>
        rw [hn,cond_true] at hl
        split at hl
        · rename_i hx
          cases hl
          obtain ⟨h1,h2⟩:=exReg_sound _ _ hx hg
          exact ⟨fun N K=>by simp only [evF,hn,cond_true];exact h1 _,h2⟩
        · cases hl
  | _=>intro tm tm' h h' fs fs' cs cs' e hl hg;cases hl
end
end
end Go.Den
namespace Go.Den
noncomputable section
section
variable {P:Program} {E:Env} {C:Oracle} {φ:Phi} {w:World} {h h':AH} {v:Value} {b:Frame} {a:Act} {k:List Item} {cs:List Frame} {ops:Array Oper} {tm tm':Tm} {n:Nat}
def belowB (cl:Nat):List Nat→Bool
  | []=>true
  | x::l=>Nat.ble (x+1) cl && belowB cl l
theorem belowB_spec {cl:Nat}:∀ {l:List Nat},belowB cl l=true→∀ x ∈ l,x<cl
  | [],_,x,h=>by cases h
  | y::l,hl,x,h=>by
    simp only [belowB,Bool.and_eq_true] at hl
    rcases List.mem_cons.1 h with rfl|h
    · exact Nat.le_of_ble_eq_true hl.1
    · exact belowB_spec hl.2 x h
def NextTo (φ:Phi) (h:AH) (w:World) (r m:Nat) (es:List (Value × Value)) (bs seen:List Nat) (cl:Nat) (v':Value) (w':World):Prop:=
  ((∀ x ∈ bs,x ∈ seen)∧v'=.tuple #[.bool false]∧w'=w) ∨
  ∃ (i:Nat) (k u:Value) (x:Nat),es[i]?=some (k,u)∧bs[i]?=some x∧x ∉ seen∧VR φ (.tuple ⟨[.bool true,k,u]⟩) v'∧Rel φ (h.put r (some (.iter m cl (x::seen) (some x) cl))) w'∧Fwd φ h w φ (h.put r (some (.iter m cl (x::seen) (some x) cl))) w'
theorem next_run (rl:Rel φ h w) {r m:Nat} {x':Value} (hx:VR φ (.pointer (some ⟨r,0,none⟩)) x') {seen:List Nat} {cur:Option Nat} {cl:Nat} (hr:h.get r=some (.iter m cl seen cur cl))
    {es:List (Value × Value)} {bs:List Nat} (hm:h.get m=some (.map es bs cl)) (hb:belowB cl bs=true) (ty:TypeId) :
    ∃ v' w',(Instr.next x' false ty).run P w=.ok v' w'∧NextTo φ h w r m es bs seen cl v' w':=by
  cases hx with
  | ptr _ _ r' s T hφ=>
    have ho:=rl.blk _ _ _ _ hφ
    rw [hr] at ho
    cases hw:w.heap[r']? with
    | none=>rw [hw] at ho;exact ho.elim
    | some co=>
      rw [hw] at ho
      cases co with
      | mapIter mm since' seen' cl'=>
        cases mm with
        | none=>exact ho.elim
        | some m'=>
          obtain ⟨rfl,⟨T',hm'⟩,rfl,hseen,hcur,rfl⟩:=ho
          obtain ⟨es',hwm,hes,hbs⟩:=rl.mapAt hm' hm
          have hlt:∀ e ∈ es',e.born<cl':=by
            intro e he
            refine belowB_spec hb e.born ?_
            rw [← hbs]
            exact List.mem_map.2 ⟨e,by simpa using he,rfl⟩
          have hget1:(getObj r').run P w=.ok (.mapIter (some m') cl' seen' cl') w:=by simp [getObj,Sem.run,hw]
          have hget2:(getObj m').run P w=.ok (.map es' cl') w:=by simp [getObj,Sem.run,hwm]
          have hall:(!seen'.isEmpty && !es'.isEmpty && es'.all (·.born ≥ cl'))=false:=by
            cases he:es'.isEmpty with
            | true=>simp
            | false=>
              have hne:es'.all (·.born ≥ cl')=false:=by
                rw [Bool.eq_false_iff]
                intro hall
                rw [Array.all_eq_true_iff_forall_mem] at hall
                have h0:0<es'.size:=by
                  rcases Nat.eq_zero_or_pos es'.size with h0|h0
                  · rw [Array.isEmpty_eq_false_iff] at he;exact absurd (Array.eq_empty_of_size_eq_zero h0) he
                  · exact h0
                have h1:=hall es'[0] (Array.getElem_mem h0)
                have h2:=hlt es'[0] (Array.getElem_mem h0)
                simp at h1
                omega
              simp [hne]
          generalize hL:es'.filter (fun e=>!seen'.contains e.born)=left
          have hmem:∀ e ∈ left,e ∈ es'∧e.born ∉ seen':=by
            intro e he
            rw [← hL,Array.mem_filter] at he
            exact ⟨he.1,by simpa using he.2⟩
          have hold:left.filter (fun e=>decide (e.born<cl'))=left:=by
            rw [Array.filter_eq_self]
            intro e he
            simpa using hlt e (hmem e he).1
          have hnew:left.filter (fun e=>decide (e.born ≥ cl'))=#[]:=by
            rw [Array.filter_eq_empty_iff]
            intro e he
            have:=hlt e (hmem e he).1
            simp
            omega
          have hch:∀ q:Nat,0<q→∃ j w₁,(choose (.mapNext q)).run P w=.ok j w₁∧j<q∧(w₁=w∨w₁={ w with drawn:=w.drawn+1 }):=by
            intro q hq
            by_cases hf:q≤1
            · exact ⟨0,w,by simp [choose,Sem.run,Question.forced,hf],hq,.inl rfl⟩
            · refine ⟨w.tape w.drawn (.mapNext q) % q,_,?_,Nat.mod_lt _ hq,.inr rfl⟩
              simp [choose,Sem.run,Question.forced,hf,Question.cut]
          unfold Instr.next
          simp only [Nat.add_zero,Sem.run_bind,hget1,Result.andThen_ok,hget2,hall,Bool.false_eq_true,if_false,hL,hold,hnew]
          cases hle:left.isEmpty with
          | true=>
            have he:left=#[]:=by simpa using hle
            subst he
            obtain ⟨j,w₁,c1,c2,c3⟩:=hch 1 (by omega)
            have hj:j=0:=by omega
            subst hj
            refine ⟨.tuple #[.bool false],w,?_,.inl ⟨fun x hx=>?_,rfl,rfl⟩⟩
            · simp [Question.forced]
            · rw [← hbs] at hx
              obtain ⟨e,he,rfl⟩:=List.mem_map.1 hx
              apply (hseen _).1
              apply Classical.byContradiction
              intro hn
              have hm2:e ∈ es'.filter (fun e=>!seen'.contains e.born):=by
                rw [Array.mem_filter]
                refine ⟨by simpa using he,?_⟩
                simpa using hn
              rw [hL] at hm2
              simp at hm2
          | false=>
            have hpos:0<left.size:=by
              rcases Nat.eq_zero_or_pos left.size with h0|h0
              · rw [Array.eq_empty_of_size_eq_zero h0] at hle;cases hle
              · exact h0
            obtain ⟨j,w₁,c1,c2,c3⟩:=hch left.size hpos
            have hej:left[j]?=some left[j]:=Array.getElem?_eq_getElem c2
            have hme:=hmem left[j] (Array.getElem_mem c2)
            have rl₁:Rel φ h w₁∧Fwd φ h w φ h w₁:=by
              rcases c3 with rfl|rfl
              · exact ⟨rl,Fwd.refl _ _ _⟩
              · exact rl.drawn _
            have hw₁:w₁.heap[r']?=some (.mapIter (some m') cl' seen' cl'):=by rcases c3 with rfl|rfl <;> exact hw
            obtain ⟨i,hi⟩:=List.getElem?_of_mem (show left[j] ∈ es'.toList by simpa using hme.1)
            obtain ⟨ky,u,k1,k2,k3⟩:=hes.back i _ hi
            have hbi:bs[i]?=some left[j].born:=by rw [← hbs,List.getElem?_map,hi];rfl
            obtain ⟨q1,q2⟩:=rl₁.1.obj (o:=some (.iter m cl' (left[j].born::seen) (some left[j].born) cl')) (co:=.mapIter (some m') cl' (seen'.push left[j].born) cl') hφ (by rw [hr];rfl)
              ⟨rfl,⟨T',hm'⟩,rfl,fun x=>by simp [hseen];exact or_comm,fun c hc=>by cases hc;simp,rfl⟩
            refine ⟨.tuple #[.bool true,left[j].key,left[j].val],_,?_,.inr ⟨i,ky,u,left[j].born,k1,hbi,fun hs=>hme.2 (by simpa using (hseen _).2 hs),.tuple _ _ (.cons _ _ _ _ (.bool _) (.cons _ _ _ _ k2 (.cons _ _ _ _ k3 .nil))),q1,rl₁.2.trans rl q2⟩⟩
            have hcand:((if false=true then #[none] else #[])++Array.map some (left++#[]):Array (Option MapEntry))=left.map some:=by simp
            have hset:(setObj r' (.mapIter (some m') cl' (seen'.push left[j].born) cl')).run P w₁=.ok () (w₁.putObj r' (.mapIter (some m') cl' (seen'.push left[j].born) cl')):=by simp [setObj,Sem.run,hw₁,World.putObj]
            have hel:(left.map some)[j]?=some (some left[j]):=by rw [Array.getElem?_map,hej];rfl
            rw [hcand,Array.size_map,c1,Result.andThen_ok,hel]
            simp only [Sem.run_bind,hset,Result.andThen_ok,Sem.run_pure]
      | _=>exact ho.elim
end
end
end Go.Den
namespace Go.Den
noncomputable section
section
variable {P:Program} {E:Env} {C:Oracle} {φ:Phi} {w:World} {h h':AH} {v:Value} {b:Frame} {a:Act} {k:List Item} {cs:List Frame} {ops:Array Oper} {tm tm':Tm} {n:Nat}
open Classical in
theorem runs_of_exC (ok:EnvOK P E) (hC:Sound P C) (hk:okKind b.kind cs) (hro:b.roundOf=none) {c:Code} {e:Ex} {fs fs':Fs} {cs':Ct} (hl:exC E C n c tm h fs []=some (e,tm',h',fs',cs')) (hg:GoodC cs'):Runs P n b cs c tm h e tm' h':=by
  intro k φ w a hf
  obtain ⟨hx,_⟩:=exC_sound c hl hg
  let K:Kont:=fun e₁ t₁ h₁=>if e₁=e∧t₁=tm'∧h₁=h' then some (junk,h') else none
  have hK:K e tm' h'=some (junk,h'):=by simp [K]
  obtain ⟨e₁,t₁,h₁,φ',a',w',g1,g2,g3,g4⟩:=evF_sound ok hC hk hro c K k φ tm h a w hf ((hx 0 K).trans hK)
  have key:e₁=e∧t₁=tm'∧h₁=h':=by
    apply Classical.byContradiction
    intro hn
    simp [K,hn] at g1
  obtain ⟨rfl,rfl,rfl⟩:=key
  exact ⟨φ',a',w',g2,g3,g4⟩
theorem nextReg (ok:EnvOK P E) (hC:Sound P C) (hro:b.roundOf=none) {id it d₁ d₂:Nat} {o₀ o₁:Oper} (ho:ops=#[o₀,o₁]) (h0:o₀.op=.next (.tmp it) false) (h0d:o₀.dst=some d₁) (h0g:o₀.guard=none)
    (h1:o₁.op=.extract (.tmp d₁) 0) (h1d:o₁.dst=some d₂) (h1g:o₁.guard=none) (hd₁:d₁<n) (hd₂:d₂<n)
    (hf:F0 n φ h w tm a) {r m:Nat} (hit:tm it=.pointer (some ⟨r,0,none⟩)) {seen:List Nat} {cur:Option Nat} {cl:Nat} (hr:h.get r=some (.iter m cl seen cur cl))
    {es:List (Value × Value)} {bs:List Nat} (hm:h.get m=some (.map es bs cl)) (hb:belowB cl bs=true) :
    ∃ φ' a' w' t bb hN,Steps P (lone (b.atR a (.code (.region id ops false)::k)) cs w) (lone (b.atR a' k) cs w')∧F0 n φ' hN w' (stoF (stoF tm (some d₁) t) (some d₂) (.bool bb)) a'∧Fwd φ h w φ' hN w' ∧
      (((∀ x ∈ bs,x ∈ seen)∧t=.tuple ⟨[.bool false]⟩∧bb=false∧hN=h) ∨
       ∃ (i:Nat) (ky u:Value) (x:Nat),es[i]?=some (ky,u)∧bs[i]?=some x∧x ∉ seen∧t=.tuple ⟨[.bool true,ky,u]⟩∧bb=true∧hN=h.put r (some (.iter m cl (x::seen) (some x) cl))):=by
  have hx:=hf.tms it
  rw [hit] at hx
  obtain ⟨xx,hxx⟩:∃ xx,a.tmps.getD it undef=xx:=⟨_,rfl⟩
  rw [hxx] at hx
  obtain ⟨v',w₁,hrun,hto⟩:=next_run (P:=P) hf.rel hx hr hm hb o₀.type
  have hsz:ops.size=2:=by rw [ho];rfl
  have e0:ops[0]?=some o₀:=by rw [ho];rfl
  have e1:ops[1]?=some o₁:=by rw [ho];rfl
  have hst:=stepGR_op (P:=P) (b:=b) (a:=a) (k:=k) (cs:=cs) (w:=w) (rest:=[1]) e0 (by unfold Region.wanted;rw [h0g])
  rw [hro,Oper.semAt_none] at hst
  have hex:execOp a.eval o₀=(do pure (.value (← Instr.next xx false o₀.type))):=by rw [← hxx];simp only [execOp,h0];rfl
  rw [hex] at hst
  have hfin:=Frame.finish_atR b a ops 0 [1] k v'
  rw [e0] at hfin
  have hs1:Steps P (lone (b.atR a (.inRegion ops [0,1]::k)) cs w) (lone (b.atR (a.put o₀.dst v') (.inRegion ops [1]::k)) cs w₁):=by
    refine .one (step_lone_go ?_)
    rw [hst]
    change _=GStep.go { frame:=b.atR (a.put (Option.bind (some o₀) (·.dst)) v') (.inRegion ops [1]::k),callers:=cs,status:=.running,dying:=none } w₁
    rw [← hfin]
    simp [stepG.apply,Sem.runT_eq,GStep.bare_after,hrun]
  have flag:∀ {φ':Phi} {hN:AH} {t:Value} {bb:Bool} {l:List Value},t=.tuple ⟨.bool bb::l⟩→VR φ' t v'→Rel φ' hN w₁→Fwd φ h w φ' hN w₁ →
      ∃ φ'' a' w',Steps P (lone (b.atR a (.code (.region id ops false)::k)) cs w) (lone (b.atR a' k) cs w')∧F0 n φ'' hN w' (stoF (stoF tm (some d₁) t) (some d₂) (.bool bb)) a'∧Fwd φ h w φ'' hN w':=by
    intro φ' hN t bb l ht hv hrel hfw
    have hf1:F0 n φ' hN w₁ (stoF tm o₀.dst t) (a.put o₀.dst v'):=by
      refine ⟨by rw [put_size];exact hf.sz,stoF_VR (fun x=>(hf.tms x).mono hfw.ext) _ hv (by rw [hf.sz];intro d hd;rw [h0d] at hd;cases hd;exact hd₁),hrel,?_⟩
      have:(a.put o₀.dst v').defers=a.defers:=put_defers _ _ _ _
      exact this.trans hf.dfs
    have hxo:xop0 E C o₁.op (aevF (stoF tm o₀.dst t)) hN=some (.bool bb,hN):=by
      rw [h1,h0d,ht]
      simp [xop0,xopM,aop,AR.run,aevF,stoF,Nat.beq_refl,ext]
    obtain ⟨φ'',v'',w',k1,k2,k3⟩:=op0_sound (b:=b) (k:=k) (cs:=cs) (rest:=[]) ok hC hro hf1 e1 (by intro d hd;rw [h1d] at hd;cases hd;exact hd₂) (by unfold Region.wanted;rw [h1g]) hxo
    refine ⟨φ'',(a.put o₀.dst v').put o₁.dst v'',w',?_,by rw [h0d,h1d] at k2 ⊢;exact k2,hfw.trans hf.rel k3⟩
    refine .head stepR_region ?_
    rw [hsz]
    exact (hs1.trans k1).trans (.one stepR_region_end)
  rcases hto with ⟨c1,rfl,rfl⟩|⟨i,ky,u,x,c1,c2,c3,c4,c5,c6⟩
  · obtain ⟨φ'',a',w',k1,k2,k3⟩:=flag (t:=.tuple ⟨[.bool false]⟩) rfl (.tuple _ _ (.cons _ _ _ _ (.bool _) .nil)) hf.rel (Fwd.refl _ _ _)
    exact ⟨φ'',a',w',_,false,h,k1,k2,k3,.inl ⟨c1,rfl,rfl,rfl⟩⟩
  · obtain ⟨φ'',a',w',k1,k2,k3⟩:=flag (t:=.tuple ⟨[.bool true,ky,u]⟩) rfl c4 c5 c6
    exact ⟨φ'',a',w',_,true,_,k1,k2,k3,.inr ⟨i,ky,u,x,c1,c2,c3,rfl,rfl,rfl⟩⟩
end
end
end Go.Den
namespace Go.Den
noncomputable section
theorem memL_iff {x:Nat}:∀ {l:List Nat},memL x l=true ↔ x ∈ l
  | []=>by simp [memL]
  | y::l=>by
    simp only [memL]
    cases hb:Nat.beq x y with
    | true=>have:=nat_beq hb;subst this;simp
    | false=>
      have hne:x≠y:=by rintro rfl;rw [Nat.beq_refl] at hb;cases hb
      simp [memL_iff (l:=l),hne]
theorem subS_spec {l:List Nat}:∀ {m:List Nat},subS l m=true→∀ x ∈ m,x ∈ l
  | [],_,x,h=>by cases h
  | y::m,hl,x,h=>by
    simp only [subS,Bool.and_eq_true] at hl
    rcases List.mem_cons.1 h with rfl|h
    · exact memL_iff.1 hl.1
    · exact subS_spec hl.2 x h
theorem subI_OR {φ:Phi} {s T:Nat} {o:AObj} {x:Option AObj} {co:Option Obj} (h:subI o x=true) (ho:OR φ s T x co):OR φ s T (some o) co:=by
  unfold subI at h
  split at h
  · simp only [Bool.and_eq_true] at h
    obtain ⟨⟨⟨⟨h1,h2⟩,h3⟩,h4⟩,h5⟩:=h
    have e1:=nat_beq h1;have e2:=nat_beq h2;have e3:=nat_beq h3
    subst e1;subst e2;subst e3
    cases co with
    | none=>exact ho.elim
    | some co=>cases co with
      | mapIter mm _ _ _=>cases mm with
        | none=>exact ho.elim
        | some m'=>
          obtain ⟨g1,g2,g3,g4,g5,g6⟩:=ho
          exact ⟨g1,g2,g3,fun y=>(g4 y).trans ⟨subS_spec h4 y,subS_spec h5 y⟩,(fun c hc=>by cases hc),g6⟩
      | _=>exact ho.elim
  · exact obSub_OR h ho
section
variable {P:Program} {E:Env} {C:Oracle} {φ φ':Phi} {w w':World} {h h' hc:AH} {v:Value} {b:Frame} {a:Act} {k:List Item} {cs:List Frame} {ops:Array Oper} {tm tm' tmc:Tm} {n:Nat}
theorem F0.cov (hf:F0 n φ h w tm a) (c:Cov tmc hc tm h):F0 n φ hc w tmc a:=by
  refine ⟨hf.sz,fun t=>?_,⟨fun x y s T hx=>?_,fun x y b' s₁ s₂ g1 g2 g3 g4=>hf.rel.inj _ _ _ _ _ g1 g2 (c.live g3) (c.live g4),fun x y s hx=>by rw [c.nx];exact hf.rel.bnd _ _ _ hx,fun x hx=>?_,fun x g d hx=>by obtain ⟨c',hc'⟩:=obSub_glob (c.sub x _ hx);exact hf.rel.gl x g c' hc'⟩,hf.dfs⟩
  · rcases c.t t with e|e <;> rw [e]
    · exact .junk _
    · exact hf.tms t
  · cases e:hc.get x with
    | none=>trivial
    | some o=>exact subI_OR (c.sub x o e) (hf.rel.blk _ _ _ _ hx)
  · cases e:hc.get x with
    | none=>rfl
    | some o=>exact absurd (hf.rel.lim x (by rw [← c.nx];exact hx)) (c.live (by rw [e];simp))
theorem Fwd.cov (F:Fwd φ h w φ' h' w') (c:Cov tmc hc tm h') (hu:∀ x,x<h.next→φ x=none→hc.get x=h.get x):Fwd φ h w φ' hc w':=
  ⟨by rw [c.nx];exact F.nx,F.ext,fun x hx hn=>⟨(F.unm x hx hn).1,hu x hx hn⟩,F.fresh,fun x hx hl=>F.liv x hx (c.live hl),fun x hx hl=>F.lw x hx (c.lw hl),F.sz,F.os,F.out,F.keep⟩
theorem mapLoop (ok:EnvOK P E) (hC:Sound P C) (hro:b.roundOf=none) {id it d₁ d₂ e₀:Nat} {o₀ o₁:Oper} {z:Code} (ho:ops=#[o₀,o₁]) (h0:o₀.op=.next (.tmp it) false) (h0d:o₀.dst=some d₁) (h0g:o₀.guard=none)
    (h1:o₁.op=.extract (.tmp d₁) 0) (h1d:o₁.dst=some d₂) (h1g:o₁.guard=none) (hd₁:d₁<n) (hd₂:d₂<n) {r m cl:Nat} {es:List (Value × Value)} {bs:List Nat} (hb:belowB cl bs=true)
    {cT:Nat→Tm} {cH:Nat→AH} {seen:Nat→List Nat} {valid:Nat→Prop} {lim:Nat} {tmE:Tm} {hE:AH}
    (hit:∀ S,cT S it=.pointer (some ⟨r,0,none⟩)) (hri:∀ S,(cH S).get r=some (.iter m cl (seen S) none cl)) (hmi:∀ S,(cH S).get m=some (.map es bs cl)) (hoth:∀ S S' x,x≠r→(cH S).get x=(cH S').get x)
    (hstep:∀ S,valid S→∀ (i:Nat) (ky u:Value) (x:Nat),es[i]?=some (ky,u)→bs[i]?=some x→x ∉ seen S→∃ S' tm' h',valid S'∧S<S' ∧
      Runs P n b cs z (stoF (stoF (cT S) (some d₁) (.tuple ⟨[.bool true,ky,u]⟩)) (some d₂) (.bool true)) ((cH S).put r (some (.iter m cl (x::seen S) (some x) cl))) .normal tm' h'∧Cov (cT S') (cH S') tm' h')
    (hlast:∀ S,valid S→(∀ x ∈ bs,x ∈ seen S)→Runs P n b cs z (stoF (stoF (cT S) (some d₁) (.tuple ⟨[.bool false]⟩)) (some d₂) (.bool false)) (cH S) (.exit e₀) tmE hE)
    (hlim:∀ S,valid S→S<lim):∀ (j S:Nat),lim-S≤j→valid S→Runs P n b cs (.loop (.seq (.region id ops false) z)) (cT S) (cH S) (.exit e₀) tmE hE:=by
  have key:∀ (j S:Nat),lim-S≤j→valid S→∀ (k:List Item) (φ:Phi) (w:World) (a:Act),F0 n φ (cH S) w (cT S) a→∃ φ' a' w',
      (∀ k',exitTo e₀ k=some k'→Steps P (lone (b.atR a (.code (.seq (.region id ops false) z)::.inLoop (.seq (.region id ops false) z)::k)) cs w) (lone (b.atR a' k') cs w'))∧F0 n φ' hE w' tmE a'∧Fwd φ (cH S) w φ' hE w':=by
    intro j
    induction j with
    | zero=>intro S hS hv;have:=hlim S hv;omega
    | succ j ih=>
      intro S hS hv k φ w a hf
      obtain ⟨φ₁,a₁,w₁,t,bb,hN,g1,g2,g3,g4⟩:=nextReg (id:=id) (b:=b) (k:=.code z::.inLoop (.seq (.region id ops false) z)::k) (cs:=cs) ok hC hro ho h0 h0d h0g h1 h1d h1g hd₁ hd₂ hf (hit S) (hri S) (hmi S) hb
      rcases g4 with ⟨c1,rfl,rfl,rfl⟩|⟨i,ky,u,x,c1,c2,c3,rfl,rfl,rfl⟩
      · obtain ⟨φ₂,a₂,w₂,k1,k2,k3⟩:=hlast S hv c1 (.inLoop (.seq (.region id ops false) z)::k) φ₁ w₁ a₁ g2
        refine ⟨φ₂,a₂,w₂,fun k' hk'=>?_,k2,g3.trans hf.rel k3⟩
        exact .head stepR_seq (g1.trans (k1 k' (by simpa [exitTo] using hk')))
      · obtain ⟨S',tm',h',v1,v2,v3,v4⟩:=hstep S hv i ky u x c1 c2 c3
        obtain ⟨φ₂,a₂,w₂,k1,k2,k3⟩:=v3 (.inLoop (.seq (.region id ops false) z)::k) φ₁ w₁ a₁ g2
        have hr0:φ r≠none:=by
          have hx:=hf.tms it
          rw [hit] at hx
          generalize a.tmps.getD it undef=xx at hx
          cases hx with
          | ptr _ _ r' s T hφ=>rw [hφ];simp
        have F2:Fwd φ (cH S) w φ₂ (cH S') w₂:=(g3.trans hf.rel k3).cov v4 fun y _ hn=>hoth S' S y (by rintro rfl;exact hr0 hn)
        obtain ⟨φ₃,a₃,w₃,l1,l2,l3⟩:=ih S' (by have:=hlim S' v1;omega) v1 k φ₂ w₂ a₂ (k2.cov v4)
        refine ⟨φ₃,a₃,w₃,fun k' hk'=>?_,l2,F2.trans hf.rel l3⟩
        exact .head stepR_seq (g1.trans (Steps.trans k1 (.head stepR_inLoop (l1 k' hk'))))
  intro j S hS hv k φ w a hf
  obtain ⟨φ',a',w',k1,k2,k3⟩:=key j S hS hv k φ w a hf
  exact ⟨φ',a',w',fun k' hk'=>.head stepR_loop (k1 k' hk'),k2,k3⟩
end
end
end Go.Den
namespace Go.Den
noncomputable section
section
variable {P:Program} {E:Env} {C:Oracle} {φ φ':Phi} {w w':World} {h h' hc:AH} {v:Value} {b:Frame} {a:Act} {k:List Item} {cs:List Frame} {ops:Array Oper} {tm tm' tmc:Tm} {n:Nat}
theorem Runs.cov {c:Code} {e:Ex} (hx:Runs P n b cs c tm h e tm' h') (hc':Cov tmc hc tm' h') (hs:∀ x,x<h.next→hc.get x=h'.get x):Runs P n b cs c tm h e tmc hc:=by
  intro k φ w a hf
  obtain ⟨φ₁,a₁,w₁,g1,g2,g3⟩:=hx k φ w a hf
  exact ⟨φ₁,a₁,w₁,g1,g2.cov hc',g3.cov hc' fun x hx hn=>(hs x hx).trans (g3.unm x hx hn).2⟩
theorem goes_of_runs (ok:EnvOK P E) {g:FuncId} {fi:FI} (hE:E.fn g=some fi) {args:List Value} {h:AH} {e:Ex} {tm':Tm} {h':AH} {l:List Value} (he:e=.normal∨e=.ret) (hres:resF E tm' h' fi.results.toList=some l)
    (hr:∀ b cs,okKind b.kind cs→b.roundOf=none→Runs P (args.length+(fi.ntmps-args.length)) b cs fi.body (fun i=>gt (args++List.replicate (fi.ntmps-args.length) undV) i) h e tm' h') :
    ∀ φ w args',VRs φ args args'→Rel φ h w→Goes P g ⟨args'⟩ w (Aft φ h w (tup l) h'):=by
  intro φ w args' ha r kind cs hk
  obtain ⟨fn,e1,e2,e3,e4⟩:=ok.fn _ _ hE
  have hundef:∀ n,VRs φ (List.replicate n undV) (List.replicate n undef):=by
    intro n
    induction n with
    | zero=>exact .nil
    | succ n ih=>exact .cons _ _ _ _ .und ih
  have hlen:=ha.length
  have hL:VRs φ (args++List.replicate (fi.ntmps-args.length) undV) (args'++List.replicate (fi.ntmps-args'.length) undef):=ha.append (by rw [hlen];exact hundef _)
  have hf:F0 (args'.length+(fi.ntmps-args'.length)) φ h w (fun i=>gt (args++List.replicate (fi.ntmps-args.length) undV) i) ⟨⟨args'++List.replicate (fi.ntmps-args'.length) undef⟩,[]⟩:=
    ⟨by simp,fun t=>by have:=hL.getD t;simpa [gt_def,junk,undef,Array.getD_eq_getD_getElem?,List.getD_eq_getElem?_getD] using this,r,rfl⟩
  let b:Frame:={ (default:Frame) with fn:=g,kind:=kind,roundOf:=none }
  have hent:Frame.enter P g ⟨args'⟩ kind=b.atR ⟨⟨args'++List.replicate (fi.ntmps-args'.length) undef⟩,[]⟩ [.code fi.body]:=by
    have:(⟨args'⟩:Array Value)++Array.replicate (fi.ntmps-args'.length) undef=⟨args'++List.replicate (fi.ntmps-args'.length) undef⟩:=by
      apply Array.ext';simp
    simp [Frame.enter,Frame.atR,b,e1,e2,e3,this]
  rw [← hlen] at hf hent
  obtain ⟨φ₁,a₁,w₁,g2,g3,g4⟩:=hr b cs hk rfl [] φ w _ hf
  have fin:(∃ todo,Steps P (lone (Frame.enter P g ⟨args'⟩ kind) cs w) (lone { b.atR a₁ todo with mode:=.returning } cs w₁)) →
      ∃ fr v' w',Aft φ h w (tup l) h' v' w'∧fr.fn=g∧Steps P (lone (Frame.enter P g ⟨args'⟩ kind) cs w) (lone fr cs w')∧Gone P kind fr w' v':=by
    intro ⟨todo,hs⟩
    obtain ⟨v',m1,m2⟩:=resultsF_sound ok g3 (fn:=fn) (by rw [e4];exact hres)
    exact ⟨{ b.atR a₁ todo with mode:=.returning },v',w₁,⟨φ₁,m2,g3.rel,g4⟩,rfl,hs,rfl,g3.dfs,rfl,fn,e1,m1⟩
  rcases he with rfl|rfl
  · exact fin ⟨[],by rw [hent];exact Steps.trans g2 (.one (stepR_end rfl))⟩
  · obtain ⟨k',hs⟩:=g2
    exact fin ⟨_,by rw [hent];exact hs.trans (.one (stepR_ret rfl))⟩
def sumM:List Int→Nat→Int
  | [],_=>0
  | x::l,S=>bif Nat.beq (S % 2) 1 then x+sumM l (S/2) else sumM l (S/2)
def seenM:List Nat→Nat→List Nat
  | [],_=>[]
  | x::l,S=>bif Nat.beq (S % 2) 1 then x::seenM l (S/2) else seenM l (S/2)
def cardM:Nat→Nat→Nat
  | 0,_=>0
  | k+1,S=>S % 2+cardM k (S/2)
def mT (acc:Nat) (keep:List Nat) (ws:List Int) (tm:Tm) (S:Nat):Tm:=fun i=>bif Nat.beq i acc then .int .i64 (sumM ws S) else bif memL i keep then tm i else junk
def mH (r m cl δ:Nat) (bs:List Nat) (h:AH) (S:Nat):AH:=⟨h.next+δ*cardM bs.length S,h.mem.put r (some (.iter m cl (seenM bs S) none cl)),h.df⟩
def omSub:PT AObj→PT AObj→Bool
  | .leaf,_=>true
  | .node v l r,.node v' l' r'=>(match v with|none=>true|some x=>subI x v') && omSub l l' && omSub r r'
  | .node none l r,.leaf=>omSub l .leaf && omSub r .leaf
  | .node (some _) _ _,.leaf=>false
theorem subI_none {o:AObj}:subI o none=false:=by
  cases o with
  | iter m s l c cl=>cases c <;> rfl
  | _=>rfl
theorem omSub_get:∀ {t t':PT AObj},omSub t t'=true→∀ i o,t.get i=some o→subI o (t'.get i)=true
  | .leaf,_,_,i,o,h=>by rw [PT.get_leaf] at h;cases h
  | .node a l r,.node a' l' r',hs,i,o,h=>by
    simp only [omSub,Bool.and_eq_true] at hs
    obtain ⟨⟨h1,h2⟩,h3⟩:=hs
    simp only [PT.get] at h ⊢
    cases e1:Nat.beq i 0 with
    | true=>
      rw [e1,cond_true] at h
      subst h
      simpa using h1
    | false=>
      rw [e1,cond_false] at h
      rw [cond_false]
      cases e2:Nat.beq (i % 2) 1 with
      | true=>rw [e2,cond_true] at h;rw [cond_true];exact omSub_get h2 _ _ h
      | false=>rw [e2,cond_false] at h;rw [cond_false];exact omSub_get h3 _ _ h
  | .node none l r,.leaf,hs,i,o,h=>by
    simp only [omSub,Bool.and_eq_true] at hs
    simp only [PT.get] at h
    cases e1:Nat.beq i 0 with
    | true=>rw [e1,cond_true] at h;cases h
    | false=>
      rw [e1,cond_false] at h
      cases e2:Nat.beq (i % 2) 1 with
      | true=>rw [e2,cond_true] at h;have:=omSub_get hs.1 _ _ h;rw [PT.get_leaf,subI_none] at this;cases this
      | false=>rw [e2,cond_false] at h;have:=omSub_get hs.2 _ _ h;rw [PT.get_leaf,subI_none] at this;cases this
  | .node (some _) _ _,.leaf,hs,_,_,_=>by cases hs
theorem keepB_spec {tmc tm:Tm}:∀ {l:List Nat},keepB tmc tm l=true→∀ i ∈ l,tmc i=tm i
  | [],_,i,h=>by cases h
  | j::l,hl,i,h=>by
    simp only [keepB,Bool.and_eq_true] at hl
    rcases List.mem_cons.1 h with rfl|h
    · exact vEq_eq _ _ _ hl.1
    · exact keepB_spec hl.2 i h
def covB (acc:Nat) (keep:List Nat) (tmc:Tm) (hc:AH) (tm:Tm) (h:AH):Bool:=keepB tmc tm (acc::keep) && Nat.beq hc.next h.next && omSub hc.mem h.mem
theorem covB_spec {acc:Nat} {keep:List Nat} {ws:List Int} {tm₀ tm:Tm} {S:Nat} {hc h:AH} (hb:covB acc keep (mT acc keep ws tm₀ S) hc tm h=true):Cov (mT acc keep ws tm₀ S) hc tm h:=by
  unfold covB at hb
  simp only [Bool.and_eq_true] at hb
  obtain ⟨⟨h1,h2⟩,h3⟩:=hb
  have hk:=keepB_spec h1
  refine ⟨fun i=>?_,nat_beq h2,fun x o hx=>omSub_get h3 x o hx⟩
  cases e1:Nat.beq i acc with
  | true=>rw [nat_beq e1];exact .inr (hk acc (List.mem_cons_self ..))
  | false=>
    cases e2:memL i keep with
    | true=>exact .inr (hk i (List.mem_cons_of_mem _ (memL_iff.1 e2)))
    | false=>left;simp only [mT,e1,e2,cond_false]
def fsN:Fs:=List.replicate 1000 none
def upB (f:Nat→Bool):Nat→Bool
  | 0=>true
  | n+1=>upB f n && f n
theorem upB_spec {f:Nat→Bool}:∀ {n:Nat},upB f n=true→∀ i,i<n→f i=true
  | 0,_,i,h=>by omega
  | n+1,hl,i,h=>by
    simp only [upB,Bool.and_eq_true] at hl
    by_cases e:i=n
    · subst e;exact hl.2
    · exact upB_spec hl.1 i (by omega)
end
end
end Go.Den
namespace Go.Den
noncomputable section
def exL (E:Env) (C:Oracle) (n:Nat):List Code→Tm→AH→Option (Tm × AH)
  | [],tm,h=>some (tm,h)
  | x::l,tm,h=>match exC E C n x tm h fsN [] with
    | some (.normal,tm',h',_,[])=>exL E C n l tm' h'
    | _=>none
def isEnd:Ex→Bool
  | .exit _=>false
  | .goto _=>false
  | _=>true
def mapStep (E:Env) (C:Oracle) (nt:Nat) (z:Code) (d₁ d₂ acc:Nat) (keep:List Nat) (ws:List Int) (tmL:Tm) (hL:AH) (r m cl δ:Nat) (es:List (Value × Value)) (bs:List Nat) (lim S i:Nat):Bool:=
  match es[i]?,bs[i]? with
  | some (ky,u),some x=>memL x (seenM bs S) || (match exC E C nt z (stoF (stoF (mT acc keep ws tmL S) (some d₁) (.tuple ⟨[.bool true,ky,u]⟩)) (some d₂) (.bool true)) ((mH r m cl δ bs hL S).put r (some (.iter m cl (x::seenM bs S) (some x) cl))) fsN [] with
    | some (.normal,tm',h',_,[])=>Nat.ble (S+2 ^ i+1) lim && covB acc keep (mT acc keep ws tmL (S+2 ^ i)) (mH r m cl δ bs hL (S+2 ^ i)) tm' h'
    | _=>false)
  | _,_=>true
def mapEnd (E:Env) (C:Oracle) (fi:FI) (nt:Nat) (z Bc:Code) (e₀ d₁ d₂ acc:Nat) (keep:List Nat) (ws:List Int) (tmL:Tm) (hL:AH) (r m cl δ:Nat) (bs:List Nat) (S:Nat) (L:OL) (n:Nat) (v:Value) (L':OL) (n':Nat):Bool:=
  match exC E C nt z (stoF (stoF (mT acc keep ws tmL S) (some d₁) (.tuple ⟨[.bool false]⟩)) (some d₂) (.bool false)) (mH r m cl δ bs hL S) fsN [] with
  | some (.exit e₁,tmE,hE,_,[])=>Nat.beq e₁ e₀ && (match exC E C nt Bc tmE hE fsN [] with
    | some (e,tmF,hF,_,[])=>isEnd e && (match resF E tmF hF fi.results.toList with
      | some l=>chkRun (some (tup l,hF)) L n v L' n'
      | none=>false)
    | _=>false)
  | _=>false
def mapChk (E:Env) (C:Oracle) (fi:FI) (As As₂:List Code) (z Bc:Code) (e₀ it d₁ d₂ acc:Nat) (keep:List Nat) (ws:List Int) (δ lim:Nat) (args:List Value) (L:OL) (n:Nat) (v:Value) (L':OL) (n':Nat):Bool:=
  let nt:=args.length+(fi.ntmps-args.length)
  match exL E C nt (As++As₂) (fun i=>gt (args++List.replicate (fi.ntmps-args.length) undV) i) (ofL L n) with
  | some (tmL,hL)=>match tmL it with
    | .pointer (some ⟨r,0,none⟩)=>match hL.get r with
      | some (.iter m _ _ _ cl)=>match hL.get m with
        | some (.map es bs cl')=>
          Nat.beq cl cl' && belowB cl bs && Nat.ble n r && !Nat.beq m r && memL it keep && !Nat.beq it acc && Nat.ble (d₁+1) nt && Nat.ble (d₂+1) nt && Nat.ble 1 lim &&
          covB acc keep (mT acc keep ws tmL 0) (mH r m cl δ bs hL 0) tmL hL &&
          upB (fun S=>upB (fun i=>mapStep E C nt z d₁ d₂ acc keep ws tmL hL r m cl δ es bs lim S i) es.length) lim &&
          upB (fun S=>Nat.beq S (lim-1) || !subS (seenM bs S) bs) lim &&
          mapEnd E C fi nt z Bc e₀ d₁ d₂ acc keep ws tmL hL r m cl δ bs (lim-1) L n v L' n'
        | _=>false
      | _=>false
    | _=>false
  | none=>false
section
variable {P:Program} {E:Env} {C:Oracle} {v:Value} {b:Frame} {cs:List Frame} {ops:Array Oper} {n:Nat}
theorem runs_exL (ok:EnvOK P E) (hC:Sound P C) (hk:okKind b.kind cs) (hro:b.roundOf=none) {c:Code} {e:Ex} {tm':Tm} {h':AH}:∀ (l:List Code) {tm tm₁:Tm} {h h₁:AH},exL E C n l tm h=some (tm₁,h₁)→Runs P n b cs c tm₁ h₁ e tm' h'→Runs P n b cs (seqs l c) tm h e tm' h'
  | [],_,_,_,_,hl,hr=>by cases hl;exact hr
  | x::l,tm,tm₁,h,h₁,hl,hr=>by
    simp only [exL] at hl
    split at hl
    · rename_i hx
      exact (runs_of_exC ok hC hk hro hx (fun p hp=>by cases hp)).seq (runs_exL ok hC hk hro l hl hr)
    · cases hl
theorem exL_append {tm tm':Tm} {h h':AH}:∀ (l m:List Code),exL E C n (l++m) tm h=some (tm',h')→∃ tm₁ h₁,exL E C n l tm h=some (tm₁,h₁)∧exL E C n m tm₁ h₁=some (tm',h')
  | [],m,hl=>⟨tm,h,rfl,hl⟩
  | x::l,m,hl=>by
    simp only [List.cons_append,exL] at hl ⊢
    split at hl
    · exact exL_append l m hl
    · cases hl
theorem subS_of {l m:List Nat} (h:∀ x ∈ m,x ∈ l):subS l m=true:=by
  induction m with
  | nil=>rfl
  | cons x m ih=>
    simp only [subS,Bool.and_eq_true]
    exact ⟨memL_iff.2 (h x (List.mem_cons_self ..)),ih fun y hy=>h y (List.mem_cons_of_mem _ hy)⟩
theorem mapRun (ok:EnvOK P E) (hC:Sound P C) {g:FuncId} {fi:FI} (hE:E.fn g=some fi) {As As₂:List Code} {z Bc:Code} {id it d₁ d₂ e₀:Nat} {o₀ o₁:Oper} (hbody:fi.body=seqs As (.seq (seqs As₂ (.block e₀ (.loop (.seq (.region id ops false) z)))) Bc))
    (ho:ops=#[o₀,o₁]) (h0:o₀.op=.next (.tmp it) false) (h0d:o₀.dst=some d₁) (h0g:o₀.guard=none) (h1:o₁.op=.extract (.tmp d₁) 0) (h1d:o₁.dst=some d₂) (h1g:o₁.guard=none)
    {acc:Nat} {keep:List Nat} {ws:List Int} {δ lim:Nat} {args:List Value} {L L':OL} {n':Nat} (hc:mapChk E C fi As As₂ z Bc e₀ it d₁ d₂ acc keep ws δ lim args L n v L' n'=true):Run P g args L n v L' n':=by
  unfold mapChk at hc
  simp only at hc
  split at hc
  · rename_i tmL hL hAs
    split at hc
    · rename_i r hitL
      split at hc
      · rename_i m since seen0 cur cl hr
        split at hc
        · rename_i es bs cl' hm
          simp only [Bool.and_eq_true,Bool.not_eq_true'] at hc
          obtain ⟨⟨⟨⟨⟨⟨⟨⟨⟨⟨⟨⟨q1,q2⟩,q3⟩,q4⟩,q5⟩,q6⟩,q7⟩,q8⟩,q9⟩,q10⟩,q11⟩,q12⟩,q13⟩:=hc
          have ecl:=nat_beq q1
          subst ecl
          have hmr:m≠r:=by rintro rfl;rw [Nat.beq_refl] at q4;cases q4
          have hnr:n≤r:=Nat.le_of_ble_eq_true q3
          have hlim0:0<lim:=Nat.le_of_ble_eq_true q9
          unfold mapEnd at q13
          split at q13
          · rename_i e₁ tmE hEE fs1 hlastx
            simp only [Bool.and_eq_true] at q13
            obtain ⟨p1,p2⟩:=q13
            have ee:=nat_beq p1
            subst ee
            split at p2
            · rename_i e tmF hF fs2 hBx
              simp only [Bool.and_eq_true] at p2
              obtain ⟨p3,p4⟩:=p2
              split at p4
              · rename_i l hres
                refine run_of_goes (goes_of_runs ok hE (e:=e) (tm':=tmF) (h':=hF) (by cases e <;> first|exact .inl rfl|exact .inr rfl|cases p3) hres fun b cs hk hro=>?_) p4
                have hget:∀ S x,(mH r m cl δ bs hL S).get x=if x=r then some (.iter m cl (seenM bs S) none cl) else hL.get x:=fun S x=>PT.get_put _ _ _ _
                have hit:∀ S,mT acc keep ws tmL S it=.pointer (some ⟨r,0,none⟩):=fun S=>by simp only [mT,q6,q5,cond_false,cond_true];exact hitL
                have loop:=mapLoop (P:=P) (E:=E) (C:=C) (b:=b) (cs:=cs) (n:=args.length+(fi.ntmps-args.length)) (id:=id) (e₀:=e₁) (z:=z) (cT:=mT acc keep ws tmL) (cH:=mH r m cl δ bs hL) (seen:=seenM bs) (valid:=fun S=>S<lim) (lim:=lim) (tmE:=tmE) (hE:=hEE)
                  ok hC hro ho h0 h0d h0g h1 h1d h1g (Nat.le_of_ble_eq_true q7) (Nat.le_of_ble_eq_true q8) q2 hit (fun S=>by rw [hget,if_pos rfl]) (fun S=>by rw [hget,if_neg hmr];exact hm) (fun S S' x hx=>by rw [hget,hget,if_neg hx,if_neg hx])
                  (fun S hS i ky u x k1 k2 k3=>by
                    have hi:i<es.length:=(List.getElem?_eq_some_iff.1 k1).1
                    have hst:=upB_spec (upB_spec q11 S hS) i hi
                    unfold mapStep at hst
                    rw [k1,k2] at hst
                    simp only [Bool.or_eq_true] at hst
                    rcases hst with hst|hst
                    · exact absurd (memL_iff.1 hst) k3
                    · split at hst
                      · rename_i tm' h' fs3 hx
                        simp only [Bool.and_eq_true] at hst
                        refine ⟨S+2 ^ i,tm',h',Nat.le_of_ble_eq_true hst.1,Nat.lt_add_of_pos_right (Nat.two_pow_pos i),runs_of_exC ok hC hk hro hx (fun p hp=>by cases hp),covB_spec hst.2⟩
                      · cases hst)
                  (fun S hS hall=>by
                    have hq:=upB_spec q12 S hS
                    simp only [Bool.or_eq_true,Bool.not_eq_true'] at hq
                    rcases hq with hq|hq
                    · have e:=nat_beq hq
                      subst e
                      exact runs_of_exC ok hC hk hro hlastx (fun p hp=>by cases hp)
                    · rw [subS_of hall] at hq;cases hq)
                  (fun S hS=>hS) lim 0 (by omega) hlim0
                rw [hbody]
                obtain ⟨tm₁,h₁,hA1,hA2⟩:=exL_append _ _ hAs
                have hcov:=covB_spec q10
                have full:Runs P (args.length+(fi.ntmps-args.length)) b cs (.block e₁ (.loop (.seq (.region id ops false) z))) tmL hL .normal tmE hEE:=by
                  intro k φ w a hf
                  have hr0:φ r≠none:=by
                    have hx:=hf.tms it
                    rw [hitL] at hx
                    generalize a.tmps.getD it undef=xx at hx
                    cases hx with
                    | ptr _ _ r' s T hφ=>rw [hφ];simp
                  obtain ⟨φ',a',w',g1,g2,g3⟩:=Runs.block loop k φ w a (hf.cov hcov)
                  refine ⟨φ',a',w',g1,g2,((Fwd.refl φ hL w).cov hcov fun x _ hn=>?_).trans hf.rel g3⟩
                  rw [hget,if_neg (by rintro rfl;exact hr0 hn)]
                exact runs_exL ok hC hk hro As hA1 ((runs_exL ok hC hk hro As₂ hA2 full).seq (runs_of_exC ok hC hk hro hBx (fun p hp=>by cases hp)))
              · cases p4
            · cases p2
          · cases q13
        · cases hc
      · cases hc
    · cases hc
  · cases hc
end
end
end Go.Den
namespace Go.Den
noncomputable section
def stepsF (E:Env) (C:Oracle) (D:Drawer) (fn:FuncId):Nat→List Value→List Item→AH→Option (List Value × List Item × AH)
  | 0,tm,k,h=>some (tm,k,h)
  | n+1,tm,k,h=>match fstep E C D fn none tm k h with
    | some (.next tm' k' h')=>stepsF E C D fn n tm' k' h'
    | _=>none
def finF (E:Env) (C:Oracle) (fi:FI) (df:List Deferred) (r:Option (Option Code × List Value × AH)):Option (Value × AH):=
  match r with
  | some (_,tm,h₁)=>match runDf E C h₁.df (h₁.wdf []) with
    | some h₂=>match resV E tm h₂ fi.results.toList with
      | some l=>some (tup l,h₂.wdf df)
      | none=>none
    | none=>none
  | none=>none
section
variable {E:Env} {C:Oracle} {D:Drawer} {fn:FuncId} {tm tm' tm'':List Value} {k k' k'':List Item} {h h' h'':AH}
theorem frun_steps:∀ {n m:Nat} {tm:List Value} {k:List Item} {h:AH},stepsF E C D fn n tm k h=some (tm',k',h')→frun E C D fn none (n+m) tm k h=frun E C D fn none m tm' k' h'
  | 0,m,tm,k,h,hl=>by cases hl;rw [Nat.zero_add]
  | n+1,m,tm,k,h,hl=>by
    rw [Nat.add_right_comm]
    simp only [stepsF] at hl
    simp only [frun]
    split at hl
    · rename_i hx
      rw [hx]
      exact frun_steps hl
    · cases hl
theorem steps_trans:∀ {n m:Nat} {tm:List Value} {k:List Item} {h:AH},stepsF E C D fn n tm k h=some (tm',k',h')→stepsF E C D fn m tm' k' h'=some (tm'',k'',h'')→stepsF E C D fn (n+m) tm k h=some (tm'',k'',h'')
  | 0,m,tm,k,h,hl,h2=>by cases hl;rw [Nat.zero_add];exact h2
  | n+1,m,tm,k,h,hl,h2=>by
    rw [Nat.add_right_comm]
    simp only [stepsF] at hl ⊢
    split at hl
    · rename_i hx
      exact steps_trans hl h2
    · cases hl
theorem chk_steps {g:FuncId} {fi:FI} (hf:E.fn g=some fi) {N n m:Nat} {args:List Value} {L L':OL} {u n':Nat} {v:Value} (hN:Nat.beq (n+m) N=true)
    (hs:stepsF E C D g n (args++List.replicate (fi.ntmps-args.length) undV) [.code fi.body] (ofL L u)=some (tm',k',h'))
    (hc:chkRun (finF E C fi [] (frun E C D g none m tm' k' h')) L u v L' n'=true):chkRun (denF E C D N g args (ofL L u)) L u v L' n'=true:=by
  have e:=Nat.eq_of_beq_eq_true hN
  subst e
  have h1:(ofL L u).wdf []=ofL L u:=rfl
  have:denF E C D (n+m) g args (ofL L u)=finF E C fi [] (frun E C D g none m tm' k' h'):=by
    unfold denF finF
    rw [hf]
    simp only []
    rw [h1,frun_steps hs]
    rfl
  rw [this];exact hc
end
end
end Go.Den
