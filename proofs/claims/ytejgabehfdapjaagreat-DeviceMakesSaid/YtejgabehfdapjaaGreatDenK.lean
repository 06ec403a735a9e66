/- Code with foretold operations and foretold loops; bytes in memory; a slice of bytes that a law is called with. Conditions: none. -/
import Derived.Test.YtejgabehfdapjaaGreatDenJ
import Derived.SizedLaws
import Derived.ChangeArms
namespace Go.Den
noncomputable section
abbrev Fo:=List (Nat × Value × Option AH)
def tell:Fo→Nat→Option (Value × Option AH)
  | [],_=>none
  | (i,v,g)::l,k=>bif Nat.beq i k then some (v,g) else tell l k
def newH (g:Option AH) (h:AH):AH:=match g with | some h'=>h' | none=>h
def exV (x:Option (Value × AH)) (h:AH) (fo:Fo) (k:Nat) (cs:Ct):Option (Value × AH × Ct):=
  match tell fo k with
  | some (v,g)=>some (v,newH g h,(x,(v,newH g h))::cs)
  | none=>match x with
    | some (v,h')=>some (v,h',cs)
    | none=>none
def sxGrp (E:Env) (C:Oracle) (fo:Fo):List Oper→Tm→AH→Nat→Ct→Option (Tm × AH × Nat × Ct)
  | [],tm,h,k,cs=>some (tm,h,k,cs)
  | o::os,tm,h,k,cs=>match exV (xop0 E C o.op (aevF tm) h) h fo k cs with
    | some (v,h',cs')=>sxGrp E C fo os (stoF tm o.dst v) h' (k+1) cs'
    | none=>none
def sxReg (E:Env) (C:Oracle) (fo:Fo) (all:List Oper):Nat→List Oper→Tm→AH→Nat→Ct→Option (Tm × AH × Nat × Ct)
  | _,[],tm,h,k,cs=>some (tm,h,k,cs)
  | 0,_,_,_,_,_=>none
  | f+1,o::os,tm,h,k,cs=>match o.guard with
    | none=>match exV (xop0 E C o.op (aevF tm) h) h fo k cs with
      | some (v,h',cs')=>sxReg E C fo all f os (stoF tm o.dst v) h' (k+1) cs'
      | none=>none
    | some (j,want)=>match (all[j]?).bind (·.dst) with
      | some d=>bif inG j want d o then match vGuard want (tm d) with
        | some true=>match sxGrp E C fo (spanG j want d (o::os)) tm h k cs with
          | some (tm',h',k',cs')=>sxReg E C fo all f (restG j want d (o::os)) tm' h' k' cs'
          | none=>none
        | some false=>sxReg E C fo all f (restG j want d (o::os)) (skpF (spanG j want d (o::os)) tm) h k cs
        | none=>none
        else none
      | none=>none
def opTV (E:Env) (C:Oracle) (all:List Oper) (base i:Nat) (o:Oper) (tm:Tm) (h:AH):Option (Value × AH):=
  match wantedF all tm o with
  | some true=>match cls o.op with
    | 0=>match pv (aop E o.op (aevF tm) h) with
      | some v=>some (v,h)
      | none=>none
    | 1=>xop E C false o.op (aevF tm) h
    | _=>match mkObj E o.op (aevF tm) with
      | some (ob,mk)=>some (mk (base+i),h.put (base+i) (some ob))
      | none=>none
  | some false=>some (undV,h)
  | none=>none
def sxDrw (E:Env) (C:Oracle) (fo:Fo) (all:List Oper) (base:Nat):List Oper→Nat→Tm→AH→Nat→Ct→Option (Tm × AH × Nat × Ct)
  | [],_,tm,h,k,cs=>some (tm,h,k,cs)
  | o::os,i,tm,h,k,cs=>match exV (opTV E C all base i o tm h) h fo k cs with
    | some (v,h',cs')=>sxDrw E C fo all base os (i+1) (stoF tm o.dst v) h' (k+1) cs'
    | none=>none
abbrev SX:=Option (Ex × Tm × AH × Nat × Ct)
def sxLoop (f:Tm→AH→Nat→Ct→SX):Nat→Tm→AH→Nat→Ct→SX
  | 0,_,_,_,_=>none
  | m+1,tm,h,k,cs=>match f tm h k cs with
    | some (.normal,tm,h,k,cs)=>sxLoop f m tm h k cs
    | r=>r
def sxC (E:Env) (C:Oracle) (n N:Nat) (fo:Fo):Code→Tm→AH→Nat→Ct→SX
  | .skip,tm,h,k,cs=>some (.normal,tm,h,k,cs)
  | .label _,tm,h,k,cs=>some (.normal,tm,h,k,cs)
  | .seq x y,tm,h,k,cs=>match sxC E C n N fo x tm h k cs with
    | some (.normal,tm,h,k,cs)=>sxC E C n N fo y tm h k cs
    | r=>r
  | .cond c x y,tm,h,k,cs=>match vBool (aevF tm c) with
    | some true=>sxC E C n N fo x tm h k cs
    | some false=>sxC E C n N fo y tm h k cs
    | none=>none
  | .block id x,tm,h,k,cs=>match sxC E C n N fo x tm h k cs with
    | some (.exit id',tm,h,k,cs)=>bif Nat.beq id' id then some (.normal,tm,h,k,cs) else some (.exit id',tm,h,k,cs)
    | r=>r
  | .loop x,tm,h,k,cs=>sxLoop (fun tm h k cs=>sxC E C n N fo x tm h k cs) N tm h k cs
  | .scope x,tm,h,k,cs=>match sxC E C n N fo x tm h k cs with
    | some (.goto _,_,_,_,_)=>none
    | r=>r
  | .exit id,tm,h,k,cs=>some (.exit id,tm,h,k,cs)
  | .ret,tm,h,k,cs=>some (.ret,tm,h,k,cs)
  | .region _ ops false,tm,h,k,cs=>bif dstOK n ops.toList then (match sxReg E C fo ops.toList ops.toList.length ops.toList tm h k cs with
    | some (tm,h,k,cs)=>some (.normal,tm,h,k,cs)
    | none=>none) else none
  | .region _ ops true,tm,h,k,cs=>bif drawOK n ops.toList then (match sxDrw E C fo ops.toList h.next ops.toList 0 (cutF n tm) { next:=h.next+ops.toList.length,mem:=h.mem,df:=[] } k cs with
    | some (tm,h,k,cs)=>some (.normal,tm,h,k,cs)
    | none=>none) else none
  | _,_,_,_,_=>none
section
variable {E:Env} {C:Oracle} {n N:Nat} {fo:Fo}
theorem exV_sound {x:Option (Value × AH)} {h h':AH} {v:Value} {k:Nat} {cs cs':Ct} (hl:exV x h fo k cs=some (v,h',cs')) (hg:GoodC cs'):x=some (v,h')∧GoodC cs:=by
  unfold exV at hl
  split at hl
  · cases hl
    exact ⟨hg _ (List.mem_cons_self ..),fun p hp=>hg p (List.mem_cons_of_mem _ hp)⟩
  · split at hl
    · cases hl;exact ⟨rfl,hg⟩
    · cases hl
theorem sxGrp_sound:∀ (os:List Oper) {tm tm':Tm} {h h':AH} {k k':Nat} {cs cs':Ct},sxGrp E C fo os tm h k cs=some (tm',h',k',cs')→GoodC cs'→(∀ K,grpF E C os K tm h=K tm' h')∧GoodC cs
  | [],_,_,_,_,_,_,_,_,hl,hg=>by cases hl;exact ⟨fun _=>rfl,hg⟩
  | o::os,tm,tm',h,h',k,k',cs,cs',hl,hg=>by
    simp only [sxGrp] at hl
    split at hl
    · rename_i v h₁ cs₁ hx
      obtain ⟨h1,h2⟩:=sxGrp_sound os hl hg
      obtain ⟨h3,h4⟩:=exV_sound hx h2
      refine ⟨fun K=>?_,h4⟩
      simp only [grpF]
      rw [opK_of_xop0 h3]
      exact h1 K
    · cases hl
theorem sxReg_sound {all:List Oper}:∀ (f:Nat) (os:List Oper) {tm tm':Tm} {h h':AH} {k k':Nat} {cs cs':Ct},sxReg E C fo all f os tm h k cs=some (tm',h',k',cs')→GoodC cs'→(∀ K,regF E C all f os K tm h=K tm' h')∧GoodC cs:=by
  intro f
  induction f with
  | zero=>
    intro os tm tm' h h' k k' cs cs' hl hg
    cases os with
    | nil=>cases hl;exact ⟨fun _=>rfl,hg⟩
    | cons=>cases hl
  | succ f ih=>
    intro os tm tm' h h' k k' cs cs' hl hg
    cases os with
    | nil=>cases hl;exact ⟨fun _=>rfl,hg⟩
    | cons o os=>
      simp only [sxReg] at hl
      split at hl
      · rename_i hgn
        split at hl
        · rename_i v h₁ cs₁ hx
          obtain ⟨h1,h2⟩:=ih _ hl hg
          obtain ⟨h3,h4⟩:=exV_sound hx h2
          refine ⟨fun K=>?_,h4⟩
          simp only [regF,hgn]
          rw [opK_of_xop0 h3]
          exact h1 K
        · cases hl
      · rename_i j want hgj
        split at hl
        · rename_i d hjd
          cases hb:inG j want d o with
          | false=>rw [hb] at hl;cases hl
          | true=>
            rw [hb,cond_true] at hl
            split at hl
            · rename_i hv
              split at hl
              · rename_i hx
                obtain ⟨h1,h2⟩:=ih _ hl hg
                obtain ⟨h3,h4⟩:=sxGrp_sound _ hx h2
                refine ⟨fun K=>?_,h4⟩
                simp only [regF,hgj,hjd,hb,cond_true,hv]
                rw [h3];exact h1 K
              · cases hl
            · rename_i hv
              obtain ⟨h1,h2⟩:=ih _ hl hg
              refine ⟨fun K=>?_,h2⟩
              simp only [regF,hgj,hjd,hb,cond_true,hv]
              exact h1 K
            · cases hl
        · cases hl
theorem opTF_of_opTV {all:List Oper} {base i:Nat} {o:Oper} {tm:Tm} {h h':AH} {v:Value} {K:Value→AH→Res} (hx:opTV E C all base i o tm h=some (v,h')):opTF E C all base i o tm h K=K v h':=by
  unfold opTV at hx
  unfold opTF
  split at hx
  · rename_i hw
    rw [hw]
    simp only
    split at hx
    · rename_i hc
      rw [hc]
      simp only
      split at hx
      · rename_i hp;cases hx;rw [hp]
      · cases hx
    · rename_i hc
      rw [hc]
      simp only
      rw [hx]
    · rename_i hc0 hc1
      split
      · rename_i hc;exact absurd hc hc0
      · rename_i hc;exact absurd hc hc1
      · split at hx
        · rename_i hp;cases hx;rw [hp]
        · cases hx
  · rename_i hw;cases hx;rw [hw]
  · cases hx
theorem sxDrw_sound {all:List Oper} {base:Nat}:∀ (os:List Oper) (i:Nat) {tm tm':Tm} {h h':AH} {k k':Nat} {cs cs':Ct},sxDrw E C fo all base os i tm h k cs=some (tm',h',k',cs')→GoodC cs'→(∀ K,drawF E C all base os i K tm h=K tm' h')∧GoodC cs
  | [],_,_,_,_,_,_,_,_,_,hl,hg=>by cases hl;exact ⟨fun _=>rfl,hg⟩
  | o::os,i,tm,tm',h,h',k,k',cs,cs',hl,hg=>by
    simp only [sxDrw] at hl
    split at hl
    · rename_i v h₁ cs₁ hx
      obtain ⟨h1,h2⟩:=sxDrw_sound os (i+1) hl hg
      obtain ⟨h3,h4⟩:=exV_sound hx h2
      refine ⟨fun K=>?_,h4⟩
      simp only [drawF]
      rw [opTF_of_opTV h3]
      exact h1 K
    · cases hl
theorem sxLoop_sound {x:Code} (ih:∀ {tm tm':Tm} {h h':AH} {k k':Nat} {cs cs':Ct} {e:Ex},sxC E C n N fo x tm h k cs=some (e,tm',h',k',cs')→GoodC cs'→(∀ K,evF E C n N x K tm h=K e tm' h')∧GoodC cs) :
    ∀ (m:Nat) {tm tm':Tm} {h h':AH} {k k':Nat} {cs cs':Ct} {e:Ex},sxLoop (fun tm h k cs=>sxC E C n N fo x tm h k cs) m tm h k cs=some (e,tm',h',k',cs')→GoodC cs' →
      (∀ K,loopK m (fun G=>evF E C n N x (thenK G K)) tm h=K e tm' h')∧GoodC cs:=by
  intro m
  induction m with
  | zero=>intro tm tm' h h' k k' cs cs' e hl;cases hl
  | succ m ihm=>
    intro tm tm' h h' k k' cs cs' e hl hg
    simp only [sxLoop] at hl
    split at hl
    · rename_i hx
      obtain ⟨h1,h2⟩:=ihm hl hg
      obtain ⟨h3,h4⟩:=ih hx h2
      refine ⟨fun K=>?_,h4⟩
      simp only [loopK]
      rw [h3]
      exact h1 K
    · rename_i hn
      obtain ⟨h3,h4⟩:=ih hl hg
      refine ⟨fun K=>?_,h4⟩
      simp only [loopK]
      rw [h3]
      cases e with
      | normal=>exact absurd hl (hn _ _ _ _)
      | exit id=>rfl
      | ret=>rfl
      | goto l=>rfl
theorem sxC_sound:∀ (c:Code) {tm tm':Tm} {h h':AH} {k k':Nat} {cs cs':Ct} {e:Ex},sxC E C n N fo c tm h k cs=some (e,tm',h',k',cs')→GoodC cs'→(∀ K,evF E C n N c K tm h=K e tm' h')∧GoodC cs:=by
  intro c
  induction c with
  | skip=>intro tm tm' h h' k k' cs cs' e hl hg;cases hl;exact ⟨fun _=>rfl,hg⟩
  | label l=>intro tm tm' h h' k k' cs cs' e hl hg;cases hl;exact ⟨fun _=>rfl,hg⟩
  | exit id=>intro tm tm' h h' k k' cs cs' e hl hg;cases hl;exact ⟨fun _=>rfl,hg⟩
  | ret=>intro tm tm' h h' k k' cs cs' e hl hg;cases hl;exact ⟨fun _=>rfl,hg⟩
  | seq x y ihx ihy=>
    intro tm tm' h h' k k' cs cs' e hl hg
    simp only [sxC] at hl
    split at hl
    · rename_i hx
      obtain ⟨h1,h2⟩:=ihy hl hg
      obtain ⟨h3,h4⟩:=ihx hx h2
      exact ⟨fun K=>by simp only [evF];rw [h3];exact h1 K,h4⟩
    · rename_i hn
      obtain ⟨h3,h4⟩:=ihx hl hg
      refine ⟨fun K=>?_,h4⟩
      simp only [evF]
      rw [h3]
      cases e with
      | normal=>exact absurd hl (hn _ _ _ _)
      | exit id=>rfl
      | ret=>rfl
      | goto l=>rfl
  | cond c x y ihx ihy=>
    intro tm tm' h h' k k' cs cs' e hl hg
    simp only [sxC] at hl
    split at hl
    · rename_i hv
      obtain ⟨h1,h2⟩:=ihx hl hg
      exact ⟨fun K=>by simp only [evF,hv];exact h1 K,h2⟩
    · rename_i hv
      obtain ⟨h1,h2⟩:=ihy hl hg
      exact ⟨fun K=>by simp only [evF,hv];exact h1 K,h2⟩
    · cases hl
  | block id x ih=>
    intro tm tm' h h' k k' cs cs' e hl hg
    simp only [sxC] at hl
    split at hl
    · rename_i id' tm₁ h₁ k₁ cs₁ hx
      cases hb:Nat.beq id' id with
      | true=>
        rw [hb,cond_true] at hl;cases hl
        obtain ⟨h1,h2⟩:=ih hx hg
        exact ⟨fun K=>by simp only [evF];rw [h1];simp only [blockK,hb,cond_true],h2⟩
      | false=>
        rw [hb,cond_false] at hl;cases hl
        obtain ⟨h1,h2⟩:=ih hx hg
        exact ⟨fun K=>by simp only [evF];rw [h1];simp only [blockK,hb,cond_false],h2⟩
    · rename_i hn
      obtain ⟨h1,h2⟩:=ih hl hg
      refine ⟨fun K=>?_,h2⟩
      simp only [evF]
      rw [h1]
      cases e with
      | normal=>rfl
      | exit id'=>exact absurd hl (hn _ _ _ _ _)
      | ret=>rfl
      | goto l=>rfl
  | scope x ih=>
    intro tm tm' h h' k k' cs cs' e hl hg
    simp only [sxC] at hl
    split at hl
    · cases hl
    · rename_i hn
      obtain ⟨h1,h2⟩:=ih hl hg
      refine ⟨fun K=>?_,h2⟩
      simp only [evF]
      rw [h1]
      cases e with
      | normal=>rfl
      | exit id=>rfl
      | ret=>rfl
      | goto l=>exact absurd hl (hn _ _ _ _ _)
  | loop x ih=>
    intro tm tm' h h' k k' cs cs' e hl hg
    exact sxLoop_sound ih N hl hg
  | region id ops draw=>
    intro tm tm' h h' k k' cs cs' e hl hg
    cases draw with
    | true=>
      simp only [sxC] at hl
      cases hn:drawOK n ops.toList with
      | false=>rw [hn] at hl;cases hl
      | true=>
        rw [hn,cond_true] at hl
        split at hl
        · rename_i hx
          cases hl
          obtain ⟨h1,h2⟩:=sxDrw_sound _ _ hx hg
          exact ⟨fun K=>by simp only [evF,hn,cond_true];exact h1 _,h2⟩
        · cases hl
    | false=>
      simp only [sxC] at hl
      cases hn:dstOK n ops.toList with
      | false=>rw [hn] at hl;cases hl
      | true=>
        rw [hn,cond_true] at hl
        split at hl
        · rename_i hx
          cases hl
          obtain ⟨h1,h2⟩:=sxReg_sound _ _ hx hg
          exact ⟨fun K=>by simp only [evF,hn,cond_true];exact h1 _,h2⟩
        · cases hl
  | _=>intro tm tm' h h' k k' cs cs' e hl hg;cases hl
def SX.e:SX→Ex | some (e,_)=>e | none=>.ret
def SX.t:SX→Tm | some (_,t,_)=>t | none=>fun _=>junk
def SX.h:SX→AH | some (_,_,h,_)=>h | none=>⟨0,.leaf,[]⟩
def SX.c:SX→Ct | some (_,_,_,_,c)=>c | none=>[]
def Sx (E:Env) (C:Oracle) (n N:Nat) (fo:Fo) (c:Code) (tm:Tm) (h:AH) (e:Ex) (t:Tm) (h':AH) (cs:Ct):Prop:=∃ k,sxC E C n N fo c tm h 0 []=some (e,t,h',k,cs)
theorem Sx.on {c:Code} {tm t:Tm} {h h':AH} {e:Ex} {cs:Ct} (hx:Sx E C n N fo c tm h e t h' cs) (hg:GoodC cs) (K:Kont):evF E C n N c K tm h=K e t h':=
  hx.elim fun _ hk=>(sxC_sound c hk hg).1 K
def sxG (E:Env) (C:Oracle) (N:Nat) (fo:Fo) (g:FuncId) (args:List Value) (h:AH):Option (Value × AH × Ct):=
  match E.fn g with
  | some fi=>match sxC E C (args.length+(fi.ntmps - args.length)) N fo fi.body (fun i=>gt (args++List.replicate (fi.ntmps - args.length) undV) i) h 0 [] with
    | some (.exit _,_,_,_,_)=>none
    | some (.goto _,_,_,_,_)=>none
    | some (_,tm,h',_,cs)=>match resF E tm h' fi.results.toList with
      | some l=>some (tup l,h',cs)
      | none=>none
    | none=>none
  | none=>none
end
end
end Go.Den
namespace Go.Den
noncomputable section
section
variable {P:Program} {E:Env} {C:Oracle} {φ:Phi} {h h₁ h₂:AH} {w:World} {v:Value}
theorem Aft.sub {v':Value} {w':World} (ha:Aft φ h w v h₁ v' w') (hn:h₂.next=h₁.next) (hs:∀ b,h₂.get b≠none→h₁.get b=h₂.get b) (hu:∀ b,b < h.next→h₂.get b=h.get b):Aft φ h w v h₂ v' w':=by
  obtain ⟨φ',hv,r,f⟩:=ha
  have lwr:∀ b,wrB (h₂.get b)=true→wrB (h₁.get b)=true:=fun b hb=>by rw [hs b (wrB_live hb)];exact hb
  refine ⟨φ',hv,⟨fun b b' s T hb=>?_,fun b₁ b₂ b' s₁ s₂ g1 g2 l1 l2=>?_,fun b b' s hb=>?_,fun b hb=>?_,fun b g c hb=>r.gl b g c (by rw [hs b (by rw [hb];simp)];exact hb)⟩,⟨?_,f.ext,fun b hb hn'=>⟨(f.unm b hb hn').1,hu b hb⟩,f.fresh,fun b hb hl=>?_,fun b hb hl=>f.lw b hb (lwr b hl),f.sz,f.os,f.out,f.keep⟩⟩
  · cases e:h₂.get b with
    | none=>trivial
    | some o=>rw [← e,← hs b (by rw [e];simp)];exact r.blk _ _ _ _ hb
  · exact r.inj _ _ _ _ _ g1 g2 (by rw [hs _ l1];exact l1) (by rw [hs _ l2];exact l2)
  · rw [hn];exact r.bnd _ _ _ hb
  · rw [hn] at hb
    cases e:h₂.get b with
    | none=>rfl
    | some o=>have:=hs b (by rw [e];simp);rw [r.lim b hb,e] at this;cases this
  · rw [hn];exact f.nx
  · exact f.liv b hb (by rw [hs b hl];exact hl)
theorem told_of (ok:EnvOK P E) (hC:Sound P C) {g:FuncId} {f:List Value→AH→Res}
    (H:∀ args h v h₂,f args h=some (v,h₂)→(∀ b,h.next≤b→h.get b=none)→∃ N h₁,denG E C N g args h=some (v,h₁)∧h₂.next=h₁.next∧(∀ b,h₂.get b≠none→h₁.get b=h₂.get b)∧∀ b,b < h.next→h₂.get b=h.get b):Told P g f:=by
  intro args h v h₂ hl φ w args' ha r
  obtain ⟨N,h₁,h1,h2,h3,h4⟩:=H args h v h₂ hl r.lim
  exact pure_goes.Goes.mono' ((denG_goes ok hC h1).2 φ w args' ha r) fun v' w' hA=>hA.sub h2 h3 h4
theorem PT.upd_upd {α:Type} (x y:Option α):∀ (f k:Nat) (t:PT α),PT.upd f (PT.upd f t k x) k y=PT.upd f t k y
  | 0,_,_=>rfl
  | f+1,k,t=>by
    simp only [PT.upd]
    cases h0:Nat.beq k 0 with
    | true=>rfl
    | false=>
      simp only [cond_false]
      cases h1:Nat.beq (k % 2) 1 with
      | true=>simp only [cond_true,PT.val,PT.left,PT.right];rw [PT.upd_upd x y f]
      | false=>simp only [cond_false,PT.val,PT.left,PT.right];rw [PT.upd_upd x y f]
theorem AH.put_put (h:AH) (b:Nat) (x y:Option AObj):(h.put b x).put b y=h.put b y:=by
  show (⟨h.next,PT.upd (b+1) (PT.upd (b+1) h.mem b x) b y,h.df⟩:AH)=⟨h.next,PT.upd (b+1) h.mem b y,h.df⟩
  rw [PT.upd_upd]
theorem AH.new_put (h:AH) (x y:AObj):(h.new x).put h.next (some y)=h.new y:=by
  show (⟨h.next+1,PT.upd (h.next+1) (PT.upd (h.next+1) h.mem h.next (some x)) h.next (some y),h.df⟩:AH)=⟨h.next+1,PT.upd (h.next+1) h.mem h.next (some y),h.df⟩
  rw [PT.upd_upd]
theorem puts_snoc:∀ (l:List Value) (c:PT Value) (o:Nat) (v:Value),PT.puts c o (l++[v])=(PT.puts c o l).put (o+l.length) (some v)
  | [],c,o,v=>rfl
  | x::l,c,o,v=>by
    simp only [List.cons_append,PT.puts,List.length_cons]
    rw [puts_snoc l,show o+1+l.length=o+(l.length+1) by omega]
theorem Aft.part {v':Value} {w':World} (ha:Aft φ h w v h₁ v' w') (hn:h₂.next=h₁.next) (hs:∀ b,h₂.get b≠none→h₁.get b=h₂.get b) (hu:∀ b,b < h.next→h₂.get b=h.get b∨h₂.get b=h₁.get b):Aft φ h w v h₂ v' w':=by
  obtain ⟨φ',hv,r,f⟩:=ha
  have lwr:∀ b,wrB (h₂.get b)=true→wrB (h₁.get b)=true:=fun b hb=>by rw [hs b (wrB_live hb)];exact hb
  refine ⟨φ',hv,⟨fun b b' s T hb=>?_,fun b₁ b₂ b' s₁ s₂ g1 g2 l1 l2=>?_,fun b b' s hb=>?_,fun b hb=>?_,fun b g c hb=>r.gl b g c (by rw [hs b (by rw [hb];simp)];exact hb)⟩,⟨?_,f.ext,fun b hb hn'=>⟨(f.unm b hb hn').1,?_⟩,f.fresh,fun b hb hl=>?_,fun b hb hl=>f.lw b hb (lwr b hl),f.sz,f.os,f.out,f.keep⟩⟩
  · cases e:h₂.get b with
    | none=>trivial
    | some o=>rw [← e,← hs b (by rw [e];simp)];exact r.blk _ _ _ _ hb
  · exact r.inj _ _ _ _ _ g1 g2 (by rw [hs _ l1];exact l1) (by rw [hs _ l2];exact l2)
  · rw [hn];exact r.bnd _ _ _ hb
  · rw [hn] at hb
    cases e:h₂.get b with
    | none=>rfl
    | some o=>have:=hs b (by rw [e];simp);rw [r.lim b hb,e] at this;cases this
  · rw [hn];exact f.nx
  · rcases hu b hb with e | e
    · exact e
    · rw [e];exact (f.unm b hb hn').2
  · exact f.liv b hb (by rw [hs b hl];exact hl)
def AH.up (h:AH) (k:Nat):AH:=⟨h.next+k,h.mem,h.df⟩
theorem AH.up_get (h:AH) (k b:Nat):(h.up k).get b=h.get b:=rfl
theorem AH.new_next (h:AH) (o:AObj):(h.new o).next=h.next+1:=rfl
def Ext (h h':AH):Prop:=∀ b,h.get b≠none→h'.get b=h.get b
theorem Ext.refl (h:AH):Ext h h:=fun _ _=>rfl
theorem Ext.trans {a b c:AH} (x:Ext a b) (y:Ext b c):Ext a c:=fun i hi=>by
  rw [y i (by rw [x i hi];exact hi),x i hi]
theorem Ext.new {h:AH} (hl:∀ b,h.next≤b→h.get b=none) (o:AObj):Ext h (h.new o):=fun b hb=>by
  rw [AH.get_new,if_neg]
  rintro rfl
  exact hb (hl _ (Nat.le_refl _))
theorem Ext.up (h:AH) (k:Nat):Ext h (h.up k):=fun _ _=>rfl
theorem Ext.cell {h h':AH} (x:Ext h h') {b o:Nat} {v:Value} (hc:h.cell b o=some v):h'.cell b o=some v:=by
  rcases AH.cell_get hc with ⟨c,n,t,h1,h2⟩ | ⟨c,h1 | ⟨g,h1⟩,h2⟩
  · have h3:=x b (by rw [h1];simp)
    have h4:h'.mem.get b=some (.cells c n t):=h3.trans h1
    unfold AH.cell
    rw [h4];exact h2
  · have h3:=x b (by rw [h1];simp)
    have h4:h'.mem.get b=some (.ro c):=h3.trans h1
    unfold AH.cell
    rw [h4];exact h2
  · have h3:=x b (by rw [h1];simp)
    have h4:h'.mem.get b=some (.glob g c):=h3.trans h1
    unfold AH.cell
    rw [h4];exact h2
end
def u32 (n:Nat):Value:=.int .u32 (.ofNat n)
def u8 (n:Nat):Value:=.int .u8 (.ofNat n)
def i64 (n:Nat):Value:=.int .i64 (.ofNat n)
def ptr (b o:Nat):Value:=.pointer (some ⟨b,o,none⟩)
def sl (b o n c:Nat):Value:=.slice (some ⟨b,o,none⟩) n c
def natB:Value→Option Nat
  | .int .u8 (.ofNat x)=>bif Nat.blt x 256 then some x else none
  | _=>none
def natsB:List Value→Option (List Nat)
  | []=>some []
  | v::l=>(natB v).bind fun x=>(natsB l).bind fun xs=>some (x::xs)
theorem natB_inv {v:Value} {x:Nat} (h:natB v=some x):v=u8 x∧x < 256:=by
  unfold natB at h
  split at h
  · rename_i y
    cases hb:Nat.blt y 256 with
    | false=>rw [hb] at h;cases h
    | true=>
      rw [hb] at h;cases h
      exact ⟨rfl,by have:=Nat.le_of_ble_eq_true hb;omega⟩
  · cases h
theorem natB_u8 {x:Nat} (h:x < 256):natB (u8 x)=some x:=by
  have:Nat.blt x 256=true:=by simp [Nat.blt];omega
  show (bif Nat.blt x 256 then some x else none)=some x
  rw [this];rfl
theorem natsB_inv:∀ {l:List Value} {xs:List Nat},natsB l=some xs→l=xs.map u8∧∀ x ∈ xs,x < 256
  | [],xs,h=>by cases h;exact ⟨rfl,fun x hx=>by cases hx⟩
  | v::l,xs,h=>by
    simp only [natsB] at h
    cases h1:natB v with
    | none=>rw [h1] at h;cases h
    | some x=>
      rw [h1] at h
      simp only [Option.bind_some] at h
      cases h2:natsB l with
      | none=>rw [h2] at h;cases h
      | some ys=>
        rw [h2] at h;cases h
        obtain ⟨rfl,h3⟩:=natB_inv h1
        obtain ⟨rfl,h4⟩:=natsB_inv h2
        refine ⟨rfl,fun y hy=>?_⟩
        rcases List.mem_cons.1 hy with rfl | hy
        · exact h3
        · exact h4 y hy
theorem natsB_u8:∀ {xs:List Nat},(∀ x ∈ xs,x < 256)→natsB (xs.map u8)=some xs
  | [],_=>rfl
  | x::xs,h=>by
    simp only [List.map_cons,natsB,natB_u8 (h x (List.mem_cons_self ..)),Option.bind_some,natsB_u8 fun y hy=>h y (List.mem_cons_of_mem _ hy)]
def Bys (h:AH) (b o:Nat) (xs:List Nat):Prop:=∀ i x,xs[i]?=some x→x < 256∧h.cell b (o+i)=some (u8 x)
theorem Bys.lt {h:AH} {b o:Nat} {xs:List Nat} (hb:Bys h b o xs):∀ x ∈ xs,x < 256:=fun x hx=>by
  obtain ⟨i,hi⟩:=List.getElem?_of_mem hx
  exact (hb i x hi).1
theorem Bys.tail {h:AH} {b o x:Nat} {xs:List Nat} (hb:Bys h b o (x::xs)):Bys h b (o+1) xs:=fun i y hy=>by
  have:=hb (i+1) y (by simpa using hy)
  rw [show o+(i+1)=o+1+i by omega] at this
  exact this
theorem Bys.cells {h:AH} {b:Nat}:∀ {xs:List Nat} {o:Nat},Bys h b o xs→h.cellsN b o xs.length=some (xs.map u8)
  | [],_,_=>rfl
  | x::xs,o,hb=>by
    have h0:=(hb 0 x rfl).2
    rw [Nat.add_zero] at h0
    simp only [List.length_cons,AH.cellsN,h0,Option.bind_some,hb.tail.cells,List.map_cons]
theorem cellsN_get {h:AH} {b:Nat}:∀ {n o:Nat} {l:List Value},h.cellsN b o n=some l→l.length=n∧∀ i v,l[i]?=some v→h.cell b (o+i)=some v
  | 0,o,l,hl=>by cases hl;exact ⟨rfl,fun i v hi=>by simp at hi⟩
  | n+1,o,l,hl=>by
    simp only [AH.cellsN] at hl
    cases h1:h.cell b o with
    | none=>rw [h1] at hl;cases hl
    | some v=>
      rw [h1] at hl
      simp only [Option.bind_some] at hl
      cases h2:h.cellsN b (o+1) n with
      | none=>rw [h2] at hl;cases hl
      | some l'=>
        rw [h2] at hl;cases hl
        obtain ⟨h3,h4⟩:=cellsN_get h2
        refine ⟨by simp [h3],fun i u hi=>?_⟩
        cases i with
        | zero=>simp at hi;subst hi;exact h1
        | succ i=>have:=h4 i u (by simpa using hi);rw [show o+(i+1)=o+1+i by omega];exact this
theorem Bys.of_cells {h:AH} {b o n:Nat} {l:List Value} {xs:List Nat} (hl:h.cellsN b o n=some l) (hx:natsB l=some xs):Bys h b o xs∧xs.length=n:=by
  obtain ⟨h1,h2⟩:=cellsN_get hl
  obtain ⟨rfl,h3⟩:=natsB_inv hx
  rw [List.length_map] at h1
  refine ⟨fun i x hi=>⟨h3 x (List.mem_of_getElem? hi),?_⟩,h1⟩
  exact h2 i (u8 x) (by simp [hi])
theorem Bys.ext {h h':AH} (x:Ext h h') {b o:Nat} {xs:List Nat} (hb:Bys h b o xs):Bys h' b o xs:=fun i y hy=>⟨(hb i y hy).1,x.cell (hb i y hy).2⟩
theorem Bys.drop {h:AH} {b o:Nat} {xs:List Nat} (hb:Bys h b o xs) (k:Nat):Bys h b (o+k) (xs.drop k):=fun i y hy=>by
  rw [List.getElem?_drop] at hy
  have:=hb (k+i) y hy
  rw [show o+(k+i)=o+k+i by omega] at this
  exact this
theorem Bys.take {h:AH} {b o:Nat} {xs:List Nat} (hb:Bys h b o xs) (k:Nat):Bys h b o (xs.take k):=fun i y hy=>by
  rw [List.getElem?_take] at hy
  split at hy
  · exact hb i y hy
  · cases hy
def rdSl:Value→AH→Option (List Nat)
  | .slice none 0 0,_=>some []
  | .slice (some ⟨b,o,none⟩) n _,h=>(h.cellsN b o n).bind natsB
  | _,_=>none
theorem rdSl_sl {h:AH} {b o n c:Nat} {xs:List Nat} (hx:rdSl (sl b o n c) h=some xs):Bys h b o xs∧xs.length=n:=by
  have hx':(h.cellsN b o n).bind natsB=some xs:=hx
  cases h1:h.cellsN b o n with
  | none=>rw [h1] at hx';cases hx'
  | some l=>rw [h1] at hx';exact Bys.of_cells h1 hx'
theorem sl_rdSl {h:AH} {b o c:Nat} {xs:List Nat} (hb:Bys h b o xs):rdSl (sl b o xs.length c) h=some xs:=by
  show (h.cellsN b o xs.length).bind natsB=some xs
  rw [hb.cells]
  exact natsB_u8 hb.lt
theorem wr_lt {k:IntKind} {m:Nat} (h:m < ikLim k):wr k (.ofNat m)=.ofNat m:=by
  rw [wr_eq];exact wrap_small k m h
theorem wr_i64 {m:Nat} (h:m < 2 ^ 63):wr .i64 (.ofNat m)=.ofNat m:=wr_lt (by show _ < 9223372036854775808;omega)
theorem ix_lt {i n:Nat} (h:i < n):ixOk (.ofNat i) n=some i:=by
  have:Nat.blt i n=true:=by simp [Nat.blt];omega
  show (bif Nat.blt i n then some i else none)=some i
  rw [this];rfl
theorem blt_t {i n:Nat} (h:i < n):Nat.blt i n=true:=by simp [Nat.blt];omega
theorem blt_f {i n:Nat} (h:n≤i):Nat.blt i n=false:=by
  cases e:Nat.blt i n with
  | false=>rfl
  | true=>simp [Nat.blt] at e;omega
theorem ble_t {i n:Nat} (h:i≤n):Nat.ble i n=true:=Nat.ble_eq_true_of_le h
theorem ble_f {i n:Nat} (h:n < i):Nat.ble i n=false:=by
  cases e:Nat.ble i n with
  | false=>rfl
  | true=>have:=Nat.le_of_ble_eq_true e;omega
end
end Go.Den
namespace Go.Den
noncomputable section
abbrev Ps:=List Prop
def GoodP' (cs:Ps):Prop:=∀ p ∈ cs,p
abbrev Lo:=List (Nat × Ex × Tm × AH)
def tellL:Lo→Nat→Option (Ex × Tm × AH)
  | [],_=>none
  | (i,x)::l,k=>bif Nat.beq i k then some x else tellL l k
def eyV (x:Option (Value × AH)) (h:AH) (fo:Fo) (k:Nat) (cs:Ps):Option (Value × AH × Ps):=
  match tell fo k with
  | some (v,g)=>some (v,newH g h,(x=some (v,newH g h))::cs)
  | none=>match x with
    | some (v,h')=>some (v,h',cs)
    | none=>none
def syGrp (E:Env) (C:Oracle) (fo:Fo):List Oper→Tm→AH→Nat→Ps→Option (Tm × AH × Nat × Ps)
  | [],tm,h,k,cs=>some (tm,h,k,cs)
  | o::os,tm,h,k,cs=>match eyV (xop0 E C o.op (aevF tm) h) h fo k cs with
    | some (v,h',cs')=>syGrp E C fo os (stoF tm o.dst v) h' (k+1) cs'
    | none=>none
def syReg (E:Env) (C:Oracle) (fo:Fo) (all:List Oper):Nat→List Oper→Tm→AH→Nat→Ps→Option (Tm × AH × Nat × Ps)
  | _,[],tm,h,k,cs=>some (tm,h,k,cs)
  | 0,_,_,_,_,_=>none
  | f+1,o::os,tm,h,k,cs=>match o.guard with
    | none=>match eyV (xop0 E C o.op (aevF tm) h) h fo k cs with
      | some (v,h',cs')=>syReg E C fo all f os (stoF tm o.dst v) h' (k+1) cs'
      | none=>none
    | some (j,want)=>match (all[j]?).bind (·.dst) with
      | some d=>bif inG j want d o then match vGuard want (tm d) with
        | some true=>match syGrp E C fo (spanG j want d (o::os)) tm h k cs with
          | some (tm',h',k',cs')=>syReg E C fo all f (restG j want d (o::os)) tm' h' k' cs'
          | none=>none
        | some false=>syReg E C fo all f (restG j want d (o::os)) (skpF (spanG j want d (o::os)) tm) h k cs
        | none=>none
        else none
      | none=>none
def syDrw (E:Env) (C:Oracle) (fo:Fo) (all:List Oper) (base:Nat):List Oper→Nat→Tm→AH→Nat→Ps→Option (Tm × AH × Nat × Ps)
  | [],_,tm,h,k,cs=>some (tm,h,k,cs)
  | o::os,i,tm,h,k,cs=>match eyV (opTV E C all base i o tm h) h fo k cs with
    | some (v,h',cs')=>syDrw E C fo all base os (i+1) (stoF tm o.dst v) h' (k+1) cs'
    | none=>none
abbrev SY:=Option (Ex × Tm × AH × Nat × Ps)
def syLoop (f:Tm→AH→Nat→Ps→SY):Nat→Tm→AH→Nat→Ps→SY
  | 0,_,_,_,_=>none
  | m+1,tm,h,k,cs=>match f tm h k cs with
    | some (.normal,tm,h,k,cs)=>syLoop f m tm h k cs
    | r=>r
def sy0 (E:Env) (C:Oracle) (n:Nat) (fo:Fo):Code→Tm→AH→Nat→Ps→SY
  | .skip,tm,h,k,cs=>some (.normal,tm,h,k,cs)
  | .label _,tm,h,k,cs=>some (.normal,tm,h,k,cs)
  | .seq x y,tm,h,k,cs=>match sy0 E C n fo x tm h k cs with
    | some (.normal,tm,h,k,cs)=>sy0 E C n fo y tm h k cs
    | r=>r
  | .cond c x y,tm,h,k,cs=>match vBool (aevF tm c) with
    | some true=>sy0 E C n fo x tm h k cs
    | some false=>sy0 E C n fo y tm h k cs
    | none=>none
  | .exit id,tm,h,k,cs=>some (.exit id,tm,h,k,cs)
  | .ret,tm,h,k,cs=>some (.ret,tm,h,k,cs)
  | .region _ ops false,tm,h,k,cs=>bif dstOK n ops.toList then (match syReg E C fo ops.toList ops.toList.length ops.toList tm h k cs with
    | some (tm,h,k,cs)=>some (.normal,tm,h,k,cs)
    | none=>none) else none
  | _,_,_,_,_=>none
def syC (E:Env) (C:Oracle) (n N:Nat) (fo:Fo) (lo:Lo):Code→Tm→AH→Nat→Ps→SY
  | .skip,tm,h,k,cs=>some (.normal,tm,h,k,cs)
  | .label _,tm,h,k,cs=>some (.normal,tm,h,k,cs)
  | .seq x y,tm,h,k,cs=>match syC E C n N fo lo x tm h k cs with
    | some (.normal,tm,h,k,cs)=>syC E C n N fo lo y tm h k cs
    | r=>r
  | .cond c x y,tm,h,k,cs=>match vBool (aevF tm c) with
    | some true=>syC E C n N fo lo x tm h k cs
    | some false=>syC E C n N fo lo y tm h k cs
    | none=>none
  | .block id x,tm,h,k,cs=>match syC E C n N fo lo x tm h k cs with
    | some (.exit id',tm,h,k,cs)=>bif Nat.beq id' id then some (.normal,tm,h,k,cs) else some (.exit id',tm,h,k,cs)
    | r=>r
  | .loop x,tm,h,k,cs=>match tellL lo k with
    | some (e,tm',h')=>some (e,tm',h',k+1,(∀ K:Kont,loopK N (fun G=>evF E C n N x (thenK G K)) tm h=K e tm' h')::cs)
    | none=>syLoop (fun tm h k cs=>syC E C n N fo lo x tm h k cs) N tm h k cs
  | .goto l,tm,h,k,cs=>some (.goto l,tm,h,k,cs)
  | .scope x,tm,h,k,cs=>match syC E C n N fo lo x tm h k cs with
    | some (.goto l,tm,h,k,cs)=>(match findLabel x l with
      | some rest=>sy0 E C n fo rest tm h k cs
      | none=>none)
    | r=>r
  | .exit id,tm,h,k,cs=>some (.exit id,tm,h,k,cs)
  | .ret,tm,h,k,cs=>some (.ret,tm,h,k,cs)
  | .region _ ops false,tm,h,k,cs=>bif dstOK n ops.toList then (match syReg E C fo ops.toList ops.toList.length ops.toList tm h k cs with
    | some (tm,h,k,cs)=>some (.normal,tm,h,k,cs)
    | none=>none) else none
  | .region _ ops true,tm,h,k,cs=>bif drawOK n ops.toList then (match syDrw E C fo ops.toList h.next ops.toList 0 (cutF n tm) { next:=h.next+ops.toList.length,mem:=h.mem,df:=[] } k cs with
    | some (tm,h,k,cs)=>some (.normal,tm,h,k,cs)
    | none=>none) else none
  | _,_,_,_,_=>none
section
variable {E:Env} {C:Oracle} {n N:Nat} {fo:Fo} {lo:Lo}
theorem eyV_sound {x:Option (Value × AH)} {h h':AH} {v:Value} {k:Nat} {cs cs':Ps} (hl:eyV x h fo k cs=some (v,h',cs')) (hg:GoodP' cs'):x=some (v,h')∧GoodP' cs:=by
  unfold eyV at hl
  split at hl
  · cases hl
    exact ⟨hg _ (List.mem_cons_self ..),fun p hp=>hg p (List.mem_cons_of_mem _ hp)⟩
  · split at hl
    · cases hl;exact ⟨rfl,hg⟩
    · cases hl
theorem syGrp_sound:∀ (os:List Oper) {tm tm':Tm} {h h':AH} {k k':Nat} {cs cs':Ps},syGrp E C fo os tm h k cs=some (tm',h',k',cs')→GoodP' cs'→(∀ K,grpF E C os K tm h=K tm' h')∧GoodP' cs
  | [],_,_,_,_,_,_,_,_,hl,hg=>by cases hl;exact ⟨fun _=>rfl,hg⟩
  | o::os,tm,tm',h,h',k,k',cs,cs',hl,hg=>by
    simp only [syGrp] at hl
    split at hl
    · rename_i v h₁ cs₁ hx
      obtain ⟨h1,h2⟩:=syGrp_sound os hl hg
      obtain ⟨h3,h4⟩:=eyV_sound hx h2
      refine ⟨fun K=>?_,h4⟩
      simp only [grpF]
      rw [opK_of_xop0 h3]
      exact h1 K
    · cases hl
theorem syReg_sound {all:List Oper}:∀ (f:Nat) (os:List Oper) {tm tm':Tm} {h h':AH} {k k':Nat} {cs cs':Ps},syReg E C fo all f os tm h k cs=some (tm',h',k',cs')→GoodP' cs'→(∀ K,regF E C all f os K tm h=K tm' h')∧GoodP' cs:=by
  intro f
  induction f with
  | zero=>
    intro os tm tm' h h' k k' cs cs' hl hg
    cases os with
    | nil=>cases hl;exact ⟨fun _=>rfl,hg⟩
    | cons=>cases hl
  | succ f ih=>
    intro os tm tm' h h' k k' cs cs' hl hg
    cases os with
    | nil=>cases hl;exact ⟨fun _=>rfl,hg⟩
    | cons o os=>
      simp only [syReg] at hl
      split at hl
      · rename_i hgn
        split at hl
        · rename_i v h₁ cs₁ hx
          obtain ⟨h1,h2⟩:=ih _ hl hg
          obtain ⟨h3,h4⟩:=eyV_sound hx h2
          refine ⟨fun K=>?_,h4⟩
          simp only [regF,hgn]
          rw [opK_of_xop0 h3]
          exact h1 K
        · cases hl
      · rename_i j want hgj
        split at hl
        · rename_i d hjd
          cases hb:inG j want d o with
          | false=>rw [hb] at hl;cases hl
          | true=>
            rw [hb,cond_true] at hl
            split at hl
            · rename_i hv
              split at hl
              · rename_i hx
                obtain ⟨h1,h2⟩:=ih _ hl hg
                obtain ⟨h3,h4⟩:=syGrp_sound _ hx h2
                refine ⟨fun K=>?_,h4⟩
                simp only [regF,hgj,hjd,hb,cond_true,hv]
                rw [h3];exact h1 K
              · cases hl
            · rename_i hv
              obtain ⟨h1,h2⟩:=ih _ hl hg
              refine ⟨fun K=>?_,h2⟩
              simp only [regF,hgj,hjd,hb,cond_true,hv]
              exact h1 K
            · cases hl
        · cases hl
theorem syDrw_sound {all:List Oper} {base:Nat}:∀ (os:List Oper) (i:Nat) {tm tm':Tm} {h h':AH} {k k':Nat} {cs cs':Ps},syDrw E C fo all base os i tm h k cs=some (tm',h',k',cs')→GoodP' cs'→(∀ K,drawF E C all base os i K tm h=K tm' h')∧GoodP' cs
  | [],_,_,_,_,_,_,_,_,_,hl,hg=>by cases hl;exact ⟨fun _=>rfl,hg⟩
  | o::os,i,tm,tm',h,h',k,k',cs,cs',hl,hg=>by
    simp only [syDrw] at hl
    split at hl
    · rename_i v h₁ cs₁ hx
      obtain ⟨h1,h2⟩:=syDrw_sound os (i+1) hl hg
      obtain ⟨h3,h4⟩:=eyV_sound hx h2
      refine ⟨fun K=>?_,h4⟩
      simp only [drawF]
      rw [opTF_of_opTV h3]
      exact h1 K
    · cases hl
theorem syLoop_sound {x:Code} (ih:∀ {tm tm':Tm} {h h':AH} {k k':Nat} {cs cs':Ps} {e:Ex},syC E C n N fo lo x tm h k cs=some (e,tm',h',k',cs')→GoodP' cs'→(∀ K,evF E C n N x K tm h=K e tm' h')∧GoodP' cs) :
    ∀ (m:Nat) {tm tm':Tm} {h h':AH} {k k':Nat} {cs cs':Ps} {e:Ex},syLoop (fun tm h k cs=>syC E C n N fo lo x tm h k cs) m tm h k cs=some (e,tm',h',k',cs')→GoodP' cs' →
      (∀ K,loopK m (fun G=>evF E C n N x (thenK G K)) tm h=K e tm' h')∧GoodP' cs:=by
  intro m
  induction m with
  | zero=>intro tm tm' h h' k k' cs cs' e hl;cases hl
  | succ m ihm=>
    intro tm tm' h h' k k' cs cs' e hl hg
    simp only [syLoop] at hl
    split at hl
    · rename_i hx
      obtain ⟨h1,h2⟩:=ihm hl hg
      obtain ⟨h3,h4⟩:=ih hx h2
      refine ⟨fun K=>?_,h4⟩
      simp only [loopK]
      rw [h3]
      exact h1 K
    · rename_i hn
      obtain ⟨h3,h4⟩:=ih hl hg
      refine ⟨fun K=>?_,h4⟩
      simp only [loopK]
      rw [h3]
      cases e with
      | normal=>exact absurd hl (hn _ _ _ _)
      | exit id=>rfl
      | ret=>rfl
      | goto l=>rfl
theorem sy0_sound:∀ (c:Code) {tm tm':Tm} {h h':AH} {k k':Nat} {cs cs':Ps} {e:Ex},sy0 E C n fo c tm h k cs=some (e,tm',h',k',cs')→GoodP' cs'→(∀ K,evF0 E C n c K tm h=K e tm' h')∧GoodP' cs∧∀ l,e≠.goto l:=by
  intro c
  induction c with
  | skip=>intro tm tm' h h' k k' cs cs' e hl hg;cases hl;exact ⟨fun _=>rfl,hg,fun _ h=>by cases h⟩
  | label l=>intro tm tm' h h' k k' cs cs' e hl hg;cases hl;exact ⟨fun _=>rfl,hg,fun _ h=>by cases h⟩
  | exit id=>intro tm tm' h h' k k' cs cs' e hl hg;cases hl;exact ⟨fun _=>rfl,hg,fun _ h=>by cases h⟩
  | ret=>intro tm tm' h h' k k' cs cs' e hl hg;cases hl;exact ⟨fun _=>rfl,hg,fun _ h=>by cases h⟩
  | seq x y ihx ihy=>
    intro tm tm' h h' k k' cs cs' e hl hg
    simp only [sy0] at hl
    split at hl
    · rename_i hx
      obtain ⟨h1,h2,h5⟩:=ihy hl hg
      obtain ⟨h3,h4,_⟩:=ihx hx h2
      exact ⟨fun K=>by simp only [evF0];rw [h3];exact h1 K,h4,h5⟩
    · rename_i hn
      obtain ⟨h3,h4,h5⟩:=ihx hl hg
      refine ⟨fun K=>?_,h4,h5⟩
      simp only [evF0]
      rw [h3]
      cases e with
      | normal=>exact absurd hl (hn _ _ _ _)
      | exit id=>rfl
      | ret=>rfl
      | goto l=>rfl
  | cond c x y ihx ihy=>
    intro tm tm' h h' k k' cs cs' e hl hg
    simp only [sy0] at hl
    split at hl
    · rename_i hv
      obtain ⟨h1,h2,h3⟩:=ihx hl hg
      exact ⟨fun K=>by simp only [evF0,hv];exact h1 K,h2,h3⟩
    · rename_i hv
      obtain ⟨h1,h2,h3⟩:=ihy hl hg
      exact ⟨fun K=>by simp only [evF0,hv];exact h1 K,h2,h3⟩
    · cases hl
  | region id ops draw=>
    intro tm tm' h h' k k' cs cs' e hl hg
    cases draw with
    | true=>cases hl
    | false=>
      simp only [sy0] at hl
      cases hn:dstOK n ops.toList with
      | false=>rw [hn] at hl;cases hl
      | true=>
        rw [hn,cond_true] at hl
        split at hl
        · rename_i hx
          cases hl
          obtain ⟨h1,h2⟩:=syReg_sound _ _ hx hg
          exact ⟨fun K=>by simp only [evF0,hn,cond_true];exact h1 _,h2,fun _ h=>by cases h⟩
        · cases hl
  | _=>intro tm tm' h h' k k' cs cs' e hl hg;cases hl
theorem syC_sound:∀ (c:Code) {tm tm':Tm} {h h':AH} {k k':Nat} {cs cs':Ps} {e:Ex},syC E C n N fo lo c tm h k cs=some (e,tm',h',k',cs')→GoodP' cs'→(∀ K,evF E C n N c K tm h=K e tm' h')∧GoodP' cs:=by
  intro c
  induction c with
  | skip=>intro tm tm' h h' k k' cs cs' e hl hg;cases hl;exact ⟨fun _=>rfl,hg⟩
  | label l=>intro tm tm' h h' k k' cs cs' e hl hg;cases hl;exact ⟨fun _=>rfl,hg⟩
  | exit id=>intro tm tm' h h' k k' cs cs' e hl hg;cases hl;exact ⟨fun _=>rfl,hg⟩
  | ret=>intro tm tm' h h' k k' cs cs' e hl hg;cases hl;exact ⟨fun _=>rfl,hg⟩
  | seq x y ihx ihy=>
    intro tm tm' h h' k k' cs cs' e hl hg
    simp only [syC] at hl
    split at hl
    · rename_i hx
      obtain ⟨h1,h2⟩:=ihy hl hg
      obtain ⟨h3,h4⟩:=ihx hx h2
      exact ⟨fun K=>by simp only [evF];rw [h3];exact h1 K,h4⟩
    · rename_i hn
      obtain ⟨h3,h4⟩:=ihx hl hg
      refine ⟨fun K=>?_,h4⟩
      simp only [evF]
      rw [h3]
      cases e with
      | normal=>exact absurd hl (hn _ _ _ _)
      | exit id=>rfl
      | ret=>rfl
      | goto l=>rfl
  | cond c x y ihx ihy=>
    intro tm tm' h h' k k' cs cs' e hl hg
    simp only [syC] at hl
    split at hl
    · rename_i hv
      obtain ⟨h1,h2⟩:=ihx hl hg
      exact ⟨fun K=>by simp only [evF,hv];exact h1 K,h2⟩
    · rename_i hv
      obtain ⟨h1,h2⟩:=ihy hl hg
      exact ⟨fun K=>by simp only [evF,hv];exact h1 K,h2⟩
    · cases hl
  | block id x ih=>
    intro tm tm' h h' k k' cs cs' e hl hg
    simp only [syC] at hl
    split at hl
    · rename_i id' tm₁ h₁ k₁ cs₁ hx
      cases hb:Nat.beq id' id with
      | true=>
        rw [hb,cond_true] at hl;cases hl
        obtain ⟨h1,h2⟩:=ih hx hg
        exact ⟨fun K=>by simp only [evF];rw [h1];simp only [blockK,hb,cond_true],h2⟩
      | false=>
        rw [hb,cond_false] at hl;cases hl
        obtain ⟨h1,h2⟩:=ih hx hg
        exact ⟨fun K=>by simp only [evF];rw [h1];simp only [blockK,hb,cond_false],h2⟩
    · rename_i hn
      obtain ⟨h1,h2⟩:=ih hl hg
      refine ⟨fun K=>?_,h2⟩
      simp only [evF]
      rw [h1]
      cases e with
      | normal=>rfl
      | exit id'=>exact absurd hl (hn _ _ _ _ _)
      | ret=>rfl
      | goto l=>rfl
  | goto l=>intro tm tm' h h' k k' cs cs' e hl hg;cases hl;exact ⟨fun _=>rfl,hg⟩
  | scope x ih=>
    intro tm tm' h h' k k' cs cs' e hl hg
    simp only [syC] at hl
    split at hl
    · rename_i l tm₁ h₁ k₁ cs₁ hx
      split at hl
      · rename_i rest hf
        obtain ⟨h1,h2,h3⟩:=sy0_sound rest hl hg
        obtain ⟨h4,h5⟩:=ih hx h2
        refine ⟨fun K=>?_,h5⟩
        simp only [evF]
        rw [h4]
        simp only [scopeK,hf]
        rw [h1]
        cases e with
        | goto l'=>exact absurd rfl (h3 l')
        | _=>rfl
      · cases hl
    · rename_i hn
      obtain ⟨h1,h2⟩:=ih hl hg
      refine ⟨fun K=>?_,h2⟩
      simp only [evF]
      rw [h1]
      cases e with
      | normal=>rfl
      | exit id=>rfl
      | ret=>rfl
      | goto l=>exact absurd hl (hn _ _ _ _ _)
  | loop x ih=>
    intro tm tm' h h' k k' cs cs' e hl hg
    simp only [syC] at hl
    split at hl
    · cases hl
      exact ⟨fun K=>hg _ (List.mem_cons_self ..) K,fun p hp=>hg p (List.mem_cons_of_mem _ hp)⟩
    · exact syLoop_sound ih N hl hg
  | region id ops draw=>
    intro tm tm' h h' k k' cs cs' e hl hg
    cases draw with
    | true=>
      simp only [syC] at hl
      cases hn:drawOK n ops.toList with
      | false=>rw [hn] at hl;cases hl
      | true=>
        rw [hn,cond_true] at hl
        split at hl
        · rename_i hx
          cases hl
          obtain ⟨h1,h2⟩:=syDrw_sound _ _ hx hg
          exact ⟨fun K=>by simp only [evF,hn,cond_true];exact h1 _,h2⟩
        · cases hl
    | false=>
      simp only [syC] at hl
      cases hn:dstOK n ops.toList with
      | false=>rw [hn] at hl;cases hl
      | true=>
        rw [hn,cond_true] at hl
        split at hl
        · rename_i hx
          cases hl
          obtain ⟨h1,h2⟩:=syReg_sound _ _ hx hg
          exact ⟨fun K=>by simp only [evF,hn,cond_true];exact h1 _,h2⟩
        · cases hl
  | _=>intro tm tm' h h' k k' cs cs' e hl hg;cases hl
def SY.e:SY→Ex | some (e,_)=>e | none=>.ret
def SY.t:SY→Tm | some (_,t,_)=>t | none=>fun _=>junk
def SY.h:SY→AH | some (_,_,h,_)=>h | none=>⟨0,.leaf,[]⟩
def SY.c:SY→Ps | some (_,_,_,_,c)=>c | none=>[]
def Sy (E:Env) (C:Oracle) (n N:Nat) (fo:Fo) (lo:Lo) (c:Code) (tm:Tm) (h:AH) (e:Ex) (t:Tm) (h':AH) (cs:Ps):Prop:=∃ k,syC E C n N fo lo c tm h 0 []=some (e,t,h',k,cs)
theorem Sy.on {c:Code} {tm t:Tm} {h h':AH} {e:Ex} {cs:Ps} (hx:Sy E C n N fo lo c tm h e t h' cs) (hg:GoodP' cs) (K:Kont):evF E C n N c K tm h=K e t h':=
  hx.elim fun _ hk=>(syC_sound c hk hg).1 K
theorem goodY_nil:GoodP' []:=fun _ hp=>by cases hp
theorem goodY_cons {p:Prop} {cs:Ps} (hp:p) (hc:GoodP' cs):GoodP' (p::cs):=fun q hq=>by
  rcases List.mem_cons.1 hq with rfl | hq
  · exact hp
  · exact hc q hq
def syG (E:Env) (C:Oracle) (N:Nat) (fo:Fo) (lo:Lo) (g:FuncId) (args:List Value) (h:AH):Option (Value × AH × Ps):=
  match E.fn g with
  | some fi=>match syC E C (args.length+(fi.ntmps - args.length)) N fo lo fi.body (fun i=>gt (args++List.replicate (fi.ntmps - args.length) undV) i) h 0 [] with
    | some (.exit _,_,_,_,_)=>none
    | some (.goto _,_,_,_,_)=>none
    | some (_,tm,h',_,cs)=>match resF E tm h' fi.results.toList with
      | some l=>some (tup l,h',cs)
      | none=>none
    | none=>none
  | none=>none
theorem syG_sound {g:FuncId} {args:List Value} {h h':AH} {v:Value} {cs:Ps} (hl:syG E C N fo lo g args h=some (v,h',cs)) (hg:GoodP' cs):denG E C N g args h=some (v,h'):=by
  unfold syG at hl
  unfold denG
  split at hl
  · rename_i fi hf
    rw [hf]
    simp only
    split at hl
    · cases hl
    · cases hl
    · rename_i e tm h₁ k cs₁ hne hne2 hx
      split at hl
      · rename_i l hr
        cases hl
        obtain ⟨h1,_⟩:=syC_sound _ hx hg
        rw [h1]
        cases e with
        | exit id=>exact (hne _ rfl).elim
        | normal=>simp only [endK,hr]
        | ret=>simp only [endK,hr]
        | goto l=>exact (hne2 _ rfl).elim
      · cases hl
    · cases hl
  · cases hl
end
end
end Go.Den
namespace Go.Den
noncomputable section
section
variable {H:Type} {enc:TypeId × Value→H} {P:Program} {w:World}
theorem cells1 {a:Addr} {e:TypeId} {n:Nat} {spare:Nat→Bool} {x:DataW H × List MemPlace} (hb:(w.cells? 0 a 1).bind (DataW.trod enc P w 0 spare true n e)=some x):∃ v,w.cell? a=some v∧DataW.trod enc P w 0 spare true n e [v]=some x:=by
  have e0:Addr.add a 0=a:=rfl
  have hc:w.cells? 0 a 1=(w.cell? a).map fun v=>[v]:=by
    unfold World.cells?
    rw [if_pos (Nat.zero_le _)]
    show (List.range 1).mapM (fun i=>w.cell? (a.add i))=_
    rw [show List.range 1=[0] from rfl]
    simp [List.mapM_cons,e0]
    cases w.cell? a <;> rfl
  rw [hc] at hb
  cases hv:w.cell? a with
  | none=>rw [hv] at hb;cases hb
  | some v=>rw [hv] at hb;exact ⟨v,rfl,hb⟩
theorem byte_of {e:TypeId} {n:Nat} {v:Value} {spare:Nat→Bool} {x:DataW H × List MemPlace} (hu:P.underlying e=some (.int .u8)) (h:DataW.trod enc P w 0 spare true n e [v]=some x):∃ y,y < 256∧v=u8 y:=by
  obtain ⟨z,hz,_,hw⟩:=DataW.trod_int hu h
  simp only [List.cons.injEq,and_true] at hz
  subst hz
  simp only [Lit.wf,Bool.and_eq_true,decide_eq_true_eq] at hw
  obtain ⟨h1,h2⟩:=hw
  have h1':(0:Int)≤z:=h1
  have h2':z≤(255:Int):=h2
  exact ⟨z.toNat,by omega,by show Value.int .u8 z=.int .u8 (.ofNat z.toNat);congr 1;show z=(z.toNat:Int);omega⟩
theorem slice_bytes {t e:TypeId} {v:Value} {d:DataW H} {p:List MemPlace} {base:Nat} (ht:P.underlying t=some (.slice e)) (he:P.underlying e=some (.int .u8)) (hc:P.cellsOf e=1)
    (hv:Cell.okWide P w .any base t v) (hd:DataW.Trod enc P w 0 (fun _=>true) true t v d p) (hz:w.noneFrozen p) :
    v=.slice none 0 0∨∃ (b s c:Nat) (xs:List Nat),v=.slice (some ⟨b,s,none⟩) xs.length c∧xs.length≤c∧b < w.heap.size∧(∃ el sp,d=.slice el sp∧el.length=xs.length) ∧
      ∀ i x,xs[i]?=some x→x < 256∧w.cell? ⟨b,s+i,none⟩=some (u8 x)∧w.frozen? ⟨b,s+i,none⟩=false:=by
  rcases cell_slice ht hv with rfl | ⟨b,s,n,c,rfl,hn,hb⟩
  · exact .inl rfl
  · obtain ⟨fuel,hf⟩:=hd
    rcases DataW.trod_slice ht hf with ⟨hcs,_⟩ | ⟨a,len,cap,elems,rest,m,_,hcs,hx,_,_,_,hlen,hcell,_,_⟩
    · simp [Value.cells] at hcs
    · simp [Value.cells] at hcs
      obtain ⟨rfl,rfl,rfl⟩:=hcs
      simp only [Prod.mk.injEq] at hx
      obtain ⟨rfl,rfl⟩:=hx
      have hadd:∀ i,Addr.add ⟨b,s,none⟩ i=⟨b,s+i,none⟩:=fun i=>by
        unfold Addr.add
        split
        · simp_all
        · rfl
      have key:∀ i,i < n→∃ y,y < 256∧w.cell? ⟨b,s+i,none⟩=some (u8 y):=fun i hi=>by
        have h1:=hcell i hi
        rw [hc,Nat.mul_one,hadd] at h1
        have hi':i < elems.length:=by omega
        rw [List.getElem?_eq_getElem hi'] at h1
        obtain ⟨u,h2,h3⟩:=cells1 h1
        obtain ⟨y,h4,rfl⟩:=byte_of he h3
        exact ⟨y,h4,h2⟩
      have hex:∀ k,k≤n→∃ xs:List Nat,xs.length=k∧∀ i x,xs[i]?=some x→x < 256∧w.cell? ⟨b,s+i,none⟩=some (u8 x):=by
        intro k
        induction k with
        | zero=>exact fun _=>⟨[],rfl,fun i x h=>by simp at h⟩
        | succ k ih=>
          intro hk
          obtain ⟨xs,h1,h2⟩:=ih (by omega)
          obtain ⟨y,h3,h4⟩:=key k (by omega)
          refine ⟨xs++[y],by simp [h1],fun i x hi=>?_⟩
          by_cases hik:i < xs.length
          · rw [List.getElem?_append_left hik] at hi;exact h2 i x hi
          · rw [List.getElem?_append_right (by omega)] at hi
            have:i - xs.length=0:=by
              have:=(List.getElem?_eq_some_iff.1 hi).1
              simp at this;omega
            rw [this] at hi
            simp at hi
            subst hi
            have:i=k:=by omega
            subst this
            exact ⟨h3,h4⟩
      obtain ⟨xs,h1,h2⟩:=hex n (Nat.le_refl _)
      refine .inr ⟨b,s,c,xs,by rw [h1],by omega,hb,⟨_,_,rfl,by simp [hlen,h1]⟩,fun i x hi=>?_⟩
      obtain ⟨h3,h4⟩:=h2 i x hi
      have hin:i < n:=by rw [← h1];exact (List.getElem?_eq_some_iff.1 hi).1
      refine ⟨h3,h4,hz b (s+i) (List.mem_append_left _ ?_)⟩
      simp only [MemPlace.row,List.mem_map,List.mem_range]
      exact ⟨i,by rw [hc];omega,rfl⟩
theorem roslot_bytes {b s:Nat} {xs:List Nat} (hn:0 < xs.length) (h:∀ i x,xs[i]?=some x→x < 256∧w.cell? ⟨b,s+i,none⟩=some (u8 x)∧w.frozen? ⟨b,s+i,none⟩=false) (φ:Phi) :
    Obj.roslot φ s (PT.ofList (xs.map u8) 0 .leaf) w.heap[b]?:=by
  have hb:∃ c' e' lo hi,w.heap[b]?=some (.cells c' e' (lo,hi)):=by
    have h3:=(h 0 xs[0] (List.getElem?_eq_getElem hn)).2.1
    unfold World.cell? at h3
    split at h3
    · rename_i c' e' f hh
      obtain ⟨lo,hi⟩:=f
      exact ⟨c',e',lo,hi,hh⟩
    · cases h3
  obtain ⟨c',e',lo,hi,hh⟩:=hb
  refine ⟨c',e',lo,hi,hh,fun i v hv=>?_⟩
  rw [PT.get_ofList,if_pos (Nat.zero_le _),Nat.sub_zero,PT.get_leaf,List.getElem?_map] at hv
  cases hx:xs[i]? with
  | none=>rw [hx] at hv;cases hv
  | some x=>
    rw [hx] at hv
    cases hv
    obtain ⟨_,h4,h5⟩:=h i x hx
    rw [Nat.add_comm i s]
    refine ⟨rfl,fun g1 g2=>?_,u8 x,?_,.int _ _⟩
    · simp only [World.frozen?,hh] at h5
      simp at h5
      omega
    · simpa [World.cell?,hh] using h4
end
def φR (b s T:Nat):Phi:=fun i=>bif Nat.beq i 0 then some (b,s,T) else none
def hR (c:PT Value):AH:=⟨1,.node (some (.ro c)) .leaf .leaf,[]⟩
theorem φR_inv {b s T i:Nat} {x:Nat × Nat × Nat} (h:φR b s T i=some x):i=0∧x=(b,s,T):=by
  unfold φR at h
  cases e:Nat.beq i 0 with
  | true=>rw [e,cond_true] at h;cases h;exact ⟨nat_beq e,rfl⟩
  | false=>rw [e] at h;cases h
theorem hR_get {c:PT Value} {b:Nat} (hb:b≠0):(hR c).get b=none:=by
  show (bif Nat.beq b 0 then some (AObj.ro c) else bif Nat.beq (b % 2) 1 then PT.leaf.get (b / 2) else PT.leaf.get (b / 2 - 1))=none
  rw [beq_false_of_ne hb,cond_false,PT.get_leaf,PT.get_leaf]
  cases Nat.beq (b % 2) 1 <;> rfl
theorem hR_wr (c:PT Value) (b:Nat):wrB ((hR c).get b)=false:=by
  by_cases hb:b=0
  · subst hb;rfl
  · rw [hR_get hb];rfl
theorem Fwd.keptR {φ:Phi} {h:AH} {W:World} {φ':Phi} {h':AH} {w':World} (f:Fwd φ h W φ' h' w') (hd:∀ b,wrB (h.get b)=false):(∀ may,W.keptBut w' may)∧∀ q:MemPlace,q.block < W.heap.size→W.sameAt w' q:=by
  refine ⟨fun may=>⟨f.os,f.out,fun i hi=>?_⟩,fun q hq=>?_⟩
  · rw [f.keep i hi fun b s _=>hd b]
    split <;> simp_all
  · have hk:w'.heap[q.block]?=W.heap[q.block]?:=f.keep q.block hq fun b s _=>hd b
    cases q with
    | cell b o=>simp only [MemPlace.block] at hk;simp only [World.sameAt,World.cell?,hk]
    | map b=>exact hk
theorem relR {w:World} {b s T:Nat} {c:PT Value} (hb:b < w.heap.size) (hc:∀ φ,Obj.roslot φ s c w.heap[b]?):Rel (φR b s T) (hR c) w:=by
  refine ⟨fun i b' s' T' h=>?_,fun b₁ b₂ b' s₁ s₂ h h' _ _=>?_,fun i b' s' h=>?_,fun i hi=>hR_get (by have:1≤i:=hi;omega),fun i g c' hi=>?_⟩
  · obtain ⟨rfl,e⟩:=φR_inv h
    cases e
    exact hc _
  · rw [(φR_inv h).1,(φR_inv h').1]
  · obtain ⟨rfl,e⟩:=φR_inv h
    cases e
    exact ⟨Nat.zero_lt_one,hb⟩
  · by_cases e:i=0
    · subst e;cases hi
    · rw [hR_get e] at hi;cases hi
theorem VR_R {b s n c:Nat} (hn:n≤c):VR (φR b s (s+c)) (.slice (some ⟨0,0,none⟩) n (unk 1)) (.slice (some ⟨b,s,none⟩) n c):=by
  have h:=VR.slice (φ:=φR b s (s+c)) 0 0 b s (s+c) n (unk 1) c rfl hn (.inr ⟨1,rfl,by omega⟩)
  rw [Nat.zero_add] at h;exact h
end
end Go.Den
