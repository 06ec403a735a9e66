/- Regions whose order is drawn: the checks, and what holds on the way. Conditions: none. -/
import Derived.Test.YtejgabehfdapjaaGreatDenC
import Derived.Orders
namespace Go.Den
noncomputable section
def mkCells (l:List Value):Option AObj:=bif allC l then some (.cells (PT.ofList l 0 .leaf) l.length 0) else none
def mkAlc (t:Nat) (l:List Value):Option AObj:=bif allC l then some (.cells (PT.ofList l 0 .leaf) l.length (2 * t+2)) else none
def mkObj (E:Env) (op:Op) (ρ:Operand→Value):Option (AObj × (Nat→Value)):=
  match op with
  | .alloc t=>match E.ty t with
    | some ti=>match mkAlc t ti.zero with
      | some o=>some (o,fun b=>.pointer (some ⟨b,0,none⟩))
      | none=>none
    | none=>none
  | .buildSlice t len ps=>match E.ty t with
    | some ti=>match ti.desc with
      | .slice e=>match E.ty e with
        | some ei=>bif Nat.ble (unk 0) len then none else bif Nat.ble (len * ei.zero.length) 16777216 then match lay (partsA ei.size ρ ps.toList) (List.replicate len ei.zero).flatten with
          | some l=>match mkCells l with
            | some o=>some (o,fun b=>.slice (some ⟨b,0,none⟩) len len)
            | none=>none
          | none=>none else none
        | none=>none
      | _=>none
    | none=>none
  | .makeSlice t l c=>match E.ty t with
    | some ti=>match ti.desc with
      | .slice e=>match E.ty e with
        | some ei=>match ρ l,ρ c with
          | .int _ (.ofNat l),.int _ (.ofNat c)=>bif Nat.ble l c && Nat.ble (ei.bytes * c) 281474976710656 && Nat.ble c 281474976710656 && allC ei.zero then
            some (.cells (zrep ei.zero c) (c * ei.zero.length) 0,fun b=>.slice (some ⟨b,0,none⟩) l c) else none
          | _,_=>none
        | none=>none
      | _=>none
    | none=>none
  | _=>none
section
variable {P:Program} {E:Env} {φ:Phi} {w:World} {h h':AH} {v x x' y y':Value} {a:Act} {tm tm':List Value} {t:TypeId}
theorem mkAlc_ng {t g:Nat} {l:List Value} {c:PT Value} (h:mkAlc t l=some (.glob g c)):False:=by
  unfold mkAlc at h;cases e:allC l <;> rw [e] at h <;> cases h
theorem mkCells_ng {g:Nat} {l:List Value} {c:PT Value} (h:mkCells l=some (.glob g c)):False:=by
  unfold mkCells at h;cases e:allC l <;> rw [e] at h <;> cases h
theorem mkObj_ng {op:Op} {ρ:Operand→Value} {g:Nat} {c:PT Value} {mk:Nat→Value} (h:mkObj E op ρ=some (.glob g c,mk)):False:=by
  unfold mkObj at h
  simp only [Bool.cond_eq_ite] at h
  repeat' split at h
  all_goals first
    | (cases h;done)
    | (simp only [Option.some.injEq,Prod.mk.injEq] at h
       obtain ⟨rfl,_⟩:=h
       first | exact mkAlc_ng (by assumption) | exact mkCells_ng (by assumption))
theorem lt_of_ble_false {a b:Nat} (h:Nat.ble a b=false):b < a:=by
  rcases Nat.lt_or_ge b a with h' | h'
  · exact h'
  · rw [Nat.ble_eq_true_of_le h'] at h;cases h
def Lays (P:Program) (φ:Phi) (w:World) (s:Sem Value) (o:AObj) (mk:Nat→Value):Prop:=
  ∃ co T v',s.run P w=.ok v' { w with heap:=w.heap.push co }∧∀ φ' b,φ.le φ'→φ' b=some (w.heap.size,0,T)→VR φ' (mk b) v'∧OR φ' 0 T (some o) (some co)
theorem cells_OR {φ':Phi} {l l':List Value} (hv:VRs φ l l') (hle:φ.le φ') (c:PT Value) (n:Nat) (hc:∀ i v,c.get i=some v→i < n∧oneC v=true∧l[i]?=some v)
    (ca:Array Value) (e:TypeId) (hca:∀ (i:Nat) (v':Value),l'[i]?=some v'→ca[i]?=some v'):OR φ' 0 ca.size (some (.cells c n 0)) (some (.cells ca e)):=by
  refine ⟨⟨ca,e,0,0,rfl,Nat.le_refl _,.inl rfl,fun i v hi=>?_⟩,.inl rfl⟩
  obtain ⟨g1,g2,g3⟩:=hc i v hi
  obtain ⟨v',h1,h2⟩:=hv.get i v g3
  exact ⟨g1,g2,v',hca i v' h1,h2.mono hle⟩
theorem mkCells_OR {φ':Phi} {l l':List Value} (hv:VRs φ l l') (hle:φ.le φ') {o:AObj} (hl:mkCells l=some o) (e:TypeId):OR φ' 0 l'.length (some o) (some (.cells ⟨l'⟩ e)):=by
  unfold mkCells at hl
  cases ha:allC l with
  | false=>rw [ha] at hl;cases hl
  | true=>
    rw [ha] at hl;cases hl
    exact cells_OR hv hle (PT.ofList l 0 .leaf) l.length (fun i v hi=>by
      have:=ofList_get l i v hi
      exact ⟨(List.getElem?_eq_some_iff.1 this).1,allC_get ha i v this,this⟩) ⟨l'⟩ e (fun i v' h=>by simpa using h)
theorem mkAlc_OR {φ':Phi} {l l':List Value} (hv:VRs φ l l') (hle:φ.le φ') {o:AObj} (e:TypeId) (hl:mkAlc e l=some o):OR φ' 0 l'.length (some o) (some (.cells ⟨l'⟩ e)):=by
  unfold mkAlc at hl
  cases ha:allC l with
  | false=>rw [ha] at hl;cases hl
  | true=>
    rw [ha] at hl;cases hl
    exact ⟨(cells_OR hv hle (PT.ofList l 0 .leaf) l.length (fun i v hi=>by
      have:=ofList_get l i v hi
      exact ⟨(List.getElem?_eq_some_iff.1 this).1,allC_get ha i v this,this⟩) ⟨l'⟩ e (fun i v' h=>by simpa using h)).1,.inr ⟨_,_,_,rfl,.inr ⟨rfl,rfl⟩⟩⟩
theorem lays_alloc {ti:TI} (ht:TIok P t ti) (hz:selfOk ti.zero) {o:AObj} (hl:mkAlc t ti.zero=some o) :
    Lays P φ w (Instr.alloc t true (.tuple #[])) o fun b=>.pointer (some ⟨b,0,none⟩):=by
  obtain ⟨z,h1,h2,_⟩:=run_zero w ht
  have e:z.cells=⟨ti.zero⟩:=Array.ext' h2
  refine ⟨.cells ⟨ti.zero⟩ t,ti.zero.length,.pointer (some ⟨w.heap.size,0,none⟩),?_,fun φ' b hle hb=>⟨.ptr b 0 w.heap.size 0 _ hb,mkAlc_OR (hz φ) hle t hl⟩⟩
  simp only [Instr.alloc,Sem.run_bind,h1,Result.andThen_ok,newVar,e]
  simp [newRow]
theorem lays_buildSlice {ti ei:TI} {e:TypeId} {len:Nat} {ps:List (Nat × Nat × Value)} {ps':Array (Nat × Value)} (ht:TIok P t ti) (hd:ti.desc=.slice e) (he:TIok P e ei) (hz:selfOk ei.zero) (hzl:ei.zero.length=ei.size)
    (hlen:len < unk 0) (hle:len * ei.zero.length≤16777216) (hp:LayP φ (fun i=>some (i * ei.size,ei.size)) ps ps'.toList) {l:List Value} (hla:lay ps (List.replicate len ei.zero).flatten=some l) {o:AObj} (hl:mkCells l=some o) :
    Lays P φ w (Instr.buildSlice t len ps') o fun b=>.slice (some ⟨b,0,none⟩) len len:=by
  rw [hzl] at hle
  obtain ⟨out',g1,g2⟩:=lay_sound hp ((hz φ).flat len) hla
  refine ⟨.cells ⟨out'⟩ e,out'.length,.slice (some ⟨w.heap.size,0,none⟩) len len,?_,fun φ' b hle hb=>⟨.slice _ 0 _ 0 _ len len len hb (Nat.le_refl _) (.inl ⟨rfl,hlen⟩),mkCells_OR g2 hle hl e⟩⟩
  obtain ⟨z,h1,h2,_⟩:=run_zero w he
  have hzs:z.cells.size=ei.size:=by rw [← Array.length_toList,h2,hzl]
  have hcells:∀ z0:Array Value,(z0=z.cells∨(len * ei.size=0∧z0=#[]))→((Array.range (len * ei.size)).map (z0[· % z0.size]!))=⟨(List.replicate len ei.zero).flatten⟩:=by
    intro z0 hz0
    apply Array.ext'
    rcases hz0 with rfl | ⟨h0,rfl⟩
    · rw [← hzs];exact range_zero _ _ h2 len
    · rw [h0]
      simp
      intro hne
      rcases Nat.mul_eq_zero.1 h0 with h | h
      · exact absurd h hne
      · rw [← hzl] at h;exact List.length_eq_zero_iff.1 h
  have hnr':(newRow e ⟨out'⟩).run P w=.ok ⟨w.heap.size,0,none⟩ { w with heap:=w.heap.push (.cells ⟨out'⟩ e) }:=by simp [newRow]
  simp only [Instr.buildSlice,Sem.run_bind,run_ty w ht,hd,Result.andThen_ok,run_size w he]
  rw [Sem.run_ite,if_neg (by omega)]
  simp only [Sem.run_ite]
  by_cases h0:len * ei.size=0
  · rw [if_pos h0]
    have hc:=hcells #[] (.inr ⟨h0,rfl⟩)
    simp only [Result.andThen_ok,hc,g1,Sem.run_bind,hnr',Sem.run_pure]
  · rw [if_neg h0]
    have hc:=hcells z.cells (.inl rfl)
    simp only [Sem.run_bind,h1,Result.andThen_ok,hc,g1,hnr',Sem.run_pure]
theorem lays_makeSlice {ti ei:TI} {e:TypeId} {k j:IntKind} {l c:Nat} (ht:TIok P t ti) (hd:ti.desc=.slice e) (he:TIok P e ei) (hz:selfOk ei.zero) (hzl:ei.zero.length=ei.size)
    (hb:(Nat.ble l c && Nat.ble (ei.bytes * c) 281474976710656 && Nat.ble c 281474976710656 && allC ei.zero)=true) :
    Lays P φ w (Instr.makeSlice t (.int k (.ofNat l)) (.int j (.ofNat c))) (.cells (zrep ei.zero c) (c * ei.zero.length) 0) fun b=>.slice (some ⟨b,0,none⟩) l c:=by
  simp only [Bool.and_eq_true] at hb
  obtain ⟨⟨⟨b1,b2⟩,b3⟩,ha⟩:=hb
  have b1:=Nat.le_of_ble_eq_true b1
  have b2:=Nat.le_of_ble_eq_true b2
  have b3:=Nat.le_of_ble_eq_true b3
  obtain ⟨i,g1,g2⟩:=run_bytes w he
  obtain ⟨z,z1,z2,_⟩:=run_zero w he
  have hzs:z.cells.size=ei.size:=by rw [← Array.length_toList,z2,hzl]
  let n:=c * ei.size
  have hcells:∀ z0:Array Value,(z0=z.cells∨(n=0∧z0=#[]))→((Array.range n).map (z0[· % z0.size]!)).toList=(List.replicate c ei.zero).flatten:=by
    intro z0 hz0
    rcases hz0 with rfl | ⟨h0,rfl⟩
    · show ((Array.range (c * ei.size)).map _).toList=_
      rw [← hzs];exact range_zero _ _ z2 c
    · rw [h0]
      simp
      intro hne
      rcases Nat.mul_eq_zero.1 h0 with h | h
      · exact absurd h hne
      · rw [← hzl] at h;exact List.length_eq_zero_iff.1 h
  have fin:∀ ca:Array Value,ca.toList=(List.replicate c ei.zero).flatten→(Instr.makeSlice t (.int k (.ofNat l)) (.int j (.ofNat c))).run P w=.ok (.slice (some ⟨w.heap.size,0,none⟩) l c) { w with heap:=w.heap.push (.cells ca e) } →
      Lays P φ w (Instr.makeSlice t (.int k (.ofNat l)) (.int j (.ofNat c))) (.cells (zrep ei.zero c) (c * ei.zero.length) 0) fun b=>.slice (some ⟨b,0,none⟩) l c:=by
    intro ca hca hrun
    refine ⟨.cells ca e,ca.size,_,hrun,fun φ' b hle hb=>⟨.slice b 0 w.heap.size 0 _ l c c hb b1 (.inl ⟨rfl,by unfold unk;omega⟩),?_⟩⟩
    exact cells_OR ((hz φ).flat c) hle (zrep ei.zero c) (c * ei.zero.length) (fun i v hi=>by
      have:=zrep_get _ _ _ _ hi
      have h3:=flat_one ha this
      exact ⟨h3.1,h3.2,this⟩) ca e (fun i v' hi=>by rw [← Array.getElem?_toList,hca];exact hi)
  have w1:=wrap_nat l (by omega)
  have w2:=wrap_nat c (by omega)
  have hbc:((ei.bytes * c:Nat):Int)≤(281474976710656:Nat):=Int.ofNat_le.2 b2
  have p48:(2:Int) ^ 48=((281474976710656:Nat):Int):=by decide
  have a1:¬ ((c:Int) < 0):=Int.not_lt.2 (Int.natCast_nonneg c)
  have a2:¬ ((ei.bytes:Int) * (c:Int) > 2 ^ 48):=by rw [p48,← Int.natCast_mul];exact Int.not_lt.2 hbc
  have a3:¬ ((l:Int) < 0):=Int.not_lt.2 (Int.natCast_nonneg l)
  have a4:¬ ((l:Int) > (c:Int)):=Int.not_lt.2 (Int.ofNat_le.2 b1)
  have run0:∀ z0:Array Value,(if c * ei.size=0 then (pure #[]:Sem (Array Value)) else do pure (← zeroValue e).cells).run P w=.ok z0 w →
      (Instr.makeSlice t (.int k (.ofNat l)) (.int j (.ofNat c))).run P w=.ok (.slice (some ⟨w.heap.size,0,none⟩) l c) { w with heap:=w.heap.push (.cells ((Array.range n).map (z0[· % z0.size]!)) e) }:=by
    intro z0 hz0
    simp only [Instr.makeSlice,Sem.run_bind,run_ty w ht,hd,Result.andThen_ok,asInt,asIntOf,Sem.run_pure,g1,g2]
    rw [show (IntKind.i64.wrap (Int.ofNat l))=(l:Int) from w1,show (IntKind.i64.wrap (Int.ofNat c))=(c:Int) from w2]
    rw [decide_eq_false a1,decide_eq_false a2,decide_eq_false a3,decide_eq_false a4]
    simp only [Bool.or_false,Bool.false_eq_true,if_false,Sem.run_bind,run_askRoom,Result.andThen_ok,Int.toNat_natCast,run_size w he]
    rw [Sem.run_ite] at hz0 ⊢
    by_cases h0:c * ei.size=0
    · rw [if_pos h0] at hz0 ⊢
      cases hz0
      simp [newRow,n]
    · rw [if_neg h0] at hz0 ⊢
      simp only [Sem.run_bind,z1,Result.andThen_ok,Sem.run_pure] at hz0 ⊢
      cases hz0
      simp [newRow,n]
  by_cases h0:n=0
  · exact fin _ (hcells #[] (.inr ⟨h0,rfl⟩)) (run0 #[] (by rw [if_pos (show c * ei.size=0 from h0)];rfl))
  · exact fin _ (hcells z.cells (.inl rfl)) (run0 z.cells (by rw [if_neg (show ¬ c * ei.size=0 from h0)];simp [z1]))
theorem mkObj_sound (ok:EnvOK P E) (hv:VRs φ tm a.tmps.toList) {o:Oper} {ob:AObj} {mk:Nat→Value} (hl:mkObj E o.op (aev tm)=some (ob,mk)) :
    ∃ s,execOp a.eval o=(do pure (.value (← s)))∧Lays P φ w s ob mk:=by
  have hρ:=fun x=>aev_VR hv x
  obtain ⟨dst,op,ty,pos,after,guard⟩:=o
  change mkObj E op (aev tm)=some (ob,mk) at hl
  unfold mkObj at hl
  split at hl
  · rename_i t
    split at hl
    · rename_i ti hti
      obtain ⟨ht,hz,_⟩:=ok.ty _ _ hti
      split at hl
      · rename_i o ho
        cases hl
        exact ⟨_,rfl,lays_alloc ht hz ho⟩
      · cases hl
    · cases hl
  · rename_i t len ps
    split at hl
    · rename_i ti hti
      obtain ⟨ht,_⟩:=ok.ty _ _ hti
      split at hl
      · rename_i e hd
        split at hl
        · rename_i ei hei
          obtain ⟨he,hz,_,hzl,_⟩:=ok.ty _ _ hei
          cases hb:Nat.ble (unk 0) len with
          | true=>rw [hb] at hl;cases hl
          | false=>
            rw [hb,cond_false] at hl
            cases hb2:Nat.ble (len * ei.zero.length) 16777216 with
            | false=>rw [hb2] at hl;cases hl
            | true=>
              rw [hb2,cond_true] at hl
              split at hl
              · rename_i l hla
                split at hl
                · rename_i o ho
                  cases hl
                  have hlen:len < unk 0:=lt_of_ble_false hb
                  have hp:=partsA_sound (φ:=φ) (size:=ei.size) hρ ps.toList
                  let q:Array (Nat × Value):=ps.map fun (i,x)=>(i,a.eval x)
                  have hq:q.toList=ps.toList.map fun (p:Nat × Operand)=>(p.1,a.eval p.2):=by simp [q]
                  have e1:execOp a.eval ⟨dst,.buildSlice t len ps,ty,pos,after,guard⟩=(do pure (.value (← Instr.buildSlice t len q))):=rfl
                  have e2:Lays P φ w (Instr.buildSlice t len q) _ fun b=>.slice (some ⟨b,0,none⟩) len len:=
                    lays_buildSlice ht hd he hz hzl hlen (Nat.le_of_ble_eq_true hb2) (by rw [hq];exact hp) hla ho
                  exact ⟨_,e1,e2⟩
                · cases hl
              · cases hl
        · cases hl
      · cases hl
    · cases hl
  · rename_i t x y
    split at hl
    · rename_i ti hti
      obtain ⟨ht,_⟩:=ok.ty _ _ hti
      split at hl
      · rename_i e hd
        split at hl
        · rename_i ei hei
          obtain ⟨he,hz,_,hzl,_⟩:=ok.ty _ _ hei
          split at hl
          · rename_i k l j c hx hy
            cases hb:(Nat.ble l c && Nat.ble (ei.bytes * c) 281474976710656 && Nat.ble c 281474976710656 && allC ei.zero) with
            | false=>rw [hb] at hl;cases hl
            | true=>
              rw [hb] at hl;cases hl
              have h1:=hρ x;have h2:=hρ y
              rw [hx] at h1;rw [hy] at h2
              refine ⟨Instr.makeSlice t (a.eval x) (a.eval y),rfl,?_⟩
              rw [h1.int_inv,h2.int_inv]
              exact lays_makeSlice ht hd he hz hzl hb
          · cases hl
        · cases hl
      · cases hl
    · cases hl
  · cases hl
end
end
end Go.Den
namespace Go.Den
noncomputable section
section
variable {E:Env} {ρ ρ':Operand→Value} {h:AH}
theorem map_congr' {l:List Operand} (hl:∀ x ∈ l,ρ x=ρ' x):l.map ρ=l.map ρ':=List.map_congr_left hl
theorem partsS_congr (fs:Array Field):∀ {l:List (Nat × Operand)},(∀ p ∈ l,ρ p.2=ρ' p.2)→partsS E fs ρ l=partsS E fs ρ' l
  | [],_=>rfl
  | (i,x)::l,hl=>by
    have h1:=hl (i,x) (List.mem_cons_self ..)
    have h2:=partsS_congr fs (l:=l) fun p hp=>hl p (List.mem_cons_of_mem _ hp)
    simp only at h1
    simp only [partsS,h1,h2]
theorem partsA_congr (n:Nat):∀ {l:List (Nat × Operand)},(∀ p ∈ l,ρ p.2=ρ' p.2)→partsA n ρ l=partsA n ρ' l
  | [],_=>rfl
  | (i,x)::l,hl=>by
    have h1:=hl (i,x) (List.mem_cons_self ..)
    have h2:=partsA_congr n (l:=l) fun p hp=>hl p (List.mem_cons_of_mem _ hp)
    simp only at h1
    simp only [partsA,h1,h2]
theorem gV_congr {x:Operand} (hx:ρ x=ρ' x):gV ρ h x=gV ρ' h x:=by
  unfold gV
  split
  · rw [hx]
  · exact hx
theorem mem_parts {ps:Array (Nat × Operand)} {p:Nat × Operand} (hp:p ∈ ps.toList):p.2 ∈ (ps.toList.map (·.2)).toArray:=by
  simp only [List.mem_toArray,List.mem_map]
  exact ⟨p,hp,rfl⟩
theorem mem_args {c:Call} {x:Operand} (hx:x ∈ c.args.toList):x ∈ c.operands:=by simp [Call.operands];exact .inr (by simpa using hx)
theorem mem_callee {f:Operand} {args:Array Operand} {ts:Array TypeId}:f ∈ Call.operands { callee:=.value f,args:=args,argTypes:=ts }:=by simp [Call.operands]
theorem aop_congr (op:Op) (hx:∀ x ∈ op.operands,ρ x=ρ' x):aop E op ρ h=aop E op ρ' h:=by
  cases op with
  | build t ps=>
    have h1:∀ p ∈ ps.toList,ρ p.2=ρ' p.2:=fun p hp=>hx _ (mem_parts hp)
    simp only [aop,partsS_congr _ h1,partsA_congr _ h1]
  | buildSlice t n ps=>
    have h1:∀ p ∈ ps.toList,ρ p.2=ρ' p.2:=fun p hp=>hx _ (mem_parts hp)
    simp only [aop,partsA_congr _ h1]
  | makeFunc fn first cap=>
    have h1:first.toList.map ρ=first.toList.map ρ':=map_congr' fun x h=>hx x (by simp [Op.operands];exact .inl (by simpa using h))
    have h2:cap.toList.map ρ=cap.toList.map ρ':=map_congr' fun x h=>hx x (by simp [Op.operands];exact .inr (by simpa using h))
    cases fn <;> simp only [aop,h1,h2]
  | makeMap t r=>cases r <;> rfl
  | slice t x lo hi mx=>
    have h0:=hx x (by simp [Op.operands])
    have h1:lo.map ρ=lo.map ρ':=by
      cases lo with
      | none=>rfl
      | some y=>simp [hx y (by simp [Op.operands])]
    have h2:hi.map ρ=hi.map ρ':=by
      cases hi with
      | none=>rfl
      | some y=>simp [hx y (by simp [Op.operands])]
    have h3:mx.map ρ=mx.map ρ':=by
      cases mx with
      | none=>rfl
      | some y=>simp [hx y (by simp [Op.operands])]
    simp only [aop,h0,h1,h2,h3]
  | call c=>
    obtain ⟨callee,args,ts⟩:=c
    cases callee with
    | builtin b=>
      have h1:args.toList.map ρ=args.toList.map ρ':=map_congr' fun x h=>hx x (mem_args h)
      simp only [aop,h1]
    | _=>rfl
  | pick c a b=>
    have h1:=hx c (by simp [Op.operands]);have h2:=hx a (by simp [Op.operands]);have h3:=hx b (by simp [Op.operands])
    simp only [aop,h1,h2,h3]
  | move x=>simp only [aop,hx x (by simp [Op.operands])]
  | assign x=>simp only [aop,hx x (by simp [Op.operands])]
  | box t x=>simp only [aop,hx x (by simp [Op.operands])]
  | load t x=>simp only [aop,hx x (by simp [Op.operands])]
  | nilCheck x=>simp only [aop,hx x (by simp [Op.operands])]
  | unOp o t x=>simp only [aop,hx x (by simp [Op.operands])]
  | convert s d x=>simp only [aop,hx x (by simp [Op.operands])]
  | makeInterface t x=>simp only [aop,hx x (by simp [Op.operands])]
  | fieldAddr t x i=>simp only [aop,hx x (by simp [Op.operands])]
  | field t x i=>simp only [aop,hx x (by simp [Op.operands])]
  | extract x i=>simp only [aop,hx x (by simp [Op.operands])]
  | sliceToArrayPointer t x=>simp only [aop,hx x (by simp [Op.operands])]
  | typeAssert x xt t c=>simp only [aop,hx x (by simp [Op.operands])]
  | range t x=>simp only [aop,hx x (by simp [Op.operands])]
  | entry x=>simp only [aop,hx x (by simp [Op.operands])]
  | lookup t x y c=>simp only [aop,hx x (by simp [Op.operands]),hx y (by simp [Op.operands])]
  | store t x y=>simp only [aop,hx x (by simp [Op.operands]),hx y (by simp [Op.operands])]
  | binOp o t x y u=>simp only [aop,hx x (by simp [Op.operands]),hx y (by simp [Op.operands])]
  | makeSlice t x y=>simp only [aop,hx x (by simp [Op.operands]),hx y (by simp [Op.operands])]
  | indexAddr t x y=>simp only [aop,hx x (by simp [Op.operands]),hx y (by simp [Op.operands]),gV_congr (hx x (by simp [Op.operands]))]
  | index t x y=>simp only [aop,hx x (by simp [Op.operands]),hx y (by simp [Op.operands])]
  | _=>rfl
theorem mkObj_congr (op:Op) (hx:∀ x ∈ op.operands,ρ x=ρ' x):mkObj E op ρ=mkObj E op ρ':=by
  cases op with
  | buildSlice t n ps=>
    have h1:∀ p ∈ ps.toList,ρ p.2=ρ' p.2:=fun p hp=>hx _ (mem_parts hp)
    simp only [mkObj,partsA_congr _ h1]
  | makeSlice t x y=>simp only [mkObj,hx x (by simp [Op.operands]),hx y (by simp [Op.operands])]
  | _=>rfl
theorem xop_congr {C:Oracle} {rd:Bool} (op:Op) (hx:∀ x ∈ op.operands,ρ x=ρ' x):xop E C rd op ρ h=xop E C rd op ρ' h:=by
  have ha:=aop_congr (E:=E) (h:=h) op hx
  cases op with
  | call c=>
    obtain ⟨callee,args,ts⟩:=c
    have h1:args.toList.map ρ=args.toList.map ρ':=map_congr' fun x h=>hx x (mem_args h)
    cases callee with
    | value f=>simp only [xop,h1,hx f mem_callee]
    | invoke r m=>simp only [xop,h1,hx r (by simp [Op.operands,Call.operands])]
    | builtin b=>cases b <;> first | rfl | (simp only [xop];rw [ha];done) | (simp only [xop];split <;> first | rfl | (rename_i e2;have hm:∀ y,y ∈ args.toList→ρ y=ρ' y:=fun y hy=>hx y (mem_args hy);rw [e2] at hm;rw [hm _ (List.mem_cons_self ..),hm _ (List.mem_cons_of_mem _ (List.mem_cons_self ..))]))
  | defer c=>
    obtain ⟨callee,args,ts⟩:=c
    have h1:args.toList.map ρ=args.toList.map ρ':=map_congr' fun x h=>hx x (mem_args h)
    cases callee with
    | value f=>simp only [xop,h1,hx f mem_callee]
    | _=>rfl
  | mapUpdate t x y z=>simp only [xop,hx x (by simp [Op.operands]),hx y (by simp [Op.operands]),hx z (by simp [Op.operands])]
  | insert t x y z=>simp only [xop,hx x (by simp [Op.operands]),hx y (by simp [Op.operands]),hx z (by simp [Op.operands])]
  | entryStore t x y z=>simp only [xop,hx x (by simp [Op.operands]),hx y (by simp [Op.operands]),hx z (by simp [Op.operands])]
  | mapEntry t x y=>simp only [xop,hx x (by simp [Op.operands]),hx y (by simp [Op.operands])]
  | _=>simp only [xop];rw [ha]
end
def lEq (f:Value→Value→Bool):List Value→List Value→Bool
  | [],[]=>true
  | a::l,b::m=>f a b && lEq f l m
  | _,_=>false
def vEq:Nat→Value→Value→Bool
  | 0,_,_=>false
  | n+1,a,b=>match a,b with
    | .bool x,.bool y=>x == y
    | .int k x,.int j y=>decide (k=j) && decide (x=y)
    | .string x,.string y=>decide (x=y)
    | .pointer none,.pointer none=>true
    | .pointer (some ⟨b,o,none⟩),.pointer (some ⟨b',o',none⟩)=>Nat.beq b b' && Nat.beq o o'
    | .slice none 0 0,.slice none 0 0=>true
    | .slice (some ⟨b,o,none⟩) n c,.slice (some ⟨b',o',none⟩) n' c'=>Nat.beq b b' && Nat.beq o o' && Nat.beq n n' && Nat.beq c c'
    | .map none,.map none=>true
    | .map (some x),.map (some y)=>Nat.beq x y
    | .nilFunc,.nilFunc=>true
    | .func (.func f) ⟨a⟩ ⟨c⟩,.func (.func f') ⟨a'⟩ ⟨c'⟩=>Nat.beq f f' && lEq (vEq n) a a' && lEq (vEq n) c c'
    | .nilIface,.nilIface=>true
    | .iface t v,.iface t' v'=>Nat.beq t t' && vEq n v v'
    | .agg ⟨l⟩,.agg ⟨l'⟩=>lEq (vEq n) l l'
    | .tuple ⟨l⟩,.tuple ⟨l'⟩=>lEq (vEq n) l l'
    | .chan none,.chan none=>true
    | .chan (some x),.chan (some y)=>Nat.beq x y
    | _,_=>false
theorem lEq_eq {f:Value→Value→Bool} (hf:∀ a b,f a b=true→a=b):∀ {l m:List Value},lEq f l m=true→l=m
  | [],[],_=>rfl
  | a::l,b::m,h=>by
    simp only [lEq,Bool.and_eq_true] at h
    rw [hf _ _ h.1,lEq_eq hf h.2]
  | [],_::_,h=>by cases h
  | _::_,[],h=>by cases h
theorem nat_beq {a b:Nat} (h:Nat.beq a b=true):a=b:=Nat.eq_of_beq_eq_true h
theorem vEq_eq:∀ (n:Nat) (a b:Value),vEq n a b=true→a=b
  | 0,a,b,h=>by cases h
  | n+1,a,b,h=>by
    have ih:=vEq_eq n
    unfold vEq at h
    split at h
    · rw [eq_of_beq h]
    · simp only [Bool.and_eq_true,decide_eq_true_eq] at h;rw [h.1,h.2]
    · simp only [decide_eq_true_eq] at h;rw [h]
    · rfl
    · simp only [Bool.and_eq_true] at h;rw [nat_beq h.1,nat_beq h.2]
    · rfl
    · simp only [Bool.and_eq_true] at h;obtain ⟨⟨⟨h1,h2⟩,h3⟩,h4⟩:=h;rw [nat_beq h1,nat_beq h2,nat_beq h3,nat_beq h4]
    · rfl
    · rw [nat_beq h]
    · rfl
    · simp only [Bool.and_eq_true] at h;obtain ⟨⟨h1,h2⟩,h3⟩:=h;rw [nat_beq h1,lEq_eq ih h2,lEq_eq ih h3]
    · rfl
    · simp only [Bool.and_eq_true] at h;rw [nat_beq h.1,ih _ _ h.2]
    · rw [lEq_eq ih h]
    · rw [lEq_eq ih h]
    · rfl
    · rw [nat_beq h]
    · cases h
def maskOf (o:Oper) (acc:List Nat):Nat:=o.after.toList.foldl (fun s e=>bif Region.binds .any e then s ||| (2 ^ e.on ||| acc.getD e.on 0) else s) 0
def masks:List Oper→List Nat→List Nat
  | [],acc=>acc
  | o::os,acc=>masks os (acc++[maskOf o acc])
def ordB (ms:List Nat) (i j:Nat):Bool:=(ms.getD i 0).testBit j
theorem mask_fold (acc:List Nat) (j:Nat):∀ (l:List Edge) (s:Nat),(l.foldl (fun s e=>bif Region.binds .any e then s ||| (2 ^ e.on ||| acc.getD e.on 0) else s) s).testBit j=true →
    s.testBit j=true∨∃ e ∈ l,Region.binds .any e=true∧(e.on=j∨(acc.getD e.on 0).testBit j=true):=by
  intro l
  induction l with
  | nil=>intro s h;exact .inl h
  | cons e l ih=>
    intro s h
    rw [List.foldl_cons] at h
    rcases ih _ h with h | ⟨e',h1,h2⟩
    · cases hb:Region.binds .any e with
      | false=>rw [hb,cond_false] at h;exact .inl h
      | true=>
        rw [hb,cond_true,Nat.testBit_or,Nat.testBit_or] at h
        simp only [Bool.or_eq_true] at h
        rcases h with h | h | h
        · exact .inl h
        · rw [Nat.testBit_two_pow] at h
          exact .inr ⟨e,List.mem_cons_self ..,hb,.inl (by simpa using h)⟩
        · exact .inr ⟨e,List.mem_cons_self ..,hb,.inr h⟩
    · exact .inr ⟨e',List.mem_cons_of_mem _ h1,h2⟩
theorem masks_spec:∀ (os:List Oper) (acc:List Nat),(∃ t,masks os acc=acc++t)∧∀ i j,acc.length≤i→ordB (masks os acc) i j=true →
    ∃ o,os[i - acc.length]?=some o∧∃ e ∈ o.after,Region.binds .any e=true∧(e.on=j∨ordB (masks os acc) e.on j=true):=by
  intro os
  induction os with
  | nil=>
    intro acc
    refine ⟨⟨[],by simp [masks]⟩,fun i j hi h=>?_⟩
    simp only [masks,ordB] at h
    rw [List.getD_eq_getElem?_getD,List.getElem?_eq_none hi] at h
    simp at h
  | cons o os ih=>
    intro acc
    obtain ⟨⟨t,ht⟩,h2⟩:=ih (acc++[maskOf o acc])
    refine ⟨⟨maskOf o acc::t,by simp [masks,ht]⟩,fun i j hi h=>?_⟩
    simp only [masks] at h ⊢
    have pre:∀ x y,(acc.getD x 0).testBit y=true→ordB (masks os (acc++[maskOf o acc])) x y=true:=by
      intro x y hxy
      have hlt:x < acc.length:=by
        rcases Nat.lt_or_ge x acc.length with h | h
        · exact h
        · rw [List.getD_eq_getElem?_getD,List.getElem?_eq_none h] at hxy;simp at hxy
      unfold ordB
      rw [ht,List.getD_eq_getElem?_getD,List.append_assoc,List.getElem?_append_left hlt,← List.getD_eq_getElem?_getD]
      exact hxy
    by_cases e:i=acc.length
    · subst e
      refine ⟨o,by simp,?_⟩
      have hm:ordB (masks os (acc++[maskOf o acc])) acc.length j=(maskOf o acc).testBit j:=by
        unfold ordB
        rw [ht,List.getD_eq_getElem?_getD,List.append_assoc,List.getElem?_append_right (Nat.le_refl _)]
        simp
      rw [hm] at h
      rcases mask_fold acc j _ _ h with h | ⟨e,h1,h2,h3⟩
      · simp at h
      · exact ⟨e,by simpa using h1,h2,h3.imp id (pre _ _)⟩
    · have hi':(acc++[maskOf o acc]).length≤i:=by simp;omega
      obtain ⟨o',g1,g2⟩:=h2 i j hi' h
      refine ⟨o',?_,g2⟩
      have e':i - acc.length=(i - (acc++[maskOf o acc]).length)+1:=by simp at hi' ⊢;omega
      rw [e'];simpa using g1
end
end Go.Den
namespace Go.Den
noncomputable section
def cls:Op→Nat
  | .move _=>0
  | .assign _=>0
  | .pick _ _ _=>0
  | .build _ _=>0
  | .load _ _=>0
  | .nilCheck _=>0
  | .binOp _ _ _ _ _=>0
  | .unOp _ _ _=>0
  | .makeInterface _ _=>0
  | .makeFunc _ _ _=>0
  | .slice _ _ _ _ _=>0
  | .fieldAddr _ _ _=>0
  | .field _ _ _=>0
  | .indexAddr _ _ _=>0
  | .index _ _ _=>0
  | .extract _ _=>0
  | .typeAssert _ _ _ _=>0
  | .sliceToArrayPointer _ _=>0
  | .lookup _ _ _ _=>0
  | .convert s d _=>bif Nat.beq s d then 1 else 0
  | .call { callee:=.builtin .len,args:=_,argTypes:=_ }=>0
  | .call { callee:=.builtin .min,args:=_,argTypes:=_ }=>0
  | .call { callee:=.builtin .max,args:=_,argTypes:=_ }=>0
  | .alloc _=>2
  | .buildSlice _ _ _=>2
  | .makeSlice _ _ _=>2
  | _=>1
def isRd:Op→Bool
  | .load _ _=>true
  | .indexAddr _ (.global _) _=>true
  | .lookup _ _ _ _=>true
  | .convert _ _ _=>true
  | .call _=>true
  | _=>false
def pv:AR→Option Value
  | .mo v=>some v
  | .va x=>x
  | _=>none
theorem pv_run {r:AR} {v:Value} {h:AH} (hl:pv r=some v):r.run h=some (v,h):=by
  cases r with
  | mo x=>cases hl;rfl
  | va x=>simp only [pv] at hl;subst hl;rfl
  | hv x=>cases hl
  | st x=>cases hl
theorem pure_any {E:Env} {op:Op} {ρ:Operand→Value} (hr:isRd op=false) (hc:cls op=0) (h h':AH):aop E op ρ h=aop E op ρ h':=by
  cases op <;> first | rfl | (exfalso;simp [isRd] at hr;done) | (exfalso;simp [cls] at hc;done) | (rename_i fn _ _;cases fn <;> rfl) | (rename_i x _;cases x <;> first | rfl | (exfalso;simp [isRd] at hr;done))
def opT (E:Env) (C:Oracle) (rd:Bool) (all:List Oper) (base i:Nat) (o:Oper) (tm:List Value) (h:AH):Option (Value × AH):=
  match wantedA all tm o with
  | some true=>match cls o.op with
    | 0=>match pv (aop E o.op (aev tm) h) with
      | some v=>some (v,h)
      | none=>none
    | 1=>xop E C rd o.op (aev tm) h
    | _=>match mkObj E o.op (aev tm) with
      | some (ob,mk)=>some (mk (base+i),h.put (base+i) (some ob))
      | none=>none
  | some false=>some (undV,h)
  | none=>none
abbrev Tr:=List (List Value × AH × Value)
def trace (E:Env) (C:Oracle) (rd:Bool) (all:List Oper) (base:Nat):List Oper→Nat→List Value→AH→Option Tr
  | [],_,tm,h=>some [(tm,h,junk)]
  | o::os,i,tm,h=>match opT E C rd all base i o tm h with
    | some (v,h')=>match trace E C rd all base os (i+1) (sto tm o.dst v) h' with
      | some l=>some ((tm,h,v)::l)
      | none=>none
    | none=>none
def Tr.T (tr:Tr) (i:Nat):List Value:=match tr[i]? with | some (t,_,_)=>t | none=>[]
def Tr.H (tr:Tr) (i:Nat):AH:=match tr[i]? with | some (_,h,_)=>h | none=>⟨0,.leaf,[]⟩
def Tr.V (tr:Tr) (i:Nat):Value:=match tr[i]? with | some (_,_,v)=>v | none=>junk
theorem trace_spec {E:Env} {C:Oracle} {rd:Bool} {all:List Oper} {base:Nat}:∀ (os:List Oper) (i:Nat) (tm:List Value) (h:AH) (tr:Tr),trace E C rd all base os i tm h=some tr →
    tr.T 0=tm∧tr.H 0=h∧tr.length=os.length+1∧∀ j o,os[j]?=some o→opT E C rd all base (i+j) o (tr.T j) (tr.H j)=some (tr.V j,tr.H (j+1))∧tr.T (j+1)=sto (tr.T j) o.dst (tr.V j):=by
  intro os
  induction os with
  | nil=>
    intro i tm h tr hl
    cases hl
    exact ⟨rfl,rfl,rfl,fun j o ho=>by simp at ho⟩
  | cons o os ih=>
    intro i tm h tr hl
    simp only [trace] at hl
    cases h1:opT E C rd all base i o tm h with
    | none=>rw [h1] at hl;cases hl
    | some p=>
      obtain ⟨v,h'⟩:=p
      rw [h1] at hl
      simp only at hl
      cases h2:trace E C rd all base os (i+1) (sto tm o.dst v) h' with
      | none=>rw [h2] at hl;cases hl
      | some l=>
        rw [h2] at hl
        cases hl
        obtain ⟨g1,g2,g3,g4⟩:=ih _ _ _ _ h2
        refine ⟨rfl,rfl,by simp [g3],fun j o' ho=>?_⟩
        cases j with
        | zero=>
          simp at ho;subst ho
          have e1:Tr.H ((tm,h,v)::l) (0+1)=l.H 0:=by simp [Tr.H]
          have e2:Tr.T ((tm,h,v)::l) (0+1)=l.T 0:=by simp [Tr.T]
          rw [e1,e2,g1,g2]
          exact ⟨h1,rfl⟩
        | succ j=>
          have:=g4 j o' (by simpa using ho)
          have e1:∀ x,Tr.H ((tm,h,v)::l) (x+1)=l.H x:=fun x=>by simp [Tr.H]
          have e2:∀ x,Tr.T ((tm,h,v)::l) (x+1)=l.T x:=fun x=>by simp [Tr.T]
          have e3:∀ x,Tr.V ((tm,h,v)::l) (x+1)=l.V x:=fun x=>by simp [Tr.V]
          rw [e1,e1,e2,e2,e3]
          rw [show i+(j+1)=i+1+j by omega]
          exact this
def looks (all:List Oper) (o:Oper):List Tmp:=
  (o.op.operands.toList.filterMap fun | .tmp t=>some t | _=>none) ++
  (match o.guard with
   | some (g,_)=>match all[g]? with
     | some x=>x.dst.toList
     | none=>[]
   | none=>[])
def memN (t:Nat):List Nat→Bool
  | []=>false
  | x::l=>bif Nat.beq x t then true else memN t l
def hitB (d:Option Tmp) (l:List Nat):Bool:=match d with | some d=>memN d l | none=>false
def sameB (d e:Option Tmp):Bool:=match d,e with | some d,some e=>Nat.beq d e | _,_=>false
def pairOK (all:List Oper) (ms:List Nat) (i:Nat) (oi:Oper) (j:Nat) (oj:Oper):Bool:=
  bif ordB ms i j then true else
    bif hitB oj.dst (looks all oi) then false else bif sameB oj.dst oi.dst then false else bif hitB oi.dst (looks all oj) then false else
    !(Nat.beq (cls oi.op) 1 && Nat.beq (cls oj.op) 1)
def preOK (all:List Oper) (ms:List Nat) (i:Nat) (oi:Oper):List (Nat × Oper)→Bool
  | []=>true
  | (j,oj)::l=>bif pairOK all ms i oi j oj then preOK all ms i oi l else false
def edgesOK (i:Nat):List Edge→Bool
  | []=>true
  | e::l=>bif Nat.ble i e.on && Region.binds .any e then false else edgesOK i l
def statGo (all:List Oper) (ms:List Nat):Nat→List Oper→List (Nat × Oper)→Bool
  | _,[],_=>true
  | i,o::os,pre=>bif edgesOK i o.after.toList then bif preOK all ms i o pre then statGo all ms (i+1) os ((i,o)::pre) else false else false
theorem memN_iff {t:Nat}:∀ {l:List Nat},memN t l=true ↔ t ∈ l
  | []=>by simp [memN]
  | x::l=>by
    simp only [memN]
    cases h:Nat.beq x t with
    | true=>have:=nat_beq h;subst this;simp
    | false=>
      have hne:t≠x:=by rintro rfl;rw [Nat.beq_refl] at h;cases h
      simp [memN_iff (l:=l),hne]
theorem preOK_spec {all:List Oper} {ms:List Nat} {i:Nat} {oi:Oper}:∀ {l:List (Nat × Oper)},preOK all ms i oi l=true→∀ p ∈ l,pairOK all ms i oi p.1 p.2=true
  | [],_=>by intro p hp;cases hp
  | (j,oj)::l,h=>by
    intro p hp
    simp only [preOK] at h
    cases hx:pairOK all ms i oi j oj with
    | false=>rw [hx] at h;cases h
    | true=>
      rw [hx,cond_true] at h
      rcases List.mem_cons.1 hp with rfl | hp
      · exact hx
      · exact preOK_spec h p hp
theorem edgesOK_spec {i:Nat}:∀ {l:List Edge},edgesOK i l=true→∀ e ∈ l,Region.binds .any e=true→e.on < i
  | [],_=>by intro e he;cases he
  | e::l,h=>by
    intro e' he hb
    simp only [edgesOK] at h
    cases hx:(Nat.ble i e.on && Region.binds .any e) with
    | true=>rw [hx] at h;cases h
    | false=>
      rw [hx,cond_false] at h
      rcases List.mem_cons.1 he with rfl | he
      · rw [hb,Bool.and_true] at hx;exact lt_of_ble_false hx
      · exact edgesOK_spec h e' he hb
theorem statGo_spec {all:List Oper} {ms:List Nat}:∀ (os:List Oper) (i:Nat) (pre:List (Nat × Oper)),statGo all ms i os pre=true →
    ∀ k o,os[k]?=some o→(∀ e ∈ o.after,Region.binds .any e=true→e.on < i+k)∧(∀ p ∈ pre,pairOK all ms (i+k) o p.1 p.2=true)∧∀ j oj,j < k→os[j]?=some oj→pairOK all ms (i+k) o (i+j) oj=true:=by
  intro os
  induction os with
  | nil=>intro i pre _ k o ho;simp at ho
  | cons o os ih=>
    intro i pre h k o' ho
    simp only [statGo] at h
    cases h1:edgesOK i o.after.toList with
    | false=>rw [h1] at h;cases h
    | true=>
      rw [h1,cond_true] at h
      cases h2:preOK all ms i o pre with
      | false=>rw [h2] at h;cases h
      | true=>
        rw [h2,cond_true] at h
        cases k with
        | zero=>
          simp at ho;subst ho
          exact ⟨fun e he=>edgesOK_spec h1 e (by simpa using he),preOK_spec h2,fun j oj hj=>by omega⟩
        | succ k=>
          obtain ⟨g1,g2,g3⟩:=ih (i+1) _ h k o' (by simpa using ho)
          rw [show i+1+k=i+(k+1) by omega] at g1 g2 g3
          refine ⟨g1,fun p hp=>g2 p (List.mem_cons_of_mem _ hp),fun j oj hj hoj=>?_⟩
          cases j with
          | zero=>simp at hoj;subst hoj;exact g2 (i,o) (List.mem_cons_self ..)
          | succ j=>
            have:=g3 j oj (by omega) (by simpa using hoj)
            rw [show i+1+j=i+(j+1) by omega] at this
            exact this
theorem pairOK_spec {all:List Oper} {ms:List Nat} {i j:Nat} {oi oj:Oper} (h:pairOK all ms i oi j oj=true) (hn:ordB ms i j=false) :
    (∀ d,oj.dst=some d→d ∉ looks all oi∧oi.dst≠some d)∧(∀ d,oi.dst=some d→d ∉ looks all oj)∧¬ (cls oi.op=1∧cls oj.op=1):=by
  unfold pairOK at h
  rw [hn,cond_false] at h
  cases h1:hitB oj.dst (looks all oi) with
  | true=>rw [h1] at h;cases h
  | false=>
    rw [h1,cond_false] at h
    cases h2:sameB oj.dst oi.dst with
    | true=>rw [h2] at h;cases h
    | false=>
      rw [h2,cond_false] at h
      cases h3:hitB oi.dst (looks all oj) with
      | true=>rw [h3] at h;cases h
      | false=>
        rw [h3,cond_false] at h
        refine ⟨fun d hd=>⟨fun hm=>?_,fun hs=>?_⟩,fun d hd hm=>?_,fun ⟨e1,e2⟩=>?_⟩
        · rw [hd] at h1;simp only [hitB] at h1;rw [memN_iff.2 hm] at h1;cases h1
        · rw [hd,hs] at h2;simp only [sameB,Nat.beq_refl] at h2;cases h2
        · rw [hd] at h3;simp only [hitB] at h3;rw [memN_iff.2 hm] at h3;cases h3
        · rw [e1,e2] at h;cases h
def effsOf:List Oper→Nat→List Nat
  | [],i=>[i]
  | o::os,i=>bif Nat.beq (cls o.op) 1 then i::effsOf os (i+1) else effsOf os (i+1)
def possB (ms effs:List Nat) (i m:Nat):Bool:=
  bif Nat.ble m i then !ordB ms i m else effs.all fun e=>bif Nat.ble e i then true else bif Nat.ble m e then true else !ordB ms e i
def chkB (E:Env) (o:Oper) (tm:List Value) (v:Value) (h:AH):Bool:=match pv (aop E o.op (aev tm) h) with | some x=>vEq 64 x v | none=>false
def natM:List Oper→Nat→Nat
  | [],i=>i
  | o::os,i=>bif Nat.beq (cls o.op) 0 then natM os (i+1) else i
theorem natM_spec:∀ (os:List Oper) (i j:Nat),i≤j→j < natM os i→∃ o,os[j - i]?=some o∧cls o.op=0:=by
  intro os
  induction os with
  | nil=>intro i j h1 h2;simp only [natM] at h2;omega
  | cons o os ih=>
    intro i j h1 h2
    simp only [natM] at h2
    cases hc:Nat.beq (cls o.op) 0 with
    | false=>rw [hc,cond_false] at h2;omega
    | true=>
      rw [hc,cond_true] at h2
      by_cases e:j=i
      · subst e;exact ⟨o,by simp,nat_beq hc⟩
      · obtain ⟨o',g1,g2⟩:=ih (i+1) j (by omega) h2
        refine ⟨o',?_,g2⟩
        rw [show j - i=(j - (i+1))+1 by omega]
        simpa using g1
def rdOK (E:Env) (ms effs:List Nat) (tr:Tr) (nm i:Nat) (o:Oper):Bool:=effs.all fun m=>bif Nat.beq m nm then true else bif possB ms effs i m then chkB E o (tr.T i) (tr.V i) (tr.H m) else true
def dynGo (E:Env) (all:List Oper) (ms effs:List Nat) (tr:Tr):Nat→List Oper→Bool
  | _,[]=>true
  | i,o::os=>bif Nat.beq (cls o.op) 0 && isRd o.op then (match wantedA all (tr.T i) o with
      | some true=>bif rdOK E ms effs tr (natM (o::os) i) i o then dynGo E all ms effs tr (i+1) os else false
      | _=>dynGo E all ms effs tr (i+1) os) else dynGo E all ms effs tr (i+1) os
theorem dynGo_spec {E:Env} {all:List Oper} {ms effs:List Nat} {tr:Tr}:∀ (os:List Oper) (i:Nat),dynGo E all ms effs tr i os=true →
    ∀ k o,os[k]?=some o→cls o.op=0→isRd o.op=true→wantedA all (tr.T (i+k)) o=some true→rdOK E ms effs tr (natM (os.drop k) (i+k)) (i+k) o=true:=by
  intro os
  induction os with
  | nil=>intro i _ k o ho;simp at ho
  | cons o os ih=>
    intro i h k o' ho hc hr hw
    simp only [dynGo] at h
    have hnext:k≠0→dynGo E all ms effs tr (i+1) os=true→rdOK E ms effs tr (natM ((o::os).drop k) (i+k)) (i+k) o'=true:=by
      intro hk hn
      obtain ⟨k,rfl⟩:=Nat.exists_eq_succ_of_ne_zero hk
      have:=ih (i+1) hn k o' (by simpa using ho) hc hr
      rw [show i+1+k=i+(k+1) by omega] at this
      rw [List.drop_succ_cons]
      exact this hw
    by_cases hk:k=0
    · subst hk
      simp at ho;subst ho
      simp only [Nat.add_zero,List.drop_zero] at hw ⊢
      have hcond:(Nat.beq (cls o.op) 0 && isRd o.op)=true:=by rw [hc,hr];rfl
      rw [hcond,cond_true,hw] at h
      simp only at h
      cases hx:rdOK E ms effs tr (natM (o::os) i) i o with
      | true=>rfl
      | false=>rw [hx] at h;cases h
    · cases hb:(Nat.beq (cls o.op) 0 && isRd o.op) with
      | false=>rw [hb,cond_false] at h;exact hnext hk h
      | true=>
        rw [hb,cond_true] at h
        split at h
        · cases hx:rdOK E ms effs tr (natM (o::os) i) i o with
          | true=>rw [hx,cond_true] at h;exact hnext hk h
          | false=>rw [hx] at h;cases h
        · exact hnext hk h
theorem effsOf_mem:∀ (os:List Oper) (i m:Nat),m ∈ effsOf os i ↔ m=i+os.length∨∃ k o,m=i+k∧os[k]?=some o∧cls o.op=1:=by
  intro os
  induction os with
  | nil=>intro i m;simp [effsOf]
  | cons o os ih=>
    intro i m
    have key:m ∈ effsOf os (i+1) ↔ m=i+(o::os).length∨∃ k x,m=i+(k+1)∧os[k]?=some x∧cls x.op=1:=by
      rw [ih]
      constructor
      · rintro (h | ⟨k,x,h1,h2,h3⟩)
        · exact .inl (by simp;omega)
        · exact .inr ⟨k,x,by omega,h2,h3⟩
      · rintro (h | ⟨k,x,h1,h2,h3⟩)
        · exact .inl (by simp at h;omega)
        · exact .inr ⟨k,x,by omega,h2,h3⟩
    simp only [effsOf]
    cases hc:Nat.beq (cls o.op) 1 with
    | true=>
      have hc':=nat_beq hc
      rw [cond_true,List.mem_cons,key]
      constructor
      · rintro (h | h | ⟨k,x,h1,h2,h3⟩)
        · exact .inr ⟨0,o,by omega,by simp,hc'⟩
        · exact .inl h
        · exact .inr ⟨k+1,x,h1,by simpa using h2,h3⟩
      · rintro (h | ⟨k,x,h1,h2,h3⟩)
        · exact .inr (.inl h)
        · cases k with
          | zero=>exact .inl (by omega)
          | succ k=>exact .inr (.inr ⟨k,x,h1,by simpa using h2,h3⟩)
    | false=>
      have hc':cls o.op≠1:=by intro h;rw [h] at hc;cases hc
      rw [cond_false,key]
      constructor
      · rintro (h | ⟨k,x,h1,h2,h3⟩)
        · exact .inl h
        · exact .inr ⟨k+1,x,h1,by simpa using h2,h3⟩
      · rintro (h | ⟨k,x,h1,h2,h3⟩)
        · exact .inl h
        · cases k with
          | zero=>simp at h2;subst h2;exact absurd h3 hc'
          | succ k=>exact .inr ⟨k,x,h1,by simpa using h2,h3⟩
def xdraw (E:Env) (C:Oracle):Drawer:=fun rd ops tm h=>
  bif statGo ops.toList (masks ops.toList []) 0 ops.toList [] then
    match trace E C rd ops.toList h.next ops.toList 0 tm { next:=h.next+ops.toList.length,mem:=h.mem,df:=h.df } with
    | some tr=>bif dynGo E ops.toList (masks ops.toList []) (effsOf ops.toList 0) tr 0 ops.toList then some (tr.T ops.toList.length,tr.H ops.toList.length) else none
    | none=>none
  else none
end
end Go.Den
namespace Go.Den
noncomputable section
def curN (tm0:List Value) (all:List Oper) (V:Nat→Value) (S:Array Bool) (t:Nat):Nat→Value
  | 0=>gt tm0 t
  | k+1=>if S.getD k false=true∧(all[k]?).bind (·.dst)=some t then V k else curN tm0 all V S t k
structure Sch (E:Env) (C:Oracle) (rd:Bool) (all:List Oper) (base:Nat) (tm0:List Value) (tr:Tr):Prop where
  st:statGo all (masks all []) 0 all []=true
  dy:dynGo E all (masks all []) (effsOf all 0) tr 0 all=true
  t0:tr.T 0=tm0
  sp:∀ j o,all[j]?=some o→opT E C rd all base j o (tr.T j) (tr.H j)=some (tr.V j,tr.H (j+1))∧tr.T (j+1)=sto (tr.T j) o.dst (tr.V j)
theorem sto_length (tm:List Value) (d:Option Tmp) (v:Value):(sto tm d v).length=tm.length:=by cases d <;> simp [sto,setR_def]
theorem gt_sto {tm:List Value} {d:Option Tmp} {v:Value} {t:Nat} (ht:t < tm.length):gt (sto tm d v) t=if d=some t then v else gt tm t:=by
  cases d with
  | none=>simp [sto]
  | some d=>
    by_cases e:d=t
    · subst e;simp [sto,setR_def,gt_def,List.getD_eq_getElem?_getD,ht]
    · rw [if_neg (by simpa using e)]
      simp [sto,setR_def,gt_def,List.getD_eq_getElem?_getD,List.getElem?_set_ne e]
section
variable {E:Env} {C:Oracle} {rd:Bool} {all:List Oper} {base:Nat} {tm0:List Value} {tr:Tr}
abbrev ms (all:List Oper):List Nat:=masks all []
theorem Sch.pair (s:Sch E C rd all base tm0 tr) {i j:Nat} {oi oj:Oper} (hi:all[i]?=some oi) (hj:all[j]?=some oj) (h:j < i):pairOK all (ms all) i oi j oj=true:=by
  have:=(statGo_spec all 0 [] s.st i oi hi).2.2 j oj h hj
  simpa using this
theorem Sch.edge (s:Sch E C rd all base tm0 tr) {i:Nat} {o:Oper} (hi:all[i]?=some o) {e:Edge} (he:e ∈ o.after) (hb:Region.binds .any e=true):e.on < i:=by
  have:=(statGo_spec all 0 [] s.st i o hi).1 e he hb
  simpa using this
theorem anc {i j:Nat} (h:ordB (ms all) i j=true):∃ o,all[i]?=some o∧∃ e ∈ o.after,Region.binds .any e=true∧(e.on=j∨ordB (ms all) e.on j=true):=by
  simpa using (masks_spec all []).2 i j (Nat.zero_le _) h
theorem Sch.len (s:Sch E C rd all base tm0 tr):∀ {j:Nat},j≤all.length→(tr.T j).length=tm0.length
  | 0,_=>by rw [s.t0]
  | j+1,h=>by
    have hj:all[j]?=some all[j]:=List.getElem?_eq_getElem (by omega)
    rw [(s.sp j _ hj).2,sto_length]
    exact s.len (by omega)
theorem Sch.gt_succ (s:Sch E C rd all base tm0 tr) {j:Nat} (hj:j < all.length) {t:Nat} (ht:t < tm0.length) :
    gt (tr.T (j+1)) t=if (all[j]?).bind (·.dst)=some t then tr.V j else gt (tr.T j) t:=by
  have h1:all[j]?=some all[j]:=List.getElem?_eq_getElem hj
  rw [(s.sp j _ h1).2,gt_sto (by rw [s.len (Nat.le_of_lt hj)];exact ht),h1]
  rfl
theorem Sch.still (s:Sch E C rd all base tm0 tr) {i:Nat}:∀ (d:Nat),(∀ j,i≤j→j < i+d→∃ o,all[j]?=some o∧cls o.op=0)→tr.H (i+d)=tr.H i
  | 0,_=>rfl
  | d+1,h=>by
    have ih:=s.still d fun j h1 h2=>h j h1 (by omega)
    obtain ⟨o,ho,hc⟩:=h (i+d) (by omega) (by omega)
    have hsp:=(s.sp (i+d) o ho).1
    rw [← ih]
    unfold opT at hsp
    split at hsp
    · rw [hc] at hsp
      simp only at hsp
      split at hsp
      · simp only [Option.some.injEq,Prod.mk.injEq] at hsp;exact hsp.2.symm
      · cases hsp
    · simp only [Option.some.injEq,Prod.mk.injEq] at hsp;exact hsp.2.symm
    · cases hsp
def Closed (all:List Oper) (S:Array Bool):Prop:=∀ i j,S.getD i false=true→ordB (ms all) i j=true→S.getD j false=true
theorem cur_pre (s:Sch E C rd all base tm0 tr) {S:Array Bool} {t:Nat} (ht:t < tm0.length):∀ {k:Nat},k≤all.length →
    (∀ j o,j < k→all[j]?=some o→o.dst=some t→S.getD j false=true)→curN tm0 all tr.V S t k=gt (tr.T k) t
  | 0,_,_=>by rw [s.t0];rfl
  | k+1,hk,hw=>by
    have ih:=cur_pre s (S:=S) ht (k:=k) (by omega) fun j o hj=>hw j o (by omega)
    rw [s.gt_succ (by omega) ht]
    have h1:all[k]?=some all[k]:=List.getElem?_eq_getElem (by omega)
    simp only [curN]
    by_cases hd:(all[k]?).bind (·.dst)=some t
    · have hs:=hw k all[k] (by omega) h1 (by rw [h1] at hd;exact hd)
      rw [if_pos ⟨hs,hd⟩,if_pos hd]
    · rw [if_neg (fun h=>hd h.2),if_neg hd,ih]
theorem cur_post {S:Array Bool} {t i:Nat} {V:Nat→Value}:∀ {k:Nat},i≤k→(∀ j o,i≤j→j < k→all[j]?=some o→o.dst=some t→S.getD j false=false) →
    curN tm0 all V S t k=curN tm0 all V S t i
  | 0,h,_=>by rw [Nat.le_zero.1 h]
  | k+1,h,hw=>by
    by_cases e:i=k+1
    · rw [e]
    · have ih:=cur_post (S:=S) (V:=V) (t:=t) (i:=i) (k:=k) (by omega) fun j o h1 h2=>hw j o h1 (by omega)
      simp only [curN]
      rw [if_neg,ih]
      rintro ⟨h1,h2⟩
      cases ho:all[k]? with
      | none=>rw [ho] at h2;cases h2
      | some o=>
        rw [ho] at h2
        rw [hw k o (by omega) (by omega) ho h2] at h1
        cases h1
theorem agree (s:Sch E C rd all base tm0 tr) {S:Array Bool} (hc:Closed all S) {i:Nat} {oi:Oper} (hi:all[i]?=some oi) (hn:S.getD i false=false)
    (hb:∀ j,ordB (ms all) i j=true→S.getD j false=true) {t:Nat} (ht:t < tm0.length) (hl:t ∈ looks all oi):curN tm0 all tr.V S t all.length=gt (tr.T i) t:=by
  have hlt:i < all.length:=(List.getElem?_eq_some_iff.1 hi).1
  rw [cur_post (i:=i) (Nat.le_of_lt hlt),cur_pre s ht (Nat.le_of_lt hlt)]
  · intro j o hj ho hd
    cases hx:ordB (ms all) i j with
    | true=>exact hb j hx
    | false=>exact absurd hl ((pairOK_spec (s.pair hi ho hj) hx).1 t hd).1
  · intro j o h1 h2 ho hd
    by_cases e:j=i
    · rw [e];exact hn
    · cases hx:ordB (ms all) j i with
      | true=>
        cases hs:S.getD j false with
        | false=>rfl
        | true=>rw [hc j i hs hx] at hn;cases hn
      | false=>exact absurd hl ((pairOK_spec (s.pair ho hi (by omega)) hx).2.1 t hd)
theorem set_at {S:Array Bool} {i:Nat} (hi:i < S.size):(S.setIfInBounds i true).getD i false=true:=by simp [hi]
theorem set_ne {S:Array Bool} {i j:Nat} (h:i≠j):(S.setIfInBounds i true).getD j false=S.getD j false:=by simp [Array.getElem?_setIfInBounds_ne h]
theorem insert_cur (s:Sch E C rd all base tm0 tr) {S:Array Bool} (hs:S.size=all.length) (hc:Closed all S) {i:Nat} {oi:Oper} (hi:all[i]?=some oi) (hn:S.getD i false=false) (t:Nat) :
    curN tm0 all tr.V (S.setIfInBounds i true) t all.length=if oi.dst=some t then tr.V i else curN tm0 all tr.V S t all.length:=by
  have hlt:i < all.length:=(List.getElem?_eq_some_iff.1 hi).1
  have low:∀ k,k≤i→curN tm0 all tr.V (S.setIfInBounds i true) t k=curN tm0 all tr.V S t k:=by
    intro k
    induction k with
    | zero=>intro _;rfl
    | succ k ih=>intro hk;simp only [curN];rw [set_ne (by omega),ih (by omega)]
  by_cases hd:oi.dst=some t
  · rw [if_pos hd]
    have e1:curN tm0 all tr.V (S.setIfInBounds i true) t (i+1)=tr.V i:=by
      simp only [curN]
      rw [if_pos ⟨set_at (by omega),by rw [hi];exact hd⟩]
    rw [← e1]
    refine cur_post (by omega) fun j o h1 h2 ho hdj=>?_
    rw [set_ne (by omega)]
    cases hx:ordB (ms all) j i with
    | true=>
      cases hs':S.getD j false with
      | false=>rfl
      | true=>rw [hc j i hs' hx] at hn;cases hn
    | false=>exact absurd hdj ((pairOK_spec (s.pair ho hi (by omega)) hx).1 t hd).2
  · rw [if_neg hd]
    have:∀ k,curN tm0 all tr.V (S.setIfInBounds i true) t k=curN tm0 all tr.V S t k:=by
      intro k
      induction k with
      | zero=>rfl
      | succ k ih=>
        simp only [curN]
        by_cases e:i=k
        · subst e
          rw [if_neg (fun h=>hd (by rw [hi] at h;exact h.2)),if_neg (fun h=>hd (by rw [hi] at h;exact h.2)),ih]
        · rw [set_ne e,ih]
    exact this _
def NewAt (E:Env) (all:List Oper) (tr:Tr) (i:Nat) (ob:AObj):Prop:=
  ∃ o mk,all[i]?=some o∧cls o.op=2∧wantedA all (tr.T i) o=some true∧mkObj E o.op (aev (tr.T i))=some (ob,mk)
theorem NewAt.uniq {i:Nat} {ob ob':AObj} (h:NewAt E all tr i ob) (h':NewAt E all tr i ob'):ob=ob':=by
  obtain ⟨o,mk,h1,_,_,h4⟩:=h
  obtain ⟨o',mk',g1,_,_,g4⟩:=h'
  rw [h1] at g1;cases g1
  rw [h4] at g4;cases g4
  rfl
def NewOK (E:Env) (all:List Oper) (base:Nat) (tr:Tr) (S:Array Bool) (m:Nat) (φ:Phi) (h:AH) (w:World):Prop:=
  ∀ i ob,NewAt E all tr i ob →
    (S.getD i false=true→∃ c T,φ (base+i)=some (c,0,T)∧(m≤i→OR φ 0 T (some ob) w.heap[c]?∧∀ x s,φ x=some (c,s)→x=base+i)) ∧
    (S.getD i false=false→φ (base+i)=none∧(i < m→h.get (base+i)=some ob))
structure Inv (E:Env) (all:List Oper) (base:Nat) (tm0:List Value) (tr:Tr) (s₀:Nat) (φ₀:Phi) (h₀:AH) (w₀:World) (S:Array Bool) (m:Nat) (φ:Phi) (a:Act) (w:World) (ds₀:List Deferred):Prop where
  sz:S.size=all.length
  cl:Closed all S
  mn:m≤all.length
  ef:∀ e o,all[e]?=some o→cls o.op=1→(S.getD e false=true ↔ e < m)
  rel:Rel φ (tr.H m) w
  fwd:Fwd φ₀ h₀ w₀ φ (tr.H m) w
  dfs:DfR s₀ φ (tr.H m) w (tr.H m).df a.defers
  nx:base+all.length≤(tr.H m).next
  tsz:a.tmps.toList.length=tm0.length
  tms:∀ t,t < tm0.length→VR φ (curN tm0 all tr.V S t all.length) (a.tmps.toList.getD t junk)
  new:NewOK E all base tr S m φ (tr.H m) w
  fut:∀ i,m≤i→i < all.length→(tr.H m).get (base+i)=none
  dk:noDef all=true→a.defers=ds₀
variable {P:Program} {s₀:Nat} {φ₀ φ φ':Phi} {h₀ h':AH} {w₀ w w':World} {S:Array Bool} {m:Nat} {a:Act} {ds₀:List Deferred}
theorem Inv.world (v:Inv E all base tm0 tr s₀ φ₀ h₀ w₀ S m φ a w ds₀) (f:Fwd φ (tr.H m) w φ' h' w') :
    NewOK E all base tr S m φ' h' w'∧∀ i,m≤i→i < all.length→h'.get (base+i)=none:=by
  constructor
  · intro i ob hn
    have hlt:i < all.length:=by obtain ⟨o,_,h1,_⟩:=hn;exact (List.getElem?_eq_some_iff.1 h1).1
    have hb:base+i < (tr.H m).next:=Nat.lt_of_lt_of_le (by omega) v.nx
    obtain ⟨h1,h2⟩:=v.new i ob hn
    refine ⟨fun hs=>?_,fun hs=>?_⟩
    · obtain ⟨c,T,g1,g2⟩:=h1 hs
      refine ⟨c,T,f.ext _ _ g1,fun hm=>?_⟩
      obtain ⟨g3,g4⟩:=g2 hm
      have hdead:=v.fut i hm hlt
      have hc:=(v.rel.bnd _ _ _ g1).2
      have hk:w'.heap[c]?=w.heap[c]?:=f.keep c hc fun b s hb=>by rw [g4 b s hb,hdead];rfl
      refine ⟨by rw [hk];exact g3.mono f.ext,fun x s hx=>?_⟩
      cases h5:φ x with
      | none=>
        rcases f.fresh x c s hx h5 with h | ⟨b₀,s₁,h3,h4⟩
        · omega
        · rw [g4 _ _ h3,hdead] at h4;cases h4
      | some z=>
        have:=f.ext _ _ h5
        rw [hx] at this;cases this
        exact g4 x s h5
    · obtain ⟨g1,g2⟩:=h2 hs
      obtain ⟨k1,k2⟩:=f.unm _ hb g1
      exact ⟨k1,fun hm=>by rw [k2];exact g2 hm⟩
  · intro i hm hlt
    have hb:base+i < (tr.H m).next:=Nat.lt_of_lt_of_le (by omega) v.nx
    have hdead:=v.fut i hm hlt
    cases hφ:φ (base+i) with
    | none=>rw [(f.unm _ hb hφ).2];exact hdead
    | some z=>
      cases hg:h'.get (base+i) with
      | none=>rfl
      | some o=>exact absurd hdead (f.liv _ hb (by rw [hg];simp))
theorem NewOK.shift {S:Array Bool} {h:AH} (hN:NewOK E all base tr S m φ h w) (hm:∀ ob,¬ NewAt E all tr m ob):NewOK E all base tr S (m+1) φ h w:=by
  intro i ob hn
  obtain ⟨h1,h2⟩:=hN i ob hn
  refine ⟨fun hs=>?_,fun hs=>?_⟩
  · obtain ⟨c,T,g1,g2⟩:=h1 hs
    exact ⟨c,T,g1,fun hm'=>g2 (by omega)⟩
  · obtain ⟨g1,g2⟩:=h2 hs
    refine ⟨g1,fun hlt=>g2 ?_⟩
    by_cases e:i=m
    · subst e;exact absurd hn (hm ob)
    · omega
theorem Inv.adv (s:Sch E C rd all base tm0 tr) (hb0:base=h₀.next) (v:Inv E all base tm0 tr s₀ φ₀ h₀ w₀ S m φ a w ds₀) {o:Oper} (ho:all[m]?=some o) (hc:cls o.op≠1):Inv E all base tm0 tr s₀ φ₀ h₀ w₀ S (m+1) φ a w ds₀:=by
  have hlt:m < all.length:=(List.getElem?_eq_some_iff.1 ho).1
  have hsp:=(s.sp m o ho).1
  have hef:∀ e o,all[e]?=some o→cls o.op=1→(S.getD e false=true ↔ e < m+1):=by
    intro e o' he h1
    rw [v.ef e o' he h1]
    have hne:e≠m:=by rintro rfl;rw [ho] at he;cases he;exact hc h1
    omega
  have still:tr.H (m+1)=tr.H m→(∀ ob,¬ NewAt E all tr m ob)→Inv E all base tm0 tr s₀ φ₀ h₀ w₀ S (m+1) φ a w ds₀:=by
    intro hH hN
    refine ⟨v.sz,v.cl,hlt,hef,by rw [hH];exact v.rel,by rw [hH];exact v.fwd,by rw [hH];exact v.dfs,by rw [hH];exact v.nx,v.tsz,v.tms,by rw [hH];exact v.new.shift hN,fun i h1 h2=>(by rw [hH];exact v.fut i (by omega) h2),v.dk⟩
  unfold opT at hsp
  split at hsp
  · rename_i hw
    split at hsp
    · rename_i hcl
      split at hsp
      · simp only [Option.some.injEq,Prod.mk.injEq] at hsp
        refine still hsp.2.symm fun ob hn=>?_
        obtain ⟨o',_,h1,h2,_⟩:=hn
        rw [ho] at h1;cases h1;omega
      · cases hsp
    · rename_i hcl;exact absurd hcl hc
    · rename_i hc0 hc1
      split at hsp
      · rename_i ob mk hmk
        simp only [Option.some.injEq,Prod.mk.injEq] at hsp
        have hH:=hsp.2.symm
        have hcls:cls o.op=2:=by
          cases hop:o.op <;> rw [hop] at hmk <;> first | rfl | cases hmk
        have hnew:NewAt E all tr m ob:=⟨o,mk,ho,hcls,hw,hmk⟩
        have hdead:=v.fut m (Nat.le_refl _) hlt
        have hbm:base+m < (tr.H m).next:=Nat.lt_of_lt_of_le (by omega) v.nx
        obtain ⟨n1,n2⟩:=v.new m ob hnew
        have hget:∀ x,(tr.H (m+1)).get x=if x=base+m then some ob else (tr.H m).get x:=fun x=>by rw [hH,AH.get_put]
        have alone:∀ b' s b₂ s₂,φ (base+m)=some (b',s)→φ b₂=some (b',s₂)→b₂=base+m:=by
          intro b' s b₂ s₂ h1 h2
          cases hs:S.getD m false with
          | true=>
            obtain ⟨c,T,g1,g2⟩:=n1 hs
            rw [h1] at g1;cases g1
            exact (g2 (Nat.le_refl _)).2 _ _ h2
          | false=>rw [(n2 hs).1] at h1;cases h1
        refine ⟨v.sz,v.cl,hlt,hef,⟨fun b b' s T hb=>?_,fun b₁ b₂ b' s₁ s₂ h1 h2 g1 g2=>?_,fun b b' s hb=>?_,fun b hb=>?_,v.rel.glu (fun _ _ h=>h) fun b g c hb=>?_⟩,?_,?_,?_,v.tsz,v.tms,fun i ob' hn=>?_,fun i h1 h2=>?_,v.dk⟩
        · rw [hget]
          by_cases e:b=base+m
          · subst e
            rw [if_pos rfl]
            cases hs:S.getD m false with
            | true=>
              obtain ⟨c,T',g1,g2⟩:=n1 hs
              rw [hb] at g1;cases g1
              exact (g2 (Nat.le_refl _)).1
            | false=>rw [(n2 hs).1] at hb;cases hb
          · rw [if_neg e];exact v.rel.blk _ _ _ _ hb
        · rw [hget] at g1 g2
          by_cases e1:b₁=base+m
          · subst e1;exact (alone _ _ _ _ h1 h2).symm
          · by_cases e2:b₂=base+m
            · subst e2;exact alone _ _ _ _ h2 h1
            · rw [if_neg e1] at g1;rw [if_neg e2] at g2
              exact v.rel.inj _ _ _ _ _ h1 h2 g1 g2
        · have:=v.rel.bnd _ _ _ hb
          rw [hH];exact this
        · rw [hget]
          have hb':(tr.H m).next≤b:=by rw [hH] at hb;exact hb
          rw [if_neg (by omega)]
          exact v.rel.lim b hb'
        · rw [hget] at hb
          split at hb
          · cases hb;exact (mkObj_ng hmk).elim
          · exact hb
        · have f:=v.fwd
          refine ⟨by rw [hH];exact f.nx,f.ext,fun b hb hn=>?_,f.fresh,fun b hb hl=>?_,fun b hb hl=>?_,f.sz,f.os,f.out,f.keep⟩
          · rw [hget,if_neg (by omega)];exact f.unm b hb hn
          · rw [hget,if_neg (by omega)] at hl;exact f.liv b hb hl
          · rw [hget,if_neg (by omega)] at hl;exact f.lw b hb hl
        · have hdf:(tr.H (m+1)).df=(tr.H m).df:=by rw [hH];rfl
          rw [hdf]
          have hd:=v.dfs
          generalize (tr.H m).df=ds at hd
          generalize a.defers=ds' at hd
          induction hd with
          | nil=>exact .nil
          | call g cap cap' args args' hc ha ds ds' _ ih=>exact .call g _ _ _ _ hc ha _ _ ih
          | mark b hs hb hf ds ds' hn _ ih=>
            refine .mark b hs hb (fun x s hx=>?_) _ _ hn ih
            rw [hget]
            by_cases e:x=base+m
            · subst e
              exfalso
              cases hs:S.getD m false with
              | true=>
                obtain ⟨c,T,g1,g2⟩:=n1 hs
                rw [hx] at g1;cases g1
                have:=(g2 (Nat.le_refl _)).1
                rw [hb] at this
                cases ob with
                | cells c n t=>obtain ⟨⟨_,_,_,_,h,_⟩,_⟩:=this;cases h
                | ro c=>obtain ⟨_,_,_,_,h,_⟩:=this;cases h
                | glob g c=>obtain ⟨_,_,_,_,h,_⟩:=this;cases h
                | map es=>exact this
                | iter=>exact this
                | loop=>exact this
              | false=>rw [(n2 hs).1] at hx;cases hx
            · rw [if_neg e];exact hf x s hx
        · rw [hH];exact v.nx
        · obtain ⟨h1,h2⟩:=v.new i ob' hn
          refine ⟨fun hs=>?_,fun hs=>?_⟩
          · obtain ⟨c,T,g1,g2⟩:=h1 hs
            exact ⟨c,T,g1,fun hm'=>g2 (by omega)⟩
          · obtain ⟨g1,g2⟩:=h2 hs
            refine ⟨g1,fun hi=>?_⟩
            rw [hget]
            by_cases e:i=m
            · subst e;rw [if_pos rfl,hnew.uniq hn]
            · rw [if_neg (by omega)];exact g2 (by omega)
        · rw [hget,if_neg (by omega)];exact v.fut i (by omega) h2
      · cases hsp
  · rename_i hw
    simp only [Option.some.injEq,Prod.mk.injEq] at hsp
    refine still hsp.2.symm fun ob hn=>?_
    obtain ⟨o',_,h1,_,h3,_⟩:=hn
    rw [ho] at h1;cases h1
    rw [hw] at h3;cases h3
  · cases hsp
theorem Inv.norm (s:Sch E C rd all base tm0 tr) (hb0:base=h₀.next):∀ (d m:Nat),all.length - m≤d→Inv E all base tm0 tr s₀ φ₀ h₀ w₀ S m φ a w ds₀ →
    ∃ m',Inv E all base tm0 tr s₀ φ₀ h₀ w₀ S m' φ a w ds₀∧(m'=all.length∨∃ o,all[m']?=some o∧cls o.op=1):=by
  intro d
  induction d with
  | zero=>intro m hd v;exact ⟨m,v,.inl (by have:=v.mn;omega)⟩
  | succ d ih=>
    intro m hd v
    by_cases e:m=all.length
    · exact ⟨m,v,.inl e⟩
    · have hlt:m < all.length:=by have:=v.mn;omega
      have ho:all[m]?=some all[m]:=List.getElem?_eq_getElem hlt
      by_cases hc:cls all[m].op=1
      · exact ⟨m,v,.inr ⟨_,ho,hc⟩⟩
      · exact ih (m+1) (by omega) (v.adv s hb0 ho hc)
end
end
end Go.Den
