/- Literals, append, copy, conversions: the abstract steps of all operations that call nothing are sound. Conditions: none. -/
import Derived.Test.YtejgabehfdapjaaGreatDenA
import Derived.Maps.Keyed
import Derived.RangeFuncRecord
import Derived.Lib.Bytealg
namespace Go.Den
noncomputable section
def bldV (zero:List Value) (ps:List (Nat × Nat × Value)):Option Value:=(lay ps zero).bind fun l=>some (.agg ⟨l⟩)
def hBldS (len:Nat) (zero:List Value) (ps:List (Nat × Nat × Value)) (h:AH):Option (Value × AH):=
  bif Nat.ble (len * zero.length) 16777216 then
    (lay ps (List.replicate len zero).flatten).bind fun l=>(hNew l h).bind fun p=>match p.1 with
      | .pointer a=>some (.slice a len len,p.2)
      | _=>none
  else none
def zrep (zero:List Value) (n:Nat):PT Value:=
  match zero with
  | [z]=>PT.rep z n n
  | z=>PT.ofList (List.replicate n z).flatten 0 .leaf
def hMk (bytes:Nat) (zero:List Value) (l c:Value) (h:AH):Option (Value × AH):=
  match l,c with
  | .int _ (.ofNat l),.int _ (.ofNat c)=>
    bif Nat.ble l c && Nat.ble (bytes * c) 281474976710656 && Nat.ble c 281474976710656 && allC zero then
      some (.slice (some ⟨h.next,0,none⟩) l c,h.new (.cells (zrep zero c) (c * zero.length) 0))
    else none
  | _,_=>none
def hMap (h:AH):Option (Value × AH):=some (.map (some h.next),h.new (.map [] [] 0))
theorem repl_get (l:List Value) (n i:Nat):(List.replicate n l).flatten[i]?=if i < n * l.length then l[i % l.length]? else none:=by
  induction n generalizing i with
  | zero=>simp
  | succ n ih=>
    rw [List.replicate_succ,List.flatten_cons]
    by_cases hi:i < l.length
    · rw [List.getElem?_append_left hi,if_pos (by rw [Nat.add_mul];omega),Nat.mod_eq_of_lt hi]
    · rw [List.getElem?_append_right (by omega),ih]
      have e:(i - l.length) % l.length=i % l.length:=by
        exact (Nat.mod_eq_sub_mod (by omega)).symm
      rw [e]
      by_cases h:i < (n+1) * l.length
      · rw [if_pos h,if_pos (by rw [Nat.add_mul] at h;omega)]
      · rw [if_neg h,if_neg (by rw [Nat.add_mul] at h;omega)]
theorem range_zero (z:Array Value) (l:List Value) (hz:z.toList=l) (n:Nat):((Array.range (n * z.size)).map (z[· % z.size]!)).toList=(List.replicate n l).flatten:=by
  subst hz
  apply List.ext_getElem?
  intro i
  rw [repl_get]
  simp only [Array.toList_map,Array.toList_range,List.getElem?_map,Array.length_toList]
  by_cases h:i < n * z.size
  · rw [if_pos h,List.getElem?_range h]
    simp
    have:0 < z.size:=by
      rcases Nat.eq_zero_or_pos z.size with h0 | h0
      · rw [h0] at h;omega
      · exact h0
    have hm:=Nat.mod_lt i this
    rw [getElem!_pos z (i % z.size) hm,Array.getElem?_eq_getElem hm]
  · rw [if_neg h];simp;omega
theorem VRs.flat {φ:Phi} {l:List Value} (h:VRs φ l l) (n:Nat):VRs φ (List.replicate n l).flatten (List.replicate n l).flatten:=by
  induction n with
  | zero=>exact .nil
  | succ n ih=>rw [List.replicate_succ,List.flatten_cons];exact h.append ih
def fieldsOk (P:Program) (d:TypeDesc):Prop:=match d with | .struct fs=>∀ f ∈ fs.toList,P.info? f.type≠none | _=>True
section
variable {P:Program} {φ:Phi} {w:World} {h h':AH} {x x' y y' v:Value} {t:TypeId}
theorem places_run (fs:List Field) (h:∀ f ∈ fs,P.info? f.type≠none) :
    (fs.mapM (m:=Sem) fun f=>do pure (f.offset,← Go.sizeOf f.type)).run P w=.ok (fs.map fun f=>(f.offset,P.cellsOf f.type)) w:=by
  induction fs with
  | nil=>rfl
  | cons f fs ih=>
    have hf:=h f (by simp)
    cases hi:P.info? f.type with
    | none=>exact absurd hi hf
    | some i=>
      have h1:(do pure (f.offset,← Go.sizeOf f.type):Sem (Nat × Nat)).run P w=.ok (f.offset,P.cellsOf f.type) w:=by
        simp [Go.sizeOf,typeInfo,hi,Program.cellsOf]
      simp only [List.mapM_cons,Sem.run_bind] at h1 ⊢
      rw [h1,Result.andThen_ok,ih (fun f hf=>h f (by simp [hf]))]
      rfl
theorem bldS_sound {ti:TI} {fs:Array Field} {ps:List (Nat × Nat × Value)} {ps':Array (Nat × Value)} (ht:TIok P t ti) (hz:selfOk ti.zero) (hd:ti.desc=.struct fs) (hf:fieldsOk P ti.desc)
    (hp:LayP φ (fun (i:Nat)=>(fs[i]?).map fun (f:Field)=>(f.offset,P.cellsOf f.type)) ps ps'.toList) (hl:bldV ti.zero ps=some v) :
    ∃ v',(Instr.build t ps').run P w=.ok v' w∧VR φ v v':=by
  unfold bldV at hl
  cases hla:lay ps ti.zero with
  | none=>simp [hla] at hl
  | some l=>
    simp [hla] at hl
    subst hl
    obtain ⟨z,h1,h2,_⟩:=run_zero w ht
    have e:z.cells=⟨ti.zero⟩:=Array.ext' h2
    obtain ⟨out',g1,g2⟩:=lay_sound hp (hz φ) hla
    refine ⟨.agg ⟨out'⟩,?_,.agg _ _ g2⟩
    rw [hd] at hf
    have hm:=places_run (P:=P) (w:=w) fs.toList hf
    simp only [Instr.build,Sem.run_bind,h1,Result.andThen_ok,run_ty w ht,hd,Array.mapM_eq_mapM_toList,Sem.run_map,hm,e]
    have hp2:(fun (i:Nat)=>((fs.toList.map fun (f:Field)=>(f.offset,P.cellsOf f.type)).toArray)[i]?)=(fun (i:Nat)=>(fs[i]?).map fun (f:Field)=>(f.offset,P.cellsOf f.type)):=by
      funext i;simp
    simp only [hp2,g1]
    rfl
theorem bldA_sound {ti ei:TI} {e:TypeId} {len:Nat} {ps:List (Nat × Nat × Value)} {ps':Array (Nat × Value)} (ht:TIok P t ti) (hz:selfOk ti.zero) (hd:ti.desc=.array len e) (he:TIok P e ei)
    (hp:LayP φ (fun i=>some (i * ei.size,ei.size)) ps ps'.toList) (hl:bldV ti.zero ps=some v) :
    ∃ v',(Instr.build t ps').run P w=.ok v' w∧VR φ v v':=by
  unfold bldV at hl
  cases hla:lay ps ti.zero with
  | none=>simp [hla] at hl
  | some l=>
    simp [hla] at hl
    subst hl
    obtain ⟨z,h1,h2,_⟩:=run_zero w ht
    have ez:z.cells=⟨ti.zero⟩:=Array.ext' h2
    obtain ⟨out',g1,g2⟩:=lay_sound hp (hz φ) hla
    refine ⟨.agg ⟨out'⟩,?_,.agg _ _ g2⟩
    simp only [Instr.build,Sem.run_bind,h1,Result.andThen_ok,run_ty w ht,hd,run_size w he,ez,g1]
    rfl
theorem hBldS_sound {ti ei:TI} {e:TypeId} {len:Nat} {ps:List (Nat × Nat × Value)} {ps':Array (Nat × Value)} (r:Rel φ h w) (ht:TIok P t ti) (hd:ti.desc=.slice e) (he:TIok P e ei) (hz:selfOk ei.zero) (hzl:ei.zero.length=ei.size)
    (hlen:len < unk 0) (hp:LayP φ (fun i=>some (i * ei.size,ei.size)) ps ps'.toList) (hl:hBldS len ei.zero ps h=some (v,h')):Makes P φ h w (Instr.buildSlice t len ps') v h':=by
  unfold hBldS at hl
  cases hb:Nat.ble (len * ei.zero.length) 16777216 with
  | false=>rw [hb] at hl;cases hl
  | true=>
    rw [hb,cond_true] at hl
    have hle:=Nat.le_of_ble_eq_true hb
    rw [hzl] at hle
    cases hla:lay ps (List.replicate len ei.zero).flatten with
    | none=>simp [hla] at hl
    | some l=>
      simp only [hla,Option.bind_some] at hl
      obtain ⟨out',g1,g2⟩:=lay_sound hp ((hz φ).flat len) hla
      cases hn:hNew l h with
      | none=>simp [hn] at hl
      | some p=>
        obtain ⟨pv,ph⟩:=p
        simp only [hn,Option.bind_some] at hl
        obtain ⟨φ',v',w',k1,k2,k3,k4⟩:=hNew_sound (P:=P) r g2 e hn
        obtain ⟨rfl,rfl⟩:pv=.pointer (some ⟨h.next,0,none⟩)∧ph=h.new (.cells (PT.ofList l 0 .leaf) l.length 0):=by
          unfold hNew at hn
          cases ha:allC l with
          | false=>rw [ha] at hn;cases hn
          | true=>rw [ha] at hn;cases hn;exact ⟨rfl,rfl⟩
        cases k2 with
        | ptr b o b' s T hb=>
          simp only [Option.some.injEq,Prod.mk.injEq] at hl
          obtain ⟨rfl,rfl⟩:=hl
          refine ⟨φ',.slice (some ⟨b',0+s,none⟩) len len,w',?_,.slice _ _ b' s T len len len hb (Nat.le_refl _) (.inl ⟨rfl,hlen⟩),k3,k4⟩
          obtain ⟨z,h1,h2,_⟩:=run_zero w he
          have hzs:z.cells.size=ei.size:=by rw [← Array.length_toList,h2,hzl]
          have hcells:∀ z0:Array Value,(z0=z.cells∨(len * ei.size=0∧z0=#[]))→((Array.range (len * ei.size)).map (z0[· % z0.size]!))=⟨(List.replicate len ei.zero).flatten⟩:=by
            intro z0 hz0
            apply Array.ext'
            rcases hz0 with rfl | ⟨h0,rfl⟩
            · rw [← hzs];exact range_zero _ _ h2 len
            · rw [h0]
              simp
              intro hne
              rcases Nat.mul_eq_zero.1 h0 with h | h
              · exact absurd h hne
              · rw [← hzl] at h;exact List.length_eq_zero_iff.1 h
          have hnr:(do pure (.pointer (some (← newRow e ⟨out'⟩))):Sem Value).run P w=.ok (.pointer (some ⟨b',0+s,none⟩)) w':=k1
          have hnr':(newRow e ⟨out'⟩).run P w=.ok ⟨b',0+s,none⟩ w':=by
            simp [newRow] at hnr ⊢
            exact hnr
          simp only [Instr.buildSlice,Sem.run_bind,run_ty w ht,hd,Result.andThen_ok,run_size w he]
          rw [Sem.run_ite,if_neg (by omega)]
          simp only [Sem.run_ite]
          by_cases h0:len * ei.size=0
          · rw [if_pos h0]
            have hc:=hcells #[] (.inr ⟨h0,rfl⟩)
            simp only [Result.andThen_ok,hc,g1,Sem.run_bind,hnr',Sem.run_pure]
          · rw [if_neg h0]
            have hc:=hcells z.cells (.inl rfl)
            simp only [Sem.run_bind,h1,Result.andThen_ok,hc,g1,hnr',Sem.run_pure]
theorem hMap_sound (r:Rel φ h w) (hl:hMap h=some (v,h')):Makes P φ h w (Instr.makeMap t none) v h':=by
  cases hl
  obtain ⟨h1,h2⟩:=r.new (.map [] [] 0) (.map #[] 0) 0 ⟨rfl,trivial,rfl,rfl⟩
  exact ⟨_,_,_,by simp [Instr.makeMap],.map _ _ _ (Phi.set_self _ _ _),h1,h2⟩
end
end
end Go.Den
namespace Go.Den
noncomputable section
theorem zrep_get (zero:List Value) (n i:Nat) (v:Value) (h:(zrep zero n).get i=some v):(List.replicate n zero).flatten[i]?=some v:=by
  unfold zrep at h
  split at h
  · rename_i z
    obtain ⟨h1,h2⟩:=PT.get_rep z n n i v h
    rw [repl_get,if_pos (by simpa using h1),h2]
    simp [Nat.mod_one]
  · exact ofList_get _ _ _ h
theorem flat_one {zero:List Value} (ha:allC zero=true) {n i:Nat} {v:Value} (h:(List.replicate n zero).flatten[i]?=some v):i < n * zero.length∧oneC v=true:=by
  rw [repl_get] at h
  split at h
  · rename_i hlt;exact ⟨hlt,allC_get ha _ _ h⟩
  · cases h
def lenV (y:Value):Option Nat:=
  match y with
  | .slice _ n _=>some n
  | .string s=>some s.size
  | _=>none
def rdV (size n:Nat) (y:Value) (h:AH):Option (List Value):=
  match y with
  | .slice none 0 0=>some []
  | .slice (some ⟨b,o,_⟩) m _=>bif Nat.beq n 0 then some [] else bif Nat.ble n m then h.cellsN b o (n * size) else none
  | .string s=>some ((s.data.toList.take n).map fun b=>.int .u8 (.ofNat b.toNat))
  | _=>none
def PT.puts:PT Value→Nat→List Value→PT Value
  | c,_,[]=>c
  | c,o,v::l=>PT.puts (c.put o (some v)) (o+1) l
theorem PT.get_puts:∀ (l:List Value) (c:PT Value) (o i:Nat),(PT.puts c o l).get i=if o≤i∧i < o+l.length then l[i - o]? else c.get i:=by
  intro l
  induction l with
  | nil=>intro c o i;simp [PT.puts];omega
  | cons v l ih=>
    intro c o i
    rw [PT.puts,ih,PT.get_put]
    by_cases h:o+1≤i∧i < o+1+l.length
    · rw [if_pos h,if_pos (by simp;omega),show i - o=(i - (o+1))+1 by omega,List.getElem?_cons_succ]
    · rw [if_neg h]
      by_cases h':i=o
      · subst h';simp
      · rw [if_neg h',if_neg (by simp;omega)]
def roomOk (need bytes:Nat):Bool:=Nat.ble ((2 * need+768) * bytes) 281474976710656 && Nat.ble need 281474976710656
def grown (h:AH) (b o k:Nat) (new:List Value):Option (PT Value):=
  match h.get b with
  | some (.cells c n _)=>
    bif Nat.beq o 0 && Nat.beq n k then some (PT.puts c k new)
    else (h.cellsN b o k).bind fun l=>bif allC l then some (PT.ofList (l++new) 0 .leaf) else none
  | _=>none
def tyB (h:AH) (b e:Nat):Nat:=
  match h.get b with
  | some (.cells _ _ t)=>bif Nat.beq t (2 * e+1) then 2 * e+1 else 0
  | _=>0
def hApp (e size bytes:Nat) (x y:Value) (h:AH):Option (Value × AH):=
  (lenV y).bind fun n=>(rdV size n y h).bind fun new=>
  bif allC new && Nat.beq new.length (n * size) then
    match x with
    | .slice none 0 0=>
      bif Nat.beq n 0 then some (.slice none 0 0,h)
      else bif roomOk n bytes then some (.slice (some ⟨h.next,0,none⟩) n (unk size),h.new (.cells (PT.ofList new 0 .leaf) new.length (2 * e+1))) else none
    | .slice (some ⟨b,o,sp⟩) m c=>
      bif Nat.beq n 0 then some (.slice (some ⟨b,o,sp⟩) m c,h)
      else bif roomOk (m+n) bytes then
        bif Nat.beq c (unk size) then
          (grown h b o (m * size) new).bind fun p=>
            some (.slice (some ⟨h.next,0,none⟩) (m+n) (unk size),(h.put b none).new (.cells p ((m+n) * size) (tyB h b e)))
        else bif Nat.ble (unk 0) c then none
        else bif Nat.ble (m+n) c then
          (h.stL b (o+m * size) new).bind fun h'=>some (.slice (some ⟨b,o,sp⟩) (m+n) c,h')
        else (bif Nat.beq m 0 then some [] else h.cellsN b o (m * size)).bind fun old=>bif allC old then
          some (.slice (some ⟨h.next,0,none⟩) (m+n) (unk size),h.new (.cells (PT.ofList (old++new) 0 .leaf) (old++new).length (2 * e+1))) else none
      else none
    | _=>none
  else none
def hCopy (size:Nat) (x y:Value) (h:AH):Option (Value × AH):=
  (lenV y).bind fun k=>(lenV x).bind fun m=>(rdV size (min k m) y h).bind fun new=>
    match x with
    | .slice none 0 0=>some (.int .i64 (.ofNat (min k m)),h)
    | .slice (some ⟨b,o,_⟩) _ _=>match new with
      | []=>some (.int .i64 (.ofNat (min k m)),h)
      | new=>(h.stL b o new).bind fun h'=>some (.int .i64 (.ofNat (min k m)),h')
    | _=>none
section
variable {P:Program} {φ:Phi} {w:World} {h h':AH} {x x' y y' v:Value} {t:TypeId}
theorem wrap_nat (m:Nat) (h:m < 9223372036854775808):IntKind.i64.wrap (m:Int)=m:=wrap_small .i64 m h
theorem hMk_sound {ti ei:TI} {e:TypeId} (r:Rel φ h w) (ht:TIok P t ti) (hd:ti.desc=.slice e) (he:TIok P e ei) (hz:selfOk ei.zero) (hzl:ei.zero.length=ei.size)
    (hx:VR φ x x') (hy:VR φ y y') (hl:hMk ei.bytes ei.zero x y h=some (v,h')):Makes P φ h w (Instr.makeSlice t x' y') v h':=by
  unfold hMk at hl
  split at hl
  · rename_i k l j c
    cases hb:(Nat.ble l c && Nat.ble (ei.bytes * c) 281474976710656 && Nat.ble c 281474976710656 && allC ei.zero) with
    | false=>rw [hb] at hl;cases hl
    | true=>
      rw [hb] at hl
      cases hl
      simp only [Bool.and_eq_true] at hb
      obtain ⟨⟨⟨b1,b2⟩,b3⟩,ha⟩:=hb
      have b1:=Nat.le_of_ble_eq_true b1
      have b2:=Nat.le_of_ble_eq_true b2
      have b3:=Nat.le_of_ble_eq_true b3
      cases hx;cases hy
      obtain ⟨i,g1,g2⟩:=run_bytes w he
      obtain ⟨z,z1,z2,_⟩:=run_zero w he
      have hzs:z.cells.size=ei.size:=by rw [← Array.length_toList,z2,hzl]
      let n:=c * ei.size
      have hcells:∀ z0:Array Value,(z0=z.cells∨(n=0∧z0=#[]))→((Array.range n).map (z0[· % z0.size]!)).toList=(List.replicate c ei.zero).flatten:=by
        intro z0 hz0
        rcases hz0 with rfl | ⟨h0,rfl⟩
        · show ((Array.range (c * ei.size)).map _).toList=_
          rw [← hzs];exact range_zero _ _ z2 c
        · rw [h0]
          simp
          intro hne
          rcases Nat.mul_eq_zero.1 h0 with h | h
          · exact absurd h hne
          · rw [← hzl] at h;exact List.length_eq_zero_iff.1 h
      have fin:∀ ca:Array Value,ca.toList=(List.replicate c ei.zero).flatten→(Instr.makeSlice t (.int k (.ofNat l)) (.int j (.ofNat c))).run P w=.ok (.slice (some ⟨w.heap.size,0,none⟩) l c) { w with heap:=w.heap.push (.cells ca e) } →
          Makes P φ h w (Instr.makeSlice t (.int k (.ofNat l)) (.int j (.ofNat c))) (.slice (some ⟨h.next,0,none⟩) l c) (h.new (.cells (zrep ei.zero c) (c * ei.zero.length) 0)):=by
        intro ca hca hrun
        obtain ⟨h1,h2⟩:=r.newCells ((hz φ).flat c) (zrep ei.zero c) (c * ei.zero.length) (fun i v hi=>by
          have:=zrep_get _ _ _ _ hi
          have h3:=flat_one ha this
          exact ⟨h3.1,h3.2,this⟩) ca e (fun i v' hi=>by rw [← Array.getElem?_toList,hca];exact hi)
        exact ⟨_,_,_,hrun,.slice h.next 0 w.heap.size 0 _ l c c (Phi.set_self _ _ _) b1 (.inl ⟨rfl,by unfold unk;omega⟩),h1,h2⟩
      have w1:=wrap_nat l (by omega)
      have w2:=wrap_nat c (by omega)
      have hbc:((ei.bytes * c:Nat):Int)≤(281474976710656:Nat):=Int.ofNat_le.2 b2
      have p48:(2:Int) ^ 48=((281474976710656:Nat):Int):=by decide
      have a1:¬ ((c:Int) < 0):=Int.not_lt.2 (Int.natCast_nonneg c)
      have a2:¬ ((ei.bytes:Int) * (c:Int) > 2 ^ 48):=by rw [p48,← Int.natCast_mul];exact Int.not_lt.2 hbc
      have a3:¬ ((l:Int) < 0):=Int.not_lt.2 (Int.natCast_nonneg l)
      have a4:¬ ((l:Int) > (c:Int)):=Int.not_lt.2 (Int.ofNat_le.2 b1)
      have run0:∀ z0:Array Value,(if c * ei.size=0 then (pure #[]:Sem (Array Value)) else do pure (← zeroValue e).cells).run P w=.ok z0 w →
          (Instr.makeSlice t (.int k (.ofNat l)) (.int j (.ofNat c))).run P w=.ok (.slice (some ⟨w.heap.size,0,none⟩) l c) { w with heap:=w.heap.push (.cells ((Array.range n).map (z0[· % z0.size]!)) e) }:=by
        intro z0 hz0
        simp only [Instr.makeSlice,Sem.run_bind,run_ty w ht,hd,Result.andThen_ok,asInt,asIntOf,Sem.run_pure,g1,g2]
        rw [show (IntKind.i64.wrap (Int.ofNat l))=(l:Int) from w1,show (IntKind.i64.wrap (Int.ofNat c))=(c:Int) from w2]
        rw [decide_eq_false a1,decide_eq_false a2,decide_eq_false a3,decide_eq_false a4]
        simp only [Bool.or_false,Bool.false_eq_true,if_false,Sem.run_bind,run_askRoom,Result.andThen_ok,Int.toNat_natCast,run_size w he]
        rw [Sem.run_ite] at hz0 ⊢
        by_cases h0:c * ei.size=0
        · rw [if_pos h0] at hz0 ⊢
          cases hz0
          simp [newRow,n]
        · rw [if_neg h0] at hz0 ⊢
          simp only [Sem.run_bind,z1,Result.andThen_ok,Sem.run_pure] at hz0 ⊢
          cases hz0
          simp [newRow,n]
      by_cases h0:n=0
      · exact fin _ (hcells #[] (.inr ⟨h0,rfl⟩)) (run0 #[] (by rw [if_pos (show c * ei.size=0 from h0)];rfl))
      · exact fin _ (hcells z.cells (.inl rfl)) (run0 z.cells (by rw [if_neg (show ¬ c * ei.size=0 from h0)];simp [z1]))
  · cases hl
end
end
end Go.Den
namespace Go.Den
noncomputable section
section
variable {P:Program} {φ:Phi} {w:World} {h h':AH} {x x' y y' v:Value} {t:TypeId}
theorem lenV_sound {n:Nat} (hy:VR φ y y') (hl:lenV y=some n):(Builtin.lenOf y').run P w=.ok n w:=by
  unfold lenV at hl
  split at hl <;> cases hl <;> cases hy <;> rfl
theorem rdV_sound {size n:Nat} {l:List Value} (r:Rel φ h w) (hy:VR φ y y') (hl:rdV size n y h=some l) :
    ∃ l',(∀ d,(Builtin.firstCells size n y').run P { w with drawn:=d }=.ok ⟨l'⟩ { w with drawn:=d })∧VRs φ l l':=by
  unfold rdV at hl
  split at hl
  · cases hl;cases hy;exact ⟨[],fun _=>rfl,.nil⟩
  · rename_i b o sp m c
    by_cases hn:n=0
    · subst hn
      cases hl
      cases hy <;> exact ⟨[],fun d=>by simp [Builtin.firstCells,loadCells,loadCellsFrom],.nil⟩
    · rw [beq_false_of_ne hn,cond_false] at hl
      cases hb:Nat.ble n m with
      | false=>rw [hb] at hl;cases hl
      | true=>
        rw [hb,cond_true] at hl
        have:=Nat.le_of_ble_eq_true hb
        cases hy with
        | slice b o b' s T n c c' hb hn hc=>
          obtain ⟨l',h1,h2⟩:=cellsN_sound (P:=P) r hb o _ 0 l #[] hl
          exact ⟨l',fun d=>by simpa [Builtin.firstCells,loadCells] using h1 d,h2⟩
        | empty=>omega
  · rename_i s
    cases hl;cases hy
    refine ⟨(s.data.toList.take n).map fun b=>.int .u8 (.ofNat b.toNat),fun d=>?_,?_⟩
    · simp only [Builtin.firstCells,Sem.run_pure]
      congr 1
      apply Array.ext'
      simp
    · generalize s.data.toList.take n=q
      induction q with
      | nil=>exact .nil
      | cons b q ih=>exact .cons _ _ _ _ (.int _ _) ih
  · cases hl
theorem next_le (need cap:Nat) (h:cap < need):Builtin.nextslicecap need cap≤2 * need+768:=by
  unfold Builtin.nextslicecap
  split
  · omega
  · split
    · omega
    · have grow:∀ (k c:Nat),c≤2 * need+768→(c < need∨c≤2 * need+768)→Builtin.growBy need k c≤2 * need+768:=by
        intro k
        induction k with
        | zero=>intro c hc _;exact hc
        | succ k ih=>
          intro c hc _
          unfold Builtin.growBy
          split
          · exact hc
          · exact ih _ (by omega) (.inr (by omega))
      exact grow 4 cap (by omega) (.inl h)
theorem app_in {ti t2i ei:TI} {e t2 ty:TypeId} {base:Option Addr} {m c n:Nat} {new:List Value} {w':World} (ht:TIok P t ti) (hd:ti.desc=.slice e) (he:TIok P e ei) (ht2:TIok P t2 t2i) (hd2:∀ k,t2i.desc≠.int k)
    (hlen:(Builtin.lenOf y').run P w=.ok n w) (hnew:(Builtin.firstCells ei.size n y').run P w=.ok ⟨new⟩ w) (hle:m+n≤c)
    (hst:match base with | some a=>(storeCells (a.add (m * ei.size)) new).run P w=.ok () w' | none=>w'=w) :
    (Builtin.append_ #[t,t2] ty #[.slice base m c,y']).run P w=.ok (.slice base (m+n) c) w':=by
  unfold Builtin.append_
  simp only [List.getElem?_toArray,List.getElem?_cons_zero,List.getElem?_cons_succ,Sem.run_bind,run_ty w ht,hd,Result.andThen_ok,run_size w he,run_ty w ht2,Sem.run_pure]
  have hz:∀ (α:Type) (f:Bool→α),f (match t2i.desc with | .int _=>true | _=>false)=f false:=by
    intro α f
    cases e:t2i.desc <;> first | rfl | exact absurd e (hd2 _)
  simp only [Bool.false_eq_true,if_false,Sem.run_bind,hlen,Result.andThen_ok]
  rw [Sem.run_ite,if_pos hle]
  simp only [Bool.not_false,if_true,Sem.run_bind,hnew,Result.andThen_ok]
  cases base with
  | none=>rw [hst];simp
  | some a=>simp [hst]
theorem app_new {ti t2i ei:TI} {e t2 ty:TypeId} {base:Option Addr} {m c n:Nat} {old new:List Value} (ht:TIok P t ti) (hd:ti.desc=.slice e) (he:TIok P e ei) (ht2:TIok P t2 t2i) (hd2:∀ k,t2i.desc≠.int k)
    (hlen:(Builtin.lenOf y').run P w=.ok n w) (hnew:∀ d,(Builtin.firstCells ei.size n y').run P { w with drawn:=d }=.ok ⟨new⟩ { w with drawn:=d })
    (hold:∀ d,(Builtin.firstCells ei.size m (.slice base m c)).run P { w with drawn:=d }=.ok ⟨old⟩ { w with drawn:=d }) (hgt:c < m+n) (hroom:roomOk (m+n) ei.bytes=true) :
    ∃ (cap:Nat) (rest:Array Value),m+n≤cap∧(∃ z:Array Value,z.toList=ei.zero∧rest=Builtin.zeroCells z (cap - (m+n))) ∧
      (Builtin.append_ #[t,t2] ty #[.slice base m c,y']).run P w=.ok (.slice (some ⟨w.heap.size,0,none⟩) (m+n) cap) { w with drawn:=w.drawn+1,heap:=w.heap.push (.cells (⟨old⟩++⟨new⟩++rest) e) }:=by
  obtain ⟨i,g1,g2⟩:=run_bytes w he
  have hroom:(2 * (m+n)+768) * ei.bytes≤281474976710656∧m+n≤281474976710656:=by
    unfold roomOk at hroom
    simp only [Bool.and_eq_true] at hroom
    exact ⟨Nat.le_of_ble_eq_true hroom.1,Nat.le_of_ble_eq_true hroom.2⟩
  have hnext:¬ (Builtin.nextslicecap (m+n) c * i.bytes > 2 ^ 48):=by
    rw [g2]
    have:=Nat.mul_le_mul_right ei.bytes (next_le (m+n) c hgt)
    have h2:(2:Nat) ^ 48=281474976710656:=by decide
    omega
  have hmax:¬ (((m+n:Nat):Int) > IntKind.i64.max):=by
    have:IntKind.i64.max=9223372036854775807:=by decide
    rw [this];omega
  let d:=w.drawn+1
  let cap:=(Question.appendCap (m+n) c e).cut (w.tape w.drawn (.appendCap (m+n) c e))
  have hcap:m+n≤cap:=Nat.le_add_right _ _
  obtain ⟨z,z1,z2,_⟩:=run_zero { w with drawn:=d } he
  refine ⟨cap,Builtin.zeroCells z.cells (cap - (m+n)),hcap,⟨z.cells,z2,rfl⟩,?_⟩
  unfold Builtin.append_
  simp only [List.getElem?_toArray,List.getElem?_cons_zero,List.getElem?_cons_succ,Sem.run_bind,run_ty w ht,hd,Result.andThen_ok,run_size w he,run_ty w ht2,Sem.run_pure]
  simp only [Bool.false_eq_true,if_false,Sem.run_bind,hlen,Result.andThen_ok]
  rw [Sem.run_ite,if_neg (by omega)]
  simp only [Sem.run_bind,g1,Result.andThen_ok,Sem.run_ite]
  rw [if_neg (fun h=>hmax h.1),if_neg hnext]
  have hch:(choose (.appendCap (m+n) c e)).run P w=.ok cap { w with drawn:=d }:=by
    rw [run_choose];rfl
  obtain ⟨i2,g3,_⟩:=run_bytes { w with drawn:=d } he
  simp only [hch,Result.andThen_ok,g3,run_askRoom,hold,Bool.not_false,if_true,hnew,z1]
  rfl
theorem Rel.del (r:Rel φ h w) {b b' s T:Nat} (hb:φ b=some (b',s,T)):Rel φ (h.put b none) w∧Fwd φ h w φ (h.put b none) w:=by
  have hg:∀ x,(h.put b none).get x=if x=b then none else h.get x:=fun x=>AH.get_put h b none x
  constructor
  · constructor
    · intro x y z T' hx
      rw [hg]
      by_cases e:x=b
      · rw [if_pos e];trivial
      · rw [if_neg e];exact r.blk _ _ _ _ hx
    · intro x y z s1 s2 h1 h2 l1 l2
      refine r.inj _ _ _ _ _ h1 h2 ?_ ?_
      · intro e;apply l1;rw [hg];split <;> first | rfl | exact e
      · intro e;apply l2;rw [hg];split <;> first | rfl | exact e
    · exact r.bnd
    · intro x hx
      rw [hg]
      split
      · rfl
      · exact r.lim x hx
    · refine r.glu (fun _ _ h=>h) fun x g c hx=>?_
      rw [hg] at hx
      split at hx
      · cases hx
      · exact hx
  · refine ⟨Nat.le_refl _,fun _ _ h=>h,?_,(fun _ _ _ h h'=>by rw [h] at h';cases h'),?_,?_,Nat.le_refl _,rfl,rfl,fun _ _ _=>rfl⟩
    · intro x hx hn
      refine ⟨hn,?_⟩
      rw [hg,if_neg]
      rintro rfl
      rw [hb] at hn;cases hn
    · intro x hx hl e
      apply hl
      rw [hg]
      split
      · rfl
      · exact e
    · intro x hx hl
      rw [hg] at hl
      split at hl
      · cases hl
      · exact hl
theorem Rel.wild {h₁:AH} {w':World} {b b' s T:Nat} (r:Rel φ h w) (hb:φ b=some (b',s,T)) (hl:wrB (h.get b)=true) (h1:h₁=h.put b none)
    (hs:w'.heap.size=w.heap.size) (hk:∀ k,k≠b'→w'.heap[k]?=w.heap[k]?) (ho:w'.os=w.os) (hu:w'.output=w.output):Rel φ h₁ w'∧Fwd φ h w φ h₁ w':=by
  subst h1
  obtain ⟨r1,f1⟩:=r.del hb
  have hg:∀ x,(h.put b none).get x=if x=b then none else h.get x:=fun x=>AH.get_put h b none x
  have hne:∀ x y T',φ x=some (y,T')→(h.put b none).get x≠none→y≠b':=by
    rintro x y ⟨s',T'⟩ hx hlv rfl
    rw [hg] at hlv
    by_cases e:x=b
    · rw [if_pos e] at hlv;exact hlv rfl
    · rw [if_neg e] at hlv
      exact e (r.inj _ _ _ _ _ hx hb hlv (wrB_live hl))
  constructor
  · refine ⟨?_,r1.inj,fun x y z hx=>by rw [hs];exact r1.bnd _ _ _ hx,r1.lim,r1.gl⟩
    intro x y z T' hx
    cases e:(h.put b none).get x with
    | none=>trivial
    | some o=>
      rw [hk y (hne x y _ hx (by rw [e];simp)),← e]
      exact r1.blk _ _ _ _ hx
  · refine ⟨f1.nx,f1.ext,f1.unm,f1.fresh,f1.liv,f1.lw,by omega,ho,hu,?_⟩
    intro c hc hk'
    refine hk c ?_
    rintro rfl
    rw [hk' b (s,T) hb] at hl;cases hl
theorem wild_store {b' p:Nat} {lo hi:Nat} {e:TypeId}:∀ {l l':List Value} (i:Nat) {ca:Array Value} {w:World},VRs φ l l'→allC l=true→w.heap[b']?=some (.cells ca e (lo,hi))→(lo=hi∨ca.size≤lo) →
    p+i+l.length≤ca.size→∃ w' ca',(storeCells ⟨b',p,none⟩ l' i).run P w=.ok () w'∧w'.heap[b']?=some (.cells ca' e (lo,hi))∧ca'.size=ca.size ∧
      (∀ j,ca'[j]?=if p+i≤j∧j < p+i+l.length then l'[j - (p+i)]? else ca[j]?)∧w'.heap.size=w.heap.size∧(∀ k,k≠b'→w'.heap[k]?=w.heap[k]?)∧w'.os=w.os∧w'.output=w.output:=by
  intro l
  induction l with
  | nil=>
    intro l' i ca w hv _ hw hf hle
    cases hv
    refine ⟨w,ca,rfl,hw,rfl,fun j=>?_,rfl,fun _ _=>rfl,rfl,rfl⟩
    rw [if_neg (by simp only [List.length_nil];omega)]
  | cons v l ih=>
    intro l' i ca w hv ha hw hf hle
    cases hv with
    | cons _ v' _ l' h1 h2=>
      simp only [List.length_cons] at hle
      unfold allC at ha
      cases ho:oneC v with
      | false=>rw [ho] at ha;cases ha
      | true=>
        rw [ho,cond_true] at ha
        have hw1:=fun k=>setCell_heap (w:=w) (a:=⟨b',p+i,none⟩) (v:=v') rfl hw k
        obtain ⟨w',ca',k1,k2,k3,k4,k5,k6,k7,k8⟩:=ih (i+1) (ca:=ca.setIfInBounds (p+i) v') (w:=w.setCell ⟨b',p+i,none⟩ v') h2 ha (by rw [hw1];simp) (by simpa using hf) (by simp;omega)
        refine ⟨w',ca',?_,k2,by simpa using k3,?_,by rw [k5];simp [World.setCell],?_,k7,k8⟩
        · have hadd:Addr.add ⟨b',p,none⟩ i=⟨b',p+i,none⟩:=by
            unfold Addr.add;split <;> simp_all
          have hlt:p+i < ca.size:=by omega
          have hst:(store ⟨b',p+i,none⟩ v').run P w=.ok () (w.setCell ⟨b',p+i,none⟩ v'):=by
            rw [run_store _ _ _ _ _ (oneC_cells h1 ho).2]
            have:w.cell? ⟨b',p+i,none⟩=some ca[p+i]:=by simp [World.cell?,hw,hlt]
            have hfz:w.frozen? ⟨b',p+i,none⟩=false:=by
              simp only [World.frozen?,hw];simp;omega
            simp [this,hfz]
          simp only [storeCells,Sem.run_bind,hadd,hst,Result.andThen_ok,k1]
        · intro j
          rw [k4]
          simp only [List.length_cons]
          by_cases hj:p+(i+1)≤j∧j < p+(i+1)+l.length
          · rw [if_pos hj,if_pos (by omega),show j - (p+i)=(j - (p+(i+1)))+1 by omega,List.getElem?_cons_succ]
          · rw [if_neg hj]
            by_cases hj':j=p+i
            · subst hj'
              have hlt:p+i < ca.size:=by omega
              rw [if_pos (by omega)]
              simp [hlt]
            · rw [if_neg (by omega),Array.getElem?_setIfInBounds_ne (by omega)]
        · intro k hk
          rw [k6 k hk,hw1,if_neg (by exact hk)]
end
end
end Go.Den
namespace Go.Den
noncomputable section
section
variable {P:Program} {φ:Phi} {w:World} {h h':AH} {x x' y y' v:Value} {t:TypeId}
theorem Rel.newSlot (r:Rel φ h w) (c:PT Value) (n:Nat) (ca:Array Value) (e:TypeId)
    (hc:∀ i v,c.get i=some v→i < n∧oneC v=true∧∃ v',ca[i]?=some v'∧VR φ v v') (t:Nat:=0) (ht:t=0∨(t=2 * e+1∨t=2 * e+2∧0=0):=by exact .inl rfl) :
    Rel (φ.set h.next (w.heap.size,0,ca.size)) (h.new (.cells c n t)) { w with heap:=w.heap.push (.cells ca e) } ∧
    Fwd φ h w (φ.set h.next (w.heap.size,0,ca.size)) (h.new (.cells c n t)) { w with heap:=w.heap.push (.cells ca e) }:=by
  refine r.new _ _ _ ?_
  refine ⟨⟨ca,e,0,0,rfl,Nat.le_refl _,.inl rfl,fun i v hi=>?_⟩,ht.imp id fun h=>⟨ca,e,_,rfl,h⟩⟩
  obtain ⟨g1,g2,v',h1,h2⟩:=hc i v hi
  exact ⟨g1,g2,v',h1,h2.mono (Phi.le_set r.none_next)⟩
theorem Rel.adopt {h₀ h₁:AH} {w₀:World} {b b' s T s₂:Nat} (r₀:Rel φ h₀ w₀) (hb:φ b=some (b',s,T)) (hlive:wrB (h₀.get b)=true) (h1:h₁=h₀.put b none)
    (r:Rel φ h₁ w) (f:Fwd φ h₀ w₀ φ h₁ w) {c:PT Value} {n:Nat} {ca:Array Value} {e:TypeId} {lo hi:Nat} (hw:w.heap[b']?=some (.cells ca e (lo,hi))) (hT:T≤ca.size) (hf:lo=hi∨ca.size≤lo)
    (hc:∀ i v,c.get i=some v→i < n∧oneC v=true∧∃ v',ca[i+s₂]?=some v'∧VR φ v v') (t:Nat:=0) (ht:t=0∨(t=2 * e+1∨t=2 * e+2∧s₂=0):=by exact .inl rfl) :
    Rel (φ.set h₁.next (b',s₂,T)) (h₁.new (.cells c n t)) w∧Fwd φ h₀ w₀ (φ.set h₁.next (b',s₂,T)) (h₁.new (.cells c n t)) w:=by
  have hn:=r.none_next
  have hle:φ.le (φ.set h₁.next (b',s₂,T)):=Phi.le_set hn
  have hg:∀ x,h₁.get x=if x=b then none else h₀.get x:=fun x=>by rw [h1];exact AH.get_put h₀ b none x
  have hnext:h₁.next=h₀.next:=by rw [h1];rfl
  have hbsz:b' < w.heap.size:=(Array.getElem?_eq_some_iff.1 hw).1
  have hne:∀ x z,φ x=some (b',z)→h₁.get x≠none→False:=by
    intro x z hx hl
    rw [hg] at hl
    by_cases e:x=b
    · rw [if_pos e] at hl;exact hl rfl
    · rw [if_neg e] at hl
      exact e (r₀.inj _ _ _ _ _ hx hb hl (wrB_live hlive))
  constructor
  · constructor
    · intro x y z T' hx
      rw [AH.get_new]
      unfold Phi.set at hx
      by_cases e:x=h₁.next
      · rw [if_pos e] at hx ⊢
        cases hx
        refine ⟨⟨ca,_,lo,hi,hw,hT,hf,fun i v hi=>?_⟩,ht.imp id fun h=>⟨ca,_,_,hw,h⟩⟩
        obtain ⟨g1,g2,v',g3,g4⟩:=hc i v hi
        exact ⟨g1,g2,v',g3,g4.mono hle⟩
      · rw [if_neg e] at hx ⊢
        exact (r.blk _ _ _ _ hx).mono hle
    · intro b₁ b₂ y s₁ s₃ g1 g2 l1 l2
      rw [AH.get_new] at l1 l2
      unfold Phi.set at g1 g2
      by_cases e1:b₁=h₁.next <;> by_cases e2:b₂=h₁.next
      · rw [e1,e2]
      · rw [if_pos e1] at g1;rw [if_neg e2] at g2 l2
        cases g1;exact (hne _ _ g2 l2).elim
      · rw [if_neg e1] at g1 l1;rw [if_pos e2] at g2
        cases g2;exact (hne _ _ g1 l1).elim
      · rw [if_neg e1] at g1 l1;rw [if_neg e2] at g2 l2
        exact r.inj _ _ _ _ _ g1 g2 l1 l2
    · intro x y z hx
      unfold Phi.set at hx
      by_cases e:x=h₁.next
      · rw [if_pos e] at hx;cases hx;subst e;exact ⟨by simp [AH.new],hbsz⟩
      · rw [if_neg e] at hx
        have:=r.bnd _ _ _ hx
        exact ⟨by simp [AH.new];omega,this.2⟩
    · intro x hx
      simp only [AH.new] at hx
      rw [AH.get_new,if_neg (by omega)]
      exact r.lim x (by omega)
    · refine r.glu hle fun x g c hx=>?_
      rw [AH.get_new] at hx
      split at hx
      · cases hx
      · exact hx
  · refine ⟨by simp [AH.new,hnext],hle,?_,?_,?_,?_,f.sz,f.os,f.out,?_⟩
    · intro x hx hx'
      obtain ⟨g1,g2⟩:=f.unm x hx hx'
      refine ⟨by unfold Phi.set;rw [if_neg (by omega)];exact hx',?_⟩
      rw [AH.get_new,if_neg (by omega)];exact g2
    · intro x y z hx hx'
      unfold Phi.set at hx
      by_cases e:x=h₁.next
      · rw [if_pos e] at hx;cases hx;exact .inr ⟨b,_,hb,hlive⟩
      · rw [if_neg e,hx'] at hx;cases hx
    · intro x hx hl
      rw [AH.get_new,if_neg (by omega)] at hl
      exact f.liv x hx hl
    · intro x hx hl
      rw [AH.get_new,if_neg (by omega)] at hl
      exact f.lw x hx hl
    · exact f.keep
theorem cat_get (old new:List Value) (rest:Array Value) (i:Nat) (v:Value) (h:(old++new)[i]?=some v):((⟨old⟩:Array Value)++⟨new⟩++rest)[i]?=some v:=by
  rw [← Array.getElem?_toList]
  simp only [Array.toList_append]
  rw [List.getElem?_append_left (List.getElem?_eq_some_iff.1 h).1]
  exact h
theorem loads_there {b' q:Nat} {ca:Array Value} {e:TypeId} {fz:Nat × Nat} (hw:w.heap[b']?=some (.cells ca e fz)):∀ (n i:Nat) (acc:Array Value),q+i+n≤ca.size →
    ∃ l',(∀ d,(loadCellsFrom ⟨b',q,none⟩ i n acc).run P { w with drawn:=d }=.ok (acc++⟨l'⟩) { w with drawn:=d })∧l'.length=n∧∀ j,j < n→l'[j]?=ca[q+i+j]?:=by
  intro n
  induction n with
  | zero=>intro i acc h;exact ⟨[],fun d=>by simp [loadCellsFrom],rfl,fun j hj=>by omega⟩
  | succ n ih=>
    intro i acc h
    have hlt:q+i < ca.size:=by omega
    obtain ⟨l',h1,h2,h3⟩:=ih (i+1) (acc.push ca[q+i]) (by omega)
    refine ⟨ca[q+i]::l',fun d=>?_,by simp [h2],fun j hj=>?_⟩
    · have hadd:Addr.add ⟨b',q,none⟩ i=⟨b',q+i,none⟩:=by
        unfold Addr.add;split <;> simp [*]
      have hc:({ w with drawn:=d }:World).cell? ⟨b',q+i,none⟩=some ca[q+i]:=by simp [World.cell?,hw,hlt]
      simp only [loadCellsFrom,Sem.run_bind,hadd,run_load,hc,Result.andThen_ok,h1]
      congr 1
      apply Array.ext'
      simp
    · cases j with
      | zero=>simp [hlt]
      | succ j=>
        rw [List.getElem?_cons_succ,h3 j (by omega)]
        congr 1;omega
theorem ble_false {a b:Nat} (h:Nat.ble a b=false):b < a:=by
  rcases Nat.lt_or_ge b a with h' | h'
  · exact h'
  · rw [Nat.ble_eq_true_of_le h'] at h;cases h
theorem unk_not {a b:Nat} (h:a < unk 0):a≠unk b:=by unfold unk at *;omega
theorem hApp_sound {ti t2i ei:TI} {e t2 ty:TypeId} (r:Rel φ h w) (ht:TIok P t ti) (hd:ti.desc=.slice e) (he:TIok P e ei) (ht2:TIok P t2 t2i) (hd2:∀ k,t2i.desc≠.int k) (hzl:ei.zero.length=ei.size)
    (hx:VR φ x x') (hy:VR φ y y') (hl:hApp e ei.size ei.bytes x y h=some (v,h')):Makes P φ h w (Builtin.append_ #[t,t2] ty #[x',y']) v h':=by
  unfold hApp at hl
  cases e1:lenV y with
  | none=>simp [e1] at hl
  | some n=>
  cases e2:rdV ei.size n y h with
  | none=>simp [e1,e2] at hl
  | some new=>
  simp only [e1,e2,Option.bind_some] at hl
  cases e3:(allC new && Nat.beq new.length (n * ei.size)) with
  | false=>rw [e3] at hl;cases hl
  | true=>
  rw [e3,cond_true] at hl
  simp only [Bool.and_eq_true] at e3
  obtain ⟨hall,hnl⟩:=e3
  have hnl:=Nat.eq_of_beq_eq_true hnl
  obtain ⟨new',hnew,hvn⟩:=rdV_sound (P:=P) r hy e2
  have hlen:=lenV_sound (P:=P) (w:=w) hy e1
  have hnl':new'.length=n * ei.size:=by rw [← hvn.length,hnl]
  have none0:n=0→∀ (base:Option Addr) (m c:Nat),m≤c→(Builtin.append_ #[t,t2] ty #[.slice base m c,y']).run P w=.ok (.slice base m c) w:=by
    intro h0 base m c hmc
    have e0:new'=[]:=List.length_eq_zero_iff.1 (by rw [hnl',h0];simp)
    have:=app_in (P:=P) (ty:=ty) (base:=base) (m:=m) (c:=c) (w':=w) ht hd he ht2 hd2 hlen (by simpa using hnew w.drawn) (by omega) (by
      cases base with
      | none=>rfl
      | some a=>rw [e0];rfl)
    rw [h0] at this
    exact this
  have newB:∀ (tt:Nat) (_:tt=0∨tt=2 * e+1) (base:Option Addr) (m c:Nat) (old':List Value) (h₁:AH) (p:PT Value),c < m+n→roomOk (m+n) ei.bytes=true →
      (∀ d,(Builtin.firstCells ei.size m (.slice base m c)).run P { w with drawn:=d }=.ok ⟨old'⟩ { w with drawn:=d }) →
      Rel φ h₁ w→Fwd φ h w φ h₁ w→(∀ (i:Nat) v,p.get i=some v→i < (m+n) * ei.size∧oneC v=true∧∃ v',(old'++new')[i]?=some v'∧VR φ v v')→old'.length=m * ei.size →
      Makes P φ h w (Builtin.append_ #[t,t2] ty #[.slice base m c,y']) (.slice (some ⟨h₁.next,0,none⟩) (m+n) (unk ei.size)) (h₁.new (.cells p ((m+n) * ei.size) tt)):=by
    intro tt htt base m c old' h₁ p hgt hroom hold r₁ f₁ hp holdl
    obtain ⟨cap,rest,k1,⟨z,z1,z2⟩,k2⟩:=app_new (P:=P) (ty:=ty) (base:=base) (m:=m) (c:=c) ht hd he ht2 hd2 hlen (by simpa using hnew) hold hgt hroom
    have r₂:=(r₁.drawn (w.drawn+1)).1
    have f₂:=(r₁.drawn (w.drawn+1)).2
    obtain ⟨g1,g2⟩:=r₂.newSlot p ((m+n) * ei.size) (⟨old'⟩++⟨new'⟩++rest) e (fun i v hi=>by
      obtain ⟨a1,a2,v',a3,a4⟩:=hp i v hi
      exact ⟨a1,a2,v',cat_get _ _ _ _ _ a3,a4⟩) tt (htt.imp id .inl)
    refine ⟨_,_,_,k2,?_,g1,(f₁.trans r (f₂.trans r₁ g2))⟩
    refine .slice h₁.next 0 w.heap.size 0 _ (m+n) _ cap (Phi.set_self _ _ _) k1 (.inr ⟨_,rfl,?_⟩)
    have hzs:z.size=ei.size:=by rw [← Array.length_toList,z1,hzl]
    have hrs:rest.size=(cap - (m+n)) * ei.size:=by rw [z2];simp [Builtin.zeroCells,hzs]
    simp only [Array.size_append,List.size_toArray,hrs,holdl,hnl']
    rw [← Nat.add_mul,← Nat.add_mul]
    rw [show m+n+(cap - (m+n))=cap by omega]
    omega
  split at hl
  · -- a nil slice
    cases hx
    by_cases h0:n=0
    · rw [show Nat.beq n 0=true from by rw [h0];rfl,cond_true] at hl
      cases hl
      exact ⟨φ,_,w,none0 h0 none 0 0 (Nat.le_refl _),.sliceNil,r,Fwd.refl _ _ _⟩
    · rw [beq_false_of_ne h0,cond_false] at hl
      cases hr:roomOk n ei.bytes with
      | false=>rw [hr] at hl;cases hl
      | true=>
        rw [hr,cond_true] at hl
        cases hl
        have:=newB (2 * e+1) (.inr rfl) none 0 0 [] h (PT.ofList new 0 .leaf) (by omega) (by simpa using hr) (fun d=>by simp [Builtin.firstCells]) r (Fwd.refl _ _ _) (fun i v hi=>by
          have h1:=ofList_get _ _ _ hi
          obtain ⟨v',h2,h3⟩:=hvn.get _ _ h1
          have h4:=(List.getElem?_eq_some_iff.1 h1).1
          exact ⟨by rw [Nat.zero_add];omega,allC_get hall _ _ h1,v',by simpa using h2,h3⟩) (by simp)
        simpa [hnl] using this
  · rename_i b o sp m c
    by_cases h0:n=0
    · rw [show Nat.beq n 0=true from by rw [h0];rfl,cond_true] at hl
      cases hl
      cases hx with
      | slice b o b' s T n c c' hb hn hc=>exact ⟨φ,_,w,none0 h0 _ _ _ hn,.slice b o b' s T _ c c' hb hn hc,r,Fwd.refl _ _ _⟩
      | empty _ y c z hz hc=>exact ⟨φ,_,w,none0 h0 _ _ _ (Nat.le_refl _),.empty _ _ _ _ hz hc,r,Fwd.refl _ _ _⟩
    rw [beq_false_of_ne h0,cond_false] at hl
    cases hr:roomOk (m+n) ei.bytes with
    | false=>rw [hr] at hl;cases hl
    | true=>
    rw [hr,cond_true] at hl
    by_cases hu:c=unk ei.size
    · rw [show Nat.beq c (unk ei.size)=true from by rw [hu];exact Nat.beq_refl _,cond_true] at hl
      cases hg:grown h b o (m * ei.size) new with
      | none=>simp [hg] at hl
      | some p=>
      simp only [hg,Option.bind_some,Option.some.injEq,Prod.mk.injEq] at hl
      obtain ⟨rfl,rfl⟩:=hl
      have hgc:∃ c₀ n₀ t₀,h.get b=some (.cells c₀ n₀ t₀)∧∀ (i:Nat) v,p.get i=some v→(m * ei.size≤i∧new[i - m * ei.size]?=some v)∨(i < m * ei.size∧c₀.get (o+i)=some v):=by
        unfold grown at hg
        split at hg
        · rename_i c₀ n₀ t₀ hb0
          refine ⟨c₀,n₀,t₀,hb0,?_⟩
          cases hq:(Nat.beq o 0 && Nat.beq n₀ (m * ei.size)) with
          | true=>
            rw [hq,cond_true] at hg
            cases hg
            simp only [Bool.and_eq_true] at hq
            obtain rfl:=Nat.eq_of_beq_eq_true hq.1
            have hn0:=Nat.eq_of_beq_eq_true hq.2
            intro i v hi
            rw [PT.get_puts] at hi
            by_cases hi':m * ei.size≤i∧i < m * ei.size+new.length
            · rw [if_pos hi'] at hi;exact .inl ⟨hi'.1,hi⟩
            · rw [if_neg hi'] at hi
              have hlt:i < n₀:=by
                cases hx with
                | slice b o b' s T n c c' hb hn hc=>
                  obtain ⟨_,_,_,_,_,_,_,h5⟩:=r.slot hb hb0
                  exact (h5 i v hi).1
                | empty _ y c z hz hc=>
                  obtain ⟨b',s,T⟩:=z
                  obtain ⟨_,_,_,_,_,_,_,h5⟩:=r.slot hz hb0
                  exact (h5 i v hi).1
              exact .inr ⟨by omega,by simpa using hi⟩
          | false=>
            rw [hq,cond_false] at hg
            cases hcl:h.cellsN b o (m * ei.size) with
            | none=>simp [hcl] at hg
            | some l=>
              simp only [hcl,Option.bind_some] at hg
              cases hal:allC l with
              | false=>rw [hal] at hg;cases hg
              | true=>
                rw [hal,cond_true] at hg
                cases hg
                have hcn:∀ (k o:Nat) (l:List Value),h.cellsN b o k=some l→l.length=k∧∀ (i:Nat) v,l[i]?=some v→c₀.get (o+i)=some v:=by
                  intro k
                  induction k with
                  | zero=>intro o l hl;simp [AH.cellsN] at hl;subst hl;exact ⟨rfl,fun i v hi=>by simp at hi⟩
                  | succ k ih=>
                    intro o l hl
                    simp only [AH.cellsN] at hl
                    cases hc:h.cell b o with
                    | none=>simp [hc] at hl
                    | some u=>
                      cases hr:h.cellsN b (o+1) k with
                      | none=>simp [hc,hr] at hl
                      | some l₁=>
                        simp [hc,hr] at hl
                        subst hl
                        obtain ⟨g1,g2⟩:=ih _ _ hr
                        refine ⟨by simp [g1],fun i v hi=>?_⟩
                        cases i with
                        | zero=>
                          simp at hi;subst hi
                          rcases AH.cell_get hc with ⟨c₁,n₁,t₁,g3,g4⟩ | ⟨c₁,g3 | ⟨_,g3⟩,_⟩
                          · rw [hb0] at g3;cases g3
                            exact g4
                          · rw [hb0] at g3;cases g3
                          · rw [hb0] at g3;cases g3
                        | succ i=>
                          have:=g2 i v (by simpa using hi)
                          rw [show o+(i+1)=o+1+i by omega];exact this
                obtain ⟨g1,g2⟩:=hcn _ _ _ hcl
                intro i v hi
                have hi:=ofList_get _ _ _ hi
                by_cases hi':i < m * ei.size
                · rw [List.getElem?_append_left (by omega)] at hi
                  exact .inr ⟨hi',g2 i v hi⟩
                · rw [List.getElem?_append_right (by omega),g1] at hi
                  exact .inl ⟨by omega,hi⟩
        · cases hg
      obtain ⟨c₀,n₀,t₀,hb0,hpc⟩:=hgc
      have htB0:tyB h b e=0∨(tyB h b e=2 * e+1∧t₀=2 * e+1):=by
        unfold tyB
        rw [hb0]
        simp only []
        cases hq:Nat.beq t₀ (2 * e+1) with
        | true=>exact .inr ⟨rfl,Nat.eq_of_beq_eq_true hq⟩
        | false=>exact .inl rfl
      have htB:tyB h b e=0∨tyB h b e=2 * e+1:=htB0.imp id (·.1)
      have hlive:wrB (h.get b)=true:=by rw [hb0];rfl
      have hmul:(m+n) * ei.size=m * ei.size+n * ei.size:=Nat.add_mul _ _ _
      cases hx with
      | slice b o b' s T m c c' hb hn hc=>
        have hT:o+s+c' * ei.size≤T:=by
          rcases hc with ⟨_,hc⟩ | ⟨e',hc,hT⟩
          · exact absurd hu (unk_not hc)
          · have:e'=ei.size:=by rw [hu] at hc;unfold unk at hc;omega
            rw [this] at hT;exact hT
        obtain ⟨ca,ce,lo,hi,hw,hTs,hfz,hcs⟩:=r.slot hb hb0
        have hmc:m * ei.size≤c' * ei.size:=Nat.mul_le_mul_right _ hn
        obtain ⟨old',ho1,ho2,ho3⟩:=loads_there (P:=P) (q:=o+s) hw (m * ei.size) 0 #[] (by omega)
        have hold:∀ d,(Builtin.firstCells ei.size m (.slice (some ⟨b',o+s,none⟩) m c')).run P { w with drawn:=d }=.ok ⟨old'⟩ { w with drawn:=d }:=fun d=>by
          simpa [Builtin.firstCells,loadCells] using ho1 d
        by_cases hroom:m+n≤c'
        · -- in place
          have hmn:(m+n) * ei.size≤c' * ei.size:=Nat.mul_le_mul_right _ hroom
          obtain ⟨w',ca',k1,k2,k3,k4,k5,k6,k7,k8⟩:=wild_store (P:=P) (p:=o+s+m * ei.size) 0 hvn hall hw hfz (by omega)
          obtain ⟨r₁,f₁⟩:=r.wild (w':=w') hb hlive rfl k5 k6 k7 k8
          have happ:=app_in (P:=P) (ty:=ty) (base:=some ⟨b',o+s,none⟩) (m:=m) (c:=c') (w':=w') ht hd he ht2 hd2 hlen (by simpa using hnew w.drawn) hroom (by
            show (storeCells (Addr.add ⟨b',o+s,none⟩ (m * ei.size)) new').run P w=.ok () w'
            rw [add_cells,show o+m * ei.size+s=o+s+m * ei.size by omega];exact k1)
          obtain ⟨g1,g2⟩:=Rel.adopt (s₂:=o+s) (n:=(m+n) * ei.size) (c:=p) r hb hlive rfl r₁ f₁ k2 (by omega) (by omega) (fun i v hi=>by
            rcases hpc i v hi with ⟨q1,q2⟩ | ⟨q1,q2⟩
            · have q3:=(List.getElem?_eq_some_iff.1 q2).1
              obtain ⟨v',q4,q5⟩:=hvn.get _ _ q2
              refine ⟨by omega,allC_get hall _ _ q2,v',?_,q5⟩
              rw [k4,if_pos (by omega),show i+(o+s) - (o+s+m * ei.size+0)=i - m * ei.size by omega]
              exact q4
            · obtain ⟨q3,q4,v',q5,q6⟩:=hcs _ _ q2
              refine ⟨by omega,q4,v',?_,q6⟩
              rw [k4,if_neg (by omega),show i+(o+s)=o+i+s by omega]
              exact q5) (tyB h b e) (htB0.imp id fun hh=>.inl (by
                rcases r.typedAt hb hb0 with h0 | ⟨c₂,e₂,fr,q1,q2⟩
                · exact absurd (h0.symm.trans hh.2) (by omega)
                · rw [hw] at q1;cases q1
                  rcases q2 with q2 | ⟨q2,_⟩
                  · rw [hh.1,← hh.2];exact q2
                  · exact absurd (q2.symm.trans hh.2) (by omega)))
          refine ⟨_,_,w',happ,?_,g1,g2⟩
          have:=VR.slice (φ:=φ.set (h.put b none).next (b',o+s,T)) (h.put b none).next 0 b' (o+s) T (m+n) (unk ei.size) c' (Phi.set_self _ _ _) hroom (.inr ⟨_,rfl,by omega⟩)
          rw [Nat.zero_add] at this
          exact this
        · obtain ⟨r₁,f₁⟩:=r.del hb
          have:=newB (tyB h b e) htB (some ⟨b',o+s,none⟩) m c' old' (h.put b none) p (by omega) hr hold r₁ f₁ (fun i v hi=>by
            rcases hpc i v hi with ⟨q1,q2⟩ | ⟨q1,q2⟩
            · have q3:=(List.getElem?_eq_some_iff.1 q2).1
              obtain ⟨v',q4,q5⟩:=hvn.get _ _ q2
              refine ⟨by omega,allC_get hall _ _ q2,v',?_,q5⟩
              rw [List.getElem?_append_right (by omega),ho2];exact q4
            · obtain ⟨q3,q4,v',q5,q6⟩:=hcs _ _ q2
              refine ⟨by omega,q4,v',?_,q6⟩
              rw [List.getElem?_append_left (by omega),ho3 i q1,show o+s+0+i=o+i+s by omega];exact q5) ho2
          exact this
      | empty _ y c z hz hc=>
        obtain ⟨b',s,T⟩:=z
        obtain ⟨r₁,f₁⟩:=r.del hz
        have:=newB (tyB h b e) htB (some y) 0 0 [] (h.put b none) p (by omega) hr (fun d=>by simp [Builtin.firstCells,loadCells,loadCellsFrom]) r₁ f₁ (fun i v hi=>by
          rcases hpc i v hi with ⟨q1,q2⟩ | ⟨q1,q2⟩
          · have q3:=(List.getElem?_eq_some_iff.1 q2).1
            obtain ⟨v',q4,q5⟩:=hvn.get _ _ q2
            exact ⟨by omega,allC_get hall _ _ q2,v',by simpa using q4,q5⟩
          · omega) (by simp)
        exact this
    · rw [beq_false_of_ne hu,cond_false] at hl
      cases hk:Nat.ble (unk 0) c with
      | true=>rw [hk] at hl;cases hl
      | false=>
      rw [hk,cond_false] at hl
      have hk:=ble_false hk
      by_cases hroom:m+n≤c
      · rw [Nat.ble_eq_true_of_le hroom,cond_true] at hl
        cases hst:h.stL b (o+m * ei.size) new with
        | none=>simp [hst] at hl
        | some h₁=>
        simp only [hst,Option.bind_some,Option.some.injEq,Prod.mk.injEq] at hl
        obtain ⟨rfl,rfl⟩:=hl
        cases hx with
        | slice b o b' s T m c c' hb hn hc=>
          obtain ⟨rfl,hcu⟩:c=c'∧c < unk 0:=by
            rcases hc with hc | ⟨e',hc,_⟩
            · exact hc
            · exact absurd hc (unk_not hk)
          obtain ⟨w',g1,g2,g3⟩:=stL_sound (P:=P) (o:=o+m * ei.size) 0 r hb hvn hst
          have happ:=app_in (P:=P) (ty:=ty) (base:=some ⟨b',o+s,none⟩) (m:=m) (c:=c) (w':=w') ht hd he ht2 hd2 hlen (by simpa using hnew w.drawn) hroom (by
            show (storeCells (Addr.add ⟨b',o+s,none⟩ (m * ei.size)) new').run P w=.ok () w'
            rw [add_cells];exact g1)
          exact ⟨φ,_,w',happ,.slice b o b' s T _ c c hb hroom (.inl ⟨rfl,hcu⟩),g2,g3⟩
        | empty _ y c z hz hc=>
          rcases hc with rfl | ⟨e',rfl⟩
          · omega
          · exact absurd rfl (unk_not hk)
      · have hb1:Nat.ble (m+n) c=false:=by
          cases hq:Nat.ble (m+n) c with
          | false=>rfl
          | true=>exact absurd (Nat.le_of_ble_eq_true hq) hroom
        rw [hb1,cond_false] at hl
        cases ho:(bif Nat.beq m 0 then some [] else h.cellsN b o (m * ei.size)) with
        | none=>simp [ho] at hl
        | some old=>
        simp only [ho,Option.bind_some] at hl
        cases hao:allC old with
        | false=>rw [hao] at hl;cases hl
        | true=>
        rw [hao,cond_true] at hl
        simp only [Option.some.injEq,Prod.mk.injEq] at hl
        obtain ⟨rfl,rfl⟩:=hl
        have fin:∀ (a:Addr) (c':Nat) (old':List Value),c'=c→(∀ d,(Builtin.firstCells ei.size m (.slice (some a) m c')).run P { w with drawn:=d }=.ok ⟨old'⟩ { w with drawn:=d })→VRs φ old old'→old.length=m * ei.size →
            Makes P φ h w (Builtin.append_ #[t,t2] ty #[.slice (some a) m c',y']) (.slice (some ⟨h.next,0,none⟩) (m+n) (unk ei.size)) (h.new (.cells (PT.ofList (old++new) 0 .leaf) (old++new).length (2 * e+1))):=by
          intro a c' old' hcc hold hvo hlo
          have hmul:(m+n) * ei.size=m * ei.size+n * ei.size:=Nat.add_mul _ _ _
          have:=newB (2 * e+1) (.inr rfl) (some a) m c' old' h (PT.ofList (old++new) 0 .leaf) (by omega) hr hold r (Fwd.refl _ _ _) (fun i v hi=>by
            have h1:=ofList_get _ _ _ hi
            obtain ⟨v',h2,h3⟩:=(hvo.append hvn).get _ _ h1
            have h4:=(List.getElem?_eq_some_iff.1 h1).1
            rw [List.length_append] at h4
            refine ⟨by omega,?_,v',h2,h3⟩
            by_cases hi':i < old.length
            · rw [List.getElem?_append_left hi'] at h1;exact allC_get hao _ _ h1
            · rw [List.getElem?_append_right (by omega)] at h1;exact allC_get hall _ _ h1) (by rw [← hvo.length,hlo])
          rw [List.length_append,hlo,hnl,← hmul]
          exact this
        have hcl:∀ (k o:Nat) (l:List Value),h.cellsN b o k=some l→l.length=k:=by
          intro k
          induction k with
          | zero=>intro o l hl;simp [AH.cellsN] at hl;subst hl;rfl
          | succ k ih=>
            intro o l hl
            simp only [AH.cellsN] at hl
            cases hc:h.cell b o with
            | none=>simp [hc] at hl
            | some u=>
              cases hr:h.cellsN b (o+1) k with
              | none=>simp [hc,hr] at hl
              | some l₁=>simp [hc,hr] at hl;subst hl;simp [ih _ _ hr]
        cases hx with
        | slice b o b' s T m c c' hb hn hc=>
          obtain ⟨rfl,hcu⟩:c=c'∧c < unk 0:=by
            rcases hc with hc | ⟨e',hc,_⟩
            · exact hc
            · exact absurd hc (unk_not hk)
          by_cases hm0:m=0
          · subst hm0
            cases ho
            exact fin _ _ [] rfl (fun d=>by simp [Builtin.firstCells,loadCells,loadCellsFrom]) .nil (by simp)
          · rw [beq_false_of_ne hm0,cond_false] at ho
            obtain ⟨old',g1,g2⟩:=cellsN_sound (P:=P) r hb o _ 0 old #[] ho
            exact fin _ _ old' rfl (fun d=>by simpa [Builtin.firstCells,loadCells] using g1 d) g2 (hcl _ _ _ ho)
        | empty _ y c z hz hc=>
          rcases hc with rfl | ⟨e',rfl⟩
          · cases ho
            exact fin _ _ [] rfl (fun d=>by simp [Builtin.firstCells,loadCells,loadCellsFrom]) .nil (by simp)
          · exact absurd rfl (unk_not hk)
  · cases hl
theorem hCopy_sound {ti ei:TI} {e t2 ty:TypeId} (r:Rel φ h w) (ht:TIok P t ti) (hd:ti.desc=.slice e) (he:TIok P e ei)
    (hx:VR φ x x') (hy:VR φ y y') (hl:hCopy ei.size x y h=some (v,h')):Makes P φ h w (Builtin.copy_ #[t,t2] ty #[x',y']) v h':=by
  unfold hCopy at hl
  cases e1:lenV y with
  | none=>simp [e1] at hl
  | some k=>
  cases e0:lenV x with
  | none=>simp [e1,e0] at hl
  | some m=>
  cases e2:rdV ei.size (min k m) y h with
  | none=>simp [e1,e0,e2] at hl
  | some new=>
  simp only [e1,e0,e2,Option.bind_some] at hl
  obtain ⟨new',hnew,hvn⟩:=rdV_sound (P:=P) r hy e2
  have hlen:=lenV_sound (P:=P) (w:=w) hy e1
  have hnew:=hnew w.drawn
  have run:∀ (base:Option Addr) (c:Nat) (w':World),(match base with | some a=>(storeCells a new').run P w=.ok () w' | none=>w'=w) →
      (Builtin.copy_ #[t,t2] ty #[.slice base m c,y']).run P w=.ok (.int .i64 (.ofNat (min k m))) w':=by
    intro base c w' hst
    unfold Builtin.copy_
    simp only [List.getElem?_toArray,List.getElem?_cons_zero,List.getElem?_cons_succ,Sem.run_bind,run_ty w ht,hd,Result.andThen_ok,run_size w he,hlen]
    have hnew':(Builtin.firstCells ei.size (Nat.min k m) y').run P w=.ok ⟨new'⟩ w:=hnew
    simp only [hnew',Result.andThen_ok]
    cases base with
    | none=>rw [hst];rfl
    | some a=>simp [hst];rfl
  split at hl
  · cases hl
    cases e0
    cases hx
    exact ⟨φ,_,w,run none 0 w rfl,.int _ _,r,Fwd.refl _ _ _⟩
  · rename_i b o sp m' c
    cases e0
    split at hl
    · cases hl
      cases hvn
      cases hx with
      | slice b o b' s T n c c' hb hn hc=>exact ⟨φ,_,w,run _ _ w rfl,.int _ _,r,Fwd.refl _ _ _⟩
      | empty _ y c z hz hc=>exact ⟨φ,_,w,run _ _ w rfl,.int _ _,r,Fwd.refl _ _ _⟩
    · rename_i hne
      cases hst:h.stL b o new with
      | none=>simp [hst] at hl
      | some h₁=>
      simp only [hst,Option.bind_some,Option.some.injEq,Prod.mk.injEq] at hl
      obtain ⟨rfl,rfl⟩:=hl
      cases hx with
      | slice b o b' s T n c c' hb hn hc=>
        obtain ⟨w',g1,g2,g3⟩:=stL_sound (P:=P) (o:=o) 0 r hb hvn hst
        exact ⟨φ,_,w',run _ _ w' g1,.int _ _,g2,g3⟩
      | empty _ y c z hz hc=>
        have:min k 0=0:=by omega
        rw [this] at e2
        exfalso
        unfold rdV at e2
        split at e2
        · cases e2;exact hne rfl
        · cases e2;exact hne rfl
        · cases e2;exact hne rfl
        · cases e2
  · cases hl
end
end
end Go.Den
namespace Go.Den
noncomputable section
def atomV:Value→Bool
  | .bool _ | .int _ _ | .string _ | .pointer none | .slice none 0 0 | .map none | .nilFunc | .nilIface=>true
  | .func (.func _) ⟨[]⟩ ⟨[]⟩=>true
  | _=>false
def cst (v:Value):Value:=
  match v with
  | .agg ⟨l⟩=>bif l.all atomV then .agg ⟨l⟩ else junk
  | v=>bif atomV v then v else junk
def aev (tm:List Value):Operand→Value
  | .tmp t=>gt tm t
  | .const v=>cst v
  | .global _=>junk
  | .func f=>.func (.func f) ⟨[]⟩ ⟨[]⟩
theorem atomV_self {φ:Phi} {v:Value} (h:atomV v=true):VR φ v v:=by
  unfold atomV at h
  split at h <;> first | exact .bool _ | exact .int _ _ | exact .string _ | exact .ptrNil | exact .sliceNil | exact .mapNil | exact .nilFunc | exact .nilIface | exact .func _ (by simp) _ _ _ _ .nil .nil | cases h
theorem atoms_self {φ:Phi}:∀ {l:List Value},l.all atomV=true→VRs φ l l
  | [],_=>.nil
  | v::l,h=>by
    simp only [List.all_cons,Bool.and_eq_true] at h
    exact .cons _ _ _ _ (atomV_self h.1) (atoms_self h.2)
theorem cst_VR {φ:Phi} (v:Value):VR φ (cst v) v:=by
  have other:∀ u:Value,VR φ (bif atomV u then u else junk) u:=by
    intro u
    cases h:atomV u with
    | true=>exact atomV_self h
    | false=>exact .junk _
  cases v with
  | agg c=>
    obtain ⟨l⟩:=c
    show VR φ (bif l.all atomV then .agg ⟨l⟩ else junk) _
    cases h:l.all atomV with
    | true=>exact .agg _ _ (atoms_self h)
    | false=>exact .junk _
  | bool b=>exact other (.bool b)
  | int k n=>exact other (.int k n)
  | float k n=>exact other (.float k n)
  | complex k a b=>exact other (.complex k a b)
  | string a=>exact other (.string a)
  | pointer a=>exact other (.pointer a)
  | slice a n c=>exact other (.slice a n c)
  | map a=>exact other (.map a)
  | chan a=>exact other (.chan a)
  | func a b c=>exact other (.func a b c)
  | nilFunc=>exact other .nilFunc
  | iface a b=>exact other (.iface a b)
  | nilIface=>exact other .nilIface
  | tuple a=>exact other (.tuple a)
theorem aev_VR {φ:Phi} {tm:List Value} {a:Act} (h:VRs φ tm a.tmps.toList) (o:Operand):VR φ (aev tm o) (a.eval o):=by
  cases o with
  | tmp t=>
    have:=h.getD t
    simpa [aev,gt_def,Act.eval,junk,undef,Array.getD_eq_getD_getElem?,List.getD_eq_getElem?_getD] using this
  | const v=>exact cst_VR v
  | global g=>exact .junk _
  | func f=>exact .func _ (by simp) _ _ _ _ .nil .nil
def aK1:Value→Bool
  | .bool _ | .int _ _ | .string _=>true
  | _=>false
def atomA:Value→Bool
  | .agg ⟨l⟩=>l.all aK1
  | v=>aK1 v
def k1Eq:Value→Value→Bool
  | .bool a,.bool b=>a == b
  | .int k a,.int j b=>decide (k=j) && decide (a=b)
  | .string a,.string b=>decide (a=b)
  | _,_=>false
def klEq:List Value→List Value→Bool
  | [],[]=>true
  | a::l,b::m=>k1Eq a b && klEq l m
  | _,_=>false
def vEqA:Value→Value→Bool
  | .agg ⟨l⟩,.agg ⟨m⟩=>klEq l m
  | a,b=>k1Eq a b
theorem k1Eq_eq {a b:Value} (h:k1Eq a b=true):a=b:=by
  unfold k1Eq at h
  split at h
  · rw [eq_of_beq h]
  · simp only [Bool.and_eq_true,decide_eq_true_eq] at h;rw [h.1,h.2]
  · simp only [decide_eq_true_eq] at h;rw [h]
  · cases h
theorem k1Eq_self {a:Value} (h:aK1 a=true):k1Eq a a=true:=by
  unfold aK1 at h
  split at h <;> first | cases h;done | simp [k1Eq]
theorem klEq_eq:∀ {l m:List Value},klEq l m=true→l=m
  | [],[],_=>rfl
  | a::l,b::m,h=>by
    simp only [klEq,Bool.and_eq_true] at h
    rw [k1Eq_eq h.1,klEq_eq h.2]
  | [],_::_,h=>by cases h
  | _::_,[],h=>by cases h
theorem klEq_self:∀ {l:List Value},l.all aK1=true→klEq l l=true
  | [],_=>rfl
  | a::l,h=>by
    simp only [List.all_cons,Bool.and_eq_true] at h
    simp only [klEq,k1Eq_self h.1,klEq_self h.2,Bool.and_self]
theorem vEqA_eq {a b:Value} (h:vEqA a b=true):a=b:=by
  unfold vEqA at h
  split at h
  · rw [klEq_eq h]
  · exact k1Eq_eq h
theorem vEqA_self {a:Value} (h:atomA a=true):vEqA a a=true:=by
  unfold atomA at h
  split at h
  · exact klEq_self h
  · rename_i hn
    unfold vEqA
    split
    · exact absurd rfl (hn _)
    · exact k1Eq_self h
theorem vEqA_ne {a b:Value} (h:atomA a=true) (hf:vEqA a b=false):a≠b:=by
  rintro rfl;rw [vEqA_self h] at hf;cases hf
section
variable {φ:Phi}
theorem aK1_VR {v v':Value} (h:aK1 v=true) (hv:VR φ v v'):v'=v:=by
  cases hv <;> first | rfl | cases h
theorem aKl_VR:∀ {l l':List Value},l.all aK1=true→VRs φ l l'→l'=l
  | [],_,_,h=>by cases h;rfl
  | v::l,_,h,hv=>by
    simp only [List.all_cons,Bool.and_eq_true] at h
    cases hv with
    | cons _ v' _ l' h1 h2=>rw [aK1_VR h.1 h1,aKl_VR h.2 h2]
theorem atomA_VR {v v':Value} (h:atomA v=true) (hv:VR φ v v'):v'=v:=by
  unfold atomA at h
  split at h
  · cases hv with
    | agg _ l' hl=>rw [aKl_VR h hl]
  · exact aK1_VR h hv
end
inductive AR where
  | mo (x:Value)
  | va (x:Option Value)
  | hv (x:Option (Value × AH))
  | st (x:Option AH)
def AR.run (r:AR) (h:AH):Option (Value × AH):=
  match r with
  | .mo v=>some (v,h)
  | .va x=>x.bind fun v=>some (v,h)
  | .hv x=>x
  | .st x=>x.bind fun h=>some (junk,h)
abbrev Oracle:=Value→List Value→AH→Option (Value × AH)
def partsS (E:Env) (fs:Array Field) (ρ:Operand→Value):List (Nat × Operand)→Option (List (Nat × Nat × Value))
  | []=>some []
  | (i,x)::l=>match fs[i]? with
    | some f=>match E.ty f.type with
      | some fi=>(partsS E fs ρ l).bind fun r=>some ((f.offset,fi.size,ρ x)::r)
      | none=>none
    | none=>none
def partsA (size:Nat) (ρ:Operand→Value):List (Nat × Operand)→List (Nat × Nat × Value)
  | []=>[]
  | (i,x)::l=>(i * size,size,ρ x)::partsA size ρ l
def hFrz (x:Value) (h:AH):Option (Value × AH):=
  match x with
  | .slice (some ⟨b,o,sp⟩) n c=>bif Nat.beq n 0 then none else match h.get b with
    | some (.cells _ _ _)=>some (.slice (some ⟨b,o,sp⟩) n c,h)
    | _=>none
  | _=>none
def hClr (z:List Value) (x:Value) (h:AH):Option (Value × AH):=
  match x with
  | .slice none 0 0=>some (junk,h)
  | .slice (some ⟨b,o,none⟩) n _=>bif Nat.beq n 0 then some (junk,h) else (h.stL b o (List.replicate n z).flatten).bind fun h'=>some (junk,h')
  | _=>none
def dSl (x:Value):Option Value:=
  match x with
  | .slice none 0 0=>some (.pointer none)
  | .slice (some ⟨b,o,none⟩) n _=>bif Nat.beq n 0 then none else some (.pointer (some ⟨b,o,none⟩))
  | _=>none
def hUst (e:Nat) (x y:Value) (h:AH):Option (Value × AH):=
  match x,y with
  | .pointer none,.int _ (.ofNat n)=>bif Nat.beq n 0 then some (.string .empty,h) else none
  | .pointer (some ⟨b,o,none⟩),.int _ (.ofNat n)=>bif Nat.beq n 0 then some (.string .empty,h) else bif Nat.ble n 9223372036854775807 then (match h.get b with
    | some (.cells _ _ t)=>bif Nat.beq t (2 * e+1) || Nat.beq t (2 * e+2) then (h.cellsN b o n).bind fun l=>(bytesOf l).bind fun s=>some (.string ⟨⟨s⟩⟩,h.put b none) else none
    | _=>none) else none
  | _,_=>none
def aBuiltin (E:Env) (b:Builtin) (ts:List TypeId) (vs:List Value) (h:AH):AR:=
  match b,ts,vs with
  | .len,[t],[x]=>match E.ty t with
    | some ti=>match ti.desc with
      | .slice _=>.va (lenS x)
      | .string=>.va (lenT x)
      | .map _ _=>.va (lenM x h)
      | _=>.va none
    | none=>.va none
  | .append,[t,t2],[x,y]=>match E.ty t,E.ty t2 with
    | some ti,some t2i=>match ti.desc,t2i.desc with
      | .slice e,.slice _=>match E.ty e with
        | some ei=>.hv (hApp e ei.size ei.bytes x y h)
        | none=>.va none
      | .slice e,.string=>match E.ty e with
        | some ei=>.hv (hApp e ei.size ei.bytes x y h)
        | none=>.va none
      | _,_=>.va none
    | _,_=>.va none
  | .copy,[t,_],[x,y]=>match E.ty t with
    | some ti=>match ti.desc with
      | .slice e=>match E.ty e with
        | some ei=>.hv (hCopy ei.size x y h)
        | none=>.va none
      | _=>.va none
    | none=>.va none
  | .clear,[t],[x]=>match E.ty t with
    | some ti=>match ti.desc with
      | .slice e=>match E.ty e with
        | some ei=>.hv (hClr ei.zero x h)
        | none=>.va none
      | _=>.va none
    | none=>.va none
  | .min,_,[x,y]=>.va (mnI x y)
  | .max,_,[x,y]=>.va (mxI x y)
  | .unsafeSliceData,_,[x]=>.va (dSl x)
  | .unsafeString,[t,_],[x,y]=>match E.ty t with
    | some ti=>match ti.desc with
      | .pointer e=>match E.ty e with
        | some ei=>bif Nat.beq ei.size 1 then .hv (hUst e x y h) else .va none
        | none=>.va none
      | _=>.va none
    | none=>.va none
  | _,_,_=>.va none
def s2a (n:Nat) (x:Value):Option Value:=
  match x with
  | .slice (some ⟨b,o,none⟩) m _=>bif Nat.beq n 0 then none else bif Nat.ble n m then some (.pointer (some ⟨b,o,none⟩)) else none
  | _=>none
def cUns (n:Nat) (x:Value) (h:AH):Option Value:=
  match x with
  | .pointer (some ⟨b,o,none⟩)=>bif Nat.beq n 0 then none else match h.cell b o with
    | some _=>some (.pointer (some ⟨b,o,none⟩))
    | none=>none
  | _=>none
def cPtr (n u:Nat) (x:Value) (h:AH):Option Value:=
  match x with
  | .pointer none=>some (.pointer none)
  | .pointer (some ⟨b,o,none⟩)=>match h.get b with
    | some (.cells c _ t)=>bif Nat.beq o 0 && Nat.beq t (2 * u+2) && Nat.blt 0 n then (match c.get (n - 1) with
      | some _=>some (.pointer (some ⟨b,o,none⟩))
      | none=>none) else none
    | _=>none
  | _=>none
def aConv (E:Env) (s d:TypeId) (x:Value) (h:AH):AR:=
  match E.ty s,E.ty d with
  | some si,some di=>match si.desc,di.desc with
    | .int _,.int k=>.va (cInt k x)
    | .int _,.string=>.va (cRune x)
    | .string,.string=>.va (cStr x)
    | .slice e,.string=>match E.ty e with
      | some ei=>match ei.desc with
        | .int .u8=>.va (cBytes x h)
        | _=>.va none
      | none=>.va none
    | .slice _,.slice e=>bif Nat.beq s d then (match E.ty e with
      | some ei=>match ei.desc with
        | .int .u8=>.hv (hFrz x h)
        | _=>.va none
      | none=>.va none) else .va none
    | .pointer e,.unsafePointer=>match E.ty e with
      | some ei=>.va (cUns ei.size x h)
      | none=>.va none
    | .unsafePointer,.pointer e=>match E.ty e with
      | some ei=>.va (cPtr ei.size e x h)
      | none=>.va none
    | _,_=>.va none
  | _,_=>.va none
def asZero (ti:TI):Value:=bif ti.agg then .agg ⟨ti.zero⟩ else match ti.zero with | [z]=>z | _=>junk
def tAssert (E:Env) (t:TypeId) (ok:Bool) (x:Value):Option Value:=
  match E.ty t with
  | some ti=>match ti.desc with
    | .interface _=>none
    | _=>match x with
      | .iface t' v=>bif Nat.beq t' t then some (bif ok then .tuple ⟨[v,.bool true]⟩ else v) else bif ok then some (.tuple ⟨[asZero ti,.bool false]⟩) else none
      | .nilIface=>bif ok then some (.tuple ⟨[asZero ti,.bool false]⟩) else none
      | _=>none
  | none=>none
def esFind (k:Value):List (Value × Value)→Option Value
  | []=>none
  | (k',v)::es=>bif vEqA k k' then some v else esFind k es
def esKeys (f:Value→Bool):List (Value × Value)→Bool
  | []=>true
  | (k,_)::es=>f k && atomA k && (match esFind k es with | none=>true | some _=>false) && esKeys f es
def mLook (E:Env) (t:TypeId) (ok:Bool) (x k:Value) (h:AH):Option Value:=
  match E.ty t with
  | some ti=>match ti.desc with
    | .map kt et=>match E.key kt,E.ty et with
      | some f,some ei=>bif f k && atomA k then (match x with
        | .map (some r)=>match h.get r with
          | some (.map es _ _)=>bif esKeys f es then (match esFind k es with
            | some v=>some (bif ok then .tuple ⟨[v,.bool true]⟩ else v)
            | none=>some (bif ok then .tuple ⟨[asZero ei,.bool false]⟩ else asZero ei)) else none
          | _=>none
        | _=>none) else none
      | _,_=>none
    | _=>none
  | none=>none
def hRange (x:Value) (h:AH):Option (Value × AH):=
  match x with
  | .map (some m)=>match h.get m with
    | some (.map _ _ cl)=>some (.pointer (some ⟨h.next,0,none⟩),h.new (.iter m cl [] none cl))
    | _=>none
  | _=>none
def entV (x:Value) (h:AH):Option Value:=
  match x with
  | .pointer (some ⟨r,0,none⟩)=>match h.get r with
    | some (.iter m _ _ (some c) cl)=>match h.get m with
      | some (.map es bs cl')=>bif Nat.beq cl cl' then (match bs.findIdx? (fun x=>Nat.beq x c) with
        | some i=>match es[i]? with
          | some (k,v)=>some (.tuple ⟨[k,v]⟩)
          | none=>none
        | none=>none) else none
      | _=>none
    | _=>none
  | _=>none
def kBin (E:Env) (op:BinOp) (t:TypeId) (o:Option Value) (x y:Value):Option Value:=
  match o with
  | some v=>some v
  | none=>match E.key t with
    | some f=>bif f x && f y && atomA x && atomA y then (match op with
      | .eql=>some (.bool (vEqA x y))
      | .neq=>some (.bool (!vEqA x y))
      | _=>none) else none
    | none=>none
def pEq (E:Env) (d:TypeDesc) (op:BinOp) (x y:Value):Option Value:=
  match d with
  | .pointer e=>match E.ty e with
    | some ei=>match x,y with
      | .pointer (some ⟨b,o,none⟩),.pointer (some ⟨b',o',none⟩)=>bif Nat.beq b b' && !Nat.beq ei.size 0 then (match op with
        | .eql=>some (.bool (Nat.beq o o'))
        | .neq=>some (.bool (!Nat.beq o o'))
        | _=>none) else none
      | _,_=>none
    | none=>none
  | _=>none
def bBin (E:Env) (d:TypeDesc) (op:BinOp) (o:Option Value) (x y:Value):Option Value:=
  match o with
  | some v=>some v
  | none=>pEq E d op x y
def gV (ρ:Operand→Value) (h:AH) (x:Operand):Value:=
  match x with
  | .global g=>(match h.get 0 with
    | some (.glob g' _)=>bif Nat.beq g g' then .pointer (some ⟨0,0,none⟩) else ρ (.global g)
    | _=>ρ (.global g))
  | x=>ρ x
def aop (E:Env) (op:Op) (ρ:Operand→Value) (h:AH):AR:=
  match op with
  | .move x=>.mo (ρ x)
  | .assign x=>.mo (ρ x)
  | .pick c a b=>.va ((vBool (ρ c)).bind fun t=>some (cond t (ρ a) (ρ b)))
  | .alloc t=>match E.ty t with
    | some ti=>.hv (hAlc t ti.zero h)
    | none=>.va none
  | .box _ x=>.hv (hBox (ρ x) h)
  | .build t ps=>match E.ty t with
    | some ti=>match ti.desc with
      | .struct fs=>.va ((partsS E fs ρ ps.toList).bind fun l=>bldV ti.zero l)
      | .array _ e=>match E.ty e with
        | some ei=>.va (bldV ti.zero (partsA ei.size ρ ps.toList))
        | none=>.va none
      | _=>.va none
    | none=>.va none
  | .buildSlice t len ps=>match E.ty t with
    | some ti=>match ti.desc with
      | .slice e=>match E.ty e with
        | some ei=>bif Nat.ble (unk 0) len then .va none else .hv (hBldS len ei.zero (partsA ei.size ρ ps.toList) h)
        | none=>.va none
      | _=>.va none
    | none=>.va none
  | .load t x=>match E.ty t with
    | some ti=>bif ti.agg then .va (ldN ti.size (ρ x) h) else .va (ld1 (ρ x) h)
    | none=>.va none
  | .store t x y=>match E.ty t with
    | some ti=>bif ti.agg then .st (stN ti.size (ρ x) (ρ y) h) else .st (st1 (ρ x) (ρ y) h)
    | none=>.va none
  | .nilCheck x=>.va (pNil (ρ x))
  | .binOp op t x y _=>match E.ty t with
    | some ti=>.va (kBin E op t (bBin E ti.desc op (vBin op ti.desc (isC x || isC y) (ρ x) (ρ y)) (ρ x) (ρ y)) (ρ x) (ρ y))
    | none=>.va none
  | .unOp op _ x=>.va (vUn op (ρ x))
  | .convert s d x=>aConv E s d (ρ x) h
  | .makeInterface t x=>match E.ty t with
    | some ti=>match ti.desc with
      | .interface _=>.va none
      | _=>.va (ifc t (ρ x))
    | none=>.va none
  | .makeFunc (.func f) first cap=>.mo (clo f (first.toList.map ρ) (cap.toList.map ρ))
  | .makeMap _ none=>.hv (hMap h)
  | .makeSlice t l c=>match E.ty t with
    | some ti=>match ti.desc with
      | .slice e=>match E.ty e with
        | some ei=>.hv (hMk ei.bytes ei.zero (ρ l) (ρ c) h)
        | none=>.va none
      | _=>.va none
    | none=>.va none
  | .slice t x lo hi mx=>match E.ty t with
    | some ti=>match ti.desc with
      | .slice e=>match E.ty e with
        | some ei=>bif mx.isSome && !hi.isSome then .va none else .va (slS ei.size (ρ x) (lo.map ρ) (hi.map ρ) (mx.map ρ))
        | none=>.va none
      | .array n e=>match E.ty e with
        | some ei=>bif mx.isSome && !hi.isSome then .va none else .va (slA n ei.size (ρ x) (lo.map ρ) (hi.map ρ) (mx.map ρ))
        | none=>.va none
      | .string=>match mx with
        | none=>.va (slT (ρ x) (lo.map ρ) (hi.map ρ))
        | some _=>.va none
      | _=>.va none
    | none=>.va none
  | .fieldAddr t x i=>match E.ty t with
    | some ti=>match ti.desc with
      | .struct fs=>match fs[i]? with
        | some f=>match E.ty f.type with
          | some fi=>bif Nat.beq fi.size 0 then .va none else .va (pFld f.offset (ρ x))
          | none=>.va none
        | none=>.va none
      | _=>.va none
    | none=>.va none
  | .field t x i=>match E.ty t with
    | some ti=>match ti.desc with
      | .struct fs=>match fs[i]? with
        | some f=>match E.ty f.type with
          | some fi=>.va (fld fi.agg f.offset fi.size (ρ x))
          | none=>.va none
        | none=>.va none
      | _=>.va none
    | none=>.va none
  | .indexAddr t x i=>match E.ty t with
    | some ti=>match ti.desc with
      | .slice e=>match E.ty e with
        | some ei=>.va (pIxS ei.size (ρ x) (ρ i))
        | none=>.va none
      | .array n e=>match E.ty e with
        | some ei=>.va (pIxA n ei.size (gV ρ h x) (ρ i))
        | none=>.va none
      | _=>.va none
    | none=>.va none
  | .index t x i=>match E.ty t with
    | some ti=>match ti.desc with
      | .array n e=>match E.ty e with
        | some ei=>.va (ixG ei.agg n ei.size (ρ x) (ρ i))
        | none=>.va none
      | .string=>.va (ixT (ρ x) (ρ i))
      | _=>.va none
    | none=>.va none
  | .extract x i=>.va (ext i (ρ x))
  | .typeAssert x _ t ok=>.va (tAssert E t ok (ρ x))
  | .lookup t x i ok=>.va (mLook E t ok (ρ x) (ρ i) h)
  | .range t x=>match E.ty t with
    | some ti=>match ti.desc with
      | .map _ _=>.hv (hRange (ρ x) h)
      | _=>.va none
    | none=>.va none
  | .entry x=>.va (entV (ρ x) h)
  | .sliceToArrayPointer t x=>match E.ty t with
    | some ti=>match ti.desc with
      | .array n _=>.va (s2a n (ρ x))
      | _=>.va none
    | none=>.va none
  | .call { callee:=.builtin b,args,argTypes }=>aBuiltin E b argTypes.toList (args.toList.map ρ) h
  | _=>.va none
def XK.sem:XK→Array Value→Sem Value
  | .nop=>fun _=>pure (.tuple #[])
  | .mark=>fun args=>match args[0]? with
    | some (Value.pointer (some _))=>pure (.tuple #[])
    | _ => stuck "an address"
  | .load k=>Extern.Atomic.loadT (.int k)
  | .store=>Extern.Atomic.storeT
  | .cas k=>Extern.Atomic.casT (.int k)
  | .add k=>Extern.Atomic.update (Op.intArith .add) k true
  | .cntS=>Extern.BytealgCount.count
  | .idxB=>Extern.BytealgIndexByte.indexByte
  | .same=>Extern.AbiNoEscape.same
def EqLaw (P:Program) (t:TypeId):Prop:=∀ x y lx ly,keyOf P t x=some lx→keyOf P t y=some ly→∀ (op:BinOp) (a b:Operand) (w:World),(op=.eql∨op=.neq) →
  ∃ r:Bool,(do eqGuard op t a b x y;binOp op t x y:Sem Value).run P w=.ok (.bool (if op=.eql then r else !r)) w∧(r=true ↔ x=y)
structure EnvOK (P:Program) (E:Env):Prop where
  ty:∀ t ti,E.ty t=some ti→TIok P t ti∧selfOk ti.zero∧(ti.agg=false→ti.size=1)∧ti.zero.length=ti.size∧fieldsOk P ti.desc
  fn:∀ f fi,E.fn f=some fi→∃ fn,P.funcs[f]?=some fn∧fn.body=some fi.body∧fn.ntmps=fi.ntmps∧fn.results=fi.results
  call:∀ f fi,E.fn f=some fi→∀ as w,(callFunc f as).run P w=.ok (.enter f as) w
  mixed:P.follows .mixedOrders=true
  zagg:∀ t ti,E.ty t=some ti→ti.agg=true→∀ w,(zeroValue t).run P w=.ok (.agg ⟨ti.zero⟩) w
  meth:∀ t n g,E.meth t n=some g→∀ v args w,(callMethod (.iface t v) n args).run P w=(callFunc g (#[v]++args)).run P w
  ext:∀ g k,E.ext g=some k→∀ args w v w',(k.sem args).run P w=.ok v w'→(callFunc g args).run P w=.ok (.value v) w'
  key:∀ t f,E.key t=some f→Maps.Keyed P t∧EqLaw P t∧∀ v,f v=true→∃ l,keyOf P t v=some l
def Gives (P:Program) (φ:Phi) (h:AH) (w:World) (s:Sem Next) (v:Value) (h':AH):Prop:=
  ∃ φ' n v' w',s.run P w=.ok n w'∧(n=.value v'∨n=.skip∧v'=undef)∧VR φ' v v'∧Rel φ' h' w'∧Fwd φ h w φ' h' w'∧h'.df=h.df
section
variable {P:Program} {φ:Phi} {w:World} {h h':AH} {v:Value}
theorem Gives.val {s:Sem Value} (r:Rel φ h w) (hs:∃ v',s.run P w=.ok v' w∧VR φ v v'):Gives P φ h w (do pure (.value (← s))) v h:=by
  obtain ⟨v',h1,h2⟩:=hs
  exact ⟨φ,.value v',v',w,by simp [h1],.inl rfl,h2,r,Fwd.refl _ _ _,rfl⟩
theorem Gives.made {s:Sem Value} (hs:Makes P φ h w s v h') (hd:h'.df=h.df):Gives P φ h w (do pure (.value (← s))) v h':=by
  obtain ⟨φ',v',w',h1,h2,h3,h4⟩:=hs
  exact ⟨φ',.value v',v',w',by simp [h1],.inl rfl,h2,h3,h4,hd⟩
theorem Gives.turned {s:Sem Unit} (hs:Turns P φ h w s h') (hd:h'.df=h.df):Gives P φ h w (do s;pure .skip) junk h':=by
  obtain ⟨w',h1,h2,h3⟩:=hs
  exact ⟨φ,.skip,undef,w',by simp [h1],.inr ⟨rfl,rfl⟩,.junk _,h2,h3,hd⟩
theorem AH.st_df {b o:Nat} (hs:h.st b o v=some h'):h'.df=h.df:=by
  obtain ⟨c,n,t,u,_,_,rfl,_⟩:=AH.st_eq hs;rfl
theorem AH.stL_df {b:Nat}:∀ {l:List Value} {h h':AH} {o:Nat},h.stL b o l=some h'→h'.df=h.df
  | [],h,h',o,hs=>by cases hs;rfl
  | v::l,h,h',o,hs=>by
    simp only [AH.stL] at hs
    cases ho:oneC v with
    | false=>rw [ho] at hs;cases hs
    | true=>
      rw [ho,cond_true] at hs
      cases h1:h.st b o v with
      | none=>simp [h1] at hs
      | some h₁=>simp [h1] at hs;rw [AH.stL_df hs,AH.st_df h1]
theorem hAlc_df {t:Nat} {l:List Value} (hl:hAlc t l h=some (v,h')):h'.df=h.df:=by
  unfold hAlc at hl;cases ha:allC l <;> rw [ha] at hl <;> cases hl;rfl
theorem hNew_df {l:List Value} (hl:hNew l h=some (v,h')):h'.df=h.df:=by
  unfold hNew at hl;cases ha:allC l <;> rw [ha] at hl <;> cases hl;rfl
theorem hBox_df {x:Value} (hl:hBox x h=some (v,h')):h'.df=h.df:=by
  unfold hBox at hl
  cases hc:cellsO x with
  | none=>simp [hc] at hl
  | some l=>simp [hc] at hl;exact hNew_df hl
theorem st1_df {p u:Value} (hl:st1 p u h=some h'):h'.df=h.df:=by
  unfold st1 at hl
  split at hl
  · cases ho:oneC u <;> rw [ho] at hl
    · cases hl
    · exact AH.st_df hl
  · cases hl
theorem stN_df {p u:Value} {n:Nat} (hl:stN n p u h=some h'):h'.df=h.df:=by
  unfold stN at hl
  split at hl
  · rename_i l;cases ho:Nat.beq l.length n <;> rw [ho] at hl
    · cases hl
    · exact AH.stL_df hl
  · cases hl
theorem hBldS_df {len:Nat} {z:List Value} {ps:List (Nat × Nat × Value)} (hl:hBldS len z ps h=some (v,h')):h'.df=h.df:=by
  unfold hBldS at hl
  cases hb:Nat.ble (len * z.length) 16777216 <;> rw [hb] at hl
  · cases hl
  · rw [cond_true] at hl
    cases h1:lay ps (List.replicate len z).flatten with
    | none=>simp [h1] at hl
    | some l=>
      simp only [h1,Option.bind_some] at hl
      cases h2:hNew l h with
      | none=>simp [h2] at hl
      | some p=>
        obtain ⟨a,b⟩:=p
        simp only [h2,Option.bind_some] at hl
        split at hl <;> cases hl
        exact hNew_df h2
theorem hMk_df {n:Nat} {z:List Value} {x y:Value} (hl:hMk n z x y h=some (v,h')):h'.df=h.df:=by
  unfold hMk at hl
  split at hl
  · rename_i l _ c
    cases hb:(Nat.ble l c && Nat.ble (n * c) 281474976710656 && Nat.ble c 281474976710656 && allC z) <;> rw [hb] at hl <;> cases hl
    rfl
  · cases hl
theorem hMap_df (hl:hMap h=some (v,h')):h'.df=h.df:=by cases hl;rfl
end
end
end Go.Den
namespace Go.Den
noncomputable section
section
variable {P:Program} {φ:Phi} {w:World} {h h':AH} {v:Value} {E:Env}
theorem hApp_df {e size bytes:Nat} {x y:Value} (hl:hApp e size bytes x y h=some (v,h')):h'.df=h.df:=by
  unfold hApp at hl
  cases e1:lenV y with
  | none=>simp [e1] at hl
  | some n=>
  cases e2:rdV size n y h with
  | none=>simp [e1,e2] at hl
  | some new=>
  simp only [e1,e2,Option.bind_some] at hl
  cases e3:(allC new && Nat.beq new.length (n * size)) with
  | false=>rw [e3] at hl;cases hl
  | true=>
  rw [e3,cond_true] at hl
  split at hl
  · cases h1:Nat.beq n 0 <;> rw [h1] at hl
    · cases h2:roomOk n bytes <;> rw [h2] at hl <;> cases hl;rfl
    · cases hl;rfl
  · rename_i b o sp m c
    cases h1:Nat.beq n 0 <;> rw [h1] at hl
    · cases h2:roomOk (m+n) bytes <;> rw [h2] at hl
      · cases hl
      · rw [cond_false,cond_true] at hl
        cases h3:Nat.beq c (unk size) <;> rw [h3] at hl
        · cases h4:Nat.ble (unk 0) c <;> rw [h4] at hl
          · cases h5:Nat.ble (m+n) c <;> rw [h5] at hl
            · rw [cond_false,cond_false,cond_false] at hl
              cases h6:(bif Nat.beq m 0 then some [] else h.cellsN b o (m * size)) with
              | none=>simp [h6] at hl
              | some old=>
                simp only [h6,Option.bind_some] at hl
                cases h7:allC old <;> rw [h7] at hl <;> cases hl;rfl
            · rw [cond_false,cond_false,cond_true] at hl
              cases h6:h.stL b (o+m * size) new with
              | none=>simp [h6] at hl
              | some h₁=>
                simp only [h6,Option.bind_some,Option.some.injEq,Prod.mk.injEq] at hl
                obtain ⟨rfl,rfl⟩:=hl
                exact AH.stL_df h6
          · cases hl
        · rw [cond_true] at hl
          cases h6:grown h b o (m * size) new with
          | none=>simp [h6] at hl
          | some p=>simp [h6] at hl;obtain ⟨_,rfl⟩:=hl;rfl
    · cases hl;rfl
  · cases hl
theorem hCopy_df {size:Nat} {x y:Value} (hl:hCopy size x y h=some (v,h')):h'.df=h.df:=by
  unfold hCopy at hl
  cases e1:lenV y with
  | none=>simp [e1] at hl
  | some k=>
  cases e0:lenV x with
  | none=>simp [e1,e0] at hl
  | some m=>
  cases e2:rdV size (min k m) y h with
  | none=>simp [e1,e0,e2] at hl
  | some new=>
  simp only [e1,e0,e2,Option.bind_some] at hl
  split at hl
  · cases hl;rfl
  · split at hl
    · cases hl;rfl
    · rename_i b o sp m' c _ _
      cases h6:h.stL b o new with
      | none=>simp [h6] at hl
      | some h₁=>
        simp only [h6,Option.bind_some,Option.some.injEq,Prod.mk.injEq] at hl
        obtain ⟨rfl,rfl⟩:=hl
        exact AH.stL_df h6
  · cases hl
theorem freeze_heap {b' n:Nat} {ca:Array Value} {e:TypeId} {lo hi:Nat} (hw:w.heap[b']?=some (.cells ca e (lo,hi))) (i:Nat) :
    (w.freeze { block:=b',off:=n } 1).heap[i]?=if i=b' then some (.cells ca e (if lo == hi then (n,n+1) else (min lo n,max hi (n+1)))) else w.heap[i]?:=by
  unfold World.freeze
  simp only [Nat.one_ne_zero,if_false,Array.getElem?_modify]
  by_cases h:i=b'
  · subst h;simp [hw]
  · simp [h,Ne.symm h]
theorem Rel.freeze (r:Rel φ h w) {b b' s T:Nat} {ca:Array Value} {e:TypeId} {lo hi:Nat} (hb:φ b=some (b',s,T)) (hcl:∃ c n t,h.get b=some (.cells c n t)) (hw:w.heap[b']?=some (.cells ca e (lo,hi))) :
    Rel φ h (w.freeze { block:=b',off:=ca.size } 1)∧Fwd φ h w φ h (w.freeze { block:=b',off:=ca.size } 1):=by
  have hlive:h.get b≠none:=by obtain ⟨c,n,t,hg⟩:=hcl;rw [hg];simp
  have hh:=freeze_heap (n:=ca.size) hw
  have hs:(w.freeze { block:=b',off:=ca.size } 1).heap.size=w.heap.size:=by simp [World.freeze]
  constructor
  · refine ⟨?_,r.inj,fun x y z hx=>by rw [hs];exact r.bnd _ _ _ hx,r.lim,r.gl⟩
    intro x y z T' hx
    have ho:=r.blk _ _ _ _ hx
    rw [hh]
    by_cases hy:y=b'
    · subst hy
      rw [if_pos rfl]
      cases hg:h.get x with
      | none=>trivial
      | some o=>
        rw [hg,hw] at ho
        cases o with
        | cells c n t=>
          obtain ⟨⟨ca',e',lo',hi',k1,k2,k3,k4⟩,kt⟩:=ho
          cases k1
          have key:∀ p:Nat × Nat,p=(if lo == hi then (ca.size,ca.size+1) else (min lo ca.size,max hi (ca.size+1)))→p.1=p.2∨ca.size≤p.1:=by
            rintro p rfl
            by_cases hq:lo=hi
            · subst hq
              rw [if_pos (by simp)]
              exact .inr (Nat.le_refl _)
            · rw [if_neg (by simpa using hq)]
              have:=k3.resolve_left hq
              right
              show ca.size≤min lo ca.size
              omega
          exact ⟨⟨ca,e,_,_,rfl,k2,key _ rfl,k4⟩,kt.imp id fun ⟨c₂,e₂,f₂,q1,q2⟩=>by cases q1;exact ⟨_,_,_,rfl,q2⟩⟩
        | ro c=>
          exfalso
          obtain ⟨c₁,n₁,t₁,hg₁⟩:=hcl
          have hxb:=r.inj _ _ _ _ _ hx hb (by rw [hg];simp) hlive
          rw [hxb,hg₁] at hg
          cases hg
        | map es=>exact ho.elim
        | iter=>exact ho.elim
        | loop=>exact ho.elim
        | glob g c=>
          exfalso
          obtain ⟨c₁,n₁,t₁,hg₁⟩:=hcl
          have hxb:=r.inj _ _ _ _ _ hx hb (by rw [hg];simp) hlive
          rw [hxb,hg₁] at hg
          cases hg
    · rw [if_neg hy];exact ho
  · refine ⟨Nat.le_refl _,fun _ _ h=>h,fun _ _ h=>⟨h,rfl⟩,(fun _ _ _ h h'=>by rw [h] at h';cases h'),fun _ _ h=>h,fun _ _ h=>h,by omega,rfl,rfl,?_⟩
    · intro c hc hk
      rw [hh,if_neg]
      rintro rfl
      have h9:=hk b (s,T) hb
      obtain ⟨c₁,n₁,t₁,hg₁⟩:=hcl
      rw [hg₁] at h9;cases h9
theorem freeze_os (a:Addr) (n:Nat):(w.freeze a n).os=w.os∧(w.freeze a n).output=w.output:=by
  unfold World.freeze;split <;> exact ⟨rfl,rfl⟩
theorem hFrz_sound {x x':Value} {t e:TypeId} {ti ei:TI} (r:Rel φ h w) (ht:TIok P t ti) (he:TIok P e ei) (hd:ti.desc=.slice e) (hde:ei.desc=.int .u8) (hx:VR φ x x') (hl:hFrz x h=some (v,h')) :
    Makes P φ h w (convert t t x') v h':=by
  unfold hFrz at hl
  split at hl
  · rename_i b o sp n c
    cases hn:Nat.beq n 0 with
    | true=>rw [hn] at hl;cases hl
    | false=>
      rw [hn,cond_false] at hl
      split at hl
      · rename_i c₀ n₀ t₀ hg
        cases hl
        cases hx with
        | empty=>cases hn
        | slice b o b' s T n c c' hb hn' hc=>
          obtain ⟨ca,ce,lo,hi,hw,_⟩:=r.slot hb hg
          obtain ⟨g1,g2⟩:=r.freeze hb ⟨_,_,_,hg⟩ hw
          refine ⟨φ,_,_,?_,.slice b o b' s T n c c' hb hn' hc,g1,g2⟩
          simp [convert,run_ty w ht,hd,run_ty w he,hde,markStringish,World.shape?,hw]
      · cases hl
  · cases hl
theorem hFrz_df {x:Value} (hl:hFrz x h=some (v,h')):h'.df=h.df:=by
  unfold hFrz at hl
  split at hl
  · rename_i n _
    cases hn:Nat.beq n 0 with
    | true=>rw [hn] at hl;cases hl
    | false=>
      rw [hn,cond_false] at hl
      split at hl <;> cases hl
      rfl
  · cases hl
theorem partsS_sound (ok:EnvOK P E) {fs:Array Field} {ρ ρ':Operand→Value} (hρ:∀ x,VR φ (ρ x) (ρ' x)):∀ {l:List (Nat × Operand)} {ps:List (Nat × Nat × Value)},partsS E fs ρ l=some ps →
    LayP φ (fun (i:Nat)=>(fs[i]?).map fun (f:Field)=>(f.offset,P.cellsOf f.type)) ps (l.map fun (p:Nat × Operand)=>(p.1,ρ' p.2)):=by
  intro l
  induction l with
  | nil=>intro ps h;cases h;trivial
  | cons p l ih=>
    intro ps h
    obtain ⟨i,x⟩:=p
    unfold partsS at h
    split at h
    · rename_i f hf
      split at h
      · rename_i fi hfi
        cases hr:partsS E fs ρ l with
        | none=>simp [hr] at h
        | some q=>
          simp [hr] at h
          subst h
          refine ⟨?_,hρ x,ih hr⟩
          obtain ⟨⟨_,i',z,h1,h2,_⟩,_⟩:=ok.ty _ _ hfi
          simp [hf,Program.cellsOf,h1,h2]
      · cases h
    · cases h
theorem partsA_sound {size:Nat} {ρ ρ':Operand→Value} (hρ:∀ x,VR φ (ρ x) (ρ' x)):∀ (l:List (Nat × Operand)),
    LayP φ (fun i=>some (i * size,size)) (partsA size ρ l) (l.map fun (p:Nat × Operand)=>(p.1,ρ' p.2))
  | []=>trivial
  | (_,x)::l=>⟨rfl,hρ x,partsA_sound hρ l⟩
theorem OV.map {ρ ρ':Operand→Value} (hρ:∀ x,VR φ (ρ x) (ρ' x)) (o:Option Operand):OV φ (o.map ρ) (o.map ρ'):=by
  cases o with
  | none=>trivial
  | some x=>exact hρ x
theorem VRs.map {ρ ρ':Operand→Value} (hρ:∀ x,VR φ (ρ x) (ρ' x)):∀ (l:List Operand),VRs φ (l.map ρ) (l.map ρ')
  | []=>.nil
  | x::l=>.cons _ _ _ _ (hρ x) (VRs.map hρ l)
theorem run_va {x:Option Value} (hl:(AR.va x).run h=some (v,h')):x=some v∧h'=h:=by
  cases x with
  | none=>cases hl
  | some u=>cases hl;exact ⟨rfl,rfl⟩
theorem run_st {x:Option AH} (hl:(AR.st x).run h=some (v,h')):x=some h'∧v=junk:=by
  cases x with
  | none=>cases hl
  | some u=>cases hl;exact ⟨rfl,rfl⟩
theorem hClr_df {z:List Value} {x:Value} (hl:hClr z x h=some (v,h')):h'.df=h.df:=by
  unfold hClr at hl
  split at hl
  · cases hl;rfl
  · rename_i b o n c
    cases hb:Nat.beq n 0 with
    | true=>rw [hb] at hl;cases hl;rfl
    | false=>
      rw [hb,cond_false] at hl
      cases hs:h.stL b o (List.replicate n z).flatten with
      | none=>rw [hs] at hl;cases hl
      | some h₁=>rw [hs] at hl;cases hl;exact AH.stL_df hs
  · cases hl
theorem hClr_sound {ti ei:TI} {t e ty:TypeId} (r:Rel φ h w) (ht:TIok P t ti) (hd:ti.desc=.slice e) (he:TIok P e ei) (hz:selfOk ei.zero) {x x':Value} (hx:VR φ x x') (hl:hClr ei.zero x h=some (v,h')) :
    Makes P φ h w (Builtin.clear_ #[t] ty #[x']) v h':=by
  obtain ⟨z,z1,z2,_⟩:=run_zero w he
  unfold hClr at hl
  split at hl
  · cases hl
    cases hx
    exact ⟨φ,.tuple #[],w,by simp [Builtin.clear_,run_ty w ht,hd],.junk _,r,Fwd.refl _ _ _⟩
  · rename_i b o n c
    cases hb:Nat.beq n 0 with
    | true=>
      rw [hb] at hl;cases hl
      have e:=Nat.eq_of_beq_eq_true hb
      subst e
      cases hx with
      | slice _ _ b' s T _ _ c' hφ=>exact ⟨φ,.tuple #[],w,by simp [Builtin.clear_,run_ty w ht,hd],.junk _,r,Fwd.refl _ _ _⟩
      | empty=>exact ⟨φ,.tuple #[],w,by simp [Builtin.clear_,run_ty w ht,hd],.junk _,r,Fwd.refl _ _ _⟩
    | false=>
      rw [hb,cond_false] at hl
      have hne:n≠0:=by rintro rfl;cases hb
      cases hs:h.stL b o (List.replicate n ei.zero).flatten with
      | none=>rw [hs] at hl;cases hl
      | some h₁=>
        rw [hs] at hl;cases hl
        cases hx with
        | empty=>exact absurd rfl hne
        | slice _ _ b' s T _ _ c' hφ=>
          obtain ⟨w',g1,g2,g3⟩:=stL_sound (P:=P) (o:=o) 0 r hφ ((hz φ).flat n) (by simpa using hs)
          have hzc:(Builtin.zeroCells z.cells n).toList=(List.replicate n ei.zero).flatten:=range_zero _ _ z2 n
          refine ⟨φ,.tuple #[],w',?_,.junk _,g2,g3⟩
          obtain ⟨m,rfl⟩:=Nat.exists_eq_succ_of_ne_zero hne
          simp [Builtin.clear_,run_ty w ht,hd,z1,hzc,g1]
  · cases hl
theorem dSl_sound {ts:Array TypeId} {ty:TypeId} {x x':Value} (hx:VR φ x x') (hl:dSl x=some v):∃ v',(Builtin.unsafeSliceData_ ts ty #[x']).run P w=.ok v' w∧VR φ v v':=by
  unfold dSl at hl
  split at hl
  · cases hl
    cases hx
    exact ⟨_,rfl,.ptrNil⟩
  · rename_i b o n c
    cases hb:Nat.beq n 0 with
    | true=>rw [hb] at hl;cases hl
    | false=>
      rw [hb,cond_false] at hl
      cases hl
      cases hx with
      | empty=>cases hb
      | slice _ _ b' s T _ _ c' hφ hn hc=>
        have hne:c'≠0:=by
          rintro rfl
          have:n=0:=by omega
          rw [this] at hb;cases hb
        refine ⟨.pointer (some ⟨b',o+s,none⟩),?_,.ptr b o b' s T hφ⟩
        have he:Builtin.unsafeSliceData_ ts ty #[.slice (some ⟨b',o+s,none⟩) n c']=(if c'≠0 then pure (.pointer (some ⟨b',o+s,none⟩)) else _):=rfl
        rw [he,if_pos hne];rfl
  · cases hl
theorem loadBytes_sound (r:Rel φ h w) {b b' s T:Nat} (hb:φ b=some (b',s,T)):∀ (n o:Nat) (l:List Value) (bs:List UInt8) (acc:ByteArray),h.cellsN b o n=some l→bytesOf l=some bs →
    (loadBytes ⟨b',o+s,none⟩ acc n).run P w=.ok ⟨⟨acc.data.toList++bs⟩⟩ w:=by
  intro n
  induction n with
  | zero=>
    intro o l bs acc hl hs
    simp only [AH.cellsN,Option.some.injEq] at hl
    subst hl
    simp only [bytesOf,Option.some.injEq] at hs
    subst hs
    simp [loadBytes]
  | succ n ih=>
    intro o l bs acc hl hs
    simp only [AH.cellsN] at hl
    cases hc:h.cell b o with
    | none=>simp [hc] at hl
    | some u=>
      cases hr:h.cellsN b (o+1) n with
      | none=>simp [hc,hr] at hl
      | some l₁=>
        simp [hc,hr] at hl
        subst hl
        obtain ⟨v',g1,g2,_,_⟩:=r.cell hb hc
        unfold bytesOf at hs
        split at hs
        · rename_i e;cases e
        · rename_i m l₂ e
          cases e
          cases hbq:bytesOf l₁ with
          | none=>simp [hbq] at hs
          | some q=>
            simp only [hbq,Option.bind_some,Option.some.injEq] at hs
            subst hs
            cases g2
            have hadd:Addr.add ⟨b',o+s,none⟩ 1=⟨b',o+1+s,none⟩:=by
              have e:o+s+1=o+1+s:=by omega
              unfold Addr.add;split <;> simp_all
            have h3:=ih (o+1) l₁ q (acc.push (UInt8.ofNat m.toNat)) hr hbq
            simp only [loadBytes,Sem.run_bind,run_load,g1,Result.andThen_ok,hadd]
            refine h3.trans ?_
            simp [ByteArray.push]
        · cases hs
theorem hUst_df {e:Nat} {x y:Value} (hl:hUst e x y h=some (v,h')):h'.df=h.df:=by
  unfold hUst at hl
  split at hl
  · rename_i n
    cases hb:Nat.beq n 0 <;> rw [hb] at hl <;> cases hl
    rfl
  · rename_i b o k n
    cases hb:Nat.beq n 0 with
    | true=>rw [hb] at hl;cases hl;rfl
    | false=>
      rw [hb,cond_false] at hl
      cases hn:Nat.ble n 9223372036854775807 with
      | false=>rw [hn] at hl;cases hl
      | true=>
        rw [hn,cond_true] at hl
        split at hl
        · rename_i c m t hg
          cases ht:(Nat.beq t (2 * e+1) || Nat.beq t (2 * e+2)) with
          | false=>rw [ht] at hl;cases hl
          | true=>
            rw [ht,cond_true] at hl
            cases hc:h.cellsN b o n with
            | none=>simp [hc] at hl
            | some l=>
              cases hs:bytesOf l with
              | none=>simp [hc,hs] at hl
              | some s=>
                simp only [hc,hs,Option.bind_some,Option.some.injEq,Prod.mk.injEq] at hl
                obtain ⟨_,rfl⟩:=hl
                rfl
        · cases hl
  · cases hl
theorem ty_inj {t e e₂:Nat} (h:t=2 * e+1∨t=2 * e+2) (q:t=2 * e₂+1∨t=2 * e₂+2):e₂=e:=by omega
theorem hUst_sound {t t2 ty e:TypeId} {ti ei:TI} (r:Rel φ h w) (ht:TIok P t ti) (hd:ti.desc=.pointer e) (he:TIok P e ei) (hsz:ei.size=1) {x x' y y':Value} (hx:VR φ x x') (hy:VR φ y y') (hl:hUst e x y h=some (v,h')) :
    Makes P φ h w (Builtin.unsafeString_ #[t,t2] ty #[x',y']) v h':=by
  have hneg:∀ n:Nat,¬ ((Int.ofNat n) < 0):=fun n=>by
    have:(0:Int)≤Int.ofNat n:=Int.natCast_nonneg n
    omega
  unfold hUst at hl
  split at hl
  · rename_i k n
    cases hb:Nat.beq n 0 with
    | false=>rw [hb] at hl;cases hl
    | true=>
      rw [hb] at hl;cases hl
      have e0:=Nat.eq_of_beq_eq_true hb
      subst e0
      cases hx;cases hy
      exact ⟨φ,.string .empty,w,rfl,.string _,r,Fwd.refl _ _ _⟩
  · rename_i b o k n
    cases hb:Nat.beq n 0 with
    | true=>
      rw [hb] at hl;cases hl
      have e0:=Nat.eq_of_beq_eq_true hb
      subst e0
      cases hx;cases hy
      exact ⟨φ,.string .empty,w,rfl,.string _,r,Fwd.refl _ _ _⟩
    | false=>
      rw [hb,cond_false] at hl
      have hn0:n≠0:=by rintro rfl;cases hb
      cases hn:Nat.ble n 9223372036854775807 with
      | false=>rw [hn] at hl;cases hl
      | true=>
        rw [hn,cond_true] at hl
        have hn9:=Nat.le_of_ble_eq_true hn
        split at hl
        · rename_i c m tt hg
          cases htt:(Nat.beq tt (2 * e+1) || Nat.beq tt (2 * e+2)) with
          | false=>rw [htt] at hl;cases hl
          | true=>
            rw [htt,cond_true] at hl
            cases hc:h.cellsN b o n with
            | none=>simp [hc] at hl
            | some l=>
              cases hs:bytesOf l with
              | none=>simp [hc,hs] at hl
              | some s=>
                simp only [hc,hs,Option.bind_some,Option.some.injEq,Prod.mk.injEq] at hl
                obtain ⟨rfl,rfl⟩:=hl
                cases hx with
                | ptr _ _ b' s' T hφ=>
                cases hy
                have hld:=fun acc=>loadBytes_sound (P:=P) r hφ n o l s acc hc hs
                have hty:∃ ca fr,w.heap[b']?=some (.cells ca e fr):=by
                  rcases r.typedAt hφ hg with h0 | ⟨c₂,e₂,fr,q1,q2⟩
                  · rw [h0] at htt
                    cases htt
                  · simp only [Bool.or_eq_true] at htt
                    have:e₂=e:=ty_inj (htt.imp Nat.eq_of_beq_eq_true Nat.eq_of_beq_eq_true) (q2.imp id And.left)
                    subst this
                    exact ⟨_,_,q1⟩
                obtain ⟨ca,fr,hw⟩:=hty
                have hlast:o+s'+n≤ca.size:=by
                  have key:∀ (n o:Nat) (l:List Value),n≠0→h.cellsN b o n=some l→o+s'+n≤ca.size:=by
                    intro n
                    induction n with
                    | zero=>intro o l h0;exact absurd rfl h0
                    | succ n ih=>
                      intro o l _ hl
                      simp only [AH.cellsN] at hl
                      cases hc:h.cell b o with
                      | none=>simp [hc] at hl
                      | some u=>
                        obtain ⟨c',e',f',g1,g2⟩:=r.cell_shape hφ hc
                        rw [hw] at g1;cases g1
                        cases hr:h.cellsN b (o+1) n with
                        | none=>simp [hc,hr] at hl
                        | some l₁=>
                          rcases Nat.eq_zero_or_pos n with h0 | h0
                          · subst h0;omega
                          · have:=ih (o+1) l₁ (by omega) hr;omega
                  exact key n o l hn0 hc
                have hsh:w.shape? b'=some (e,ca.size):=by simp [World.shape?,hw]
                have hcell:P.cellsOf e=1:=by
                  obtain ⟨_,i,z,hi',hsz',_⟩:=he
                  rw [← hsz]
                  simp [Program.cellsOf,hi',hsz']
                have hlies:liesAt P P.depth e (ca.size / P.cellsOf e) (o+s') e n=true:=by
                  have hd:∃ k,P.depth=k+1:=⟨2 * (P.types.size+Made.depth)+1,rfl⟩
                  obtain ⟨k,hk⟩:=hd
                  have hsame:∀ j,sameLayout P (j+1) e e=true:=fun j=>by simp [sameLayout]
                  have hrow:∀ j,rowAt P (sameLayout P (k+1) · e) (j+1) e (ca.size / P.cellsOf e) (o+s') n=true:=fun j=>by
                    unfold rowAt
                    rw [hcell]
                    have:o+s'+n≤ca.size:=hlast
                    simp [hsame,Nat.mod_one,this]
                  rw [hk]
                  unfold liesAt
                  rw [hk,hrow];rfl
                have hmax:¬ ((Int.ofNat n) > IntKind.i64.max):=by
                  have:IntKind.i64.max=9223372036854775807:=by decide
                  rw [this]
                  have:(Int.ofNat n)=(n:Int):=rfl
                  omega
                have hne:¬ (Int.ofNat n=0):=by
                  have:(Int.ofNat n)=(n:Int):=rfl
                  omega
                have hwr:wrB (h.get b)=true:=by rw [hg];rfl
                have hsize:(w.freeze ⟨b',o+s',none⟩ n).heap.size=w.heap.size:=by simp [World.freeze];split <;> simp
                have hkeep:∀ k,k≠b'→(w.freeze ⟨b',o+s',none⟩ n).heap[k]?=w.heap[k]?:=by
                  intro k hk
                  unfold World.freeze
                  rw [if_neg hn0]
                  simp only [Array.getElem?_modify]
                  rw [if_neg (by simpa using Ne.symm hk)]
                obtain ⟨r',f'⟩:=r.wild hφ hwr rfl hsize hkeep (freeze_os _ _).1 (freeze_os _ _).2
                refine ⟨φ,.string ⟨⟨s⟩⟩,_,?_,.string _,r',f'⟩
                have h1:(elemOf t).run P w=.ok e w:=by simp [elemOf,run_ty w ht,hd]
                have h2:(variablesAt ⟨b',o+s',none⟩ e n).run P w=.ok true w:=by simp [variablesAt,shape,Sem.run,hsh,hlies]
                have h3:(freeze ⟨b',o+s',none⟩ n).run P w=.ok () (w.freeze ⟨b',o+s',none⟩ n):=rfl
                have h4:=hld .empty
                have e4:(⟨⟨(ByteArray.empty).data.toList++s⟩⟩:ByteArray)=⟨⟨s⟩⟩:=by simp
                rw [e4] at h4
                rw [show Builtin.unsafeString_ #[t,t2] ty #[.pointer (some ⟨b',o+s',none⟩),.int k (.ofNat n)]=(asInt (.int k (.ofNat n)) >>= _) from rfl]
                simp only [asInt,asIntOf,List.getElem?_toArray,List.getElem?_cons_zero,Sem.run_bind,Sem.run_pure,Result.andThen_ok]
                rw [if_neg (hneg n),if_neg hmax,if_neg hne]
                simp only [Sem.run_bind,Sem.run_pure,Result.andThen_ok,h1,h2,h3,if_true,show (Int.ofNat n).toNat=n from rfl,h4]
        · cases hl
  · cases hl
theorem aBuiltin_exec (ok:EnvOK P E) {b:Builtin} {ts:Array TypeId} {ty:TypeId} {cs:Array Bool} {vs vs':List Value} (hv:VRs φ vs vs') (r:Rel φ h w) (hl:(aBuiltin E b ts.toList vs h).run h=some (v,h')) :
    Gives P φ h w (builtin b ts ty cs ⟨vs'⟩) v h':=by
  obtain ⟨ts⟩:=ts
  change (aBuiltin E b ts vs h).run h=some (v,h') at hl
  unfold aBuiltin at hl
  split at hl
  · rename_i t x
    cases hv with
    | cons _ x' _ _ hx hn=>
    cases hn
    split at hl
    · rename_i ti hti
      obtain ⟨ht,_⟩:=ok.ty _ _ hti
      split at hl
      · rename_i e hd
        obtain ⟨h1,rfl⟩:=run_va hl
        exact .val r (lenS_sound ht hd hx h1)
      · rename_i hd
        obtain ⟨h1,rfl⟩:=run_va hl
        exact .val r (lenT_sound ht hd hx h1)
      · rename_i hd
        obtain ⟨h1,rfl⟩:=run_va hl
        exact .val r (lenM_sound r ht hd hx h1)
      · cases hl
    · cases hl
  · rename_i t t2 x y
    cases hv with
    | cons _ x' _ _ hx hn=>
    cases hn with
    | cons _ y' _ _ hy hn=>
    cases hn
    split at hl
    · rename_i ti t2i hti ht2i
      obtain ⟨ht,_⟩:=ok.ty _ _ hti
      obtain ⟨ht2,_⟩:=ok.ty _ _ ht2i
      split at hl
      · rename_i e e2 hd hd2
        split at hl
        · rename_i ei hei
          obtain ⟨he,_,_,hzl,_⟩:=ok.ty _ _ hei
          exact .made (hApp_sound r ht hd he ht2 (by rw [hd2];simp) hzl hx hy hl) (hApp_df hl)
        · cases hl
      · rename_i e hd hd2
        split at hl
        · rename_i ei hei
          obtain ⟨he,_,_,hzl,_⟩:=ok.ty _ _ hei
          exact .made (hApp_sound r ht hd he ht2 (by rw [hd2];simp) hzl hx hy hl) (hApp_df hl)
        · cases hl
      · cases hl
    · cases hl
  · rename_i t t2 x y
    cases hv with
    | cons _ x' _ _ hx hn=>
    cases hn with
    | cons _ y' _ _ hy hn=>
    cases hn
    split at hl
    · rename_i ti hti
      obtain ⟨ht,_⟩:=ok.ty _ _ hti
      split at hl
      · rename_i e hd
        split at hl
        · rename_i ei hei
          obtain ⟨he,_⟩:=ok.ty _ _ hei
          exact .made (hCopy_sound r ht hd he hx hy hl) (hCopy_df hl)
        · cases hl
      · cases hl
    · cases hl
  · rename_i t x
    cases hv with
    | cons _ x' _ _ hx hn=>
    cases hn
    split at hl
    · rename_i ti hti
      obtain ⟨ht,_⟩:=ok.ty _ _ hti
      split at hl
      · rename_i e hd
        split at hl
        · rename_i ei hei
          obtain ⟨he,hz,_⟩:=ok.ty _ _ hei
          exact .made (hClr_sound r ht hd he hz hx hl) (hClr_df hl)
        · cases hl
      · cases hl
    · cases hl
  · rename_i x y
    cases hv with
    | cons _ x' _ _ hx hn=>
    cases hn with
    | cons _ y' _ _ hy hn=>
    cases hn
    obtain ⟨h1,rfl⟩:=run_va hl
    obtain ⟨v',g1,g2⟩:=mnI_sound (P:=P) (w:=w) hx hy h1
    exact .val r ⟨v',by simp [Builtin.min_,g1],g2⟩
  · rename_i x y
    cases hv with
    | cons _ x' _ _ hx hn=>
    cases hn with
    | cons _ y' _ _ hy hn=>
    cases hn
    obtain ⟨h1,rfl⟩:=run_va hl
    obtain ⟨v',g1,g2⟩:=mxI_sound (P:=P) (w:=w) hx hy h1
    exact .val r ⟨v',by simp [Builtin.max_,g1],g2⟩
  · rename_i x
    cases hv with
    | cons _ x' _ _ hx hn=>
    cases hn
    obtain ⟨h1,rfl⟩:=run_va hl
    obtain ⟨v',g1,g2⟩:=dSl_sound (P:=P) (w:=w) (ts:=⟨ts⟩) (ty:=ty) hx h1
    exact .val r ⟨v',g1,g2⟩
  · rename_i t t2 x y
    cases hv with
    | cons _ x' _ _ hx hn=>
    cases hn with
    | cons _ y' _ _ hy hn=>
    cases hn
    split at hl
    · rename_i ti hti
      obtain ⟨ht,_⟩:=ok.ty _ _ hti
      split at hl
      · rename_i e hd
        split at hl
        · rename_i ei hei
          obtain ⟨he,_⟩:=ok.ty _ _ hei
          cases hs:Nat.beq ei.size 1 with
          | false=>rw [hs] at hl;cases hl
          | true=>
            rw [hs,cond_true] at hl
            exact .made (hUst_sound r ht hd he (Nat.eq_of_beq_eq_true hs) hx hy hl) (hUst_df hl)
        · cases hl
      · cases hl
    · cases hl
  · cases hl
theorem s2a_sound {t e:TypeId} {ti:TI} {n:Nat} (ht:TIok P t ti) (hd:ti.desc=.array n e) {x x':Value} (hx:VR φ x x') (hl:s2a n x=some v):∃ v',(Instr.arrayAt t x').run P w=.ok v' w∧VR φ v v':=by
  unfold s2a at hl
  split at hl
  · rename_i b o m c
    cases hb:Nat.beq n 0 with
    | true=>rw [hb] at hl;cases hl
    | false=>
      rw [hb,cond_false] at hl
      have hne:¬ n=0:=by rintro e;rw [e] at hb;cases hb
      cases hm:Nat.ble n m with
      | false=>rw [hm] at hl;cases hl
      | true=>
        rw [hm] at hl;cases hl
        have hle:=Nat.le_of_ble_eq_true hm
        cases hx with
        | slice _ _ b' s T _ _ c' hφ=>
          refine ⟨.pointer (some ⟨b',o+s,none⟩),?_,.ptr b o b' s T hφ⟩
          have:¬ m < n:=by omega
          simp [Instr.arrayAt,run_ty w ht,hd,this]
        | empty=>omega
  · cases hl
theorem cUns_sound (r:Rel φ h w) {s d e:TypeId} {si di ei:TI} (hs:TIok P s si) (hd:TIok P d di) (he:TIok P e ei) (h1:si.desc=.pointer e) (h2:di.desc=.unsafePointer) {x x':Value} (hx:VR φ x x') (hl:cUns ei.size x h=some v) :
    ∃ v',(convert s d x').run P w=.ok v' w∧VR φ v v':=by
  unfold cUns at hl
  split at hl
  · rename_i b o
    cases hb:Nat.beq ei.size 0 with
    | true=>rw [hb] at hl;cases hl
    | false=>
      rw [hb,cond_false] at hl
      have hne:¬ ei.size=0:=by rintro e;rw [e] at hb;cases hb
      cases hc:h.cell b o with
      | none=>rw [hc] at hl;cases hl
      | some u=>
        rw [hc] at hl;cases hl
        cases hx with
        | ptr _ _ b' s' T hφ=>
          obtain ⟨c',e',f',hw,hlt⟩:=r.cell_shape hφ hc
          have hsh:w.shape? b'=some (e',c'.size):=by simp [World.shape?,hw]
          refine ⟨.pointer (some ⟨b',o+s',none⟩),?_,.ptr b o b' s' T hφ⟩
          have h3:(Conv.unsafePointer s d (.pointer (some ⟨b',o+s',none⟩))).run P w=.ok (.pointer (some ⟨b',o+s',none⟩)) w:=by
            have hno:¬ (c'.size≤o+s'):=by omega
            simp [Conv.unsafePointer,run_ty w hs,run_ty w hd,h1,h2,Conv.seenAt,viewAt,cellsIn,shape,Sem.run,hsh,run_size w he,hne,hno]
          simp only [convert,Sem.run_bind,run_ty w hs,run_ty w hd,h1,h2,Result.andThen_ok]
          exact h3
  · cases hl
theorem pEq_sound (ok:EnvOK P E) {t:TypeId} {ti:TI} (ht:TIok P t ti) {op:BinOp} {ox oy:Operand} {x x' y y':Value} (hx:VR φ x x') (hy:VR φ y y') (hl:pEq E ti.desc op x y=some v) :
    ∃ v',(do eqGuard op t ox oy x' y';binOp op t x' y':Sem Value).run P w=.ok v' w∧VR φ v v':=by
  unfold pEq at hl
  split at hl
  · rename_i e hd
    split at hl
    · rename_i ei hei
      obtain ⟨he,_⟩:=ok.ty _ _ hei
      split at hl
      · rename_i b₁ o₁ b₂ o₂
        cases hb:(Nat.beq b₁ b₂ && !Nat.beq ei.size 0) with
        | false=>rw [hb] at hl;cases hl
        | true=>
          rw [hb,cond_true] at hl
          simp only [Bool.and_eq_true,Bool.not_eq_true'] at hb
          have e1:=Nat.eq_of_beq_eq_true hb.1
          subst e1
          have hne:¬ ei.size=0:=by intro h;rw [h] at hb;cases hb.2
          cases hx with
          | ptr _ _ b' s T h1=>
            cases hy with
            | ptr _ _ b'' s'' T'' h2=>
              rw [h1] at h2
              cases h2
              have ea:((⟨b',o₁+s,none⟩:Addr) == ⟨b',o₂+s,none⟩)=Nat.beq o₁ o₂:=by
                cases hq:Nat.beq o₁ o₂ with
                | true=>rw [Nat.eq_of_beq_eq_true hq];exact beq_self_eq_true _
                | false=>
                  have hn:o₁≠o₂:=by rintro rfl;rw [Nat.beq_refl] at hq;cases hq
                  rw [beq_eq_false_iff_ne]
                  intro he
                  injection he with _ he2
                  omega
              have heq:(Op.equal t (.pointer (some ⟨b',o₁+s,none⟩)) (.pointer (some ⟨b',o₂+s,none⟩))).run P w=.ok (Nat.beq o₁ o₂) w:=by
                have hq:∀ x y,Op.equal t x y=Op.equalIn (9999+1) t x y:=fun _ _=>rfl
                generalize 9999=n at hq
                simp [hq,Op.equalIn,run_ty w ht,hd,samePointer,sameAddr,run_size w he,hne,ea]
              split at hl
              · cases hl
                refine ⟨.bool (Nat.beq o₁ o₂),?_,.bool _⟩
                rw [Sem.run_bind,guard_nil .eql ox oy (by simp) (.inl (by simp))]
                have h3:binOp .eql t (.pointer (some ⟨b',o₁+s,none⟩)) (.pointer (some ⟨b',o₂+s,none⟩))=(do pure (.bool (← Op.equal t (.pointer (some ⟨b',o₁+s,none⟩)) (.pointer (some ⟨b',o₂+s,none⟩))))):=rfl
                simp [h3,heq]
              · cases hl
                refine ⟨.bool (!Nat.beq o₁ o₂),?_,.bool _⟩
                rw [Sem.run_bind,guard_nil .neq ox oy (by simp) (.inl (by simp))]
                have h3:binOp .neq t (.pointer (some ⟨b',o₁+s,none⟩)) (.pointer (some ⟨b',o₂+s,none⟩))=(do pure (.bool (!(← Op.equal t (.pointer (some ⟨b',o₁+s,none⟩)) (.pointer (some ⟨b',o₂+s,none⟩)))))):=rfl
                simp [h3,heq]
              · cases hl
      · cases hl
    · cases hl
  · cases hl
theorem cPtr_sound (r:Rel φ h w) {s d e:TypeId} {si di ei:TI} (hs:TIok P s si) (hd:TIok P d di) (he:TIok P e ei) (h1:si.desc=.unsafePointer) (h2:di.desc=.pointer e) {x x':Value} (hx:VR φ x x') (hl:cPtr ei.size e x h=some v) :
    ∃ v',(convert s d x').run P w=.ok v' w∧VR φ v v':=by
  unfold cPtr at hl
  split at hl
  · cases hl
    cases hx
    refine ⟨.pointer none,?_,.ptrNil⟩
    simp only [convert,Sem.run_bind,run_ty w hs,run_ty w hd,h1,h2,Result.andThen_ok]
    simp [Conv.unsafePointer,run_ty w hs,run_ty w hd,h1,h2]
  · rename_i b o
    split at hl
    · rename_i c n t hg
      cases hb:(Nat.beq o 0 && Nat.beq t (2 * e+2) && Nat.blt 0 ei.size) with
      | false=>rw [hb] at hl;cases hl
      | true=>
        rw [hb,cond_true] at hl
        simp only [Bool.and_eq_true] at hb
        obtain ⟨⟨b1,b2⟩,b3⟩:=hb
        have e1:=Nat.eq_of_beq_eq_true b1
        have e2:=Nat.eq_of_beq_eq_true b2
        have e3:0 < ei.size:=Nat.le_of_ble_eq_true b3
        subst e1
        split at hl
        · rename_i u hu
          cases hl
          cases hx with
          | ptr _ _ b' s' T hφ=>
            obtain ⟨c',e',lo,hi,hw,_,_,hc⟩:=r.slot hφ hg
            obtain ⟨_,_,v',h5,_⟩:=hc _ _ hu
            have h6:=(Array.getElem?_eq_some_iff.1 h5).1
            have hty:s'=0∧e'=e:=by
              rcases r.typedAt hφ hg with h0 | ⟨c₂,e₂,fr,q1,q2⟩
              · exact absurd (h0.symm.trans e2) (by omega)
              · rw [hw] at q1;cases q1
                rcases q2 with q2 | ⟨q2,q3⟩
                · exact absurd (q2.symm.trans e2) (by omega)
                · exact ⟨q3,Nat.eq_of_mul_eq_mul_left (by decide) (Nat.add_right_cancel (q2.symm.trans e2))⟩
            obtain ⟨rfl,rfl⟩:=hty
            have hsh:w.shape? b'=some (e',c'.size):=by simp [World.shape?,hw]
            refine ⟨.pointer (some ⟨b',0+0,none⟩),?_,.ptr b 0 b' 0 T hφ⟩
            have hcell:P.cellsOf e'=ei.size:=by
              obtain ⟨_,i,z,hi',hsz,_⟩:=he
              simp [Program.cellsOf,hi',hsz]
            have hne:¬ ei.size=0:=by omega
            have hcnt:1≤c'.size / ei.size:=(Nat.le_div_iff_mul_le e3).2 (by omega)
            have hlies:liesAt P P.depth e' (c'.size / P.cellsOf e') 0 e' 1=true:=by
              have hd:∃ k,P.depth=k+1:=⟨2 * (P.types.size+Made.depth)+1,rfl⟩
              obtain ⟨k,hk⟩:=hd
              have hsame:∀ j,sameLayout P (j+1) e' e'=true:=fun j=>by simp [sameLayout]
              have hrow:∀ j,rowAt P (sameLayout P (k+1) · e') (j+1) e' (c'.size / P.cellsOf e') 0 1=true:=fun j=>by
                unfold rowAt
                rw [hcell]
                simp [hne,hsame,hcnt]
              rw [hk]
              unfold liesAt
              rw [hk,hrow];rfl
            have h3:(Conv.unsafePointer s d (.pointer (some ⟨b',0+0,none⟩))).run P w=.ok (.pointer (some ⟨b',0+0,none⟩)) w:=by
              simp [Conv.unsafePointer,run_ty w hs,run_ty w hd,h1,h2,Conv.seenAt,viewAt,shape,Sem.run,hsh,run_size w he,hne,variablesAt,hlies]
            simp only [convert,Sem.run_bind,run_ty w hs,run_ty w hd,h1,h2,Result.andThen_ok]
            exact h3
        · cases hl
    · cases hl
  · cases hl
theorem aConv_exec (ok:EnvOK P E) {s d:TypeId} {x x':Value} (hx:VR φ x x') (r:Rel φ h w) (hl:(aConv E s d x h).run h=some (v,h')):Gives P φ h w (do pure (.value (← convert s d x'))) v h':=by
  unfold aConv at hl
  split at hl
  · rename_i si di hsi hdi
    obtain ⟨hs,_⟩:=ok.ty _ _ hsi
    obtain ⟨ht,_⟩:=ok.ty _ _ hdi
    split at hl
    · rename_i j k h1 h2
      obtain ⟨h3,rfl⟩:=run_va hl
      exact .val r (cInt_sound hs ht h1 h2 hx h3)
    · rename_i j h1 h2
      obtain ⟨h3,rfl⟩:=run_va hl
      exact .val r (cRune_sound hs ht h1 h2 hx h3)
    · rename_i h1 h2
      obtain ⟨h3,rfl⟩:=run_va hl
      exact .val r (cStr_sound hs ht h1 h2 hx h3)
    · rename_i e h1 h2
      split at hl
      · rename_i ei hei
        obtain ⟨he,_⟩:=ok.ty _ _ hei
        split at hl
        · rename_i h4
          obtain ⟨h3,rfl⟩:=run_va hl
          exact .val r (cBytes_sound r hs ht he h1 h2 h4 hx h3)
        · cases hl
      · cases hl
    · rename_i e0 e h1 h2
      cases hb:Nat.beq s d with
      | false=>rw [hb] at hl;cases hl
      | true=>
        rw [hb,cond_true] at hl
        obtain rfl:=Nat.eq_of_beq_eq_true hb
        split at hl
        · rename_i ei hei
          obtain ⟨he,_⟩:=ok.ty _ _ hei
          split at hl
          · rename_i h4
            exact .made (hFrz_sound r ht he h2 h4 hx hl) (hFrz_df hl)
          · cases hl
        · cases hl
    · rename_i e h1 h2
      split at hl
      · rename_i ei hei
        obtain ⟨he,_⟩:=ok.ty _ _ hei
        obtain ⟨h3,rfl⟩:=run_va hl
        exact .val r (cUns_sound r hs ht he h1 h2 hx h3)
      · cases hl
    · rename_i e h1 h2
      split at hl
      · rename_i ei hei
        obtain ⟨he,_⟩:=ok.ty _ _ hei
        obtain ⟨h3,rfl⟩:=run_va hl
        exact .val r (cPtr_sound r hs ht he h1 h2 hx h3)
      · cases hl
    · cases hl
  · cases hl
end
end
end Go.Den
namespace Go.Den
noncomputable section
section
variable {P:Program} {E:Env} {φ:Phi} {w:World} {h h':AH} {v:Value}
theorem aK1_self {v:Value} (h:aK1 v=true):VR φ v v:=by
  unfold aK1 at h
  split at h <;> first | exact .bool _ | exact .int _ _ | exact .string _ | cases h
theorem aKl_self:∀ {l:List Value},l.all aK1=true→VRs φ l l
  | [],_=>.nil
  | v::l,h=>by
    simp only [List.all_cons,Bool.and_eq_true] at h
    exact .cons _ _ _ _ (aK1_self h.1) (aKl_self h.2)
theorem atomA_self {v:Value} (h:atomA v=true):VR φ v v:=by
  unfold atomA at h
  split at h
  · exact .agg _ _ (aKl_self h)
  · exact aK1_self h
theorem asZero_VR (ok:EnvOK P E) {t:TypeId} {ti:TI} (hl:E.ty t=some ti):∃ z,(zeroValue t).run P w=.ok z w∧VR φ (asZero ti) z:=by
  obtain ⟨ht,hz,_⟩:=ok.ty _ _ hl
  cases hag:ti.agg with
  | true=>
    refine ⟨_,ok.zagg _ _ hl hag w,?_⟩
    unfold asZero
    rw [hag];exact .agg _ _ (hz φ)
  | false=>
    obtain ⟨z,z1,z2,z3⟩:=run_zero w ht
    refine ⟨z,z1,?_⟩
    unfold asZero
    rw [hag,cond_false]
    have hc:=z3 hag
    rw [hc] at z2
    have hv:=hz φ
    rw [← z2] at hv ⊢
    cases hv with
    | cons _ _ _ _ h _=>exact h
theorem tAssert_sound (ok:EnvOK P E) {t xt:TypeId} {c:Bool} {x x':Value} (hx:VR φ x x') (hl:tAssert E t c x=some v):∃ v',(Instr.typeAssert x' xt t c).run P w=.ok v' w∧VR φ v v':=by
  unfold tAssert at hl
  cases ht:E.ty t with
  | none=>rw [ht] at hl;cases hl
  | some ti=>
    rw [ht] at hl
    simp only at hl
    obtain ⟨ht',_⟩:=ok.ty _ _ ht
    split at hl
    · cases hl
    · rename_i hn
      have hd:∀ ms,ti.desc≠.interface ms:=fun ms=>hn ms
      obtain ⟨z,z1,z2⟩:=asZero_VR (w:=w) (φ:=φ) ok ht
      split at hl
      · rename_i t' u
        cases hb:Nat.beq t' t with
        | false=>
          rw [hb,cond_false] at hl
          cases c with
          | false=>cases hl
          | true=>
            cases hl
            cases hx with
            | iface _ _ u' hu=>
              refine ⟨.tuple #[z,.bool false],?_,.tuple _ _ (.cons _ _ _ _ z2 (.cons _ _ _ _ (.bool _) .nil))⟩
              have hne:¬ t'=t:=by rintro rfl;rw [Nat.beq_refl] at hb;cases hb
              unfold Instr.typeAssert
              simp only [Sem.run_bind,run_ty w ht',Result.andThen_ok]
              generalize ti.desc=d at hd
              cases d <;> first | (exact absurd rfl (hd _)) | simp [hne,z1]
        | true=>
          have e:=Nat.eq_of_beq_eq_true hb
          subst e
          rw [hb,cond_true] at hl
          cases hx with
          | iface _ _ u' hu=>
            have hr:(Instr.typeAssert (.iface t' u') xt t' c).run P w=.ok (if c then .tuple #[u',.bool true] else u') w:=by
              unfold Instr.typeAssert
              simp only [Sem.run_bind,run_ty w ht',Result.andThen_ok]
              generalize ti.desc=d at hd
              cases d <;> first | (exact absurd rfl (hd _)) | simp
            refine ⟨_,hr,?_⟩
            cases c with
            | true=>cases hl;exact .tuple _ _ (.cons _ _ _ _ hu (.cons _ _ _ _ (.bool _) .nil))
            | false=>cases hl;exact hu
      · cases c with
        | false=>cases hl
        | true=>
          cases hl
          cases hx
          refine ⟨.tuple #[z,.bool false],?_,.tuple _ _ (.cons _ _ _ _ z2 (.cons _ _ _ _ (.bool _) .nil))⟩
          unfold Instr.typeAssert
          simp only [Sem.run_bind,run_ty w ht',Result.andThen_ok]
          generalize ti.desc=d at hd
          cases d <;> first | (exact absurd rfl (hd _)) | simp [z1]
      · cases hl
theorem esKeys_keys {t:TypeId} {f:Value→Bool} (hf:∀ v,f v=true→∃ l,keyOf P t v=some l):∀ {es:List (Value × Value)} {es':List MapEntry},esKeys f es=true→EsR φ es es'→∀ e ∈ es',∃ l,keyOf P t e.key=some l
  | [],[],_,_=>by intro e h;cases h
  | [],_::_,_,h=>h.elim
  | _::_,[],_,h=>h.elim
  | (k,u)::es,x::es',h,hr=>by
    simp only [esKeys,Bool.and_eq_true] at h
    obtain ⟨⟨⟨h1,h2⟩,_⟩,h4⟩:=h
    intro e he
    rcases List.mem_cons.1 he with rfl | he
    · rw [atomA_VR h2 hr.1];exact hf _ h1
    · exact esKeys_keys hf h4 hr.2.2 e he
theorem esFind_spec {f:Value→Bool} {k:Value} (hk:atomA k=true):∀ {es:List (Value × Value)} {es':List MapEntry},esKeys f es=true→EsR φ es es' →
    (esFind k es=none→∀ e ∈ es',e.key≠k)∧(∀ u,esFind k es=some u→(∃ e ∈ es',e.key=k)∧∀ (j:Nat) (e:MapEntry),es'[j]?=some e→e.key=k→VR φ u e.val)
  | [],[],_,_=>⟨fun _ e h=>(by cases h),fun u h=>(by cases h)⟩
  | [],_::_,_,h=>h.elim
  | _::_,[],_,h=>h.elim
  | (k',u')::es,x::es',h,hr=>by
    simp only [esKeys,Bool.and_eq_true] at h
    obtain ⟨⟨⟨h1,h2⟩,h3⟩,h4⟩:=h
    obtain ⟨i1,i2⟩:=esFind_spec (f:=f) hk h4 hr.2.2
    have ek:x.key=k':=atomA_VR h2 hr.1
    simp only [esFind]
    cases hb:vEqA k k' with
    | true=>
      have e:=vEqA_eq hb
      subst e
      refine ⟨fun h=>by simp at h,fun u hu=>⟨⟨x,List.mem_cons_self ..,ek⟩,fun j e hj he=>?_⟩⟩
      simp at hu
      subst hu
      cases j with
      | zero=>simp at hj;subst hj;exact hr.2.1
      | succ j=>
        simp at hj
        have hm:e ∈ es':=List.mem_of_getElem? hj
        cases hfn:esFind k es with
        | none=>exact absurd he (i1 hfn e hm)
        | some z=>rw [hfn] at h3;cases h3
    | false=>
      have hne:=vEqA_ne hk hb
      rw [cond_false]
      refine ⟨fun hn e he=>?_,fun u hu=>?_⟩
      · rcases List.mem_cons.1 he with rfl | he
        · rw [ek];exact fun h=>hne h.symm
        · exact i1 hn e he
      · obtain ⟨⟨e₀,m1,m2⟩,m3⟩:=i2 u hu
        refine ⟨⟨e₀,List.mem_cons_of_mem _ m1,m2⟩,fun j e hj he=>?_⟩
        cases j with
        | zero=>simp at hj;subst hj;rw [ek] at he;exact absurd he.symm hne
        | succ j=>simp at hj;exact m3 j e hj he
theorem Rel.mapAt (r:Rel φ h w) {b b' T:Nat} {es:List (Value × Value)} {bs:List Nat} {cl:Nat} (hb:φ b=some (b',0,T)) (hg:h.get b=some (.map es bs cl)):∃ es',w.heap[b']?=some (.map es' cl)∧EsR φ es es'.toList∧es'.toList.map (·.born)=bs:=by
  have ho:=r.blk _ _ _ _ hb
  rw [hg] at ho
  cases hw:w.heap[b']? with
  | none=>rw [hw] at ho;exact ho.elim
  | some o=>
    rw [hw] at ho
    cases o with
    | map es' clock=>obtain ⟨_,h1,h2,rfl⟩:=ho;exact ⟨es',rfl,h1,h2⟩
    | _=>exact ho.elim
theorem mLook_sound (ok:EnvOK P E) (r:Rel φ h w) {t:TypeId} {c:Bool} {x x' k k':Value} (hx:VR φ x x') (hk:VR φ k k') (hl:mLook E t c x k h=some v):∃ v',(Instr.lookup t x' k' c).run P w=.ok v' w∧VR φ v v':=by
  unfold mLook at hl
  split at hl
  · rename_i ti ht
    split at hl
    · rename_i kt et hd
      split at hl
      · rename_i f ei hf he
        cases hb:(f k && atomA k) with
        | false=>rw [hb] at hl;cases hl
        | true=>
          rw [hb,cond_true] at hl
          simp only [Bool.and_eq_true] at hb
          split at hl
          · rename_i b
            split at hl
            · rename_i es bs cl hg
              cases hes:esKeys f es with
              | false=>rw [hes] at hl;cases hl
              | true=>
                rw [hes,cond_true] at hl
                obtain ⟨ht',_⟩:=ok.ty _ _ ht
                obtain ⟨he',hz,_⟩:=ok.ty _ _ he
                obtain ⟨K,_,hkv⟩:=ok.key _ _ hf
                have ek:=(atomA_VR hb.2 hk).symm
                subst ek
                cases hx with
                | map _ b' T hφ=>
                  obtain ⟨es',hw,hr,hbs⟩:=r.mapAt hφ hg
                  obtain ⟨lk,hlk⟩:=hkv _ hb.1
                  have hall:=esKeys_keys hkv hes hr
                  obtain ⟨s1,s2⟩:=esFind_spec hb.2 hes hr
                  have hget:(getObj b').run P w=.ok (.map es' cl) w:=by simp [getObj,Sem.run,hw]
                  have hchk:=K.check w es'.isEmpty hlk
                  obtain ⟨z,z1,z2⟩:=asZero_VR (w:=w) (φ:=φ) ok he
                  unfold Instr.lookup
                  simp only [Sem.run_bind,run_ty w ht',hd,Result.andThen_ok,hget,Sem.run_pure,hchk]
                  rcases K.find w hlk es'.toList hall with ⟨f1,f2⟩ | ⟨j,e,f1,f2,f3⟩
                  · have hn:esFind k es=none:=by
                      cases hq:esFind k es with
                      | none=>rfl
                      | some u=>obtain ⟨⟨e,m1,m2⟩,_⟩:=s2 u hq;exact absurd m2 (f2 e m1)
                    rw [hn] at hl
                    simp only at hl
                    simp only [f1,Result.andThen_ok]
                    cases c with
                    | true=>cases hl;exact ⟨_,(by simp [z1]),.tuple _ _ (.cons _ _ _ _ z2 (.cons _ _ _ _ (.bool _) .nil))⟩
                    | false=>cases hl;exact ⟨_,(by simp [z1]),z2⟩
                  · cases hq:esFind k es with
                    | none=>exact absurd f3 (s1 hq e (List.mem_of_getElem? f2))
                    | some u=>
                      rw [hq] at hl
                      simp only at hl
                      have hu:=(s2 u hq).2 j e f2 f3
                      simp only [f1,Result.andThen_ok]
                      cases c with
                      | true=>cases hl;exact ⟨_,(by simp),.tuple _ _ (.cons _ _ _ _ hu (.cons _ _ _ _ (.bool _) .nil))⟩
                      | false=>cases hl;exact ⟨_,(by simp),hu⟩
            · cases hl
          · cases hl
      · cases hl
    · cases hl
  · cases hl
theorem hRange_df {x:Value} (hl:hRange x h=some (v,h')):h'.df=h.df:=by
  unfold hRange at hl
  split at hl
  · split at hl
    · cases hl;rfl
    · cases hl
  · cases hl
theorem hRange_sound (r:Rel φ h w) {t kt et:TypeId} {ti:TI} (ht:TIok P t ti) (hd:ti.desc=.map kt et) {x x':Value} (hx:VR φ x x') (hl:hRange x h=some (v,h')):Makes P φ h w (Instr.range t x') v h':=by
  unfold hRange at hl
  split at hl
  · rename_i m
    split at hl
    · rename_i es bs cl hg
      cases hl
      cases hx with
      | map _ m' T hφ=>
        obtain ⟨es',hw,hr,hbs⟩:=r.mapAt hφ hg
        have hle:=Phi.le_set (x:=(w.heap.size,0,0)) r.none_next
        obtain ⟨r1,f1⟩:=r.new (.iter m cl [] none cl) (.mapIter (some m') cl #[] cl) 0 ⟨rfl,⟨T,hle _ _ hφ⟩,rfl,(fun x=>by simp),(fun c hc=>by cases hc),rfl⟩
        refine ⟨_,.pointer (some ⟨w.heap.size,0,none⟩),_,?_,.ptr h.next 0 w.heap.size 0 0 (Phi.set_self _ _ _),r1,f1⟩
        have hget:(getObj m').run P w=.ok (.map es' cl) w:=by simp [getObj,Sem.run,hw]
        unfold Instr.range
        simp only [Sem.run_bind,run_ty w ht,hd,Result.andThen_ok,hget]
        simp [newObj,Sem.run]
    · cases hl
  · cases hl
theorem EsR.at {es:List (Value × Value)} {es':List MapEntry}:∀ (_:EsR φ es es') (i:Nat) (k u:Value),es[i]?=some (k,u)→∃ e,es'[i]?=some e∧VR φ k e.key∧VR φ u e.val:=by
  induction es generalizing es' with
  | nil=>intro _ i k u h;simp at h
  | cons p es ih=>
    intro hr i k u h
    cases es' with
    | nil=>exact hr.elim
    | cons x es'=>
      cases i with
      | zero=>simp at h;subst h;exact ⟨x,rfl,hr.1,hr.2.1⟩
      | succ i=>exact ih hr.2.2 i k u (by simpa using h)
theorem find_of_idx {l:List MapEntry} {c i:Nat} (h:(l.map (·.born)).findIdx? (fun x=>Nat.beq x c)=some i):l.find? (·.born == c)=l[i]?:=by
  induction l generalizing i with
  | nil=>simp at h
  | cons x l ih=>
    simp only [List.map_cons,List.findIdx?_cons] at h
    rw [List.find?_cons]
    have e:(x.born == c)=Nat.beq x.born c:=by
      rw [Bool.eq_iff_iff];simp
    rw [e]
    cases hb:Nat.beq x.born c with
    | true=>rw [hb] at h;simp at h;subst h;rfl
    | false=>
      rw [hb] at h
      simp only [Bool.false_eq_true,if_false,Option.map_eq_some_iff] at h
      obtain ⟨j,h1,rfl⟩:=h
      rw [ih h1];rfl
theorem entV_sound (r:Rel φ h w) {x x':Value} (hx:VR φ x x') (hl:entV x h=some v):∃ v',(Instr.entry x').run P w=.ok v' w∧VR φ v v':=by
  unfold entV at hl
  split at hl
  · rename_i b
    split at hl
    · rename_i m since seen c cl hg
      split at hl
      · rename_i es bs cl' hm
        cases hb:Nat.beq cl cl' with
        | false=>rw [hb] at hl;cases hl
        | true=>
          rw [hb,cond_true] at hl
          have ecl:=Nat.eq_of_beq_eq_true hb
          subst ecl
          split at hl
          · rename_i i hi
            split at hl
            · rename_i k u hu
              cases hl
              cases hx with
              | ptr _ _ b' s T hφ=>
                have ho:=r.blk _ _ _ _ hφ
                rw [hg] at ho
                cases hw:w.heap[b']? with
                | none=>rw [hw] at ho;exact ho.elim
                | some co=>
                  rw [hw] at ho
                  cases co with
                  | mapIter mm since' seen' cl'=>
                    cases mm with
                    | none=>exact ho.elim
                    | some m'=>
                      obtain ⟨rfl,⟨T',hm'⟩,rfl,_,hcur,rfl⟩:=ho
                      obtain ⟨es',hwm,hr,hbs⟩:=r.mapAt hm' hm
                      obtain ⟨e,he1,he2,he3⟩:=hr.at i k u hu
                      refine ⟨.tuple #[e.key,e.val],?_,.tuple _ _ (.cons _ _ _ _ he2 (.cons _ _ _ _ he3 .nil))⟩
                      have hback:=hcur c rfl
                      have hfind:es'.find? (·.born == c)=some e:=by
                        rw [← hbs] at hi
                        have:=find_of_idx hi
                        rw [he1] at this
                        rw [← this,Array.find?_toList]
                      have hget1:(getObj b').run P w=.ok (.mapIter (some m') since' seen' cl') w:=by simp [getObj,Sem.run,hw]
                      have hget2:(getObj m').run P w=.ok (.map es' cl') w:=by simp [getObj,Sem.run,hwm]
                      unfold Instr.entry
                      simp only [Nat.add_zero,Sem.run_bind,hget1,Result.andThen_ok,hback,hget2]
                      simp [hfind]
                  | _=>exact ho.elim
            · cases hl
          · cases hl
      · cases hl
    · cases hl
  · cases hl
end
end
end Go.Den
namespace Go.Den
noncomputable section
section
variable {P:Program} {φ:Phi} {w:World} {h h':AH} {v:Value} {E:Env}
set_option maxHeartbeats 4000000 in
theorem gV_VR {ρ:Operand→Value} {a:Act} (r:Rel φ h w) (hρ:∀ x,VR φ (ρ x) (a.eval x)) (x:Operand):VR φ (gV ρ h x) (a.eval x):=by
  unfold gV
  split
  · rename_i g
    split
    · rename_i g' c hg
      cases hb:Nat.beq g g' with
      | false=>exact hρ _
      | true=>
        have e:=Nat.eq_of_beq_eq_true hb
        subst e
        obtain ⟨T,hT⟩:=r.gl _ _ _ hg
        exact .ptr 0 0 g 0 T hT
    · exact hρ _
  · exact hρ _
theorem aop_exec_of (ok:EnvOK P E) {ρ:Operand→Value} {a:Act} (hρ:∀ x,VR φ (ρ x) (a.eval x)) (r:Rel φ h w) {o:Oper} (hl:(aop E o.op ρ h).run h=some (v,h')) :
    Gives P φ h w (execOp a.eval o) v h':=by
  obtain ⟨dst,op,ty,pos,after,guard⟩:=o
  change (aop E op ρ h).run h=some (v,h') at hl
  unfold aop at hl
  split at hl
  · -- move
    cases hl
    exact ⟨φ,_,_,w,rfl,.inl rfl,hρ _,r,Fwd.refl _ _ _,rfl⟩
  · cases hl
    exact ⟨φ,_,_,w,rfl,.inl rfl,hρ _,r,Fwd.refl _ _ _,rfl⟩
  · rename_i c x y
    obtain ⟨h1,rfl⟩:=run_va hl
    have hc:=hρ c
    cases hb:ρ c with
    | bool b=>
      rw [hb] at h1 hc
      have hc:=hc.bool_inv
      simp [vBool] at h1
      subst h1
      cases b
      · exact ⟨φ,.value (a.eval y),a.eval y,w,by simp [execOp,hc,asBool],.inl rfl,hρ _,r,Fwd.refl _ _ _,rfl⟩
      · exact ⟨φ,.value (a.eval x),a.eval x,w,by simp [execOp,hc,asBool],.inl rfl,hρ _,r,Fwd.refl _ _ _,rfl⟩
    | _=>rw [hb] at h1;simp [vBool] at h1
  · rename_i t
    split at hl
    · rename_i ti hti
      obtain ⟨ht,hz,_⟩:=ok.ty _ _ hti
      exact .made (hAlloc_sound r ht hz hl) (hAlc_df hl)
    · cases hl
  · rename_i t x
    exact .made (hBox_sound r (hρ x) t hl) (hBox_df hl)
  · rename_i t ps
    split at hl
    · rename_i ti hti
      obtain ⟨ht,hz,_,_,hf⟩:=ok.ty _ _ hti
      split at hl
      · rename_i fs hd
        obtain ⟨h1,rfl⟩:=run_va hl
        cases hp:partsS E fs ρ ps.toList with
        | none=>simp [hp] at h1
        | some l=>
          simp only [hp,Option.bind_some] at h1
          have:=partsS_sound ok hρ hp
          exact .val r (bldS_sound (ps':=ps.map fun (i,x)=>(i,a.eval x)) ht hz hd hf (by simpa using this) h1)
      · rename_i n e hd
        split at hl
        · rename_i ei hei
          obtain ⟨he,_⟩:=ok.ty _ _ hei
          obtain ⟨h1,rfl⟩:=run_va hl
          have:=partsA_sound (size:=ei.size) hρ ps.toList
          exact .val r (bldA_sound (ps':=ps.map fun (i,x)=>(i,a.eval x)) ht hz hd he (by simpa using this) h1)
        · cases hl
      · cases hl
    · cases hl
  · rename_i t len ps
    split at hl
    · rename_i ti hti
      obtain ⟨ht,_⟩:=ok.ty _ _ hti
      split at hl
      · rename_i e hd
        split at hl
        · rename_i ei hei
          obtain ⟨he,hz,_,hzl,_⟩:=ok.ty _ _ hei
          cases hb:Nat.ble (unk 0) len with
          | true=>rw [hb] at hl;cases hl
          | false=>
            rw [hb,cond_false] at hl
            have hp:=partsA_sound (φ:=φ) (size:=ei.size) hρ ps.toList
            let q:Array (Nat × Value):=ps.map fun (i,x)=>(i,a.eval x)
            have hq:q.toList=ps.toList.map fun (p:Nat × Operand)=>(p.1,a.eval p.2):=by simp [q]
            have e2:Makes P φ h w (Instr.buildSlice t len q) v h':=hBldS_sound r ht hd he hz hzl (ble_false hb) (by rw [hq];exact hp) hl
            exact .made e2 (hBldS_df hl)
        · cases hl
      · cases hl
    · cases hl
  · rename_i t x
    split at hl
    · rename_i ti hti
      obtain ⟨ht,_⟩:=ok.ty _ _ hti
      cases ha:ti.agg with
      | true=>
        rw [ha] at hl
        obtain ⟨h1,rfl⟩:=run_va hl
        exact .val r (ldN_sound r ht ha (hρ x) h1)
      | false=>
        rw [ha] at hl
        obtain ⟨h1,rfl⟩:=run_va hl
        exact .val r (ld1_sound r ht ha (hρ x) h1)
    · cases hl
  · rename_i t x y
    split at hl
    · rename_i ti hti
      obtain ⟨ht,_,hs1,_⟩:=ok.ty _ _ hti
      cases ha:ti.agg with
      | true=>
        rw [ha] at hl
        obtain ⟨h1,rfl⟩:=run_st hl
        exact .turned (stN_sound r ht (hρ x) (hρ y) h1) (stN_df h1)
      | false=>
        rw [ha] at hl
        obtain ⟨h1,rfl⟩:=run_st hl
        exact .turned (st1_sound r ht (hs1 ha) (hρ x) (hρ y) h1) (st1_df h1)
    · cases hl
  · rename_i x
    obtain ⟨h1,rfl⟩:=run_va hl
    obtain ⟨v',g1,g2⟩:=pNil_sound (P:=P) (w:=w) (hρ x) h1
    exact ⟨φ,_,v',w,g1,.inl rfl,g2,r,Fwd.refl _ _ _,rfl⟩
  · rename_i op t x y yt
    split at hl
    · rename_i ti hti
      obtain ⟨ht,_⟩:=ok.ty _ _ hti
      obtain ⟨h1,rfl⟩:=run_va hl
      unfold kBin at h1
      split at h1
      · rename_i hb0
        cases h1
        unfold bBin at hb0
        split at hb0
        · rename_i hb
          cases hb0
          exact .val r (vBin_sound ht (hρ x) (hρ y) hb)
        · exact .val r (pEq_sound ok ht (hρ x) (hρ y) hb0)
      · split at h1
        · rename_i f hk
          cases hq:(f (ρ x) && f (ρ y) && atomA (ρ x) && atomA (ρ y)) with
          | false=>rw [hq] at h1;cases h1
          | true=>
            rw [hq,cond_true] at h1
            simp only [Bool.and_eq_true] at hq
            obtain ⟨⟨⟨q1,q2⟩,q3⟩,q4⟩:=hq
            obtain ⟨_,hE,hkv⟩:=ok.key _ _ hk
            obtain ⟨lx,hlx⟩:=hkv _ q1
            obtain ⟨ly,hly⟩:=hkv _ q2
            have ex:=atomA_VR q3 (hρ x)
            have ey:=atomA_VR q4 (hρ y)
            have vq:∀ r:Bool,(r=true ↔ ρ x=ρ y)→r=vEqA (ρ x) (ρ y):=by
              intro r hr
              cases hv:vEqA (ρ x) (ρ y) with
              | true=>exact hr.2 (vEqA_eq hv)
              | false=>
                cases r with
                | false=>rfl
                | true=>exact absurd (hr.1 rfl) (vEqA_ne q3 hv)
            split at h1
            · cases h1
              obtain ⟨rr,e1,e2⟩:=hE _ _ _ _ hlx hly .eql x y w (.inl rfl)
              refine .val r ⟨.bool (vEqA (ρ x) (ρ y)),?_,.bool _⟩
              rw [ex,ey,e1,vq rr e2];rfl
            · cases h1
              obtain ⟨rr,e1,e2⟩:=hE _ _ _ _ hlx hly .neq x y w (.inr rfl)
              refine .val r ⟨.bool (!vEqA (ρ x) (ρ y)),?_,.bool _⟩
              rw [ex,ey,e1,vq rr e2];rfl
            · cases h1
        · cases h1
    · cases hl
  · rename_i op t x
    obtain ⟨h1,rfl⟩:=run_va hl
    exact .val r (vUn_sound (hρ x) h1)
  · exact aConv_exec ok (hρ _) r hl
  · rename_i t x
    split at hl
    · rename_i ti hti
      obtain ⟨ht,_⟩:=ok.ty _ _ hti
      split at hl
      · cases hl
      · rename_i hne
        obtain ⟨h1,rfl⟩:=run_va hl
        exact .val r (ifc_sound ht (fun ms h=>hne ms h) (hρ x) h1)
    · cases hl
  · rename_i f first cap
    cases hl
    refine ⟨φ,_,.func (.func f) (first.map a.eval) (cap.map a.eval),w,rfl,.inl rfl,?_,r,Fwd.refl _ _ _,rfl⟩
    have e1:first.map a.eval=⟨first.toList.map a.eval⟩:=Array.ext' (by simp)
    have e2:cap.map a.eval=⟨cap.toList.map a.eval⟩:=Array.ext' (by simp)
    rw [e1,e2]
    exact .func _ (by simp) _ _ _ _ (VRs.map hρ _) (VRs.map hρ _)
  · exact .made (hMap_sound r hl) (hMap_df hl)
  · rename_i t l c
    split at hl
    · rename_i ti hti
      obtain ⟨ht,_⟩:=ok.ty _ _ hti
      split at hl
      · rename_i e hd
        split at hl
        · rename_i ei hei
          obtain ⟨he,hz,_,hzl,_⟩:=ok.ty _ _ hei
          exact .made (hMk_sound r ht hd he hz hzl (hρ l) (hρ c) hl) (hMk_df hl)
        · cases hl
      · cases hl
    · cases hl
  · rename_i t x lo hi mx
    split at hl
    · rename_i ti hti
      obtain ⟨ht,_⟩:=ok.ty _ _ hti
      split at hl
      · rename_i e hd
        split at hl
        · rename_i ei hei
          obtain ⟨he,_⟩:=ok.ty _ _ hei
          cases hb:(mx.isSome && !hi.isSome) with
          | true=>rw [hb] at hl;cases hl
          | false=>
            rw [hb] at hl
            obtain ⟨h1,rfl⟩:=run_va hl
            exact .val r (slS_sound ht hd he (hρ x) (OV.map hρ lo) (OV.map hρ hi) (OV.map hρ mx) (by cases mx <;> cases hi <;> simp_all) h1)
        · cases hl
      · rename_i n e hd
        split at hl
        · rename_i ei hei
          obtain ⟨he,_⟩:=ok.ty _ _ hei
          cases hb:(mx.isSome && !hi.isSome) with
          | true=>rw [hb] at hl;cases hl
          | false=>
            rw [hb] at hl
            obtain ⟨h1,rfl⟩:=run_va hl
            exact .val r (slA_sound ht hd he (hρ x) (OV.map hρ lo) (OV.map hρ hi) (OV.map hρ mx) (by cases mx <;> cases hi <;> simp_all) h1)
        · cases hl
      · rename_i hd
        split at hl
        · obtain ⟨h1,rfl⟩:=run_va hl
          exact .val r (slT_sound ht hd (hρ x) (OV.map hρ lo) (OV.map hρ hi) h1)
        · cases hl
      · cases hl
    · cases hl
  · rename_i t x i
    split at hl
    · rename_i ti hti
      obtain ⟨ht,_⟩:=ok.ty _ _ hti
      split at hl
      · rename_i fs hd
        split at hl
        · rename_i f hf
          split at hl
          · rename_i fi hfi
            obtain ⟨hft,_⟩:=ok.ty _ _ hfi
            cases hb:Nat.beq fi.size 0 with
            | true=>rw [hb] at hl;cases hl
            | false=>
              rw [hb] at hl
              obtain ⟨h1,rfl⟩:=run_va hl
              exact .val r (pFld_sound ht hd hf hft (by rintro h0;rw [h0] at hb;cases hb) (hρ x) h1)
          · cases hl
        · cases hl
      · cases hl
    · cases hl
  · rename_i t x i
    split at hl
    · rename_i ti hti
      obtain ⟨ht,_⟩:=ok.ty _ _ hti
      split at hl
      · rename_i fs hd
        split at hl
        · rename_i f hf
          split at hl
          · rename_i fi hfi
            obtain ⟨hft,_⟩:=ok.ty _ _ hfi
            obtain ⟨h1,rfl⟩:=run_va hl
            exact .val r (fld_sound ht hd hf hft (hρ x) h1)
          · cases hl
        · cases hl
      · cases hl
    · cases hl
  · rename_i t x i
    split at hl
    · rename_i ti hti
      obtain ⟨ht,_⟩:=ok.ty _ _ hti
      split at hl
      · rename_i e hd
        split at hl
        · rename_i ei hei
          obtain ⟨he,_⟩:=ok.ty _ _ hei
          obtain ⟨h1,rfl⟩:=run_va hl
          exact .val r (pIxS_sound ht hd he (hρ x) (hρ i) h1)
        · cases hl
      · rename_i n e hd
        split at hl
        · rename_i ei hei
          obtain ⟨he,_⟩:=ok.ty _ _ hei
          obtain ⟨h1,rfl⟩:=run_va hl
          exact .val r (pIxA_sound ht hd he (gV_VR r hρ x) (hρ i) h1)
        · cases hl
      · cases hl
    · cases hl
  · rename_i t x i
    split at hl
    · rename_i ti hti
      obtain ⟨ht,_⟩:=ok.ty _ _ hti
      split at hl
      · rename_i n e hd
        split at hl
        · rename_i ei hei
          obtain ⟨he,_⟩:=ok.ty _ _ hei
          obtain ⟨h1,rfl⟩:=run_va hl
          exact .val r (ixG_sound ht hd he (hρ x) (hρ i) h1)
        · cases hl
      · rename_i hd
        obtain ⟨h1,rfl⟩:=run_va hl
        exact .val r (ixT_sound ht hd (hρ x) (hρ i) h1)
      · cases hl
    · cases hl
  · rename_i x i
    obtain ⟨h1,rfl⟩:=run_va hl
    exact .val r (ext_sound (hρ x) h1)
  · rename_i x xt t c
    obtain ⟨h1,rfl⟩:=run_va hl
    exact .val r (tAssert_sound ok (hρ x) h1)
  · rename_i t x i c
    obtain ⟨h1,rfl⟩:=run_va hl
    exact .val r (mLook_sound ok r (hρ x) (hρ i) h1)
  · rename_i t x
    split at hl
    · rename_i ti hti
      obtain ⟨ht,_⟩:=ok.ty _ _ hti
      split at hl
      · rename_i kt et hd
        exact .made (hRange_sound r ht hd (hρ x) hl) (hRange_df hl)
      · cases hl
    · cases hl
  · rename_i x
    obtain ⟨h1,rfl⟩:=run_va hl
    exact .val r (entV_sound r (hρ x) h1)
  · rename_i t x
    split at hl
    · rename_i ti hti
      obtain ⟨ht,_⟩:=ok.ty _ _ hti
      split at hl
      · rename_i n e hd
        obtain ⟨h1,rfl⟩:=run_va hl
        exact .val r (s2a_sound ht hd (hρ x) h1)
      · cases hl
    · cases hl
  · rename_i b args argTypes
    have e1:args.map a.eval=⟨args.toList.map a.eval⟩:=Array.ext' (by simp)
    have:=aBuiltin_exec (P:=P) (ty:=ty) (cs:=args.map fun | .const _=>true | _=>false) ok (VRs.map hρ args.toList) r hl
    rw [← e1] at this
    obtain ⟨φ',n,v',w',g1,g2⟩:=this
    exact ⟨φ',n,v',w',by simp only [execOp,resolve,Sem.run_bind,Sem.run_pure,Result.andThen_ok,invoke];exact g1,g2⟩
  · cases hl
theorem aop_exec (ok:EnvOK P E) {tm:List Value} {a:Act} (hv:VRs φ tm a.tmps.toList) (r:Rel φ h w) {o:Oper} (hl:(aop E o.op (aev tm) h).run h=some (v,h')) :
    Gives P φ h w (execOp a.eval o) v h':=aop_exec_of ok (fun x=>aev_VR hv x) r hl
end
end
end Go.Den
namespace Go.Den
noncomputable section
theorem Rel.obj {φ:Phi} {h:AH} {w:World} (r:Rel φ h w) {l l' T:Nat} (hl:φ l=some (l',0,T)) (hg:wrB (h.get l)=true) {o:Option AObj} {co:Obj} (ho:OR φ 0 T o (some co)) (hng:∀ g c,o≠some (.glob g c):=by exact fun _ _ h=>(by cases h)) :
    Rel φ (h.put l o) (w.putObj l' co)∧Fwd φ h w φ (h.put l o) (w.putObj l' co):=by
  have hlt:=(r.bnd _ _ _ hl)
  refine ⟨⟨fun b b' s T' hb=>?_,fun b₁ b₂ b' s₁ s₂ h1 h2 g1 g2=>?_,fun b b' s hb=>?_,fun b hb=>?_,r.glu (fun _ _ h=>h) fun b g c hb=>?_⟩,⟨Nat.le_refl _,fun _ _ h=>h,fun b hb hn=>⟨hn,?_⟩,(fun _ _ _ h h'=>by rw [h] at h';cases h'),fun b hb hn=>?_,fun b hb hn=>?_,?_,rfl,rfl,fun c hc hk=>?_⟩⟩
  · rw [AH.get_put]
    by_cases e:b=l
    · subst e;rw [hl] at hb;cases hb
      rw [if_pos rfl,World.putObj_heap_same hlt.2];exact ho
    · rw [if_neg e]
      by_cases e':b'=l'
      · subst e'
        cases hgb:h.get b with
        | none=>trivial
        | some x=>exact absurd (r.inj _ _ _ _ _ hb hl (by rw [hgb];simp) (wrB_live hg)) e
      · rw [World.putObj_heap_other e'];exact r.blk _ _ _ _ hb
  · rw [AH.get_put] at g1 g2
    by_cases e1:b₁=l <;> by_cases e2:b₂=l
    · rw [e1,e2]
    · subst e1;rw [if_neg e2] at g2;exact r.inj _ _ _ _ _ h1 h2 (wrB_live hg) g2
    · subst e2;rw [if_neg e1] at g1;exact r.inj _ _ _ _ _ h1 h2 g1 (wrB_live hg)
    · rw [if_neg e1] at g1;rw [if_neg e2] at g2;exact r.inj _ _ _ _ _ h1 h2 g1 g2
  · have:=r.bnd _ _ _ hb;rw [World.putObj_size];exact this
  · rw [AH.get_put,if_neg (by have:h.next≤b:=hb;omega)];exact r.lim b hb
  · rw [AH.get_put] at hb
    split at hb
    · exact absurd hb (hng _ _)
    · exact hb
  · rw [AH.get_put,if_neg (by rintro rfl;rw [hl] at hn;cases hn)]
  · rw [AH.get_put] at hn
    by_cases e:b=l
    · subst e;exact wrB_live hg
    · rw [if_neg e] at hn;exact hn
  · rw [AH.get_put] at hn
    by_cases e:b=l
    · subst e;exact hg
    · rw [if_neg e] at hn;exact hn
  · rw [World.putObj_size];exact Nat.le_refl _
  · rw [World.putObj_heap_other]
    rintro rfl
    rw [hk _ _ hl] at hg;cases hg
section
variable {P:Program} {E:Env} {φ:Phi} {w:World} {h h':AH} {v:Value}
def esPut (k v:Value):List (Value × Value)→List (Value × Value)
  | []=>[(k,v)]
  | (k',v')::es=>bif vEqA k k' then (k',v)::es else (k',v')::esPut k v es
def mUpd (E:Env) (t:TypeId) (x k v:Value) (h:AH):Option AH:=
  match E.ty t with
  | some ti=>match ti.desc with
    | .map kt _=>match E.key kt with
      | some f=>bif f k && atomA k then (match x with
        | .map (some r)=>match h.get r with
          | some (.map es bs cl)=>bif esKeys f es then some (h.put r (some (match esFind k es with
            | some _=>.map (esPut k v es) bs cl
            | none=>.map (esPut k v es) (bs++[cl]) (cl+1)))) else none
          | _=>none
        | _=>none) else none
      | none=>none
    | _=>none
  | none=>none
theorem esPut_EsR {f:Value→Bool} {k v v':Value} (hk:atomA k=true) (hv:VR φ v v') (born:Nat):∀ {es:List (Value × Value)} {es':List MapEntry},esKeys f es=true→EsR φ es es' →
    (esFind k es=none→EsR φ (esPut k v es) (es'++[{ key:=k,val:=v',born:=born }])) ∧
    (∀ (j:Nat) (e:MapEntry),es'[j]?=some e→e.key=k→EsR φ (esPut k v es) (es'.modify j fun e=>{ e with key:=k,val:=v' }))
  | [],[],_,_=>⟨fun _=>⟨atomA_self hk,hv,trivial⟩,fun j e h=>(by simp at h)⟩
  | [],_::_,_,h=>h.elim
  | _::_,[],_,h=>h.elim
  | (k',u')::es,x::es',h,hr=>by
    simp only [esKeys,Bool.and_eq_true] at h
    obtain ⟨⟨⟨h1,h2⟩,h3⟩,h4⟩:=h
    obtain ⟨i1,i2⟩:=esPut_EsR (f:=f) hk hv born h4 hr.2.2
    obtain ⟨g1,_⟩:=esFind_spec (f:=f) hk h4 hr.2.2
    have ek:x.key=k':=atomA_VR h2 hr.1
    simp only [esFind,esPut]
    cases hb:vEqA k k' with
    | true=>
      have e:=vEqA_eq hb
      subst e
      refine ⟨fun h=>by simp at h,fun j e hj he=>?_⟩
      cases j with
      | zero=>exact ⟨atomA_self hk,hv,hr.2.2⟩
      | succ j=>
        simp at hj
        cases hfn:esFind k es with
        | none=>exact absurd he (g1 hfn e (List.mem_of_getElem? hj))
        | some z=>rw [hfn] at h3;cases h3
    | false=>
      have hne:=vEqA_ne hk hb
      rw [cond_false,cond_false]
      refine ⟨fun hn=>⟨hr.1,hr.2.1,i1 hn⟩,fun j e hj he=>?_⟩
      cases j with
      | zero=>simp at hj;subst hj;rw [ek] at he;exact absurd he.symm hne
      | succ j=>
        simp at hj
        exact ⟨hr.1,hr.2.1,i2 j e hj he⟩
theorem born_modify (es:Array MapEntry) (j:Nat) (f:MapEntry→MapEntry) (hf:∀ e,(f e).born=e.born):(es.modify j f).toList.map (·.born)=es.toList.map (·.born):=by
  rw [Array.toList_modify]
  have:∀ (l:List MapEntry) (j:Nat),(l.modify j f).map (·.born)=l.map (·.born):=by
    intro l
    induction l with
    | nil=>intro j;simp
    | cons x l ih=>
      intro j
      cases j with
      | zero=>simp [hf]
      | succ j=>simpa using ih j
  exact this _ _
theorem mUpd_sound (ok:EnvOK P E) (r:Rel φ h w) {t:TypeId} {x x' k k' u u':Value} (hx:VR φ x x') (hk:VR φ k k') (hu:VR φ u u') (hl:mUpd E t x k u h=some h'):Turns P φ h w (Instr.mapUpdate t x' k' u') h'∧h'.df=h.df:=by
  unfold mUpd at hl
  split at hl
  · rename_i ti ht
    split at hl
    · rename_i kt et hd
      split at hl
      · rename_i f hf
        cases hb:(f k && atomA k) with
        | false=>rw [hb] at hl;cases hl
        | true=>
          rw [hb,cond_true] at hl
          simp only [Bool.and_eq_true] at hb
          split at hl
          · rename_i b
            split at hl
            · rename_i es bs cl hg
              cases hes:esKeys f es with
              | false=>rw [hes] at hl;cases hl
              | true=>
                rw [hes,cond_true] at hl
                cases hl
                refine ⟨?_,rfl⟩
                obtain ⟨ht',_⟩:=ok.ty _ _ ht
                obtain ⟨K,_,hkv⟩:=ok.key _ _ hf
                have ek:=(atomA_VR hb.2 hk).symm
                subst ek
                cases hx with
                | map _ b' T hφ=>
                  obtain ⟨es',hw,hr,hbs⟩:=r.mapAt hφ hg
                  obtain ⟨lk,hlk⟩:=hkv _ hb.1
                  have hall:=esKeys_keys hkv hes hr
                  obtain ⟨s1,s2⟩:=esFind_spec hb.2 hes hr
                  obtain ⟨p1,p2⟩:=esPut_EsR hb.2 hu cl hes hr
                  have hget:(getObj b').run P w=.ok (.map es' cl) w:=by simp [getObj,Sem.run,hw]
                  have hset:∀ o,(setObj b' o).run P w=.ok () (w.putObj b' o):=fun o=>by simp [setObj,Sem.run,hw,World.putObj]
                  have hchk:=K.check w false hlk
                  have hst:=K.stays w hlk
                  have hlive:wrB (h.get b)=true:=by rw [hg];rfl
                  unfold Instr.mapUpdate
                  rcases K.find w hlk es'.toList hall with ⟨f1,f2⟩ | ⟨j,e,f1,f2,f3⟩
                  · have hn:esFind k es=none:=by
                      cases hq:esFind k es with
                      | none=>rfl
                      | some u=>obtain ⟨⟨e,m1,m2⟩,_⟩:=s2 u hq;exact absurd m2 (f2 e m1)
                    rw [hn]
                    obtain ⟨q1,q2⟩:=r.obj (o:=some (.map (esPut k u es) (bs++[cl]) (cl+1))) (co:=.map (es'.push { key:=k,val:=u',born:=cl }) (cl+1)) hφ hlive ⟨rfl,by simpa using p1 hn,by simp [← hbs],rfl⟩
                    refine ⟨_,?_,q1,q2⟩
                    simp only [Sem.run_bind,run_ty w ht',hd,Result.andThen_ok,hget,hchk,f1,hset]
                  · have hn:∃ z,esFind k es=some z:=by
                      cases hq:esFind k es with
                      | some z=>exact ⟨z,rfl⟩
                      | none=>exact absurd f3 (s1 hq e (List.mem_of_getElem? f2))
                    obtain ⟨z,hn⟩:=hn
                    rw [hn]
                    obtain ⟨q1,q2⟩:=r.obj (o:=some (.map (esPut k u es) bs cl)) (co:=.map (es'.modify j fun e=>{ e with key:=k,val:=u' }) cl) hφ hlive ⟨rfl,by simpa using p2 j e f2 f3,by rw [← hbs];exact born_modify _ _ _ (fun _=>rfl),rfl⟩
                    refine ⟨_,?_,q1,q2⟩
                    have ej:(((es'[j]?).map (·.key)).getD k)=k:=by
                      have:es'[j]?=some e:=by simpa using f2
                      rw [this];exact f3
                    simp only [Sem.run_bind,run_ty w ht',hd,Result.andThen_ok,hget,hchk,f1,ej,hst,hset]
            · cases hl
          · cases hl
      · cases hl
    · cases hl
  · cases hl
def esDel (k:Value):List (Value × Value)→List (Value × Value)
  | []=>[]
  | (k',v)::es=>bif vEqA k k' then es else (k',v)::esDel k es
def bsDel (k:Value):List (Value × Value)→List Nat→List Nat
  | (k',_)::es,b::bs=>bif vEqA k k' then bs else b::bsDel k es bs
  | _,bs=>bs
def mDel (E:Env) (t:TypeId) (x k:Value) (h:AH):Option (Value × AH):=
  match E.ty t with
  | some ti=>match ti.desc with
    | .map kt _=>match E.key kt with
      | some f=>bif f k && atomA k then (match x with
        | .map none=>some (.tuple ⟨[]⟩,h)
        | .map (some r)=>match h.get r with
          | some (.map es bs cl)=>bif esKeys f es then some (.tuple ⟨[]⟩,h.put r (some (.map (esDel k es) (bsDel k es bs) cl))) else none
          | _=>none
        | _=>none) else none
      | none=>none
    | _=>none
  | none=>none
theorem esDel_EsR {f:Value→Bool} {k:Value} (hk:atomA k=true):∀ {es:List (Value × Value)} {es':List MapEntry},esKeys f es=true→EsR φ es es' →
    ((∀ e ∈ es',e.key≠k)→esDel k es=es∧bsDel k es (es'.map (·.born))=es'.map (·.born)) ∧
    (∀ (j:Nat) (e:MapEntry),es'[j]?=some e→e.key=k→EsR φ (esDel k es) (es'.eraseIdx j)∧bsDel k es (es'.map (·.born))=(es'.eraseIdx j).map (·.born))
  | [],[],_,_=>⟨fun _=>⟨rfl,rfl⟩,fun j e h=>(by simp at h)⟩
  | [],_::_,_,h=>h.elim
  | _::_,[],_,h=>h.elim
  | (k',u')::es,x::es',h,hr=>by
    simp only [esKeys,Bool.and_eq_true] at h
    obtain ⟨⟨⟨h1,h2⟩,h3⟩,h4⟩:=h
    obtain ⟨i1,i2⟩:=esDel_EsR (f:=f) hk h4 hr.2.2
    obtain ⟨g1,_⟩:=esFind_spec (f:=f) hk h4 hr.2.2
    have ek:x.key=k':=atomA_VR h2 hr.1
    simp only [esDel,List.map_cons,bsDel]
    cases hb:vEqA k k' with
    | true=>
      have e:=vEqA_eq hb
      subst e
      refine ⟨fun hn=>absurd ek (hn x (List.mem_cons_self ..)),fun j e hj he=>?_⟩
      cases j with
      | zero=>exact ⟨hr.2.2,rfl⟩
      | succ j=>
        simp at hj
        cases hfn:esFind k es with
        | none=>exact absurd he (g1 hfn e (List.mem_of_getElem? hj))
        | some z=>rw [hfn] at h3;cases h3
    | false=>
      have hne:=vEqA_ne hk hb
      rw [cond_false,cond_false]
      refine ⟨fun hn=>?_,fun j e hj he=>?_⟩
      · obtain ⟨a1,a2⟩:=i1 fun e he=>hn e (List.mem_cons_of_mem _ he)
        rw [a1,a2];exact ⟨rfl,rfl⟩
      · cases j with
        | zero=>simp at hj;subst hj;rw [ek] at he;exact absurd he.symm hne
        | succ j=>
          simp at hj
          obtain ⟨a1,a2⟩:=i2 j e hj he
          refine ⟨⟨hr.1,hr.2.1,a1⟩,?_⟩
          rw [a2];rfl
theorem mDel_sound (ok:EnvOK P E) (r:Rel φ h w) {t:TypeId} {ts:List TypeId} {ty:TypeId} {x x' k k':Value} (hx:VR φ x x') (hk:VR φ k k') (hl:mDel E t x k h=some (v,h')) :
    Makes P φ h w (Builtin.delete_ ⟨t::ts⟩ ty #[x',k']) v h'∧h'.df=h.df:=by
  unfold mDel at hl
  split at hl
  · rename_i ti ht
    split at hl
    · rename_i kt et hd
      split at hl
      · rename_i f hf
        cases hb:(f k && atomA k) with
        | false=>rw [hb] at hl;cases hl
        | true=>
          rw [hb,cond_true] at hl
          simp only [Bool.and_eq_true] at hb
          obtain ⟨ht',_⟩:=ok.ty _ _ ht
          obtain ⟨K,_,hkv⟩:=ok.key _ _ hf
          have ek:=(atomA_VR hb.2 hk).symm
          subst ek
          obtain ⟨lk,hlk⟩:=hkv _ hb.1
          split at hl
          · cases hl
            cases hx
            refine ⟨⟨φ,.tuple #[],w,?_,.junk _,r,Fwd.refl _ _ _⟩,rfl⟩
            unfold Builtin.delete_
            have hchk:=K.check w true hlk
            simp [run_ty w ht',hd,hchk]
          · rename_i b
            split at hl
            · rename_i es bs cl hg
              cases hes:esKeys f es with
              | false=>rw [hes] at hl;cases hl
              | true=>
                rw [hes,cond_true] at hl
                cases hl
                refine ⟨?_,rfl⟩
                cases hx with
                | map _ b' T hφ=>
                  obtain ⟨es',hw,hr,hbs⟩:=r.mapAt hφ hg
                  have hall:=esKeys_keys hkv hes hr
                  obtain ⟨p1,p2⟩:=esDel_EsR hb.2 hes hr
                  have hget:(getObj b').run P w=.ok (.map es' cl) w:=by simp [getObj,Sem.run,hw]
                  have hset:∀ o,(setObj b' o).run P w=.ok () (w.putObj b' o):=fun o=>by simp [setObj,Sem.run,hw,World.putObj]
                  have hchk:=K.check w es'.isEmpty hlk
                  have hlive:wrB (h.get b)=true:=by rw [hg];rfl
                  rcases K.find w hlk es'.toList hall with ⟨f1,f2⟩ | ⟨j,e,f1,f2,f3⟩
                  · obtain ⟨n1,n2⟩:=p1 fun e he=>f2 e he
                    rw [hbs] at n2
                    rw [n1,n2]
                    obtain ⟨q1,q2⟩:=r.obj (o:=some (.map es bs cl)) (co:=.map es' cl) hφ hlive ⟨rfl,hr,hbs,rfl⟩
                    refine ⟨φ,.tuple #[],_,?_,.junk _,q1,q2⟩
                    unfold Builtin.delete_
                    simp [run_ty w ht',hd,hget,hchk,f1,hset]
                  · obtain ⟨n1,n2⟩:=p2 j e f2 f3
                    rw [hbs] at n2
                    rw [n2]
                    obtain ⟨q1,q2⟩:=r.obj (o:=some (.map (esDel k es) ((es'.toList.eraseIdx j).map (·.born)) cl)) (co:=.map (es'.eraseIdxIfInBounds j) cl) hφ hlive ⟨rfl,by simpa using n1,by simp,rfl⟩
                    refine ⟨φ,.tuple #[],_,?_,.junk _,q1,q2⟩
                    unfold Builtin.delete_
                    simp [run_ty w ht',hd,hget,hchk,f1,hset]
            · cases hl
          · cases hl
      · cases hl
    · cases hl
  · cases hl
def esIdx (k:Value):List (Value × Value)→Nat
  | []=>0
  | (k',_)::es=>bif vEqA k k' then 0 else esIdx k es+1
def esSetV (v:Value):Nat→List (Value × Value)→List (Value × Value)
  | _,[]=>[]
  | 0,(k,_)::es=>(k,v)::es
  | i+1,p::es=>p::esSetV v i es
def mEntry (E:Env) (t:TypeId) (x k:Value) (h:AH):Option (Value × AH):=
  match E.ty t with
  | some ti=>match ti.desc with
    | .map kt et=>match E.key kt,E.ty et with
      | some f,some ei=>bif f k && atomA k then (match x with
        | .map (some r)=>match h.get r with
          | some (.map es bs cl)=>bif esKeys f es then (match esFind k es with
            | some v=>match bs[esIdx k es]? with
              | some b=>some (.tuple ⟨[v,.int .i64 (.ofNat b)]⟩,h.put r (some (.map es bs cl)))
              | none=>none
            | none=>some (.tuple ⟨[asZero ei,.int .i64 (.ofNat cl)]⟩,h.put r (some (.map (esPut k (asZero ei) es) (bs++[cl]) (cl+1))))) else none
          | _=>none
        | _=>none) else none
      | _,_=>none
    | _=>none
  | none=>none
def eStore (x s v:Value) (h:AH):Option AH:=
  match x,s with
  | .map (some r),.int _ (.ofNat b)=>match h.get r with
    | some (.map es bs cl)=>match bs.findIdx? (fun x=>Nat.beq x b) with
      | some i=>some (h.put r (some (.map (esSetV v i es) bs cl)))
      | none=>none
    | _=>none
  | _,_=>none
theorem esIdx_at {f:Value→Bool} {k:Value} (hk:atomA k=true):∀ {es:List (Value × Value)} {es':List MapEntry},esKeys f es=true→EsR φ es es'→∀ (j:Nat) (e:MapEntry),es'[j]?=some e→e.key=k→j=esIdx k es
  | [],[],_,_=>by intro j e h;simp at h
  | [],_::_,_,h=>h.elim
  | _::_,[],_,h=>h.elim
  | (k',u')::es,x::es',h,hr=>by
    simp only [esKeys,Bool.and_eq_true] at h
    obtain ⟨⟨⟨h1,h2⟩,h3⟩,h4⟩:=h
    have ek:x.key=k':=atomA_VR h2 hr.1
    intro j e hj he
    simp only [esIdx]
    cases hb:vEqA k k' with
    | true=>
      have e':=vEqA_eq hb
      subst e'
      cases j with
      | zero=>rfl
      | succ j=>
        simp at hj
        cases hfn:esFind k es with
        | none=>exact absurd he ((esFind_spec (f:=f) hk h4 hr.2.2).1 hfn e (List.mem_of_getElem? hj))
        | some z=>rw [hfn] at h3;cases h3
    | false=>
      have hne:=vEqA_ne hk hb
      cases j with
      | zero=>simp at hj;subst hj;rw [ek] at he;exact absurd he.symm hne
      | succ j=>simp at hj;rw [cond_false,esIdx_at (f:=f) hk h4 hr.2.2 j e hj he]
theorem EsR.same {g:MapEntry→MapEntry} (hg:∀ e,(g e).val=e.val):∀ {es:List (Value × Value)} {es':List MapEntry} (j:Nat),(∀ e,es'[j]?=some e→(g e).key=e.key)→EsR φ es es'→EsR φ es (es'.modify j g)
  | [],[],j,_,_=>by simp [EsR]
  | [],_::_,_,_,h=>h.elim
  | _::_,[],_,_,h=>h.elim
  | (k,v)::es,x::es',0,hk,hr=>⟨by rw [hk x rfl];exact hr.1,by rw [hg];exact hr.2.1,hr.2.2⟩
  | (k,v)::es,x::es',j+1,hk,hr=>⟨hr.1,hr.2.1,EsR.same hg j (fun e he=>hk e (by simpa using he)) hr.2.2⟩
theorem EsR.setV {v v':Value} (hv:VR φ v v'):∀ {es:List (Value × Value)} {es':List MapEntry} (j:Nat),EsR φ es es'→EsR φ (esSetV v j es) (es'.modify j fun e=>{ e with val:=v' })
  | [],[],j,_=>by cases j <;> simp [EsR,esSetV]
  | [],_::_,_,h=>h.elim
  | _::_,[],_,h=>h.elim
  | (k,u)::es,x::es',0,hr=>⟨hr.1,hv,hr.2.2⟩
  | (k,u)::es,x::es',j+1,hr=>⟨hr.1,hr.2.1,EsR.setV hv j hr.2.2⟩
theorem mEntry_sound (ok:EnvOK P E) (r:Rel φ h w) {t:TypeId} {x x' k k':Value} (hx:VR φ x x') (hk:VR φ k k') (hl:mEntry E t x k h=some (v,h')) :
    (∃ v' w',(Instr.mapEntry t x' k').run P w=.ok v' w'∧VR φ v v'∧Rel φ h' w'∧Fwd φ h w φ h' w')∧h'.df=h.df:=by
  unfold mEntry at hl
  split at hl
  · rename_i ti ht
    split at hl
    · rename_i kt et hd
      split at hl
      · rename_i f ei hf he
        cases hb:(f k && atomA k) with
        | false=>rw [hb] at hl;cases hl
        | true=>
          rw [hb,cond_true] at hl
          simp only [Bool.and_eq_true] at hb
          split at hl
          · rename_i b
            split at hl
            · rename_i es bs cl hg
              cases hes:esKeys f es with
              | false=>rw [hes] at hl;cases hl
              | true=>
                rw [hes,cond_true] at hl
                obtain ⟨ht',_⟩:=ok.ty _ _ ht
                obtain ⟨he',hz,_⟩:=ok.ty _ _ he
                obtain ⟨K,_,hkv⟩:=ok.key _ _ hf
                have ek:=(atomA_VR hb.2 hk).symm
                subst ek
                cases hx with
                | map _ b' T hφ=>
                  obtain ⟨es',hw,hr,hbs⟩:=r.mapAt hφ hg
                  obtain ⟨lk,hlk⟩:=hkv _ hb.1
                  have hall:=esKeys_keys hkv hes hr
                  obtain ⟨s1,s2⟩:=esFind_spec hb.2 hes hr
                  have hget:(getObj b').run P w=.ok (.map es' cl) w:=by simp [getObj,Sem.run,hw]
                  have hset:∀ o,(setObj b' o).run P w=.ok () (w.putObj b' o):=fun o=>by simp [setObj,Sem.run,hw,World.putObj]
                  have hchk:=K.check w false hlk
                  have hst:=K.stays w hlk
                  have hlive:wrB (h.get b)=true:=by rw [hg];rfl
                  obtain ⟨z,z1,z2⟩:=asZero_VR (w:=w) (φ:=φ) ok he
                  unfold Instr.mapEntry
                  rcases K.find w hlk es'.toList hall with ⟨f1,f2⟩ | ⟨j,e,f1,f2,f3⟩
                  · have hn:esFind k es=none:=by
                      cases hq:esFind k es with
                      | none=>rfl
                      | some u=>obtain ⟨⟨e,m1,m2⟩,_⟩:=s2 u hq;exact absurd m2 (f2 e m1)
                    rw [hn] at hl
                    simp only at hl
                    cases hl
                    obtain ⟨p1,_⟩:=esPut_EsR hb.2 z2 cl hes hr
                    obtain ⟨q1,q2⟩:=r.obj (o:=some (.map (esPut k (asZero ei) es) (bs++[cl]) (cl+1))) (co:=.map (es'.push { key:=k,val:=z,born:=cl }) (cl+1)) hφ hlive ⟨rfl,by simpa using p1 hn,by simp [← hbs],rfl⟩
                    refine ⟨⟨.tuple #[z,.int .i64 (.ofNat cl)],_,?_,.tuple _ _ (.cons _ _ _ _ z2 (.cons _ _ _ _ (.int _ _) .nil)),q1,q2⟩,rfl⟩
                    simp [run_ty w ht',hd,hget,hchk,f1,z1,hset,goInt]
                  · cases hq:esFind k es with
                    | none=>exact absurd f3 (s1 hq e (List.mem_of_getElem? f2))
                    | some u=>
                      rw [hq] at hl
                      simp only at hl
                      have hu:=(s2 u hq).2 j e f2 f3
                      have hji:=esIdx_at hb.2 hes hr j e f2 f3
                      have hbj:bs[esIdx k es]?=some e.born:=by rw [← hji,← hbs,List.getElem?_map,f2];rfl
                      rw [hbj] at hl
                      cases hl
                      have ea:es'[j]?=some e:=by simpa using f2
                      obtain ⟨q1,q2⟩:=r.obj (o:=some (.map es bs cl)) (co:=.map (es'.modify j fun e=>{ e with key:=k }) cl) hφ hlive ⟨rfl,by rw [Array.toList_modify];exact EsR.same (g:=fun e=>{ e with key:=k }) (fun _=>rfl) j (fun x hx=>by rw [f2] at hx;cases hx;exact f3.symm) hr,by rw [← hbs];exact born_modify _ _ _ (fun _=>rfl),rfl⟩
                      refine ⟨⟨.tuple #[e.val,.int .i64 (.ofNat e.born)],_,?_,.tuple _ _ (.cons _ _ _ _ hu (.cons _ _ _ _ (.int _ _) .nil)),q1,q2⟩,rfl⟩
                      have ej:(((es'[j]?).map (·.key)).getD k)=k:=by rw [ea];exact f3
                      simp only [Sem.run_bind,run_ty w ht',hd,Result.andThen_ok,hget,hchk,f1,ej,hst,hset]
                      rw [ea];rfl
            · cases hl
          · cases hl
      · cases hl
    · cases hl
  · cases hl
theorem eStore_sound (r:Rel φ h w) {t:TypeId} {x x' s s' u u':Value} (hx:VR φ x x') (hs:VR φ s s') (hu:VR φ u u') (hl:eStore x s u h=some h'):Turns P φ h w (Instr.entryStore t x' s' u') h'∧h'.df=h.df:=by
  unfold eStore at hl
  split at hl
  · rename_i b k n
    split at hl
    · rename_i es bs cl hg
      split at hl
      · rename_i i hi
        cases hl
        refine ⟨?_,rfl⟩
        have e:=hs.int_inv
        subst e
        cases hx with
        | map _ b' T hφ=>
          obtain ⟨es',hw,hr,hbs⟩:=r.mapAt hφ hg
          have hget:(getObj b').run P w=.ok (.map es' cl) w:=by simp [getObj,Sem.run,hw]
          have hset:∀ o,(setObj b' o).run P w=.ok () (w.putObj b' o):=fun o=>by simp [setObj,Sem.run,hw,World.putObj]
          have hlive:wrB (h.get b)=true:=by rw [hg];rfl
          have hfi':∀ l:List MapEntry,l.map (·.born)=bs→l.toArray.findIdx? (fun e=>(e.born:Int) == Int.ofNat n)=some i:=by
            intro l hl
            rw [← hl,List.findIdx?_map] at hi
            rw [List.findIdx?_toArray,← hi]
            congr 1
            funext e
            show ((e.born:Int) == Int.ofNat n)=Nat.beq e.born n
            rw [Bool.eq_iff_iff]
            simp
            omega
          have hfi:es'.findIdx? (fun e=>(e.born:Int) == Int.ofNat n)=some i:=hfi' es'.toList hbs
          obtain ⟨q1,q2⟩:=r.obj (o:=some (.map (esSetV u i es) bs cl)) (co:=.map (es'.modify i fun e=>{ e with val:=u' }) cl) hφ hlive ⟨rfl,by rw [Array.toList_modify];exact EsR.setV hu i hr,by rw [← hbs];exact born_modify _ _ _ (fun _=>rfl),rfl⟩
          refine ⟨_,?_,q1,q2⟩
          have h1:(asInt (.int k (Int.ofNat n)):Sem Int).run P w=.ok (Int.ofNat n) w:=by simp [asInt,asIntOf]
          unfold Instr.entryStore
          simp only [Sem.run_bind,hget,Result.andThen_ok,h1,hfi,hset]
      · cases hl
    · cases hl
  · cases hl
def extF (k:XK) (args:List Value) (h:AH):Option (Value × AH):=
  match k,args with
  | .nop,_=>some (.tuple ⟨[]⟩,h)
  | .mark,.pointer (some _)::_=>some (.tuple ⟨[]⟩,h)
  | .load k,[p]=>match ld1 p h with
    | some (.int k' n)=>bif Nat.beq (ikn k) (ikn k') then some (.int k' n,h) else none
    | _=>none
  | .store,[p,v]=>match st1 p v h with
    | some h'=>some (.tuple ⟨[]⟩,h')
    | none=>none
  | .cas k,[p,.int _ x,new]=>match ld1 p h with
    | some (.int k' n)=>bif Nat.beq (ikn k) (ikn k') then (bif ieq n x then (match st1 p new h with
      | some h'=>some (.bool true,h')
      | none=>none) else some (.bool false,h)) else none
    | _=>none
  | .add k,[p,.int _ y]=>match ld1 p h with
    | some (.int k' n)=>bif Nat.beq (ikn k) (ikn k') then (match st1 p (.int k (wr k (n+y))) h with
      | some h'=>some (.int k (wr k (n+y)),h')
      | none=>none) else none
    | _=>none
  | .cntS,[.string s,.int k c]=>bif Nat.beq (ikn .u8) (ikn k) then some (.int .i64 (.ofNat (Lib.countByte s.data.toList c.toNat.toUInt8)),h) else none
  | .idxB,[.string s,.int k c]=>bif Nat.beq (ikn .u8) (ikn k) then some (.int .i64 (Lib.indexByte s.data.toList c.toNat.toUInt8),h) else none
  | .same,[x]=>some (x,h)
  | _,_=>none
theorem ld1_at (r:Rel φ h w) {p p':Value} (hp:VR φ p p') (hl:ld1 p h=some v):∃ a v',p'=.pointer (some a)∧w.cell? a=some v'∧VR φ v v'∧w.frozen? a=false∧(∃ x,w.shape? a.block=some x):=by
  unfold ld1 at hl
  split at hl
  · cases hp with
    | ptr b o b' s T hb=>
      obtain ⟨v',h1,h2,h3,_⟩:=r.cell hb hl
      refine ⟨_,v',rfl,h1,h2,h3,?_⟩
      obtain ⟨c',e,f,hx,_⟩:=r.cell_shape hb hl
      exact ⟨_,by simp only [World.shape?,hx];rfl⟩
  · cases hl
theorem st1_at (r:Rel φ h w) {p v₁ v₁':Value} {a:Addr} (hp:VR φ p (.pointer (some a))) (hv:VR φ v₁ v₁') (hl:st1 p v₁ h=some h') (m:Mode) :
    ∃ w',(Go.store a v₁' m).run P w=.ok () w'∧Rel φ h' w'∧Fwd φ h w φ h' w'∧h'.df=h.df:=by
  unfold st1 at hl
  split at hl
  · cases ho:oneC v₁ with
    | false=>rw [ho] at hl;cases hl
    | true=>
      rw [ho,cond_true] at hl
      cases hp with
      | ptr b o b' s T hb=>
        obtain ⟨h2,h3⟩:=r.st hb hl hv ho
        refine ⟨_,?_,h2,h3,AH.st_df hl⟩
        have h1:=st1_run (P:=P) r hb hl hv ho
        obtain ⟨c,n,t,u,g1,g2,_,g3⟩:=AH.st_eq hl
        obtain ⟨u',k1,k2,k3,_⟩:=r.cell hb g3
        have hc:=(oneC_cells hv ho).2
        cases v₁' <;> first | (simp [Go.store,Sem.run,k1,k3];done) | cases hc
  · cases hl
theorem st1_ptr {p p' v₁:Value} (hp:VR φ p p') (hl:st1 p v₁ h=some h'):∃ a,p'=.pointer (some a):=by
  unfold st1 at hl
  split at hl
  · cases hp;exact ⟨_,rfl⟩
  · cases hl
def casB (a:Addr) (new:Value) (b:Bool):Sem Value:=if b=true then (do Go.store a new .atomic;pure (.bool b)) else pure (.bool b)
theorem casT_parts (k k₂:IntKind) (x:Int) (new:Value) (a:Addr):∃ (F:Bool→Sem Value) (G:Value→Sem Value),
    Extern.Atomic.casT (.int k) #[.pointer (some a),.int k₂ x,new]=Sem.bind (Extern.Atomic.touchesFrozen a) F∧F false=Sem.bind (Extern.Atomic.read (.int k) a) G∧∀ k' y,G (.int k' y)=casB a new (y == x):=
  ⟨_,_,rfl,rfl,fun _ _=>rfl⟩
theorem update_parts (k k₂:IntKind) (y:Int) (a:Addr):∃ (F:Value→Sem Value),
    Extern.Atomic.update (Op.intArith .add) k true #[.pointer (some a),.int k₂ y]=Sem.bind (Extern.Atomic.read (.int k) a) F∧∀ k' n,F (.int k' n)=Sem.bind (Go.store a (.int k (k.wrap (n+y))) .atomic) fun _=>pure (.int k (k.wrap (n+y))):=
  ⟨_,rfl,fun _ _=>rfl⟩
theorem run_bind' {α β:Type} (s:Sem α) (f:α→Sem β) (w:World):(Sem.bind s f).run P w=(s.run P w).andThen fun a w'=>(f a).run P w':=Sem.run_bind ..
theorem extF_sound (r:Rel φ h w) {k:XK} {args args':List Value} (ha:VRs φ args args') (hl:extF k args h=some (v,h')) :
    ∃ v' w',(k.sem ⟨args'⟩).run P w=.ok v' w'∧VR φ v v'∧Rel φ h' w'∧Fwd φ h w φ h' w'∧h'.df=h.df:=by
  unfold extF at hl
  split at hl
  · cases hl;exact ⟨_,w,rfl,.junk _,r,Fwd.refl _ _ _,rfl⟩
  · cases hl
    cases ha with
    | cons _ x' _ l' hx hl'=>
      refine ⟨.tuple #[],w,?_,.junk _,r,Fwd.refl _ _ _,rfl⟩
      cases hx with
      | ptr=>simp [XK.sem]
  · rename_i k p
    cases ha with
    | cons _ p' _ _ hp hn=>
    cases hn
    split at hl
    · rename_i k' n hx
      cases hb:Nat.beq (ikn k) (ikn k') with
      | false=>rw [hb] at hl;cases hl
      | true=>
        rw [hb,cond_true] at hl
        cases hl
        have e:=ikn_inj hb
        subst e
        obtain ⟨a,v',rfl,h1,h2,h3,h4⟩:=ld1_at r hp hx
        have e:=h2.int_inv
        subst e
        refine ⟨.int k n,w,?_,.int _ _,r,Fwd.refl _ _ _,rfl⟩
        show (Extern.Atomic.read (.int k) a).run P w=_
        simp [Extern.Atomic.read,Go.load,Sem.run,h1]
    · cases hl
  · rename_i p u
    cases ha with
    | cons _ p' _ _ hp hn=>
    cases hn with
    | cons _ u' _ _ hu hn=>
    cases hn
    split at hl
    · rename_i h₁ hx
      cases hl
      obtain ⟨a,rfl⟩:=st1_ptr hp hx
      obtain ⟨w',h1,h2,h3,h4⟩:=st1_at (P:=P) r hp hu hx .atomic
      refine ⟨.tuple #[],w',?_,.junk _,h2,h3,h4⟩
      show (Sem.bind (Go.store a u' .atomic) fun _=>pure (Value.tuple #[])).run P w=_
      rw [run_bind',h1];rfl
    · cases hl
  · rename_i k p k₂ x new
    cases ha with
    | cons _ p' _ _ hp hn=>
    cases hn with
    | cons _ x' _ _ hx' hn=>
    cases hn with
    | cons _ u' _ _ hu hn=>
    cases hn
    have e:=hx'.int_inv
    subst e
    split at hl
    · rename_i k' n hx
      cases hb:Nat.beq (ikn k) (ikn k') with
      | false=>rw [hb] at hl;cases hl
      | true=>
        rw [hb,cond_true] at hl
        have e:=ikn_inj hb
        subst e
        obtain ⟨a,v',rfl,h1,h2,h3,⟨sh,h4⟩⟩:=ld1_at r hp hx
        have e:=h2.int_inv
        subst e
        have ht:(Extern.Atomic.touchesFrozen a).run P w=.ok false w:=by
          simp [Extern.Atomic.touchesFrozen,viewAt,Go.shape,Go.frozen,Sem.run,h4,h3]
        have hrd:(Extern.Atomic.read (.int k) a).run P w=.ok (.int k n) w:=by
          simp [Extern.Atomic.read,Go.load,Sem.run,h1]
        cases hq:ieq n x with
        | true=>
          rw [hq,cond_true] at hl
          split at hl
          · rename_i h₁ hs
            cases hl
            obtain ⟨w',g1,g2,g3,g4⟩:=st1_at (P:=P) r hp hu hs .atomic
            refine ⟨.bool true,w',?_,.bool _,g2,g3,g4⟩
            obtain ⟨F,G,c1,c2,c3⟩:=casT_parts k k₂ x u' a
            show (Extern.Atomic.casT (.int k) #[.pointer (some a),.int k₂ x,u']).run P w=_
            rw [c1,run_bind',ht,Result.andThen_ok,c2,run_bind',hrd,Result.andThen_ok,c3,← ieq_eq,hq]
            show (Sem.bind (Go.store a u' .atomic) fun _=>pure (Value.bool true)).run P w=_
            rw [run_bind',g1];rfl
          · cases hl
        | false=>
          rw [hq,cond_false] at hl
          cases hl
          refine ⟨.bool false,w,?_,.bool _,r,Fwd.refl _ _ _,rfl⟩
          obtain ⟨F,G,c1,c2,c3⟩:=casT_parts k k₂ x u' a
          show (Extern.Atomic.casT (.int k) #[.pointer (some a),.int k₂ x,u']).run P w=_
          rw [c1,run_bind',ht,Result.andThen_ok,c2,run_bind',hrd,Result.andThen_ok,c3,← ieq_eq,hq]
          rfl
    · cases hl
  · rename_i k p k₂ y
    cases ha with
    | cons _ p' _ _ hp hn=>
    cases hn with
    | cons _ x' _ _ hx' hn=>
    cases hn
    have e:=hx'.int_inv
    subst e
    split at hl
    · rename_i k' n hx
      cases hb:Nat.beq (ikn k) (ikn k') with
      | false=>rw [hb] at hl;cases hl
      | true=>
        rw [hb,cond_true] at hl
        have e:=ikn_inj hb
        subst e
        obtain ⟨a,v',rfl,h1,h2,h3,⟨sh,h4⟩⟩:=ld1_at r hp hx
        have e:=h2.int_inv
        subst e
        have hrd:(Extern.Atomic.read (.int k) a).run P w=.ok (.int k n) w:=by
          simp [Extern.Atomic.read,Go.load,Sem.run,h1]
        split at hl
        · rename_i h₁ hs
          cases hl
          obtain ⟨w',g1,g2,g3,g4⟩:=st1_at (P:=P) r hp (.int k (wr k (n+y))) hs .atomic
          rw [wr_eq] at g1 ⊢
          refine ⟨.int k (k.wrap (n+y)),w',?_,.int _ _,g2,g3,g4⟩
          obtain ⟨F,c1,c2⟩:=update_parts k k₂ y a
          show (Extern.Atomic.update (Op.intArith .add) k true #[.pointer (some a),.int k₂ y]).run P w=_
          rw [c1,run_bind',hrd,Result.andThen_ok,c2,run_bind',g1];rfl
        · cases hl
    · cases hl
  · rename_i s₁ k c
    cases ha with
    | cons _ p' _ _ hp hn=>
    cases hn with
    | cons _ x' _ _ hx' hn=>
    cases hn
    have e:=hx'.int_inv
    subst e
    cases hp
    cases hb:Nat.beq (ikn .u8) (ikn k) with
    | false=>rw [hb] at hl;cases hl
    | true=>
      rw [hb,cond_true] at hl
      cases hl
      have e:=ikn_inj hb
      subst e
      exact ⟨_,w,Lib.run_countString s₁ c w,.int _ _,r,Fwd.refl _ _ _,rfl⟩
  · rename_i s₁ k c
    cases ha with
    | cons _ p' _ _ hp hn=>
    cases hn with
    | cons _ x' _ _ hx' hn=>
    cases hn
    have e:=hx'.int_inv
    subst e
    cases hp
    cases hb:Nat.beq (ikn .u8) (ikn k) with
    | false=>rw [hb] at hl;cases hl
    | true=>
      rw [hb,cond_true] at hl
      cases hl
      have e:=ikn_inj hb
      subst e
      exact ⟨_,w,Lib.run_indexByteString s₁ c w,.int _ _,r,Fwd.refl _ _ _,rfl⟩
  · cases hl
    cases ha with
    | cons _ p' _ _ hp hn=>
    cases hn
    exact ⟨_,w,rfl,hp,r,Fwd.refl _ _ _,rfl⟩
  · cases hl
theorem extF_df {k:XK} {args:List Value} (hl:extF k args h=some (v,h')):h'.df=h.df:=by
  have st:∀ {p u:Value} {h₁:AH},st1 p u h=some h₁→h₁.df=h.df:=by
    intro p u h₁ hs
    unfold st1 at hs
    split at hs
    · cases ho:oneC u with
      | false=>rw [ho] at hs;cases hs
      | true=>rw [ho,cond_true] at hs;exact AH.st_df hs
    · cases hs
  unfold extF at hl
  split at hl
  · cases hl;rfl
  · cases hl;rfl
  · split at hl
    · rename_i k' n _
      cases hb:Nat.beq (ikn _) (ikn k') <;> rw [hb] at hl <;> cases hl
      rfl
    · cases hl
  · split at hl
    · rename_i hs;cases hl;exact st hs
    · cases hl
  · split at hl
    · rename_i k' n _
      cases hb:Nat.beq (ikn _) (ikn k') <;> rw [hb] at hl
      · cases hl
      · rw [cond_true] at hl
        cases hq:ieq n _ <;> rw [hq] at hl
        · cases hl;rfl
        · rw [cond_true] at hl
          split at hl
          · rename_i hs;cases hl;exact st hs
          · cases hl
    · cases hl
  · split at hl
    · rename_i k' n _
      cases hb:Nat.beq (ikn _) (ikn k') <;> rw [hb] at hl
      · cases hl
      · rw [cond_true] at hl
        split at hl
        · rename_i hs;cases hl;exact st hs
        · cases hl
    · cases hl
  · rename_i k _
    cases hb:Nat.beq (ikn _) (ikn k) <;> rw [hb] at hl <;> cases hl
    rfl
  · rename_i k _
    cases hb:Nat.beq (ikn _) (ikn k) <;> rw [hb] at hl <;> cases hl
    rfl
  · cases hl;rfl
  · cases hl
end
end
end Go.Den
