/- The further tables of the interpreter (methods, functions without a body, types of keys) are what they must be. Conditions: none. -/
import Derived.Test.YtejgabehfdapjaaGreatDenG
import Derived.Laws.Externs
import Derived.DeepKeys4
import Derived.StringKeys
namespace Go.Den
noncomputable section
section
variable {P:Program} {f:FuncId} {fn:Func}
def ExtOK (P:Program) (f:Nat) (k:XK):Prop:=∀ (args:Array Value) (w:World) (v:Value) (w':World),(k.sem args).run P w=.ok v w'→(callFunc f args).run P w=.ok (.value v) w'
theorem ext_of {k : XK} {e : Array Value → Sem Value} (hf : P.funcs[f]? = some fn) (hname : (fn.name == "runtime.NumGoroutine") = false) (hb : fn.body.isNone = true) (hn : Extern.findNext fn = none) (he : Extern.find fn = some e)
    (hk:∀ (args:Array Value) (w:World) (v:Value) (w':World),(k.sem args).run P w=.ok v w'→(e args).run P w=.ok v w'):ExtOK P f k:=by
  intro args w v w' h
  rw [run_callFunc_extern hf hname hb hn he,hk args w v w' h];rfl
theorem ext_nop (hf : P.funcs[f]? = some fn) (hname : (fn.name == "runtime.NumGoroutine") = false) (hb : fn.body.isNone = true) (hn : Extern.findNext fn = none) {m : Mark} (he : Extern.find fn = some (fun _ => do mark m; pure Extern.Race.none_)) : ExtOK P f .nop :=
  ext_of hf hname hb hn he fun _ _ _ _ h=>h
theorem ext_mark (hf : P.funcs[f]? = some fn) (hname : (fn.name == "runtime.NumGoroutine") = false) (hb : fn.body.isNone = true) (hn : Extern.findNext fn = none) {m : Addr → Mark} (he : Extern.find fn = some (Extern.Race.marked m)) : ExtOK P f .mark :=
  ext_of hf hname hb hn he fun args w v w' h=>by
    have key:∀ x:Option Value,args[0]?=x→(Extern.Race.marked m args).run P w=.ok v w':=by
      intro x hx
      have h' : ((match args[0]? with | some (Value.pointer (some _)) => pure (.tuple #[]) | _ => stuck "an address" : Sem Value)).run P w = .ok v w' := h
      rw [hx] at h'
      have hm:Extern.Race.marked m args=(do mark (m (← Extern.Race.at_ args));pure Extern.Race.none_):=rfl
      have hat : Extern.Race.at_ args = (match args[0]? with | some (Value.pointer (some a)) => pure a | _ => stuck "internal/race: an address expected") := rfl
      rw [hm,hat,hx]
      split at h'
      · exact h'
      · cases h'
    exact key _ rfl
theorem ext_cas (hf : P.funcs[f]? = some fn) (hname : (fn.name == "runtime.NumGoroutine") = false) (hb : fn.body.isNone = true) (hn : Extern.findNext fn = none) {k : IntKind} (he : Extern.find fn = some (Extern.Atomic.casT (.int k))) : ExtOK P f (.cas k) :=
  ext_of hf hname hb hn he fun _ _ _ _ h=>h
theorem ext_add (hf : P.funcs[f]? = some fn) (hname : (fn.name == "runtime.NumGoroutine") = false) (hb : fn.body.isNone = true) (hn : Extern.findNext fn = none) {k : IntKind} (he : Extern.find fn = some (Extern.Atomic.update (Op.intArith .add) k true)) : ExtOK P f (.add k) :=
  ext_of hf hname hb hn he fun _ _ _ _ h=>h
def AllExt (P:Program):List (Nat × XK)→Prop
  | []=>True
  | (f,k)::l=>ExtOK P f k∧AllExt P l
theorem AllExt.mem:∀ {l:List (Nat × XK)},AllExt P l→∀ p ∈ l,ExtOK P p.1 p.2
  | [],_,p,h=>by cases h
  | (f,k)::l,hl,p,h=>by
    rcases List.mem_cons.1 h with rfl | h
    · exact hl.1
    · exact AllExt.mem hl.2 p h
theorem key_of (hl:laidOutB P=true) {m:Nat} (hm:m+1≤10000) {k:TypeId} (hrow:k < P.types.size) (hk:P.keyTypeAt m k=true) (hwide:(match P.underlying k with | some (.array _ _) | some (.struct _)=>true | _=>false)=true)
    (hg:P.eqGuardType P.depth k=false):Maps.Keyed P k∧EqLaw P k:=by
  have K:=deep_law_laid hl hm hrow hk hwide
  refine ⟨Maps.Keyed.of_law K,fun x y lx ly hx hy op a b w hop=>?_⟩
  obtain ⟨r,h1,h2⟩:=run_equal_deep w (Nat.le_of_succ_le hm) hk hwide hx hy
  have hagg:∀ {v:Value} {l:Lit},keyOf P k v=some l→∃ xs,v=.agg xs:=by
    intro v l h
    obtain ⟨xs,L,h',_⟩:=keyOf_top hwide h
    exact ⟨xs,h'⟩
  obtain ⟨xs,rfl⟩:=hagg hx
  obtain ⟨ys,rfl⟩:=hagg hy
  refine ⟨r,?_,h2.trans ⟨fun e=>K.inj hx (by rw [e];exact hy),fun e=>by rw [e] at hx;rw [hx] at hy;exact Option.some.inj hy⟩⟩
  rcases hop with rfl | rfl
  · simp [eqGuard,program,Sem.run,hg,binOp,h1]
  · simp [eqGuard,program,Sem.run,hg,binOp,h1]
def AllKey (P:Program):List Nat→Prop
  | []=>True
  | k::l=>(Maps.Keyed P k∧EqLaw P k)∧AllKey P l
theorem AllKey.mem:∀ {l:List Nat},AllKey P l→∀ k ∈ l,Maps.Keyed P k∧EqLaw P k
  | [],_,p,h=>by cases h
  | k::l,hl,p,h=>by
    rcases List.mem_cons.1 h with rfl | h
    · exact hl.1
    · exact AllKey.mem hl.2 p h
def MethOK (P:Program) (t:Nat) (n:String) (g:Nat):Prop:=∀ (v:Value) (args:Array Value) (w:World),(callMethod (.iface t v) n args).run P w=(callFunc g (#[v]++args)).run P w
theorem meth_of {t:Nat} {n:String} {g:Nat} {i:TypeInfo} {m:Method} {d:TypeDesc} {pr:Bool} (hi:P.info? t=some i) (hm:i.methods.find? (·.name == n)=some m) (hp:m.path=#[]) (hf:m.func=some (g,pr)) (hd:P.underlying t=some d)
    (hpr:pr=(match d with | .pointer _=>true | _=>false)):MethOK P t n g:=by
  intro v args w
  have hmeth:∀ fuel,(method (fuel+1) t v n).run P w=.ok (g,v) w:=by
    intro fuel
    subst hpr
    cases d <;> simp [method,typeInfo,hi,hm,hp,hf,follow,receiverAt,underlying,hd,Place.get]
  simp only [callMethod,program,Sem.run_bind]
  simp [Sem.run,hmeth,Made.depth]
def methB (P:Program) (t:Nat) (n:String) (g:Nat):Bool:=
  match P.info? t,P.underlying t with
  | some i,some d=>match i.methods.find? (·.name == n) with
    | some m=>m.path.isEmpty && (match m.func with
      | some (g',pr)=>Nat.beq g' g && (match d with | .pointer _=>pr | _=>!pr)
      | none=>false)
    | none=>false
  | _,_=>false
theorem meth_ok {t:Nat} {n:String} {g:Nat} (h:methB P t n g=true):MethOK P t n g:=by
  unfold methB at h
  split at h
  · rename_i i d hi hd
    split at h
    · rename_i m hm
      simp only [Bool.and_eq_true] at h
      obtain ⟨h1,h2⟩:=h
      split at h2
      · rename_i g' pr hf
        simp only [Bool.and_eq_true] at h2
        have e:=nat_beq h2.1
        subst e
        refine meth_of hi hm (by simpa using h1) hf hd ?_
        cases d <;> simp_all
      · cases h2
    · cases h
  · cases h
theorem key_str {k:TypeId} (hk:P.underlying k=some .string):Maps.Keyed P k∧EqLaw P k:=by
  refine ⟨Maps.Keyed.of_law (Go.WideMaps.string_law hk),fun x y lx ly hx hy op a b w hop=>?_⟩
  cases x <;> simp [keyOf,mapKey,hk] at hx
  cases y <;> simp [keyOf,mapKey,hk] at hy
  rename_i s1 s2
  refine ⟨decide (s1=s2),?_,by simp⟩
  have e:(s1.toList == s2.toList)=decide (s1=s2):=by
    rw [Bool.eq_iff_iff]
    simp only [beq_iff_eq,decide_eq_true_eq]
    exact ⟨fun h=>Go.WideShapes.bytes_inj (by rw [← Go.ByteArray.toList_eq,← Go.ByteArray.toList_eq];exact h),fun h=>by rw [h]⟩
  rcases hop with rfl | rfl <;> simp [eqGuard,binOp,Op.stringOp,e]
def AllMeth (P:Program):List (Nat × String × Nat)→Prop
  | []=>True
  | (t,n,g)::l=>MethOK P t n g∧AllMeth P l
theorem AllMeth.mem:∀ {l:List (Nat × String × Nat)},AllMeth P l→∀ p ∈ l,MethOK P p.1 p.2.1 p.2.2
  | [],_,p,h=>by cases h
  | (t,n,g)::l,hl,p,h=>by
    rcases List.mem_cons.1 h with rfl | h
    · exact hl.1
    · exact AllMeth.mem hl.2 p h
theorem tabs_ok_of {T:Tabs} (h1:AllMeth P T.meth) (h2:AllExt P T.ext) (h3:AllKey P T.key):Tabs.OK P T:=⟨h1.mem,h2.mem,h3.mem⟩
end
end
end Go.Den
