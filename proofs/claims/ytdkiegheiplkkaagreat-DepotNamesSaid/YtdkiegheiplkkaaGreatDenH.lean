/- The further tables of the interpreter (methods, functions without a body, types of keys) are what they must be. Conditions: none. -/
import Derived.Test.YtdkiegheiplkkaaGreatDenG
import Derived.Laws.Externs
import Derived.DeepKeys4

/- The further tables are what they must be: how that is shown for a program. -/
namespace Go.Den
noncomputable section

section
variable {P : Program} {f : FuncId} {fn : Func}

def ExtOK (P : Program) (f : Nat) (k : XK) : Prop := ∀ (args : Array Value) (w : World) (v : Value) (w' : World), (k.sem args).run P w = .ok v w' → (callFunc f args).run P w = .ok (.value v) w'

theorem ext_of {k : XK} {e : Array Value → Sem Value} (hf : P.funcs[f]? = some fn) (hname : (fn.name == "runtime.NumGoroutine") = false) (hb : fn.body.isNone = true) (hn : Extern.findNext fn = none) (he : Extern.find fn = some e)
    (hk : ∀ (args : Array Value) (w : World) (v : Value) (w' : World), (k.sem args).run P w = .ok v w' → (e args).run P w = .ok v w') : ExtOK P f k := by
  intro args w v w' h
  rw [run_callFunc_extern hf hname hb hn he, hk args w v w' h]; rfl
theorem ext_nop (hf : P.funcs[f]? = some fn) (hname : (fn.name == "runtime.NumGoroutine") = false) (hb : fn.body.isNone = true) (hn : Extern.findNext fn = none) {m : Mark} (he : Extern.find fn = some (fun _ => do mark m; pure Extern.Race.none_)) : ExtOK P f .nop :=
  ext_of hf hname hb hn he fun _ _ _ _ h => h
theorem ext_mark (hf : P.funcs[f]? = some fn) (hname : (fn.name == "runtime.NumGoroutine") = false) (hb : fn.body.isNone = true) (hn : Extern.findNext fn = none) {m : Addr → Mark} (he : Extern.find fn = some (Extern.Race.marked m)) : ExtOK P f .mark :=
  ext_of hf hname hb hn he fun args w v w' h => by
    have key : ∀ x : Option Value, args[0]? = x → (Extern.Race.marked m args).run P w = .ok v w' := by
      intro x hx
      have h' : ((match args[0]? with | some (Value.pointer (some _)) => pure (.tuple #[]) | _ => stuck "an address" : Sem Value)).run P w = .ok v w' := h
      rw [hx] at h'
      have hm : Extern.Race.marked m args = (do mark (m (← Extern.Race.at_ args)); pure Extern.Race.none_) := rfl
      have hat : Extern.Race.at_ args = (match args[0]? with | some (Value.pointer (some a)) => pure a | _ => stuck "internal/race: an address expected") := rfl
      rw [hm, hat, hx]
      split at h'
      · exact h'
      · cases h'
    exact key _ rfl
theorem ext_load (hf : P.funcs[f]? = some fn) (hname : (fn.name == "runtime.NumGoroutine") = false) (hb : fn.body.isNone = true) (hn : Extern.findNext fn = none) {k : IntKind} (he : Extern.find fn = some (Extern.Atomic.loadT (.int k))) : ExtOK P f (.load k) :=
  ext_of hf hname hb hn he fun _ _ _ _ h => h
theorem ext_store (hf : P.funcs[f]? = some fn) (hname : (fn.name == "runtime.NumGoroutine") = false) (hb : fn.body.isNone = true) (hn : Extern.findNext fn = none) (he : Extern.find fn = some Extern.Atomic.storeT) : ExtOK P f .store :=
  ext_of hf hname hb hn he fun _ _ _ _ h => h
theorem ext_cas (hf : P.funcs[f]? = some fn) (hname : (fn.name == "runtime.NumGoroutine") = false) (hb : fn.body.isNone = true) (hn : Extern.findNext fn = none) {k : IntKind} (he : Extern.find fn = some (Extern.Atomic.casT (.int k))) : ExtOK P f (.cas k) :=
  ext_of hf hname hb hn he fun _ _ _ _ h => h
theorem ext_add (hf : P.funcs[f]? = some fn) (hname : (fn.name == "runtime.NumGoroutine") = false) (hb : fn.body.isNone = true) (hn : Extern.findNext fn = none) {k : IntKind} (he : Extern.find fn = some (Extern.Atomic.update (Op.intArith .add) k true)) : ExtOK P f (.add k) :=
  ext_of hf hname hb hn he fun _ _ _ _ h => h

def AllExt (P : Program) : List (Nat × XK) → Prop
  | [] => True
  | (f, k) :: l => ExtOK P f k ∧ AllExt P l
theorem AllExt.mem : ∀ {l : List (Nat × XK)}, AllExt P l → ∀ p ∈ l, ExtOK P p.1 p.2
  | [], _, p, h => by cases h
  | (f, k) :: l, hl, p, h => by
    rcases List.mem_cons.1 h with rfl | h
    · exact hl.1
    · exact AllExt.mem hl.2 p h
def AllKey (P : Program) : List Nat → Prop
  | [] => True
  | k :: l => Maps.Keyed P k ∧ AllKey P l
theorem AllKey.mem : ∀ {l : List Nat}, AllKey P l → ∀ k ∈ l, Maps.Keyed P k
  | [], _, p, h => by cases h
  | k :: l, hl, p, h => by
    rcases List.mem_cons.1 h with rfl | h
    · exact hl.1
    · exact AllKey.mem hl.2 p h

/-- a method that is found at once: its receiver is the value itself. -/
def MethOK (P : Program) (t : Nat) (n : String) (g : Nat) : Prop := ∀ (v : Value) (args : Array Value) (w : World), (callMethod (.iface t v) n args).run P w = (callFunc g (#[v] ++ args)).run P w
theorem meth_of {t : Nat} {n : String} {g : Nat} {i : TypeInfo} {m : Method} {d : TypeDesc} {pr : Bool} (hi : P.info? t = some i) (hm : i.methods.find? (·.name == n) = some m) (hp : m.path = #[]) (hf : m.func = some (g, pr)) (hd : P.underlying t = some d)
    (hpr : pr = (match d with | .pointer _ => true | _ => false)) : MethOK P t n g := by
  intro v args w
  have hmeth : ∀ fuel, (method (fuel + 1) t v n).run P w = .ok (g, v) w := by
    intro fuel
    subst hpr
    cases d <;> simp [method, typeInfo, hi, hm, hp, hf, follow, receiverAt, underlying, hd, Place.get]
  simp only [callMethod, program, Sem.run_bind]
  simp [Sem.run, hmeth, Made.depth]
def AllMeth (P : Program) : List (Nat × String × Nat) → Prop
  | [] => True
  | (t, n, g) :: l => MethOK P t n g ∧ AllMeth P l
theorem AllMeth.mem : ∀ {l : List (Nat × String × Nat)}, AllMeth P l → ∀ p ∈ l, MethOK P p.1 p.2.1 p.2.2
  | [], _, p, h => by cases h
  | (t, n, g) :: l, hl, p, h => by
    rcases List.mem_cons.1 h with rfl | h
    · exact hl.1
    · exact AllMeth.mem hl.2 p h
theorem tabs_ok_of {T : Tabs} (h1 : AllMeth P T.meth) (h2 : AllExt P T.ext) (h3 : AllKey P T.key) : Tabs.OK P T := ⟨h1.mem, h2.mem, h3.mem⟩
end
end
end Go.Den
