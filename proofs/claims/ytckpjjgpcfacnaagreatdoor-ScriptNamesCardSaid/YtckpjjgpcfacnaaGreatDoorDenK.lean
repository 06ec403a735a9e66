/- Code with foretold operations and foretold loops; bytes in memory; a slice of bytes that a law is called with. Conditions: none. -/
import Derived.Test.YtckpjjgpcfacnaaGreatDoorDenI

/- Code with foretold operations, loops of so many rounds, tight drawn regions: where a piece leads, given that what is foretold holds. -/
namespace Go.Den
noncomputable section

/-- what is foretold: at the so-manyth operation the value, and the memory if it turns. -/
abbrev Fo := List (Nat × Value × Option AH)
def tell : Fo → Nat → Option (Value × Option AH)
  | [], _ => none
  | (i, v, g) :: l, k => bif Nat.beq i k then some (v, g) else tell l k
def newH (g : Option AH) (h : AH) : AH := match g with | some h' => h' | none => h

def exV (x : Option (Value × AH)) (h : AH) (fo : Fo) (k : Nat) (cs : Ct) : Option (Value × AH × Ct) :=
  match tell fo k with
  | some (v, g) => some (v, newH g h, (x, (v, newH g h)) :: cs)
  | none => match x with
    | some (v, h') => some (v, h', cs)
    | none => none

def sxGrp (E : Env) (C : Oracle) (fo : Fo) : List Oper → Tm → AH → Nat → Ct → Option (Tm × AH × Nat × Ct)
  | [], tm, h, k, cs => some (tm, h, k, cs)
  | o :: os, tm, h, k, cs => match exV (xop0 E C o.op (aevF tm) h) h fo k cs with
    | some (v, h', cs') => sxGrp E C fo os (stoF tm o.dst v) h' (k + 1) cs'
    | none => none
def sxReg (E : Env) (C : Oracle) (fo : Fo) (all : List Oper) : Nat → List Oper → Tm → AH → Nat → Ct → Option (Tm × AH × Nat × Ct)
  | _, [], tm, h, k, cs => some (tm, h, k, cs)
  | 0, _, _, _, _, _ => none
  | f + 1, o :: os, tm, h, k, cs => match o.guard with
    | none => match exV (xop0 E C o.op (aevF tm) h) h fo k cs with
      | some (v, h', cs') => sxReg E C fo all f os (stoF tm o.dst v) h' (k + 1) cs'
      | none => none
    | some (j, want) => match (all[j]?).bind (·.dst) with
      | some d => bif inG j want d o then match vGuard want (tm d) with
        | some true => match sxGrp E C fo (spanG j want d (o :: os)) tm h k cs with
          | some (tm', h', k', cs') => sxReg E C fo all f (restG j want d (o :: os)) tm' h' k' cs'
          | none => none
        | some false => sxReg E C fo all f (restG j want d (o :: os)) (skpF (spanG j want d (o :: os)) tm) h k cs
        | none => none
        else none
      | none => none

/-- an operation of a drawn region. -/
def opTV (E : Env) (C : Oracle) (all : List Oper) (base i : Nat) (o : Oper) (tm : Tm) (h : AH) : Option (Value × AH) :=
  match wantedF all tm o with
  | some true => match cls o.op with
    | 0 => match pv (aop E o.op (aevF tm) h) with
      | some v => some (v, h)
      | none => none
    | 1 => xop E C false o.op (aevF tm) h
    | _ => match mkObj E o.op (aevF tm) with
      | some (ob, mk) => some (mk (base + i), h.put (base + i) (some ob))
      | none => none
  | some false => some (undV, h)
  | none => none
def sxDrw (E : Env) (C : Oracle) (fo : Fo) (all : List Oper) (base : Nat) : List Oper → Nat → Tm → AH → Nat → Ct → Option (Tm × AH × Nat × Ct)
  | [], _, tm, h, k, cs => some (tm, h, k, cs)
  | o :: os, i, tm, h, k, cs => match exV (opTV E C all base i o tm h) h fo k cs with
    | some (v, h', cs') => sxDrw E C fo all base os (i + 1) (stoF tm o.dst v) h' (k + 1) cs'
    | none => none

abbrev SX := Option (Ex × Tm × AH × Nat × Ct)
def sxLoop (f : Tm → AH → Nat → Ct → SX) : Nat → Tm → AH → Nat → Ct → SX
  | 0, _, _, _, _ => none
  | m + 1, tm, h, k, cs => match f tm h k cs with
    | some (.normal, tm, h, k, cs) => sxLoop f m tm h k cs
    | r => r
def sxC (E : Env) (C : Oracle) (n N : Nat) (fo : Fo) : Code → Tm → AH → Nat → Ct → SX
  | .skip, tm, h, k, cs => some (.normal, tm, h, k, cs)
  | .label _, tm, h, k, cs => some (.normal, tm, h, k, cs)
  | .seq x y, tm, h, k, cs => match sxC E C n N fo x tm h k cs with
    | some (.normal, tm, h, k, cs) => sxC E C n N fo y tm h k cs
    | r => r
  | .cond c x y, tm, h, k, cs => match vBool (aevF tm c) with
    | some true => sxC E C n N fo x tm h k cs
    | some false => sxC E C n N fo y tm h k cs
    | none => none
  | .block id x, tm, h, k, cs => match sxC E C n N fo x tm h k cs with
    | some (.exit id', tm, h, k, cs) => bif Nat.beq id' id then some (.normal, tm, h, k, cs) else some (.exit id', tm, h, k, cs)
    | r => r
  | .loop x, tm, h, k, cs => sxLoop (fun tm h k cs => sxC E C n N fo x tm h k cs) N tm h k cs
  | .scope x, tm, h, k, cs => sxC E C n N fo x tm h k cs
  | .exit id, tm, h, k, cs => some (.exit id, tm, h, k, cs)
  | .ret, tm, h, k, cs => some (.ret, tm, h, k, cs)
  | .region _ ops false, tm, h, k, cs => bif dstOK n ops.toList then (match sxReg E C fo ops.toList ops.toList.length ops.toList tm h k cs with
    | some (tm, h, k, cs) => some (.normal, tm, h, k, cs)
    | none => none) else none
  | .region _ ops true, tm, h, k, cs => bif drawOK n ops.toList then (match sxDrw E C fo ops.toList h.next ops.toList 0 (cutF n tm) { next := h.next + ops.toList.length, mem := h.mem, df := [] } k cs with
    | some (tm, h, k, cs) => some (.normal, tm, h, k, cs)
    | none => none) else none
  | _, _, _, _, _ => none

section
variable {E : Env} {C : Oracle} {n N : Nat} {fo : Fo}

theorem exV_sound {x : Option (Value × AH)} {h h' : AH} {v : Value} {k : Nat} {cs cs' : Ct} (hl : exV x h fo k cs = some (v, h', cs')) (hg : GoodC cs') : x = some (v, h') ∧ GoodC cs := by
  unfold exV at hl
  split at hl
  · cases hl
    exact ⟨hg _ (List.mem_cons_self ..), fun p hp => hg p (List.mem_cons_of_mem _ hp)⟩
  · split at hl
    · cases hl; exact ⟨rfl, hg⟩
    · cases hl

theorem sxGrp_sound : ∀ (os : List Oper) {tm tm' : Tm} {h h' : AH} {k k' : Nat} {cs cs' : Ct}, sxGrp E C fo os tm h k cs = some (tm', h', k', cs') → GoodC cs' → (∀ K, grpF E C os K tm h = K tm' h') ∧ GoodC cs
  | [], _, _, _, _, _, _, _, _, hl, hg => by cases hl; exact ⟨fun _ => rfl, hg⟩
  | o :: os, tm, tm', h, h', k, k', cs, cs', hl, hg => by
    simp only [sxGrp] at hl
    split at hl
    · rename_i v h₁ cs₁ hx
      obtain ⟨h1, h2⟩ := sxGrp_sound os hl hg
      obtain ⟨h3, h4⟩ := exV_sound hx h2
      refine ⟨fun K => ?_, h4⟩
      simp only [grpF]
      rw [opK_of_xop0 h3]
      exact h1 K
    · cases hl

theorem sxReg_sound {all : List Oper} : ∀ (f : Nat) (os : List Oper) {tm tm' : Tm} {h h' : AH} {k k' : Nat} {cs cs' : Ct}, sxReg E C fo all f os tm h k cs = some (tm', h', k', cs') → GoodC cs' → (∀ K, regF E C all f os K tm h = K tm' h') ∧ GoodC cs := by
  intro f
  induction f with
  | zero =>
    intro os tm tm' h h' k k' cs cs' hl hg
    cases os with
    | nil => cases hl; exact ⟨fun _ => rfl, hg⟩
    | cons => cases hl
  | succ f ih =>
    intro os tm tm' h h' k k' cs cs' hl hg
    cases os with
    | nil => cases hl; exact ⟨fun _ => rfl, hg⟩
    | cons o os =>
      simp only [sxReg] at hl
      split at hl
      · rename_i hgn
        split at hl
        · rename_i v h₁ cs₁ hx
          obtain ⟨h1, h2⟩ := ih _ hl hg
          obtain ⟨h3, h4⟩ := exV_sound hx h2
          refine ⟨fun K => ?_, h4⟩
          simp only [regF, hgn]
          rw [opK_of_xop0 h3]
          exact h1 K
        · cases hl
      · rename_i j want hgj
        split at hl
        · rename_i d hjd
          cases hb : inG j want d o with
          | false => rw [hb] at hl; cases hl
          | true =>
            rw [hb, cond_true] at hl
            split at hl
            · rename_i hv
              split at hl
              · rename_i hx
                obtain ⟨h1, h2⟩ := ih _ hl hg
                obtain ⟨h3, h4⟩ := sxGrp_sound _ hx h2
                refine ⟨fun K => ?_, h4⟩
                simp only [regF, hgj, hjd, hb, cond_true, hv]
                rw [h3]; exact h1 K
              · cases hl
            · rename_i hv
              obtain ⟨h1, h2⟩ := ih _ hl hg
              refine ⟨fun K => ?_, h2⟩
              simp only [regF, hgj, hjd, hb, cond_true, hv]
              exact h1 K
            · cases hl
        · cases hl

theorem opTF_of_opTV {all : List Oper} {base i : Nat} {o : Oper} {tm : Tm} {h h' : AH} {v : Value} {K : Value → AH → Res} (hx : opTV E C all base i o tm h = some (v, h')) : opTF E C all base i o tm h K = K v h' := by
  unfold opTV at hx
  unfold opTF
  split at hx
  · rename_i hw
    rw [hw]
    simp only
    split at hx
    · rename_i hc
      rw [hc]
      simp only
      split at hx
      · rename_i hp; cases hx; rw [hp]
      · cases hx
    · rename_i hc
      rw [hc]
      simp only
      rw [hx]
    · rename_i hc0 hc1
      split
      · rename_i hc; exact absurd hc hc0
      · rename_i hc; exact absurd hc hc1
      · split at hx
        · rename_i hp; cases hx; rw [hp]
        · cases hx
  · rename_i hw; cases hx; rw [hw]
  · cases hx

theorem sxDrw_sound {all : List Oper} {base : Nat} : ∀ (os : List Oper) (i : Nat) {tm tm' : Tm} {h h' : AH} {k k' : Nat} {cs cs' : Ct}, sxDrw E C fo all base os i tm h k cs = some (tm', h', k', cs') → GoodC cs' → (∀ K, drawF E C all base os i K tm h = K tm' h') ∧ GoodC cs
  | [], _, _, _, _, _, _, _, _, _, hl, hg => by cases hl; exact ⟨fun _ => rfl, hg⟩
  | o :: os, i, tm, tm', h, h', k, k', cs, cs', hl, hg => by
    simp only [sxDrw] at hl
    split at hl
    · rename_i v h₁ cs₁ hx
      obtain ⟨h1, h2⟩ := sxDrw_sound os (i + 1) hl hg
      obtain ⟨h3, h4⟩ := exV_sound hx h2
      refine ⟨fun K => ?_, h4⟩
      simp only [drawF]
      rw [opTF_of_opTV h3]
      exact h1 K
    · cases hl

theorem sxLoop_sound {x : Code} (ih : ∀ {tm tm' : Tm} {h h' : AH} {k k' : Nat} {cs cs' : Ct} {e : Ex}, sxC E C n N fo x tm h k cs = some (e, tm', h', k', cs') → GoodC cs' → (∀ K, evF E C n N x K tm h = K e tm' h') ∧ GoodC cs) :
    ∀ (m : Nat) {tm tm' : Tm} {h h' : AH} {k k' : Nat} {cs cs' : Ct} {e : Ex}, sxLoop (fun tm h k cs => sxC E C n N fo x tm h k cs) m tm h k cs = some (e, tm', h', k', cs') → GoodC cs' →
      (∀ K, loopK m (fun G => evF E C n N x (thenK G K)) tm h = K e tm' h') ∧ GoodC cs := by
  intro m
  induction m with
  | zero => intro tm tm' h h' k k' cs cs' e hl; cases hl
  | succ m ihm =>
    intro tm tm' h h' k k' cs cs' e hl hg
    simp only [sxLoop] at hl
    split at hl
    · rename_i hx
      obtain ⟨h1, h2⟩ := ihm hl hg
      obtain ⟨h3, h4⟩ := ih hx h2
      refine ⟨fun K => ?_, h4⟩
      simp only [loopK]
      rw [h3]
      exact h1 K
    · rename_i hn
      obtain ⟨h3, h4⟩ := ih hl hg
      refine ⟨fun K => ?_, h4⟩
      simp only [loopK]
      rw [h3]
      cases e with
      | normal => exact absurd hl (hn _ _ _ _)
      | exit id => rfl
      | ret => rfl

theorem sxC_sound : ∀ (c : Code) {tm tm' : Tm} {h h' : AH} {k k' : Nat} {cs cs' : Ct} {e : Ex}, sxC E C n N fo c tm h k cs = some (e, tm', h', k', cs') → GoodC cs' → (∀ K, evF E C n N c K tm h = K e tm' h') ∧ GoodC cs := by
  intro c
  induction c with
  | skip => intro tm tm' h h' k k' cs cs' e hl hg; cases hl; exact ⟨fun _ => rfl, hg⟩
  | label l => intro tm tm' h h' k k' cs cs' e hl hg; cases hl; exact ⟨fun _ => rfl, hg⟩
  | exit id => intro tm tm' h h' k k' cs cs' e hl hg; cases hl; exact ⟨fun _ => rfl, hg⟩
  | ret => intro tm tm' h h' k k' cs cs' e hl hg; cases hl; exact ⟨fun _ => rfl, hg⟩
  | seq x y ihx ihy =>
    intro tm tm' h h' k k' cs cs' e hl hg
    simp only [sxC] at hl
    split at hl
    · rename_i hx
      obtain ⟨h1, h2⟩ := ihy hl hg
      obtain ⟨h3, h4⟩ := ihx hx h2
      exact ⟨fun K => by simp only [evF]; rw [h3]; exact h1 K, h4⟩
    · rename_i hn
      obtain ⟨h3, h4⟩ := ihx hl hg
      refine ⟨fun K => ?_, h4⟩
      simp only [evF]
      rw [h3]
      cases e with
      | normal => exact absurd hl (hn _ _ _ _)
      | exit id => rfl
      | ret => rfl
  | cond c x y ihx ihy =>
    intro tm tm' h h' k k' cs cs' e hl hg
    simp only [sxC] at hl
    split at hl
    · rename_i hv
      obtain ⟨h1, h2⟩ := ihx hl hg
      exact ⟨fun K => by simp only [evF, hv]; exact h1 K, h2⟩
    · rename_i hv
      obtain ⟨h1, h2⟩ := ihy hl hg
      exact ⟨fun K => by simp only [evF, hv]; exact h1 K, h2⟩
    · cases hl
  | block id x ih =>
    intro tm tm' h h' k k' cs cs' e hl hg
    simp only [sxC] at hl
    split at hl
    · rename_i id' tm₁ h₁ k₁ cs₁ hx
      cases hb : Nat.beq id' id with
      | true =>
        rw [hb, cond_true] at hl; cases hl
        obtain ⟨h1, h2⟩ := ih hx hg
        exact ⟨fun K => by simp only [evF]; rw [h1]; simp only [blockK, hb, cond_true], h2⟩
      | false =>
        rw [hb, cond_false] at hl; cases hl
        obtain ⟨h1, h2⟩ := ih hx hg
        exact ⟨fun K => by simp only [evF]; rw [h1]; simp only [blockK, hb, cond_false], h2⟩
    · rename_i hn
      obtain ⟨h1, h2⟩ := ih hl hg
      refine ⟨fun K => ?_, h2⟩
      simp only [evF]
      rw [h1]
      cases e with
      | normal => rfl
      | exit id' => exact absurd hl (hn _ _ _ _ _)
      | ret => rfl
  | scope x ih =>
    intro tm tm' h h' k k' cs cs' e hl hg
    obtain ⟨h1, h2⟩ := ih hl hg
    exact ⟨fun K => h1 K, h2⟩
  | loop x ih =>
    intro tm tm' h h' k k' cs cs' e hl hg
    exact sxLoop_sound ih N hl hg
  | region id ops draw =>
    intro tm tm' h h' k k' cs cs' e hl hg
    cases draw with
    | true =>
      simp only [sxC] at hl
      cases hn : drawOK n ops.toList with
      | false => rw [hn] at hl; cases hl
      | true =>
        rw [hn, cond_true] at hl
        split at hl
        · rename_i hx
          cases hl
          obtain ⟨h1, h2⟩ := sxDrw_sound _ _ hx hg
          exact ⟨fun K => by simp only [evF, hn, cond_true]; exact h1 _, h2⟩
        · cases hl
    | false =>
      simp only [sxC] at hl
      cases hn : dstOK n ops.toList with
      | false => rw [hn] at hl; cases hl
      | true =>
        rw [hn, cond_true] at hl
        split at hl
        · rename_i hx
          cases hl
          obtain ⟨h1, h2⟩ := sxReg_sound _ _ hx hg
          exact ⟨fun K => by simp only [evF, hn, cond_true]; exact h1 _, h2⟩
        · cases hl
  | _ => intro tm tm' h h' k k' cs cs' e hl hg; cases hl

/-! ## What a piece gives, told by its parts -/
def SX.e : SX → Ex | some (e, _) => e | none => .ret
def SX.t : SX → Tm | some (_, t, _) => t | none => fun _ => junk
def SX.h : SX → AH | some (_, _, h, _) => h | none => ⟨0, .leaf, []⟩
def SX.c : SX → Ct | some (_, _, _, _, c) => c | none => []
/-- a piece's end: how it ends, its memory, and what is to be shown of what was foretold. -/
def Sx (E : Env) (C : Oracle) (n N : Nat) (fo : Fo) (c : Code) (tm : Tm) (h : AH) (e : Ex) (t : Tm) (h' : AH) (cs : Ct) : Prop := ∃ k, sxC E C n N fo c tm h 0 [] = some (e, t, h', k, cs)
theorem Sx.on {c : Code} {tm t : Tm} {h h' : AH} {e : Ex} {cs : Ct} (hx : Sx E C n N fo c tm h e t h' cs) (hg : GoodC cs) (K : Kont) : evF E C n N c K tm h = K e t h' :=
  hx.elim fun _ hk => (sxC_sound c hk hg).1 K
theorem goodC_nil : GoodC [] := fun _ hp => by cases hp
theorem goodC_cons {p : Option (Value × AH) × (Value × AH)} {cs : Ct} (hp : p.1 = some p.2) (hc : GoodC cs) : GoodC (p :: cs) := fun q hq => by
  rcases List.mem_cons.1 hq with rfl | hq
  · exact hp
  · exact hc q hq

/-- a function's call, with what is foretold. -/
def sxG (E : Env) (C : Oracle) (N : Nat) (fo : Fo) (g : FuncId) (args : List Value) (h : AH) : Option (Value × AH × Ct) :=
  match E.fn g with
  | some fi => match sxC E C (args.length + (fi.ntmps - args.length)) N fo fi.body (fun i => gt (args ++ List.replicate (fi.ntmps - args.length) undV) i) h 0 [] with
    | some (.exit _, _, _, _, _) => none
    | some (_, tm, h', _, cs) => match resF E tm h' fi.results.toList with
      | some l => some (tup l, h', cs)
      | none => none
    | none => none
  | none => none
theorem sxG_sound {g : FuncId} {args : List Value} {h h' : AH} {v : Value} {cs : Ct} (hl : sxG E C N fo g args h = some (v, h', cs)) (hg : GoodC cs) : denG E C N g args h = some (v, h') := by
  unfold sxG at hl
  unfold denG
  split at hl
  · rename_i fi hf
    rw [hf]
    simp only
    split at hl
    · cases hl
    · rename_i e tm h₁ k cs₁ hne hx
      split at hl
      · rename_i l hr
        cases hl
        obtain ⟨h1, _⟩ := sxC_sound _ hx hg
        rw [h1]
        cases e with
        | exit id => exact (hne _ rfl).elim
        | normal => simp only [endK, hr]
        | ret => simp only [endK, hr]
      · cases hl
    · cases hl
  · cases hl
end
end
end Go.Den
