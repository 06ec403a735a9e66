/- Functions that range over maps anywhere; a memory of one global variable's block that is told. Conditions: none. -/
import Derived.Test.YtckpjjgpcfacnaaGreatDoorDenK
import Derived.WideShapes

/- A function whose code ranges over maps anywhere: its run told by a check of all the entries' orders. -/
namespace Go.Den
noncomputable section

section
variable {P : Program} {E : Env} {C : Oracle} {φ : Phi} {w : World} {h h' h₁ : AH} {v : Value} {b : Frame} {a : Act} {k : List Item} {cs : List Frame} {tm tm' tm₁ : Tm} {n N : Nat} {x y : Code} {e : Ex}

theorem Runs.seqX (hx : Runs P n b cs x tm h e tm' h') (he : e ≠ .normal) : Runs P n b cs (.seq x y) tm h e tm' h' := by
  intro k φ w a hf
  obtain ⟨φ₁, a₁, w₁, g1, g2, g3⟩ := hx (.code y :: k) φ w a hf
  exact ⟨φ₁, a₁, w₁, .of_steps (.one stepR_seq) (.pass (x := .code y) rfl he g1), g2, g3⟩
theorem Runs.condG {c : Operand} {t : Bool} (hc : aevF tm c = .bool t) (hx : Runs P n b cs (bif t then x else y) tm h e tm' h') : Runs P n b cs (.cond c x y) tm h e tm' h' := by
  intro k φ w a hf
  obtain ⟨φ₁, a₁, w₁, g1, g2, g3⟩ := hx k φ w a hf
  have hv := aevF_VR hf.tms c
  rw [hc] at hv
  have he := hv.bool_inv
  refine ⟨φ₁, a₁, w₁, .of_steps (.one (stepR_cond he)) ?_, g2, g3⟩
  cases t <;> exact g1
def exB (id : Nat) : Ex → Ex
  | .exit id' => bif Nat.beq id' id then .normal else .exit id'
  | e => e
theorem Runs.blockG {id : Nat} (hx : Runs P n b cs x tm h e tm' h') : Runs P n b cs (.block id x) tm h (exB id e) tm' h' := by
  intro k φ w a hf
  obtain ⟨φ₁, a₁, w₁, g1, g2, g3⟩ := hx (.inBlock id :: k) φ w a hf
  refine ⟨φ₁, a₁, w₁, ?_, g2, g3⟩
  cases e with
  | normal => exact .head stepR_block (Steps.trans g1 (.one stepR_inBlock))
  | exit id' =>
    cases hid : Nat.beq id' id with
    | true =>
      have e := nat_beq hid
      subst e
      simp only [exB, hid, cond_true]
      exact .head stepR_block (g1 k (by simp [exitTo]))
    | false =>
      simp only [exB, hid, cond_false]
      refine fun k' hk' => .head stepR_block (g1 k' ?_)
      have : (id == id') = false := by
        cases hx : id == id' with
        | false => rfl
        | true => have := eq_of_beq hx; subst this; rw [Nat.beq_refl] at hid; cases hid
      simp [exitTo, this, hk']
  | ret => exact .of_steps (.one stepR_block) (by obtain ⟨k', hs⟩ := g1; exact ⟨k', hs⟩)
/-- a loop's code, from its beginning on. -/
def RunsI (P : Program) (n : Nat) (b : Frame) (cs : List Frame) (x : Code) (tm : Tm) (h : AH) (e : Ex) (tm' : Tm) (h' : AH) : Prop :=
  ∀ (k : List Item) (φ : Phi) (w : World) (a : Act), F0 n φ h w tm a → ∃ φ' a' w', ArrK P (lone (b.atR a (.code x :: .inLoop x :: k)) cs w) b k cs a' w' e ∧ F0 n φ' h' w' tm' a' ∧ Fwd φ h w φ' h' w'
theorem RunsI.loop (hx : RunsI P n b cs x tm h e tm' h') : Runs P n b cs (.loop x) tm h e tm' h' := by
  intro k φ w a hf
  obtain ⟨φ₁, a₁, w₁, g1, g2, g3⟩ := hx k φ w a hf
  exact ⟨φ₁, a₁, w₁, .of_steps (.one stepR_loop) g1, g2, g3⟩
theorem RunsI.stop (hx : Runs P n b cs x tm h e tm' h') (he : e ≠ .normal) : RunsI P n b cs x tm h e tm' h' := by
  intro k φ w a hf
  obtain ⟨φ₁, a₁, w₁, g1, g2, g3⟩ := hx (.inLoop x :: k) φ w a hf
  exact ⟨φ₁, a₁, w₁, .pass (x := .inLoop x) rfl he g1, g2, g3⟩
theorem RunsI.on (hx : Runs P n b cs x tm h .normal tm₁ h₁) (hl : RunsI P n b cs x tm₁ h₁ e tm' h') : RunsI P n b cs x tm h e tm' h' := by
  intro k φ w a hf
  obtain ⟨φ₁, a₁, w₁, g1, g2, g3⟩ := hx (.inLoop x :: k) φ w a hf
  obtain ⟨φ₂, a₂, w₂, k1, k2, k3⟩ := hl k φ₁ w₁ a₁ g2
  exact ⟨φ₂, a₂, w₂, .of_steps (Steps.trans g1 (.one stepR_inLoop)) k1, k2, g3.trans hf.rel k3⟩

open Classical in
theorem runs_of_sxC (ok : EnvOK P E) (hC : Sound P C) (hk : okKind b.kind cs) (hro : b.roundOf = none) {fo : Fo} {c : Code} {i i' : Nat} (hl : sxC E C n N fo c tm h i [] = some (e, tm', h', i', [])) : Runs P n b cs c tm h e tm' h' := by
  intro k φ w a hf
  obtain ⟨hx, _⟩ := sxC_sound c hl (fun p hp => by cases hp)
  let K : Kont := fun e₁ t₁ h₁ => if e₁ = e ∧ t₁ = tm' ∧ h₁ = h' then some (junk, h') else none
  have hK : K e tm' h' = some (junk, h') := by simp [K]
  obtain ⟨e₁, t₁, h₁, φ', a', w', g1, g2, g3, g4⟩ := evF_sound ok hC hk hro c K k φ tm h a w hf ((hx K).trans hK)
  have key : e₁ = e ∧ t₁ = tm' ∧ h₁ = h' := by
    apply Classical.byContradiction
    intro hn
    simp [K, hn] at g1
  obtain ⟨rfl, rfl, rfl⟩ := key
  exact ⟨φ', a', w', g2, g3, g4⟩
end

/-! ## The check -/
abbrev RX := Option (Ex × Tm × AH)
def noFo : Fo := []
def sxL (E : Env) (C : Oracle) (n N : Nat) (c : Code) (tm : Tm) (h : AH) : RX :=
  match sxC E C n N noFo c tm h 0 [] with
  | some (e, tm', h', _, []) => some (e, tm', h')
  | _ => none

/-- a region on lists of temporaries. -/
def rgL (E : Env) (C : Oracle) (n : Nat) (ops : Array Oper) (draw : Bool) (tm : Tm) (h : AH) : RX :=
  match (bif draw then xdraw E C false ops (lstF n tm) (h.wdf []) else xregion E C false ops.toList ops.toList (lstF n tm) (h.wdf [])) with
  | some (tm', h') => bif Nat.beq tm'.length n && noDef ops.toList then (match h'.df with
    | [] => some (.normal, fun i => gt tm' i, h')
    | _ => none) else none
  | none => none

def nextSh (o₀ o₁ : Oper) : Option (Nat × Nat × Nat) :=
  match o₀.op, o₀.dst, o₀.guard, o₁.op, o₁.dst, o₁.guard with
  | .next (.tmp it) false, some d₁, none, .extract (.tmp d) 0, some d₂, none => bif Nat.beq d d₁ then some (it, d₁, d₂) else none
  | _, _, _, _, _, _ => none
def mapSh : Code → Option (Nat × Nat × Nat × Code)
  | .seq (.region _ ops false) z => match ops.toList with
    | [o₀, o₁] => match nextSh o₀ o₁ with
      | some (it, d₁, d₂) => some (it, d₁, d₂, z)
      | none => none
    | _ => none
  | _ => none

def rsT (keep : List Nat) (it r : Nat) (tm : Tm) : Tm := fun i => bif Nat.beq i it then .pointer (some ⟨r, 0, none⟩) else bif memL i keep then tm i else junk
def mpIn (d₁ d₂ : Nat) (tm : Tm) (ky u : Value) : Tm := stoF (stoF tm (some d₁) (.tuple ⟨[.bool true, ky, u]⟩)) (some d₂) (.bool true)
def mpHi (r m cl δ : Nat) (bs : List Nat) (h : AH) (S x : Nat) : AH := (mH r m cl δ bs h S).put r (some (.iter m cl (x :: seenM bs S) (some x) cl))
def mpC (E : Env) (C : Oracle) (n N : Nat) (z : Code) (keep : List Nat) (it d₁ d₂ r m cl δ : Nat) (es : List (Value × Value)) (bs : List Nat) (tm : Tm) (h : AH) : Nat → Nat → Tm
  | 0, _ => tm
  | k + 1, S => bif Nat.beq (S / 2 ^ k % 2) 1 then (match es[k]?, bs[k]? with
    | some (ky, u), some x => (match sxL E C n N z (mpIn d₁ d₂ (rsT keep it r (mpC E C n N z keep it d₁ d₂ r m cl δ es bs tm h k (S % 2 ^ k))) ky u) (mpHi r m cl δ bs h (S % 2 ^ k) x) with
      | some (_, t, _) => t
      | none => tm)
    | _, _ => tm) else mpC E C n N z keep it d₁ d₂ r m cl δ es bs tm h k (S % 2 ^ k)
def mpT (E : Env) (C : Oracle) (n N : Nat) (z : Code) (keep : List Nat) (it d₁ d₂ r m cl δ : Nat) (es : List (Value × Value)) (bs : List Nat) (tm : Tm) (h : AH) (S : Nat) : Tm :=
  rsT keep it r (mpC E C n N z keep it d₁ d₂ r m cl δ es bs tm h es.length S)
def cvB (it : Nat) (keep : List Nat) (tmc : Tm) (hc : AH) (tm : Tm) (h : AH) : Bool := keepB tmc tm (it :: keep) && Nat.beq hc.next h.next && omSub hc.mem h.mem
def mpStep (E : Env) (C : Oracle) (n N : Nat) (z : Code) (keep : List Nat) (it d₁ d₂ r m cl δ : Nat) (es : List (Value × Value)) (bs : List Nat) (h : AH) (cT : Nat → Tm) (lim S i : Nat) : Bool :=
  match es[i]?, bs[i]? with
  | some (ky, u), some x => memL x (seenM bs S) || (match sxL E C n N z (mpIn d₁ d₂ (cT S) ky u) (mpHi r m cl δ bs h S x) with
    | some (.normal, tm', h') => Nat.ble (S + 2 ^ i + 1) lim && cvB it keep (cT (S + 2 ^ i)) (mH r m cl δ bs h (S + 2 ^ i)) tm' h'
    | _ => false)
  | _, _ => true
/-- a loop over a map's entries. -/
def mpRun (E : Env) (C : Oracle) (n N : Nat) (keep : List Nat) (δ it d₁ d₂ : Nat) (z : Code) (tm : Tm) (h : AH) : RX :=
  match tm it with
  | .pointer (some ⟨r, 0, none⟩) => match h.get r with
    | some (.iter m _ _ _ cl) => match h.get m with
      | some (.map es bs cl') =>
        bif Nat.beq cl cl' && belowB cl bs && !Nat.beq m r && Nat.ble (d₁ + 1) n && Nat.ble (d₂ + 1) n &&
          cvB it keep (mpT E C n N z keep it d₁ d₂ r m cl δ es bs tm h 0) (mH r m cl δ bs h 0) tm h &&
          upB (fun S => upB (fun i => mpStep E C n N z keep it d₁ d₂ r m cl δ es bs h (mpT E C n N z keep it d₁ d₂ r m cl δ es bs tm h) (2 ^ es.length) S i) es.length) (2 ^ es.length) &&
          upB (fun S => Nat.beq S (2 ^ es.length - 1) || !subS (seenM bs S) bs) (2 ^ es.length)
        then (match sxL E C n N z (stoF (stoF (mpT E C n N z keep it d₁ d₂ r m cl δ es bs tm h (2 ^ es.length - 1)) (some d₁) (.tuple ⟨[.bool false]⟩)) (some d₂) (.bool false)) (mH r m cl δ bs h (2 ^ es.length - 1)) with
          | some (.exit e₀, tmE, hE) => some (.exit e₀, tmE, hE)
          | _ => none) else none
      | _ => none
    | _ => none
  | _ => none

def exLoop (f : Tm → AH → RX) : Nat → Tm → AH → RX
  | 0, _, _ => none
  | m + 1, tm, h => match f tm h with
    | some (.normal, tm, h) => exLoop f m tm h
    | r => r
def exR (E : Env) (C : Oracle) (n N : Nat) (keep : List Nat) (δ : Nat) : Code → Tm → AH → RX
  | .seq x y, tm, h => match exR E C n N keep δ x tm h with
    | some (.normal, tm, h) => exR E C n N keep δ y tm h
    | r => r
  | .cond c x y, tm, h => match vBool (aevF tm c) with
    | some true => exR E C n N keep δ x tm h
    | some false => exR E C n N keep δ y tm h
    | none => none
  | .block id x, tm, h => match exR E C n N keep δ x tm h with
    | some (e, tm, h) => some (exB id e, tm, h)
    | none => none
  | .loop x, tm, h => match mapSh x with
    | some (it, d₁, d₂, z) => mpRun E C n N keep δ it d₁ d₂ z tm h
    | none => exLoop (fun tm h => exR E C n N keep δ x tm h) N tm h
  | .region _ ops draw, tm, h => rgL E C n ops draw tm h
  | c, tm, h => sxL E C n N c tm h

/-- the whole function. -/
def exChk (E : Env) (C : Oracle) (fi : FI) (N : Nat) (keep : List Nat) (δ : Nat) (args : List Value) (L : OL) (n : Nat) (v : Value) (L' : OL) (n' : Nat) : Bool :=
  match exR E C (args.length + (fi.ntmps - args.length)) N keep δ fi.body (fun i => gt (args ++ List.replicate (fi.ntmps - args.length) undV) i) (ofL L n) with
  | some (e, tm, h) => isEnd e && (match resF E tm h fi.results.toList with
    | some l => chkRun (some (tup l, h)) L n v L' n'
    | none => false)
  | none => false

section
variable {P : Program} {E : Env} {C : Oracle} {φ : Phi} {w : World} {h h' h₁ : AH} {v : Value} {b : Frame} {a : Act} {k : List Item} {cs : List Frame} {tm tm' tm₁ : Tm} {n N : Nat} {x y : Code} {e : Ex}

theorem runs_of_sxL (ok : EnvOK P E) (hC : Sound P C) (hk : okKind b.kind cs) (hro : b.roundOf = none) {c : Code} (hl : sxL E C n N c tm h = some (e, tm', h')) : Runs P n b cs c tm h e tm' h' := by
  unfold sxL at hl
  split at hl
  · rename_i hx
    cases hl
    exact runs_of_sxC ok hC hk hro hx
  · cases hl

theorem noDef_mem : ∀ {os : List Oper}, noDef os = true → ∀ o ∈ os, notDef o.op = true
  | [], _, o, h => by cases h
  | x :: os, hd, o, h => by
    simp only [noDef] at hd
    cases hx : notDef x.op with
    | false => rw [hx] at hd; cases hd
    | true =>
      rw [hx, cond_true] at hd
      rcases List.mem_cons.1 h with rfl | h
      · exact hx
      · exact noDef_mem hd o h
theorem runs_of_rgL (ok : EnvOK P E) (hC : Sound P C) (hk : okKind b.kind cs) (hro : b.roundOf = none) {id : Nat} {ops : Array Oper} {draw : Bool} (hl : rgL E C n ops draw tm h = some (e, tm', h')) : Runs P n b cs (.region id ops draw) tm h e tm' h' := by
  unfold rgL at hl
  split at hl
  · rename_i tl h₂ hx
    cases hb0 : (Nat.beq tl.length n && noDef ops.toList) with
    | false => rw [hb0] at hl; cases hl
    | true =>
      rw [hb0, cond_true] at hl
      simp only [Bool.and_eq_true] at hb0
      obtain ⟨hb, hnd⟩ := hb0
      split at hl
      · rename_i hdf
        cases hl
        intro k φ w a hf
        have fr : FR 0 φ (h.wdf []) w (lstF n tm) a := ⟨lstF_VR hf, hf.rel.wdf [], by rw [hf.dfs]; exact .nil⟩
        have fin : ∀ {φ' a' w'}, FR 0 φ' h' w' tl a' → a'.defers = a.defers → Fwd φ (h.wdf []) w φ' h' w' → F0 n φ' h' w' (fun i => gt tl i) a' ∧ Fwd φ h w φ' h' w' := by
          intro φ' a' w' f2 hds fw
          refine ⟨⟨?_, fun t => ?_, f2.rel, hds.trans hf.dfs⟩, fw.wdfL⟩
          · rw [← Array.length_toList, ← f2.tms.length]; exact nat_beq hb
          · have := f2.tms.getD t
            simpa [gt_def, junk, undef, Array.getD_eq_getD_getElem?, List.getD_eq_getElem?_getD] using this
        cases draw with
        | true =>
          obtain ⟨φ', a', w', h1, h2, h3, h4⟩ := xdraw_sound ok hC _ _ _ _ _ _ hx 0 φ w a b k cs id hk (by rw [hro]; rfl) fr
          obtain ⟨g1, g2⟩ := fin h2 (h4 hnd) h3
          exact ⟨φ', a', w', h1, g1, g2⟩
        | false =>
          obtain ⟨φ', a', w', h1, h2, h3, h4⟩ := xregion_sound (k := k) (b := b) ok hC hk (rd := false) (by rw [hro]; rfl) ops ops.size 0 φ _ _ a w (by omega) fr hx
          obtain ⟨g1, g2⟩ := fin h2 (h4 (noDef_mem hnd)) h3
          refine ⟨φ', a', w', .head stepR_region ?_, g1, g2⟩
          rw [List.range_eq_range']
          exact h1
      · cases hl
  · cases hl

theorem nextSh_spec {o₀ o₁ : Oper} {it d₁ d₂ : Nat} (hl : nextSh o₀ o₁ = some (it, d₁, d₂)) : o₀.op = .next (.tmp it) false ∧ o₀.dst = some d₁ ∧ o₀.guard = none ∧ o₁.op = .extract (.tmp d₁) 0 ∧ o₁.dst = some d₂ ∧ o₁.guard = none := by
  unfold nextSh at hl
  split at hl
  · rename_i it' d₁' d d₂' q1 q2 q3 q4 q5 q6
    cases hb : Nat.beq d d₁' with
    | false => rw [hb] at hl; cases hl
    | true =>
      rw [hb] at hl; cases hl
      have e := nat_beq hb
      subst e
      exact ⟨q1, q2, q3, q4, q5, q6⟩
  · cases hl
theorem mapSh_spec {it d₁ d₂ : Nat} {z : Code} (hl : mapSh x = some (it, d₁, d₂, z)) : ∃ id ops o₀ o₁, x = .seq (.region id ops false) z ∧ ops = #[o₀, o₁] ∧ nextSh o₀ o₁ = some (it, d₁, d₂) := by
  unfold mapSh at hl
  split at hl
  · rename_i id ops z'
    split at hl
    · rename_i o₀ o₁ ho
      split at hl
      · rename_i hn
        cases hl
        refine ⟨id, ops, o₀, o₁, rfl, ?_, hn⟩
        apply Array.ext'
        rw [ho]
      · cases hl
    · cases hl
  · cases hl

theorem cvB_spec {it r : Nat} {keep : List Nat} {tm₀ tm : Tm} {hc h : AH} (hb : cvB it keep (rsT keep it r tm₀) hc tm h = true) : Cov (rsT keep it r tm₀) hc tm h := by
  unfold cvB at hb
  simp only [Bool.and_eq_true] at hb
  obtain ⟨⟨h1, h2⟩, h3⟩ := hb
  have hk := keepB_spec h1
  refine ⟨fun i => ?_, nat_beq h2, fun x o hx => omSub_get h3 x o hx⟩
  cases e1 : Nat.beq i it with
  | true => rw [nat_beq e1]; exact .inr (hk it (List.mem_cons_self ..))
  | false =>
    cases e2 : memL i keep with
    | true => exact .inr (hk i (List.mem_cons_of_mem _ (memL_iff.1 e2)))
    | false => left; simp only [rsT, e1, e2, cond_false]

theorem mpRun_sound (ok : EnvOK P E) (hC : Sound P C) (hk : okKind b.kind cs) (hro : b.roundOf = none) {keep : List Nat} {δ it d₁ d₂ : Nat} {z : Code} {id : Nat} {ops : Array Oper} {o₀ o₁ : Oper} (ho : ops = #[o₀, o₁]) (hsh : nextSh o₀ o₁ = some (it, d₁, d₂))
    (hl : mpRun E C n N keep δ it d₁ d₂ z tm h = some (e, tm', h')) : Runs P n b cs (.loop (.seq (.region id ops false) z)) tm h e tm' h' := by
  obtain ⟨s1, s2, s3, s4, s5, s6⟩ := nextSh_spec hsh
  unfold mpRun at hl
  split at hl
  · rename_i r hit
    split at hl
    · rename_i m since seen0 cur cl hr
      split at hl
      · rename_i es bs cl' hm
        simp only [Bool.cond_eq_ite] at hl
        split at hl
        · rename_i hc
          simp only [Bool.and_eq_true, Bool.not_eq_true'] at hc
          obtain ⟨⟨⟨⟨⟨⟨⟨q1, q2⟩, q4⟩, q7⟩, q8⟩, q10⟩, q11⟩, q12⟩ := hc
          have ecl := nat_beq q1
          subst ecl
          have hmr : m ≠ r := by rintro rfl; rw [Nat.beq_refl] at q4; cases q4
          split at hl
          · rename_i e₀ tmE hE hlast
            cases hl
            have hget : ∀ S x, (mH r m cl δ bs h S).get x = if x = r then some (.iter m cl (seenM bs S) none cl) else h.get x := fun S x => PT.get_put _ _ _ _
            have hit' : ∀ S, mpT E C n N z keep it d₁ d₂ r m cl δ es bs tm h S it = .pointer (some ⟨r, 0, none⟩) := fun S => by simp only [mpT, rsT, Nat.beq_refl, cond_true]
            have loop := mapLoop (P := P) (E := E) (C := C) (b := b) (cs := cs) (n := n) (id := id) (e₀ := e₀) (z := z) (cT := mpT E C n N z keep it d₁ d₂ r m cl δ es bs tm h) (cH := mH r m cl δ bs h) (seen := seenM bs) (valid := fun S => S < 2 ^ es.length) (lim := 2 ^ es.length) (tmE := tm') (hE := h')
              ok hC hro ho s1 s2 s3 s4 s5 s6 (Nat.le_of_ble_eq_true q7) (Nat.le_of_ble_eq_true q8) q2 hit' (fun S => by rw [hget, if_pos rfl]) (fun S => by rw [hget, if_neg hmr]; exact hm) (fun S S' x hx => by rw [hget, hget, if_neg hx, if_neg hx])
              (fun S hS i ky u x k1 k2 k3 => by
                have hi : i < es.length := (List.getElem?_eq_some_iff.1 k1).1
                have hst := upB_spec (upB_spec q11 S hS) i hi
                unfold mpStep at hst
                rw [k1, k2] at hst
                simp only [Bool.or_eq_true] at hst
                rcases hst with hst | hst
                · exact absurd (memL_iff.1 hst) k3
                · split at hst
                  · rename_i tm' h' hx
                    simp only [Bool.and_eq_true] at hst
                    exact ⟨S + 2 ^ i, tm', h', Nat.le_of_ble_eq_true hst.1, Nat.lt_add_of_pos_right (Nat.two_pow_pos i), runs_of_sxL ok hC hk hro hx, cvB_spec hst.2⟩
                  · cases hst)
              (fun S hS hall => by
                have hq := upB_spec q12 S hS
                simp only [Bool.or_eq_true, Bool.not_eq_true'] at hq
                rcases hq with hq | hq
                · have e := nat_beq hq
                  subst e
                  exact runs_of_sxL ok hC hk hro hlast
                · rw [subS_of hall] at hq; cases hq)
              (fun S hS => hS) (2 ^ es.length) 0 (Nat.sub_le _ _) (Nat.two_pow_pos _)
            have hcov := cvB_spec q10
            intro k φ w a hf
            have hr0 : φ r ≠ none := by
              have hx := hf.tms it
              rw [hit] at hx
              generalize a.tmps.getD it undef = xx at hx
              cases hx with
              | ptr _ _ r' s T hφ => rw [hφ]; simp
            obtain ⟨φ', a', w', g1, g2, g3⟩ := loop k φ w a (hf.cov hcov)
            refine ⟨φ', a', w', g1, g2, ((Fwd.refl φ h w).cov hcov fun x _ hn => ?_).trans hf.rel g3⟩
            rw [hget, if_neg (by rintro rfl; exact hr0 hn)]
          · cases hl
        · cases hl
      · cases hl
    · cases hl
  · cases hl

theorem exLoop_sound {f : Tm → AH → RX} (hf : ∀ {tm tm' : Tm} {h h' : AH} {e : Ex}, f tm h = some (e, tm', h') → Runs P n b cs x tm h e tm' h') : ∀ (m : Nat) {tm tm' : Tm} {h h' : AH} {e : Ex}, exLoop f m tm h = some (e, tm', h') → RunsI P n b cs x tm h e tm' h'
  | 0, _, _, _, _, _, hl => by cases hl
  | m + 1, tm, tm', h, h', e, hl => by
    simp only [exLoop] at hl
    split at hl
    · rename_i hx
      exact .on (hf hx) (exLoop_sound hf m hl)
    · rename_i hn
      exact .stop (hf hl) (by rintro rfl; exact hn _ _ hl)

theorem exR_sound (ok : EnvOK P E) (hC : Sound P C) (hk : okKind b.kind cs) (hro : b.roundOf = none) {keep : List Nat} {δ : Nat} : ∀ (c : Code) {tm tm' : Tm} {h h' : AH} {e : Ex}, exR E C n N keep δ c tm h = some (e, tm', h') → Runs P n b cs c tm h e tm' h' := by
  intro c
  induction c with
  | seq x y ihx ihy =>
    intro tm tm' h h' e hl
    simp only [exR] at hl
    split at hl
    · rename_i hx
      exact (ihx hx).seq (ihy hl)
    · rename_i hn
      exact (ihx hl).seqX (by rintro rfl; exact hn _ _ hl)
  | cond c x y ihx ihy =>
    intro tm tm' h h' e hl
    simp only [exR] at hl
    cases hb : aevF tm c with
    | bool t =>
      rw [hb] at hl
      cases t with
      | true => exact .condG hb (ihx hl)
      | false => exact .condG hb (ihy hl)
    | _ => rw [hb] at hl; cases hl
  | block id x ih =>
    intro tm tm' h h' e hl
    simp only [exR] at hl
    split at hl
    · rename_i hx
      cases hl
      exact (ih hx).blockG
    · cases hl
  | loop x ih =>
    intro tm tm' h h' e hl
    simp only [exR] at hl
    split at hl
    · rename_i it d₁ d₂ z hm
      obtain ⟨id, ops, o₀, o₁, rfl, ho, hs⟩ := mapSh_spec hm
      exact mpRun_sound ok hC hk hro ho hs hl
    · exact (exLoop_sound (fun h => ih h) N hl).loop
  | region id ops draw => intro tm tm' h h' e hl; exact runs_of_rgL ok hC hk hro hl
  | _ => intro tm tm' h h' e hl; exact runs_of_sxL ok hC hk hro hl

theorem exChk_run (ok : EnvOK P E) (hC : Sound P C) {g : FuncId} {fi : FI} (hE : E.fn g = some fi) {keep : List Nat} {δ : Nat} {args : List Value} {L L' : OL} {n' : Nat} (hc : exChk E C fi N keep δ args L n v L' n' = true) : Run P g args L n v L' n' := by
  unfold exChk at hc
  split at hc
  · rename_i e tm h hx
    simp only [Bool.and_eq_true] at hc
    obtain ⟨p1, p2⟩ := hc
    split at p2
    · rename_i l hres
      refine run_of_goes (goes_of_runs ok hE (e := e) (tm' := tm) (h' := h) (by cases e <;> first | exact .inl rfl | exact .inr rfl | cases p1) hres fun b cs hk hro => ?_) p2
      exact exR_sound ok hC hk hro _ hx
    · cases p2
  · cases hc
end
end
end Go.Den

/- A memory of one global variable's block that is told: a law that reads a table. -/
namespace Go.Den
noncomputable section

def φG (g : Nat) : Phi := fun i => bif Nat.beq i 0 then some (g, 0, 0) else none
def hGl (g : Nat) (c : PT Value) : AH := ⟨1, .node (some (.glob g c)) .leaf .leaf, []⟩
theorem φG_inv {g i : Nat} {x : Nat × Nat × Nat} (h : φG g i = some x) : i = 0 ∧ x = (g, 0, 0) := by
  unfold φG at h
  cases e : Nat.beq i 0 with
  | true => rw [e, cond_true] at h; cases h; exact ⟨nat_beq e, rfl⟩
  | false => rw [e] at h; cases h
theorem hGl_get {g : Nat} {c : PT Value} {b : Nat} (hb : b ≠ 0) : (hGl g c).get b = none := by
  show (bif Nat.beq b 0 then some (AObj.glob g c) else bif Nat.beq (b % 2) 1 then PT.leaf.get (b / 2) else PT.leaf.get (b / 2 - 1)) = none
  rw [beq_false_of_ne hb, cond_false, PT.get_leaf, PT.get_leaf]
  cases Nat.beq (b % 2) 1 <;> rfl
theorem hGl_wr (g : Nat) (c : PT Value) (b : Nat) : wrB ((hGl g c).get b) = false := by
  by_cases hb : b = 0
  · subst hb; rfl
  · rw [hGl_get hb]; rfl
/-- nothing that lay before the call has turned. -/
theorem Fwd.keptG {φ : Phi} {h : AH} {W : World} {φ' : Phi} {h' : AH} {w' : World} (f : Fwd φ h W φ' h' w') (hd : ∀ b, wrB (h.get b) = false) : (∀ may, W.keptBut w' may) ∧ ∀ q : MemPlace, q.block < W.heap.size → W.sameAt w' q := by
  refine ⟨fun may => ⟨f.os, f.out, fun i hi => ?_⟩, fun q hq => ?_⟩
  · rw [f.keep i hi fun b s _ => hd b]
    split <;> simp_all
  · have hk : w'.heap[q.block]? = W.heap[q.block]? := f.keep q.block hq fun b s _ => hd b
    cases q with
    | cell b o => simp only [MemPlace.block] at hk; simp only [World.sameAt, World.cell?, hk]
    | map b => exact hk
theorem relG {w : World} {g : Nat} {c : PT Value} {ca : Array Value} {t : TypeId} (hw : w.heap[g]? = some (.cells ca t (0, 0))) (hc : ∀ i v, c.get i = some v → oneC v = true ∧ ca[i]? = some v ∧ ∀ φ, VR φ v v) : Rel (φG g) (hGl g c) w := by
  refine ⟨fun i b' s' T' h => ?_, fun b₁ b₂ b' s₁ s₂ h h' _ _ => ?_, fun i b' s' h => ?_, fun i hi => hGl_get (by have : 1 ≤ i := hi; omega), fun i g' c' hi => ?_⟩
  · obtain ⟨rfl, e⟩ := φG_inv h
    cases e
    refine ⟨ca, t, 0, 0, hw, fun i v hv => ?_⟩
    obtain ⟨h1, h2, h3⟩ := hc i v hv
    exact ⟨h1, fun _ h => by omega, v, h2, h3 _⟩
  · rw [(φG_inv h).1, (φG_inv h').1]
  · obtain ⟨rfl, e⟩ := φG_inv h
    cases e
    exact ⟨Nat.zero_lt_one, (Array.getElem?_eq_some_iff.1 hw).1⟩
  · by_cases e : i = 0
    · subst e; cases hi; exact ⟨0, rfl⟩
    · rw [hGl_get e] at hi; cases hi
/-- a table of bytes. -/
theorem relG_bytes {w : World} {g : Nat} {c : PT Value} {ca : Array Value} {t : TypeId} {zs : List Int} (hw : w.heap[g]? = some (.cells ca t (0, 0))) (hca : ca.toList = zs.map fun z => Value.int .u8 z)
    (hc : c = PT.ofList (zs.map fun z => Value.int .u8 z) 0 .leaf) : Rel (φG g) (hGl g c) w := by
  refine relG hw fun i v hv => ?_
  rw [hc] at hv
  have h1 := ofList_get _ i v hv
  have h2 : ca[i]? = some v := by rw [← Array.getElem?_toList, hca]; exact h1
  rw [List.getElem?_map] at h1
  cases hz : zs[i]? with
  | none => rw [hz] at h1; cases h1
  | some z =>
    rw [hz] at h1
    cases h1
    exact ⟨rfl, h2, fun φ => .int _ _⟩
end
end Go.Den
