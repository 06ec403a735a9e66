/- Loops over maps, in whatever order the entries come; long runs told in stretches. Conditions: none. -/
import Derived.Test.YtejgabehfdapjaaGreatDenH
namespace Go.Den
noncomputable section
abbrev Ct:=List (Option (Value × AH) × (Value × AH))
def GoodC (cs:Ct):Prop:=∀ p ∈ cs,p.1=some p.2
section
variable {E:Env} {C:Oracle} {n:Nat}
theorem loop_on {x:Code} {K:Kont} {N m:Nat} {tm tm':Tm} {h h':AH} (hx:∀ K,evF E C n N x K tm h=K .normal tm' h') :
    loopK (m+1) (fun G=>evF E C n N x (thenK G K)) tm h=loopK m (fun G=>evF E C n N x (thenK G K)) tm' h':=by
  simp only [loopK];rw [hx];rfl
theorem loop_out {x:Code} {K:Kont} {N m:Nat} {tm tm':Tm} {h h':AH} {e:Ex} (he:e≠.normal) (hx:∀ K,evF E C n N x K tm h=K e tm' h') :
    loopK (m+1) (fun G=>evF E C n N x (thenK G K)) tm h=K e tm' h':=by
  simp only [loopK];rw [hx]
  cases e with
  | normal=>exact absurd rfl he
  | exit id=>rfl
  | ret=>rfl
  | goto l=>rfl
def tmK:List (Nat × Value)→Tm→Tm
  | [],tm=>tm
  | (i,v)::l,tm=>fun j=>bif Nat.beq j i then v else tmK l tm j
theorem tmK_self:∀ (l:List (Nat × Value)) (tm:Tm),(∀ p ∈ l,tm p.1=p.2)→tmK l tm=tm
  | [],_,_=>rfl
  | (i,v)::l,tm,h=>by
    funext j
    simp only [tmK]
    cases hb:Nat.beq j i with
    | true=>rw [nat_beq hb];exact (h _ (List.mem_cons_self ..)).symm
    | false=>rw [cond_false,tmK_self l tm fun p hp=>h p (List.mem_cons_of_mem _ hp)]
end
end
end Go.Den
namespace Go.Den
noncomputable section
section
variable {P:Program} {E:Env} {C:Oracle} {φ:Phi} {w:World} {h h':AH} {v:Value} {b:Frame} {a:Act} {k:List Item} {cs:List Frame} {ops:Array Oper} {tm tm':Tm} {n:Nat}
theorem EsR.back {es:List (Value × Value)} {es':List MapEntry}:∀ (_:EsR φ es es') (i:Nat) (e:MapEntry),es'[i]?=some e→∃ k u,es[i]?=some (k,u)∧VR φ k e.key∧VR φ u e.val:=by
  induction es generalizing es' with
  | nil=>intro hr i e h;cases es' with | nil=>simp at h | cons=>exact hr.elim
  | cons p es ih=>
    intro hr i e h
    cases es' with
    | nil=>exact hr.elim
    | cons x es'=>
      cases i with
      | zero=>simp at h;subst h;exact ⟨p.1,p.2,rfl,hr.1,hr.2.1⟩
      | succ i=>exact ih hr.2.2 i e (by simpa using h)
end
end
end Go.Den
namespace Go.Den
noncomputable section
section
variable {P:Program} {E:Env} {C:Oracle} {φ:Phi} {w:World} {h h':AH} {v:Value} {b:Frame} {a:Act} {k:List Item} {cs:List Frame} {ops:Array Oper} {tm tm':Tm} {n:Nat}
def Runs (P:Program) (n:Nat) (b:Frame) (cs:List Frame) (c:Code) (tm:Tm) (h:AH) (e:Ex) (tm':Tm) (h':AH):Prop:=
  ∀ (k:List Item) (φ:Phi) (w:World) (a:Act),F0 n φ h w tm a→∃ φ' a' w',ArrK P (lone (b.atR a (.code c::k)) cs w) b k cs a' w' e∧F0 n φ' h' w' tm' a'∧Fwd φ h w φ' h' w'
theorem Runs.seq {x y:Code} {e:Ex} {tm₁:Tm} {h₁:AH} (hx:Runs P n b cs x tm h .normal tm₁ h₁) (hy:Runs P n b cs y tm₁ h₁ e tm' h'):Runs P n b cs (.seq x y) tm h e tm' h':=by
  intro k φ w a hf
  obtain ⟨φ₁,a₁,w₁,g1,g2,g3⟩:=hx (.code y::k) φ w a hf
  obtain ⟨φ₂,a₂,w₂,k1,k2,k3⟩:=hy k φ₁ w₁ a₁ g2
  exact ⟨φ₂,a₂,w₂,.of_steps (.head stepR_seq g1) k1,k2,g3.trans hf.rel k3⟩
theorem Runs.block {x:Code} {id:Nat} (hx:Runs P n b cs x tm h (.exit id) tm' h'):Runs P n b cs (.block id x) tm h .normal tm' h':=by
  intro k φ w a hf
  obtain ⟨φ₁,a₁,w₁,g1,g2,g3⟩:=hx (.inBlock id::k) φ w a hf
  exact ⟨φ₁,a₁,w₁,.head stepR_block (g1 k (by simp [exitTo])),g2,g3⟩
end
end
end Go.Den
namespace Go.Den
noncomputable section
def memL (x:Nat):List Nat→Bool
  | []=>false
  | y::l=>bif Nat.beq x y then true else memL x l
def subS (l:List Nat):List Nat→Bool
  | []=>true
  | x::m=>memL x l && subS l m
def subI (o:AObj) (x:Option AObj):Bool:=
  match o,x with
  | .iter m s l none c,some (.iter m' s' l' _ c')=>Nat.beq m m' && Nat.beq s s' && Nat.beq c c' && subS l l' && subS l' l
  | o,x=>obSub o x
theorem subI_some {o:AObj} {x:Option AObj} (h:subI o x=true):x≠none:=by
  unfold subI at h
  split at h
  · simp
  · exact obSub_some h
theorem subI_wr {o:AObj} {x:Option AObj} (h:subI o x=true) (hw:wrB (some o)=true):wrB x=true:=by
  unfold subI at h
  split at h
  · rfl
  · exact obSub_wr h hw
structure Cov (tmc:Tm) (hc:AH) (tm:Tm) (h:AH):Prop where
  t:∀ i,tmc i=junk∨tmc i=tm i
  nx:hc.next=h.next
  sub:∀ b o,hc.get b=some o→subI o (h.get b)=true
section
variable {P:Program} {E:Env} {C:Oracle} {φ φ':Phi} {w w':World} {h h' hc:AH} {v:Value} {b:Frame} {a:Act} {k:List Item} {cs:List Frame} {ops:Array Oper} {tm tm' tmc:Tm} {n:Nat}
theorem Cov.live (c:Cov tmc hc tm h) {i:Nat} (hi:hc.get i≠none):h.get i≠none:=by
  cases e:hc.get i with
  | none=>exact absurd e hi
  | some o=>exact subI_some (c.sub i o e)
theorem Cov.lw (c:Cov tmc hc tm h) {i:Nat} (hi:wrB (hc.get i)=true):wrB (h.get i)=true:=by
  cases e:hc.get i with
  | none=>rw [e] at hi;cases hi
  | some o=>rw [e] at hi;exact subI_wr (c.sub i o e) hi
end
end
end Go.Den
namespace Go.Den
noncomputable section
section
variable {P:Program} {E:Env} {C:Oracle} {φ φ':Phi} {w w':World} {h h' hc:AH} {v:Value} {b:Frame} {a:Act} {k:List Item} {cs:List Frame} {ops:Array Oper} {tm tm' tmc:Tm} {n:Nat}
def keepB (tmc tm:Tm):List Nat→Bool
  | []=>true
  | i::l=>vEq 64 (tmc i) (tm i) && keepB tmc tm l
end
end
end Go.Den
namespace Go.Den
noncomputable section
def seqs:List Code→Code→Code
  | [],c=>c
  | x::l,c=>.seq x (seqs l c)
section
variable {P:Program} {E:Env} {C:Oracle} {v:Value} {b:Frame} {cs:List Frame} {ops:Array Oper} {n:Nat}
end
end
end Go.Den
namespace Go.Den
noncomputable section
def at1:Code→Code
  | .seq x _=>x
  | .cond _ x _=>x
  | .block _ x=>x
  | .loop x=>x
  | .scope x=>x
  | c=>c
def at2:Code→Code
  | .seq _ y=>y
  | .cond _ _ y=>y
  | c=>c
def atP (c:Code):List Nat→Code
  | []=>c
  | 1::p=>atP (at1 c) p
  | _::p=>atP (at2 c) p
section
variable {E:Env} {C:Oracle} {D:Drawer} {fn:FuncId} {tm tm' tm'':List Value} {k k' k'':List Item} {h h' h'':AH}
end
end
end Go.Den
