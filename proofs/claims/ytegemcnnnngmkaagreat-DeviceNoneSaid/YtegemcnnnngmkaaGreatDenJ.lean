/- A block of which nothing is told. Conditions: none. -/
import Derived.Test.YtegemcnnnngmkaaGreatDenI
import Derived.WideShapes

/- A memory of one block of which nothing is told: an argument's elements that nobody reads. -/
namespace Go.Den
noncomputable section

def h1 : AH := ⟨1, .leaf, []⟩
def φ1 (b s : Nat) : Phi := fun i => bif Nat.beq i 0 then some (b, s, s) else none
theorem h1_get (b : Nat) : h1.get b = none := PT.get_leaf b
theorem φ1_inv {b s i : Nat} {x : Nat × Nat × Nat} (h : φ1 b s i = some x) : i = 0 ∧ x = (b, s, s) := by
  unfold φ1 at h
  cases e : Nat.beq i 0 with
  | true => rw [e, cond_true] at h; cases h; exact ⟨nat_beq e, rfl⟩
  | false => rw [e] at h; cases h
theorem rel1 {w : World} {b s : Nat} (hb : b < w.heap.size) : Rel (φ1 b s) h1 w := by
  refine ⟨fun i b' s' T h => ?_, fun b₁ b₂ b' s₁ s₂ h h' _ _ => ?_, fun i b' s' h => ?_, fun i _ => h1_get i⟩
  · rw [h1_get]; trivial
  · rw [(φ1_inv h).1, (φ1_inv h').1]
  · obtain ⟨rfl, e⟩ := φ1_inv h
    cases e
    exact ⟨Nat.zero_lt_one, hb⟩
theorem VR1 {b s n c : Nat} (hn : n ≤ c) : VR (φ1 b s) (.slice (some ⟨0, 0, none⟩) n (unk 0)) (.slice (some ⟨b, s, none⟩) n c) := by
  have h := VR.slice (φ := φ1 b s) 0 0 b s s n (unk 0) c rfl hn (.inr ⟨0, rfl, by simp⟩)
  rw [Nat.zero_add] at h; exact h

section
variable {P : Program} {w : World} {r : Reach} {base u : Nat} {v : Value}
theorem cell_int {k : IntKind} (ht : P.underlying u = some (.int k)) (h : Cell.okWide P w r base u v) : ∃ n, v = .int k n := by
  simp only [Cell.okWide, ht] at h
  cases v <;> simp_all [Cell.ok]
theorem cell_slice {e : TypeId} (ht : P.underlying u = some (.slice e)) (h : Cell.okWide P w r base u v) : v = .slice none 0 0 ∨ ∃ b s n c, v = .slice (some ⟨b, s, none⟩) n c ∧ n ≤ c ∧ b < w.heap.size := by
  simp only [Cell.okWide, ht, Cell.ok] at h
  split at h
  · cases ‹some _ = some _›
  · cases ‹some _ = some _›
  · cases ‹some _ = some _›
  · cases ‹some _ = some _›
  · cases ‹some _ = some _›
  · cases ‹some _ = some _›
  · exact .inl rfl
  · cases ‹some _ = some _›
  · rename_i a n c _
    obtain ⟨h1, _, _, h2, row, cells, h3, _⟩ := h
    obtain ⟨b, s, p⟩ := a
    simp only at h2 h3
    subst h2
    refine .inr ⟨b, s, n, c, rfl, h1, ?_⟩
    unfold World.shape? at h3
    cases hb : w.heap[b]? with
    | none => rw [hb] at h3; simp at h3
    | some x => exact (Array.getElem?_eq_some_iff.1 hb).1
  · exact h.elim
end
end
end Go.Den
