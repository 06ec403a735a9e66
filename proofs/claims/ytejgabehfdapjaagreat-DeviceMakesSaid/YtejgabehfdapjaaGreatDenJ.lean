/- A block of which nothing is told. Conditions: none. -/
import Derived.Test.YtejgabehfdapjaaGreatDenI
import Derived.WideShapes
namespace Go.Den
noncomputable section
def h1:AH:=⟨1,.leaf,[]⟩
section
variable {P:Program} {w:World} {r:Reach} {base u:Nat} {v:Value}
theorem cell_int {k:IntKind} (ht:P.underlying u=some (.int k)) (h:Cell.okWide P w r base u v):∃ n,v=.int k n:=by
  simp only [Cell.okWide,ht] at h
  cases v <;> simp_all [Cell.ok]
theorem cell_slice {e:TypeId} (ht:P.underlying u=some (.slice e)) (h:Cell.okWide P w r base u v):v=.slice none 0 0∨∃ b s n c,v=.slice (some ⟨b,s,none⟩) n c∧n≤c∧b < w.heap.size:=by
  simp only [Cell.okWide,ht,Cell.ok] at h
  split at h
  · cases ‹some _=some _›
  · cases ‹some _=some _›
  · cases ‹some _=some _›
  · cases ‹some _=some _›
  · cases ‹some _=some _›
  · cases ‹some _=some _›
  · exact .inl rfl
  · cases ‹some _=some _›
  · rename_i a n c _
    obtain ⟨h1,_,_,h2,row,cells,h3,_⟩:=h
    obtain ⟨b,s,p⟩:=a
    simp only at h2 h3
    subst h2
    refine .inr ⟨b,s,n,c,rfl,h1,?_⟩
    unfold World.shape? at h3
    cases hb:w.heap[b]? with
    | none=>rw [hb] at h3;simp at h3
    | some x=>exact (Array.getElem?_eq_some_iff.1 hb).1
  · exact h.elim
end
end
end Go.Den
