/- A closed fact of the card of ScriptNames: no function of the translation starts a goroutine. Conditions: none. -/
import Derived.SevenTiedAt
import Derived.Test.YtckpjjgpcfacnaaGreatDoorCards
namespace Go.Proofs.YtckpjjgpcfacnaaGreatDoor
open Go

theorem noneGoes : Tryz.prog.funcs.any Func.goes = false := by kernel_rfl
theorem goes_none {P : Program} (h : P.funcs.any Func.goes = false) (f : Nat) : P.goes f = false := by
  unfold Program.goes
  rw [h, Bool.and_false, Bool.or_false, List.any_eq_false]
  intro g _
  cases hg : P.funcs[g]? with
  | none => simp
  | some fn =>
    obtain ⟨hi, hx⟩ := Array.getElem?_eq_some_iff.1 hg
    have := (Array.any_eq_false.1 h) g hi
    rw [hx] at this
    simpa using this
theorem goesBy_none {P : Program} (h : P.funcs.any Func.goes = false) {c : OpenClaim} (hs : c.start = .entering) : false = c.goesBy P := by
  unfold OpenClaim.goesBy Program.goesAt Program.goesFrom
  rw [hs]
  cases P.funcNamed c.func with
  | none => rfl
  | some f => simp [goes_none h f]
theorem scriptNames_goes : false = Rows.scriptNamesRow.goesBy Tryz.pinned.checked.prog := goesBy_none (P := Tryz.prog) noneGoes rfl
end Go.Proofs.YtckpjjgpcfacnaaGreatDoor
