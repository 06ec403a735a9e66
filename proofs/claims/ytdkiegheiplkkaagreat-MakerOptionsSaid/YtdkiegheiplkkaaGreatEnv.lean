/- The interpreter's tables of this program, and what a law without arguments comes to. Conditions: none. -/
import Derived.Test.YtdkiegheiplkkaaGreatDenE
import Derived.Test.YtdkiegheiplkkaaGreatChecked
namespace Go.Proofs.YtdkiegheiplkkaaGreat
open Go.ChangeShapes Go.WideShapes Go.ChangeAt Go.RowKit Go.Conc Go.Den

theorem Tryz.own : ownKnob Tryz.prog.godebug = none := by kernel_rfl
noncomputable def envT : Env := envOf Tryz.prog
theorem envT_ok : EnvOK Tryz.prog envT := envOf_ok (by kernel_rfl) (by kernel_rfl)
noncomputable def denT (g : Nat) (xs : List Value) (h : AH) : Option (Value × AH) := denF envT (den envT noC 100000 14) (xdraw envT (den envT noC 100000 14)) 100000 g xs h
/-- what a closed law comes to. -/
theorem closed_run {g : Nat} {b : Bool} (h : (denT g [] h0).map (·.1) = some (.bool b)) (W : World) :
    Calls Tryz.prog g #[] W fun e w' => ∃ v, e = .returned v ∧ v = .bool b ∧ ∀ may, W.keptBut w' may := by
  cases hd : denT g [] h0 with
  | none => rw [hd] at h; cases h
  | some p =>
    obtain ⟨v, h'⟩ := p
    rw [hd] at h
    simp at h
    subst h
    have hg := den_goes (args' := []) envT_ok noC_sound hd .nil (rel0 W)
    refine Calls.mono hg.calls fun e w' ⟨v, he, φ', h1, h2, h3⟩ => ⟨v, he, h1.bool_inv, fun may => h3.kept h0_get may⟩
end Go.Proofs.YtdkiegheiplkkaaGreat
