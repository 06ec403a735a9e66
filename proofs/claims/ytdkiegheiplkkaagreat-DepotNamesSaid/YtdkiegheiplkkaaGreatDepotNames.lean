/- The law DepotNames: it returns true whatever is in memory. Conditions: none. -/
import Derived.JoinedOf
import Derived.JoinedAt
import Derived.RowKit3
import Derived.Test.YtdkiegheiplkkaaGreatDepotNamesRun
import Derived.Test.YtdkiegheiplkkaaGreatDepotNamesFn
import Derived.Test.YtdkiegheiplkkaaGreatDepotNamesClosed
namespace Go.Proofs.YtdkiegheiplkkaaGreat
open Go.ChangeShapes Go.WideShapes Go.ChangeAt Go.RowKit Go.Conc Go.Den

theorem depotNames_calls (W : World) : Calls Tryz.prog 3 #[] W fun e w' => ∃ v, e = .returned v ∧ v = .bool true ∧ ∀ may, W.keptBut w' may := by
  have h := depotNames_run
  cases hd : denF envT (den envT (tabS tel34) 1000000 60) (xdraw envT (den envT (tabS tel34) 1000000 60)) 1000000 3 [] h0 with
  | none => rw [hd] at h; cases h
  | some p =>
    obtain ⟨v, h'⟩ := p
    rw [hd] at h
    simp at h
    subst h
    have hg := den_goes (args' := []) envT_ok (tabS_sound envT_ok tel34_ok) hd .nil (rel0 W)
    refine Calls.mono hg.calls fun e w' ⟨v, he, φ', h1, h2, h3⟩ => ⟨v, he, h1.bool_inv, fun may => h3.kept h0_get may⟩

set_option maxRecDepth 100000 in
theorem depotNames_lifted (os : Os) (started : os.Started) (H : Type) (enc : TypeId × Value → H) :
    ReturnsInHanded {} Tryz.checked os 3 .any (Rows.depotNamesSpec.pre6 enc Tryz.prog Tryz.f3 Rows.depotNamesRow.domain false) (Rows.depotNamesSpec.post enc Tryz.prog Tryz.f3 false true false false) := by
  refine returnsInHanded_of_change (C := Tryz.checked) Tryz.own started (by kernel_rfl) Tryz.func3
    (ChangeSpec.witness6 (enc := enc) (C := Tryz.checked) false ⟨#[], #[], []⟩ 8 (by kernel_rfl) (by kernel_rfl) (by kernel_rfl) (by kernel_rfl)) ?_
  intro W base args ds gs before hval0 hW _ _
  have hW' := hW
  obtain ⟨p, q, hA0, hV, rfl, _, _⟩ := hW
  have hA : DataW.TrodAll enc Tryz.prog W 0 (fun _ => true) true Tryz.f3.params.toList args.toList ds p := hA0
  rw [Tryz.params3] at hA
  obtain ⟨rfl, rfl, rfl⟩ := trodAll_none hA
  obtain ⟨rfl, rfl⟩ := trodVars_none hV
  clear hA0 hval0
  simp only [List.append_nil] at hW'
  refine (depotNames_calls W).mono fun e w' ⟨v, he, hv, hkept⟩ => ?_
  subst hv
  exact ⟨_, he, _, _, _, [], _, [], hW', trodAll_mk1 (shut_bool Tryz.underlying4 true), trodAll_mk0, rfl, hkept _, fun h => by cases h⟩

theorem depotNames_holds : Rows.DepotNamesSaid :=
  OpenClaim.holds_of_wide 3 Tryz.f3 rfl rfl rfl rfl rfl rfl rfl ⟨rfl, rfl, rfl, rfl, rfl⟩ rfl rfl rfl rfl rfl depotNames_fn Tryz.func3 depotNames_closed
    (of_decide_eq_true (by kernel_rfl)) (by unfold Func.isWrapper; first | (rw [if_pos (by decide +kernel)]; kernel_rfl) | (rw [if_neg (by decide +kernel)]; exact ⟨rfl, rfl⟩))
    (fun os started H enc _ => depotNames_lifted os started H enc)

#print axioms depotNames_holds
end Go.Proofs.YtdkiegheiplkkaaGreat
