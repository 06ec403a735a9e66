/- The law MakerNames: it returns true whatever is in memory. Conditions: none. -/
import Derived.Test.YtaigcimmgncioaaGreatMakerNamesRun
import Derived.Test.YtaigcimmgncioaaGreatMakerNamesFn
import Derived.Test.YtaigcimmgncioaaGreatMakerNamesClosed
namespace Go.Proofs.YtaigcimmgncioaaGreat
open Go.ChangeShapes Go.WideShapes Go.ChangeAt Go.RowKit Go.Conc Go.Den

set_option maxRecDepth 100000 in
theorem makerNames_lifted (os : Os) (started : os.Started) (H : Type) (enc : TypeId × Value → H) :
    ReturnsInLeavingWide {} Tryz.checked os 6 .any (Rows.makerNamesSpec.pre6 enc Tryz.prog Tryz.f6 Rows.makerNamesRow.domain false) (Rows.makerNamesSpec.post enc Tryz.prog Tryz.f6 false true false false) := by
  refine returnsInLeavingWide_of_change_sized (C := Tryz.checked) Tryz.own started Tryz.func6
    (ChangeSpec.witness6 (enc := enc) (C := Tryz.checked) false ⟨#[], #[], []⟩ 8 (by kernel_rfl) (by kernel_rfl) (by kernel_rfl) (by kernel_rfl)) ?_
  intro W base args ds gs before hval0 hW _ _ _
  have hW' := hW
  obtain ⟨p, q, hA0, hV, rfl, _, _⟩ := hW
  have hA : DataW.TrodAll enc Tryz.prog W 0 (fun _ => true) true Tryz.f6.params.toList args.toList ds p := hA0
  rw [Tryz.params6] at hA
  obtain ⟨rfl, rfl, rfl⟩ := trodAll_none hA
  obtain ⟨rfl, rfl⟩ := trodVars_none hV
  clear hA0 hval0
  simp only [List.append_nil] at hW'
  obtain ⟨M, last, o, w', t', r1, r2, r3, r4⟩ := good_of_calls (P := Tryz.prog) (by kernel_rfl) (closed_run makerNames_run W)
  refine ⟨M, last, o, w', t', r1, r2, r3, r4.mono fun v hF => ?_⟩
  obtain ⟨rfl, hkept⟩ := hF
  exact ⟨_, _, _, [], _, [], hW', trodAll_mk1 (shut_bool Tryz.underlying4 true), trodAll_mk0, rfl, hkept _, fun h => by cases h⟩

theorem makerNames_holds : Rows.MakerNamesSaid :=
  OpenClaim.holds_of_wide_leaving 6 Tryz.f6 rfl rfl rfl rfl rfl rfl rfl ⟨rfl, rfl, rfl, rfl, rfl⟩ rfl rfl rfl rfl rfl makerNames_fn Tryz.func6 makerNames_closed
    (of_decide_eq_true (by kernel_rfl)) (by unfold Func.isWrapper; first | (rw [if_pos (by decide +kernel)]; kernel_rfl) | (rw [if_neg (by decide +kernel)]; exact ⟨rfl, rfl⟩))
    (fun os started H enc _ => makerNames_lifted os started H enc)

#print axioms makerNames_holds
end Go.Proofs.YtaigcimmgncioaaGreat
