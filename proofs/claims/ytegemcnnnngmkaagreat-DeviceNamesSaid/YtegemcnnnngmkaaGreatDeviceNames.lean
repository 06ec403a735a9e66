/- The law DeviceNames: it returns true whatever is in memory. Conditions: none. -/
import Derived.JoinedOf
import Derived.JoinedAt
import Derived.RowKit3
import Derived.WideKeyArgs
import Derived.Test.YtegemcnnnngmkaaGreatDeviceNamesRun
import Derived.Test.YtegemcnnnngmkaaGreatDeviceNamesFn
import Derived.Test.YtegemcnnnngmkaaGreatDeviceNamesClosed
namespace Go.Proofs.YtegemcnnnngmkaaGreat
open Go.ChangeShapes Go.WideShapes Go.ChangeAt Go.RowKit Go.Conc Go.Den

theorem deviceNames_calls (W : World) : Calls Tryz.prog 5 #[] W fun e w' => ∃ v, e = .returned v ∧ v = .bool true ∧ (∀ may, W.keptBut w' may) ∧ ∀ q : MemPlace, q.block < W.heap.size → W.sameAt w' q := by
  have h := deviceNames_run
  cases hd : denF envT (den envT (tabS tel70) 1000000 60) (xdraw envT (den envT (tabS tel70) 1000000 60)) 1000000 5 [] h0 with
  | none => rw [hd] at h; cases h
  | some p =>
    obtain ⟨v, h'⟩ := p
    rw [hd] at h
    simp at h
    subst h
    have hg := den_goes (args' := []) envT_ok (tabS_sound envT_ok tel70_ok) hd (.nil) (rel0 W)
    refine Calls.mono hg.calls fun e w' ⟨v, he, φ', h1, h2, h3⟩ => ⟨v, he, h1.bool_inv, fun may => h3.kept h0_get may, fun q hq => ?_⟩
    have hk : w'.heap[q.block]? = W.heap[q.block]? := h3.keep q.block hq fun b s _ => h0_get b
    cases q with
    | cell b o => simp only [MemPlace.block] at hk; simp only [World.sameAt, World.cell?, hk]
    | map b => exact hk

set_option maxRecDepth 100000 in
theorem deviceNames_lifted (os : Os) (started : os.Started) (H : Type) (enc : TypeId × Value → H) :
    ReturnsInHanded {} Tryz.checked os 5 .any (Rows.deviceNamesSpec.pre6 enc Tryz.prog Tryz.f5 Rows.deviceNamesRow.domain false) (Rows.deviceNamesSpec.post enc Tryz.prog Tryz.f5 false true false false) := by
  refine returnsInHanded_of_change (C := Tryz.checked) Tryz.own started (by kernel_rfl) Tryz.func5
    (ChangeSpec.witness6 (enc := enc) (C := Tryz.checked) false ⟨#[], #[], []⟩ 8 (by kernel_rfl) (by kernel_rfl) (by kernel_rfl) (by kernel_rfl)) ?_
  intro W base args ds gs before hval0 hW _ _
  have hW' := hW
  obtain ⟨p, q, hA0, hV, rfl, _, _⟩ := hW
  have hA : DataW.TrodAll enc Tryz.prog W 0 (fun _ => true) true Tryz.f5.params.toList args.toList ds p := hA0
  rw [Tryz.params5] at hA
  obtain ⟨rfl, rfl, rfl⟩ := trodAll_none hA
  obtain ⟨rfl, rfl⟩ := trodVars_none hV
  have hcalls := deviceNames_calls W
  clear hA0 hval0
  simp only [List.append_nil] at hW'
  refine hcalls.mono fun e w' ⟨v, he, hv, hkept, hsame⟩ => ?_
  subst hv
  exact ⟨_, he, _, _, _, [], _, [], hW', trodAll_mk1 (shut_bool Tryz.underlying4 true), trodAll_mk0, rfl, hkept _, fun h => by cases h⟩

theorem deviceNames_holds : Rows.DeviceNamesSaid :=
  OpenClaim.holds_of_wide 5 Tryz.f5 rfl rfl rfl rfl rfl rfl rfl ⟨rfl, rfl, rfl, rfl, rfl⟩ rfl rfl rfl rfl rfl deviceNames_fn Tryz.func5 deviceNames_closed
    (of_decide_eq_true (by kernel_rfl)) (by unfold Func.isWrapper; first | (rw [if_pos (by decide +kernel)]; kernel_rfl) | (rw [if_neg (by decide +kernel)]; exact ⟨rfl, rfl⟩))
    (fun os started H enc _ => deviceNames_lifted os started H enc)

#print axioms deviceNames_holds
end Go.Proofs.YtegemcnnnngmkaaGreat
