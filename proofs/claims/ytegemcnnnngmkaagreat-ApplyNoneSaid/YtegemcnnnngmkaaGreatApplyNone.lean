/- The law ApplyNone: it returns true whatever is in memory and whatever the argument is, which reads as it did. Conditions: none. -/
import Derived.JoinedOf
import Derived.JoinedAt
import Derived.RowKit3
import Derived.WideKeyArgs
import Derived.Test.YtegemcnnnngmkaaGreatApplyNoneRun
import Derived.Test.YtegemcnnnngmkaaGreatApplyNoneFn
import Derived.Test.YtegemcnnnngmkaaGreatApplyNoneClosed
namespace Go.Proofs.YtegemcnnnngmkaaGreat
open Go.ChangeShapes Go.WideShapes Go.ChangeAt Go.RowKit Go.Conc Go.Den

theorem applyNone_calls (W : World) (v0 : Value) : Calls Tryz.prog 4 #[v0] W fun e w' => ∃ v, e = .returned v ∧ v = .bool true ∧ (∀ may, W.keptBut w' may) ∧ ∀ q : MemPlace, q.block < W.heap.size → W.sameAt w' q := by
  have h := applyNone_run
  cases hd : denF envT (den envT (tabS tel56) 1000000 60) (xdraw envT (den envT (tabS tel56) 1000000 60)) 1000000 4 [.tuple #[]] h0 with
  | none => rw [hd] at h; cases h
  | some p =>
    obtain ⟨v, h'⟩ := p
    rw [hd] at h
    simp at h
    subst h
    have hg := den_goes (args' := [v0]) envT_ok (tabS_sound envT_ok tel56_ok) hd (.cons _ _ _ _ (.junk v0) .nil) (rel0 W)
    refine Calls.mono hg.calls fun e w' ⟨v, he, φ', h1, h2, h3⟩ => ⟨v, he, h1.bool_inv, fun may => h3.kept h0_get may, fun q hq => ?_⟩
    have hk : w'.heap[q.block]? = W.heap[q.block]? := h3.keep q.block hq fun b s _ => h0_get b
    cases q with
    | cell b o => simp only [MemPlace.block] at hk; simp only [World.sameAt, World.cell?, hk]
    | map b => exact hk

set_option maxRecDepth 100000 in
theorem applyNone_lifted (os : Os) (started : os.Started) (H : Type) (enc : TypeId × Value → H) :
    ReturnsInHanded {} Tryz.checked os 4 .any (Rows.applyNoneSpec.pre6 enc Tryz.prog Tryz.f4 Rows.applyNoneRow.domain false) (Rows.applyNoneSpec.post enc Tryz.prog Tryz.f4 false true false false) := by
  refine returnsInHanded_of_change (C := Tryz.checked) Tryz.own started (by kernel_rfl) Tryz.func4
    (ChangeSpec.witness6 (enc := enc) (C := Tryz.checked) false ⟨#[], #[.slice none 0 0], []⟩ 8 (by kernel_rfl) (by kernel_rfl) (by kernel_rfl) (by kernel_rfl)) ?_
  intro W base args ds gs before hval0 hW _ _
  have hW' := hW
  obtain ⟨p, q, hA0, hV, rfl, _, _⟩ := hW
  have hA : DataW.TrodAll enc Tryz.prog W 0 (fun _ => true) true Tryz.f4.params.toList args.toList ds p := hA0
  rw [Tryz.params4] at hA
  obtain ⟨v0, d0, rfl, rfl, h0'⟩ := trodAll_one hA
  obtain ⟨rfl, rfl⟩ := trodVars_none hV
  have hcalls := applyNone_calls W v0
  clear hA0 hval0
  simp only [List.append_nil] at hW'
  refine hcalls.mono fun e w' ⟨v, he, hv, hkept, hsame⟩ => ?_
  subst hv
  exact ⟨_, he, _, _, _, [], _, [], hW', trodAll_mk1 (shut_bool Tryz.underlying4 true), trodAll_mk1 (Go.WideElems.Trod_stays Tryz.laidOut (by kernel_rfl) (of_decide_eq_true (by kernel_rfl)) h0' (fun q hq => hsame q (hW'.lt q hq)) (fun q hq => by simpa using hW'.lt q hq)), rfl, hkept _, fun h => by cases h⟩

theorem applyNone_holds : Rows.ApplyNoneSaid :=
  OpenClaim.holds_of_wide 4 Tryz.f4 rfl rfl rfl rfl rfl rfl rfl ⟨rfl, rfl, rfl, rfl, rfl⟩ rfl rfl rfl rfl rfl applyNone_fn Tryz.func4 applyNone_closed
    (of_decide_eq_true (by kernel_rfl)) (by unfold Func.isWrapper; first | (rw [if_pos (by decide +kernel)]; kernel_rfl) | (rw [if_neg (by decide +kernel)]; exact ⟨rfl, rfl⟩))
    (fun os started H enc _ => applyNone_lifted os started H enc)

#print axioms applyNone_holds
end Go.Proofs.YtegemcnnnngmkaaGreat
