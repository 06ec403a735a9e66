/- The law DeviceNone: it returns true whatever is in memory and whatever the argument is, which reads as it did. Conditions: none. -/
import Derived.JoinedOf
import Derived.JoinedAt
import Derived.RowKit3
import Derived.WideKeyArgs
import Derived.Test.YtegemcnnnngmkaaGreatDenJ
import Derived.Test.YtegemcnnnngmkaaGreatDeviceNoneRun
import Derived.Test.YtegemcnnnngmkaaGreatDeviceNoneFn
import Derived.Test.YtegemcnnnngmkaaGreatDeviceNoneClosed
namespace Go.Proofs.YtegemcnnnngmkaaGreat
open Go.ChangeShapes Go.WideShapes Go.ChangeAt Go.RowKit Go.Conc Go.Den

theorem seven {l : List Value} (h : (⟨l⟩ : Array Value).size = 7) : ∃ a b c d e f g, l = [a, b, c, d, e, f, g] := by
  have h' : l.length = 7 := h
  rcases l with _ | ⟨a, _ | ⟨b, _ | ⟨c, _ | ⟨d, _ | ⟨e, _ | ⟨f, _ | ⟨g, _ | ⟨i, l⟩⟩⟩⟩⟩⟩⟩⟩ <;> simp at h'
  exact ⟨a, b, c, d, e, f, g, rfl⟩
theorem deviceNone_from {W : World} {x : Value} {x' : Value} {h : AH} {φ : Phi} (hx : VR φ x x') (hr : Rel φ h W) (hh : ∀ b, h.get b = none)
    (hrun : (denF envT (den envT (tabS telWdeviceNone) 1000000 60) (xdraw envT (den envT (tabS telWdeviceNone) 1000000 60)) 1000000 6 [x] h).map (·.1) = some (.bool true)) :
    Calls Tryz.prog 6 #[x'] W fun e w' => ∃ v, e = .returned v ∧ v = .bool true ∧ (∀ may, W.keptBut w' may) ∧ ∀ q : MemPlace, q.block < W.heap.size → W.sameAt w' q := by
  cases hd : denF envT (den envT (tabS telWdeviceNone) 1000000 60) (xdraw envT (den envT (tabS telWdeviceNone) 1000000 60)) 1000000 6 [x] h with
  | none => rw [hd] at hrun; cases hrun
  | some p =>
    obtain ⟨v, h'⟩ := p
    rw [hd] at hrun
    simp at hrun
    subst hrun
    have hg := den_goes (args' := [x']) envT_ok (tabS_sound envT_ok telWdeviceNone_ok) hd (.cons _ _ _ _ hx .nil) hr
    refine Calls.mono hg.calls fun e w' ⟨v, he, φ', h1, h2, h3⟩ => ⟨v, he, h1.bool_inv, fun may => h3.kept hh may, fun q hq => ?_⟩
    have hk : w'.heap[q.block]? = W.heap[q.block]? := h3.keep q.block hq fun b s _ => by rw [hh b]; rfl
    cases q with
    | cell b o => simp only [MemPlace.block] at hk; simp only [World.sameAt, World.cell?, hk]
    | map b => exact hk
set_option maxRecDepth 100000 in
theorem deviceNone_calls (W : World) (base : Nat) (v0 : Value) (hv : Value.okWide Tryz.prog W .any base 61 v0) : Calls Tryz.prog 6 #[v0] W fun e w' => ∃ v, e = .returned v ∧ v = .bool true ∧ (∀ may, W.keptBut w' may) ∧ ∀ q : MemPlace, q.block < W.heap.size → W.sameAt w' q := by
  simp only [Value.okWide, Tryz.underlying61] at hv
  obtain ⟨⟨l⟩, rfl, hsz, ts, hts, _, hrow⟩ := hv
  have hct : Tryz.prog.cellTypes Tryz.prog.depth 61 = some [3, 59, 59, 59, 3, 3, 26] := by kernel_rfl
  have hcs : Tryz.prog.cellsOf 61 = 7 := by kernel_rfl
  rw [hct] at hts
  rw [hcs] at hsz
  cases hts
  obtain ⟨c0, c1, c2, c3, c4, c5, c6, rfl⟩ := seven hsz
  obtain ⟨_, hu0, k0⟩ := hrow 0 c0 rfl; cases hu0
  obtain ⟨_, hu1, k1⟩ := hrow 1 c1 rfl; cases hu1
  obtain ⟨_, hu2, k2⟩ := hrow 2 c2 rfl; cases hu2
  obtain ⟨_, hu3, k3⟩ := hrow 3 c3 rfl; cases hu3
  obtain ⟨_, hu4, k4⟩ := hrow 4 c4 rfl; cases hu4
  obtain ⟨_, hu5, k5⟩ := hrow 5 c5 rfl; cases hu5
  obtain ⟨_, hu6, k6⟩ := hrow 6 c6 rfl; cases hu6
  obtain ⟨a0, rfl⟩ := cell_int Tryz.underlying3 k0
  obtain ⟨a1, rfl⟩ := cell_int Tryz.underlying59 k1
  obtain ⟨a2, rfl⟩ := cell_int Tryz.underlying59 k2
  obtain ⟨a3, rfl⟩ := cell_int Tryz.underlying59 k3
  obtain ⟨a4, rfl⟩ := cell_int Tryz.underlying3 k4
  obtain ⟨a5, rfl⟩ := cell_int Tryz.underlying3 k5
  have k6' : oneC c6 = true := by
    rcases cell_slice Tryz.underlying26 k6 with rfl | ⟨b, s, n, c, rfl, hn, hb⟩ <;> rfl
  exact deviceNone_from (.agg _ _ (.cons _ _ _ _ (.any 0 _ rfl) (.cons _ _ _ _ (.any 0 _ rfl) (.cons _ _ _ _ (.any 0 _ rfl) (.cons _ _ _ _ (.any 0 _ rfl) (.cons _ _ _ _ (.any 0 _ rfl) (.cons _ _ _ _ (.any 0 _ rfl) (.cons _ _ _ _ (.any 0 _ k6') .nil)))))))) (rel0 W) h0_get deviceNone_run

set_option maxRecDepth 100000 in
theorem deviceNone_lifted (os : Os) (started : os.Started) (H : Type) (enc : TypeId × Value → H) :
    ReturnsInHanded {} Tryz.checked os 6 .any (Rows.deviceNoneSpec.pre6 enc Tryz.prog Tryz.f6 Rows.deviceNoneRow.domain false) (Rows.deviceNoneSpec.post enc Tryz.prog Tryz.f6 false true false false) := by
  refine returnsInHanded_of_change (C := Tryz.checked) Tryz.own started (by kernel_rfl) Tryz.func6
    (ChangeSpec.witness6 (enc := enc) (C := Tryz.checked) false ⟨#[], #[.agg #[.int .i64 0, .int .u64 0, .int .u64 0, .int .u64 0, .int .i64 0, .int .i64 0, .slice none 0 0]], []⟩ 8 (by kernel_rfl) (by kernel_rfl) (by kernel_rfl) (by kernel_rfl)) ?_
  intro W base args ds gs before hval0 hW _ _
  have hW' := hW
  obtain ⟨p, q, hA0, hV, rfl, _, _⟩ := hW
  have hA : DataW.TrodAll enc Tryz.prog W 0 (fun _ => true) true Tryz.f6.params.toList args.toList ds p := hA0
  rw [Tryz.params6] at hA
  obtain ⟨v0, d0, rfl, rfl, h0'⟩ := trodAll_one hA
  obtain ⟨rfl, rfl⟩ := trodVars_none hV
  have hcalls := deviceNone_calls W base v0 (hval0 0 61 v0 (by rw [Tryz.params6]; rfl) rfl)
  clear hA0 hval0
  simp only [List.append_nil] at hW'
  refine hcalls.mono fun e w' ⟨v, he, hv, hkept, hsame⟩ => ?_
  subst hv
  exact ⟨_, he, _, _, _, [], _, [], hW', trodAll_mk1 (shut_bool Tryz.underlying4 true), trodAll_mk1 (Go.WideElems.Trod_stays Tryz.laidOut (by kernel_rfl) (of_decide_eq_true (by kernel_rfl)) h0' (fun q hq => hsame q (hW'.lt q hq)) (fun q hq => by simpa using hW'.lt q hq)), rfl, hkept _, fun h => by cases h⟩

theorem deviceNone_holds : Rows.DeviceNoneSaid :=
  OpenClaim.holds_of_wide 6 Tryz.f6 rfl rfl rfl rfl rfl rfl rfl ⟨rfl, rfl, rfl, rfl, rfl⟩ rfl rfl rfl rfl rfl deviceNone_fn Tryz.func6 deviceNone_closed
    (of_decide_eq_true (by kernel_rfl)) (by unfold Func.isWrapper; first | (rw [if_pos (by decide +kernel)]; kernel_rfl) | (rw [if_neg (by decide +kernel)]; exact ⟨rfl, rfl⟩))
    (fun os started H enc _ => deviceNone_lifted os started H enc)

#print axioms deviceNone_holds
end Go.Proofs.YtegemcnnnngmkaaGreat
