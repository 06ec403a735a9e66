/- The law ScriptNames: it returns true, whatever is in memory, where math/bits' table is as the program's text lays it. Conditions: none. -/
import Derived.JoinedOf
import Derived.JoinedAt
import Derived.RowKit3
import Derived.WideKeyArgs
import Derived.ProofKit
import Derived.LaidMore
import Derived.Lay
import Derived.Lib.LaidTab
import Derived.MakeChecks
import Derived.Stop.Joined
import Derived.Test.YtckpjjgpcfacnaaGreatDoorScriptNamesRun
import Derived.Test.YtckpjjgpcfacnaaGreatDoorScriptNamesFn
import Derived.Test.YtckpjjgpcfacnaaGreatDoorScriptNamesClosed
namespace Go.Proofs.YtckpjjgpcfacnaaGreatDoor
open Go.ChangeShapes Go.WideShapes Go.ChangeAt Go.RowKit Go.Conc Go.Den

def tabZ : List Int := [0, 1, 56, 2, 57, 49, 28, 3, 61, 58, 42, 50, 38, 29, 17, 4, 62, 47, 59, 36, 45, 43, 51, 22, 53, 39, 33, 30, 24, 18, 12, 5, 63, 55, 48, 27, 60, 41, 37, 16, 46, 35, 44, 21, 52, 32, 23, 11, 54, 26, 40, 15, 34, 20, 31, 10, 25, 14, 19, 9, 13, 8, 7, 6]
theorem glC_eq : glC = PT.ofList (tabZ.map fun z => Value.int .u8 z) 0 .leaf := by kernel_rfl
theorem gTab : Tryz.prog.globalNamed "math/bits.deBruijn64tab" = some 5 := by kernel_rfl
theorem tTab : (Tryz.prog.globals[5]?).map (·.type) = some 411 := by kernel_rfl
theorem cTab : Tryz.prog.cellsOf 411 = 64 := by kernel_rfl
theorem cByte : Tryz.prog.cellsOf 5 = 1 := by kernel_rfl
/-- what the row's condition tells of memory. -/
theorem rel_of_laid {W : World} (h : laidMetH Tryz.prog Rows.scriptNamesRow.laid W) : Rel (φG 5) (hGl 5 glC) W := by
  rw [MakeChecks.laidMetH_plain _ _ _ (by kernel_rfl)] at h
  obtain ⟨ps, ⟨g0, t0, cs0, f0, p0, q0, hg0, ht0, hv0, hd0, ⟨g1, t1, cs1, f1, p1, q1, hg1, ht1, hv1, hd1, hr1, hp1⟩, hp0⟩, hnd, hfit⟩ := h
  obtain rfl := Option.some.inj (gTab.symm.trans hg1)
  obtain rfl := Option.some.inj (tTab.symm.trans ht1)
  have hcs : cs1.toList = tabZ.map fun z => Value.int .u8 z := Lib.cells_of_tab (k := .u8) (zs := tabZ) Tryz.underlying411 Tryz.underlying5 cByte cTab hd1
  have hsz : cs1.size = 64 := by rw [← Array.length_toList, hcs]; rfl
  have hmem : MemPlace.cell 5 0 ∈ ps := by
    rw [hp0, hp1]
    refine List.mem_append.2 (.inr (List.mem_append.2 (.inl (List.mem_append.2 (.inl ?_)))))
    rw [hsz]
    decide
  obtain ⟨⟨c, t, hc⟩, _⟩ := hfit _ _ hmem
  have hcc : cs1 = c := by
    simp only [World.var?, hg1, Option.bind_some, hc, Option.some.injEq] at hv1
    exact hv1.symm
  subst hcc
  exact relG_bytes hc hcs glC_eq
theorem scriptNames_calls (W : World) (hL : laidMetH Tryz.prog Rows.scriptNamesRow.laid W) : Calls Tryz.prog 3 #[] W fun e w' => ∃ v, e = .returned v ∧ v = .bool true ∧ (∀ may, W.keptBut w' may) := by
  have h := scriptNames_run
  cases hd : denF envT (den envT (tabS tel90) 1000000 60) (xdraw envT (den envT (tabS tel90) 1000000 60)) 1000000 3 [] (hGl 5 glC) with
  | none => rw [hd] at h; cases h
  | some p =>
    obtain ⟨v, h'⟩ := p
    rw [hd] at h
    simp at h
    subst h
    have hg := den_goes (args' := []) envT_ok (tabS_sound envT_ok tel90_ok) hd .nil (rel_of_laid hL)
    exact Calls.mono hg.calls fun e w' ⟨v, he, φ', h1, h2, h3⟩ => ⟨v, he, h1.bool_inv, (h3.keptG (hGl_wr 5 glC)).1⟩

set_option maxRecDepth 100000 in
theorem scriptNames_lifted (os : Os) (started : os.Started) (H : Type) (enc : TypeId × Value → H) :
    ReturnsInHanded {} Tryz.checked os 3 .any (fun w args => (Rows.scriptNamesSpec.pre enc Tryz.prog Tryz.f3 Rows.scriptNamesRow.domain false w args ∧ laidMetH Tryz.prog Rows.scriptNamesRow.laid w) ∧ sizedMet enc Tryz.prog Tryz.f3 (OpenSpec.ofChange Rows.scriptNamesSpec) false w args)
      (Rows.scriptNamesSpec.post enc Tryz.prog Tryz.f3 false true false false) := by
  refine returnsInHanded_of_change_and (C := Tryz.checked) (X := fun w _ => laidMetH Tryz.prog Rows.scriptNamesRow.laid w) (fun _ _ _ hh h => h.of_heap hh) Tryz.own started (by kernel_rfl) Tryz.func3
    (ChangeSpec.witness_shaped (enc := enc) (C := Tryz.checked) (os := os) (X := fun w _ => laidMetH Tryz.prog Rows.scriptNamesRow.laid w) false (World.laidAll Tryz.prog os Rows.scriptNamesRow.laid) #[] 8 (World.laidAll_os _ _ _)
      (World.shaped_of_ZipB (by kernel_rfl) (by kernel_rfl)) (by kernel_rfl) (by kernel_rfl) (by kernel_rfl)
      (by rw [MakeChecks.laidMetH_plain _ _ _ (by kernel_rfl)]; exact laidMet_laidAll _ (by kernel_rfl) (by kernel_rfl))) ?_
  intro W base args ds gs before hval0 hW _ _ hL _
  have hW' := hW
  obtain ⟨p, q, hA0, hV, rfl, _, _⟩ := hW
  have hA : DataW.TrodAll enc Tryz.prog W 0 (fun _ => true) true Tryz.f3.params.toList args.toList ds p := hA0
  rw [Tryz.params3] at hA
  obtain ⟨rfl, rfl, rfl⟩ := trodAll_none hA
  obtain ⟨rfl, rfl⟩ := trodVars_none hV
  have hcalls := scriptNames_calls W hL
  clear hA0 hval0
  simp only [List.append_nil] at hW'
  refine hcalls.mono fun e w' ⟨v, he, hv, hkept⟩ => ?_
  subst hv
  exact ⟨_, he, _, _, _, [], _, [], hW', trodAll_mk1 (shut_bool Tryz.underlying4 true), trodAll_mk0, rfl, hkept _, fun h => by cases h⟩

theorem scriptNames_holds : Rows.ScriptNamesSaid :=
  OpenClaim.holds_of_wide 3 Tryz.f3 rfl rfl rfl rfl rfl rfl rfl ⟨rfl, rfl, rfl, rfl, rfl⟩ rfl rfl rfl rfl rfl scriptNames_fn Tryz.func3 scriptNames_closed
    (of_decide_eq_true (by kernel_rfl)) (by unfold Func.isWrapper; first | (rw [if_pos (by decide +kernel)]; kernel_rfl) | (rw [if_neg (by decide +kernel)]; exact ⟨rfl, rfl⟩))
    (fun os started H enc _ => scriptNames_lifted os started H enc)
end Go.Proofs.YtckpjjgpcfacnaaGreatDoor
