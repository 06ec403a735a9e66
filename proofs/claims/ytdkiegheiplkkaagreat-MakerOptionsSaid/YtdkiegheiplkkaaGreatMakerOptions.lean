/- The law MakerOptions: it returns true for any options, whatever is in memory; the options read as they did. Conditions: none. -/
import Derived.ChangeSame
import Derived.JoinedOf
import Derived.JoinedAt
import Derived.RowKit3
import Derived.Deep.Strs
import Derived.Test.YtdkiegheiplkkaaGreatOptLaw
import Derived.Test.YtdkiegheiplkkaaGreatMakerOptionsFn
import Derived.Test.YtdkiegheiplkkaaGreatMakerOptionsClosed
namespace Go.Proofs.YtdkiegheiplkkaaGreat
open Go.Den
open Go.ChangeShapes Go.WideShapes Go.ChangeAt Go.RowKit Go.Conc Go.Deep
theorem five {l : List Value} (h : (⟨l⟩ : Array Value).size = 5) : ∃ a b c d e, l = [a, b, c, d, e] := by
  have h' : l.length = 5 := h
  rcases l with _ | ⟨a, _ | ⟨b, _ | ⟨c, _ | ⟨d, _ | ⟨e, _ | ⟨f, l⟩⟩⟩⟩⟩⟩ <;> simp at h'
  exact ⟨a, b, c, d, e, rfl⟩
theorem Tryz.cells3 : Tryz.prog.cellsOf 3 = 1 := by kernel_rfl
theorem Tryz.cells4 : Tryz.prog.cellsOf 4 = 1 := by kernel_rfl
theorem Tryz.cells37 : Tryz.prog.cellsOf 37 = 3 := by kernel_rfl
theorem Tryz.cells39 : Tryz.prog.cellsOf 39 = 4 := by kernel_rfl
theorem Tryz.cells41 : Tryz.prog.cellsOf 41 = 5 := by kernel_rfl
set_option maxHeartbeats 4000000 in
set_option maxRecDepth 100000 in
theorem makerOptions_lifted (os : Os) (started : os.Started) (H : Type) (enc : TypeId × Value → H) :
    ReturnsInHanded {} Tryz.checked os 5 .any (Rows.makerOptionsSpec.pre6 enc Tryz.prog Tryz.f5 Rows.makerOptionsRow.domain false) (Rows.makerOptionsSpec.post enc Tryz.prog Tryz.f5 false true false false) := by
  refine returnsInHanded_of_change (C := Tryz.checked) Tryz.own started (by kernel_rfl) Tryz.func5
    (ChangeSpec.witness6 (enc := enc) (C := Tryz.checked) false ⟨#[], #[.agg #[.int .i64 0, .int .i64 0, .int .i64 0, .bool false, .int .i64 0]], []⟩ 8 (by kernel_rfl) (by kernel_rfl) (by kernel_rfl) (by kernel_rfl)) ?_
  intro W base args ds gs before hval0 hW _ _
  have hval : ∀ (j : Nat) t v, Tryz.f5.params[j]? = some t → args[j]? = some v → Value.okWide Tryz.prog W .any base t v := hval0
  have hW' := hW
  obtain ⟨p, q, hA0, hV, rfl, _, _⟩ := hW
  have hA : DataW.TrodAll enc Tryz.prog W 0 (fun _ => true) true Tryz.f5.params.toList args.toList ds p := hA0
  rw [Tryz.params5] at hA hval
  obtain ⟨v0, d0, rfl, rfl, h0'⟩ := trodAll_one hA
  obtain ⟨rfl, rfl⟩ := trodVars_none hV
  obtain ⟨cs, rfl, hsz⟩ := okWide_struct Tryz.underlying41 (hval 0 41 v0 rfl rfl)
  rw [Tryz.cells41] at hsz
  obtain ⟨l⟩ := cs
  obtain ⟨c0, c1, c2, c3, c4, rfl⟩ := five hsz
  obtain ⟨fuel, hf⟩ := h0'
  obtain ⟨y0, y1, m, hx, _, hy0, hy1⟩ := trod_struct2 Tryz.underlying41 hf
  obtain ⟨z0, z1, m', hz, _, hz0, hz1⟩ := trod_struct2 Tryz.underlying39 hy1
  obtain ⟨u0, u1, u2, m'', hu, _, hu0, hu1, hu2⟩ := trod_struct3 Tryz.underlying37 hz0
  obtain ⟨a0, e0, rfl, w0⟩ := DataW.trod_int Tryz.underlying3 hy0
  obtain ⟨a1, e1, rfl, w1⟩ := DataW.trod_int Tryz.underlying3 hu0
  obtain ⟨a2, e2, rfl, w2⟩ := DataW.trod_int Tryz.underlying3 hu1
  obtain ⟨a3, e3, rfl⟩ := DataW.trod_bool Tryz.underlying4 hu2
  obtain ⟨a4, e4, rfl, w4⟩ := DataW.trod_int Tryz.underlying3 hz1
  simp [Value.cells, Tryz.cells3, Tryz.cells4, Tryz.cells37, Tryz.cells39] at e0 e1 e2 e3 e4
  subst e0 e1 e2 e3 e4
  subst hu
  subst hz
  simp only [Prod.mk.injEq] at hx
  obtain ⟨rfl, rfl⟩ := hx
  clear hA0 hval0
  simp only [List.append_nil] at hW'
  have reads : ∀ (W' : World) (sp : Nat → Bool), DataW.Trod enc Tryz.prog W' 0 sp true 41 (.agg #[.int .i64 a0, .int .i64 a1, .int .i64 a2, .bool a3, .int .i64 a4])
      (.agg [.lit (.int .i64 a0), .agg [.agg [.lit (.int .i64 a1), .lit (.int .i64 a2), .lit (.bool a3)], .lit (.int .i64 a4)]]) [] := fun W' sp => ⟨4, by
    have f0 : ∀ n, DataW.trod enc Tryz.prog W' 0 sp true (n + 1) 3 [.int .i64 a0] = some (.lit (.int .i64 a0), []) := fun n => trod_int_mk n Tryz.underlying3 w0
    have f1 : ∀ n, DataW.trod enc Tryz.prog W' 0 sp true (n + 1) 3 [.int .i64 a1] = some (.lit (.int .i64 a1), []) := fun n => trod_int_mk n Tryz.underlying3 w1
    have f2 : ∀ n, DataW.trod enc Tryz.prog W' 0 sp true (n + 1) 3 [.int .i64 a2] = some (.lit (.int .i64 a2), []) := fun n => trod_int_mk n Tryz.underlying3 w2
    have f3 : ∀ n, DataW.trod enc Tryz.prog W' 0 sp true (n + 1) 4 [.bool a3] = some (.lit (.bool a3), []) := fun n => by simp [DataW.trod, Tryz.underlying4]
    have f4 : ∀ n, DataW.trod enc Tryz.prog W' 0 sp true (n + 1) 3 [.int .i64 a4] = some (.lit (.int .i64 a4), []) := fun n => trod_int_mk n Tryz.underlying3 w4
    have g0 := trod_struct3_mk (enc := enc) (w := W') (base := 0) (spare := sp) (held := true) (n := 1) (cs := [.int .i64 a1, .int .i64 a2, .bool a3]) Tryz.underlying37 (by simp [Tryz.cells37])
      (by simpa [Tryz.cells3] using f1 0) (by simpa [Tryz.cells3] using f2 0) (by simpa [Tryz.cells4] using f3 0)
    have g1 := trod_struct2_mk (enc := enc) (w := W') (base := 0) (spare := sp) (held := true) (n := 2) (cs := [.int .i64 a1, .int .i64 a2, .bool a3, .int .i64 a4]) Tryz.underlying39 (by simp [Tryz.cells39])
      (by simpa [Tryz.cells37] using g0) (by simpa [Tryz.cells3] using f4 1)
    have g2 := trod_struct2_mk (enc := enc) (w := W') (base := 0) (spare := sp) (held := true) (n := 3) (cs := [.int .i64 a0, .int .i64 a1, .int .i64 a2, .bool a3, .int .i64 a4]) Tryz.underlying41 (by simp [Tryz.cells41])
      (by simpa [Tryz.cells3] using f0 2) (by simpa [Tryz.cells39] using g1)
    simpa [Value.cells] using g2⟩
  have hcalls := (law5_goes a0 a1 a2 a4 a3 W [.agg ⟨[.int .i64 a0, .int .i64 a1, .int .i64 a2, .bool a3, .int .i64 a4]⟩] (.cons _ _ _ _ (.agg _ _ (.cons _ _ _ _ (.int _ _) (.cons _ _ _ _ (.int _ _) (.cons _ _ _ _ (.int _ _) (.cons _ _ _ _ (.bool _) (.cons _ _ _ _ (.int _ _) .nil)))))) .nil)).calls
  have hcalls' : Calls Tryz.prog 5 #[.agg #[.int .i64 a0, .int .i64 a1, .int .i64 a2, .bool a3, .int .i64 a4]] W fun e w' => ∃ v, e = .returned v ∧ v = .bool true ∧ ∀ may, W.keptBut w' may :=
    Calls.mono hcalls fun e w' ⟨v, he, φ', h1, h2, h3⟩ => ⟨v, he, h1.bool_inv, fun may => h3.kept h0_get may⟩
  refine hcalls'.mono fun e w' ⟨v, he, hv, hkept⟩ => ?_
  subst hv
  exact ⟨_, he, _, _, _, [], _, [], hW', trodAll_mk1 (shut_bool Tryz.underlying4 true), trodAll_mk1 (reads w' _), rfl, hkept _,
    fun h => by cases h⟩

theorem makerOptions_holds : Rows.MakerOptionsSaid :=
  OpenClaim.holds_of_wide 5 Tryz.f5 rfl rfl rfl rfl rfl rfl rfl ⟨rfl, rfl, rfl, rfl, rfl⟩ rfl rfl rfl rfl rfl makerOptions_fn Tryz.func5 makerOptions_closed
    (of_decide_eq_true (by kernel_rfl)) (by unfold Func.isWrapper; first | (rw [if_pos (by decide +kernel)]; kernel_rfl) | (rw [if_neg (by decide +kernel)]; exact ⟨rfl, rfl⟩))
    (fun os started H enc _ => makerOptions_lifted os started H enc)

#print axioms makerOptions_holds
end Go.Proofs.YtdkiegheiplkkaaGreat
