/- The law DepotMade: it returns true for any image and any number, whatever is in memory; the arguments read as they did. Conditions: none. -/
import Derived.JoinedOf
import Derived.JoinedAt
import Derived.RowKit3
import Derived.WideKeyArgs
import Derived.Conc.HoldsTime
import Derived.Test.YtpebkeonkfanpaaGreatMadeLaw
import Derived.Test.YtpebkeonkfanpaaGreatDepotMadeFn
import Derived.Test.YtpebkeonkfanpaaGreatDepotMadeClosed
namespace Go.Proofs.YtpebkeonkfanpaaGreat
open Go.ChangeShapes Go.WideShapes Go.ChangeAt Go.RowKit Go.Conc Go.Den

open Go.Proofs.YtpebkeonkfanpaaGreat.Sym
def MadePost (W : World) : Ending → World → Prop := fun e w' => ∃ v, e = .returned v ∧ v = .bool true ∧ (∀ may, W.keptBut w' may) ∧ ∀ q : MemPlace, q.block < W.heap.size → W.sameAt w' q
theorem made_from {W : World} {x x' : Value} {wk : Int} {h : AH} {φ : Phi} (hx : VR φ x x') (hr : Rel φ h W) (hh : ∀ b, h.get b = none)
    (hrun : (denF envT (den envT (tabS telK) 1000000 60) (xdraw envT (den envT (tabS telK) 1000000 60)) 1000000 4 [x, .int .i64 wk] h).map (·.1) = some (.bool true)) : Calls Tryz.prog 4 #[x', .int .i64 wk] W (MadePost W) := by
  cases hd : denF envT (den envT (tabS telK) 1000000 60) (xdraw envT (den envT (tabS telK) 1000000 60)) 1000000 4 [x, .int .i64 wk] h with
  | none => rw [hd] at hrun; cases hrun
  | some p =>
    obtain ⟨v, h'⟩ := p
    rw [hd] at hrun
    simp at hrun
    subst hrun
    have hg := den_goes (args' := [x', .int .i64 wk]) envT_ok (tabS_sound envT_ok telK_ok) hd (.cons _ _ _ _ hx (.cons _ _ _ _ (.int _ _) .nil)) hr
    refine Calls.mono hg.calls fun e w' ⟨v, he, φ', h1, h2, h3⟩ => ?_
    obtain ⟨k1, k2⟩ := h3.keptR fun b => by rw [hh b]; rfl
    exact ⟨v, he, h1.bool_inv, k1, k2⟩
set_option maxRecDepth 100000 in
theorem made_calls {H : Type} {enc : TypeId × Value → H} (W : World) (base : Nat) (v0 : Value) (wk : Int) (d0 : DataW H) (p : List MemPlace) (hv : Cell.okWide Tryz.prog W .any base 22 v0) (ht : DataW.Trod enc Tryz.prog W 0 (fun _ => true) true 22 v0 d0 p) (hz : W.noneFrozen p)
    (hs : ∀ el sp, d0 = .slice el sp → el.length ≤ 140737488351232) : Calls Tryz.prog 4 #[v0, .int .i64 wk] W (MadePost W) := by
  rcases slice_bytes Tryz.underlying22 Tryz.underlying5 (by kernel_rfl) hv ht hz with rfl | ⟨b, s, c, xs, rfl, hn, hb, ⟨el, sp, hd, hl⟩, hx⟩
  · exact made_from .sliceNil (rel0 W) h0_get (made_run0 wk)
  · by_cases h0 : xs.length = 0
    · have hc : (0 : Nat) ≤ c := Nat.zero_le _
      rw [h0]
      exact made_from (VR_R (s := s) hc) (relR0 hb) h1_get (made_run1 wk)
    · have hpos : 0 < xs.length := by omega
      have hx256 : ∀ x ∈ xs, x < 256 := fun x hm => by
        obtain ⟨i, hi⟩ := List.getElem?_of_mem hm
        exact (hx i x hi).1
      have hlen : xs.length ≤ 140737488351232 := by rw [← hl]; exact hs el sp hd
      obtain ⟨h₁, hrun⟩ := law4 (xs := xs) wk
      have hg := (denG_goes envT_ok (CM_sound hx256 hpos hlen) hrun).2 (φR b s (s + c)) W [.slice (some ⟨b, s, none⟩) xs.length c, .int .i64 wk] (.cons _ _ _ _ (VR_R hn) (.cons _ _ _ _ (.int _ _) .nil)) (relR (c := PT.ofList (xs.map u8) 0 .leaf) hb (roslot_bytes hpos hx))
      refine Calls.mono hg.calls fun e w' ⟨v, he, φ', h1, h2, h3⟩ => ?_
      obtain ⟨k1, k2⟩ := h3.keptR (hR_wr (PT.ofList (xs.map u8) 0 .leaf))
      exact ⟨v, he, h1.bool_inv, k1, k2⟩
set_option maxRecDepth 100000 in
theorem depotMade_lifted (os : Os) (started : os.Started) (H : Type) (enc : TypeId × Value → H) (F : Stop.Interp) :
    ReturnsInLeavingWide { calm := true } Tryz.checked os 4 .any (Rows.depotMadeSpec.pre6 enc Tryz.prog Tryz.f4 Rows.depotMadeRow.domain false) ((OpenSpec.ofChange Rows.depotMadeSpec).postWith enc Tryz.prog Tryz.f4 F (outsideKept [.timePasses]) false true false) := by
  refine returnsInLeavingWide_of_change_time (C := Tryz.checked) Tryz.own started Tryz.func4
    (ChangeSpec.witness6c (enc := enc) (C := Tryz.checked) (apart := false) ⟨#[], #[.slice none 0 0, .int .i64 0], []⟩ 8 (by kernel_rfl) (by kernel_rfl) (by kernel_rfl) (by kernel_rfl)) ?_
  intro W base args ds gs before hval0 hW _ hsz _
  have hW' := hW
  obtain ⟨p, q, hA0, hV, rfl, hzz, _⟩ := hW
  have hA : DataW.TrodAll enc Tryz.prog W 0 (fun _ => true) true Tryz.f4.params.toList args.toList ds p := hA0
  have hval : ∀ (j : Nat) t v, Tryz.f4.params[j]? = some t → args[j]? = some v → Value.okWide Tryz.prog W .any base t v := hval0
  have hsz' : (DataW.weightsEach Tryz.prog (Tryz.f4.params.toList ++ Rows.depotMadeSpec.plain.varTypes Tryz.prog) (ds ++ gs)).all (· ≤ reachBytes) = true := hsz
  rw [Tryz.params4] at hA hval hsz'
  obtain ⟨v0, v1, d0, d1, p0, p1, rfl, rfl, rfl, h0', h1'⟩ := trodAll_two hA
  have hv1 := hval 1 3 v1 rfl rfl
  simp only [Value.okWide, Tryz.underlying3] at hv1
  obtain ⟨wk, rfl⟩ := cell_int Tryz.underlying3 hv1
  obtain ⟨rfl, rfl⟩ := trodVars_none hV
  have hc22 : Cell.okWide Tryz.prog W .any base 22 v0 := by
    have h1 := hval 0 22 v0 rfl rfl
    simp only [Value.okWide, Tryz.underlying22] at h1
    exact h1
  simp only [List.append_nil] at hzz
  have hcalls := made_calls W base v0 wk d0 p0 hc22 h0' (fun bb oo hm => hzz bb oo (List.mem_append_left _ hm)) fun el sp hd => by
    have h1 := sized_slice hsz' (j := 0) (t := 22) (e := 5) rfl (by rw [hd]; rfl) Tryz.underlying22
    have h2 : Tryz.prog.bytesOf 5 = 1 := by kernel_rfl
    rw [h2, Nat.mul_one] at h1
    have h3 : reachBytes = 140737488351232 := rfl
    omega
  clear hA0 hval0 hsz
  simp only [List.append_nil] at hW'
  obtain ⟨M, last, o, w', t', r1, r2, r3, r4⟩ := good_of_calls (P := Tryz.prog) (by kernel_rfl) hcalls
  refine ⟨M, last, o, w', t', r1, r2, r3, r4.mono fun v hv0 => ?_⟩
  obtain ⟨hv, hkept, hsame⟩ := hv0
  subst hv
  have hos : w'.os = W.os := (hkept fun _ => False).1
  have hww : { w' with os := W.os } = w' := by rw [← hos]
  refine ⟨?_, by rw [hos]; exact ⟨0, rfl⟩⟩
  rw [hww]
  exact ⟨_, _, _, [], _, [], hW', trodAll_mk1 (shut_bool Tryz.underlying4 true), trodAll_mk2 (Go.WideElems.Trod_stays Tryz.laidOut (by kernel_rfl) (of_decide_eq_true (by kernel_rfl)) h0' (fun q hq => hsame q (hW'.lt q (List.mem_append_left _ hq))) (fun q hq => by simpa using hW'.lt q (List.mem_append_left _ hq))) (Go.WideElems.Trod_stays Tryz.laidOut (by kernel_rfl) (of_decide_eq_true (by kernel_rfl)) h1' (fun q hq => hsame q (hW'.lt q (List.mem_append_right _ hq))) (fun q hq => by simpa using hW'.lt q (List.mem_append_right _ hq))), rfl, hkept _, fun h => by cases h⟩

theorem depotMade_holds : Rows.DepotMadeSaid :=
  OpenClaim.holds_of_wide_leaving_time 4 Tryz.f4 rfl rfl rfl rfl rfl rfl rfl ⟨rfl, rfl, rfl, rfl, rfl⟩ rfl rfl rfl rfl rfl depotMade_fn Tryz.func4 depotMade_closed
    (of_decide_eq_true (by kernel_rfl)) (by unfold Func.isWrapper; first | (rw [if_pos (by decide +kernel)]; kernel_rfl) | (rw [if_neg (by decide +kernel)]; exact ⟨rfl, rfl⟩))
    (fun os started H enc _ F => depotMade_lifted os started H enc F)

#print axioms depotMade_holds
end Go.Proofs.YtpebkeonkfanpaaGreat
