/- The law DepotKeys: it returns true for any image, whatever is in memory; the image reads as it did. Conditions: none. -/
import Derived.JoinedOf
import Derived.JoinedAt
import Derived.RowKit3
import Derived.WideKeyArgs
import Derived.Conc.HoldsTime
import Derived.Test.YtpebkeonkfanpaaGreatKeyLaw
import Derived.Test.YtpebkeonkfanpaaGreatDepotKeysFn
import Derived.Test.YtpebkeonkfanpaaGreatDepotKeysClosed
namespace Go.Proofs.YtpebkeonkfanpaaGreat
open Go.ChangeShapes Go.WideShapes Go.ChangeAt Go.RowKit Go.Conc Go.Den

open Go.Proofs.YtpebkeonkfanpaaGreat.Sym
def KeysPost (W : World) : Ending → World → Prop := fun e w' => ∃ v, e = .returned v ∧ v = .bool true ∧ (∀ may, W.keptBut w' may) ∧ ∀ q : MemPlace, q.block < W.heap.size → W.sameAt w' q
theorem keys_from {W : World} {x x' : Value} {h : AH} {φ : Phi} (hx : VR φ x x') (hr : Rel φ h W) (hh : ∀ b, h.get b = none)
    (hrun : (denF envT (den envT (tabS telK) 1000000 60) (xdraw envT (den envT (tabS telK) 1000000 60)) 1000000 3 [x] h).map (·.1) = some (.bool true)) : Calls Tryz.prog 3 #[x'] W (KeysPost W) := by
  cases hd : denF envT (den envT (tabS telK) 1000000 60) (xdraw envT (den envT (tabS telK) 1000000 60)) 1000000 3 [x] h with
  | none => rw [hd] at hrun; cases hrun
  | some p =>
    obtain ⟨v, h'⟩ := p
    rw [hd] at hrun
    simp at hrun
    subst hrun
    have hg := den_goes (args' := [x']) envT_ok (tabS_sound envT_ok telK_ok) hd (.cons _ _ _ _ hx .nil) hr
    refine Calls.mono hg.calls fun e w' ⟨v, he, φ', h1, h2, h3⟩ => ?_
    obtain ⟨k1, k2⟩ := h3.keptR fun b => by rw [hh b]; rfl
    exact ⟨v, he, h1.bool_inv, k1, k2⟩
set_option maxRecDepth 100000 in
theorem keys_calls {H : Type} {enc : TypeId × Value → H} (W : World) (base : Nat) (v0 : Value) (d0 : DataW H) (p : List MemPlace) (hv : Cell.okWide Tryz.prog W .any base 22 v0) (ht : DataW.Trod enc Tryz.prog W 0 (fun _ => true) true 22 v0 d0 p) (hz : W.noneFrozen p)
    (hs : ∀ el sp, d0 = .slice el sp → el.length ≤ 140737488351232) : Calls Tryz.prog 3 #[v0] W (KeysPost W) := by
  rcases slice_bytes Tryz.underlying22 Tryz.underlying5 (by kernel_rfl) hv ht hz with rfl | ⟨b, s, c, xs, rfl, hn, hb, ⟨el, sp, hd, hl⟩, hx⟩
  · exact keys_from .sliceNil (rel0 W) h0_get keys_run0
  · by_cases h0 : xs.length = 0
    · have hc : (0 : Nat) ≤ c := Nat.zero_le _
      rw [h0]
      exact keys_from (VR1 hc) (rel1 hb) h1_get keys_run1
    · have hpos : 0 < xs.length := by omega
      have hx256 : ∀ x ∈ xs, x < 256 := fun x hm => by
        obtain ⟨i, hi⟩ := List.getElem?_of_mem hm
        exact (hx i x hi).1
      have hlen : xs.length ≤ 140737488351232 := by rw [← hl]; exact hs el sp hd
      obtain ⟨h₁, hrun⟩ := law3 hx256 hpos hlen (unk 1)
      have hg := (denG_goes envT_ok (tabS_sound envT_ok (tbLaw_ok hx256 hpos hlen (unk 1))) hrun).2 (φR b s (s + c)) W [.slice (some ⟨b, s, none⟩) xs.length c] (.cons _ _ _ _ (VR_R hn) .nil) (relR (c := PT.ofList (xs.map u8) 0 .leaf) hb (roslot_bytes hpos hx))
      refine Calls.mono hg.calls fun e w' ⟨v, he, φ', h1, h2, h3⟩ => ?_
      obtain ⟨k1, k2⟩ := h3.keptR (hR_wr (PT.ofList (xs.map u8) 0 .leaf))
      exact ⟨v, he, h1.bool_inv, k1, k2⟩
set_option maxRecDepth 100000 in
theorem depotKeys_lifted (os : Os) (started : os.Started) (H : Type) (enc : TypeId × Value → H) (F : Stop.Interp) :
    ReturnsInLeavingWide { calm := true } Tryz.checked os 3 .any (Rows.depotKeysSpec.pre6 enc Tryz.prog Tryz.f3 Rows.depotKeysRow.domain false) ((OpenSpec.ofChange Rows.depotKeysSpec).postWith enc Tryz.prog Tryz.f3 F (outsideKept [.timePasses]) false true false) := by
  refine returnsInLeavingWide_of_change_time (C := Tryz.checked) Tryz.own started Tryz.func3
    (ChangeSpec.witness6c (enc := enc) (C := Tryz.checked) (apart := false) ⟨#[], #[.slice none 0 0], []⟩ 8 (by kernel_rfl) (by kernel_rfl) (by kernel_rfl) (by kernel_rfl)) ?_
  intro W base args ds gs before hval0 hW _ hsz _
  have hW' := hW
  obtain ⟨p, q, hA0, hV, rfl, hzz, _⟩ := hW
  have hA : DataW.TrodAll enc Tryz.prog W 0 (fun _ => true) true Tryz.f3.params.toList args.toList ds p := hA0
  have hval : ∀ (j : Nat) t v, Tryz.f3.params[j]? = some t → args[j]? = some v → Value.okWide Tryz.prog W .any base t v := hval0
  have hsz' : (DataW.weightsEach Tryz.prog (Tryz.f3.params.toList ++ Rows.depotKeysSpec.plain.varTypes Tryz.prog) (ds ++ gs)).all (· ≤ reachBytes) = true := hsz
  rw [Tryz.params3] at hA hval hsz'
  obtain ⟨v0, d0, rfl, rfl, h0'⟩ := trodAll_one hA
  obtain ⟨rfl, rfl⟩ := trodVars_none hV
  have hc22 : Cell.okWide Tryz.prog W .any base 22 v0 := by
    have h1 := hval 0 22 v0 rfl rfl
    simp only [Value.okWide, Tryz.underlying22] at h1
    exact h1
  simp only [List.append_nil] at hzz
  have hcalls := keys_calls W base v0 d0 p hc22 h0' hzz fun el sp hd => by
    have h1 := sized_slice hsz' (j := 0) (t := 22) (e := 5) rfl (by rw [hd]; rfl) Tryz.underlying22
    have h2 : Tryz.prog.bytesOf 5 = 1 := by kernel_rfl
    rw [h2, Nat.mul_one] at h1
    have h3 : reachBytes = 140737488351232 := rfl
    omega
  clear hA0 hval0 hsz
  simp only [List.append_nil] at hW'
  obtain ⟨M, last, o, w', t', r1, r2, r3, r4⟩ := good_of_calls (P := Tryz.prog) (by kernel_rfl) hcalls
  refine ⟨M, last, o, w', t', r1, r2, r3, r4.mono fun v hv0 => ?_⟩
  obtain ⟨hv, hkept, hsame⟩ := hv0
  subst hv
  have hos : w'.os = W.os := (hkept fun _ => False).1
  have hww : { w' with os := W.os } = w' := by rw [← hos]
  refine ⟨?_, by rw [hos]; exact ⟨0, rfl⟩⟩
  rw [hww]
  exact ⟨_, _, _, [], _, [], hW', trodAll_mk1 (shut_bool Tryz.underlying4 true), trodAll_mk1 (Go.WideElems.Trod_stays Tryz.laidOut (by kernel_rfl) (of_decide_eq_true (by kernel_rfl)) h0' (fun q hq => hsame q (hW'.lt q hq)) (fun q hq => by simpa using hW'.lt q hq)), rfl, hkept _, fun h => by cases h⟩

theorem depotKeys_holds : Rows.DepotKeysSaid :=
  OpenClaim.holds_of_wide_leaving_time 3 Tryz.f3 rfl rfl rfl rfl rfl rfl rfl ⟨rfl, rfl, rfl, rfl, rfl⟩ rfl rfl rfl rfl rfl depotKeys_fn Tryz.func3 depotKeys_closed
    (of_decide_eq_true (by kernel_rfl)) (by unfold Func.isWrapper; first | (rw [if_pos (by decide +kernel)]; kernel_rfl) | (rw [if_neg (by decide +kernel)]; exact ⟨rfl, rfl⟩))
    (fun os started H enc _ F => depotKeys_lifted os started H enc F)

#print axioms depotKeys_holds
end Go.Proofs.YtpebkeonkfanpaaGreat
