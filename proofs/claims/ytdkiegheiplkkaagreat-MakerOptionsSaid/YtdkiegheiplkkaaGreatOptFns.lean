/- The checks of options, the maker's and the document's: what each gives, for any numbers. Conditions: none. -/
import Derived.Test.YtdkiegheiplkkaaGreatDenG
import Derived.Test.YtdkiegheiplkkaaGreatEnv
namespace Go.Proofs.YtdkiegheiplkkaaGreat
open Go.Den
def badL (w c : Int) : Bool := bif ilt w 1 then true else bif ilt 32768 w then true else bif ilt c 0 then true else ilt 4096 c
def badP (w c b : Int) : Bool := bif badL w c then true else bif ilt b 1 then true else ilt 65536 b
def badM (win w c b : Int) : Bool := bif ilt win 64 then true else bif ilt 65536 win then true else badP w c b
def look3 (w c : Int) (l : Bool) : Value := .agg ⟨[.int .i64 w, .int .i64 c, .bool l]⟩
def press4 (w c : Int) (l : Bool) (b : Int) : Value := .agg ⟨[.int .i64 w, .int .i64 c, .bool l, .int .i64 b]⟩
def opts5 (win w c : Int) (l : Bool) (b : Int) : Value := .agg ⟨[.int .i64 win, .int .i64 w, .int .i64 c, .bool l, .int .i64 b]⟩

/-- what a function gives that touches no memory of its caller. -/
def pureF (f : List Value → Option Value) : Fun := fun args h => match f args with
  | some v => some (v, h)
  | none => none
def Gives0 (g : FuncId) (args : List Value) (v : Value) : Prop := ∃ h₁, ∀ w args', VRs φ0 args args' → Goes Tryz.prog g ⟨args'⟩ w (Aft φ0 h0 w v h₁)

theorem fnS {g : Nat} (h : (envT.fn g).isSome = true) : ∃ fi, envT.fn g = some fi := Option.isSome_iff_exists.1 h
theorem ieq_lit (b : Bool) (k : Int) (hk : k = 72 ∨ k = 100 ∨ k = 200) : (!ieq (bif b then k else 0) 0) = b := by
  rcases hk with rfl | rfl | rfl <;> cases b <;> rfl

/-! ## The window of matches: two functions -/
section
variable (w c : Int) (l : Bool)
theorem d41a : (denP envT noC 41 [true] [look3 w c l] h0).map (fun r => (r.1, r.2.2)) = some (.int .i64 72, [(ilt w 1, true)]) := by kernel_rfl
theorem d41b : (denP envT noC 41 [false, true] [look3 w c l] h0).map (fun r => (r.1, r.2.2)) = some (.int .i64 72, [(ilt 32768 w, true), (ilt w 1, false)]) := by kernel_rfl
theorem d41c : (denP envT noC 41 [false, false, true] [look3 w c l] h0).map (fun r => (r.1, r.2.2)) = some (.int .i64 72, [(ilt c 0, true), (ilt 32768 w, false), (ilt w 1, false)]) := by kernel_rfl
theorem d41d (b : Bool) : (denP envT noC 41 [false, false, false, b] [look3 w c l] h0).map (fun r => (r.1, r.2.2)) = some (.int .i64 (bif b then 72 else 0), [(ilt 4096 c, b), (ilt c 0, false), (ilt 32768 w, false), (ilt w 1, false)]) := by cases b <;> kernel_rfl
theorem d42a : (denP envT noC 42 [true] [look3 w c l] h0).map (fun r => (r.1, r.2.2)) = some (.int .i64 72, [(ilt w 1, true)]) := by kernel_rfl
theorem d42b : (denP envT noC 42 [false, true] [look3 w c l] h0).map (fun r => (r.1, r.2.2)) = some (.int .i64 72, [(ilt 32768 w, true), (ilt w 1, false)]) := by kernel_rfl
theorem d42c : (denP envT noC 42 [false, false, true] [look3 w c l] h0).map (fun r => (r.1, r.2.2)) = some (.int .i64 72, [(ilt c 0, true), (ilt 32768 w, false), (ilt w 1, false)]) := by kernel_rfl
theorem d42d (b : Bool) : (denP envT noC 42 [false, false, false, b] [look3 w c l] h0).map (fun r => (r.1, r.2.2)) = some (.int .i64 (bif b then 72 else 0), [(ilt 4096 c, b), (ilt c 0, false), (ilt 32768 w, false), (ilt w 1, false)]) := by cases b <;> kernel_rfl

theorem g41 : Gives0 41 [look3 w c l] (.int .i64 (bif badL w c then 72 else 0)) := by
  unfold badL
  cases h1 : ilt w 1 with
  | true => exact goes_of_denP' envT_ok noC_sound (d41a w c l) (by simp [GoodP, h1])
  | false => cases h2 : ilt 32768 w with
    | true => exact goes_of_denP' envT_ok noC_sound (d41b w c l) (by simp [GoodP, h1, h2])
    | false => cases h3 : ilt c 0 with
      | true => exact goes_of_denP' envT_ok noC_sound (d41c w c l) (by simp [GoodP, h1, h2, h3])
      | false => exact goes_of_denP' envT_ok noC_sound (d41d w c l (ilt 4096 c)) (by simp [GoodP, h1, h2, h3])
theorem g42 : Gives0 42 [look3 w c l] (.int .i64 (bif badL w c then 72 else 0)) := by
  unfold badL
  cases h1 : ilt w 1 with
  | true => exact goes_of_denP' envT_ok noC_sound (d42a w c l) (by simp [GoodP, h1])
  | false => cases h2 : ilt 32768 w with
    | true => exact goes_of_denP' envT_ok noC_sound (d42b w c l) (by simp [GoodP, h1, h2])
    | false => cases h3 : ilt c 0 with
      | true => exact goes_of_denP' envT_ok noC_sound (d42c w c l) (by simp [GoodP, h1, h2, h3])
      | false => exact goes_of_denP' envT_ok noC_sound (d42d w c l (ilt 4096 c)) (by simp [GoodP, h1, h2, h3])
end
def fLook : List Value → Option Value
  | [.agg ⟨[.int .i64 w, .int .i64 c, .bool _]⟩] => some (.int .i64 (bif badL w c then 72 else 0))
  | _ => none
theorem t41 : Den.Told Tryz.prog 41 (pureF fLook) := pure_told fLook fun args v h => by
  unfold fLook at h
  split at h
  · rename_i w c l; cases h; exact ⟨rfl, rfl, g41 w c l⟩
  · cases h
theorem t42 : Den.Told Tryz.prog 42 (pureF fLook) := pure_told fLook fun args v h => by
  unfold fLook at h
  split at h
  · rename_i w c l; cases h; exact ⟨rfl, rfl, g42 w c l⟩
  · cases h
noncomputable def tb1 : PT Fun := (PT.leaf.put 41 (some (pureF fLook))).put 42 (some (pureF fLook))
theorem tb1_ok : TabOK Tryz.prog envT tb1 := (TabOK.leaf.put t41 (fnS (by kernel_rfl))).put t42 (fnS (by kernel_rfl))
theorem tb1_sound : Sound Tryz.prog (tabS tb1) := tabS_sound envT_ok tb1_ok

/-! ## The blocks: two functions -/
section
variable (w c b : Int) (l : Bool)
theorem d26a : (denP envT (tabS tb1) 26 [true] [press4 w c l b] h0).map (fun r => (r.1, r.2.2)) = some (.int .i64 100, [(!ieq (bif badL w c then 72 else 0) 0, true)]) := by kernel_rfl
theorem d26b : (denP envT (tabS tb1) 26 [false, true] [press4 w c l b] h0).map (fun r => (r.1, r.2.2)) = some (.int .i64 100, [(ilt b 1, true), (!ieq (bif badL w c then 72 else 0) 0, false)]) := by kernel_rfl
theorem d26c (x : Bool) : (denP envT (tabS tb1) 26 [false, false, x] [press4 w c l b] h0).map (fun r => (r.1, r.2.2)) = some (.int .i64 (bif x then 100 else 0), [(ilt 65536 b, x), (ilt b 1, false), (!ieq (bif badL w c then 72 else 0) 0, false)]) := by cases x <;> kernel_rfl
theorem d27a : (denP envT (tabS tb1) 27 [true] [look3 w c l, .int .i64 b] h0).map (fun r => (r.1, r.2.2)) = some (.int .i64 100, [(!ieq (bif badL w c then 72 else 0) 0, true)]) := by kernel_rfl
theorem d27b : (denP envT (tabS tb1) 27 [false, true] [look3 w c l, .int .i64 b] h0).map (fun r => (r.1, r.2.2)) = some (.int .i64 100, [(ilt b 1, true), (!ieq (bif badL w c then 72 else 0) 0, false)]) := by kernel_rfl
theorem d27c (x : Bool) : (denP envT (tabS tb1) 27 [false, false, x] [look3 w c l, .int .i64 b] h0).map (fun r => (r.1, r.2.2)) = some (.int .i64 (bif x then 100 else 0), [(ilt 65536 b, x), (ilt b 1, false), (!ieq (bif badL w c then 72 else 0) 0, false)]) := by cases x <;> kernel_rfl
theorem g26 : Gives0 26 [press4 w c l b] (.int .i64 (bif badP w c b then 100 else 0)) := by
  unfold badP
  have e := ieq_lit (badL w c) 72 (.inl rfl)
  cases h1 : badL w c with
  | true => exact goes_of_denP' envT_ok tb1_sound (d26a w c b l) (by rw [e]; simp [GoodP, h1])
  | false => cases h2 : ilt b 1 with
    | true => exact goes_of_denP' envT_ok tb1_sound (d26b w c b l) (by rw [e]; simp [GoodP, h1, h2])
    | false => exact goes_of_denP' envT_ok tb1_sound (d26c w c b l (ilt 65536 b)) (by rw [e]; simp [GoodP, h1, h2])
theorem g27 : Gives0 27 [look3 w c l, .int .i64 b] (.int .i64 (bif badP w c b then 100 else 0)) := by
  unfold badP
  have e := ieq_lit (badL w c) 72 (.inl rfl)
  cases h1 : badL w c with
  | true => exact goes_of_denP' envT_ok tb1_sound (d27a w c b l) (by rw [e]; simp [GoodP, h1])
  | false => cases h2 : ilt b 1 with
    | true => exact goes_of_denP' envT_ok tb1_sound (d27b w c b l) (by rw [e]; simp [GoodP, h1, h2])
    | false => exact goes_of_denP' envT_ok tb1_sound (d27c w c b l (ilt 65536 b)) (by rw [e]; simp [GoodP, h1, h2])
end
def fPress : List Value → Option Value
  | [.agg ⟨[.int .i64 w, .int .i64 c, .bool _, .int .i64 b]⟩] => some (.int .i64 (bif badP w c b then 100 else 0))
  | _ => none
def fPress' : List Value → Option Value
  | [.agg ⟨[.int .i64 w, .int .i64 c, .bool _]⟩, .int .i64 b] => some (.int .i64 (bif badP w c b then 100 else 0))
  | _ => none
theorem t26 : Den.Told Tryz.prog 26 (pureF fPress) := pure_told fPress fun args v h => by
  unfold fPress at h
  split at h
  · rename_i w c l b; cases h; exact ⟨rfl, rfl, g26 w c b l⟩
  · cases h
theorem t27 : Den.Told Tryz.prog 27 (pureF fPress') := pure_told fPress' fun args v h => by
  unfold fPress' at h
  split at h
  · rename_i w c l b; cases h; exact ⟨rfl, rfl, g27 w c b l⟩
  · cases h
noncomputable def tb2 : PT Fun := (PT.leaf.put 26 (some (pureF fPress))).put 27 (some (pureF fPress'))
theorem tb2_ok : TabOK Tryz.prog envT tb2 := (TabOK.leaf.put t26 (fnS (by kernel_rfl))).put t27 (fnS (by kernel_rfl))
theorem tb2_sound : Sound Tryz.prog (tabS tb2) := tabS_sound envT_ok tb2_ok

/-! ## The whole options: two functions -/
section
variable (v w c b : Int) (l : Bool)
theorem d13a : (denP envT (tabS tb2) 13 [true] [opts5 v w c l b] h0).map (fun r => (r.1, r.2.2)) = some (.int .i64 200, [(ilt v 64, true)]) := by kernel_rfl
theorem d13b : (denP envT (tabS tb2) 13 [false, true] [opts5 v w c l b] h0).map (fun r => (r.1, r.2.2)) = some (.int .i64 200, [(ilt 65536 v, true), (ilt v 64, false)]) := by kernel_rfl
theorem d13c (x : Bool) : (denP envT (tabS tb2) 13 [false, false, x] [opts5 v w c l b] h0).map (fun r => (r.1, r.2.2)) = some (.int .i64 (bif x then 200 else 0), [(!ieq (bif badP w c b then 100 else 0) 0, x), (ilt 65536 v, false), (ilt v 64, false)]) := by cases x <;> kernel_rfl
theorem d14a : (denP envT (tabS tb2) 14 [true] [opts5 v w c l b] h0).map (fun r => (r.1, r.2.2)) = some (.int .i64 200, [(ilt v 64, true)]) := by kernel_rfl
theorem d14b : (denP envT (tabS tb2) 14 [false, true] [opts5 v w c l b] h0).map (fun r => (r.1, r.2.2)) = some (.int .i64 200, [(ilt 65536 v, true), (ilt v 64, false)]) := by kernel_rfl
theorem d14c (x : Bool) : (denP envT (tabS tb2) 14 [false, false, x] [opts5 v w c l b] h0).map (fun r => (r.1, r.2.2)) = some (.int .i64 (bif x then 200 else 0), [(!ieq (bif badP w c b then 100 else 0) 0, x), (ilt 65536 v, false), (ilt v 64, false)]) := by cases x <;> kernel_rfl
theorem g13 : Gives0 13 [opts5 v w c l b] (.int .i64 (bif badM v w c b then 200 else 0)) := by
  unfold badM
  have e := ieq_lit (badP w c b) 100 (.inr (.inl rfl))
  cases h1 : ilt v 64 with
  | true => exact goes_of_denP' envT_ok tb2_sound (d13a v w c b l) (by simp [GoodP, h1])
  | false => cases h2 : ilt 65536 v with
    | true => exact goes_of_denP' envT_ok tb2_sound (d13b v w c b l) (by simp [GoodP, h1, h2])
    | false => exact goes_of_denP' envT_ok tb2_sound (d13c v w c b l (badP w c b)) (by rw [e]; simp [GoodP, h1, h2])
theorem g14 : Gives0 14 [opts5 v w c l b] (.int .i64 (bif badM v w c b then 200 else 0)) := by
  unfold badM
  have e := ieq_lit (badP w c b) 100 (.inr (.inl rfl))
  cases h1 : ilt v 64 with
  | true => exact goes_of_denP' envT_ok tb2_sound (d14a v w c b l) (by simp [GoodP, h1])
  | false => cases h2 : ilt 65536 v with
    | true => exact goes_of_denP' envT_ok tb2_sound (d14b v w c b l) (by simp [GoodP, h1, h2])
    | false => exact goes_of_denP' envT_ok tb2_sound (d14c v w c b l (badP w c b)) (by rw [e]; simp [GoodP, h1, h2])
theorem d12 (x : Int) : (denP envT noC 12 [] [.int .i64 x] h0).map (fun r => (r.1, r.2.2)) = some (.int .i64 x, []) := by kernel_rfl
theorem d15 : (denP envT noC 15 [] [] h0).map (fun r => (r.1, r.2.2)) = some (opts5 64 100 10 false 100, []) := by kernel_rfl
end
def fOpts : List Value → Option Value
  | [.agg ⟨[.int .i64 v, .int .i64 w, .int .i64 c, .bool _, .int .i64 b]⟩] => some (.int .i64 (bif badM v w c b then 200 else 0))
  | _ => none
def fNum : List Value → Option Value
  | [.int .i64 x] => some (.int .i64 x)
  | _ => none
def fGood : List Value → Option Value
  | [] => some (opts5 64 100 10 false 100)
  | _ => none
theorem t13 : Den.Told Tryz.prog 13 (pureF fOpts) := pure_told fOpts fun args v h => by
  unfold fOpts at h
  split at h
  · rename_i v w c l b; cases h; exact ⟨rfl, rfl, g13 v w c b l⟩
  · cases h
theorem t14 : Den.Told Tryz.prog 14 (pureF fOpts) := pure_told fOpts fun args v h => by
  unfold fOpts at h
  split at h
  · rename_i v w c l b; cases h; exact ⟨rfl, rfl, g14 v w c b l⟩
  · cases h
theorem t12 : Den.Told Tryz.prog 12 (pureF fNum) := pure_told fNum fun args v h => by
  unfold fNum at h
  split at h
  · rename_i x; cases h; exact ⟨rfl, rfl, goes_of_denP' envT_ok noC_sound (d12 x) (by simp [GoodP])⟩
  · cases h
theorem t15 : Den.Told Tryz.prog 15 (pureF fGood) := pure_told fGood fun args v h => by
  unfold fGood at h
  split at h
  · cases h; exact ⟨rfl, rfl, goes_of_denP' envT_ok noC_sound d15 (by simp [GoodP])⟩
  · cases h
end Go.Proofs.YtdkiegheiplkkaaGreat
