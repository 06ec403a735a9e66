/- The law on any options: it gives true, whatever the numbers. Conditions: none. -/
import Derived.Test.YtdkiegheiplkkaaGreatOptFns
import Derived.Test.YtdkiegheiplkkaaGreatAwake
namespace Go.Proofs.YtdkiegheiplkkaaGreat
open Go.Den
def fAwake : List Value → Option Value
  | [] => some (.bool true)
  | _ => none
theorem t16 : Den.Told Tryz.prog 16 (pureF fAwake) := pure_told fAwake fun args v h => by
  unfold fAwake at h
  split at h
  · cases h
    refine ⟨rfl, rfl, ?_⟩
    have hr : (denF envT (den envT noC 100000 14) (xdraw envT (den envT noC 100000 14)) 100000 16 [] h0).map (·.1) = some (.bool true) := awake_run
    cases hd : denF envT (den envT noC 100000 14) (xdraw envT (den envT noC 100000 14)) 100000 16 [] h0 with
    | none => rw [hd] at hr; cases hr
    | some p =>
      obtain ⟨u, h₁⟩ := p
      rw [hd] at hr
      simp at hr
      subst hr
      exact ⟨h₁, fun w args' ha => den_goes envT_ok noC_sound hd ha (rel0 w)⟩
  · cases h
noncomputable def tb3 : PT Fun := ((((PT.leaf.put 12 (some (pureF fNum))).put 13 (some (pureF fOpts))).put 14 (some (pureF fOpts))).put 15 (some (pureF fGood))).put 16 (some (pureF fAwake))
theorem tb3_ok : TabOK Tryz.prog envT tb3 := ((((TabOK.leaf.put t12 (fnS (by kernel_rfl))).put t13 (fnS (by kernel_rfl))).put t14 (fnS (by kernel_rfl))).put t15 (fnS (by kernel_rfl))).put t16 (fnS (by kernel_rfl))
noncomputable def C3 : Oracle := tabS tb3
theorem C3_sound : Sound Tryz.prog C3 := tabS_sound envT_ok tb3_ok

def c1 : Code → Code | .seq x _ => x | .block _ x => x | .loop x => x | .cond _ x _ => x | .scope x => x | c => c
def c2 : Code → Code | .seq _ y => y | .cond _ _ y => y | c => c
def opsOf : Code → Array Oper | .region _ ops _ => ops | _ => #[]
noncomputable def b5 : Code := Tryz.f5.body.getD .skip
noncomputable def ops5 : Array Oper := opsOf (c1 (c2 b5))
section
variable (v w c b : Int) (l : Bool)
def tm5 : List Value := [opts5 v w c l b, .pointer (some ⟨0, 0, none⟩), .bool false] ++ List.replicate 14 undV
def h5 : AH := ⟨1, PT.leaf.put 0 (some (.cells (PT.ofList [.int .i64 v, .int .i64 w, .int .i64 c, .bool l, .int .i64 b] 0 .leaf) 5)), []⟩
theorem e5 : envT.fn 5 = some ⟨b5, 17, #[.tmp 2]⟩ := by kernel_rfl
theorem lead5 (D : Drawer) : frun envT C3 D 5 none 10 ([opts5 v w c l b] ++ List.replicate 16 undV) [.code b5] h0 = frun envT C3 D 5 none 7 (tm5 v w c b l) [.code (.region 1 ops5 true), .code .ret] (h5 v w c b l) := by kernel_rfl
theorem frame5 (D : Drawer) {tm' : List Value} {h' : AH} (hD : D false ops5 (tm5 v w c b l) (h5 v w c b l) = some (tm', h')) (hdf : h'.df = []) : denF envT C3 D 10 5 [opts5 v w c l b] h0 = some (gt tm' 2, h'.wdf []) := by
  have h1 : frun envT C3 D 5 none 10 ([opts5 v w c l b] ++ List.replicate (17 - 1) undV) [.code b5] (h0.wdf []) = some (some .ret, tm', h') := by
    refine (lead5 v w c b l D).trans ?_
    have e : ∀ n, frun envT C3 D 5 none (n + 1) (tm5 v w c b l) [.code (.region 1 ops5 true), .code .ret] (h5 v w c b l) = frun envT C3 D 5 none n tm' [.code .ret] h' := by
      intro n
      have : fstep envT C3 D 5 none (tm5 v w c b l) [.code (.region 1 ops5 true), .code .ret] (h5 v w c b l) = some (.next tm' [.code .ret] h') := by
        show (match D false ops5 (tm5 v w c b l) (h5 v w c b l) with | some (tm', h') => some (St.next tm' [.code .ret] h') | none => none) = _
        rw [hD]
      simp only [frun, this]
    exact (e 6).trans rfl
  unfold denF
  rw [e5]
  simp only [List.length_cons, List.length_nil]
  rw [show (17 - (0 + 1)) = 17 - 1 from rfl, h1]
  simp only [hdf]
  rfl

noncomputable def tp5 : Option (Tr × List (Bool × Bool)) := traceP envT C3 false ops5.toList 1 [none, none, none, none, none, some true] ops5.toList 0 (tm5 v w c b l) ⟨1 + 15, (h5 v w c b l).mem, []⟩
noncomputable def tr5 : Tr := match tp5 v w c b l with | some (t, _) => t | none => []
theorem tr5_eq : tp5 v w c b l = some (tr5 v w c b l, [(ieq (bif badM v w c b then 200 else 0) (bif badM v w c b then 200 else 0), true)]) := by kernel_rfl
theorem stat5 : statGo ops5.toList (masks ops5.toList []) 0 ops5.toList [] = true := by kernel_rfl
theorem len5 : ops5.toList.length = 15 := by kernel_rfl
theorem val5 : gt ((tr5 v w c b l).T 15) 2 = .bool true := by kernel_rfl
theorem df5 : ((tr5 v w c b l).H 15).df = [] := by kernel_rfl
theorem dyn5 : dynGo envT ops5.toList (masks ops5.toList []) (effsOf ops5.toList 0) (tr5 v w c b l) 0 ops5.toList = (bif vEq 64 (opts5 v w c l b) (opts5 v w c l b) && (vEq 64 (opts5 v w c l b) (opts5 v w c l b) && true) then true else false) := by kernel_rfl
theorem ieq_self (x : Bool) : ieq (bif x then 200 else 0) (bif x then 200 else 0) = true := by cases x <;> rfl
theorem vEq5 : vEq 64 (opts5 v w c l b) (opts5 v w c l b) = true := by
  have e : ∀ n (x : Int), vEq (n + 1) (.int .i64 x) (.int .i64 x) = true := fun n x => by simp [vEq]
  have e' : ∀ n (x : Bool), vEq (n + 1) (.bool x) (.bool x) = true := fun n x => by cases x <;> rfl
  show (vEq 63 (.int .i64 v) (.int .i64 v) && (vEq 63 (.int .i64 w) (.int .i64 w) && (vEq 63 (.int .i64 c) (.int .i64 c) && (vEq 63 (.bool l) (.bool l) && (vEq 63 (.int .i64 b) (.int .i64 b) && true))))) = true
  rw [e, e, e, e', e]; rfl
theorem draw5 : xdraw envT C3 false ops5 (tm5 v w c b l) (h5 v w c b l) = some ((tr5 v w c b l).T 15, (tr5 v w c b l).H 15) := by
  have ht := traceP_trace _ _ _ _ _ _ _ (tr5_eq v w c b l) (by simp only [GoodP, List.mem_singleton, forall_eq]; exact ieq_self (badM v w c b))
  unfold xdraw
  rw [stat5, cond_true, len5]
  rw [show trace envT C3 false ops5.toList (h5 v w c b l).next ops5.toList 0 (tm5 v w c b l) { next := (h5 v w c b l).next + 15, mem := (h5 v w c b l).mem, df := (h5 v w c b l).df } = some (tr5 v w c b l) from ht]
  simp only
  rw [dyn5, vEq5]; rfl
theorem law5 : denF envT C3 (xdraw envT C3) 10 5 [opts5 v w c l b] h0 = some (.bool true, ((tr5 v w c b l).H 15).wdf []) := by
  rw [frame5 v w c b l _ (draw5 v w c b l) (df5 v w c b l), val5]
/-- what the law gives, whatever lies in memory. -/
theorem law5_goes (W : World) (args' : List Value) (ha : VRs φ0 [opts5 v w c l b] args') : Goes Tryz.prog 5 ⟨args'⟩ W (Aft φ0 h0 W (.bool true) (((tr5 v w c b l).H 15).wdf [])) :=
  (denF_sound envT_ok C3_sound (xdraw_sound envT_ok C3_sound) (law5 v w c b l)).2.2 φ0 W args' ha (rel0 W)
end
end Go.Proofs.YtdkiegheiplkkaaGreat
