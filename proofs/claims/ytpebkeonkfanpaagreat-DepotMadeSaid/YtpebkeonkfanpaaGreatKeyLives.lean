/- A depot makes a patch, and tells it again: that run, told. Conditions: none. -/
import Derived.Test.YtpebkeonkfanpaaGreatKeyC
import Derived.Test.YtpebkeonkfanpaaGreatTold4
namespace Go.Proofs.YtpebkeonkfanpaaGreat.Sym
open Go.Den
/-! ## The depot lives -/
def livesN : Nat := 37417
def fLives : Fun := fun args h => match args with
  | [] => some (.bool true, h.up livesN)
  | _ => none
theorem t10 : Den.Told Tryz.prog 10 fLives := by
  refine Told.mono (memo_ok (run_of_den envT_ok (tabS_sound envT_ok tel34_ok) r34)) fun args h x hx => ?_
  unfold fLives at hx
  split at hx
  · cases hx
    show Den.memo [] [] 0 (.bool true) [] livesN [] h = some (.bool true, h.up livesN)
    kernel_rfl
  · cases hx

noncomputable def telK : PT Fun := addT tel0 10 (memo a34 b34 0 c34 d34 37417)
theorem telK_ok : TabOK Tryz.prog envT telK := tel0_ok.add (memo_ok (run_of_den envT_ok (tabS_sound envT_ok tel34_ok) r34)) (fnS (by kernel_rfl))
end Go.Proofs.YtpebkeonkfanpaaGreat.Sym
