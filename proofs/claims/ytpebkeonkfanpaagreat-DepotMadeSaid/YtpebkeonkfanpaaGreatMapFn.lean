/- Functions with a loop over a map: their parts. Conditions: none. -/
import Derived.Test.YtpebkeonkfanpaaGreatToldEnv
namespace Go.Proofs.YtpebkeonkfanpaaGreat
open Go.ChangeShapes Go.WideShapes Go.ChangeAt Go.RowKit Go.Conc Go.Den
def opsOf : Code → Array Oper
  | .region _ ops _ => ops
  | _ => #[]
def idOf : Code → Nat
  | .region i _ _ => i
  | _ => 0
def opAt (i : Nat) (ops : Array Oper) : Oper := ops.toList.getD i default
end Go.Proofs.YtpebkeonkfanpaaGreat
