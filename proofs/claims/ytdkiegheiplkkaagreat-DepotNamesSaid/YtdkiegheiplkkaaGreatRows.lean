/-
  No cell of these rows narrows 'for every input' (looked for: loops, veiled, ifaces, maps, wideKeys, modest, calm, conditions, laid).
  DERIVED. THE GIVEN ROWS OF THIS SEAT. 3 by the template 'for every input the law returns true; each argument reads behind the call as it read before'; 0 by the template 'total and deterministic' (their statements: YtdkiegheiplkkaaGreatTotals.lean).
  GIVEN WITH THE SEED: the statements are not yours to turn. If you find one false, say at which input.
  Laid BY PROGRAM, IN A SANDBOX (cutbox-rows.mjs): the forced cells as the released guide's own fill.sh prints them over the translation d9489bdfa7b1d087… (all of the seat's roots in one cut). By AI agents, Wed Nov 11 2026. No macro, syntax, notation, axiom, sorry.
-/
import Derived.Test.YtdkiegheiplkkaaGreatChecked
import GoSem.Claim
import GoSem.ClaimJoined
import GoSem.ClaimMapViews
import Derived.JoinedTies
import Derived.KernelRfl
namespace Go.Proofs.YtdkiegheiplkkaaGreat
/- THE CELL 'sum', in the pinned program and in every row, IS THE sha256 OF THE DUMP (.gsa) THAT YtdkiegheiplkkaaGreatProg.lean LOADS. Nothing in Lean hashes anything: it is a label: what it is worth is what the hold of that sum in a sandbox is worth. -/
noncomputable def Tryz.pinned : Pinned := { name := "ytdkiegheiplkkaagreat", sum := "d9489bdfa7b1d087ba9d76ec6476909a3b5a8718b9b3ceedae12d9bce8a3660a", checked := Tryz.checked }
namespace Rows
def none {H : Type} : Left H := { results := [], args := [] }

/-- 'sapperlaw27.DepotNames': WHATEVER THE INPUT: true; the input reads as it did. -/
def depotNamesSpec : ChangeSpec := { name := "depotNames", fn := fun _ => fun
  | [] => { results := [.lit (.bool true)], args := [] }
  | _ => none }
def depotNamesRow : OpenClaim := { program := "ytdkiegheiplkkaagreat", sum := "d9489bdfa7b1d087ba9d76ec6476909a3b5a8718b9b3ceedae12d9bce8a3660a", func := "sapper/sapperlaw27.DepotNames", spec := "depotNames", inPlace := ["(*internal/sync.Mutex).Lock", "internal/race.Disable", "sync/atomic.CompareAndSwapInt32", "internal/race.Enable", "internal/race.Acquire", "(*internal/sync.Mutex).lockSlow", "internal/sync.runtime_canSpin", "internal/sync.runtime_doSpin", "internal/sync.throw", "internal/sync.runtime_nanotime", "internal/sync.runtime_SemacquireMutex", "sync/atomic.AddInt32", "(*internal/sync.Mutex).Unlock", "internal/race.ReleaseMerge", "(*internal/sync.Mutex).unlockSlow", "internal/sync.fatal", "internal/sync.runtime_Semrelease", "sync/atomic.LoadUint32", "sync/atomic.StoreUint32"], unfollowed := true, recurses := true, plainKeys := false, apart := false }
def DepotNamesSaid : Prop := depotNamesRow.holds Tryz.pinned (OpenSpec.ofChange depotNamesSpec)

/-- ITS FALSE NEIGHBOUR: 'it returns false'. Refute it at one input. -/
def depotNamesWrong : ChangeSpec := { name := "depotNames", fn := fun _ => fun
  | [] => { results := [.lit (.bool false)], args := [] }
  | _ => none }
def DepotNamesWrongFalsely : Prop := depotNamesRow.holds Tryz.pinned (OpenSpec.ofChange depotNamesWrong)

/-- 'sapperlaw27.DepotKeys': WHATEVER THE INPUT: true; the input reads as it did. -/
def depotKeysSpec : ChangeSpec := { name := "depotKeys", fn := fun _ => fun
  | [d] => { results := [.lit (.bool true)], args := [d] }
  | _ => none }
def depotKeysRow : OpenClaim := { program := "ytdkiegheiplkkaagreat", sum := "d9489bdfa7b1d087ba9d76ec6476909a3b5a8718b9b3ceedae12d9bce8a3660a", func := "sapper/sapperlaw27.DepotKeys", spec := "depotKeys", inPlace := ["(*internal/sync.Mutex).Lock", "internal/race.Disable", "sync/atomic.CompareAndSwapInt32", "internal/race.Enable", "internal/race.Acquire", "(*internal/sync.Mutex).lockSlow", "internal/sync.runtime_canSpin", "internal/sync.runtime_doSpin", "internal/sync.throw", "internal/sync.runtime_nanotime", "internal/sync.runtime_SemacquireMutex", "sync/atomic.AddInt32", "(*internal/sync.Mutex).Unlock", "internal/race.ReleaseMerge", "(*internal/sync.Mutex).unlockSlow", "internal/sync.fatal", "internal/sync.runtime_Semrelease", "sync/atomic.LoadUint32", "sync/atomic.StoreUint32"], unfollowed := true, recurses := true, plainKeys := false, apart := false }
def DepotKeysSaid : Prop := depotKeysRow.holds Tryz.pinned (OpenSpec.ofChange depotKeysSpec)

/-- ITS FALSE NEIGHBOUR: 'it returns false'. Refute it at one input. -/
def depotKeysWrong : ChangeSpec := { name := "depotKeys", fn := fun _ => fun
  | [d] => { results := [.lit (.bool false)], args := [d] }
  | _ => none }
def DepotKeysWrongFalsely : Prop := depotKeysRow.holds Tryz.pinned (OpenSpec.ofChange depotKeysWrong)

/-- 'sapperlaw20.MakerOptions': WHATEVER THE INPUT: true; the input reads as it did. -/
def makerOptionsSpec : ChangeSpec := { name := "makerOptions", fn := fun _ => fun
  | [d] => { results := [.lit (.bool true)], args := [d] }
  | _ => none }
def makerOptionsRow : OpenClaim := { program := "ytdkiegheiplkkaagreat", sum := "d9489bdfa7b1d087ba9d76ec6476909a3b5a8718b9b3ceedae12d9bce8a3660a", func := "sapper/sapperlaw20.MakerOptions", spec := "makerOptions", unfollowed := true, recurses := true, plainKeys := false, apart := false }
def MakerOptionsSaid : Prop := makerOptionsRow.holds Tryz.pinned (OpenSpec.ofChange makerOptionsSpec)

/-- ITS FALSE NEIGHBOUR: 'it returns false'. Refute it at one input. -/
def makerOptionsWrong : ChangeSpec := { name := "makerOptions", fn := fun _ => fun
  | [d] => { results := [.lit (.bool false)], args := [d] }
  | _ => none }
def MakerOptionsWrongFalsely : Prop := makerOptionsRow.holds Tryz.pinned (OpenSpec.ofChange makerOptionsWrong)

/- THE SECOND FORM. 'bulk': how many values and letters a reading holds, each counted each time it is reached (what is shared counts as often as it is met; a slice's spare places count too). A statement '..UptoSaid' is the law's where the arguments, and the package variables that the reading takes, are together of bulk at most 1048576: NARROWER than '..Said'. Prove '..Said' where nothing that the law and all that it calls make is longer than what came in: it says more and counts as full. Else prove '..UptoSaid'. A law counts once. -/
mutual
def uptoBulk {H : Type} : DataW H → Nat
  | .lit (.string bytes) => bytes.length + 1
  | .lit _ => 1
  | .nil => 1
  | .ptr d => uptoBulk d + 1
  | .slice elems spare => uptoBulkAll elems + uptoBulkAll spare + 1
  | .agg parts => uptoBulkAll parts + 1
  | .iface _ d => uptoBulk d + 1
  | .map entries => uptoBulkEntries entries + 1
  | .held _ => 1
def uptoBulkAll {H : Type} : List (DataW H) → Nat
  | [] => 0
  | d :: r => uptoBulk d + uptoBulkAll r
def uptoBulkEntries {H : Type} : List (Lit × DataW H) → Nat
  | [] => 0
  | x :: r => uptoBulkEntry x + uptoBulkEntries r
def uptoBulkEntry {H : Type} : Lit × DataW H → Nat
  | (.string bytes, d) => bytes.length + uptoBulk d + 1
  | (_, d) => uptoBulk d + 1
 end
def uptoSmall : (H : Type) → List (DataW H) → Bool := fun _ ds => decide (uptoBulkAll ds ≤ 1048576)
def OpenSpec.upto (s : _root_.Go.ChangeSpec) : _root_.Go.OpenSpec := { _root_.Go.OpenSpec.ofChange s with cond := some uptoSmall }

/-- 'sapperlaw27.DepotNames', WHERE WHAT IT READS IS OF BULK AT MOST 1048576: true; the input reads as it did. -/
def depotNamesUptoRow : OpenClaim := { program := "ytdkiegheiplkkaagreat", sum := "d9489bdfa7b1d087ba9d76ec6476909a3b5a8718b9b3ceedae12d9bce8a3660a", func := "sapper/sapperlaw27.DepotNames", spec := "depotNames", inPlace := ["(*internal/sync.Mutex).Lock", "internal/race.Disable", "sync/atomic.CompareAndSwapInt32", "internal/race.Enable", "internal/race.Acquire", "(*internal/sync.Mutex).lockSlow", "internal/sync.runtime_canSpin", "internal/sync.runtime_doSpin", "internal/sync.throw", "internal/sync.runtime_nanotime", "internal/sync.runtime_SemacquireMutex", "sync/atomic.AddInt32", "(*internal/sync.Mutex).Unlock", "internal/race.ReleaseMerge", "(*internal/sync.Mutex).unlockSlow", "internal/sync.fatal", "internal/sync.runtime_Semrelease", "sync/atomic.LoadUint32", "sync/atomic.StoreUint32"], unfollowed := true, recurses := true, plainKeys := false, apart := false, narrowed := true }
def DepotNamesUptoSaid : Prop := depotNamesUptoRow.holds Tryz.pinned (OpenSpec.upto depotNamesSpec)

/-- 'sapperlaw27.DepotKeys', WHERE WHAT IT READS IS OF BULK AT MOST 1048576: true; the input reads as it did. -/
def depotKeysUptoRow : OpenClaim := { program := "ytdkiegheiplkkaagreat", sum := "d9489bdfa7b1d087ba9d76ec6476909a3b5a8718b9b3ceedae12d9bce8a3660a", func := "sapper/sapperlaw27.DepotKeys", spec := "depotKeys", inPlace := ["(*internal/sync.Mutex).Lock", "internal/race.Disable", "sync/atomic.CompareAndSwapInt32", "internal/race.Enable", "internal/race.Acquire", "(*internal/sync.Mutex).lockSlow", "internal/sync.runtime_canSpin", "internal/sync.runtime_doSpin", "internal/sync.throw", "internal/sync.runtime_nanotime", "internal/sync.runtime_SemacquireMutex", "sync/atomic.AddInt32", "(*internal/sync.Mutex).Unlock", "internal/race.ReleaseMerge", "(*internal/sync.Mutex).unlockSlow", "internal/sync.fatal", "internal/sync.runtime_Semrelease", "sync/atomic.LoadUint32", "sync/atomic.StoreUint32"], unfollowed := true, recurses := true, plainKeys := false, apart := false, narrowed := true }
def DepotKeysUptoSaid : Prop := depotKeysUptoRow.holds Tryz.pinned (OpenSpec.upto depotKeysSpec)

/-- 'sapperlaw20.MakerOptions', WHERE WHAT IT READS IS OF BULK AT MOST 1048576: true; the input reads as it did. -/
def makerOptionsUptoRow : OpenClaim := { program := "ytdkiegheiplkkaagreat", sum := "d9489bdfa7b1d087ba9d76ec6476909a3b5a8718b9b3ceedae12d9bce8a3660a", func := "sapper/sapperlaw20.MakerOptions", spec := "makerOptions", unfollowed := true, recurses := true, plainKeys := false, apart := false, narrowed := true }
def MakerOptionsUptoSaid : Prop := makerOptionsUptoRow.holds Tryz.pinned (OpenSpec.upto makerOptionsSpec)

end Rows
end Go.Proofs.YtdkiegheiplkkaaGreat
