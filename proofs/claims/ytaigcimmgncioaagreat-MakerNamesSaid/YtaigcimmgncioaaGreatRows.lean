/-
  NARROWER THAN 'FOR EVERY INPUT', by the rows' own cells (each row's printed sentence says how): DepotNames: calm · DepotKeys: calm · DepotSame: calm.
  DERIVED. THE GIVEN ROWS OF THIS SEAT. 12 by the template 'for every input the law returns true; each argument reads behind the call as it read before'; 0 by the template 'total and deterministic' (their statements: YtaigcimmgncioaaGreatTotals.lean).
  GIVEN WITH THE SEED: the statements are not yours to turn. If you find one false, say at which input.
  Laid BY PROGRAM, IN A SANDBOX (cutbox-rows.mjs): the forced cells as the released guide's own fill.sh prints them over the translation ac48d1ab2c1d10f9… (all of the seat's roots in one cut). By AI agents, Wed Nov 11 2026. No macro, syntax, notation, axiom, sorry.
-/
import Derived.Test.YtaigcimmgncioaaGreatChecked
import GoSem.Claim
import GoSem.ClaimJoined
import GoSem.ClaimMapViews
import Derived.JoinedTies
import Derived.KernelRfl
namespace Go.Proofs.YtaigcimmgncioaaGreat
/- THE CELL 'sum', in the pinned program and in every row, IS THE sha256 OF THE DUMP (.gsa) THAT YtaigcimmgncioaaGreatProg.lean LOADS. Nothing in Lean hashes anything: it is a label: what it is worth is what the hold of that sum in a sandbox is worth. -/
noncomputable def Tryz.pinned : Pinned := { name := "ytaigcimmgncioaagreat", sum := "ac48d1ab2c1d10f9941c54a9bad3c0aee3bbeaa93e99dd04f6235a09f81b3fe7", checked := Tryz.checked }
namespace Rows
def none {H : Type} : Left H := { results := [], args := [] }

/-- 'sapperlaw27.DepotNames': WHATEVER THE INPUT: true; the input reads as it did. -/
def depotNamesSpec : ChangeSpec := { name := "depotNames", fn := fun _ => fun
  | [] => { results := [.lit (.bool true)], args := [] }
  | _ => none }
def depotNamesRow : OpenClaim := { program := "ytaigcimmgncioaagreat", sum := "ac48d1ab2c1d10f9941c54a9bad3c0aee3bbeaa93e99dd04f6235a09f81b3fe7", func := "sapper/sapperlaw27.DepotNames", spec := "depotNames", inPlace := ["(*internal/sync.Mutex).Lock", "internal/race.Disable", "sync/atomic.CompareAndSwapInt32", "internal/race.Enable", "internal/race.Acquire", "(*internal/sync.Mutex).lockSlow", "internal/sync.runtime_canSpin", "internal/sync.runtime_doSpin", "internal/sync.throw", "internal/sync.runtime_nanotime", "internal/sync.runtime_SemacquireMutex", "sync/atomic.AddInt32", "(*internal/sync.Mutex).Unlock", "internal/race.ReleaseMerge", "(*internal/sync.Mutex).unlockSlow", "internal/sync.fatal", "internal/sync.runtime_Semrelease", "sync/atomic.LoadUint32", "sync/atomic.StoreUint32"], unfollowed := true, recurses := true, plainKeys := false, leaving := true, apart := false, calm := true, outside := [.timePasses] }
def DepotNamesSaid : Prop := depotNamesRow.holds Tryz.pinned (OpenSpec.ofChange depotNamesSpec)

/-- ITS FALSE NEIGHBOUR: 'it returns false'. Refute it at one input. -/
def depotNamesWrong : ChangeSpec := { name := "depotNames", fn := fun _ => fun
  | [] => { results := [.lit (.bool false)], args := [] }
  | _ => none }
def DepotNamesWrongFalsely : Prop := depotNamesRow.holds Tryz.pinned (OpenSpec.ofChange depotNamesWrong)

/-- 'sapperlaw27.DepotKeys': WHATEVER THE INPUT: true; the input reads as it did. -/
def depotKeysSpec : ChangeSpec := { name := "depotKeys", fn := fun _ => fun
  | [d] => { results := [.lit (.bool true)], args := [d] }
  | _ => none }
def depotKeysRow : OpenClaim := { program := "ytaigcimmgncioaagreat", sum := "ac48d1ab2c1d10f9941c54a9bad3c0aee3bbeaa93e99dd04f6235a09f81b3fe7", func := "sapper/sapperlaw27.DepotKeys", spec := "depotKeys", inPlace := ["(*internal/sync.Mutex).Lock", "internal/race.Disable", "sync/atomic.CompareAndSwapInt32", "internal/race.Enable", "internal/race.Acquire", "(*internal/sync.Mutex).lockSlow", "internal/sync.runtime_canSpin", "internal/sync.runtime_doSpin", "internal/sync.throw", "internal/sync.runtime_nanotime", "internal/sync.runtime_SemacquireMutex", "sync/atomic.AddInt32", "(*internal/sync.Mutex).Unlock", "internal/race.ReleaseMerge", "(*internal/sync.Mutex).unlockSlow", "internal/sync.fatal", "internal/sync.runtime_Semrelease", "sync/atomic.LoadUint32", "sync/atomic.StoreUint32"], unfollowed := true, recurses := true, plainKeys := false, leaving := true, apart := false, calm := true, outside := [.timePasses] }
def DepotKeysSaid : Prop := depotKeysRow.holds Tryz.pinned (OpenSpec.ofChange depotKeysSpec)

/-- ITS FALSE NEIGHBOUR: 'it returns false'. Refute it at one input. -/
def depotKeysWrong : ChangeSpec := { name := "depotKeys", fn := fun _ => fun
  | [d] => { results := [.lit (.bool false)], args := [d] }
  | _ => none }
def DepotKeysWrongFalsely : Prop := depotKeysRow.holds Tryz.pinned (OpenSpec.ofChange depotKeysWrong)

/-- 'sapperlaw27.DepotSame': WHATEVER THE INPUT: true; the input reads as it did. -/
def depotSameSpec : ChangeSpec := { name := "depotSame", fn := fun _ => fun
  | [d1, d2, d3] => { results := [.lit (.bool true)], args := [d1, d2, d3] }
  | _ => none }
def depotSameRow : OpenClaim := { program := "ytaigcimmgncioaagreat", sum := "ac48d1ab2c1d10f9941c54a9bad3c0aee3bbeaa93e99dd04f6235a09f81b3fe7", func := "sapper/sapperlaw27.DepotSame", spec := "depotSame", inPlace := ["(*internal/sync.Mutex).Lock", "internal/race.Disable", "sync/atomic.CompareAndSwapInt32", "internal/race.Enable", "internal/race.Acquire", "(*internal/sync.Mutex).lockSlow", "internal/sync.runtime_canSpin", "internal/sync.runtime_doSpin", "internal/sync.throw", "internal/sync.runtime_nanotime", "internal/sync.runtime_SemacquireMutex", "sync/atomic.AddInt32", "(*internal/sync.Mutex).Unlock", "internal/race.ReleaseMerge", "(*internal/sync.Mutex).unlockSlow", "internal/sync.fatal", "internal/sync.runtime_Semrelease", "sync/atomic.LoadUint32", "sync/atomic.StoreUint32", "(*sync.WaitGroup).Add", "internal/synctest.IsInBubble", "internal/synctest.Associate[sync.WaitGroup]", "sync.fatal", "sync/atomic.OrUint64", "sync/atomic.AddUint64", "internal/race.Read", "sync/atomic.LoadUint64", "sync/atomic.StoreUint64", "internal/synctest.Disassociate[sync.WaitGroup]", "sync.runtime_Semrelease", "(*sync.WaitGroup).Done", "(*sync.WaitGroup).Wait", "internal/synctest.IsAssociated[sync.WaitGroup]", "sync/atomic.CompareAndSwapUint64", "internal/race.Write", "sync.runtime_SemacquireWaitGroup"], unfollowed := true, recurses := true, plainKeys := false, leaving := true, apart := false, calm := true, outside := [.timePasses] }
def DepotSameSaid : Prop := depotSameRow.holds Tryz.pinned (OpenSpec.ofChange depotSameSpec)

/-- ITS FALSE NEIGHBOUR: 'it returns false'. Refute it at one input. -/
def depotSameWrong : ChangeSpec := { name := "depotSame", fn := fun _ => fun
  | [d1, d2, d3] => { results := [.lit (.bool false)], args := [d1, d2, d3] }
  | _ => none }
def DepotSameWrongFalsely : Prop := depotSameRow.holds Tryz.pinned (OpenSpec.ofChange depotSameWrong)

/-- 'sapperlaw20.MakerNames': WHATEVER THE INPUT: true; the input reads as it did. -/
def makerNamesSpec : ChangeSpec := { name := "makerNames", fn := fun _ => fun
  | [] => { results := [.lit (.bool true)], args := [] }
  | _ => none }
def makerNamesRow : OpenClaim := { program := "ytaigcimmgncioaagreat", sum := "ac48d1ab2c1d10f9941c54a9bad3c0aee3bbeaa93e99dd04f6235a09f81b3fe7", func := "sapper/sapperlaw20.MakerNames", spec := "makerNames", unfollowed := true, recurses := true, plainKeys := false, leaving := true, apart := false }
def MakerNamesSaid : Prop := makerNamesRow.holds Tryz.pinned (OpenSpec.ofChange makerNamesSpec)

/-- ITS FALSE NEIGHBOUR: 'it returns false'. Refute it at one input. -/
def makerNamesWrong : ChangeSpec := { name := "makerNames", fn := fun _ => fun
  | [] => { results := [.lit (.bool false)], args := [] }
  | _ => none }
def MakerNamesWrongFalsely : Prop := makerNamesRow.holds Tryz.pinned (OpenSpec.ofChange makerNamesWrong)

/-- 'sapperlaw20.MakerOptions': WHATEVER THE INPUT: true; the input reads as it did. -/
def makerOptionsSpec : ChangeSpec := { name := "makerOptions", fn := fun _ => fun
  | [d] => { results := [.lit (.bool true)], args := [d] }
  | _ => none }
def makerOptionsRow : OpenClaim := { program := "ytaigcimmgncioaagreat", sum := "ac48d1ab2c1d10f9941c54a9bad3c0aee3bbeaa93e99dd04f6235a09f81b3fe7", func := "sapper/sapperlaw20.MakerOptions", spec := "makerOptions", unfollowed := true, recurses := true, plainKeys := false, leaving := true, apart := false }
def MakerOptionsSaid : Prop := makerOptionsRow.holds Tryz.pinned (OpenSpec.ofChange makerOptionsSpec)

/-- ITS FALSE NEIGHBOUR: 'it returns false'. Refute it at one input. -/
def makerOptionsWrong : ChangeSpec := { name := "makerOptions", fn := fun _ => fun
  | [d] => { results := [.lit (.bool false)], args := [d] }
  | _ => none }
def MakerOptionsWrongFalsely : Prop := makerOptionsRow.holds Tryz.pinned (OpenSpec.ofChange makerOptionsWrong)

/-- 'sapperlaw20.MakerPlans': WHATEVER THE INPUT: true; the input reads as it did. -/
def makerPlansSpec : ChangeSpec := { name := "makerPlans", fn := fun _ => fun
  | [d1, d2, d3] => { results := [.lit (.bool true)], args := [d1, d2, d3] }
  | _ => none }
def makerPlansRow : OpenClaim := { program := "ytaigcimmgncioaagreat", sum := "ac48d1ab2c1d10f9941c54a9bad3c0aee3bbeaa93e99dd04f6235a09f81b3fe7", func := "sapper/sapperlaw20.MakerPlans", spec := "makerPlans", unfollowed := true, recurses := true, plainKeys := false, leaving := true, apart := false }
def MakerPlansSaid : Prop := makerPlansRow.holds Tryz.pinned (OpenSpec.ofChange makerPlansSpec)

/-- ITS FALSE NEIGHBOUR: 'it returns false'. Refute it at one input. -/
def makerPlansWrong : ChangeSpec := { name := "makerPlans", fn := fun _ => fun
  | [d1, d2, d3] => { results := [.lit (.bool false)], args := [d1, d2, d3] }
  | _ => none }
def MakerPlansWrongFalsely : Prop := makerPlansRow.holds Tryz.pinned (OpenSpec.ofChange makerPlansWrong)

/-- 'sapperlaw20.MakerGenerates': WHATEVER THE INPUT: true; the input reads as it did. -/
def makerGeneratesSpec : ChangeSpec := { name := "makerGenerates", fn := fun _ => fun
  | [d1, d2, d3] => { results := [.lit (.bool true)], args := [d1, d2, d3] }
  | _ => none }
def makerGeneratesRow : OpenClaim := { program := "ytaigcimmgncioaagreat", sum := "ac48d1ab2c1d10f9941c54a9bad3c0aee3bbeaa93e99dd04f6235a09f81b3fe7", func := "sapper/sapperlaw20.MakerGenerates", spec := "makerGenerates", unfollowed := true, recurses := true, plainKeys := false, leaving := true, apart := false }
def MakerGeneratesSaid : Prop := makerGeneratesRow.holds Tryz.pinned (OpenSpec.ofChange makerGeneratesSpec)

/-- ITS FALSE NEIGHBOUR: 'it returns false'. Refute it at one input. -/
def makerGeneratesWrong : ChangeSpec := { name := "makerGenerates", fn := fun _ => fun
  | [d1, d2, d3] => { results := [.lit (.bool false)], args := [d1, d2, d3] }
  | _ => none }
def MakerGeneratesWrongFalsely : Prop := makerGeneratesRow.holds Tryz.pinned (OpenSpec.ofChange makerGeneratesWrong)

/-- 'sapperlaw20.MakerMeanings': WHATEVER THE INPUT: true; the input reads as it did. -/
def makerMeaningsSpec : ChangeSpec := { name := "makerMeanings", fn := fun _ => fun
  | [d1, d2] => { results := [.lit (.bool true)], args := [d1, d2] }
  | _ => none }
def makerMeaningsRow : OpenClaim := { program := "ytaigcimmgncioaagreat", sum := "ac48d1ab2c1d10f9941c54a9bad3c0aee3bbeaa93e99dd04f6235a09f81b3fe7", func := "sapper/sapperlaw20.MakerMeanings", spec := "makerMeanings", unfollowed := true, recurses := true, plainKeys := false, leaving := true, apart := false }
def MakerMeaningsSaid : Prop := makerMeaningsRow.holds Tryz.pinned (OpenSpec.ofChange makerMeaningsSpec)

/-- ITS FALSE NEIGHBOUR: 'it returns false'. Refute it at one input. -/
def makerMeaningsWrong : ChangeSpec := { name := "makerMeanings", fn := fun _ => fun
  | [d1, d2] => { results := [.lit (.bool false)], args := [d1, d2] }
  | _ => none }
def MakerMeaningsWrongFalsely : Prop := makerMeaningsRow.holds Tryz.pinned (OpenSpec.ofChange makerMeaningsWrong)

/-- 'sapperlaw20.MakerRound': WHATEVER THE INPUT: true; the input reads as it did. -/
def makerRoundSpec : ChangeSpec := { name := "makerRound", fn := fun _ => fun
  | [d1, d2, d3] => { results := [.lit (.bool true)], args := [d1, d2, d3] }
  | _ => none }
def makerRoundRow : OpenClaim := { program := "ytaigcimmgncioaagreat", sum := "ac48d1ab2c1d10f9941c54a9bad3c0aee3bbeaa93e99dd04f6235a09f81b3fe7", func := "sapper/sapperlaw20.MakerRound", spec := "makerRound", unfollowed := true, recurses := true, plainKeys := false, leaving := true, apart := false }
def MakerRoundSaid : Prop := makerRoundRow.holds Tryz.pinned (OpenSpec.ofChange makerRoundSpec)

/-- ITS FALSE NEIGHBOUR: 'it returns false'. Refute it at one input. -/
def makerRoundWrong : ChangeSpec := { name := "makerRound", fn := fun _ => fun
  | [d1, d2, d3] => { results := [.lit (.bool false)], args := [d1, d2, d3] }
  | _ => none }
def MakerRoundWrongFalsely : Prop := makerRoundRow.holds Tryz.pinned (OpenSpec.ofChange makerRoundWrong)

/-- 'sapperlaw20.MakerOthers': WHATEVER THE INPUT: true; the input reads as it did. -/
def makerOthersSpec : ChangeSpec := { name := "makerOthers", fn := fun _ => fun
  | [d] => { results := [.lit (.bool true)], args := [d] }
  | _ => none }
def makerOthersRow : OpenClaim := { program := "ytaigcimmgncioaagreat", sum := "ac48d1ab2c1d10f9941c54a9bad3c0aee3bbeaa93e99dd04f6235a09f81b3fe7", func := "sapper/sapperlaw20.MakerOthers", spec := "makerOthers", unfollowed := true, recurses := true, plainKeys := false, leaving := true, apart := false }
def MakerOthersSaid : Prop := makerOthersRow.holds Tryz.pinned (OpenSpec.ofChange makerOthersSpec)

/-- ITS FALSE NEIGHBOUR: 'it returns false'. Refute it at one input. -/
def makerOthersWrong : ChangeSpec := { name := "makerOthers", fn := fun _ => fun
  | [d] => { results := [.lit (.bool false)], args := [d] }
  | _ => none }
def MakerOthersWrongFalsely : Prop := makerOthersRow.holds Tryz.pinned (OpenSpec.ofChange makerOthersWrong)

/-- 'sapperlaw20.MakerSame': WHATEVER THE INPUT: true; the input reads as it did. -/
def makerSameSpec : ChangeSpec := { name := "makerSame", fn := fun _ => fun
  | [d1, d2] => { results := [.lit (.bool true)], args := [d1, d2] }
  | _ => none }
def makerSameRow : OpenClaim := { program := "ytaigcimmgncioaagreat", sum := "ac48d1ab2c1d10f9941c54a9bad3c0aee3bbeaa93e99dd04f6235a09f81b3fe7", func := "sapper/sapperlaw20.MakerSame", spec := "makerSame", unfollowed := true, recurses := true, plainKeys := false, leaving := true, apart := false }
def MakerSameSaid : Prop := makerSameRow.holds Tryz.pinned (OpenSpec.ofChange makerSameSpec)

/-- ITS FALSE NEIGHBOUR: 'it returns false'. Refute it at one input. -/
def makerSameWrong : ChangeSpec := { name := "makerSame", fn := fun _ => fun
  | [d1, d2] => { results := [.lit (.bool false)], args := [d1, d2] }
  | _ => none }
def MakerSameWrongFalsely : Prop := makerSameRow.holds Tryz.pinned (OpenSpec.ofChange makerSameWrong)

/-- 'sapperlaw20.MakerBests': WHATEVER THE INPUT: true; the input reads as it did. -/
def makerBestsSpec : ChangeSpec := { name := "makerBests", fn := fun _ => fun
  | [d1, d2, d3] => { results := [.lit (.bool true)], args := [d1, d2, d3] }
  | _ => none }
def makerBestsRow : OpenClaim := { program := "ytaigcimmgncioaagreat", sum := "ac48d1ab2c1d10f9941c54a9bad3c0aee3bbeaa93e99dd04f6235a09f81b3fe7", func := "sapper/sapperlaw20.MakerBests", spec := "makerBests", unfollowed := true, recurses := true, plainKeys := false, leaving := true, apart := false }
def MakerBestsSaid : Prop := makerBestsRow.holds Tryz.pinned (OpenSpec.ofChange makerBestsSpec)

/-- ITS FALSE NEIGHBOUR: 'it returns false'. Refute it at one input. -/
def makerBestsWrong : ChangeSpec := { name := "makerBests", fn := fun _ => fun
  | [d1, d2, d3] => { results := [.lit (.bool false)], args := [d1, d2, d3] }
  | _ => none }
def MakerBestsWrongFalsely : Prop := makerBestsRow.holds Tryz.pinned (OpenSpec.ofChange makerBestsWrong)

/- THE SECOND FORM. 'bulk': how many values and letters a reading holds, each counted each time it is reached (what is shared counts as often as it is met; a slice's spare places count too). A statement '..UptoSaid' is the law's where the arguments, and the package variables that the reading takes, are together of bulk at most 1048576: NARROWER than '..Said'. Prove '..Said' where nothing that the law and all that it calls make is longer than what came in: it says more and counts as full. Else prove '..UptoSaid'. A law counts once. -/
mutual
def uptoBulk {H : Type} : DataW H → Nat
  | .lit (.string bytes) => bytes.length + 1
  | .lit _ => 1
  | .nil => 1
  | .ptr d => uptoBulk d + 1
  | .slice elems spare => uptoBulkAll elems + uptoBulkAll spare + 1
  | .agg parts => uptoBulkAll parts + 1
  | .iface _ d => uptoBulk d + 1
  | .map entries => uptoBulkEntries entries + 1
  | .held _ => 1
def uptoBulkAll {H : Type} : List (DataW H) → Nat
  | [] => 0
  | d :: r => uptoBulk d + uptoBulkAll r
def uptoBulkEntries {H : Type} : List (Lit × DataW H) → Nat
  | [] => 0
  | x :: r => uptoBulkEntry x + uptoBulkEntries r
def uptoBulkEntry {H : Type} : Lit × DataW H → Nat
  | (.string bytes, d) => bytes.length + uptoBulk d + 1
  | (_, d) => uptoBulk d + 1
 end
def uptoSmall : (H : Type) → List (DataW H) → Bool := fun _ ds => decide (uptoBulkAll ds ≤ 1048576)
def OpenSpec.upto (s : _root_.Go.ChangeSpec) : _root_.Go.OpenSpec := { _root_.Go.OpenSpec.ofChange s with cond := some uptoSmall }

/-- 'sapperlaw27.DepotNames', WHERE WHAT IT READS IS OF BULK AT MOST 1048576: true; the input reads as it did. -/
def depotNamesUptoRow : OpenClaim := { program := "ytaigcimmgncioaagreat", sum := "ac48d1ab2c1d10f9941c54a9bad3c0aee3bbeaa93e99dd04f6235a09f81b3fe7", func := "sapper/sapperlaw27.DepotNames", spec := "depotNames", inPlace := ["(*internal/sync.Mutex).Lock", "internal/race.Disable", "sync/atomic.CompareAndSwapInt32", "internal/race.Enable", "internal/race.Acquire", "(*internal/sync.Mutex).lockSlow", "internal/sync.runtime_canSpin", "internal/sync.runtime_doSpin", "internal/sync.throw", "internal/sync.runtime_nanotime", "internal/sync.runtime_SemacquireMutex", "sync/atomic.AddInt32", "(*internal/sync.Mutex).Unlock", "internal/race.ReleaseMerge", "(*internal/sync.Mutex).unlockSlow", "internal/sync.fatal", "internal/sync.runtime_Semrelease", "sync/atomic.LoadUint32", "sync/atomic.StoreUint32"], unfollowed := true, recurses := true, plainKeys := false, leaving := true, apart := false, calm := true, outside := [.timePasses], narrowed := true }
def DepotNamesUptoSaid : Prop := depotNamesUptoRow.holds Tryz.pinned (OpenSpec.upto depotNamesSpec)

/-- 'sapperlaw27.DepotKeys', WHERE WHAT IT READS IS OF BULK AT MOST 1048576: true; the input reads as it did. -/
def depotKeysUptoRow : OpenClaim := { program := "ytaigcimmgncioaagreat", sum := "ac48d1ab2c1d10f9941c54a9bad3c0aee3bbeaa93e99dd04f6235a09f81b3fe7", func := "sapper/sapperlaw27.DepotKeys", spec := "depotKeys", inPlace := ["(*internal/sync.Mutex).Lock", "internal/race.Disable", "sync/atomic.CompareAndSwapInt32", "internal/race.Enable", "internal/race.Acquire", "(*internal/sync.Mutex).lockSlow", "internal/sync.runtime_canSpin", "internal/sync.runtime_doSpin", "internal/sync.throw", "internal/sync.runtime_nanotime", "internal/sync.runtime_SemacquireMutex", "sync/atomic.AddInt32", "(*internal/sync.Mutex).Unlock", "internal/race.ReleaseMerge", "(*internal/sync.Mutex).unlockSlow", "internal/sync.fatal", "internal/sync.runtime_Semrelease", "sync/atomic.LoadUint32", "sync/atomic.StoreUint32"], unfollowed := true, recurses := true, plainKeys := false, leaving := true, apart := false, calm := true, outside := [.timePasses], narrowed := true }
def DepotKeysUptoSaid : Prop := depotKeysUptoRow.holds Tryz.pinned (OpenSpec.upto depotKeysSpec)

/-- 'sapperlaw27.DepotSame', WHERE WHAT IT READS IS OF BULK AT MOST 1048576: true; the input reads as it did. -/
def depotSameUptoRow : OpenClaim := { program := "ytaigcimmgncioaagreat", sum := "ac48d1ab2c1d10f9941c54a9bad3c0aee3bbeaa93e99dd04f6235a09f81b3fe7", func := "sapper/sapperlaw27.DepotSame", spec := "depotSame", inPlace := ["(*internal/sync.Mutex).Lock", "internal/race.Disable", "sync/atomic.CompareAndSwapInt32", "internal/race.Enable", "internal/race.Acquire", "(*internal/sync.Mutex).lockSlow", "internal/sync.runtime_canSpin", "internal/sync.runtime_doSpin", "internal/sync.throw", "internal/sync.runtime_nanotime", "internal/sync.runtime_SemacquireMutex", "sync/atomic.AddInt32", "(*internal/sync.Mutex).Unlock", "internal/race.ReleaseMerge", "(*internal/sync.Mutex).unlockSlow", "internal/sync.fatal", "internal/sync.runtime_Semrelease", "sync/atomic.LoadUint32", "sync/atomic.StoreUint32", "(*sync.WaitGroup).Add", "internal/synctest.IsInBubble", "internal/synctest.Associate[sync.WaitGroup]", "sync.fatal", "sync/atomic.OrUint64", "sync/atomic.AddUint64", "internal/race.Read", "sync/atomic.LoadUint64", "sync/atomic.StoreUint64", "internal/synctest.Disassociate[sync.WaitGroup]", "sync.runtime_Semrelease", "(*sync.WaitGroup).Done", "(*sync.WaitGroup).Wait", "internal/synctest.IsAssociated[sync.WaitGroup]", "sync/atomic.CompareAndSwapUint64", "internal/race.Write", "sync.runtime_SemacquireWaitGroup"], unfollowed := true, recurses := true, plainKeys := false, leaving := true, apart := false, calm := true, outside := [.timePasses], narrowed := true }
def DepotSameUptoSaid : Prop := depotSameUptoRow.holds Tryz.pinned (OpenSpec.upto depotSameSpec)

/-- 'sapperlaw20.MakerNames', WHERE WHAT IT READS IS OF BULK AT MOST 1048576: true; the input reads as it did. -/
def makerNamesUptoRow : OpenClaim := { program := "ytaigcimmgncioaagreat", sum := "ac48d1ab2c1d10f9941c54a9bad3c0aee3bbeaa93e99dd04f6235a09f81b3fe7", func := "sapper/sapperlaw20.MakerNames", spec := "makerNames", unfollowed := true, recurses := true, plainKeys := false, leaving := true, apart := false, narrowed := true }
def MakerNamesUptoSaid : Prop := makerNamesUptoRow.holds Tryz.pinned (OpenSpec.upto makerNamesSpec)

/-- 'sapperlaw20.MakerOptions', WHERE WHAT IT READS IS OF BULK AT MOST 1048576: true; the input reads as it did. -/
def makerOptionsUptoRow : OpenClaim := { program := "ytaigcimmgncioaagreat", sum := "ac48d1ab2c1d10f9941c54a9bad3c0aee3bbeaa93e99dd04f6235a09f81b3fe7", func := "sapper/sapperlaw20.MakerOptions", spec := "makerOptions", unfollowed := true, recurses := true, plainKeys := false, leaving := true, apart := false, narrowed := true }
def MakerOptionsUptoSaid : Prop := makerOptionsUptoRow.holds Tryz.pinned (OpenSpec.upto makerOptionsSpec)

/-- 'sapperlaw20.MakerPlans', WHERE WHAT IT READS IS OF BULK AT MOST 1048576: true; the input reads as it did. -/
def makerPlansUptoRow : OpenClaim := { program := "ytaigcimmgncioaagreat", sum := "ac48d1ab2c1d10f9941c54a9bad3c0aee3bbeaa93e99dd04f6235a09f81b3fe7", func := "sapper/sapperlaw20.MakerPlans", spec := "makerPlans", unfollowed := true, recurses := true, plainKeys := false, leaving := true, apart := false, narrowed := true }
def MakerPlansUptoSaid : Prop := makerPlansUptoRow.holds Tryz.pinned (OpenSpec.upto makerPlansSpec)

/-- 'sapperlaw20.MakerGenerates', WHERE WHAT IT READS IS OF BULK AT MOST 1048576: true; the input reads as it did. -/
def makerGeneratesUptoRow : OpenClaim := { program := "ytaigcimmgncioaagreat", sum := "ac48d1ab2c1d10f9941c54a9bad3c0aee3bbeaa93e99dd04f6235a09f81b3fe7", func := "sapper/sapperlaw20.MakerGenerates", spec := "makerGenerates", unfollowed := true, recurses := true, plainKeys := false, leaving := true, apart := false, narrowed := true }
def MakerGeneratesUptoSaid : Prop := makerGeneratesUptoRow.holds Tryz.pinned (OpenSpec.upto makerGeneratesSpec)

/-- 'sapperlaw20.MakerMeanings', WHERE WHAT IT READS IS OF BULK AT MOST 1048576: true; the input reads as it did. -/
def makerMeaningsUptoRow : OpenClaim := { program := "ytaigcimmgncioaagreat", sum := "ac48d1ab2c1d10f9941c54a9bad3c0aee3bbeaa93e99dd04f6235a09f81b3fe7", func := "sapper/sapperlaw20.MakerMeanings", spec := "makerMeanings", unfollowed := true, recurses := true, plainKeys := false, leaving := true, apart := false, narrowed := true }
def MakerMeaningsUptoSaid : Prop := makerMeaningsUptoRow.holds Tryz.pinned (OpenSpec.upto makerMeaningsSpec)

/-- 'sapperlaw20.MakerRound', WHERE WHAT IT READS IS OF BULK AT MOST 1048576: true; the input reads as it did. -/
def makerRoundUptoRow : OpenClaim := { program := "ytaigcimmgncioaagreat", sum := "ac48d1ab2c1d10f9941c54a9bad3c0aee3bbeaa93e99dd04f6235a09f81b3fe7", func := "sapper/sapperlaw20.MakerRound", spec := "makerRound", unfollowed := true, recurses := true, plainKeys := false, leaving := true, apart := false, narrowed := true }
def MakerRoundUptoSaid : Prop := makerRoundUptoRow.holds Tryz.pinned (OpenSpec.upto makerRoundSpec)

/-- 'sapperlaw20.MakerOthers', WHERE WHAT IT READS IS OF BULK AT MOST 1048576: true; the input reads as it did. -/
def makerOthersUptoRow : OpenClaim := { program := "ytaigcimmgncioaagreat", sum := "ac48d1ab2c1d10f9941c54a9bad3c0aee3bbeaa93e99dd04f6235a09f81b3fe7", func := "sapper/sapperlaw20.MakerOthers", spec := "makerOthers", unfollowed := true, recurses := true, plainKeys := false, leaving := true, apart := false, narrowed := true }
def MakerOthersUptoSaid : Prop := makerOthersUptoRow.holds Tryz.pinned (OpenSpec.upto makerOthersSpec)

/-- 'sapperlaw20.MakerSame', WHERE WHAT IT READS IS OF BULK AT MOST 1048576: true; the input reads as it did. -/
def makerSameUptoRow : OpenClaim := { program := "ytaigcimmgncioaagreat", sum := "ac48d1ab2c1d10f9941c54a9bad3c0aee3bbeaa93e99dd04f6235a09f81b3fe7", func := "sapper/sapperlaw20.MakerSame", spec := "makerSame", unfollowed := true, recurses := true, plainKeys := false, leaving := true, apart := false, narrowed := true }
def MakerSameUptoSaid : Prop := makerSameUptoRow.holds Tryz.pinned (OpenSpec.upto makerSameSpec)

/-- 'sapperlaw20.MakerBests', WHERE WHAT IT READS IS OF BULK AT MOST 1048576: true; the input reads as it did. -/
def makerBestsUptoRow : OpenClaim := { program := "ytaigcimmgncioaagreat", sum := "ac48d1ab2c1d10f9941c54a9bad3c0aee3bbeaa93e99dd04f6235a09f81b3fe7", func := "sapper/sapperlaw20.MakerBests", spec := "makerBests", unfollowed := true, recurses := true, plainKeys := false, leaving := true, apart := false, narrowed := true }
def MakerBestsUptoSaid : Prop := makerBestsUptoRow.holds Tryz.pinned (OpenSpec.upto makerBestsSpec)

end Rows
end Go.Proofs.YtaigcimmgncioaaGreat
