/-
  No cell of these rows narrows 'for every input' (looked for: loops, veiled, ifaces, maps, wideKeys, modest, calm, conditions, laid).
  DERIVED. THE GIVEN ROWS OF THIS SEAT. 10 by the template 'for every input the law returns true; each argument reads behind the call as it read before'; 0 by the template 'total and deterministic' (their statements: YtppledjkdbldlaaGreatTotals.lean).
  GIVEN WITH THE SEED: the statements are not yours to turn. If you find one false, say at which input.
  Laid BY PROGRAM, IN A SANDBOX (cutbox-rows.mjs): the forced cells as the released guide's own fill.sh prints them over the translation 1d0b38cb68994d59… (all of the seat's roots in one cut). By AI agents, Wed Nov 11 2026. No macro, syntax, notation, axiom, sorry.
-/
import Derived.Test.YtppledjkdbldlaaGreatChecked
import GoSem.Claim
import GoSem.ClaimJoined
import GoSem.ClaimMapViews
import Derived.JoinedTies
import Derived.KernelRfl
namespace Go.Proofs.YtppledjkdbldlaaGreat
/- THE CELL 'sum', in the pinned program and in every row, IS THE sha256 OF THE DUMP (.gsa) THAT YtppledjkdbldlaaGreatProg.lean LOADS. Nothing in Lean hashes anything: it is a label: what it is worth is what the hold of that sum in a sandbox is worth. -/
noncomputable def Tryz.pinned : Pinned := { name := "ytppledjkdbldlaagreat", sum := "1d0b38cb68994d59ef3b583a3559c7185adab1a2caca94e2c9b2c9c709b8a4a1", checked := Tryz.checked }
namespace Rows
def none {H : Type} : Left H := { results := [], args := [] }

/-- 'laws.FnSceneOnce': WHATEVER THE INPUT: true; the input reads as it did. -/
def fnSceneOnceSpec : ChangeSpec := { name := "fnSceneOnce", fn := fun _ => fun
  | [d] => { results := [.lit (.bool true)], args := [d] }
  | _ => none }
def fnSceneOnceRow : OpenClaim := { program := "ytppledjkdbldlaagreat", sum := "1d0b38cb68994d59ef3b583a3559c7185adab1a2caca94e2c9b2c9c709b8a4a1", func := "loop.example/lucarne/laws.FnSceneOnce", spec := "fnSceneOnce", inPlace := ["(*sync.WaitGroup).Add", "internal/race.ReleaseMerge", "internal/race.Disable", "internal/race.Enable", "internal/synctest.IsInBubble", "internal/synctest.Associate[sync.WaitGroup]", "sync.fatal", "sync/atomic.OrUint64", "sync/atomic.AddUint64", "internal/race.Read", "sync/atomic.LoadUint64", "sync/atomic.StoreUint64", "internal/synctest.Disassociate[sync.WaitGroup]", "sync.runtime_Semrelease", "(*sync.WaitGroup).Done", "(*sync.WaitGroup).Wait", "internal/race.Acquire", "internal/synctest.IsAssociated[sync.WaitGroup]", "sync/atomic.CompareAndSwapUint64", "internal/race.Write", "sync.runtime_SemacquireWaitGroup"], unfollowed := true, recurses := true, leaving := true, apart := false }
def FnSceneOnceSaid : Prop := fnSceneOnceRow.holds Tryz.pinned (OpenSpec.ofChange fnSceneOnceSpec)

/-- ITS FALSE NEIGHBOUR: 'it returns false'. Refute it at one input. -/
def fnSceneOnceWrong : ChangeSpec := { name := "fnSceneOnce", fn := fun _ => fun
  | [d] => { results := [.lit (.bool false)], args := [d] }
  | _ => none }
def FnSceneOnceWrongFalsely : Prop := fnSceneOnceRow.holds Tryz.pinned (OpenSpec.ofChange fnSceneOnceWrong)

/-- 'laws.FnAlbumMost': WHATEVER THE INPUT: true; the input reads as it did. -/
def fnAlbumMostSpec : ChangeSpec := { name := "fnAlbumMost", fn := fun _ => fun
  | [d] => { results := [.lit (.bool true)], args := [d] }
  | _ => none }
def fnAlbumMostRow : OpenClaim := { program := "ytppledjkdbldlaagreat", sum := "1d0b38cb68994d59ef3b583a3559c7185adab1a2caca94e2c9b2c9c709b8a4a1", func := "loop.example/lucarne/laws.FnAlbumMost", spec := "fnAlbumMost", inPlace := ["(*sync.WaitGroup).Add", "internal/race.ReleaseMerge", "internal/race.Disable", "internal/race.Enable", "internal/synctest.IsInBubble", "internal/synctest.Associate[sync.WaitGroup]", "sync.fatal", "sync/atomic.OrUint64", "sync/atomic.AddUint64", "internal/race.Read", "sync/atomic.LoadUint64", "sync/atomic.StoreUint64", "internal/synctest.Disassociate[sync.WaitGroup]", "sync.runtime_Semrelease", "(*sync.WaitGroup).Done", "(*sync.WaitGroup).Wait", "internal/race.Acquire", "internal/synctest.IsAssociated[sync.WaitGroup]", "sync/atomic.CompareAndSwapUint64", "internal/race.Write", "sync.runtime_SemacquireWaitGroup"], unfollowed := true, recurses := true, leaving := true, apart := false }
def FnAlbumMostSaid : Prop := fnAlbumMostRow.holds Tryz.pinned (OpenSpec.ofChange fnAlbumMostSpec)

/-- ITS FALSE NEIGHBOUR: 'it returns false'. Refute it at one input. -/
def fnAlbumMostWrong : ChangeSpec := { name := "fnAlbumMost", fn := fun _ => fun
  | [d] => { results := [.lit (.bool false)], args := [d] }
  | _ => none }
def FnAlbumMostWrongFalsely : Prop := fnAlbumMostRow.holds Tryz.pinned (OpenSpec.ofChange fnAlbumMostWrong)

/-- 'laws.FnExactSceneEdit': WHATEVER THE INPUT: true; the input reads as it did. -/
def fnExactSceneEditSpec : ChangeSpec := { name := "fnExactSceneEdit", fn := fun _ => fun
  | [d1, d2] => { results := [.lit (.bool true)], args := [d1, d2] }
  | _ => none }
def fnExactSceneEditRow : OpenClaim := { program := "ytppledjkdbldlaagreat", sum := "1d0b38cb68994d59ef3b583a3559c7185adab1a2caca94e2c9b2c9c709b8a4a1", func := "loop.example/lucarne/laws.FnExactSceneEdit", spec := "fnExactSceneEdit", inPlace := ["(*sync.WaitGroup).Add", "internal/race.ReleaseMerge", "internal/race.Disable", "internal/race.Enable", "internal/synctest.IsInBubble", "internal/synctest.Associate[sync.WaitGroup]", "sync.fatal", "sync/atomic.OrUint64", "sync/atomic.AddUint64", "internal/race.Read", "sync/atomic.LoadUint64", "sync/atomic.StoreUint64", "internal/synctest.Disassociate[sync.WaitGroup]", "sync.runtime_Semrelease", "(*sync.WaitGroup).Done", "(*sync.WaitGroup).Wait", "internal/race.Acquire", "internal/synctest.IsAssociated[sync.WaitGroup]", "sync/atomic.CompareAndSwapUint64", "internal/race.Write", "sync.runtime_SemacquireWaitGroup"], unfollowed := true, recurses := true, leaving := true, apart := false }
def FnExactSceneEditSaid : Prop := fnExactSceneEditRow.holds Tryz.pinned (OpenSpec.ofChange fnExactSceneEditSpec)

/-- ITS FALSE NEIGHBOUR: 'it returns false'. Refute it at one input. -/
def fnExactSceneEditWrong : ChangeSpec := { name := "fnExactSceneEdit", fn := fun _ => fun
  | [d1, d2] => { results := [.lit (.bool false)], args := [d1, d2] }
  | _ => none }
def FnExactSceneEditWrongFalsely : Prop := fnExactSceneEditRow.holds Tryz.pinned (OpenSpec.ofChange fnExactSceneEditWrong)

/-- 'laws.FnAlbumAll': WHATEVER THE INPUT: true; the input reads as it did. -/
def fnAlbumAllSpec : ChangeSpec := { name := "fnAlbumAll", fn := fun _ => fun
  | [d1, d2] => { results := [.lit (.bool true)], args := [d1, d2] }
  | _ => none }
def fnAlbumAllRow : OpenClaim := { program := "ytppledjkdbldlaagreat", sum := "1d0b38cb68994d59ef3b583a3559c7185adab1a2caca94e2c9b2c9c709b8a4a1", func := "loop.example/lucarne/laws.FnAlbumAll", spec := "fnAlbumAll", inPlace := ["(*sync.WaitGroup).Add", "internal/race.ReleaseMerge", "internal/race.Disable", "internal/race.Enable", "internal/synctest.IsInBubble", "internal/synctest.Associate[sync.WaitGroup]", "sync.fatal", "sync/atomic.OrUint64", "sync/atomic.AddUint64", "internal/race.Read", "sync/atomic.LoadUint64", "sync/atomic.StoreUint64", "internal/synctest.Disassociate[sync.WaitGroup]", "sync.runtime_Semrelease", "(*sync.WaitGroup).Done", "(*sync.WaitGroup).Wait", "internal/race.Acquire", "internal/synctest.IsAssociated[sync.WaitGroup]", "sync/atomic.CompareAndSwapUint64", "internal/race.Write", "sync.runtime_SemacquireWaitGroup"], unfollowed := true, recurses := true, leaving := true, apart := false }
def FnAlbumAllSaid : Prop := fnAlbumAllRow.holds Tryz.pinned (OpenSpec.ofChange fnAlbumAllSpec)

/-- ITS FALSE NEIGHBOUR: 'it returns false'. Refute it at one input. -/
def fnAlbumAllWrong : ChangeSpec := { name := "fnAlbumAll", fn := fun _ => fun
  | [d1, d2] => { results := [.lit (.bool false)], args := [d1, d2] }
  | _ => none }
def FnAlbumAllWrongFalsely : Prop := fnAlbumAllRow.holds Tryz.pinned (OpenSpec.ofChange fnAlbumAllWrong)

/-- 'laws.FnAlbumBack': WHATEVER THE INPUT: true; the input reads as it did. -/
def fnAlbumBackSpec : ChangeSpec := { name := "fnAlbumBack", fn := fun _ => fun
  | [d] => { results := [.lit (.bool true)], args := [d] }
  | _ => none }
def fnAlbumBackRow : OpenClaim := { program := "ytppledjkdbldlaagreat", sum := "1d0b38cb68994d59ef3b583a3559c7185adab1a2caca94e2c9b2c9c709b8a4a1", func := "loop.example/lucarne/laws.FnAlbumBack", spec := "fnAlbumBack", inPlace := ["(*sync.WaitGroup).Add", "internal/race.ReleaseMerge", "internal/race.Disable", "internal/race.Enable", "internal/synctest.IsInBubble", "internal/synctest.Associate[sync.WaitGroup]", "sync.fatal", "sync/atomic.OrUint64", "sync/atomic.AddUint64", "internal/race.Read", "sync/atomic.LoadUint64", "sync/atomic.StoreUint64", "internal/synctest.Disassociate[sync.WaitGroup]", "sync.runtime_Semrelease", "(*sync.WaitGroup).Done", "(*sync.WaitGroup).Wait", "internal/race.Acquire", "internal/synctest.IsAssociated[sync.WaitGroup]", "sync/atomic.CompareAndSwapUint64", "internal/race.Write", "sync.runtime_SemacquireWaitGroup"], unfollowed := true, recurses := true, leaving := true, apart := false }
def FnAlbumBackSaid : Prop := fnAlbumBackRow.holds Tryz.pinned (OpenSpec.ofChange fnAlbumBackSpec)

/-- ITS FALSE NEIGHBOUR: 'it returns false'. Refute it at one input. -/
def fnAlbumBackWrong : ChangeSpec := { name := "fnAlbumBack", fn := fun _ => fun
  | [d] => { results := [.lit (.bool false)], args := [d] }
  | _ => none }
def FnAlbumBackWrongFalsely : Prop := fnAlbumBackRow.holds Tryz.pinned (OpenSpec.ofChange fnAlbumBackWrong)

/-- 'laws.FnAlbumDo': WHATEVER THE INPUT: true; the input reads as it did. -/
def fnAlbumDoSpec : ChangeSpec := { name := "fnAlbumDo", fn := fun _ => fun
  | [d] => { results := [.lit (.bool true)], args := [d] }
  | _ => none }
def fnAlbumDoRow : OpenClaim := { program := "ytppledjkdbldlaagreat", sum := "1d0b38cb68994d59ef3b583a3559c7185adab1a2caca94e2c9b2c9c709b8a4a1", func := "loop.example/lucarne/laws.FnAlbumDo", spec := "fnAlbumDo", inPlace := ["(*sync.WaitGroup).Add", "internal/race.ReleaseMerge", "internal/race.Disable", "internal/race.Enable", "internal/synctest.IsInBubble", "internal/synctest.Associate[sync.WaitGroup]", "sync.fatal", "sync/atomic.OrUint64", "sync/atomic.AddUint64", "internal/race.Read", "sync/atomic.LoadUint64", "sync/atomic.StoreUint64", "internal/synctest.Disassociate[sync.WaitGroup]", "sync.runtime_Semrelease", "(*sync.WaitGroup).Done", "(*sync.WaitGroup).Wait", "internal/race.Acquire", "internal/synctest.IsAssociated[sync.WaitGroup]", "sync/atomic.CompareAndSwapUint64", "internal/race.Write", "sync.runtime_SemacquireWaitGroup"], unfollowed := true, recurses := true, leaving := true, apart := false }
def FnAlbumDoSaid : Prop := fnAlbumDoRow.holds Tryz.pinned (OpenSpec.ofChange fnAlbumDoSpec)

/-- ITS FALSE NEIGHBOUR: 'it returns false'. Refute it at one input. -/
def fnAlbumDoWrong : ChangeSpec := { name := "fnAlbumDo", fn := fun _ => fun
  | [d] => { results := [.lit (.bool false)], args := [d] }
  | _ => none }
def FnAlbumDoWrongFalsely : Prop := fnAlbumDoRow.holds Tryz.pinned (OpenSpec.ofChange fnAlbumDoWrong)

/-- 'laws.FnAlbumOn': WHATEVER THE INPUT: true; the input reads as it did. -/
def fnAlbumOnSpec : ChangeSpec := { name := "fnAlbumOn", fn := fun _ => fun
  | [d] => { results := [.lit (.bool true)], args := [d] }
  | _ => none }
def fnAlbumOnRow : OpenClaim := { program := "ytppledjkdbldlaagreat", sum := "1d0b38cb68994d59ef3b583a3559c7185adab1a2caca94e2c9b2c9c709b8a4a1", func := "loop.example/lucarne/laws.FnAlbumOn", spec := "fnAlbumOn", inPlace := ["(*sync.WaitGroup).Add", "internal/race.ReleaseMerge", "internal/race.Disable", "internal/race.Enable", "internal/synctest.IsInBubble", "internal/synctest.Associate[sync.WaitGroup]", "sync.fatal", "sync/atomic.OrUint64", "sync/atomic.AddUint64", "internal/race.Read", "sync/atomic.LoadUint64", "sync/atomic.StoreUint64", "internal/synctest.Disassociate[sync.WaitGroup]", "sync.runtime_Semrelease", "(*sync.WaitGroup).Done", "(*sync.WaitGroup).Wait", "internal/race.Acquire", "internal/synctest.IsAssociated[sync.WaitGroup]", "sync/atomic.CompareAndSwapUint64", "internal/race.Write", "sync.runtime_SemacquireWaitGroup"], unfollowed := true, recurses := true, leaving := true, apart := false }
def FnAlbumOnSaid : Prop := fnAlbumOnRow.holds Tryz.pinned (OpenSpec.ofChange fnAlbumOnSpec)

/-- ITS FALSE NEIGHBOUR: 'it returns false'. Refute it at one input. -/
def fnAlbumOnWrong : ChangeSpec := { name := "fnAlbumOn", fn := fun _ => fun
  | [d] => { results := [.lit (.bool false)], args := [d] }
  | _ => none }
def FnAlbumOnWrongFalsely : Prop := fnAlbumOnRow.holds Tryz.pinned (OpenSpec.ofChange fnAlbumOnWrong)

/-- 'laws.FnAlbumRun': WHATEVER THE INPUT: true; the input reads as it did. -/
def fnAlbumRunSpec : ChangeSpec := { name := "fnAlbumRun", fn := fun _ => fun
  | [d1, d2] => { results := [.lit (.bool true)], args := [d1, d2] }
  | _ => none }
def fnAlbumRunRow : OpenClaim := { program := "ytppledjkdbldlaagreat", sum := "1d0b38cb68994d59ef3b583a3559c7185adab1a2caca94e2c9b2c9c709b8a4a1", func := "loop.example/lucarne/laws.FnAlbumRun", spec := "fnAlbumRun", inPlace := ["(*sync.WaitGroup).Add", "internal/race.ReleaseMerge", "internal/race.Disable", "internal/race.Enable", "internal/synctest.IsInBubble", "internal/synctest.Associate[sync.WaitGroup]", "sync.fatal", "sync/atomic.OrUint64", "sync/atomic.AddUint64", "internal/race.Read", "sync/atomic.LoadUint64", "sync/atomic.StoreUint64", "internal/synctest.Disassociate[sync.WaitGroup]", "sync.runtime_Semrelease", "(*sync.WaitGroup).Done", "(*sync.WaitGroup).Wait", "internal/race.Acquire", "internal/synctest.IsAssociated[sync.WaitGroup]", "sync/atomic.CompareAndSwapUint64", "internal/race.Write", "sync.runtime_SemacquireWaitGroup"], unfollowed := true, recurses := true, leaving := true, apart := false }
def FnAlbumRunSaid : Prop := fnAlbumRunRow.holds Tryz.pinned (OpenSpec.ofChange fnAlbumRunSpec)

/-- ITS FALSE NEIGHBOUR: 'it returns false'. Refute it at one input. -/
def fnAlbumRunWrong : ChangeSpec := { name := "fnAlbumRun", fn := fun _ => fun
  | [d1, d2] => { results := [.lit (.bool false)], args := [d1, d2] }
  | _ => none }
def FnAlbumRunWrongFalsely : Prop := fnAlbumRunRow.holds Tryz.pinned (OpenSpec.ofChange fnAlbumRunWrong)

/-- 'laws.FnExactSceneMany': WHATEVER THE INPUT: true; the input reads as it did. -/
def fnExactSceneManySpec : ChangeSpec := { name := "fnExactSceneMany", fn := fun _ => fun
  | [d1, d2] => { results := [.lit (.bool true)], args := [d1, d2] }
  | _ => none }
def fnExactSceneManyRow : OpenClaim := { program := "ytppledjkdbldlaagreat", sum := "1d0b38cb68994d59ef3b583a3559c7185adab1a2caca94e2c9b2c9c709b8a4a1", func := "loop.example/lucarne/laws.FnExactSceneMany", spec := "fnExactSceneMany", inPlace := ["(*sync.WaitGroup).Add", "internal/race.ReleaseMerge", "internal/race.Disable", "internal/race.Enable", "internal/synctest.IsInBubble", "internal/synctest.Associate[sync.WaitGroup]", "sync.fatal", "sync/atomic.OrUint64", "sync/atomic.AddUint64", "internal/race.Read", "sync/atomic.LoadUint64", "sync/atomic.StoreUint64", "internal/synctest.Disassociate[sync.WaitGroup]", "sync.runtime_Semrelease", "(*sync.WaitGroup).Done", "(*sync.WaitGroup).Wait", "internal/race.Acquire", "internal/synctest.IsAssociated[sync.WaitGroup]", "sync/atomic.CompareAndSwapUint64", "internal/race.Write", "sync.runtime_SemacquireWaitGroup"], unfollowed := true, recurses := true, leaving := true, apart := false }
def FnExactSceneManySaid : Prop := fnExactSceneManyRow.holds Tryz.pinned (OpenSpec.ofChange fnExactSceneManySpec)

/-- ITS FALSE NEIGHBOUR: 'it returns false'. Refute it at one input. -/
def fnExactSceneManyWrong : ChangeSpec := { name := "fnExactSceneMany", fn := fun _ => fun
  | [d1, d2] => { results := [.lit (.bool false)], args := [d1, d2] }
  | _ => none }
def FnExactSceneManyWrongFalsely : Prop := fnExactSceneManyRow.holds Tryz.pinned (OpenSpec.ofChange fnExactSceneManyWrong)

/-- 'laws.FnAlbumEdit': WHATEVER THE INPUT: true; the input reads as it did. -/
def fnAlbumEditSpec : ChangeSpec := { name := "fnAlbumEdit", fn := fun _ => fun
  | [d] => { results := [.lit (.bool true)], args := [d] }
  | _ => none }
def fnAlbumEditRow : OpenClaim := { program := "ytppledjkdbldlaagreat", sum := "1d0b38cb68994d59ef3b583a3559c7185adab1a2caca94e2c9b2c9c709b8a4a1", func := "loop.example/lucarne/laws.FnAlbumEdit", spec := "fnAlbumEdit", inPlace := ["(*sync.WaitGroup).Add", "internal/race.ReleaseMerge", "internal/race.Disable", "internal/race.Enable", "internal/synctest.IsInBubble", "internal/synctest.Associate[sync.WaitGroup]", "sync.fatal", "sync/atomic.OrUint64", "sync/atomic.AddUint64", "internal/race.Read", "sync/atomic.LoadUint64", "sync/atomic.StoreUint64", "internal/synctest.Disassociate[sync.WaitGroup]", "sync.runtime_Semrelease", "(*sync.WaitGroup).Done", "(*sync.WaitGroup).Wait", "internal/race.Acquire", "internal/synctest.IsAssociated[sync.WaitGroup]", "sync/atomic.CompareAndSwapUint64", "internal/race.Write", "sync.runtime_SemacquireWaitGroup"], unfollowed := true, recurses := true, leaving := true, apart := false }
def FnAlbumEditSaid : Prop := fnAlbumEditRow.holds Tryz.pinned (OpenSpec.ofChange fnAlbumEditSpec)

/-- ITS FALSE NEIGHBOUR: 'it returns false'. Refute it at one input. -/
def fnAlbumEditWrong : ChangeSpec := { name := "fnAlbumEdit", fn := fun _ => fun
  | [d] => { results := [.lit (.bool false)], args := [d] }
  | _ => none }
def FnAlbumEditWrongFalsely : Prop := fnAlbumEditRow.holds Tryz.pinned (OpenSpec.ofChange fnAlbumEditWrong)

/- THE SECOND FORM. 'bulk': how many values and letters a reading holds, each counted each time it is reached (what is shared counts as often as it is met; a slice's spare places count too). A statement '..UptoSaid' is the law's where the arguments, and the package variables that the reading takes, are together of bulk at most 1048576: NARROWER than '..Said'. Prove '..Said' where nothing that the law and all that it calls make is longer than what came in: it says more and counts as full. Else prove '..UptoSaid'. A law counts once. -/
mutual
def uptoBulk {H : Type} : DataW H → Nat
  | .lit (.string bytes) => bytes.length + 1
  | .lit _ => 1
  | .nil => 1
  | .ptr d => uptoBulk d + 1
  | .slice elems spare => uptoBulkAll elems + uptoBulkAll spare + 1
  | .agg parts => uptoBulkAll parts + 1
  | .iface _ d => uptoBulk d + 1
  | .map entries => uptoBulkEntries entries + 1
  | .held _ => 1
def uptoBulkAll {H : Type} : List (DataW H) → Nat
  | [] => 0
  | d :: r => uptoBulk d + uptoBulkAll r
def uptoBulkEntries {H : Type} : List (Lit × DataW H) → Nat
  | [] => 0
  | x :: r => uptoBulkEntry x + uptoBulkEntries r
def uptoBulkEntry {H : Type} : Lit × DataW H → Nat
  | (.string bytes, d) => bytes.length + uptoBulk d + 1
  | (_, d) => uptoBulk d + 1
 end
def uptoSmall : (H : Type) → List (DataW H) → Bool := fun _ ds => decide (uptoBulkAll ds ≤ 1048576)
def OpenSpec.upto (s : _root_.Go.ChangeSpec) : _root_.Go.OpenSpec := { _root_.Go.OpenSpec.ofChange s with cond := some uptoSmall }

/-- 'laws.FnSceneOnce', WHERE WHAT IT READS IS OF BULK AT MOST 1048576: true; the input reads as it did. -/
def fnSceneOnceUptoRow : OpenClaim := { program := "ytppledjkdbldlaagreat", sum := "1d0b38cb68994d59ef3b583a3559c7185adab1a2caca94e2c9b2c9c709b8a4a1", func := "loop.example/lucarne/laws.FnSceneOnce", spec := "fnSceneOnce", inPlace := ["(*sync.WaitGroup).Add", "internal/race.ReleaseMerge", "internal/race.Disable", "internal/race.Enable", "internal/synctest.IsInBubble", "internal/synctest.Associate[sync.WaitGroup]", "sync.fatal", "sync/atomic.OrUint64", "sync/atomic.AddUint64", "internal/race.Read", "sync/atomic.LoadUint64", "sync/atomic.StoreUint64", "internal/synctest.Disassociate[sync.WaitGroup]", "sync.runtime_Semrelease", "(*sync.WaitGroup).Done", "(*sync.WaitGroup).Wait", "internal/race.Acquire", "internal/synctest.IsAssociated[sync.WaitGroup]", "sync/atomic.CompareAndSwapUint64", "internal/race.Write", "sync.runtime_SemacquireWaitGroup"], unfollowed := true, recurses := true, leaving := true, apart := false, narrowed := true }
def FnSceneOnceUptoSaid : Prop := fnSceneOnceUptoRow.holds Tryz.pinned (OpenSpec.upto fnSceneOnceSpec)

/-- 'laws.FnAlbumMost', WHERE WHAT IT READS IS OF BULK AT MOST 1048576: true; the input reads as it did. -/
def fnAlbumMostUptoRow : OpenClaim := { program := "ytppledjkdbldlaagreat", sum := "1d0b38cb68994d59ef3b583a3559c7185adab1a2caca94e2c9b2c9c709b8a4a1", func := "loop.example/lucarne/laws.FnAlbumMost", spec := "fnAlbumMost", inPlace := ["(*sync.WaitGroup).Add", "internal/race.ReleaseMerge", "internal/race.Disable", "internal/race.Enable", "internal/synctest.IsInBubble", "internal/synctest.Associate[sync.WaitGroup]", "sync.fatal", "sync/atomic.OrUint64", "sync/atomic.AddUint64", "internal/race.Read", "sync/atomic.LoadUint64", "sync/atomic.StoreUint64", "internal/synctest.Disassociate[sync.WaitGroup]", "sync.runtime_Semrelease", "(*sync.WaitGroup).Done", "(*sync.WaitGroup).Wait", "internal/race.Acquire", "internal/synctest.IsAssociated[sync.WaitGroup]", "sync/atomic.CompareAndSwapUint64", "internal/race.Write", "sync.runtime_SemacquireWaitGroup"], unfollowed := true, recurses := true, leaving := true, apart := false, narrowed := true }
def FnAlbumMostUptoSaid : Prop := fnAlbumMostUptoRow.holds Tryz.pinned (OpenSpec.upto fnAlbumMostSpec)

/-- 'laws.FnExactSceneEdit', WHERE WHAT IT READS IS OF BULK AT MOST 1048576: true; the input reads as it did. -/
def fnExactSceneEditUptoRow : OpenClaim := { program := "ytppledjkdbldlaagreat", sum := "1d0b38cb68994d59ef3b583a3559c7185adab1a2caca94e2c9b2c9c709b8a4a1", func := "loop.example/lucarne/laws.FnExactSceneEdit", spec := "fnExactSceneEdit", inPlace := ["(*sync.WaitGroup).Add", "internal/race.ReleaseMerge", "internal/race.Disable", "internal/race.Enable", "internal/synctest.IsInBubble", "internal/synctest.Associate[sync.WaitGroup]", "sync.fatal", "sync/atomic.OrUint64", "sync/atomic.AddUint64", "internal/race.Read", "sync/atomic.LoadUint64", "sync/atomic.StoreUint64", "internal/synctest.Disassociate[sync.WaitGroup]", "sync.runtime_Semrelease", "(*sync.WaitGroup).Done", "(*sync.WaitGroup).Wait", "internal/race.Acquire", "internal/synctest.IsAssociated[sync.WaitGroup]", "sync/atomic.CompareAndSwapUint64", "internal/race.Write", "sync.runtime_SemacquireWaitGroup"], unfollowed := true, recurses := true, leaving := true, apart := false, narrowed := true }
def FnExactSceneEditUptoSaid : Prop := fnExactSceneEditUptoRow.holds Tryz.pinned (OpenSpec.upto fnExactSceneEditSpec)

/-- 'laws.FnAlbumAll', WHERE WHAT IT READS IS OF BULK AT MOST 1048576: true; the input reads as it did. -/
def fnAlbumAllUptoRow : OpenClaim := { program := "ytppledjkdbldlaagreat", sum := "1d0b38cb68994d59ef3b583a3559c7185adab1a2caca94e2c9b2c9c709b8a4a1", func := "loop.example/lucarne/laws.FnAlbumAll", spec := "fnAlbumAll", inPlace := ["(*sync.WaitGroup).Add", "internal/race.ReleaseMerge", "internal/race.Disable", "internal/race.Enable", "internal/synctest.IsInBubble", "internal/synctest.Associate[sync.WaitGroup]", "sync.fatal", "sync/atomic.OrUint64", "sync/atomic.AddUint64", "internal/race.Read", "sync/atomic.LoadUint64", "sync/atomic.StoreUint64", "internal/synctest.Disassociate[sync.WaitGroup]", "sync.runtime_Semrelease", "(*sync.WaitGroup).Done", "(*sync.WaitGroup).Wait", "internal/race.Acquire", "internal/synctest.IsAssociated[sync.WaitGroup]", "sync/atomic.CompareAndSwapUint64", "internal/race.Write", "sync.runtime_SemacquireWaitGroup"], unfollowed := true, recurses := true, leaving := true, apart := false, narrowed := true }
def FnAlbumAllUptoSaid : Prop := fnAlbumAllUptoRow.holds Tryz.pinned (OpenSpec.upto fnAlbumAllSpec)

/-- 'laws.FnAlbumBack', WHERE WHAT IT READS IS OF BULK AT MOST 1048576: true; the input reads as it did. -/
def fnAlbumBackUptoRow : OpenClaim := { program := "ytppledjkdbldlaagreat", sum := "1d0b38cb68994d59ef3b583a3559c7185adab1a2caca94e2c9b2c9c709b8a4a1", func := "loop.example/lucarne/laws.FnAlbumBack", spec := "fnAlbumBack", inPlace := ["(*sync.WaitGroup).Add", "internal/race.ReleaseMerge", "internal/race.Disable", "internal/race.Enable", "internal/synctest.IsInBubble", "internal/synctest.Associate[sync.WaitGroup]", "sync.fatal", "sync/atomic.OrUint64", "sync/atomic.AddUint64", "internal/race.Read", "sync/atomic.LoadUint64", "sync/atomic.StoreUint64", "internal/synctest.Disassociate[sync.WaitGroup]", "sync.runtime_Semrelease", "(*sync.WaitGroup).Done", "(*sync.WaitGroup).Wait", "internal/race.Acquire", "internal/synctest.IsAssociated[sync.WaitGroup]", "sync/atomic.CompareAndSwapUint64", "internal/race.Write", "sync.runtime_SemacquireWaitGroup"], unfollowed := true, recurses := true, leaving := true, apart := false, narrowed := true }
def FnAlbumBackUptoSaid : Prop := fnAlbumBackUptoRow.holds Tryz.pinned (OpenSpec.upto fnAlbumBackSpec)

/-- 'laws.FnAlbumDo', WHERE WHAT IT READS IS OF BULK AT MOST 1048576: true; the input reads as it did. -/
def fnAlbumDoUptoRow : OpenClaim := { program := "ytppledjkdbldlaagreat", sum := "1d0b38cb68994d59ef3b583a3559c7185adab1a2caca94e2c9b2c9c709b8a4a1", func := "loop.example/lucarne/laws.FnAlbumDo", spec := "fnAlbumDo", inPlace := ["(*sync.WaitGroup).Add", "internal/race.ReleaseMerge", "internal/race.Disable", "internal/race.Enable", "internal/synctest.IsInBubble", "internal/synctest.Associate[sync.WaitGroup]", "sync.fatal", "sync/atomic.OrUint64", "sync/atomic.AddUint64", "internal/race.Read", "sync/atomic.LoadUint64", "sync/atomic.StoreUint64", "internal/synctest.Disassociate[sync.WaitGroup]", "sync.runtime_Semrelease", "(*sync.WaitGroup).Done", "(*sync.WaitGroup).Wait", "internal/race.Acquire", "internal/synctest.IsAssociated[sync.WaitGroup]", "sync/atomic.CompareAndSwapUint64", "internal/race.Write", "sync.runtime_SemacquireWaitGroup"], unfollowed := true, recurses := true, leaving := true, apart := false, narrowed := true }
def FnAlbumDoUptoSaid : Prop := fnAlbumDoUptoRow.holds Tryz.pinned (OpenSpec.upto fnAlbumDoSpec)

/-- 'laws.FnAlbumOn', WHERE WHAT IT READS IS OF BULK AT MOST 1048576: true; the input reads as it did. -/
def fnAlbumOnUptoRow : OpenClaim := { program := "ytppledjkdbldlaagreat", sum := "1d0b38cb68994d59ef3b583a3559c7185adab1a2caca94e2c9b2c9c709b8a4a1", func := "loop.example/lucarne/laws.FnAlbumOn", spec := "fnAlbumOn", inPlace := ["(*sync.WaitGroup).Add", "internal/race.ReleaseMerge", "internal/race.Disable", "internal/race.Enable", "internal/synctest.IsInBubble", "internal/synctest.Associate[sync.WaitGroup]", "sync.fatal", "sync/atomic.OrUint64", "sync/atomic.AddUint64", "internal/race.Read", "sync/atomic.LoadUint64", "sync/atomic.StoreUint64", "internal/synctest.Disassociate[sync.WaitGroup]", "sync.runtime_Semrelease", "(*sync.WaitGroup).Done", "(*sync.WaitGroup).Wait", "internal/race.Acquire", "internal/synctest.IsAssociated[sync.WaitGroup]", "sync/atomic.CompareAndSwapUint64", "internal/race.Write", "sync.runtime_SemacquireWaitGroup"], unfollowed := true, recurses := true, leaving := true, apart := false, narrowed := true }
def FnAlbumOnUptoSaid : Prop := fnAlbumOnUptoRow.holds Tryz.pinned (OpenSpec.upto fnAlbumOnSpec)

/-- 'laws.FnAlbumRun', WHERE WHAT IT READS IS OF BULK AT MOST 1048576: true; the input reads as it did. -/
def fnAlbumRunUptoRow : OpenClaim := { program := "ytppledjkdbldlaagreat", sum := "1d0b38cb68994d59ef3b583a3559c7185adab1a2caca94e2c9b2c9c709b8a4a1", func := "loop.example/lucarne/laws.FnAlbumRun", spec := "fnAlbumRun", inPlace := ["(*sync.WaitGroup).Add", "internal/race.ReleaseMerge", "internal/race.Disable", "internal/race.Enable", "internal/synctest.IsInBubble", "internal/synctest.Associate[sync.WaitGroup]", "sync.fatal", "sync/atomic.OrUint64", "sync/atomic.AddUint64", "internal/race.Read", "sync/atomic.LoadUint64", "sync/atomic.StoreUint64", "internal/synctest.Disassociate[sync.WaitGroup]", "sync.runtime_Semrelease", "(*sync.WaitGroup).Done", "(*sync.WaitGroup).Wait", "internal/race.Acquire", "internal/synctest.IsAssociated[sync.WaitGroup]", "sync/atomic.CompareAndSwapUint64", "internal/race.Write", "sync.runtime_SemacquireWaitGroup"], unfollowed := true, recurses := true, leaving := true, apart := false, narrowed := true }
def FnAlbumRunUptoSaid : Prop := fnAlbumRunUptoRow.holds Tryz.pinned (OpenSpec.upto fnAlbumRunSpec)

/-- 'laws.FnExactSceneMany', WHERE WHAT IT READS IS OF BULK AT MOST 1048576: true; the input reads as it did. -/
def fnExactSceneManyUptoRow : OpenClaim := { program := "ytppledjkdbldlaagreat", sum := "1d0b38cb68994d59ef3b583a3559c7185adab1a2caca94e2c9b2c9c709b8a4a1", func := "loop.example/lucarne/laws.FnExactSceneMany", spec := "fnExactSceneMany", inPlace := ["(*sync.WaitGroup).Add", "internal/race.ReleaseMerge", "internal/race.Disable", "internal/race.Enable", "internal/synctest.IsInBubble", "internal/synctest.Associate[sync.WaitGroup]", "sync.fatal", "sync/atomic.OrUint64", "sync/atomic.AddUint64", "internal/race.Read", "sync/atomic.LoadUint64", "sync/atomic.StoreUint64", "internal/synctest.Disassociate[sync.WaitGroup]", "sync.runtime_Semrelease", "(*sync.WaitGroup).Done", "(*sync.WaitGroup).Wait", "internal/race.Acquire", "internal/synctest.IsAssociated[sync.WaitGroup]", "sync/atomic.CompareAndSwapUint64", "internal/race.Write", "sync.runtime_SemacquireWaitGroup"], unfollowed := true, recurses := true, leaving := true, apart := false, narrowed := true }
def FnExactSceneManyUptoSaid : Prop := fnExactSceneManyUptoRow.holds Tryz.pinned (OpenSpec.upto fnExactSceneManySpec)

/-- 'laws.FnAlbumEdit', WHERE WHAT IT READS IS OF BULK AT MOST 1048576: true; the input reads as it did. -/
def fnAlbumEditUptoRow : OpenClaim := { program := "ytppledjkdbldlaagreat", sum := "1d0b38cb68994d59ef3b583a3559c7185adab1a2caca94e2c9b2c9c709b8a4a1", func := "loop.example/lucarne/laws.FnAlbumEdit", spec := "fnAlbumEdit", inPlace := ["(*sync.WaitGroup).Add", "internal/race.ReleaseMerge", "internal/race.Disable", "internal/race.Enable", "internal/synctest.IsInBubble", "internal/synctest.Associate[sync.WaitGroup]", "sync.fatal", "sync/atomic.OrUint64", "sync/atomic.AddUint64", "internal/race.Read", "sync/atomic.LoadUint64", "sync/atomic.StoreUint64", "internal/synctest.Disassociate[sync.WaitGroup]", "sync.runtime_Semrelease", "(*sync.WaitGroup).Done", "(*sync.WaitGroup).Wait", "internal/race.Acquire", "internal/synctest.IsAssociated[sync.WaitGroup]", "sync/atomic.CompareAndSwapUint64", "internal/race.Write", "sync.runtime_SemacquireWaitGroup"], unfollowed := true, recurses := true, leaving := true, apart := false, narrowed := true }
def FnAlbumEditUptoSaid : Prop := fnAlbumEditUptoRow.holds Tryz.pinned (OpenSpec.upto fnAlbumEditSpec)

end Rows
end Go.Proofs.YtppledjkdbldlaaGreat
