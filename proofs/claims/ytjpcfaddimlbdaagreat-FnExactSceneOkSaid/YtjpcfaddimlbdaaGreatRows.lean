/-
  No cell of these rows narrows 'for every input' (looked for: loops, veiled, ifaces, maps, wideKeys, modest, calm, conditions, laid).
  DERIVED. THE GIVEN ROWS OF THIS SEAT. 12 by the template 'for every input the law returns true; each argument reads behind the call as it read before'; 0 by the template 'total and deterministic' (their statements: YtjpcfaddimlbdaaGreatTotals.lean).
  GIVEN WITH THE SEED: the statements are not yours to turn. If you find one false, say at which input.
  Laid BY PROGRAM, IN A SANDBOX (cutbox-rows.mjs): the forced cells as the released guide's own fill.sh prints them over the translation e3a3f9748da0bcb1… (all of the seat's roots in one cut). By AI agents, Wed Nov 11 2026. No macro, syntax, notation, axiom, sorry.
-/
import Derived.Test.YtjpcfaddimlbdaaGreatChecked
import GoSem.Claim
import GoSem.ClaimJoined
import GoSem.ClaimMapViews
import Derived.JoinedTies
import Derived.KernelRfl
namespace Go.Proofs.YtjpcfaddimlbdaaGreat
/- THE CELL 'sum', in the pinned program and in every row, IS THE sha256 OF THE DUMP (.gsa) THAT YtjpcfaddimlbdaaGreatProg.lean LOADS. Nothing in Lean hashes anything: it is a label: what it is worth is what the hold of that sum in a sandbox is worth. -/
noncomputable def Tryz.pinned : Pinned := { name := "ytjpcfaddimlbdaagreat", sum := "e3a3f9748da0bcb1a599a8d920805b767d0aa06a9d203e78963bb86025c422b5", checked := Tryz.checked }
namespace Rows
def none {H : Type} : Left H := { results := [], args := [] }

/-- 'laws.FnExactSceneOk': WHATEVER THE INPUT: true; the input reads as it did. -/
def fnExactSceneOkSpec : ChangeSpec := { name := "fnExactSceneOk", fn := fun _ => fun
  | [d] => { results := [.lit (.bool true)], args := [d] }
  | _ => none }
def fnExactSceneOkRow : OpenClaim := { program := "ytjpcfaddimlbdaagreat", sum := "e3a3f9748da0bcb1a599a8d920805b767d0aa06a9d203e78963bb86025c422b5", func := "loop.example/lucarne/laws.FnExactSceneOk", spec := "fnExactSceneOk", inPlace := ["(*sync.WaitGroup).Add", "internal/race.ReleaseMerge", "internal/race.Disable", "internal/race.Enable", "internal/synctest.IsInBubble", "internal/synctest.Associate[sync.WaitGroup]", "sync.fatal", "sync/atomic.OrUint64", "sync/atomic.AddUint64", "internal/race.Read", "sync/atomic.LoadUint64", "sync/atomic.StoreUint64", "internal/synctest.Disassociate[sync.WaitGroup]", "sync.runtime_Semrelease", "(*sync.WaitGroup).Done", "(*sync.WaitGroup).Wait", "internal/race.Acquire", "internal/synctest.IsAssociated[sync.WaitGroup]", "sync/atomic.CompareAndSwapUint64", "internal/race.Write", "sync.runtime_SemacquireWaitGroup"], unfollowed := true, recurses := true, leaving := true, apart := false }
def FnExactSceneOkSaid : Prop := fnExactSceneOkRow.holds Tryz.pinned (OpenSpec.ofChange fnExactSceneOkSpec)

/-- ITS FALSE NEIGHBOUR: 'it returns false'. Refute it at one input. -/
def fnExactSceneOkWrong : ChangeSpec := { name := "fnExactSceneOk", fn := fun _ => fun
  | [d] => { results := [.lit (.bool false)], args := [d] }
  | _ => none }
def FnExactSceneOkWrongFalsely : Prop := fnExactSceneOkRow.holds Tryz.pinned (OpenSpec.ofChange fnExactSceneOkWrong)

/-- 'laws.FnAlbumNew': WHATEVER THE INPUT: true; the input reads as it did. -/
def fnAlbumNewSpec : ChangeSpec := { name := "fnAlbumNew", fn := fun _ => fun
  | [d] => { results := [.lit (.bool true)], args := [d] }
  | _ => none }
def fnAlbumNewRow : OpenClaim := { program := "ytjpcfaddimlbdaagreat", sum := "e3a3f9748da0bcb1a599a8d920805b767d0aa06a9d203e78963bb86025c422b5", func := "loop.example/lucarne/laws.FnAlbumNew", spec := "fnAlbumNew", inPlace := ["(*sync.WaitGroup).Add", "internal/race.ReleaseMerge", "internal/race.Disable", "internal/race.Enable", "internal/synctest.IsInBubble", "internal/synctest.Associate[sync.WaitGroup]", "sync.fatal", "sync/atomic.OrUint64", "sync/atomic.AddUint64", "internal/race.Read", "sync/atomic.LoadUint64", "sync/atomic.StoreUint64", "internal/synctest.Disassociate[sync.WaitGroup]", "sync.runtime_Semrelease", "(*sync.WaitGroup).Done", "(*sync.WaitGroup).Wait", "internal/race.Acquire", "internal/synctest.IsAssociated[sync.WaitGroup]", "sync/atomic.CompareAndSwapUint64", "internal/race.Write", "sync.runtime_SemacquireWaitGroup"], unfollowed := true, recurses := true, leaving := true, apart := false }
def FnAlbumNewSaid : Prop := fnAlbumNewRow.holds Tryz.pinned (OpenSpec.ofChange fnAlbumNewSpec)

/-- ITS FALSE NEIGHBOUR: 'it returns false'. Refute it at one input. -/
def fnAlbumNewWrong : ChangeSpec := { name := "fnAlbumNew", fn := fun _ => fun
  | [d] => { results := [.lit (.bool false)], args := [d] }
  | _ => none }
def FnAlbumNewWrongFalsely : Prop := fnAlbumNewRow.holds Tryz.pinned (OpenSpec.ofChange fnAlbumNewWrong)

/-- 'laws.FnExactAlbumNew': WHATEVER THE INPUT: true; the input reads as it did. -/
def fnExactAlbumNewSpec : ChangeSpec := { name := "fnExactAlbumNew", fn := fun _ => fun
  | [d] => { results := [.lit (.bool true)], args := [d] }
  | _ => none }
def fnExactAlbumNewRow : OpenClaim := { program := "ytjpcfaddimlbdaagreat", sum := "e3a3f9748da0bcb1a599a8d920805b767d0aa06a9d203e78963bb86025c422b5", func := "loop.example/lucarne/laws.FnExactAlbumNew", spec := "fnExactAlbumNew", inPlace := ["(*sync.WaitGroup).Add", "internal/race.ReleaseMerge", "internal/race.Disable", "internal/race.Enable", "internal/synctest.IsInBubble", "internal/synctest.Associate[sync.WaitGroup]", "sync.fatal", "sync/atomic.OrUint64", "sync/atomic.AddUint64", "internal/race.Read", "sync/atomic.LoadUint64", "sync/atomic.StoreUint64", "internal/synctest.Disassociate[sync.WaitGroup]", "sync.runtime_Semrelease", "(*sync.WaitGroup).Done", "(*sync.WaitGroup).Wait", "internal/race.Acquire", "internal/synctest.IsAssociated[sync.WaitGroup]", "sync/atomic.CompareAndSwapUint64", "internal/race.Write", "sync.runtime_SemacquireWaitGroup"], unfollowed := true, recurses := true, leaving := true, apart := false }
def FnExactAlbumNewSaid : Prop := fnExactAlbumNewRow.holds Tryz.pinned (OpenSpec.ofChange fnExactAlbumNewSpec)

/-- ITS FALSE NEIGHBOUR: 'it returns false'. Refute it at one input. -/
def fnExactAlbumNewWrong : ChangeSpec := { name := "fnExactAlbumNew", fn := fun _ => fun
  | [d] => { results := [.lit (.bool false)], args := [d] }
  | _ => none }
def FnExactAlbumNewWrongFalsely : Prop := fnExactAlbumNewRow.holds Tryz.pinned (OpenSpec.ofChange fnExactAlbumNewWrong)

/-- 'laws.FnExactSceneTouch': WHATEVER THE INPUT: true; the input reads as it did. -/
def fnExactSceneTouchSpec : ChangeSpec := { name := "fnExactSceneTouch", fn := fun _ => fun
  | [d1, d2] => { results := [.lit (.bool true)], args := [d1, d2] }
  | _ => none }
def fnExactSceneTouchRow : OpenClaim := { program := "ytjpcfaddimlbdaagreat", sum := "e3a3f9748da0bcb1a599a8d920805b767d0aa06a9d203e78963bb86025c422b5", func := "loop.example/lucarne/laws.FnExactSceneTouch", spec := "fnExactSceneTouch", inPlace := ["(*sync.WaitGroup).Add", "internal/race.ReleaseMerge", "internal/race.Disable", "internal/race.Enable", "internal/synctest.IsInBubble", "internal/synctest.Associate[sync.WaitGroup]", "sync.fatal", "sync/atomic.OrUint64", "sync/atomic.AddUint64", "internal/race.Read", "sync/atomic.LoadUint64", "sync/atomic.StoreUint64", "internal/synctest.Disassociate[sync.WaitGroup]", "sync.runtime_Semrelease", "(*sync.WaitGroup).Done", "(*sync.WaitGroup).Wait", "internal/race.Acquire", "internal/synctest.IsAssociated[sync.WaitGroup]", "sync/atomic.CompareAndSwapUint64", "internal/race.Write", "sync.runtime_SemacquireWaitGroup"], unfollowed := true, recurses := true, leaving := true, apart := false }
def FnExactSceneTouchSaid : Prop := fnExactSceneTouchRow.holds Tryz.pinned (OpenSpec.ofChange fnExactSceneTouchSpec)

/-- ITS FALSE NEIGHBOUR: 'it returns false'. Refute it at one input. -/
def fnExactSceneTouchWrong : ChangeSpec := { name := "fnExactSceneTouch", fn := fun _ => fun
  | [d1, d2] => { results := [.lit (.bool false)], args := [d1, d2] }
  | _ => none }
def FnExactSceneTouchWrongFalsely : Prop := fnExactSceneTouchRow.holds Tryz.pinned (OpenSpec.ofChange fnExactSceneTouchWrong)

/-- 'laws.FnExactAlbumOk': WHATEVER THE INPUT: true; the input reads as it did. -/
def fnExactAlbumOkSpec : ChangeSpec := { name := "fnExactAlbumOk", fn := fun _ => fun
  | [d] => { results := [.lit (.bool true)], args := [d] }
  | _ => none }
def fnExactAlbumOkRow : OpenClaim := { program := "ytjpcfaddimlbdaagreat", sum := "e3a3f9748da0bcb1a599a8d920805b767d0aa06a9d203e78963bb86025c422b5", func := "loop.example/lucarne/laws.FnExactAlbumOk", spec := "fnExactAlbumOk", inPlace := ["(*sync.WaitGroup).Add", "internal/race.ReleaseMerge", "internal/race.Disable", "internal/race.Enable", "internal/synctest.IsInBubble", "internal/synctest.Associate[sync.WaitGroup]", "sync.fatal", "sync/atomic.OrUint64", "sync/atomic.AddUint64", "internal/race.Read", "sync/atomic.LoadUint64", "sync/atomic.StoreUint64", "internal/synctest.Disassociate[sync.WaitGroup]", "sync.runtime_Semrelease", "(*sync.WaitGroup).Done", "(*sync.WaitGroup).Wait", "internal/race.Acquire", "internal/synctest.IsAssociated[sync.WaitGroup]", "sync/atomic.CompareAndSwapUint64", "internal/race.Write", "sync.runtime_SemacquireWaitGroup"], unfollowed := true, recurses := true, leaving := true, apart := false }
def FnExactAlbumOkSaid : Prop := fnExactAlbumOkRow.holds Tryz.pinned (OpenSpec.ofChange fnExactAlbumOkSpec)

/-- ITS FALSE NEIGHBOUR: 'it returns false'. Refute it at one input. -/
def fnExactAlbumOkWrong : ChangeSpec := { name := "fnExactAlbumOk", fn := fun _ => fun
  | [d] => { results := [.lit (.bool false)], args := [d] }
  | _ => none }
def FnExactAlbumOkWrongFalsely : Prop := fnExactAlbumOkRow.holds Tryz.pinned (OpenSpec.ofChange fnExactAlbumOkWrong)

/-- 'laws.FnSceneBack': WHATEVER THE INPUT: true; the input reads as it did. -/
def fnSceneBackSpec : ChangeSpec := { name := "fnSceneBack", fn := fun _ => fun
  | [d] => { results := [.lit (.bool true)], args := [d] }
  | _ => none }
def fnSceneBackRow : OpenClaim := { program := "ytjpcfaddimlbdaagreat", sum := "e3a3f9748da0bcb1a599a8d920805b767d0aa06a9d203e78963bb86025c422b5", func := "loop.example/lucarne/laws.FnSceneBack", spec := "fnSceneBack", inPlace := ["(*sync.WaitGroup).Add", "internal/race.ReleaseMerge", "internal/race.Disable", "internal/race.Enable", "internal/synctest.IsInBubble", "internal/synctest.Associate[sync.WaitGroup]", "sync.fatal", "sync/atomic.OrUint64", "sync/atomic.AddUint64", "internal/race.Read", "sync/atomic.LoadUint64", "sync/atomic.StoreUint64", "internal/synctest.Disassociate[sync.WaitGroup]", "sync.runtime_Semrelease", "(*sync.WaitGroup).Done", "(*sync.WaitGroup).Wait", "internal/race.Acquire", "internal/synctest.IsAssociated[sync.WaitGroup]", "sync/atomic.CompareAndSwapUint64", "internal/race.Write", "sync.runtime_SemacquireWaitGroup"], unfollowed := true, recurses := true, leaving := true, apart := false }
def FnSceneBackSaid : Prop := fnSceneBackRow.holds Tryz.pinned (OpenSpec.ofChange fnSceneBackSpec)

/-- ITS FALSE NEIGHBOUR: 'it returns false'. Refute it at one input. -/
def fnSceneBackWrong : ChangeSpec := { name := "fnSceneBack", fn := fun _ => fun
  | [d] => { results := [.lit (.bool false)], args := [d] }
  | _ => none }
def FnSceneBackWrongFalsely : Prop := fnSceneBackRow.holds Tryz.pinned (OpenSpec.ofChange fnSceneBackWrong)

/-- 'laws.FnSceneIdle': WHATEVER THE INPUT: true; the input reads as it did. -/
def fnSceneIdleSpec : ChangeSpec := { name := "fnSceneIdle", fn := fun _ => fun
  | [d] => { results := [.lit (.bool true)], args := [d] }
  | _ => none }
def fnSceneIdleRow : OpenClaim := { program := "ytjpcfaddimlbdaagreat", sum := "e3a3f9748da0bcb1a599a8d920805b767d0aa06a9d203e78963bb86025c422b5", func := "loop.example/lucarne/laws.FnSceneIdle", spec := "fnSceneIdle", inPlace := ["(*sync.WaitGroup).Add", "internal/race.ReleaseMerge", "internal/race.Disable", "internal/race.Enable", "internal/synctest.IsInBubble", "internal/synctest.Associate[sync.WaitGroup]", "sync.fatal", "sync/atomic.OrUint64", "sync/atomic.AddUint64", "internal/race.Read", "sync/atomic.LoadUint64", "sync/atomic.StoreUint64", "internal/synctest.Disassociate[sync.WaitGroup]", "sync.runtime_Semrelease", "(*sync.WaitGroup).Done", "(*sync.WaitGroup).Wait", "internal/race.Acquire", "internal/synctest.IsAssociated[sync.WaitGroup]", "sync/atomic.CompareAndSwapUint64", "internal/race.Write", "sync.runtime_SemacquireWaitGroup"], unfollowed := true, recurses := true, leaving := true, apart := false }
def FnSceneIdleSaid : Prop := fnSceneIdleRow.holds Tryz.pinned (OpenSpec.ofChange fnSceneIdleSpec)

/-- ITS FALSE NEIGHBOUR: 'it returns false'. Refute it at one input. -/
def fnSceneIdleWrong : ChangeSpec := { name := "fnSceneIdle", fn := fun _ => fun
  | [d] => { results := [.lit (.bool false)], args := [d] }
  | _ => none }
def FnSceneIdleWrongFalsely : Prop := fnSceneIdleRow.holds Tryz.pinned (OpenSpec.ofChange fnSceneIdleWrong)

/-- 'laws.FnSceneSwap': WHATEVER THE INPUT: true; the input reads as it did. -/
def fnSceneSwapSpec : ChangeSpec := { name := "fnSceneSwap", fn := fun _ => fun
  | [d1, d2] => { results := [.lit (.bool true)], args := [d1, d2] }
  | _ => none }
def fnSceneSwapRow : OpenClaim := { program := "ytjpcfaddimlbdaagreat", sum := "e3a3f9748da0bcb1a599a8d920805b767d0aa06a9d203e78963bb86025c422b5", func := "loop.example/lucarne/laws.FnSceneSwap", spec := "fnSceneSwap", inPlace := ["(*sync.WaitGroup).Add", "internal/race.ReleaseMerge", "internal/race.Disable", "internal/race.Enable", "internal/synctest.IsInBubble", "internal/synctest.Associate[sync.WaitGroup]", "sync.fatal", "sync/atomic.OrUint64", "sync/atomic.AddUint64", "internal/race.Read", "sync/atomic.LoadUint64", "sync/atomic.StoreUint64", "internal/synctest.Disassociate[sync.WaitGroup]", "sync.runtime_Semrelease", "(*sync.WaitGroup).Done", "(*sync.WaitGroup).Wait", "internal/race.Acquire", "internal/synctest.IsAssociated[sync.WaitGroup]", "sync/atomic.CompareAndSwapUint64", "internal/race.Write", "sync.runtime_SemacquireWaitGroup"], unfollowed := true, recurses := true, leaving := true, apart := false }
def FnSceneSwapSaid : Prop := fnSceneSwapRow.holds Tryz.pinned (OpenSpec.ofChange fnSceneSwapSpec)

/-- ITS FALSE NEIGHBOUR: 'it returns false'. Refute it at one input. -/
def fnSceneSwapWrong : ChangeSpec := { name := "fnSceneSwap", fn := fun _ => fun
  | [d1, d2] => { results := [.lit (.bool false)], args := [d1, d2] }
  | _ => none }
def FnSceneSwapWrongFalsely : Prop := fnSceneSwapRow.holds Tryz.pinned (OpenSpec.ofChange fnSceneSwapWrong)

/-- 'laws.FnSceneMany': WHATEVER THE INPUT: true; the input reads as it did. -/
def fnSceneManySpec : ChangeSpec := { name := "fnSceneMany", fn := fun _ => fun
  | [d] => { results := [.lit (.bool true)], args := [d] }
  | _ => none }
def fnSceneManyRow : OpenClaim := { program := "ytjpcfaddimlbdaagreat", sum := "e3a3f9748da0bcb1a599a8d920805b767d0aa06a9d203e78963bb86025c422b5", func := "loop.example/lucarne/laws.FnSceneMany", spec := "fnSceneMany", inPlace := ["(*sync.WaitGroup).Add", "internal/race.ReleaseMerge", "internal/race.Disable", "internal/race.Enable", "internal/synctest.IsInBubble", "internal/synctest.Associate[sync.WaitGroup]", "sync.fatal", "sync/atomic.OrUint64", "sync/atomic.AddUint64", "internal/race.Read", "sync/atomic.LoadUint64", "sync/atomic.StoreUint64", "internal/synctest.Disassociate[sync.WaitGroup]", "sync.runtime_Semrelease", "(*sync.WaitGroup).Done", "(*sync.WaitGroup).Wait", "internal/race.Acquire", "internal/synctest.IsAssociated[sync.WaitGroup]", "sync/atomic.CompareAndSwapUint64", "internal/race.Write", "sync.runtime_SemacquireWaitGroup"], unfollowed := true, recurses := true, leaving := true, apart := false }
def FnSceneManySaid : Prop := fnSceneManyRow.holds Tryz.pinned (OpenSpec.ofChange fnSceneManySpec)

/-- ITS FALSE NEIGHBOUR: 'it returns false'. Refute it at one input. -/
def fnSceneManyWrong : ChangeSpec := { name := "fnSceneMany", fn := fun _ => fun
  | [d] => { results := [.lit (.bool false)], args := [d] }
  | _ => none }
def FnSceneManyWrongFalsely : Prop := fnSceneManyRow.holds Tryz.pinned (OpenSpec.ofChange fnSceneManyWrong)

/-- 'laws.FnSceneUnseen': WHATEVER THE INPUT: true; the input reads as it did. -/
def fnSceneUnseenSpec : ChangeSpec := { name := "fnSceneUnseen", fn := fun _ => fun
  | [d] => { results := [.lit (.bool true)], args := [d] }
  | _ => none }
def fnSceneUnseenRow : OpenClaim := { program := "ytjpcfaddimlbdaagreat", sum := "e3a3f9748da0bcb1a599a8d920805b767d0aa06a9d203e78963bb86025c422b5", func := "loop.example/lucarne/laws.FnSceneUnseen", spec := "fnSceneUnseen", inPlace := ["(*sync.WaitGroup).Add", "internal/race.ReleaseMerge", "internal/race.Disable", "internal/race.Enable", "internal/synctest.IsInBubble", "internal/synctest.Associate[sync.WaitGroup]", "sync.fatal", "sync/atomic.OrUint64", "sync/atomic.AddUint64", "internal/race.Read", "sync/atomic.LoadUint64", "sync/atomic.StoreUint64", "internal/synctest.Disassociate[sync.WaitGroup]", "sync.runtime_Semrelease", "(*sync.WaitGroup).Done", "(*sync.WaitGroup).Wait", "internal/race.Acquire", "internal/synctest.IsAssociated[sync.WaitGroup]", "sync/atomic.CompareAndSwapUint64", "internal/race.Write", "sync.runtime_SemacquireWaitGroup"], unfollowed := true, recurses := true, leaving := true, apart := false }
def FnSceneUnseenSaid : Prop := fnSceneUnseenRow.holds Tryz.pinned (OpenSpec.ofChange fnSceneUnseenSpec)

/-- ITS FALSE NEIGHBOUR: 'it returns false'. Refute it at one input. -/
def fnSceneUnseenWrong : ChangeSpec := { name := "fnSceneUnseen", fn := fun _ => fun
  | [d] => { results := [.lit (.bool false)], args := [d] }
  | _ => none }
def FnSceneUnseenWrongFalsely : Prop := fnSceneUnseenRow.holds Tryz.pinned (OpenSpec.ofChange fnSceneUnseenWrong)

/-- 'laws.FnSceneEdit': WHATEVER THE INPUT: true; the input reads as it did. -/
def fnSceneEditSpec : ChangeSpec := { name := "fnSceneEdit", fn := fun _ => fun
  | [d] => { results := [.lit (.bool true)], args := [d] }
  | _ => none }
def fnSceneEditRow : OpenClaim := { program := "ytjpcfaddimlbdaagreat", sum := "e3a3f9748da0bcb1a599a8d920805b767d0aa06a9d203e78963bb86025c422b5", func := "loop.example/lucarne/laws.FnSceneEdit", spec := "fnSceneEdit", inPlace := ["(*sync.WaitGroup).Add", "internal/race.ReleaseMerge", "internal/race.Disable", "internal/race.Enable", "internal/synctest.IsInBubble", "internal/synctest.Associate[sync.WaitGroup]", "sync.fatal", "sync/atomic.OrUint64", "sync/atomic.AddUint64", "internal/race.Read", "sync/atomic.LoadUint64", "sync/atomic.StoreUint64", "internal/synctest.Disassociate[sync.WaitGroup]", "sync.runtime_Semrelease", "(*sync.WaitGroup).Done", "(*sync.WaitGroup).Wait", "internal/race.Acquire", "internal/synctest.IsAssociated[sync.WaitGroup]", "sync/atomic.CompareAndSwapUint64", "internal/race.Write", "sync.runtime_SemacquireWaitGroup"], unfollowed := true, recurses := true, leaving := true, apart := false }
def FnSceneEditSaid : Prop := fnSceneEditRow.holds Tryz.pinned (OpenSpec.ofChange fnSceneEditSpec)

/-- ITS FALSE NEIGHBOUR: 'it returns false'. Refute it at one input. -/
def fnSceneEditWrong : ChangeSpec := { name := "fnSceneEdit", fn := fun _ => fun
  | [d] => { results := [.lit (.bool false)], args := [d] }
  | _ => none }
def FnSceneEditWrongFalsely : Prop := fnSceneEditRow.holds Tryz.pinned (OpenSpec.ofChange fnSceneEditWrong)

/-- 'laws.FnSceneLess': WHATEVER THE INPUT: true; the input reads as it did. -/
def fnSceneLessSpec : ChangeSpec := { name := "fnSceneLess", fn := fun _ => fun
  | [d] => { results := [.lit (.bool true)], args := [d] }
  | _ => none }
def fnSceneLessRow : OpenClaim := { program := "ytjpcfaddimlbdaagreat", sum := "e3a3f9748da0bcb1a599a8d920805b767d0aa06a9d203e78963bb86025c422b5", func := "loop.example/lucarne/laws.FnSceneLess", spec := "fnSceneLess", inPlace := ["(*sync.WaitGroup).Add", "internal/race.ReleaseMerge", "internal/race.Disable", "internal/race.Enable", "internal/synctest.IsInBubble", "internal/synctest.Associate[sync.WaitGroup]", "sync.fatal", "sync/atomic.OrUint64", "sync/atomic.AddUint64", "internal/race.Read", "sync/atomic.LoadUint64", "sync/atomic.StoreUint64", "internal/synctest.Disassociate[sync.WaitGroup]", "sync.runtime_Semrelease", "(*sync.WaitGroup).Done", "(*sync.WaitGroup).Wait", "internal/race.Acquire", "internal/synctest.IsAssociated[sync.WaitGroup]", "sync/atomic.CompareAndSwapUint64", "internal/race.Write", "sync.runtime_SemacquireWaitGroup"], unfollowed := true, recurses := true, leaving := true, apart := false }
def FnSceneLessSaid : Prop := fnSceneLessRow.holds Tryz.pinned (OpenSpec.ofChange fnSceneLessSpec)

/-- ITS FALSE NEIGHBOUR: 'it returns false'. Refute it at one input. -/
def fnSceneLessWrong : ChangeSpec := { name := "fnSceneLess", fn := fun _ => fun
  | [d] => { results := [.lit (.bool false)], args := [d] }
  | _ => none }
def FnSceneLessWrongFalsely : Prop := fnSceneLessRow.holds Tryz.pinned (OpenSpec.ofChange fnSceneLessWrong)

/- THE SECOND FORM. 'bulk': how many values and letters a reading holds, each counted each time it is reached (what is shared counts as often as it is met; a slice's spare places count too). A statement '..UptoSaid' is the law's where the arguments, and the package variables that the reading takes, are together of bulk at most 1048576: NARROWER than '..Said'. Prove '..Said' where nothing that the law and all that it calls make is longer than what came in: it says more and counts as full. Else prove '..UptoSaid'. A law counts once. -/
mutual
def uptoBulk {H : Type} : DataW H → Nat
  | .lit (.string bytes) => bytes.length + 1
  | .lit _ => 1
  | .nil => 1
  | .ptr d => uptoBulk d + 1
  | .slice elems spare => uptoBulkAll elems + uptoBulkAll spare + 1
  | .agg parts => uptoBulkAll parts + 1
  | .iface _ d => uptoBulk d + 1
  | .map entries => uptoBulkEntries entries + 1
  | .held _ => 1
def uptoBulkAll {H : Type} : List (DataW H) → Nat
  | [] => 0
  | d :: r => uptoBulk d + uptoBulkAll r
def uptoBulkEntries {H : Type} : List (Lit × DataW H) → Nat
  | [] => 0
  | x :: r => uptoBulkEntry x + uptoBulkEntries r
def uptoBulkEntry {H : Type} : Lit × DataW H → Nat
  | (.string bytes, d) => bytes.length + uptoBulk d + 1
  | (_, d) => uptoBulk d + 1
 end
def uptoSmall : (H : Type) → List (DataW H) → Bool := fun _ ds => decide (uptoBulkAll ds ≤ 1048576)
def OpenSpec.upto (s : _root_.Go.ChangeSpec) : _root_.Go.OpenSpec := { _root_.Go.OpenSpec.ofChange s with cond := some uptoSmall }

/-- 'laws.FnExactSceneOk', WHERE WHAT IT READS IS OF BULK AT MOST 1048576: true; the input reads as it did. -/
def fnExactSceneOkUptoRow : OpenClaim := { program := "ytjpcfaddimlbdaagreat", sum := "e3a3f9748da0bcb1a599a8d920805b767d0aa06a9d203e78963bb86025c422b5", func := "loop.example/lucarne/laws.FnExactSceneOk", spec := "fnExactSceneOk", inPlace := ["(*sync.WaitGroup).Add", "internal/race.ReleaseMerge", "internal/race.Disable", "internal/race.Enable", "internal/synctest.IsInBubble", "internal/synctest.Associate[sync.WaitGroup]", "sync.fatal", "sync/atomic.OrUint64", "sync/atomic.AddUint64", "internal/race.Read", "sync/atomic.LoadUint64", "sync/atomic.StoreUint64", "internal/synctest.Disassociate[sync.WaitGroup]", "sync.runtime_Semrelease", "(*sync.WaitGroup).Done", "(*sync.WaitGroup).Wait", "internal/race.Acquire", "internal/synctest.IsAssociated[sync.WaitGroup]", "sync/atomic.CompareAndSwapUint64", "internal/race.Write", "sync.runtime_SemacquireWaitGroup"], unfollowed := true, recurses := true, leaving := true, apart := false, narrowed := true }
def FnExactSceneOkUptoSaid : Prop := fnExactSceneOkUptoRow.holds Tryz.pinned (OpenSpec.upto fnExactSceneOkSpec)

/-- 'laws.FnAlbumNew', WHERE WHAT IT READS IS OF BULK AT MOST 1048576: true; the input reads as it did. -/
def fnAlbumNewUptoRow : OpenClaim := { program := "ytjpcfaddimlbdaagreat", sum := "e3a3f9748da0bcb1a599a8d920805b767d0aa06a9d203e78963bb86025c422b5", func := "loop.example/lucarne/laws.FnAlbumNew", spec := "fnAlbumNew", inPlace := ["(*sync.WaitGroup).Add", "internal/race.ReleaseMerge", "internal/race.Disable", "internal/race.Enable", "internal/synctest.IsInBubble", "internal/synctest.Associate[sync.WaitGroup]", "sync.fatal", "sync/atomic.OrUint64", "sync/atomic.AddUint64", "internal/race.Read", "sync/atomic.LoadUint64", "sync/atomic.StoreUint64", "internal/synctest.Disassociate[sync.WaitGroup]", "sync.runtime_Semrelease", "(*sync.WaitGroup).Done", "(*sync.WaitGroup).Wait", "internal/race.Acquire", "internal/synctest.IsAssociated[sync.WaitGroup]", "sync/atomic.CompareAndSwapUint64", "internal/race.Write", "sync.runtime_SemacquireWaitGroup"], unfollowed := true, recurses := true, leaving := true, apart := false, narrowed := true }
def FnAlbumNewUptoSaid : Prop := fnAlbumNewUptoRow.holds Tryz.pinned (OpenSpec.upto fnAlbumNewSpec)

/-- 'laws.FnExactAlbumNew', WHERE WHAT IT READS IS OF BULK AT MOST 1048576: true; the input reads as it did. -/
def fnExactAlbumNewUptoRow : OpenClaim := { program := "ytjpcfaddimlbdaagreat", sum := "e3a3f9748da0bcb1a599a8d920805b767d0aa06a9d203e78963bb86025c422b5", func := "loop.example/lucarne/laws.FnExactAlbumNew", spec := "fnExactAlbumNew", inPlace := ["(*sync.WaitGroup).Add", "internal/race.ReleaseMerge", "internal/race.Disable", "internal/race.Enable", "internal/synctest.IsInBubble", "internal/synctest.Associate[sync.WaitGroup]", "sync.fatal", "sync/atomic.OrUint64", "sync/atomic.AddUint64", "internal/race.Read", "sync/atomic.LoadUint64", "sync/atomic.StoreUint64", "internal/synctest.Disassociate[sync.WaitGroup]", "sync.runtime_Semrelease", "(*sync.WaitGroup).Done", "(*sync.WaitGroup).Wait", "internal/race.Acquire", "internal/synctest.IsAssociated[sync.WaitGroup]", "sync/atomic.CompareAndSwapUint64", "internal/race.Write", "sync.runtime_SemacquireWaitGroup"], unfollowed := true, recurses := true, leaving := true, apart := false, narrowed := true }
def FnExactAlbumNewUptoSaid : Prop := fnExactAlbumNewUptoRow.holds Tryz.pinned (OpenSpec.upto fnExactAlbumNewSpec)

/-- 'laws.FnExactSceneTouch', WHERE WHAT IT READS IS OF BULK AT MOST 1048576: true; the input reads as it did. -/
def fnExactSceneTouchUptoRow : OpenClaim := { program := "ytjpcfaddimlbdaagreat", sum := "e3a3f9748da0bcb1a599a8d920805b767d0aa06a9d203e78963bb86025c422b5", func := "loop.example/lucarne/laws.FnExactSceneTouch", spec := "fnExactSceneTouch", inPlace := ["(*sync.WaitGroup).Add", "internal/race.ReleaseMerge", "internal/race.Disable", "internal/race.Enable", "internal/synctest.IsInBubble", "internal/synctest.Associate[sync.WaitGroup]", "sync.fatal", "sync/atomic.OrUint64", "sync/atomic.AddUint64", "internal/race.Read", "sync/atomic.LoadUint64", "sync/atomic.StoreUint64", "internal/synctest.Disassociate[sync.WaitGroup]", "sync.runtime_Semrelease", "(*sync.WaitGroup).Done", "(*sync.WaitGroup).Wait", "internal/race.Acquire", "internal/synctest.IsAssociated[sync.WaitGroup]", "sync/atomic.CompareAndSwapUint64", "internal/race.Write", "sync.runtime_SemacquireWaitGroup"], unfollowed := true, recurses := true, leaving := true, apart := false, narrowed := true }
def FnExactSceneTouchUptoSaid : Prop := fnExactSceneTouchUptoRow.holds Tryz.pinned (OpenSpec.upto fnExactSceneTouchSpec)

/-- 'laws.FnExactAlbumOk', WHERE WHAT IT READS IS OF BULK AT MOST 1048576: true; the input reads as it did. -/
def fnExactAlbumOkUptoRow : OpenClaim := { program := "ytjpcfaddimlbdaagreat", sum := "e3a3f9748da0bcb1a599a8d920805b767d0aa06a9d203e78963bb86025c422b5", func := "loop.example/lucarne/laws.FnExactAlbumOk", spec := "fnExactAlbumOk", inPlace := ["(*sync.WaitGroup).Add", "internal/race.ReleaseMerge", "internal/race.Disable", "internal/race.Enable", "internal/synctest.IsInBubble", "internal/synctest.Associate[sync.WaitGroup]", "sync.fatal", "sync/atomic.OrUint64", "sync/atomic.AddUint64", "internal/race.Read", "sync/atomic.LoadUint64", "sync/atomic.StoreUint64", "internal/synctest.Disassociate[sync.WaitGroup]", "sync.runtime_Semrelease", "(*sync.WaitGroup).Done", "(*sync.WaitGroup).Wait", "internal/race.Acquire", "internal/synctest.IsAssociated[sync.WaitGroup]", "sync/atomic.CompareAndSwapUint64", "internal/race.Write", "sync.runtime_SemacquireWaitGroup"], unfollowed := true, recurses := true, leaving := true, apart := false, narrowed := true }
def FnExactAlbumOkUptoSaid : Prop := fnExactAlbumOkUptoRow.holds Tryz.pinned (OpenSpec.upto fnExactAlbumOkSpec)

/-- 'laws.FnSceneBack', WHERE WHAT IT READS IS OF BULK AT MOST 1048576: true; the input reads as it did. -/
def fnSceneBackUptoRow : OpenClaim := { program := "ytjpcfaddimlbdaagreat", sum := "e3a3f9748da0bcb1a599a8d920805b767d0aa06a9d203e78963bb86025c422b5", func := "loop.example/lucarne/laws.FnSceneBack", spec := "fnSceneBack", inPlace := ["(*sync.WaitGroup).Add", "internal/race.ReleaseMerge", "internal/race.Disable", "internal/race.Enable", "internal/synctest.IsInBubble", "internal/synctest.Associate[sync.WaitGroup]", "sync.fatal", "sync/atomic.OrUint64", "sync/atomic.AddUint64", "internal/race.Read", "sync/atomic.LoadUint64", "sync/atomic.StoreUint64", "internal/synctest.Disassociate[sync.WaitGroup]", "sync.runtime_Semrelease", "(*sync.WaitGroup).Done", "(*sync.WaitGroup).Wait", "internal/race.Acquire", "internal/synctest.IsAssociated[sync.WaitGroup]", "sync/atomic.CompareAndSwapUint64", "internal/race.Write", "sync.runtime_SemacquireWaitGroup"], unfollowed := true, recurses := true, leaving := true, apart := false, narrowed := true }
def FnSceneBackUptoSaid : Prop := fnSceneBackUptoRow.holds Tryz.pinned (OpenSpec.upto fnSceneBackSpec)

/-- 'laws.FnSceneIdle', WHERE WHAT IT READS IS OF BULK AT MOST 1048576: true; the input reads as it did. -/
def fnSceneIdleUptoRow : OpenClaim := { program := "ytjpcfaddimlbdaagreat", sum := "e3a3f9748da0bcb1a599a8d920805b767d0aa06a9d203e78963bb86025c422b5", func := "loop.example/lucarne/laws.FnSceneIdle", spec := "fnSceneIdle", inPlace := ["(*sync.WaitGroup).Add", "internal/race.ReleaseMerge", "internal/race.Disable", "internal/race.Enable", "internal/synctest.IsInBubble", "internal/synctest.Associate[sync.WaitGroup]", "sync.fatal", "sync/atomic.OrUint64", "sync/atomic.AddUint64", "internal/race.Read", "sync/atomic.LoadUint64", "sync/atomic.StoreUint64", "internal/synctest.Disassociate[sync.WaitGroup]", "sync.runtime_Semrelease", "(*sync.WaitGroup).Done", "(*sync.WaitGroup).Wait", "internal/race.Acquire", "internal/synctest.IsAssociated[sync.WaitGroup]", "sync/atomic.CompareAndSwapUint64", "internal/race.Write", "sync.runtime_SemacquireWaitGroup"], unfollowed := true, recurses := true, leaving := true, apart := false, narrowed := true }
def FnSceneIdleUptoSaid : Prop := fnSceneIdleUptoRow.holds Tryz.pinned (OpenSpec.upto fnSceneIdleSpec)

/-- 'laws.FnSceneSwap', WHERE WHAT IT READS IS OF BULK AT MOST 1048576: true; the input reads as it did. -/
def fnSceneSwapUptoRow : OpenClaim := { program := "ytjpcfaddimlbdaagreat", sum := "e3a3f9748da0bcb1a599a8d920805b767d0aa06a9d203e78963bb86025c422b5", func := "loop.example/lucarne/laws.FnSceneSwap", spec := "fnSceneSwap", inPlace := ["(*sync.WaitGroup).Add", "internal/race.ReleaseMerge", "internal/race.Disable", "internal/race.Enable", "internal/synctest.IsInBubble", "internal/synctest.Associate[sync.WaitGroup]", "sync.fatal", "sync/atomic.OrUint64", "sync/atomic.AddUint64", "internal/race.Read", "sync/atomic.LoadUint64", "sync/atomic.StoreUint64", "internal/synctest.Disassociate[sync.WaitGroup]", "sync.runtime_Semrelease", "(*sync.WaitGroup).Done", "(*sync.WaitGroup).Wait", "internal/race.Acquire", "internal/synctest.IsAssociated[sync.WaitGroup]", "sync/atomic.CompareAndSwapUint64", "internal/race.Write", "sync.runtime_SemacquireWaitGroup"], unfollowed := true, recurses := true, leaving := true, apart := false, narrowed := true }
def FnSceneSwapUptoSaid : Prop := fnSceneSwapUptoRow.holds Tryz.pinned (OpenSpec.upto fnSceneSwapSpec)

/-- 'laws.FnSceneMany', WHERE WHAT IT READS IS OF BULK AT MOST 1048576: true; the input reads as it did. -/
def fnSceneManyUptoRow : OpenClaim := { program := "ytjpcfaddimlbdaagreat", sum := "e3a3f9748da0bcb1a599a8d920805b767d0aa06a9d203e78963bb86025c422b5", func := "loop.example/lucarne/laws.FnSceneMany", spec := "fnSceneMany", inPlace := ["(*sync.WaitGroup).Add", "internal/race.ReleaseMerge", "internal/race.Disable", "internal/race.Enable", "internal/synctest.IsInBubble", "internal/synctest.Associate[sync.WaitGroup]", "sync.fatal", "sync/atomic.OrUint64", "sync/atomic.AddUint64", "internal/race.Read", "sync/atomic.LoadUint64", "sync/atomic.StoreUint64", "internal/synctest.Disassociate[sync.WaitGroup]", "sync.runtime_Semrelease", "(*sync.WaitGroup).Done", "(*sync.WaitGroup).Wait", "internal/race.Acquire", "internal/synctest.IsAssociated[sync.WaitGroup]", "sync/atomic.CompareAndSwapUint64", "internal/race.Write", "sync.runtime_SemacquireWaitGroup"], unfollowed := true, recurses := true, leaving := true, apart := false, narrowed := true }
def FnSceneManyUptoSaid : Prop := fnSceneManyUptoRow.holds Tryz.pinned (OpenSpec.upto fnSceneManySpec)

/-- 'laws.FnSceneUnseen', WHERE WHAT IT READS IS OF BULK AT MOST 1048576: true; the input reads as it did. -/
def fnSceneUnseenUptoRow : OpenClaim := { program := "ytjpcfaddimlbdaagreat", sum := "e3a3f9748da0bcb1a599a8d920805b767d0aa06a9d203e78963bb86025c422b5", func := "loop.example/lucarne/laws.FnSceneUnseen", spec := "fnSceneUnseen", inPlace := ["(*sync.WaitGroup).Add", "internal/race.ReleaseMerge", "internal/race.Disable", "internal/race.Enable", "internal/synctest.IsInBubble", "internal/synctest.Associate[sync.WaitGroup]", "sync.fatal", "sync/atomic.OrUint64", "sync/atomic.AddUint64", "internal/race.Read", "sync/atomic.LoadUint64", "sync/atomic.StoreUint64", "internal/synctest.Disassociate[sync.WaitGroup]", "sync.runtime_Semrelease", "(*sync.WaitGroup).Done", "(*sync.WaitGroup).Wait", "internal/race.Acquire", "internal/synctest.IsAssociated[sync.WaitGroup]", "sync/atomic.CompareAndSwapUint64", "internal/race.Write", "sync.runtime_SemacquireWaitGroup"], unfollowed := true, recurses := true, leaving := true, apart := false, narrowed := true }
def FnSceneUnseenUptoSaid : Prop := fnSceneUnseenUptoRow.holds Tryz.pinned (OpenSpec.upto fnSceneUnseenSpec)

/-- 'laws.FnSceneEdit', WHERE WHAT IT READS IS OF BULK AT MOST 1048576: true; the input reads as it did. -/
def fnSceneEditUptoRow : OpenClaim := { program := "ytjpcfaddimlbdaagreat", sum := "e3a3f9748da0bcb1a599a8d920805b767d0aa06a9d203e78963bb86025c422b5", func := "loop.example/lucarne/laws.FnSceneEdit", spec := "fnSceneEdit", inPlace := ["(*sync.WaitGroup).Add", "internal/race.ReleaseMerge", "internal/race.Disable", "internal/race.Enable", "internal/synctest.IsInBubble", "internal/synctest.Associate[sync.WaitGroup]", "sync.fatal", "sync/atomic.OrUint64", "sync/atomic.AddUint64", "internal/race.Read", "sync/atomic.LoadUint64", "sync/atomic.StoreUint64", "internal/synctest.Disassociate[sync.WaitGroup]", "sync.runtime_Semrelease", "(*sync.WaitGroup).Done", "(*sync.WaitGroup).Wait", "internal/race.Acquire", "internal/synctest.IsAssociated[sync.WaitGroup]", "sync/atomic.CompareAndSwapUint64", "internal/race.Write", "sync.runtime_SemacquireWaitGroup"], unfollowed := true, recurses := true, leaving := true, apart := false, narrowed := true }
def FnSceneEditUptoSaid : Prop := fnSceneEditUptoRow.holds Tryz.pinned (OpenSpec.upto fnSceneEditSpec)

/-- 'laws.FnSceneLess', WHERE WHAT IT READS IS OF BULK AT MOST 1048576: true; the input reads as it did. -/
def fnSceneLessUptoRow : OpenClaim := { program := "ytjpcfaddimlbdaagreat", sum := "e3a3f9748da0bcb1a599a8d920805b767d0aa06a9d203e78963bb86025c422b5", func := "loop.example/lucarne/laws.FnSceneLess", spec := "fnSceneLess", inPlace := ["(*sync.WaitGroup).Add", "internal/race.ReleaseMerge", "internal/race.Disable", "internal/race.Enable", "internal/synctest.IsInBubble", "internal/synctest.Associate[sync.WaitGroup]", "sync.fatal", "sync/atomic.OrUint64", "sync/atomic.AddUint64", "internal/race.Read", "sync/atomic.LoadUint64", "sync/atomic.StoreUint64", "internal/synctest.Disassociate[sync.WaitGroup]", "sync.runtime_Semrelease", "(*sync.WaitGroup).Done", "(*sync.WaitGroup).Wait", "internal/race.Acquire", "internal/synctest.IsAssociated[sync.WaitGroup]", "sync/atomic.CompareAndSwapUint64", "internal/race.Write", "sync.runtime_SemacquireWaitGroup"], unfollowed := true, recurses := true, leaving := true, apart := false, narrowed := true }
def FnSceneLessUptoSaid : Prop := fnSceneLessUptoRow.holds Tryz.pinned (OpenSpec.upto fnSceneLessSpec)

end Rows
end Go.Proofs.YtjpcfaddimlbdaaGreat
