/-
  No cell of these rows narrows 'for every input' (looked for: loops, veiled, ifaces, maps, wideKeys, modest, calm, conditions, laid).
  DERIVED. THE GIVEN ROWS OF THIS SEAT. 7 by the template 'for every input the law returns true; each argument reads behind the call as it read before'; 0 by the template 'total and deterministic' (their statements: YtgmkdjjcleobhaaGreatTotals.lean).
  GIVEN WITH THE SEED: the statements are not yours to turn. If you find one false, say at which input.
  Laid BY PROGRAM, IN A SANDBOX (cutbox-rows.mjs): the forced cells as the released guide's own fill.sh prints them over the translation bcb739eaeda6723d… (all of the seat's roots in one cut). By AI agents, Wed Nov 11 2026. No macro, syntax, notation, axiom, sorry.
-/
import Derived.Test.YtgmkdjjcleobhaaGreatChecked
import GoSem.Claim
import GoSem.ClaimJoined
import GoSem.ClaimMapViews
import Derived.JoinedTies
import Derived.KernelRfl
namespace Go.Proofs.YtgmkdjjcleobhaaGreat
/- THE CELL 'sum', in the pinned program and in every row, IS THE sha256 OF THE DUMP (.gsa) THAT YtgmkdjjcleobhaaGreatProg.lean LOADS. Nothing in Lean hashes anything: it is a label: what it is worth is what the hold of that sum in a sandbox is worth. -/
noncomputable def Tryz.pinned : Pinned := { name := "ytgmkdjjcleobhaagreat", sum := "bcb739eaeda6723def73e4830a494370b17d866e7eed9a3fcfb002ab6d87b8ef", checked := Tryz.checked }
namespace Rows
def none {H : Type} : Left H := { results := [], args := [] }

/-- 'laws.FnSceneNew': WHATEVER THE INPUT: true; the input reads as it did. -/
def fnSceneNewSpec : ChangeSpec := { name := "fnSceneNew", fn := fun _ => fun
  | [d] => { results := [.lit (.bool true)], args := [d] }
  | _ => none }
def fnSceneNewRow : OpenClaim := { program := "ytgmkdjjcleobhaagreat", sum := "bcb739eaeda6723def73e4830a494370b17d866e7eed9a3fcfb002ab6d87b8ef", func := "loop.example/lucarne/laws.FnSceneNew", spec := "fnSceneNew", inPlace := ["(*sync.WaitGroup).Add", "internal/race.ReleaseMerge", "internal/race.Disable", "internal/race.Enable", "internal/synctest.IsInBubble", "internal/synctest.Associate[sync.WaitGroup]", "sync.fatal", "sync/atomic.OrUint64", "sync/atomic.AddUint64", "internal/race.Read", "sync/atomic.LoadUint64", "sync/atomic.StoreUint64", "internal/synctest.Disassociate[sync.WaitGroup]", "sync.runtime_Semrelease", "(*sync.WaitGroup).Done", "(*sync.WaitGroup).Wait", "internal/race.Acquire", "internal/synctest.IsAssociated[sync.WaitGroup]", "sync/atomic.CompareAndSwapUint64", "internal/race.Write", "sync.runtime_SemacquireWaitGroup"], unfollowed := true, recurses := true, leaving := true, apart := false }
def FnSceneNewSaid : Prop := fnSceneNewRow.holds Tryz.pinned (OpenSpec.ofChange fnSceneNewSpec)

/-- ITS FALSE NEIGHBOUR: 'it returns false'. Refute it at one input. -/
def fnSceneNewWrong : ChangeSpec := { name := "fnSceneNew", fn := fun _ => fun
  | [d] => { results := [.lit (.bool false)], args := [d] }
  | _ => none }
def FnSceneNewWrongFalsely : Prop := fnSceneNewRow.holds Tryz.pinned (OpenSpec.ofChange fnSceneNewWrong)

/-- 'laws.FnSceneTurn': WHATEVER THE INPUT: true; the input reads as it did. -/
def fnSceneTurnSpec : ChangeSpec := { name := "fnSceneTurn", fn := fun _ => fun
  | [d] => { results := [.lit (.bool true)], args := [d] }
  | _ => none }
def fnSceneTurnRow : OpenClaim := { program := "ytgmkdjjcleobhaagreat", sum := "bcb739eaeda6723def73e4830a494370b17d866e7eed9a3fcfb002ab6d87b8ef", func := "loop.example/lucarne/laws.FnSceneTurn", spec := "fnSceneTurn", inPlace := ["(*sync.WaitGroup).Add", "internal/race.ReleaseMerge", "internal/race.Disable", "internal/race.Enable", "internal/synctest.IsInBubble", "internal/synctest.Associate[sync.WaitGroup]", "sync.fatal", "sync/atomic.OrUint64", "sync/atomic.AddUint64", "internal/race.Read", "sync/atomic.LoadUint64", "sync/atomic.StoreUint64", "internal/synctest.Disassociate[sync.WaitGroup]", "sync.runtime_Semrelease", "(*sync.WaitGroup).Done", "(*sync.WaitGroup).Wait", "internal/race.Acquire", "internal/synctest.IsAssociated[sync.WaitGroup]", "sync/atomic.CompareAndSwapUint64", "internal/race.Write", "sync.runtime_SemacquireWaitGroup"], unfollowed := true, recurses := true, leaving := true, apart := false }
def FnSceneTurnSaid : Prop := fnSceneTurnRow.holds Tryz.pinned (OpenSpec.ofChange fnSceneTurnSpec)

/-- ITS FALSE NEIGHBOUR: 'it returns false'. Refute it at one input. -/
def fnSceneTurnWrong : ChangeSpec := { name := "fnSceneTurn", fn := fun _ => fun
  | [d] => { results := [.lit (.bool false)], args := [d] }
  | _ => none }
def FnSceneTurnWrongFalsely : Prop := fnSceneTurnRow.holds Tryz.pinned (OpenSpec.ofChange fnSceneTurnWrong)

/-- 'laws.FnExactSceneNew': WHATEVER THE INPUT: true; the input reads as it did. -/
def fnExactSceneNewSpec : ChangeSpec := { name := "fnExactSceneNew", fn := fun _ => fun
  | [d] => { results := [.lit (.bool true)], args := [d] }
  | _ => none }
def fnExactSceneNewRow : OpenClaim := { program := "ytgmkdjjcleobhaagreat", sum := "bcb739eaeda6723def73e4830a494370b17d866e7eed9a3fcfb002ab6d87b8ef", func := "loop.example/lucarne/laws.FnExactSceneNew", spec := "fnExactSceneNew", inPlace := ["(*sync.WaitGroup).Add", "internal/race.ReleaseMerge", "internal/race.Disable", "internal/race.Enable", "internal/synctest.IsInBubble", "internal/synctest.Associate[sync.WaitGroup]", "sync.fatal", "sync/atomic.OrUint64", "sync/atomic.AddUint64", "internal/race.Read", "sync/atomic.LoadUint64", "sync/atomic.StoreUint64", "internal/synctest.Disassociate[sync.WaitGroup]", "sync.runtime_Semrelease", "(*sync.WaitGroup).Done", "(*sync.WaitGroup).Wait", "internal/race.Acquire", "internal/synctest.IsAssociated[sync.WaitGroup]", "sync/atomic.CompareAndSwapUint64", "internal/race.Write", "sync.runtime_SemacquireWaitGroup"], unfollowed := true, recurses := true, leaving := true, apart := false }
def FnExactSceneNewSaid : Prop := fnExactSceneNewRow.holds Tryz.pinned (OpenSpec.ofChange fnExactSceneNewSpec)

/-- ITS FALSE NEIGHBOUR: 'it returns false'. Refute it at one input. -/
def fnExactSceneNewWrong : ChangeSpec := { name := "fnExactSceneNew", fn := fun _ => fun
  | [d] => { results := [.lit (.bool false)], args := [d] }
  | _ => none }
def FnExactSceneNewWrongFalsely : Prop := fnExactSceneNewRow.holds Tryz.pinned (OpenSpec.ofChange fnExactSceneNewWrong)

/-- 'laws.FnSceneTouch': WHATEVER THE INPUT: true; the input reads as it did. -/
def fnSceneTouchSpec : ChangeSpec := { name := "fnSceneTouch", fn := fun _ => fun
  | [d] => { results := [.lit (.bool true)], args := [d] }
  | _ => none }
def fnSceneTouchRow : OpenClaim := { program := "ytgmkdjjcleobhaagreat", sum := "bcb739eaeda6723def73e4830a494370b17d866e7eed9a3fcfb002ab6d87b8ef", func := "loop.example/lucarne/laws.FnSceneTouch", spec := "fnSceneTouch", inPlace := ["(*sync.WaitGroup).Add", "internal/race.ReleaseMerge", "internal/race.Disable", "internal/race.Enable", "internal/synctest.IsInBubble", "internal/synctest.Associate[sync.WaitGroup]", "sync.fatal", "sync/atomic.OrUint64", "sync/atomic.AddUint64", "internal/race.Read", "sync/atomic.LoadUint64", "sync/atomic.StoreUint64", "internal/synctest.Disassociate[sync.WaitGroup]", "sync.runtime_Semrelease", "(*sync.WaitGroup).Done", "(*sync.WaitGroup).Wait", "internal/race.Acquire", "internal/synctest.IsAssociated[sync.WaitGroup]", "sync/atomic.CompareAndSwapUint64", "internal/race.Write", "sync.runtime_SemacquireWaitGroup"], unfollowed := true, recurses := true, leaving := true, apart := false }
def FnSceneTouchSaid : Prop := fnSceneTouchRow.holds Tryz.pinned (OpenSpec.ofChange fnSceneTouchSpec)

/-- ITS FALSE NEIGHBOUR: 'it returns false'. Refute it at one input. -/
def fnSceneTouchWrong : ChangeSpec := { name := "fnSceneTouch", fn := fun _ => fun
  | [d] => { results := [.lit (.bool false)], args := [d] }
  | _ => none }
def FnSceneTouchWrongFalsely : Prop := fnSceneTouchRow.holds Tryz.pinned (OpenSpec.ofChange fnSceneTouchWrong)

/-- 'laws.FnExactAlbumDo': WHATEVER THE INPUT: true; the input reads as it did. -/
def fnExactAlbumDoSpec : ChangeSpec := { name := "fnExactAlbumDo", fn := fun _ => fun
  | [d1, d2] => { results := [.lit (.bool true)], args := [d1, d2] }
  | _ => none }
def fnExactAlbumDoRow : OpenClaim := { program := "ytgmkdjjcleobhaagreat", sum := "bcb739eaeda6723def73e4830a494370b17d866e7eed9a3fcfb002ab6d87b8ef", func := "loop.example/lucarne/laws.FnExactAlbumDo", spec := "fnExactAlbumDo", inPlace := ["(*sync.WaitGroup).Add", "internal/race.ReleaseMerge", "internal/race.Disable", "internal/race.Enable", "internal/synctest.IsInBubble", "internal/synctest.Associate[sync.WaitGroup]", "sync.fatal", "sync/atomic.OrUint64", "sync/atomic.AddUint64", "internal/race.Read", "sync/atomic.LoadUint64", "sync/atomic.StoreUint64", "internal/synctest.Disassociate[sync.WaitGroup]", "sync.runtime_Semrelease", "(*sync.WaitGroup).Done", "(*sync.WaitGroup).Wait", "internal/race.Acquire", "internal/synctest.IsAssociated[sync.WaitGroup]", "sync/atomic.CompareAndSwapUint64", "internal/race.Write", "sync.runtime_SemacquireWaitGroup"], unfollowed := true, recurses := true, leaving := true, apart := false }
def FnExactAlbumDoSaid : Prop := fnExactAlbumDoRow.holds Tryz.pinned (OpenSpec.ofChange fnExactAlbumDoSpec)

/-- ITS FALSE NEIGHBOUR: 'it returns false'. Refute it at one input. -/
def fnExactAlbumDoWrong : ChangeSpec := { name := "fnExactAlbumDo", fn := fun _ => fun
  | [d1, d2] => { results := [.lit (.bool false)], args := [d1, d2] }
  | _ => none }
def FnExactAlbumDoWrongFalsely : Prop := fnExactAlbumDoRow.holds Tryz.pinned (OpenSpec.ofChange fnExactAlbumDoWrong)

/-- 'laws.FnExactAlbumBack': WHATEVER THE INPUT: true; the input reads as it did. -/
def fnExactAlbumBackSpec : ChangeSpec := { name := "fnExactAlbumBack", fn := fun _ => fun
  | [d] => { results := [.lit (.bool true)], args := [d] }
  | _ => none }
def fnExactAlbumBackRow : OpenClaim := { program := "ytgmkdjjcleobhaagreat", sum := "bcb739eaeda6723def73e4830a494370b17d866e7eed9a3fcfb002ab6d87b8ef", func := "loop.example/lucarne/laws.FnExactAlbumBack", spec := "fnExactAlbumBack", inPlace := ["(*sync.WaitGroup).Add", "internal/race.ReleaseMerge", "internal/race.Disable", "internal/race.Enable", "internal/synctest.IsInBubble", "internal/synctest.Associate[sync.WaitGroup]", "sync.fatal", "sync/atomic.OrUint64", "sync/atomic.AddUint64", "internal/race.Read", "sync/atomic.LoadUint64", "sync/atomic.StoreUint64", "internal/synctest.Disassociate[sync.WaitGroup]", "sync.runtime_Semrelease", "(*sync.WaitGroup).Done", "(*sync.WaitGroup).Wait", "internal/race.Acquire", "internal/synctest.IsAssociated[sync.WaitGroup]", "sync/atomic.CompareAndSwapUint64", "internal/race.Write", "sync.runtime_SemacquireWaitGroup"], unfollowed := true, recurses := true, leaving := true, apart := false }
def FnExactAlbumBackSaid : Prop := fnExactAlbumBackRow.holds Tryz.pinned (OpenSpec.ofChange fnExactAlbumBackSpec)

/-- ITS FALSE NEIGHBOUR: 'it returns false'. Refute it at one input. -/
def fnExactAlbumBackWrong : ChangeSpec := { name := "fnExactAlbumBack", fn := fun _ => fun
  | [d] => { results := [.lit (.bool false)], args := [d] }
  | _ => none }
def FnExactAlbumBackWrongFalsely : Prop := fnExactAlbumBackRow.holds Tryz.pinned (OpenSpec.ofChange fnExactAlbumBackWrong)

/-- 'laws.FnExactAlbumOn': WHATEVER THE INPUT: true; the input reads as it did. -/
def fnExactAlbumOnSpec : ChangeSpec := { name := "fnExactAlbumOn", fn := fun _ => fun
  | [d] => { results := [.lit (.bool true)], args := [d] }
  | _ => none }
def fnExactAlbumOnRow : OpenClaim := { program := "ytgmkdjjcleobhaagreat", sum := "bcb739eaeda6723def73e4830a494370b17d866e7eed9a3fcfb002ab6d87b8ef", func := "loop.example/lucarne/laws.FnExactAlbumOn", spec := "fnExactAlbumOn", inPlace := ["(*sync.WaitGroup).Add", "internal/race.ReleaseMerge", "internal/race.Disable", "internal/race.Enable", "internal/synctest.IsInBubble", "internal/synctest.Associate[sync.WaitGroup]", "sync.fatal", "sync/atomic.OrUint64", "sync/atomic.AddUint64", "internal/race.Read", "sync/atomic.LoadUint64", "sync/atomic.StoreUint64", "internal/synctest.Disassociate[sync.WaitGroup]", "sync.runtime_Semrelease", "(*sync.WaitGroup).Done", "(*sync.WaitGroup).Wait", "internal/race.Acquire", "internal/synctest.IsAssociated[sync.WaitGroup]", "sync/atomic.CompareAndSwapUint64", "internal/race.Write", "sync.runtime_SemacquireWaitGroup"], unfollowed := true, recurses := true, leaving := true, apart := false }
def FnExactAlbumOnSaid : Prop := fnExactAlbumOnRow.holds Tryz.pinned (OpenSpec.ofChange fnExactAlbumOnSpec)

/-- ITS FALSE NEIGHBOUR: 'it returns false'. Refute it at one input. -/
def fnExactAlbumOnWrong : ChangeSpec := { name := "fnExactAlbumOn", fn := fun _ => fun
  | [d] => { results := [.lit (.bool false)], args := [d] }
  | _ => none }
def FnExactAlbumOnWrongFalsely : Prop := fnExactAlbumOnRow.holds Tryz.pinned (OpenSpec.ofChange fnExactAlbumOnWrong)

/- THE SECOND FORM. 'bulk': how many values and letters a reading holds, each counted each time it is reached (what is shared counts as often as it is met; a slice's spare places count too). A statement '..UptoSaid' is the law's where the arguments, and the package variables that the reading takes, are together of bulk at most 1048576: NARROWER than '..Said'. Prove '..Said' where nothing that the law and all that it calls make is longer than what came in: it says more and counts as full. Else prove '..UptoSaid'. A law counts once. -/
mutual
def uptoBulk {H : Type} : DataW H → Nat
  | .lit (.string bytes) => bytes.length + 1
  | .lit _ => 1
  | .nil => 1
  | .ptr d => uptoBulk d + 1
  | .slice elems spare => uptoBulkAll elems + uptoBulkAll spare + 1
  | .agg parts => uptoBulkAll parts + 1
  | .iface _ d => uptoBulk d + 1
  | .map entries => uptoBulkEntries entries + 1
  | .held _ => 1
def uptoBulkAll {H : Type} : List (DataW H) → Nat
  | [] => 0
  | d :: r => uptoBulk d + uptoBulkAll r
def uptoBulkEntries {H : Type} : List (Lit × DataW H) → Nat
  | [] => 0
  | x :: r => uptoBulkEntry x + uptoBulkEntries r
def uptoBulkEntry {H : Type} : Lit × DataW H → Nat
  | (.string bytes, d) => bytes.length + uptoBulk d + 1
  | (_, d) => uptoBulk d + 1
 end
def uptoSmall : (H : Type) → List (DataW H) → Bool := fun _ ds => decide (uptoBulkAll ds ≤ 1048576)
def OpenSpec.upto (s : _root_.Go.ChangeSpec) : _root_.Go.OpenSpec := { _root_.Go.OpenSpec.ofChange s with cond := some uptoSmall }

/-- 'laws.FnSceneNew', WHERE WHAT IT READS IS OF BULK AT MOST 1048576: true; the input reads as it did. -/
def fnSceneNewUptoRow : OpenClaim := { program := "ytgmkdjjcleobhaagreat", sum := "bcb739eaeda6723def73e4830a494370b17d866e7eed9a3fcfb002ab6d87b8ef", func := "loop.example/lucarne/laws.FnSceneNew", spec := "fnSceneNew", inPlace := ["(*sync.WaitGroup).Add", "internal/race.ReleaseMerge", "internal/race.Disable", "internal/race.Enable", "internal/synctest.IsInBubble", "internal/synctest.Associate[sync.WaitGroup]", "sync.fatal", "sync/atomic.OrUint64", "sync/atomic.AddUint64", "internal/race.Read", "sync/atomic.LoadUint64", "sync/atomic.StoreUint64", "internal/synctest.Disassociate[sync.WaitGroup]", "sync.runtime_Semrelease", "(*sync.WaitGroup).Done", "(*sync.WaitGroup).Wait", "internal/race.Acquire", "internal/synctest.IsAssociated[sync.WaitGroup]", "sync/atomic.CompareAndSwapUint64", "internal/race.Write", "sync.runtime_SemacquireWaitGroup"], unfollowed := true, recurses := true, leaving := true, apart := false, narrowed := true }
def FnSceneNewUptoSaid : Prop := fnSceneNewUptoRow.holds Tryz.pinned (OpenSpec.upto fnSceneNewSpec)

/-- 'laws.FnSceneTurn', WHERE WHAT IT READS IS OF BULK AT MOST 1048576: true; the input reads as it did. -/
def fnSceneTurnUptoRow : OpenClaim := { program := "ytgmkdjjcleobhaagreat", sum := "bcb739eaeda6723def73e4830a494370b17d866e7eed9a3fcfb002ab6d87b8ef", func := "loop.example/lucarne/laws.FnSceneTurn", spec := "fnSceneTurn", inPlace := ["(*sync.WaitGroup).Add", "internal/race.ReleaseMerge", "internal/race.Disable", "internal/race.Enable", "internal/synctest.IsInBubble", "internal/synctest.Associate[sync.WaitGroup]", "sync.fatal", "sync/atomic.OrUint64", "sync/atomic.AddUint64", "internal/race.Read", "sync/atomic.LoadUint64", "sync/atomic.StoreUint64", "internal/synctest.Disassociate[sync.WaitGroup]", "sync.runtime_Semrelease", "(*sync.WaitGroup).Done", "(*sync.WaitGroup).Wait", "internal/race.Acquire", "internal/synctest.IsAssociated[sync.WaitGroup]", "sync/atomic.CompareAndSwapUint64", "internal/race.Write", "sync.runtime_SemacquireWaitGroup"], unfollowed := true, recurses := true, leaving := true, apart := false, narrowed := true }
def FnSceneTurnUptoSaid : Prop := fnSceneTurnUptoRow.holds Tryz.pinned (OpenSpec.upto fnSceneTurnSpec)

/-- 'laws.FnExactSceneNew', WHERE WHAT IT READS IS OF BULK AT MOST 1048576: true; the input reads as it did. -/
def fnExactSceneNewUptoRow : OpenClaim := { program := "ytgmkdjjcleobhaagreat", sum := "bcb739eaeda6723def73e4830a494370b17d866e7eed9a3fcfb002ab6d87b8ef", func := "loop.example/lucarne/laws.FnExactSceneNew", spec := "fnExactSceneNew", inPlace := ["(*sync.WaitGroup).Add", "internal/race.ReleaseMerge", "internal/race.Disable", "internal/race.Enable", "internal/synctest.IsInBubble", "internal/synctest.Associate[sync.WaitGroup]", "sync.fatal", "sync/atomic.OrUint64", "sync/atomic.AddUint64", "internal/race.Read", "sync/atomic.LoadUint64", "sync/atomic.StoreUint64", "internal/synctest.Disassociate[sync.WaitGroup]", "sync.runtime_Semrelease", "(*sync.WaitGroup).Done", "(*sync.WaitGroup).Wait", "internal/race.Acquire", "internal/synctest.IsAssociated[sync.WaitGroup]", "sync/atomic.CompareAndSwapUint64", "internal/race.Write", "sync.runtime_SemacquireWaitGroup"], unfollowed := true, recurses := true, leaving := true, apart := false, narrowed := true }
def FnExactSceneNewUptoSaid : Prop := fnExactSceneNewUptoRow.holds Tryz.pinned (OpenSpec.upto fnExactSceneNewSpec)

/-- 'laws.FnSceneTouch', WHERE WHAT IT READS IS OF BULK AT MOST 1048576: true; the input reads as it did. -/
def fnSceneTouchUptoRow : OpenClaim := { program := "ytgmkdjjcleobhaagreat", sum := "bcb739eaeda6723def73e4830a494370b17d866e7eed9a3fcfb002ab6d87b8ef", func := "loop.example/lucarne/laws.FnSceneTouch", spec := "fnSceneTouch", inPlace := ["(*sync.WaitGroup).Add", "internal/race.ReleaseMerge", "internal/race.Disable", "internal/race.Enable", "internal/synctest.IsInBubble", "internal/synctest.Associate[sync.WaitGroup]", "sync.fatal", "sync/atomic.OrUint64", "sync/atomic.AddUint64", "internal/race.Read", "sync/atomic.LoadUint64", "sync/atomic.StoreUint64", "internal/synctest.Disassociate[sync.WaitGroup]", "sync.runtime_Semrelease", "(*sync.WaitGroup).Done", "(*sync.WaitGroup).Wait", "internal/race.Acquire", "internal/synctest.IsAssociated[sync.WaitGroup]", "sync/atomic.CompareAndSwapUint64", "internal/race.Write", "sync.runtime_SemacquireWaitGroup"], unfollowed := true, recurses := true, leaving := true, apart := false, narrowed := true }
def FnSceneTouchUptoSaid : Prop := fnSceneTouchUptoRow.holds Tryz.pinned (OpenSpec.upto fnSceneTouchSpec)

/-- 'laws.FnExactAlbumDo', WHERE WHAT IT READS IS OF BULK AT MOST 1048576: true; the input reads as it did. -/
def fnExactAlbumDoUptoRow : OpenClaim := { program := "ytgmkdjjcleobhaagreat", sum := "bcb739eaeda6723def73e4830a494370b17d866e7eed9a3fcfb002ab6d87b8ef", func := "loop.example/lucarne/laws.FnExactAlbumDo", spec := "fnExactAlbumDo", inPlace := ["(*sync.WaitGroup).Add", "internal/race.ReleaseMerge", "internal/race.Disable", "internal/race.Enable", "internal/synctest.IsInBubble", "internal/synctest.Associate[sync.WaitGroup]", "sync.fatal", "sync/atomic.OrUint64", "sync/atomic.AddUint64", "internal/race.Read", "sync/atomic.LoadUint64", "sync/atomic.StoreUint64", "internal/synctest.Disassociate[sync.WaitGroup]", "sync.runtime_Semrelease", "(*sync.WaitGroup).Done", "(*sync.WaitGroup).Wait", "internal/race.Acquire", "internal/synctest.IsAssociated[sync.WaitGroup]", "sync/atomic.CompareAndSwapUint64", "internal/race.Write", "sync.runtime_SemacquireWaitGroup"], unfollowed := true, recurses := true, leaving := true, apart := false, narrowed := true }
def FnExactAlbumDoUptoSaid : Prop := fnExactAlbumDoUptoRow.holds Tryz.pinned (OpenSpec.upto fnExactAlbumDoSpec)

/-- 'laws.FnExactAlbumBack', WHERE WHAT IT READS IS OF BULK AT MOST 1048576: true; the input reads as it did. -/
def fnExactAlbumBackUptoRow : OpenClaim := { program := "ytgmkdjjcleobhaagreat", sum := "bcb739eaeda6723def73e4830a494370b17d866e7eed9a3fcfb002ab6d87b8ef", func := "loop.example/lucarne/laws.FnExactAlbumBack", spec := "fnExactAlbumBack", inPlace := ["(*sync.WaitGroup).Add", "internal/race.ReleaseMerge", "internal/race.Disable", "internal/race.Enable", "internal/synctest.IsInBubble", "internal/synctest.Associate[sync.WaitGroup]", "sync.fatal", "sync/atomic.OrUint64", "sync/atomic.AddUint64", "internal/race.Read", "sync/atomic.LoadUint64", "sync/atomic.StoreUint64", "internal/synctest.Disassociate[sync.WaitGroup]", "sync.runtime_Semrelease", "(*sync.WaitGroup).Done", "(*sync.WaitGroup).Wait", "internal/race.Acquire", "internal/synctest.IsAssociated[sync.WaitGroup]", "sync/atomic.CompareAndSwapUint64", "internal/race.Write", "sync.runtime_SemacquireWaitGroup"], unfollowed := true, recurses := true, leaving := true, apart := false, narrowed := true }
def FnExactAlbumBackUptoSaid : Prop := fnExactAlbumBackUptoRow.holds Tryz.pinned (OpenSpec.upto fnExactAlbumBackSpec)

/-- 'laws.FnExactAlbumOn', WHERE WHAT IT READS IS OF BULK AT MOST 1048576: true; the input reads as it did. -/
def fnExactAlbumOnUptoRow : OpenClaim := { program := "ytgmkdjjcleobhaagreat", sum := "bcb739eaeda6723def73e4830a494370b17d866e7eed9a3fcfb002ab6d87b8ef", func := "loop.example/lucarne/laws.FnExactAlbumOn", spec := "fnExactAlbumOn", inPlace := ["(*sync.WaitGroup).Add", "internal/race.ReleaseMerge", "internal/race.Disable", "internal/race.Enable", "internal/synctest.IsInBubble", "internal/synctest.Associate[sync.WaitGroup]", "sync.fatal", "sync/atomic.OrUint64", "sync/atomic.AddUint64", "internal/race.Read", "sync/atomic.LoadUint64", "sync/atomic.StoreUint64", "internal/synctest.Disassociate[sync.WaitGroup]", "sync.runtime_Semrelease", "(*sync.WaitGroup).Done", "(*sync.WaitGroup).Wait", "internal/race.Acquire", "internal/synctest.IsAssociated[sync.WaitGroup]", "sync/atomic.CompareAndSwapUint64", "internal/race.Write", "sync.runtime_SemacquireWaitGroup"], unfollowed := true, recurses := true, leaving := true, apart := false, narrowed := true }
def FnExactAlbumOnUptoSaid : Prop := fnExactAlbumOnUptoRow.holds Tryz.pinned (OpenSpec.upto fnExactAlbumOnSpec)

end Rows
end Go.Proofs.YtgmkdjjcleobhaaGreat
