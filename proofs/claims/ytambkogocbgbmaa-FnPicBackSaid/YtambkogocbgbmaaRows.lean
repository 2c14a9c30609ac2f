/-
  No cell of these rows narrows 'for every input' (looked for: loops, veiled, ifaces, maps, wideKeys, modest, calm, conditions, laid).
  DERIVED. THE GIVEN ROWS OF THIS SEAT. 7 by the template 'for every input the law returns true; each argument reads behind the call as it read before'; 0 by the template 'total and deterministic' (their statements: YtambkogocbgbmaaTotals.lean).
  GIVEN WITH THE SEED: the statements are not yours to turn. If you find one false, say at which input.
  Laid BY PROGRAM, IN A SANDBOX (cutbox-rows.mjs): the forced cells as the released guide's own fill.sh prints them over the translation 19759fa058a11ac4… (all of the seat's roots in one cut). By AI agents, Wed Nov 11 2026. No macro, syntax, notation, axiom, sorry.
-/
import Derived.Test.YtambkogocbgbmaaChecked
import GoSem.Claim
import GoSem.ClaimJoined
import GoSem.ClaimMapViews
import Derived.JoinedTies
import Derived.KernelRfl
namespace Go.Proofs.Ytambkogocbgbmaa
/- THE CELL 'sum', in the pinned program and in every row, IS THE sha256 OF THE DUMP (.gsa) THAT YtambkogocbgbmaaProg.lean LOADS. Nothing in Lean hashes anything: it is a label: what it is worth is what the hold of that sum in a sandbox is worth. -/
noncomputable def Try.pinned : Pinned := { name := "ytambkogocbgbmaa", sum := "19759fa058a11ac4ad40b95f59ca4e3966af56d8a894e0355bbfea40d596ff62", checked := Try.checked }
namespace Rows
def none {H : Type} : Left H := { results := [], args := [] }

/-- 'laws.FnPicSights': WHATEVER THE INPUT: true; the input reads as it did. -/
def fnPicSightsSpec : ChangeSpec := { name := "fnPicSights", fn := fun _ => fun
  | [d] => { results := [.lit (.bool true)], args := [d] }
  | _ => none }
def fnPicSightsRow : OpenClaim := { program := "ytambkogocbgbmaa", sum := "19759fa058a11ac4ad40b95f59ca4e3966af56d8a894e0355bbfea40d596ff62", func := "loop.example/lucarne/laws.FnPicSights", spec := "fnPicSights", inPlace := ["(*sync.WaitGroup).Add", "internal/race.ReleaseMerge", "internal/race.Disable", "internal/race.Enable", "internal/synctest.IsInBubble", "internal/synctest.Associate[sync.WaitGroup]", "sync.fatal", "sync/atomic.OrUint64", "sync/atomic.AddUint64", "internal/race.Read", "sync/atomic.LoadUint64", "sync/atomic.StoreUint64", "internal/synctest.Disassociate[sync.WaitGroup]", "sync.runtime_Semrelease", "(*sync.WaitGroup).Done", "(*sync.WaitGroup).Wait", "internal/race.Acquire", "internal/synctest.IsAssociated[sync.WaitGroup]", "sync/atomic.CompareAndSwapUint64", "internal/race.Write", "sync.runtime_SemacquireWaitGroup"], unfollowed := true, recurses := true, leaving := true, apart := false }
def FnPicSightsSaid : Prop := fnPicSightsRow.holds Try.pinned (OpenSpec.ofChange fnPicSightsSpec)

/-- ITS FALSE NEIGHBOUR: 'it returns false'. Refute it at one input. -/
def fnPicSightsWrong : ChangeSpec := { name := "fnPicSights", fn := fun _ => fun
  | [d] => { results := [.lit (.bool false)], args := [d] }
  | _ => none }
def FnPicSightsWrongFalsely : Prop := fnPicSightsRow.holds Try.pinned (OpenSpec.ofChange fnPicSightsWrong)

/-- 'laws.FnPicSum': WHATEVER THE INPUT: true; the input reads as it did. -/
def fnPicSumSpec : ChangeSpec := { name := "fnPicSum", fn := fun _ => fun
  | [d] => { results := [.lit (.bool true)], args := [d] }
  | _ => none }
def fnPicSumRow : OpenClaim := { program := "ytambkogocbgbmaa", sum := "19759fa058a11ac4ad40b95f59ca4e3966af56d8a894e0355bbfea40d596ff62", func := "loop.example/lucarne/laws.FnPicSum", spec := "fnPicSum", inPlace := ["(*sync.WaitGroup).Add", "internal/race.ReleaseMerge", "internal/race.Disable", "internal/race.Enable", "internal/synctest.IsInBubble", "internal/synctest.Associate[sync.WaitGroup]", "sync.fatal", "sync/atomic.OrUint64", "sync/atomic.AddUint64", "internal/race.Read", "sync/atomic.LoadUint64", "sync/atomic.StoreUint64", "internal/synctest.Disassociate[sync.WaitGroup]", "sync.runtime_Semrelease", "(*sync.WaitGroup).Done", "(*sync.WaitGroup).Wait", "internal/race.Acquire", "internal/synctest.IsAssociated[sync.WaitGroup]", "sync/atomic.CompareAndSwapUint64", "internal/race.Write", "sync.runtime_SemacquireWaitGroup"], unfollowed := true, recurses := true, leaving := true, apart := false }
def FnPicSumSaid : Prop := fnPicSumRow.holds Try.pinned (OpenSpec.ofChange fnPicSumSpec)

/-- ITS FALSE NEIGHBOUR: 'it returns false'. Refute it at one input. -/
def fnPicSumWrong : ChangeSpec := { name := "fnPicSum", fn := fun _ => fun
  | [d] => { results := [.lit (.bool false)], args := [d] }
  | _ => none }
def FnPicSumWrongFalsely : Prop := fnPicSumRow.holds Try.pinned (OpenSpec.ofChange fnPicSumWrong)

/-- 'laws.FnPicTimes': WHATEVER THE INPUT: true; the input reads as it did. -/
def fnPicTimesSpec : ChangeSpec := { name := "fnPicTimes", fn := fun _ => fun
  | [d1, d2] => { results := [.lit (.bool true)], args := [d1, d2] }
  | _ => none }
def fnPicTimesRow : OpenClaim := { program := "ytambkogocbgbmaa", sum := "19759fa058a11ac4ad40b95f59ca4e3966af56d8a894e0355bbfea40d596ff62", func := "loop.example/lucarne/laws.FnPicTimes", spec := "fnPicTimes", inPlace := ["(*sync.WaitGroup).Add", "internal/race.ReleaseMerge", "internal/race.Disable", "internal/race.Enable", "internal/synctest.IsInBubble", "internal/synctest.Associate[sync.WaitGroup]", "sync.fatal", "sync/atomic.OrUint64", "sync/atomic.AddUint64", "internal/race.Read", "sync/atomic.LoadUint64", "sync/atomic.StoreUint64", "internal/synctest.Disassociate[sync.WaitGroup]", "sync.runtime_Semrelease", "(*sync.WaitGroup).Done", "(*sync.WaitGroup).Wait", "internal/race.Acquire", "internal/synctest.IsAssociated[sync.WaitGroup]", "sync/atomic.CompareAndSwapUint64", "internal/race.Write", "sync.runtime_SemacquireWaitGroup"], unfollowed := true, recurses := true, leaving := true, apart := false }
def FnPicTimesSaid : Prop := fnPicTimesRow.holds Try.pinned (OpenSpec.ofChange fnPicTimesSpec)

/-- ITS FALSE NEIGHBOUR: 'it returns false'. Refute it at one input. -/
def fnPicTimesWrong : ChangeSpec := { name := "fnPicTimes", fn := fun _ => fun
  | [d1, d2] => { results := [.lit (.bool false)], args := [d1, d2] }
  | _ => none }
def FnPicTimesWrongFalsely : Prop := fnPicTimesRow.holds Try.pinned (OpenSpec.ofChange fnPicTimesWrong)

/-- 'laws.FnPicBack': WHATEVER THE INPUT: true; the input reads as it did. -/
def fnPicBackSpec : ChangeSpec := { name := "fnPicBack", fn := fun _ => fun
  | [d] => { results := [.lit (.bool true)], args := [d] }
  | _ => none }
def fnPicBackRow : OpenClaim := { program := "ytambkogocbgbmaa", sum := "19759fa058a11ac4ad40b95f59ca4e3966af56d8a894e0355bbfea40d596ff62", func := "loop.example/lucarne/laws.FnPicBack", spec := "fnPicBack", inPlace := ["(*sync.WaitGroup).Add", "internal/race.ReleaseMerge", "internal/race.Disable", "internal/race.Enable", "internal/synctest.IsInBubble", "internal/synctest.Associate[sync.WaitGroup]", "sync.fatal", "sync/atomic.OrUint64", "sync/atomic.AddUint64", "internal/race.Read", "sync/atomic.LoadUint64", "sync/atomic.StoreUint64", "internal/synctest.Disassociate[sync.WaitGroup]", "sync.runtime_Semrelease", "(*sync.WaitGroup).Done", "(*sync.WaitGroup).Wait", "internal/race.Acquire", "internal/synctest.IsAssociated[sync.WaitGroup]", "sync/atomic.CompareAndSwapUint64", "internal/race.Write", "sync.runtime_SemacquireWaitGroup"], unfollowed := true, recurses := true, leaving := true, apart := false }
def FnPicBackSaid : Prop := fnPicBackRow.holds Try.pinned (OpenSpec.ofChange fnPicBackSpec)

/-- ITS FALSE NEIGHBOUR: 'it returns false'. Refute it at one input. -/
def fnPicBackWrong : ChangeSpec := { name := "fnPicBack", fn := fun _ => fun
  | [d] => { results := [.lit (.bool false)], args := [d] }
  | _ => none }
def FnPicBackWrongFalsely : Prop := fnPicBackRow.holds Try.pinned (OpenSpec.ofChange fnPicBackWrong)

/-- 'laws.FnPicDark': WHATEVER THE INPUT: true; the input reads as it did. -/
def fnPicDarkSpec : ChangeSpec := { name := "fnPicDark", fn := fun _ => fun
  | [d] => { results := [.lit (.bool true)], args := [d] }
  | _ => none }
def fnPicDarkRow : OpenClaim := { program := "ytambkogocbgbmaa", sum := "19759fa058a11ac4ad40b95f59ca4e3966af56d8a894e0355bbfea40d596ff62", func := "loop.example/lucarne/laws.FnPicDark", spec := "fnPicDark", inPlace := ["(*sync.WaitGroup).Add", "internal/race.ReleaseMerge", "internal/race.Disable", "internal/race.Enable", "internal/synctest.IsInBubble", "internal/synctest.Associate[sync.WaitGroup]", "sync.fatal", "sync/atomic.OrUint64", "sync/atomic.AddUint64", "internal/race.Read", "sync/atomic.LoadUint64", "sync/atomic.StoreUint64", "internal/synctest.Disassociate[sync.WaitGroup]", "sync.runtime_Semrelease", "(*sync.WaitGroup).Done", "(*sync.WaitGroup).Wait", "internal/race.Acquire", "internal/synctest.IsAssociated[sync.WaitGroup]", "sync/atomic.CompareAndSwapUint64", "internal/race.Write", "sync.runtime_SemacquireWaitGroup"], unfollowed := true, recurses := true, leaving := true, apart := false }
def FnPicDarkSaid : Prop := fnPicDarkRow.holds Try.pinned (OpenSpec.ofChange fnPicDarkSpec)

/-- ITS FALSE NEIGHBOUR: 'it returns false'. Refute it at one input. -/
def fnPicDarkWrong : ChangeSpec := { name := "fnPicDark", fn := fun _ => fun
  | [d] => { results := [.lit (.bool false)], args := [d] }
  | _ => none }
def FnPicDarkWrongFalsely : Prop := fnPicDarkRow.holds Try.pinned (OpenSpec.ofChange fnPicDarkWrong)

/-- 'laws.FnExactPicOf': WHATEVER THE INPUT: true; the input reads as it did. -/
def fnExactPicOfSpec : ChangeSpec := { name := "fnExactPicOf", fn := fun _ => fun
  | [d] => { results := [.lit (.bool true)], args := [d] }
  | _ => none }
def fnExactPicOfRow : OpenClaim := { program := "ytambkogocbgbmaa", sum := "19759fa058a11ac4ad40b95f59ca4e3966af56d8a894e0355bbfea40d596ff62", func := "loop.example/lucarne/laws.FnExactPicOf", spec := "fnExactPicOf", inPlace := ["(*sync.WaitGroup).Add", "internal/race.ReleaseMerge", "internal/race.Disable", "internal/race.Enable", "internal/synctest.IsInBubble", "internal/synctest.Associate[sync.WaitGroup]", "sync.fatal", "sync/atomic.OrUint64", "sync/atomic.AddUint64", "internal/race.Read", "sync/atomic.LoadUint64", "sync/atomic.StoreUint64", "internal/synctest.Disassociate[sync.WaitGroup]", "sync.runtime_Semrelease", "(*sync.WaitGroup).Done", "(*sync.WaitGroup).Wait", "internal/race.Acquire", "internal/synctest.IsAssociated[sync.WaitGroup]", "sync/atomic.CompareAndSwapUint64", "internal/race.Write", "sync.runtime_SemacquireWaitGroup"], unfollowed := true, recurses := true, leaving := true, apart := false }
def FnExactPicOfSaid : Prop := fnExactPicOfRow.holds Try.pinned (OpenSpec.ofChange fnExactPicOfSpec)

/-- ITS FALSE NEIGHBOUR: 'it returns false'. Refute it at one input. -/
def fnExactPicOfWrong : ChangeSpec := { name := "fnExactPicOf", fn := fun _ => fun
  | [d] => { results := [.lit (.bool false)], args := [d] }
  | _ => none }
def FnExactPicOfWrongFalsely : Prop := fnExactPicOfRow.holds Try.pinned (OpenSpec.ofChange fnExactPicOfWrong)

/-- 'laws.FnExactPicTo': WHATEVER THE INPUT: true; the input reads as it did. -/
def fnExactPicToSpec : ChangeSpec := { name := "fnExactPicTo", fn := fun _ => fun
  | [d] => { results := [.lit (.bool true)], args := [d] }
  | _ => none }
def fnExactPicToRow : OpenClaim := { program := "ytambkogocbgbmaa", sum := "19759fa058a11ac4ad40b95f59ca4e3966af56d8a894e0355bbfea40d596ff62", func := "loop.example/lucarne/laws.FnExactPicTo", spec := "fnExactPicTo", inPlace := ["(*sync.WaitGroup).Add", "internal/race.ReleaseMerge", "internal/race.Disable", "internal/race.Enable", "internal/synctest.IsInBubble", "internal/synctest.Associate[sync.WaitGroup]", "sync.fatal", "sync/atomic.OrUint64", "sync/atomic.AddUint64", "internal/race.Read", "sync/atomic.LoadUint64", "sync/atomic.StoreUint64", "internal/synctest.Disassociate[sync.WaitGroup]", "sync.runtime_Semrelease", "(*sync.WaitGroup).Done", "(*sync.WaitGroup).Wait", "internal/race.Acquire", "internal/synctest.IsAssociated[sync.WaitGroup]", "sync/atomic.CompareAndSwapUint64", "internal/race.Write", "sync.runtime_SemacquireWaitGroup"], unfollowed := true, recurses := true, leaving := true, apart := false }
def FnExactPicToSaid : Prop := fnExactPicToRow.holds Try.pinned (OpenSpec.ofChange fnExactPicToSpec)

/-- ITS FALSE NEIGHBOUR: 'it returns false'. Refute it at one input. -/
def fnExactPicToWrong : ChangeSpec := { name := "fnExactPicTo", fn := fun _ => fun
  | [d] => { results := [.lit (.bool false)], args := [d] }
  | _ => none }
def FnExactPicToWrongFalsely : Prop := fnExactPicToRow.holds Try.pinned (OpenSpec.ofChange fnExactPicToWrong)

/- THE SECOND FORM. 'bulk': how many values and letters a reading holds, each counted each time it is reached (what is shared counts as often as it is met; a slice's spare places count too). A statement '..UptoSaid' is the law's where the arguments, and the package variables that the reading takes, are together of bulk at most 1048576: NARROWER than '..Said'. Prove '..Said' where nothing that the law and all that it calls make is longer than what came in: it says more and counts as full. Else prove '..UptoSaid'. A law counts once. -/
mutual
def uptoBulk {H : Type} : DataW H → Nat
  | .lit (.string bytes) => bytes.length + 1
  | .lit _ => 1
  | .nil => 1
  | .ptr d => uptoBulk d + 1
  | .slice elems spare => uptoBulkAll elems + uptoBulkAll spare + 1
  | .agg parts => uptoBulkAll parts + 1
  | .iface _ d => uptoBulk d + 1
  | .map entries => uptoBulkEntries entries + 1
  | .held _ => 1
def uptoBulkAll {H : Type} : List (DataW H) → Nat
  | [] => 0
  | d :: r => uptoBulk d + uptoBulkAll r
def uptoBulkEntries {H : Type} : List (Lit × DataW H) → Nat
  | [] => 0
  | x :: r => uptoBulkEntry x + uptoBulkEntries r
def uptoBulkEntry {H : Type} : Lit × DataW H → Nat
  | (.string bytes, d) => bytes.length + uptoBulk d + 1
  | (_, d) => uptoBulk d + 1
 end
def uptoSmall : (H : Type) → List (DataW H) → Bool := fun _ ds => decide (uptoBulkAll ds ≤ 1048576)
def OpenSpec.upto (s : _root_.Go.ChangeSpec) : _root_.Go.OpenSpec := { _root_.Go.OpenSpec.ofChange s with cond := some uptoSmall }

/-- 'laws.FnPicSights', WHERE WHAT IT READS IS OF BULK AT MOST 1048576: true; the input reads as it did. -/
def fnPicSightsUptoRow : OpenClaim := { program := "ytambkogocbgbmaa", sum := "19759fa058a11ac4ad40b95f59ca4e3966af56d8a894e0355bbfea40d596ff62", func := "loop.example/lucarne/laws.FnPicSights", spec := "fnPicSights", inPlace := ["(*sync.WaitGroup).Add", "internal/race.ReleaseMerge", "internal/race.Disable", "internal/race.Enable", "internal/synctest.IsInBubble", "internal/synctest.Associate[sync.WaitGroup]", "sync.fatal", "sync/atomic.OrUint64", "sync/atomic.AddUint64", "internal/race.Read", "sync/atomic.LoadUint64", "sync/atomic.StoreUint64", "internal/synctest.Disassociate[sync.WaitGroup]", "sync.runtime_Semrelease", "(*sync.WaitGroup).Done", "(*sync.WaitGroup).Wait", "internal/race.Acquire", "internal/synctest.IsAssociated[sync.WaitGroup]", "sync/atomic.CompareAndSwapUint64", "internal/race.Write", "sync.runtime_SemacquireWaitGroup"], unfollowed := true, recurses := true, leaving := true, apart := false, narrowed := true }
def FnPicSightsUptoSaid : Prop := fnPicSightsUptoRow.holds Try.pinned (OpenSpec.upto fnPicSightsSpec)

/-- 'laws.FnPicSum', WHERE WHAT IT READS IS OF BULK AT MOST 1048576: true; the input reads as it did. -/
def fnPicSumUptoRow : OpenClaim := { program := "ytambkogocbgbmaa", sum := "19759fa058a11ac4ad40b95f59ca4e3966af56d8a894e0355bbfea40d596ff62", func := "loop.example/lucarne/laws.FnPicSum", spec := "fnPicSum", inPlace := ["(*sync.WaitGroup).Add", "internal/race.ReleaseMerge", "internal/race.Disable", "internal/race.Enable", "internal/synctest.IsInBubble", "internal/synctest.Associate[sync.WaitGroup]", "sync.fatal", "sync/atomic.OrUint64", "sync/atomic.AddUint64", "internal/race.Read", "sync/atomic.LoadUint64", "sync/atomic.StoreUint64", "internal/synctest.Disassociate[sync.WaitGroup]", "sync.runtime_Semrelease", "(*sync.WaitGroup).Done", "(*sync.WaitGroup).Wait", "internal/race.Acquire", "internal/synctest.IsAssociated[sync.WaitGroup]", "sync/atomic.CompareAndSwapUint64", "internal/race.Write", "sync.runtime_SemacquireWaitGroup"], unfollowed := true, recurses := true, leaving := true, apart := false, narrowed := true }
def FnPicSumUptoSaid : Prop := fnPicSumUptoRow.holds Try.pinned (OpenSpec.upto fnPicSumSpec)

/-- 'laws.FnPicTimes', WHERE WHAT IT READS IS OF BULK AT MOST 1048576: true; the input reads as it did. -/
def fnPicTimesUptoRow : OpenClaim := { program := "ytambkogocbgbmaa", sum := "19759fa058a11ac4ad40b95f59ca4e3966af56d8a894e0355bbfea40d596ff62", func := "loop.example/lucarne/laws.FnPicTimes", spec := "fnPicTimes", inPlace := ["(*sync.WaitGroup).Add", "internal/race.ReleaseMerge", "internal/race.Disable", "internal/race.Enable", "internal/synctest.IsInBubble", "internal/synctest.Associate[sync.WaitGroup]", "sync.fatal", "sync/atomic.OrUint64", "sync/atomic.AddUint64", "internal/race.Read", "sync/atomic.LoadUint64", "sync/atomic.StoreUint64", "internal/synctest.Disassociate[sync.WaitGroup]", "sync.runtime_Semrelease", "(*sync.WaitGroup).Done", "(*sync.WaitGroup).Wait", "internal/race.Acquire", "internal/synctest.IsAssociated[sync.WaitGroup]", "sync/atomic.CompareAndSwapUint64", "internal/race.Write", "sync.runtime_SemacquireWaitGroup"], unfollowed := true, recurses := true, leaving := true, apart := false, narrowed := true }
def FnPicTimesUptoSaid : Prop := fnPicTimesUptoRow.holds Try.pinned (OpenSpec.upto fnPicTimesSpec)

/-- 'laws.FnPicBack', WHERE WHAT IT READS IS OF BULK AT MOST 1048576: true; the input reads as it did. -/
def fnPicBackUptoRow : OpenClaim := { program := "ytambkogocbgbmaa", sum := "19759fa058a11ac4ad40b95f59ca4e3966af56d8a894e0355bbfea40d596ff62", func := "loop.example/lucarne/laws.FnPicBack", spec := "fnPicBack", inPlace := ["(*sync.WaitGroup).Add", "internal/race.ReleaseMerge", "internal/race.Disable", "internal/race.Enable", "internal/synctest.IsInBubble", "internal/synctest.Associate[sync.WaitGroup]", "sync.fatal", "sync/atomic.OrUint64", "sync/atomic.AddUint64", "internal/race.Read", "sync/atomic.LoadUint64", "sync/atomic.StoreUint64", "internal/synctest.Disassociate[sync.WaitGroup]", "sync.runtime_Semrelease", "(*sync.WaitGroup).Done", "(*sync.WaitGroup).Wait", "internal/race.Acquire", "internal/synctest.IsAssociated[sync.WaitGroup]", "sync/atomic.CompareAndSwapUint64", "internal/race.Write", "sync.runtime_SemacquireWaitGroup"], unfollowed := true, recurses := true, leaving := true, apart := false, narrowed := true }
def FnPicBackUptoSaid : Prop := fnPicBackUptoRow.holds Try.pinned (OpenSpec.upto fnPicBackSpec)

/-- 'laws.FnPicDark', WHERE WHAT IT READS IS OF BULK AT MOST 1048576: true; the input reads as it did. -/
def fnPicDarkUptoRow : OpenClaim := { program := "ytambkogocbgbmaa", sum := "19759fa058a11ac4ad40b95f59ca4e3966af56d8a894e0355bbfea40d596ff62", func := "loop.example/lucarne/laws.FnPicDark", spec := "fnPicDark", inPlace := ["(*sync.WaitGroup).Add", "internal/race.ReleaseMerge", "internal/race.Disable", "internal/race.Enable", "internal/synctest.IsInBubble", "internal/synctest.Associate[sync.WaitGroup]", "sync.fatal", "sync/atomic.OrUint64", "sync/atomic.AddUint64", "internal/race.Read", "sync/atomic.LoadUint64", "sync/atomic.StoreUint64", "internal/synctest.Disassociate[sync.WaitGroup]", "sync.runtime_Semrelease", "(*sync.WaitGroup).Done", "(*sync.WaitGroup).Wait", "internal/race.Acquire", "internal/synctest.IsAssociated[sync.WaitGroup]", "sync/atomic.CompareAndSwapUint64", "internal/race.Write", "sync.runtime_SemacquireWaitGroup"], unfollowed := true, recurses := true, leaving := true, apart := false, narrowed := true }
def FnPicDarkUptoSaid : Prop := fnPicDarkUptoRow.holds Try.pinned (OpenSpec.upto fnPicDarkSpec)

/-- 'laws.FnExactPicOf', WHERE WHAT IT READS IS OF BULK AT MOST 1048576: true; the input reads as it did. -/
def fnExactPicOfUptoRow : OpenClaim := { program := "ytambkogocbgbmaa", sum := "19759fa058a11ac4ad40b95f59ca4e3966af56d8a894e0355bbfea40d596ff62", func := "loop.example/lucarne/laws.FnExactPicOf", spec := "fnExactPicOf", inPlace := ["(*sync.WaitGroup).Add", "internal/race.ReleaseMerge", "internal/race.Disable", "internal/race.Enable", "internal/synctest.IsInBubble", "internal/synctest.Associate[sync.WaitGroup]", "sync.fatal", "sync/atomic.OrUint64", "sync/atomic.AddUint64", "internal/race.Read", "sync/atomic.LoadUint64", "sync/atomic.StoreUint64", "internal/synctest.Disassociate[sync.WaitGroup]", "sync.runtime_Semrelease", "(*sync.WaitGroup).Done", "(*sync.WaitGroup).Wait", "internal/race.Acquire", "internal/synctest.IsAssociated[sync.WaitGroup]", "sync/atomic.CompareAndSwapUint64", "internal/race.Write", "sync.runtime_SemacquireWaitGroup"], unfollowed := true, recurses := true, leaving := true, apart := false, narrowed := true }
def FnExactPicOfUptoSaid : Prop := fnExactPicOfUptoRow.holds Try.pinned (OpenSpec.upto fnExactPicOfSpec)

/-- 'laws.FnExactPicTo', WHERE WHAT IT READS IS OF BULK AT MOST 1048576: true; the input reads as it did. -/
def fnExactPicToUptoRow : OpenClaim := { program := "ytambkogocbgbmaa", sum := "19759fa058a11ac4ad40b95f59ca4e3966af56d8a894e0355bbfea40d596ff62", func := "loop.example/lucarne/laws.FnExactPicTo", spec := "fnExactPicTo", inPlace := ["(*sync.WaitGroup).Add", "internal/race.ReleaseMerge", "internal/race.Disable", "internal/race.Enable", "internal/synctest.IsInBubble", "internal/synctest.Associate[sync.WaitGroup]", "sync.fatal", "sync/atomic.OrUint64", "sync/atomic.AddUint64", "internal/race.Read", "sync/atomic.LoadUint64", "sync/atomic.StoreUint64", "internal/synctest.Disassociate[sync.WaitGroup]", "sync.runtime_Semrelease", "(*sync.WaitGroup).Done", "(*sync.WaitGroup).Wait", "internal/race.Acquire", "internal/synctest.IsAssociated[sync.WaitGroup]", "sync/atomic.CompareAndSwapUint64", "internal/race.Write", "sync.runtime_SemacquireWaitGroup"], unfollowed := true, recurses := true, leaving := true, apart := false, narrowed := true }
def FnExactPicToUptoSaid : Prop := fnExactPicToUptoRow.holds Try.pinned (OpenSpec.upto fnExactPicToSpec)

end Rows
end Go.Proofs.Ytambkogocbgbmaa
