/-
  No cell of these rows narrows 'for every input' (looked for: loops, veiled, ifaces, maps, wideKeys, modest, calm, conditions, laid).
  DERIVED. THE GIVEN ROWS OF THIS SEAT. 6 by the template 'for every input the law returns true; each argument reads behind the call as it read before'; 0 by the template 'total and deterministic' (their statements: YtefbfeaeifbjeaaTotals.lean).
  GIVEN WITH THE SEED: the statements are not yours to turn. If you find one false, say at which input.
  Laid BY PROGRAM, IN A SANDBOX (cutbox-rows.mjs): the forced cells as the released guide's own fill.sh prints them over the translation f0bb3180a4af2d04… (all of the seat's roots in one cut). By AI agents, Wed Nov 11 2026. No macro, syntax, notation, axiom, sorry.
-/
import Derived.Test.YtefbfeaeifbjeaaChecked
import GoSem.Claim
import GoSem.ClaimJoined
import GoSem.ClaimMapViews
import Derived.JoinedTies
import Derived.KernelRfl
namespace Go.Proofs.Ytefbfeaeifbjeaa
/- THE CELL 'sum', in the pinned program and in every row, IS THE sha256 OF THE DUMP (.gsa) THAT YtefbfeaeifbjeaaProg.lean LOADS. Nothing in Lean hashes anything: it is a label: what it is worth is what the hold of that sum in a sandbox is worth. -/
noncomputable def Try.pinned : Pinned := { name := "ytefbfeaeifbjeaa", sum := "f0bb3180a4af2d043c37bd42d7639e099442ef3a9abe433079c2add94750bc42", checked := Try.checked }
namespace Rows
def none {H : Type} : Left H := { results := [], args := [] }

/-- 'laws.FnOwnAll': WHATEVER THE INPUT: true; the input reads as it did. -/
def fnOwnAllSpec : ChangeSpec := { name := "fnOwnAll", fn := fun _ => fun
  | [d] => { results := [.lit (.bool true)], args := [d] }
  | _ => none }
def fnOwnAllRow : OpenClaim := { program := "ytefbfeaeifbjeaa", sum := "f0bb3180a4af2d043c37bd42d7639e099442ef3a9abe433079c2add94750bc42", func := "loop.example/lucarne/laws.FnOwnAll", spec := "fnOwnAll", apart := false }
def FnOwnAllSaid : Prop := fnOwnAllRow.holds Try.pinned (OpenSpec.ofChange fnOwnAllSpec)

/-- ITS FALSE NEIGHBOUR: 'it returns false'. Refute it at one input. -/
def fnOwnAllWrong : ChangeSpec := { name := "fnOwnAll", fn := fun _ => fun
  | [d] => { results := [.lit (.bool false)], args := [d] }
  | _ => none }
def FnOwnAllWrongFalsely : Prop := fnOwnAllRow.holds Try.pinned (OpenSpec.ofChange fnOwnAllWrong)

/-- 'laws.FnExactPaintOwn': WHATEVER THE INPUT: true; the input reads as it did. -/
def fnExactPaintOwnSpec : ChangeSpec := { name := "fnExactPaintOwn", fn := fun _ => fun
  | [d1, d2, d3] => { results := [.lit (.bool true)], args := [d1, d2, d3] }
  | _ => none }
def fnExactPaintOwnRow : OpenClaim := { program := "ytefbfeaeifbjeaa", sum := "f0bb3180a4af2d043c37bd42d7639e099442ef3a9abe433079c2add94750bc42", func := "loop.example/lucarne/laws.FnExactPaintOwn", spec := "fnExactPaintOwn", apart := false }
def FnExactPaintOwnSaid : Prop := fnExactPaintOwnRow.holds Try.pinned (OpenSpec.ofChange fnExactPaintOwnSpec)

/-- ITS FALSE NEIGHBOUR: 'it returns false'. Refute it at one input. -/
def fnExactPaintOwnWrong : ChangeSpec := { name := "fnExactPaintOwn", fn := fun _ => fun
  | [d1, d2, d3] => { results := [.lit (.bool false)], args := [d1, d2, d3] }
  | _ => none }
def FnExactPaintOwnWrongFalsely : Prop := fnExactPaintOwnRow.holds Try.pinned (OpenSpec.ofChange fnExactPaintOwnWrong)

/-- 'laws.FnTrailWall': WHATEVER THE INPUT: true; the input reads as it did. -/
def fnTrailWallSpec : ChangeSpec := { name := "fnTrailWall", fn := fun _ => fun
  | [d] => { results := [.lit (.bool true)], args := [d] }
  | _ => none }
def fnTrailWallRow : OpenClaim := { program := "ytefbfeaeifbjeaa", sum := "f0bb3180a4af2d043c37bd42d7639e099442ef3a9abe433079c2add94750bc42", func := "loop.example/lucarne/laws.FnTrailWall", spec := "fnTrailWall", unfollowed := true, recurses := true, apart := false }
def FnTrailWallSaid : Prop := fnTrailWallRow.holds Try.pinned (OpenSpec.ofChange fnTrailWallSpec)

/-- ITS FALSE NEIGHBOUR: 'it returns false'. Refute it at one input. -/
def fnTrailWallWrong : ChangeSpec := { name := "fnTrailWall", fn := fun _ => fun
  | [d] => { results := [.lit (.bool false)], args := [d] }
  | _ => none }
def FnTrailWallWrongFalsely : Prop := fnTrailWallRow.holds Try.pinned (OpenSpec.ofChange fnTrailWallWrong)

/-- 'laws.FnLightMore': WHATEVER THE INPUT: true; the input reads as it did. -/
def fnLightMoreSpec : ChangeSpec := { name := "fnLightMore", fn := fun _ => fun
  | [d] => { results := [.lit (.bool true)], args := [d] }
  | _ => none }
def fnLightMoreRow : OpenClaim := { program := "ytefbfeaeifbjeaa", sum := "f0bb3180a4af2d043c37bd42d7639e099442ef3a9abe433079c2add94750bc42", func := "loop.example/lucarne/laws.FnLightMore", spec := "fnLightMore", unfollowed := true, recurses := true, apart := false }
def FnLightMoreSaid : Prop := fnLightMoreRow.holds Try.pinned (OpenSpec.ofChange fnLightMoreSpec)

/-- ITS FALSE NEIGHBOUR: 'it returns false'. Refute it at one input. -/
def fnLightMoreWrong : ChangeSpec := { name := "fnLightMore", fn := fun _ => fun
  | [d] => { results := [.lit (.bool false)], args := [d] }
  | _ => none }
def FnLightMoreWrongFalsely : Prop := fnLightMoreRow.holds Try.pinned (OpenSpec.ofChange fnLightMoreWrong)

/-- 'laws.FnTrailDim': WHATEVER THE INPUT: true; the input reads as it did. -/
def fnTrailDimSpec : ChangeSpec := { name := "fnTrailDim", fn := fun _ => fun
  | [d] => { results := [.lit (.bool true)], args := [d] }
  | _ => none }
def fnTrailDimRow : OpenClaim := { program := "ytefbfeaeifbjeaa", sum := "f0bb3180a4af2d043c37bd42d7639e099442ef3a9abe433079c2add94750bc42", func := "loop.example/lucarne/laws.FnTrailDim", spec := "fnTrailDim", unfollowed := true, recurses := true, apart := false }
def FnTrailDimSaid : Prop := fnTrailDimRow.holds Try.pinned (OpenSpec.ofChange fnTrailDimSpec)

/-- ITS FALSE NEIGHBOUR: 'it returns false'. Refute it at one input. -/
def fnTrailDimWrong : ChangeSpec := { name := "fnTrailDim", fn := fun _ => fun
  | [d] => { results := [.lit (.bool false)], args := [d] }
  | _ => none }
def FnTrailDimWrongFalsely : Prop := fnTrailDimRow.holds Try.pinned (OpenSpec.ofChange fnTrailDimWrong)

/-- 'laws.FnTrailNever': WHATEVER THE INPUT: true; the input reads as it did. -/
def fnTrailNeverSpec : ChangeSpec := { name := "fnTrailNever", fn := fun _ => fun
  | [d] => { results := [.lit (.bool true)], args := [d] }
  | _ => none }
def fnTrailNeverRow : OpenClaim := { program := "ytefbfeaeifbjeaa", sum := "f0bb3180a4af2d043c37bd42d7639e099442ef3a9abe433079c2add94750bc42", func := "loop.example/lucarne/laws.FnTrailNever", spec := "fnTrailNever", unfollowed := true, recurses := true, apart := false }
def FnTrailNeverSaid : Prop := fnTrailNeverRow.holds Try.pinned (OpenSpec.ofChange fnTrailNeverSpec)

/-- ITS FALSE NEIGHBOUR: 'it returns false'. Refute it at one input. -/
def fnTrailNeverWrong : ChangeSpec := { name := "fnTrailNever", fn := fun _ => fun
  | [d] => { results := [.lit (.bool false)], args := [d] }
  | _ => none }
def FnTrailNeverWrongFalsely : Prop := fnTrailNeverRow.holds Try.pinned (OpenSpec.ofChange fnTrailNeverWrong)

/- THE SECOND FORM. 'bulk': how many values and letters a reading holds, each counted each time it is reached (what is shared counts as often as it is met; a slice's spare places count too). A statement '..UptoSaid' is the law's where the arguments, and the package variables that the reading takes, are together of bulk at most 1048576: NARROWER than '..Said'. Prove '..Said' where nothing that the law and all that it calls make is longer than what came in: it says more and counts as full. Else prove '..UptoSaid'. A law counts once. -/
mutual
def uptoBulk {H : Type} : DataW H → Nat
  | .lit (.string bytes) => bytes.length + 1
  | .lit _ => 1
  | .nil => 1
  | .ptr d => uptoBulk d + 1
  | .slice elems spare => uptoBulkAll elems + uptoBulkAll spare + 1
  | .agg parts => uptoBulkAll parts + 1
  | .iface _ d => uptoBulk d + 1
  | .map entries => uptoBulkEntries entries + 1
  | .held _ => 1
def uptoBulkAll {H : Type} : List (DataW H) → Nat
  | [] => 0
  | d :: r => uptoBulk d + uptoBulkAll r
def uptoBulkEntries {H : Type} : List (Lit × DataW H) → Nat
  | [] => 0
  | x :: r => uptoBulkEntry x + uptoBulkEntries r
def uptoBulkEntry {H : Type} : Lit × DataW H → Nat
  | (.string bytes, d) => bytes.length + uptoBulk d + 1
  | (_, d) => uptoBulk d + 1
 end
def uptoSmall : (H : Type) → List (DataW H) → Bool := fun _ ds => decide (uptoBulkAll ds ≤ 1048576)
def OpenSpec.upto (s : _root_.Go.ChangeSpec) : _root_.Go.OpenSpec := { _root_.Go.OpenSpec.ofChange s with cond := some uptoSmall }

/-- 'laws.FnOwnAll', WHERE WHAT IT READS IS OF BULK AT MOST 1048576: true; the input reads as it did. -/
def fnOwnAllUptoRow : OpenClaim := { program := "ytefbfeaeifbjeaa", sum := "f0bb3180a4af2d043c37bd42d7639e099442ef3a9abe433079c2add94750bc42", func := "loop.example/lucarne/laws.FnOwnAll", spec := "fnOwnAll", apart := false, narrowed := true }
def FnOwnAllUptoSaid : Prop := fnOwnAllUptoRow.holds Try.pinned (OpenSpec.upto fnOwnAllSpec)

/-- 'laws.FnExactPaintOwn', WHERE WHAT IT READS IS OF BULK AT MOST 1048576: true; the input reads as it did. -/
def fnExactPaintOwnUptoRow : OpenClaim := { program := "ytefbfeaeifbjeaa", sum := "f0bb3180a4af2d043c37bd42d7639e099442ef3a9abe433079c2add94750bc42", func := "loop.example/lucarne/laws.FnExactPaintOwn", spec := "fnExactPaintOwn", apart := false, narrowed := true }
def FnExactPaintOwnUptoSaid : Prop := fnExactPaintOwnUptoRow.holds Try.pinned (OpenSpec.upto fnExactPaintOwnSpec)

/-- 'laws.FnTrailWall', WHERE WHAT IT READS IS OF BULK AT MOST 1048576: true; the input reads as it did. -/
def fnTrailWallUptoRow : OpenClaim := { program := "ytefbfeaeifbjeaa", sum := "f0bb3180a4af2d043c37bd42d7639e099442ef3a9abe433079c2add94750bc42", func := "loop.example/lucarne/laws.FnTrailWall", spec := "fnTrailWall", unfollowed := true, recurses := true, apart := false, narrowed := true }
def FnTrailWallUptoSaid : Prop := fnTrailWallUptoRow.holds Try.pinned (OpenSpec.upto fnTrailWallSpec)

/-- 'laws.FnLightMore', WHERE WHAT IT READS IS OF BULK AT MOST 1048576: true; the input reads as it did. -/
def fnLightMoreUptoRow : OpenClaim := { program := "ytefbfeaeifbjeaa", sum := "f0bb3180a4af2d043c37bd42d7639e099442ef3a9abe433079c2add94750bc42", func := "loop.example/lucarne/laws.FnLightMore", spec := "fnLightMore", unfollowed := true, recurses := true, apart := false, narrowed := true }
def FnLightMoreUptoSaid : Prop := fnLightMoreUptoRow.holds Try.pinned (OpenSpec.upto fnLightMoreSpec)

/-- 'laws.FnTrailDim', WHERE WHAT IT READS IS OF BULK AT MOST 1048576: true; the input reads as it did. -/
def fnTrailDimUptoRow : OpenClaim := { program := "ytefbfeaeifbjeaa", sum := "f0bb3180a4af2d043c37bd42d7639e099442ef3a9abe433079c2add94750bc42", func := "loop.example/lucarne/laws.FnTrailDim", spec := "fnTrailDim", unfollowed := true, recurses := true, apart := false, narrowed := true }
def FnTrailDimUptoSaid : Prop := fnTrailDimUptoRow.holds Try.pinned (OpenSpec.upto fnTrailDimSpec)

/-- 'laws.FnTrailNever', WHERE WHAT IT READS IS OF BULK AT MOST 1048576: true; the input reads as it did. -/
def fnTrailNeverUptoRow : OpenClaim := { program := "ytefbfeaeifbjeaa", sum := "f0bb3180a4af2d043c37bd42d7639e099442ef3a9abe433079c2add94750bc42", func := "loop.example/lucarne/laws.FnTrailNever", spec := "fnTrailNever", unfollowed := true, recurses := true, apart := false, narrowed := true }
def FnTrailNeverUptoSaid : Prop := fnTrailNeverUptoRow.holds Try.pinned (OpenSpec.upto fnTrailNeverSpec)

end Rows
end Go.Proofs.Ytefbfeaeifbjeaa
