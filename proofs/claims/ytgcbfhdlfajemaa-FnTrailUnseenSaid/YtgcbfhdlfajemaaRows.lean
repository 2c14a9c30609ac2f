/-
  No cell of these rows narrows 'for every input' (looked for: loops, veiled, ifaces, maps, wideKeys, modest, calm, conditions, laid).
  DERIVED. THE GIVEN ROWS OF THIS SEAT. 4 by the template 'for every input the law returns true; each argument reads behind the call as it read before'; 0 by the template 'total and deterministic' (their statements: YtgcbfhdlfajemaaTotals.lean).
  GIVEN WITH THE SEED: the statements are not yours to turn. If you find one false, say at which input.
  Laid BY PROGRAM, IN A SANDBOX (cutbox-rows.mjs): the forced cells as the released guide's own fill.sh prints them over the translation 6d200ba003408d62… (all of the seat's roots in one cut). By AI agents, Wed Nov 11 2026. No macro, syntax, notation, axiom, sorry.
-/
import Derived.Test.YtgcbfhdlfajemaaChecked
import GoSem.Claim
import GoSem.ClaimJoined
import GoSem.ClaimMapViews
import Derived.JoinedTies
import Derived.KernelRfl
namespace Go.Proofs.Ytgcbfhdlfajemaa
/- THE CELL 'sum', in the pinned program and in every row, IS THE sha256 OF THE DUMP (.gsa) THAT YtgcbfhdlfajemaaProg.lean LOADS. Nothing in Lean hashes anything: it is a label: what it is worth is what the hold of that sum in a sandbox is worth. -/
noncomputable def Try.pinned : Pinned := { name := "ytgcbfhdlfajemaa", sum := "6d200ba003408d62dc98d56e43d9790baf3d432b7c7b7088328e21c4635bc0a3", checked := Try.checked }
namespace Rows
def none {H : Type} : Left H := { results := [], args := [] }

/-- 'laws.FnExactTrailFoot': WHATEVER THE INPUT: true; the input reads as it did. -/
def fnExactTrailFootSpec : ChangeSpec := { name := "fnExactTrailFoot", fn := fun _ => fun
  | [d1, d2] => { results := [.lit (.bool true)], args := [d1, d2] }
  | _ => none }
def fnExactTrailFootRow : OpenClaim := { program := "ytgcbfhdlfajemaa", sum := "6d200ba003408d62dc98d56e43d9790baf3d432b7c7b7088328e21c4635bc0a3", func := "loop.example/lucarne/laws.FnExactTrailFoot", spec := "fnExactTrailFoot", unfollowed := true, recurses := true, apart := false }
def FnExactTrailFootSaid : Prop := fnExactTrailFootRow.holds Try.pinned (OpenSpec.ofChange fnExactTrailFootSpec)

/-- ITS FALSE NEIGHBOUR: 'it returns false'. Refute it at one input. -/
def fnExactTrailFootWrong : ChangeSpec := { name := "fnExactTrailFoot", fn := fun _ => fun
  | [d1, d2] => { results := [.lit (.bool false)], args := [d1, d2] }
  | _ => none }
def FnExactTrailFootWrongFalsely : Prop := fnExactTrailFootRow.holds Try.pinned (OpenSpec.ofChange fnExactTrailFootWrong)

/-- 'laws.FnTrailFoot': WHATEVER THE INPUT: true; the input reads as it did. -/
def fnTrailFootSpec : ChangeSpec := { name := "fnTrailFoot", fn := fun _ => fun
  | [d] => { results := [.lit (.bool true)], args := [d] }
  | _ => none }
def fnTrailFootRow : OpenClaim := { program := "ytgcbfhdlfajemaa", sum := "6d200ba003408d62dc98d56e43d9790baf3d432b7c7b7088328e21c4635bc0a3", func := "loop.example/lucarne/laws.FnTrailFoot", spec := "fnTrailFoot", unfollowed := true, recurses := true, apart := false }
def FnTrailFootSaid : Prop := fnTrailFootRow.holds Try.pinned (OpenSpec.ofChange fnTrailFootSpec)

/-- ITS FALSE NEIGHBOUR: 'it returns false'. Refute it at one input. -/
def fnTrailFootWrong : ChangeSpec := { name := "fnTrailFoot", fn := fun _ => fun
  | [d] => { results := [.lit (.bool false)], args := [d] }
  | _ => none }
def FnTrailFootWrongFalsely : Prop := fnTrailFootRow.holds Try.pinned (OpenSpec.ofChange fnTrailFootWrong)

/-- 'laws.FnTrailKinds': WHATEVER THE INPUT: true; the input reads as it did. -/
def fnTrailKindsSpec : ChangeSpec := { name := "fnTrailKinds", fn := fun _ => fun
  | [d] => { results := [.lit (.bool true)], args := [d] }
  | _ => none }
def fnTrailKindsRow : OpenClaim := { program := "ytgcbfhdlfajemaa", sum := "6d200ba003408d62dc98d56e43d9790baf3d432b7c7b7088328e21c4635bc0a3", func := "loop.example/lucarne/laws.FnTrailKinds", spec := "fnTrailKinds", unfollowed := true, recurses := true, apart := false }
def FnTrailKindsSaid : Prop := fnTrailKindsRow.holds Try.pinned (OpenSpec.ofChange fnTrailKindsSpec)

/-- ITS FALSE NEIGHBOUR: 'it returns false'. Refute it at one input. -/
def fnTrailKindsWrong : ChangeSpec := { name := "fnTrailKinds", fn := fun _ => fun
  | [d] => { results := [.lit (.bool false)], args := [d] }
  | _ => none }
def FnTrailKindsWrongFalsely : Prop := fnTrailKindsRow.holds Try.pinned (OpenSpec.ofChange fnTrailKindsWrong)

/-- 'laws.FnTrailUnseen': WHATEVER THE INPUT: true; the input reads as it did. -/
def fnTrailUnseenSpec : ChangeSpec := { name := "fnTrailUnseen", fn := fun _ => fun
  | [d1, d2] => { results := [.lit (.bool true)], args := [d1, d2] }
  | _ => none }
def fnTrailUnseenRow : OpenClaim := { program := "ytgcbfhdlfajemaa", sum := "6d200ba003408d62dc98d56e43d9790baf3d432b7c7b7088328e21c4635bc0a3", func := "loop.example/lucarne/laws.FnTrailUnseen", spec := "fnTrailUnseen", unfollowed := true, recurses := true, apart := false }
def FnTrailUnseenSaid : Prop := fnTrailUnseenRow.holds Try.pinned (OpenSpec.ofChange fnTrailUnseenSpec)

/-- ITS FALSE NEIGHBOUR: 'it returns false'. Refute it at one input. -/
def fnTrailUnseenWrong : ChangeSpec := { name := "fnTrailUnseen", fn := fun _ => fun
  | [d1, d2] => { results := [.lit (.bool false)], args := [d1, d2] }
  | _ => none }
def FnTrailUnseenWrongFalsely : Prop := fnTrailUnseenRow.holds Try.pinned (OpenSpec.ofChange fnTrailUnseenWrong)

/- THE SECOND FORM. 'bulk': how many values and letters a reading holds, each counted each time it is reached (what is shared counts as often as it is met; a slice's spare places count too). A statement '..UptoSaid' is the law's where the arguments, and the package variables that the reading takes, are together of bulk at most 1048576: NARROWER than '..Said'. Prove '..Said' where nothing that the law and all that it calls make is longer than what came in: it says more and counts as full. Else prove '..UptoSaid'. A law counts once. -/
mutual
def uptoBulk {H : Type} : DataW H → Nat
  | .lit (.string bytes) => bytes.length + 1
  | .lit _ => 1
  | .nil => 1
  | .ptr d => uptoBulk d + 1
  | .slice elems spare => uptoBulkAll elems + uptoBulkAll spare + 1
  | .agg parts => uptoBulkAll parts + 1
  | .iface _ d => uptoBulk d + 1
  | .map entries => uptoBulkEntries entries + 1
  | .held _ => 1
def uptoBulkAll {H : Type} : List (DataW H) → Nat
  | [] => 0
  | d :: r => uptoBulk d + uptoBulkAll r
def uptoBulkEntries {H : Type} : List (Lit × DataW H) → Nat
  | [] => 0
  | x :: r => uptoBulkEntry x + uptoBulkEntries r
def uptoBulkEntry {H : Type} : Lit × DataW H → Nat
  | (.string bytes, d) => bytes.length + uptoBulk d + 1
  | (_, d) => uptoBulk d + 1
 end
def uptoSmall : (H : Type) → List (DataW H) → Bool := fun _ ds => decide (uptoBulkAll ds ≤ 1048576)
def OpenSpec.upto (s : _root_.Go.ChangeSpec) : _root_.Go.OpenSpec := { _root_.Go.OpenSpec.ofChange s with cond := some uptoSmall }

/-- 'laws.FnExactTrailFoot', WHERE WHAT IT READS IS OF BULK AT MOST 1048576: true; the input reads as it did. -/
def fnExactTrailFootUptoRow : OpenClaim := { program := "ytgcbfhdlfajemaa", sum := "6d200ba003408d62dc98d56e43d9790baf3d432b7c7b7088328e21c4635bc0a3", func := "loop.example/lucarne/laws.FnExactTrailFoot", spec := "fnExactTrailFoot", unfollowed := true, recurses := true, apart := false, narrowed := true }
def FnExactTrailFootUptoSaid : Prop := fnExactTrailFootUptoRow.holds Try.pinned (OpenSpec.upto fnExactTrailFootSpec)

/-- 'laws.FnTrailFoot', WHERE WHAT IT READS IS OF BULK AT MOST 1048576: true; the input reads as it did. -/
def fnTrailFootUptoRow : OpenClaim := { program := "ytgcbfhdlfajemaa", sum := "6d200ba003408d62dc98d56e43d9790baf3d432b7c7b7088328e21c4635bc0a3", func := "loop.example/lucarne/laws.FnTrailFoot", spec := "fnTrailFoot", unfollowed := true, recurses := true, apart := false, narrowed := true }
def FnTrailFootUptoSaid : Prop := fnTrailFootUptoRow.holds Try.pinned (OpenSpec.upto fnTrailFootSpec)

/-- 'laws.FnTrailKinds', WHERE WHAT IT READS IS OF BULK AT MOST 1048576: true; the input reads as it did. -/
def fnTrailKindsUptoRow : OpenClaim := { program := "ytgcbfhdlfajemaa", sum := "6d200ba003408d62dc98d56e43d9790baf3d432b7c7b7088328e21c4635bc0a3", func := "loop.example/lucarne/laws.FnTrailKinds", spec := "fnTrailKinds", unfollowed := true, recurses := true, apart := false, narrowed := true }
def FnTrailKindsUptoSaid : Prop := fnTrailKindsUptoRow.holds Try.pinned (OpenSpec.upto fnTrailKindsSpec)

/-- 'laws.FnTrailUnseen', WHERE WHAT IT READS IS OF BULK AT MOST 1048576: true; the input reads as it did. -/
def fnTrailUnseenUptoRow : OpenClaim := { program := "ytgcbfhdlfajemaa", sum := "6d200ba003408d62dc98d56e43d9790baf3d432b7c7b7088328e21c4635bc0a3", func := "loop.example/lucarne/laws.FnTrailUnseen", spec := "fnTrailUnseen", unfollowed := true, recurses := true, apart := false, narrowed := true }
def FnTrailUnseenUptoSaid : Prop := fnTrailUnseenUptoRow.holds Try.pinned (OpenSpec.upto fnTrailUnseenSpec)

end Rows
end Go.Proofs.Ytgcbfhdlfajemaa
