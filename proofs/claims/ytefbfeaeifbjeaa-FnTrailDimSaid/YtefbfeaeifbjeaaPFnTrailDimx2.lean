-- Written by a program of this session: the kit's print, with functions among it that were proved by hand.
import Derived.Test.YtefbfeaeifbjeaaPFnTrailDimx0
namespace Go.Proofs.Ytefbfeaeifbjeaa.PFnTrailDim
open Go.RowKit Go.Proofs.YtefbfeaeifbjeaaW.PrintWords Go.Proofs.YtefbfeaeifbjeaaW.PrintLast Go.Proofs.YtefbfeaeifbjeaaW.PrintMore
attribute [local go_sem] max2_int min2_int max_two min_two max_three min_three max_four min_four   -- for this text's walks alone
set_option linter.unusedVariables false
set_option linter.unusedSimpArgs false

open Go.Proofs.Ytefbfeaeifbjeaa.HandA
/-! ### what several of the hand-proved walks share -/
theorem k60_flat : Flat k60 := fun _ _ _ _ _ _ with_reducible_ cs h => by rw [k60_openM h]; exact k60_mkM _ _ _ with_reducible_
theorem infoEnd : (Try.prog.info? 60).map (fun i => (i.zero, i.size, i.bytes)) = some (some (.agg #[.int .i64 0, .int .i64 0, .int .i64 0]), 3, 24) := by kernel_rfl
def endV (es : List S60) (kind where_ weight : Int) : List S60 := if weight > 0 then es ++ [⟨kind, where_, weight⟩] else es
theorem k65_flat : Flat k65 := fun _ _ _ _ _ _ with_reducible_ cs h => by rw [k65_openM h]; exact k65_mkM _ _ _ with_reducible_
theorem infoVisit : (Try.prog.info? 65).map (fun i => (i.zero, i.size, i.bytes)) = some (some (.agg #[.int .i64 0, .int .i64 0, .int .i64 0]), 3, 24) := by kernel_rfl
theorem endV_len (es : List S60) (a b c : Int) : (endV es a b c).length ≤ es.length + 1 := by
 unfold endV; split <;> simp

-- NOT PRINTED: function 76 (impl_cellTyped)

open Go.Proofs.Ytefbfeaeifbjeaa.HandA
/-! ### impl_CellOk: function 60 -/
def impl_CellOk.f (a0_0 : Int) (a0_1 : Int) : Option (Bool) := some (CellA.ctOk a0_0 a0_1)
theorem impl_CellOk.calls (a0_0 : Int) (a0_1 : Int) (r : Bool) (w : World) (h : impl_CellOk.f a0_0 a0_1 = some r) :
  Calls Try.prog 60 #[.agg #[.int .i64 a0_0, .int .i64 a0_1]] w fun e w' => e = .returned (.bool r) ∧ Below w.heap.size w w' := by
 obtain rfl := Option.some.inj h
 exact CellA.cellOk_any a0_0 a0_1 w

end Go.Proofs.Ytefbfeaeifbjeaa.PFnTrailDim
--slim
