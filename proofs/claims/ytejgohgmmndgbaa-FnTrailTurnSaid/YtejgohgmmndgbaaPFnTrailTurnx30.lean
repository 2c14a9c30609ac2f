-- Written by a program of this session: the kit's print, with functions among it that were proved by hand.
import Derived.Test.YtejgohgmmndgbaaPFnTrailTurnx0
namespace Go.Proofs.Ytejgohgmmndgbaa.PFnTrailTurn
open Go.RowKit Go.Proofs.YtejgohgmmndgbaaW.PrintWords Go.Proofs.YtejgohgmmndgbaaW.PrintLast Go.Proofs.YtejgohgmmndgbaaW.PrintMore
attribute [local go_sem] max2_int min2_int max_two min_two max_three min_three max_four min_four   -- for this text's walks alone
set_option linter.unusedVariables false
set_option linter.unusedSimpArgs false

open Go.Proofs.Ytejgohgmmndgbaa.HandA
/-! ### impl_cellSwapped: function 79 -/
def swpK (k : Int) : Int := if k = 2 then 3 else if k = 3 then 2 else if k = 4 then 5 else if k = 5 then 4 else k
set_option maxHeartbeats 8000000 in
set_option maxRecDepth 100000 in
theorem kind_0 (w : World) : Calls Try.prog 145 #[.agg #[]] w fun e w' => e = .returned (.int .i64 0) ∧ Below w.heap.size w w' := by
 go_enter Try.func145, Try.ntmps145
 go_wp2
 go_ret
 exact ⟨rfl, zq35⟩
set_option maxHeartbeats 8000000 in
set_option maxRecDepth 100000 in
theorem kind_1 (w : World) : Calls Try.prog 146 #[.agg #[]] w fun e w' => e = .returned (.int .i64 1) ∧ Below w.heap.size w w' := by
 go_enter Try.func146, Try.ntmps146
 go_wp2
 go_ret
 exact ⟨rfl, zq35⟩
set_option maxHeartbeats 8000000 in
set_option maxRecDepth 100000 in
theorem kind_6 (w : World) : Calls Try.prog 151 #[.agg #[]] w fun e w' => e = .returned (.int .i64 6) ∧ Below w.heap.size w w' := by
 go_enter Try.func151, Try.ntmps151
 go_wp2
 go_ret
 exact ⟨rfl, zq35⟩
set_option maxHeartbeats 8000000 in
set_option maxRecDepth 100000 in
theorem swapped_0 (w : World) : Calls Try.prog 79 #[.iface 129 (.agg #[])] w fun e w' => e = .returned (.agg #[.int .i64 0, .int .i64 0]) ∧ Below w.heap.size w w' := by
 go_enter Try.func79, Try.ntmps79
 have ta0 : ∀ w_, (Instr.typeAssert (.iface 129 (.agg #[])) 105 131 true).run Try.prog w_ = .ok (.tuple #[.agg #[], .bool false]) w_ := fun _ => zq6
 have ta1 : ∀ w_, (Instr.typeAssert (.iface 129 (.agg #[])) 105 132 true).run Try.prog w_ = .ok (.tuple #[.agg #[], .bool false]) w_ := fun _ => zq6
 have ta2 : ∀ w_, (Instr.typeAssert (.iface 129 (.agg #[])) 105 133 true).run Try.prog w_ = .ok (.tuple #[.agg #[], .bool false]) w_ := fun _ => zq6
 have ta3 : ∀ w_, (Instr.typeAssert (.iface 129 (.agg #[])) 105 134 true).run Try.prog w_ = .ok (.tuple #[.agg #[], .bool false]) w_ := fun _ => zq6
 have ta4 : ∀ w_, (Instr.typeAssert (.iface 129 (.agg #[])) 105 127 true).run Try.prog w_ = .ok (.tuple #[.agg #[.int .i64 0], .bool false]) w_ := fun _ => zq6
 have tm : ∀ w_, (method 282 129 (.agg #[]) "loop.example/lucarne/impl.kind").run Try.prog w_ = .ok (145, .agg #[]) w_ := fun _ => zq6
 go_wp2_with (go_at_call 145; refine (kind_0 _).mono ?_; rintro e w2 ⟨rfl, hb⟩; have bk : w2.heap[w.heap.size]? = some (.cells #[.int .i64 0, .int .i64 0] 57 (0, 0)) := kBe (by exact blk_new w _) hb; have m0 : w2.cell? ⟨w.heap.size, 0, none⟩ = some (.int .i64 0) := (kCe bk 0).trans rfl; have m1 : w2.cell? ⟨w.heap.size, 1, none⟩ = some (.int .i64 0) := (kCe bk 1).trans rfl; have f0 := kFr bk 0; have f1 := kFr bk 1; have bb : Below w.heap.size w w2 := ((Below.refl _ _).alloc (Nat.le_refl _) _).trans (hb.mono zq58))
 refine bodyPost_ret (results_cell_row rfl _ _ w.heap.size 57 #[.int .i64 0, .int .i64 0] (0, 0) _ rfl ?blk Try.underlying57 rfl zq6) rfl ?_
 case blk => exact blk_put (cs := #[.int .i64 0, .int .i64 0]) (blk_put (cs := #[.int .i64 0, .int .i64 0]) bk 0 _ rfl) 1 _ rfl
 exact ⟨rfl, zq75⟩
set_option maxHeartbeats 8000000 in
set_option maxRecDepth 100000 in
theorem swapped_1 (w : World) : Calls Try.prog 79 #[.iface 130 (.agg #[])] w fun e w' => e = .returned (.agg #[.int .i64 1, .int .i64 0]) ∧ Below w.heap.size w w' := by
 go_enter Try.func79, Try.ntmps79
 have ta0 : ∀ w_, (Instr.typeAssert (.iface 130 (.agg #[])) 105 131 true).run Try.prog w_ = .ok (.tuple #[.agg #[], .bool false]) w_ := fun _ => zq6
 have ta1 : ∀ w_, (Instr.typeAssert (.iface 130 (.agg #[])) 105 132 true).run Try.prog w_ = .ok (.tuple #[.agg #[], .bool false]) w_ := fun _ => zq6
 have ta2 : ∀ w_, (Instr.typeAssert (.iface 130 (.agg #[])) 105 133 true).run Try.prog w_ = .ok (.tuple #[.agg #[], .bool false]) w_ := fun _ => zq6
 have ta3 : ∀ w_, (Instr.typeAssert (.iface 130 (.agg #[])) 105 134 true).run Try.prog w_ = .ok (.tuple #[.agg #[], .bool false]) w_ := fun _ => zq6
 have ta4 : ∀ w_, (Instr.typeAssert (.iface 130 (.agg #[])) 105 127 true).run Try.prog w_ = .ok (.tuple #[.agg #[.int .i64 0], .bool false]) w_ := fun _ => zq6
 have tm : ∀ w_, (method 282 130 (.agg #[]) "loop.example/lucarne/impl.kind").run Try.prog w_ = .ok (146, .agg #[]) w_ := fun _ => zq6
 go_wp2_with (go_at_call 146; refine (kind_1 _).mono ?_; rintro e w2 ⟨rfl, hb⟩; have bk : w2.heap[w.heap.size]? = some (.cells #[.int .i64 0, .int .i64 0] 57 (0, 0)) := kBe (by exact blk_new w _) hb; have m0 : w2.cell? ⟨w.heap.size, 0, none⟩ = some (.int .i64 0) := (kCe bk 0).trans rfl; have m1 : w2.cell? ⟨w.heap.size, 1, none⟩ = some (.int .i64 0) := (kCe bk 1).trans rfl; have f0 := kFr bk 0; have f1 := kFr bk 1; have bb : Below w.heap.size w w2 := ((Below.refl _ _).alloc (Nat.le_refl _) _).trans (hb.mono zq58))
 refine bodyPost_ret (results_cell_row rfl _ _ w.heap.size 57 #[.int .i64 1, .int .i64 0] (0, 0) _ rfl ?blk Try.underlying57 rfl zq6) rfl ?_
 case blk => exact blk_put (cs := #[.int .i64 1, .int .i64 0]) (blk_put (cs := #[.int .i64 0, .int .i64 0]) bk 0 _ rfl) 1 _ rfl
 exact ⟨rfl, zq75⟩
set_option maxHeartbeats 8000000 in
set_option maxRecDepth 100000 in
theorem swapped_2 (w : World) : Calls Try.prog 79 #[.iface 131 (.agg #[])] w fun e w' => e = .returned (.agg #[.int .i64 3, .int .i64 0]) ∧ Below w.heap.size w w' := by
 go_enter Try.func79, Try.ntmps79
 have ta0 : ∀ w_, (Instr.typeAssert (.iface 131 (.agg #[])) 105 131 true).run Try.prog w_ = .ok (.tuple #[.agg #[], .bool true]) w_ := fun _ => zq6
 go_wp2
 refine bodyPost_ret (results_cell_row rfl _ _ w.heap.size 57 #[.int .i64 3, .int .i64 0] (0, 0) _ rfl ?blk Try.underlying57 rfl zq6) rfl ?_
 case blk => repeat (first | exact blk_new _ _ | exact bk | refine kAl ?_ _)
 exact ⟨rfl, zq35⟩
set_option maxHeartbeats 8000000 in
set_option maxRecDepth 100000 in
theorem swapped_3 (w : World) : Calls Try.prog 79 #[.iface 132 (.agg #[])] w fun e w' => e = .returned (.agg #[.int .i64 2, .int .i64 0]) ∧ Below w.heap.size w w' := by
 go_enter Try.func79, Try.ntmps79
 have ta0 : ∀ w_, (Instr.typeAssert (.iface 132 (.agg #[])) 105 131 true).run Try.prog w_ = .ok (.tuple #[.agg #[], .bool false]) w_ := fun _ => zq6
 have ta1 : ∀ w_, (Instr.typeAssert (.iface 132 (.agg #[])) 105 132 true).run Try.prog w_ = .ok (.tuple #[.agg #[], .bool true]) w_ := fun _ => zq6
 go_wp2
 refine bodyPost_ret (results_cell_row rfl _ _ w.heap.size 57 #[.int .i64 2, .int .i64 0] (0, 0) _ rfl ?blk Try.underlying57 rfl zq6) rfl ?_
 case blk => repeat (first | exact blk_new _ _ | exact bk | refine kAl ?_ _)
 exact ⟨rfl, zq35⟩
set_option maxHeartbeats 8000000 in
set_option maxRecDepth 100000 in
theorem swapped_4 (w : World) : Calls Try.prog 79 #[.iface 133 (.agg #[])] w fun e w' => e = .returned (.agg #[.int .i64 5, .int .i64 0]) ∧ Below w.heap.size w w' := by
 go_enter Try.func79, Try.ntmps79
 have ta0 : ∀ w_, (Instr.typeAssert (.iface 133 (.agg #[])) 105 131 true).run Try.prog w_ = .ok (.tuple #[.agg #[], .bool false]) w_ := fun _ => zq6
 have ta1 : ∀ w_, (Instr.typeAssert (.iface 133 (.agg #[])) 105 132 true).run Try.prog w_ = .ok (.tuple #[.agg #[], .bool false]) w_ := fun _ => zq6
 have ta2 : ∀ w_, (Instr.typeAssert (.iface 133 (.agg #[])) 105 133 true).run Try.prog w_ = .ok (.tuple #[.agg #[], .bool true]) w_ := fun _ => zq6
 go_wp2
 refine bodyPost_ret (results_cell_row rfl _ _ w.heap.size 57 #[.int .i64 5, .int .i64 0] (0, 0) _ rfl ?blk Try.underlying57 rfl zq6) rfl ?_
 case blk => repeat (first | exact blk_new _ _ | exact bk | refine kAl ?_ _)
 exact ⟨rfl, zq35⟩
set_option maxHeartbeats 8000000 in
set_option maxRecDepth 100000 in
theorem swapped_5 (w : World) : Calls Try.prog 79 #[.iface 134 (.agg #[])] w fun e w' => e = .returned (.agg #[.int .i64 4, .int .i64 0]) ∧ Below w.heap.size w w' := by
 go_enter Try.func79, Try.ntmps79
 have ta0 : ∀ w_, (Instr.typeAssert (.iface 134 (.agg #[])) 105 131 true).run Try.prog w_ = .ok (.tuple #[.agg #[], .bool false]) w_ := fun _ => zq6
 have ta1 : ∀ w_, (Instr.typeAssert (.iface 134 (.agg #[])) 105 132 true).run Try.prog w_ = .ok (.tuple #[.agg #[], .bool false]) w_ := fun _ => zq6
 have ta2 : ∀ w_, (Instr.typeAssert (.iface 134 (.agg #[])) 105 133 true).run Try.prog w_ = .ok (.tuple #[.agg #[], .bool false]) w_ := fun _ => zq6
 have ta3 : ∀ w_, (Instr.typeAssert (.iface 134 (.agg #[])) 105 134 true).run Try.prog w_ = .ok (.tuple #[.agg #[], .bool true]) w_ := fun _ => zq6
 go_wp2
 refine bodyPost_ret (results_cell_row rfl _ _ w.heap.size 57 #[.int .i64 4, .int .i64 0] (0, 0) _ rfl ?blk Try.underlying57 rfl zq6) rfl ?_
 case blk => repeat (first | exact blk_new _ _ | exact bk | refine kAl ?_ _)
 exact ⟨rfl, zq35⟩
set_option maxHeartbeats 8000000 in
set_option maxRecDepth 100000 in
theorem swapped_6 (w : World) : Calls Try.prog 79 #[.iface 135 (.agg #[])] w fun e w' => e = .returned (.agg #[.int .i64 6, .int .i64 0]) ∧ Below w.heap.size w w' := by
 go_enter Try.func79, Try.ntmps79
 have ta0 : ∀ w_, (Instr.typeAssert (.iface 135 (.agg #[])) 105 131 true).run Try.prog w_ = .ok (.tuple #[.agg #[], .bool false]) w_ := fun _ => zq6
 have ta1 : ∀ w_, (Instr.typeAssert (.iface 135 (.agg #[])) 105 132 true).run Try.prog w_ = .ok (.tuple #[.agg #[], .bool false]) w_ := fun _ => zq6
 have ta2 : ∀ w_, (Instr.typeAssert (.iface 135 (.agg #[])) 105 133 true).run Try.prog w_ = .ok (.tuple #[.agg #[], .bool false]) w_ := fun _ => zq6
 have ta3 : ∀ w_, (Instr.typeAssert (.iface 135 (.agg #[])) 105 134 true).run Try.prog w_ = .ok (.tuple #[.agg #[], .bool false]) w_ := fun _ => zq6
 have ta4 : ∀ w_, (Instr.typeAssert (.iface 135 (.agg #[])) 105 127 true).run Try.prog w_ = .ok (.tuple #[.agg #[.int .i64 0], .bool false]) w_ := fun _ => zq6
 have tm : ∀ w_, (method 282 135 (.agg #[]) "loop.example/lucarne/impl.kind").run Try.prog w_ = .ok (151, .agg #[]) w_ := fun _ => zq6
 go_wp2_with (go_at_call 151; refine (kind_6 _).mono ?_; rintro e w2 ⟨rfl, hb⟩; have bk : w2.heap[w.heap.size]? = some (.cells #[.int .i64 0, .int .i64 0] 57 (0, 0)) := kBe (by exact blk_new w _) hb; have m0 : w2.cell? ⟨w.heap.size, 0, none⟩ = some (.int .i64 0) := (kCe bk 0).trans rfl; have m1 : w2.cell? ⟨w.heap.size, 1, none⟩ = some (.int .i64 0) := (kCe bk 1).trans rfl; have f0 := kFr bk 0; have f1 := kFr bk 1; have bb : Below w.heap.size w w2 := ((Below.refl _ _).alloc (Nat.le_refl _) _).trans (hb.mono zq58))
 refine bodyPost_ret (results_cell_row rfl _ _ w.heap.size 57 #[.int .i64 6, .int .i64 0] (0, 0) _ rfl ?blk Try.underlying57 rfl zq6) rfl ?_
 case blk => exact blk_put (cs := #[.int .i64 6, .int .i64 0]) (blk_put (cs := #[.int .i64 0, .int .i64 0]) bk 0 _ rfl) 1 _ rfl
 exact ⟨rfl, zq75⟩
set_option maxHeartbeats 8000000 in
set_option maxRecDepth 100000 in
theorem swapped_7 (l : Int) (w : World) : Calls Try.prog 79 #[.iface 127 (.agg #[.int .i64 l])] w fun e w' => e = .returned (.agg #[.int .i64 7, .int .i64 l]) ∧ Below w.heap.size w w' := by
 go_enter Try.func79, Try.ntmps79
 have ta0 : ∀ w_, (Instr.typeAssert (.iface 127 (.agg #[.int .i64 l])) 105 131 true).run Try.prog w_ = .ok (.tuple #[.agg #[], .bool false]) w_ := fun _ => zq6
 have ta1 : ∀ w_, (Instr.typeAssert (.iface 127 (.agg #[.int .i64 l])) 105 132 true).run Try.prog w_ = .ok (.tuple #[.agg #[], .bool false]) w_ := fun _ => zq6
 have ta2 : ∀ w_, (Instr.typeAssert (.iface 127 (.agg #[.int .i64 l])) 105 133 true).run Try.prog w_ = .ok (.tuple #[.agg #[], .bool false]) w_ := fun _ => zq6
 have ta3 : ∀ w_, (Instr.typeAssert (.iface 127 (.agg #[.int .i64 l])) 105 134 true).run Try.prog w_ = .ok (.tuple #[.agg #[], .bool false]) w_ := fun _ => zq6
 have ta4 : ∀ w_, (Instr.typeAssert (.iface 127 (.agg #[.int .i64 l])) 105 127 true).run Try.prog w_ = .ok (.tuple #[.agg #[.int .i64 l], .bool true]) w_ := fun _ => zq6
 go_wp2
 refine bodyPost_ret (results_cell_row rfl _ _ w.heap.size 57 #[.int .i64 7, .int .i64 l] (0, 0) _ rfl ?blk Try.underlying57 rfl zq6) rfl ?_
 case blk => repeat (first | exact blk_new _ _ | exact bk | refine kAl ?_ _)
 exact ⟨rfl, zq35⟩
/-- impl.cellSwapped: every cell that is ok. -/
theorem swapped_any {k l : Int} (h : (k = 7 ∧ 1 ≤ l ∧ l ≤ 9) ∨ (0 ≤ k ∧ k ≤ 6 ∧ l = 0)) (w : World) : Calls Try.prog 79 #[CellA.ctV k l] w fun e w' => e = .returned (.agg #[.int .i64 (swpK k), .int .i64 l]) ∧ Below w.heap.size w w' := by
 rcases h with ⟨rfl, _⟩ | ⟨h0, h1, rfl⟩
 ·exact swapped_7 l w
 ·have c : k = 0 ∨ k = 1 ∨ k = 2 ∨ k = 3 ∨ k = 4 ∨ k = 5 ∨ k = 6 := by omega
  rcases c with rfl | rfl | rfl | rfl | rfl | rfl | rfl
  ·exact swapped_0 w
  ·exact swapped_1 w
  ·exact swapped_2 w
  ·exact swapped_3 w
  ·exact swapped_4 w
  ·exact swapped_5 w
  ·exact swapped_6 w


open Go.Proofs.Ytejgohgmmndgbaa.HandA
/-! ### where a cell of a turned, or flipped, grid comes from -/
theorem mf_w64 {x : Int} (h : -9223372036854775808 ≤ x) (h' : x ≤ 9223372036854775807) : wrap64 x = x := by unfold wrap64; omega
theorem mf_mul {a b : Int} (a0 : 0 ≤ a) (a1 : a ≤ 5) (b0 : 0 ≤ b) (b1 : b ≤ 5) : 0 ≤ a * b ∧ a * b ≤ 25 :=
 ⟨Int.mul_nonneg a0 b0, by have h1 := Int.mul_le_mul a1 b1 b0 (by omega : (0 : Int) ≤ 5); omega⟩
set_option maxHeartbeats 8000000 in
set_option maxRecDepth 100000 in
theorem from_T (w h row col : Int) (hb gb : Nat) (W : World) (e1 : W.cell? ⟨hb, 0, none⟩ = some (.int .i64 h)) (e2 : W.cell? ⟨gb, 0, none⟩ = some (.int .i64 w)) (w1 : 1 ≤ w) (w5 : w ≤ 5) (h5 : h ≤ 5) (r0 : 0 ≤ row) (r1 : row < w) (c0 : 0 ≤ col) (c1 : col < h) :
  Calls Try.prog 51 #[.int .i64 row, .int .i64 col, .pointer (some ⟨hb, 0, none⟩), .pointer (some ⟨gb, 0, none⟩)] W fun e W' => e = .returned (.int .i64 ((h - 1 - col) * w + row)) ∧ W' = W := by
 have m := mf_mul (a := h - 1 - col) (b := w) zq37 zq37 zq37 w5
 go_enter Try.func51, Try.ntmps51
 go_wp2
 go_ret
 exact ⟨rfl, rfl⟩
set_option maxHeartbeats 8000000 in
set_option maxRecDepth 100000 in
theorem from_F (w h row col : Int) (gb : Nat) (W : World) (e2 : W.cell? ⟨gb, 0, none⟩ = some (.int .i64 w)) (w1 : 1 ≤ w) (w5 : w ≤ 5) (h5 : h ≤ 5) (r0 : 0 ≤ row) (r1 : row < h) (c0 : 0 ≤ col) (c1 : col < w) :
  Calls Try.prog 53 #[.int .i64 row, .int .i64 col, .pointer (some ⟨gb, 0, none⟩)] W fun e W' => e = .returned (.int .i64 (row * w + w - 1 - col)) ∧ W' = W := by
 have m := mf_mul (a := row) (b := w) r0 zq37 zq37 w5
 go_enter Try.func53, Try.ntmps53
 go_wp2
 go_ret
 exact ⟨rfl, rfl⟩


open Go.Proofs.Ytejgohgmmndgbaa.HandA
/-! ### cells are flat -/
theorem k57_flat : Flat k57 := fun _ _ _ _ _ _ x cs h => by rw [k57_openM h]; exact k57_mkM _ _ _ x
theorem infoCell : (Try.prog.info? 57).map (fun i => (i.zero, i.size, i.bytes)) = some (some (.agg #[.int .i64 0, .int .i64 0]), 2, 16) := by kernel_rfl

end Go.Proofs.Ytejgohgmmndgbaa.PFnTrailTurn
--slim
