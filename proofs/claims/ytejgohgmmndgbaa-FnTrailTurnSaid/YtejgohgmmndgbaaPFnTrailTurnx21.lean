-- Written by a program of this session: the kit's print, with functions among it that were proved by hand.
import Derived.Test.YtejgohgmmndgbaaPFnTrailTurnx0
namespace Go.Proofs.Ytejgohgmmndgbaa.PFnTrailTurn
open Go.RowKit Go.Proofs.YtejgohgmmndgbaaW.PrintWords Go.Proofs.YtejgohgmmndgbaaW.PrintLast Go.Proofs.YtejgohgmmndgbaaW.PrintMore
attribute [local go_sem] max2_int min2_int max_two min_two max_three min_three max_four min_four   -- for this text's walks alone
set_option linter.unusedVariables false
set_option linter.unusedSimpArgs false

open Go.Proofs.Ytejgohgmmndgbaa.HandA
/-! ### impl_spreadOf: function 71 -/
def spreadV (k x : Int) : Int × Int × Int × Int :=
 if k = 0 then (x, 0, 0, 0) else if k = 1 ∨ k = 7 then (0, 0, 0, x) else if k = 2 ∨ k = 3 then (0, x, 0, 0) else if k = 4 ∨ k = 5 then (x / 2, x / 2, x - x / 2 - x / 2, 0) else (x / 2, 0, x - x / 2, 0)
def impl_spreadOf.f (a0 : Int) (a1 : Int) : Option (Int × Int × Int × Int) := if 0 ≤ a0 ∧ a0 ≤ 7 ∧ 0 ≤ a1 ∧ a1 ≤ 1000 then some (spreadV a0 a1) else none
set_option maxHeartbeats 4000000 in
set_option maxRecDepth 100000 in
theorem spread_0 (x : Int) (h0 : 0 ≤ x) (h1 : x ≤ 1000) (w : World) : Calls Try.prog 71 #[.int .i64 0, .int .i64 x] w fun e w' => e = .returned (.agg #[.int .i64 x, .int .i64 0, .int .i64 0, .int .i64 0]) ∧ Below w.heap.size w w' := by
 go_enter Try.func71, Try.ntmps71
 go_wp2
 refine bodyPost_ret (v := .agg #[.int .i64 x, .int .i64 0, .int .i64 0, .int .i64 0]) (by simp [results, Try.results88, go_sem]) rfl ?_
 go_wp2
 refine bodyPost_ret (v := .agg #[.int .i64 x, .int .i64 0, .int .i64 0, .int .i64 0]) zq88 rfl ⟨rfl, ?_⟩
 repeat (first | exact Below.refl _ _ | refine Below.drew ?_ | refine Below.setCell ?_ zq5 _ | refine Below.alloc ?_ zq5 _)
set_option maxHeartbeats 4000000 in
set_option maxRecDepth 100000 in
theorem spread_1 (x : Int) (h0 : 0 ≤ x) (h1 : x ≤ 1000) (w : World) : Calls Try.prog 71 #[.int .i64 1, .int .i64 x] w fun e w' => e = .returned (.agg #[.int .i64 0, .int .i64 0, .int .i64 0, .int .i64 x]) ∧ Below w.heap.size w w' := by
 go_enter Try.func71, Try.ntmps71
 go_wp2
 refine bodyPost_ret (v := .agg #[.int .i64 0, .int .i64 0, .int .i64 0, .int .i64 x]) (by simp [results, Try.results90, go_sem]) rfl ?_
 go_wp2
 refine bodyPost_ret (v := .agg #[.int .i64 0, .int .i64 0, .int .i64 0, .int .i64 x]) zq88 rfl ⟨rfl, ?_⟩
 repeat (first | exact Below.refl _ _ | refine Below.drew ?_ | refine Below.setCell ?_ zq5 _ | refine Below.alloc ?_ zq5 _)
set_option maxHeartbeats 4000000 in
set_option maxRecDepth 100000 in
theorem spread_2 (x : Int) (h0 : 0 ≤ x) (h1 : x ≤ 1000) (w : World) : Calls Try.prog 71 #[.int .i64 2, .int .i64 x] w fun e w' => e = .returned (.agg #[.int .i64 0, .int .i64 x, .int .i64 0, .int .i64 0]) ∧ Below w.heap.size w w' := by
 go_enter Try.func71, Try.ntmps71
 go_wp2
 refine bodyPost_ret (v := .agg #[.int .i64 0, .int .i64 x, .int .i64 0, .int .i64 0]) (by simp [results, Try.results89, go_sem]) rfl ?_
 go_wp2
 refine bodyPost_ret (v := .agg #[.int .i64 0, .int .i64 x, .int .i64 0, .int .i64 0]) zq88 rfl ⟨rfl, ?_⟩
 repeat (first | exact Below.refl _ _ | refine Below.drew ?_ | refine Below.setCell ?_ zq5 _ | refine Below.alloc ?_ zq5 _)
set_option maxHeartbeats 4000000 in
set_option maxRecDepth 100000 in
theorem spread_3 (x : Int) (h0 : 0 ≤ x) (h1 : x ≤ 1000) (w : World) : Calls Try.prog 71 #[.int .i64 3, .int .i64 x] w fun e w' => e = .returned (.agg #[.int .i64 0, .int .i64 x, .int .i64 0, .int .i64 0]) ∧ Below w.heap.size w w' := by
 go_enter Try.func71, Try.ntmps71
 go_wp2
 refine bodyPost_ret (v := .agg #[.int .i64 0, .int .i64 x, .int .i64 0, .int .i64 0]) (by simp [results, Try.results89, go_sem]) rfl ?_
 go_wp2
 refine bodyPost_ret (v := .agg #[.int .i64 0, .int .i64 x, .int .i64 0, .int .i64 0]) zq88 rfl ⟨rfl, ?_⟩
 repeat (first | exact Below.refl _ _ | refine Below.drew ?_ | refine Below.setCell ?_ zq5 _ | refine Below.alloc ?_ zq5 _)
set_option maxHeartbeats 4000000 in
set_option maxRecDepth 100000 in
theorem spread_4 (x : Int) (h0 : 0 ≤ x) (h1 : x ≤ 1000) (w : World) : Calls Try.prog 71 #[.int .i64 4, .int .i64 x] w fun e w' => e = .returned (.agg #[.int .i64 (x / 2), .int .i64 (x / 2), .int .i64 (x - x / 2 - x / 2), .int .i64 0]) ∧ Below w.heap.size w w' := by
 go_enter Try.func71, Try.ntmps71
 go_wp2
 refine bodyPost_ret (v := .agg #[.int .i64 (x / 2), .int .i64 (x / 2), .int .i64 (x - x / 2 - x / 2), .int .i64 0]) (by simp [results, Try.results91, go_sem]) rfl ?_
 go_wp2
 refine bodyPost_ret (v := .agg #[.int .i64 (x / 2), .int .i64 (x / 2), .int .i64 (x - x / 2 - x / 2), .int .i64 0]) zq88 rfl ⟨rfl, ?_⟩
 repeat (first | exact Below.refl _ _ | refine Below.drew ?_ | refine Below.setCell ?_ zq5 _ | refine Below.alloc ?_ zq5 _)
set_option maxHeartbeats 4000000 in
set_option maxRecDepth 100000 in
theorem spread_5 (x : Int) (h0 : 0 ≤ x) (h1 : x ≤ 1000) (w : World) : Calls Try.prog 71 #[.int .i64 5, .int .i64 x] w fun e w' => e = .returned (.agg #[.int .i64 (x / 2), .int .i64 (x / 2), .int .i64 (x - x / 2 - x / 2), .int .i64 0]) ∧ Below w.heap.size w w' := by
 go_enter Try.func71, Try.ntmps71
 go_wp2
 refine bodyPost_ret (v := .agg #[.int .i64 (x / 2), .int .i64 (x / 2), .int .i64 (x - x / 2 - x / 2), .int .i64 0]) (by simp [results, Try.results91, go_sem]) rfl ?_
 go_wp2
 refine bodyPost_ret (v := .agg #[.int .i64 (x / 2), .int .i64 (x / 2), .int .i64 (x - x / 2 - x / 2), .int .i64 0]) zq88 rfl ⟨rfl, ?_⟩
 repeat (first | exact Below.refl _ _ | refine Below.drew ?_ | refine Below.setCell ?_ zq5 _ | refine Below.alloc ?_ zq5 _)
set_option maxHeartbeats 4000000 in
set_option maxRecDepth 100000 in
theorem spread_6 (x : Int) (h0 : 0 ≤ x) (h1 : x ≤ 1000) (w : World) : Calls Try.prog 71 #[.int .i64 6, .int .i64 x] w fun e w' => e = .returned (.agg #[.int .i64 (x / 2), .int .i64 0, .int .i64 (x - x / 2), .int .i64 0]) ∧ Below w.heap.size w w' := by
 go_enter Try.func71, Try.ntmps71
 go_wp2
 refine bodyPost_ret (v := .agg #[.int .i64 (x / 2), .int .i64 0, .int .i64 (x - x / 2), .int .i64 0]) (by simp [results, Try.results92, go_sem]) rfl ?_
 go_wp2
 refine bodyPost_ret (v := .agg #[.int .i64 (x / 2), .int .i64 0, .int .i64 (x - x / 2), .int .i64 0]) zq88 rfl ⟨rfl, ?_⟩
 repeat (first | exact Below.refl _ _ | refine Below.drew ?_ | refine Below.setCell ?_ zq5 _ | refine Below.alloc ?_ zq5 _)
set_option maxHeartbeats 4000000 in
set_option maxRecDepth 100000 in
theorem spread_7 (x : Int) (h0 : 0 ≤ x) (h1 : x ≤ 1000) (w : World) : Calls Try.prog 71 #[.int .i64 7, .int .i64 x] w fun e w' => e = .returned (.agg #[.int .i64 0, .int .i64 0, .int .i64 0, .int .i64 x]) ∧ Below w.heap.size w w' := by
 go_enter Try.func71, Try.ntmps71
 go_wp2
 refine bodyPost_ret (v := .agg #[.int .i64 0, .int .i64 0, .int .i64 0, .int .i64 x]) (by simp [results, Try.results90, go_sem]) rfl ?_
 go_wp2
 refine bodyPost_ret (v := .agg #[.int .i64 0, .int .i64 0, .int .i64 0, .int .i64 x]) zq88 rfl ⟨rfl, ?_⟩
 repeat (first | exact Below.refl _ _ | refine Below.drew ?_ | refine Below.setCell ?_ zq5 _ | refine Below.alloc ?_ zq5 _)
theorem impl_spreadOf.calls (a0 : Int) (a1 : Int) (r1 : Int) (r2 : Int) (r3 : Int) (r4 : Int) (w : World) (h : impl_spreadOf.f a0 a1 = some (r1, r2, r3, r4)) :
  Calls Try.prog 71 #[.int .i64 a0, .int .i64 a1] w fun e w' => e = .returned (.agg #[.int .i64 r1, .int .i64 r2, .int .i64 r3, .int .i64 r4]) ∧ Below w.heap.size w w' := by
 unfold impl_spreadOf.f at h
 by_cases hc : 0 ≤ a0 ∧ a0 ≤ 7 ∧ 0 ≤ a1 ∧ a1 ≤ 1000
 ·rw [if_pos hc] at h
  obtain ⟨g0, g7, g1, g2⟩ := hc
  have c : a0 = 0 ∨ a0 = 1 ∨ a0 = 2 ∨ a0 = 3 ∨ a0 = 4 ∨ a0 = 5 ∨ a0 = 6 ∨ a0 = 7 := by omega
  have h' := Option.some.inj h
  rcases c with rfl | rfl | rfl | rfl | rfl | rfl | rfl | rfl <;> (unfold spreadV at h'; simp at h'; obtain ⟨rfl, rfl, rfl, rfl⟩ := h')
  ·exact spread_0 _ g1 g2 w
  ·exact spread_1 _ g1 g2 w
  ·exact spread_2 _ g1 g2 w
  ·exact spread_3 _ g1 g2 w
  ·exact spread_4 _ g1 g2 w
  ·exact spread_5 _ g1 g2 w
  ·exact spread_6 _ g1 g2 w
  ·exact spread_7 _ g1 g2 w
 ·rw [if_neg hc] at h; cases h

open Go.Proofs.Ytejgohgmmndgbaa.HandA
/-! ### impl_rayStep: function 93 -/
set_option maxHeartbeats 4000000 in
set_option maxRecDepth 100000 in
theorem spot_up (w : Int) (A : Option Addr) (n c : Nat) (at_ : Int) (hw : 1 ≤ w) (hw' : w ≤ 1000) (hn : (n : Int) ≤ 10000) (h0 : 0 ≤ at_) (h1 : at_ ≤ 10000) (W : World) : Calls Try.prog 112 #[.agg #[.int .i64 w, .slice A n c, .int .i64 at_]] W fun e w' => e = .returned (.tuple #[.int .i64 (at_ - w), .bool (decide (w ≤ at_))]) ∧ Below W.heap.size W w' := by
 have hz : ¬ w = 0 := by omega
 have m0 : 0 ≤ at_ % w := Int.emod_nonneg _ zq37
 go_enter Try.func112, Try.ntmps112
 go_wp2
 go_quiet (fail)
 go_wp2
 go_ret2
 exact ⟨rfl, by repeat (first | exact Below.refl _ _ | refine bDN ?_ _ | refine Below.drew ?_ | refine Below.setCell ?_ zq5 _ | refine Below.alloc ?_ zq5 _)⟩
set_option maxHeartbeats 4000000 in
set_option maxRecDepth 100000 in
theorem spot_right (w : Int) (A : Option Addr) (n c : Nat) (at_ : Int) (hw : 1 ≤ w) (hw' : w ≤ 1000) (hn : (n : Int) ≤ 10000) (h0 : 0 ≤ at_) (h1 : at_ ≤ 10000) (W : World) : Calls Try.prog 113 #[.agg #[.int .i64 w, .slice A n c, .int .i64 at_]] W fun e w' => e = .returned (.tuple #[.int .i64 (at_ + 1), .bool (at_ % w != w - 1)]) ∧ Below W.heap.size W w' := by
 have hz : ¬ w = 0 := by omega
 have m0 : 0 ≤ at_ % w := Int.emod_nonneg _ zq37
 go_enter Try.func113, Try.ntmps113
 go_wp2
 go_quiet (fail)
 go_wp2
 go_ret2
 exact ⟨rfl, by repeat (first | exact Below.refl _ _ | refine bDN ?_ _ | refine Below.drew ?_ | refine Below.setCell ?_ zq5 _ | refine Below.alloc ?_ zq5 _)⟩
set_option maxHeartbeats 4000000 in
set_option maxRecDepth 100000 in
theorem spot_down (w : Int) (A : Option Addr) (n c : Nat) (at_ : Int) (hw : 1 ≤ w) (hw' : w ≤ 1000) (hn : (n : Int) ≤ 10000) (h0 : 0 ≤ at_) (h1 : at_ ≤ 10000) (W : World) : Calls Try.prog 114 #[.agg #[.int .i64 w, .slice A n c, .int .i64 at_]] W fun e w' => e = .returned (.tuple #[.int .i64 (at_ + w), .bool (decide (at_ + w < (n : Int)))]) ∧ Below W.heap.size W w' := by
 have hz : ¬ w = 0 := by omega
 have m0 : 0 ≤ at_ % w := Int.emod_nonneg _ zq37
 go_enter Try.func114, Try.ntmps114
 go_wp2
 go_quiet (fail)
 go_wp2
 go_ret2
 exact ⟨rfl, by repeat (first | exact Below.refl _ _ | refine bDN ?_ _ | refine Below.drew ?_ | refine Below.setCell ?_ zq5 _ | refine Below.alloc ?_ zq5 _)⟩
set_option maxHeartbeats 4000000 in
set_option maxRecDepth 100000 in
theorem spot_left (w : Int) (A : Option Addr) (n c : Nat) (at_ : Int) (hw : 1 ≤ w) (hw' : w ≤ 1000) (hn : (n : Int) ≤ 10000) (h0 : 0 ≤ at_) (h1 : at_ ≤ 10000) (W : World) : Calls Try.prog 115 #[.agg #[.int .i64 w, .slice A n c, .int .i64 at_]] W fun e w' => e = .returned (.tuple #[.int .i64 (at_ - 1), .bool (at_ % w != 0)]) ∧ Below W.heap.size W w' := by
 have hz : ¬ w = 0 := by omega
 have m0 : 0 ≤ at_ % w := Int.emod_nonneg _ zq37
 go_enter Try.func115, Try.ntmps115
 go_wp2
 go_quiet (fail)
 go_wp2
 go_ret2
 exact ⟨rfl, by repeat (first | exact Below.refl _ _ | refine bDN ?_ _ | refine Below.drew ?_ | refine Below.setCell ?_ zq5 _ | refine Below.alloc ?_ zq5 _)⟩
def impl_rayStep.f (a0_0 : Int) (l0_1 : List (S57)) (a1 : Int) (a2 : Int) : Option (Int × Int × Bool) :=
 if 1 ≤ a0_0 ∧ a0_0 ≤ 1000 ∧ (l0_1.length : Int) ≤ 10000 ∧ 0 ≤ a1 ∧ a1 ≤ 10000 then
  if a2 = 0 then (if a0_0 ≤ a1 then some (a1 - a0_0, 0, true) else some (0, 0, false))
  else if a2 = 1 then (if a1 % a0_0 ≠ a0_0 - 1 then some (a1 + 1, 1, true) else some (0, 0, false))
  else if a2 = 2 then (if a1 + a0_0 < (l0_1.length : Int) then some (a1 + a0_0, 2, true) else some (0, 0, false))
  else if a2 = 3 then (if a1 % a0_0 ≠ 0 then some (a1 - 1, 3, true) else some (0, 0, false))
  else none
 else none
set_option maxHeartbeats 4000000 in
set_option maxRecDepth 100000 in
theorem rayStep_up_true (w : Int) (A : Option Addr) (n c : Nat) (at_ : Int) (hw : 1 ≤ w) (hw' : w ≤ 1000) (hn : (n : Int) ≤ 10000) (h0 : 0 ≤ at_) (h1 : at_ ≤ 10000) (W : World) (hb : (decide (w ≤ at_)) = true) : Calls Try.prog 93 #[.agg #[.int .i64 w, .slice A n c], .int .i64 at_, .int .i64 0] W fun e w' => e = .returned (.tuple #[.agg #[.int .i64 (at_ - w), .int .i64 0], .bool true]) ∧ Below W.heap.size W w' := by
 go_enter Try.func93, Try.ntmps93
 go_wp2
 go_region_with (go_at_call 112; refine (spot_up w A n c at_ hw hw' hn h0 h1 _).mono ?_; rw [hb]; rintro e w' ⟨rfl, hbel⟩; have bk : w'.heap[W.heap.size + 1]? = some (.cells #[.int .i64 0, .int .i64 0] 92 (0, 0)) := kBe (by exact two_new W _ _ _) hbel; have c0 : w'.cell? ⟨W.heap.size + 1, 0, none⟩ = some (.int .i64 0) := (kCe bk 0).trans rfl; have c1 : w'.cell? ⟨W.heap.size + 1, 1, none⟩ = some (.int .i64 0) := (kCe bk 1).trans rfl; have f0 := kFr bk 0; have f1 := kFr bk 1; have bb : Below W.heap.size W w' := Below.trans zq41 (hbel.mono zq5))
 all_goals go_wp2
 all_goals refine bodyPost_ret (v := .tuple #[.agg #[.int .i64 (at_ - w), .int .i64 0], .bool true]) zq79 rfl ⟨rfl, ?_⟩
 all_goals (refine Below.setCell ?_ zq58 _; refine Below.setCell ?_ zq58 _; assumption)
set_option maxHeartbeats 4000000 in
set_option maxRecDepth 100000 in
theorem rayStep_up_false (w : Int) (A : Option Addr) (n c : Nat) (at_ : Int) (hw : 1 ≤ w) (hw' : w ≤ 1000) (hn : (n : Int) ≤ 10000) (h0 : 0 ≤ at_) (h1 : at_ ≤ 10000) (W : World) (hb : (decide (w ≤ at_)) = false) : Calls Try.prog 93 #[.agg #[.int .i64 w, .slice A n c], .int .i64 at_, .int .i64 0] W fun e w' => e = .returned (.tuple #[.agg #[.int .i64 0, .int .i64 0], .bool false]) ∧ Below W.heap.size W w' := by
 go_enter Try.func93, Try.ntmps93
 go_wp2
 go_region_with (go_at_call 112; refine (spot_up w A n c at_ hw hw' hn h0 h1 _).mono ?_; rw [hb]; rintro e w' ⟨rfl, hbel⟩; have bk : w'.heap[W.heap.size + 1]? = some (.cells #[.int .i64 0, .int .i64 0] 92 (0, 0)) := kBe (by exact two_new W _ _ _) hbel; have c0 : w'.cell? ⟨W.heap.size + 1, 0, none⟩ = some (.int .i64 0) := (kCe bk 0).trans rfl; have c1 : w'.cell? ⟨W.heap.size + 1, 1, none⟩ = some (.int .i64 0) := (kCe bk 1).trans rfl; have f0 := kFr bk 0; have f1 := kFr bk 1; have bb : Below W.heap.size W w' := Below.trans zq41 (hbel.mono zq5))
 all_goals go_wp2
 all_goals refine bodyPost_ret (v := .tuple #[.agg #[.int .i64 0, .int .i64 0], .bool false]) zq79 rfl ⟨rfl, ?_⟩
 all_goals (refine Below.setCell ?_ zq58 _; refine Below.setCell ?_ zq58 _; assumption)


open Go.Proofs.Ytejgohgmmndgbaa.HandA
set_option maxHeartbeats 4000000 in
set_option maxRecDepth 100000 in
theorem rayStep_right_true (w : Int) (A : Option Addr) (n c : Nat) (at_ : Int) (hw : 1 ≤ w) (hw' : w ≤ 1000) (hn : (n : Int) ≤ 10000) (h0 : 0 ≤ at_) (h1 : at_ ≤ 10000) (W : World) (hb : (at_ % w != w - 1) = true) : Calls Try.prog 93 #[.agg #[.int .i64 w, .slice A n c], .int .i64 at_, .int .i64 1] W fun e w' => e = .returned (.tuple #[.agg #[.int .i64 (at_ + 1), .int .i64 1], .bool true]) ∧ Below W.heap.size W w' := by
 go_enter Try.func93, Try.ntmps93
 go_wp2
 go_region_with (go_at_call 113; refine (spot_right w A n c at_ hw hw' hn h0 h1 _).mono ?_; rw [hb]; rintro e w' ⟨rfl, hbel⟩; have bk : w'.heap[W.heap.size + 1]? = some (.cells #[.int .i64 0, .int .i64 0] 92 (0, 0)) := kBe (by exact two_new W _ _ _) hbel; have c0 : w'.cell? ⟨W.heap.size + 1, 0, none⟩ = some (.int .i64 0) := (kCe bk 0).trans rfl; have c1 : w'.cell? ⟨W.heap.size + 1, 1, none⟩ = some (.int .i64 0) := (kCe bk 1).trans rfl; have f0 := kFr bk 0; have f1 := kFr bk 1; have bb : Below W.heap.size W w' := Below.trans zq41 (hbel.mono zq5))
 all_goals go_wp2
 all_goals refine bodyPost_ret (v := .tuple #[.agg #[.int .i64 (at_ + 1), .int .i64 1], .bool true]) zq79 rfl ⟨rfl, ?_⟩
 all_goals (refine Below.setCell ?_ zq58 _; refine Below.setCell ?_ zq58 _; assumption)
set_option maxHeartbeats 4000000 in
set_option maxRecDepth 100000 in
theorem rayStep_right_false (w : Int) (A : Option Addr) (n c : Nat) (at_ : Int) (hw : 1 ≤ w) (hw' : w ≤ 1000) (hn : (n : Int) ≤ 10000) (h0 : 0 ≤ at_) (h1 : at_ ≤ 10000) (W : World) (hb : (at_ % w != w - 1) = false) : Calls Try.prog 93 #[.agg #[.int .i64 w, .slice A n c], .int .i64 at_, .int .i64 1] W fun e w' => e = .returned (.tuple #[.agg #[.int .i64 0, .int .i64 0], .bool false]) ∧ Below W.heap.size W w' := by
 go_enter Try.func93, Try.ntmps93
 go_wp2
 go_region_with (go_at_call 113; refine (spot_right w A n c at_ hw hw' hn h0 h1 _).mono ?_; rw [hb]; rintro e w' ⟨rfl, hbel⟩; have bk : w'.heap[W.heap.size + 1]? = some (.cells #[.int .i64 0, .int .i64 0] 92 (0, 0)) := kBe (by exact two_new W _ _ _) hbel; have c0 : w'.cell? ⟨W.heap.size + 1, 0, none⟩ = some (.int .i64 0) := (kCe bk 0).trans rfl; have c1 : w'.cell? ⟨W.heap.size + 1, 1, none⟩ = some (.int .i64 0) := (kCe bk 1).trans rfl; have f0 := kFr bk 0; have f1 := kFr bk 1; have bb : Below W.heap.size W w' := Below.trans zq41 (hbel.mono zq5))
 all_goals go_wp2
 all_goals refine bodyPost_ret (v := .tuple #[.agg #[.int .i64 0, .int .i64 0], .bool false]) zq79 rfl ⟨rfl, ?_⟩
 all_goals (refine Below.setCell ?_ zq58 _; refine Below.setCell ?_ zq58 _; assumption)


open Go.Proofs.Ytejgohgmmndgbaa.HandA
set_option maxHeartbeats 4000000 in
set_option maxRecDepth 100000 in
theorem rayStep_down_true (w : Int) (A : Option Addr) (n c : Nat) (at_ : Int) (hw : 1 ≤ w) (hw' : w ≤ 1000) (hn : (n : Int) ≤ 10000) (h0 : 0 ≤ at_) (h1 : at_ ≤ 10000) (W : World) (hb : (decide (at_ + w < (n : Int))) = true) : Calls Try.prog 93 #[.agg #[.int .i64 w, .slice A n c], .int .i64 at_, .int .i64 2] W fun e w' => e = .returned (.tuple #[.agg #[.int .i64 (at_ + w), .int .i64 2], .bool true]) ∧ Below W.heap.size W w' := by
 go_enter Try.func93, Try.ntmps93
 go_wp2
 go_region_with (go_at_call 114; refine (spot_down w A n c at_ hw hw' hn h0 h1 _).mono ?_; rw [hb]; rintro e w' ⟨rfl, hbel⟩; have bk : w'.heap[W.heap.size + 1]? = some (.cells #[.int .i64 0, .int .i64 0] 92 (0, 0)) := kBe (by exact two_new W _ _ _) hbel; have c0 : w'.cell? ⟨W.heap.size + 1, 0, none⟩ = some (.int .i64 0) := (kCe bk 0).trans rfl; have c1 : w'.cell? ⟨W.heap.size + 1, 1, none⟩ = some (.int .i64 0) := (kCe bk 1).trans rfl; have f0 := kFr bk 0; have f1 := kFr bk 1; have bb : Below W.heap.size W w' := Below.trans zq41 (hbel.mono zq5))
 all_goals go_wp2
 all_goals refine bodyPost_ret (v := .tuple #[.agg #[.int .i64 (at_ + w), .int .i64 2], .bool true]) zq79 rfl ⟨rfl, ?_⟩
 all_goals (refine Below.setCell ?_ zq58 _; refine Below.setCell ?_ zq58 _; assumption)
set_option maxHeartbeats 4000000 in
set_option maxRecDepth 100000 in
theorem rayStep_down_false (w : Int) (A : Option Addr) (n c : Nat) (at_ : Int) (hw : 1 ≤ w) (hw' : w ≤ 1000) (hn : (n : Int) ≤ 10000) (h0 : 0 ≤ at_) (h1 : at_ ≤ 10000) (W : World) (hb : (decide (at_ + w < (n : Int))) = false) : Calls Try.prog 93 #[.agg #[.int .i64 w, .slice A n c], .int .i64 at_, .int .i64 2] W fun e w' => e = .returned (.tuple #[.agg #[.int .i64 0, .int .i64 0], .bool false]) ∧ Below W.heap.size W w' := by
 go_enter Try.func93, Try.ntmps93
 go_wp2
 go_region_with (go_at_call 114; refine (spot_down w A n c at_ hw hw' hn h0 h1 _).mono ?_; rw [hb]; rintro e w' ⟨rfl, hbel⟩; have bk : w'.heap[W.heap.size + 1]? = some (.cells #[.int .i64 0, .int .i64 0] 92 (0, 0)) := kBe (by exact two_new W _ _ _) hbel; have c0 : w'.cell? ⟨W.heap.size + 1, 0, none⟩ = some (.int .i64 0) := (kCe bk 0).trans rfl; have c1 : w'.cell? ⟨W.heap.size + 1, 1, none⟩ = some (.int .i64 0) := (kCe bk 1).trans rfl; have f0 := kFr bk 0; have f1 := kFr bk 1; have bb : Below W.heap.size W w' := Below.trans zq41 (hbel.mono zq5))
 all_goals go_wp2
 all_goals refine bodyPost_ret (v := .tuple #[.agg #[.int .i64 0, .int .i64 0], .bool false]) zq79 rfl ⟨rfl, ?_⟩
 all_goals (refine Below.setCell ?_ zq58 _; refine Below.setCell ?_ zq58 _; assumption)


open Go.Proofs.Ytejgohgmmndgbaa.HandA
set_option maxHeartbeats 4000000 in
set_option maxRecDepth 100000 in
theorem rayStep_left_true (w : Int) (A : Option Addr) (n c : Nat) (at_ : Int) (hw : 1 ≤ w) (hw' : w ≤ 1000) (hn : (n : Int) ≤ 10000) (h0 : 0 ≤ at_) (h1 : at_ ≤ 10000) (W : World) (hb : (at_ % w != 0) = true) : Calls Try.prog 93 #[.agg #[.int .i64 w, .slice A n c], .int .i64 at_, .int .i64 3] W fun e w' => e = .returned (.tuple #[.agg #[.int .i64 (at_ - 1), .int .i64 3], .bool true]) ∧ Below W.heap.size W w' := by
 go_enter Try.func93, Try.ntmps93
 go_wp2
 go_region_with (go_at_call 115; refine (spot_left w A n c at_ hw hw' hn h0 h1 _).mono ?_; rw [hb]; rintro e w' ⟨rfl, hbel⟩; have bk : w'.heap[W.heap.size + 1]? = some (.cells #[.int .i64 0, .int .i64 0] 92 (0, 0)) := kBe (by exact two_new W _ _ _) hbel; have c0 : w'.cell? ⟨W.heap.size + 1, 0, none⟩ = some (.int .i64 0) := (kCe bk 0).trans rfl; have c1 : w'.cell? ⟨W.heap.size + 1, 1, none⟩ = some (.int .i64 0) := (kCe bk 1).trans rfl; have f0 := kFr bk 0; have f1 := kFr bk 1; have bb : Below W.heap.size W w' := Below.trans zq41 (hbel.mono zq5))
 all_goals go_wp2
 all_goals refine bodyPost_ret (v := .tuple #[.agg #[.int .i64 (at_ - 1), .int .i64 3], .bool true]) zq79 rfl ⟨rfl, ?_⟩
 all_goals (refine Below.setCell ?_ zq58 _; refine Below.setCell ?_ zq58 _; assumption)
set_option maxHeartbeats 4000000 in
set_option maxRecDepth 100000 in
theorem rayStep_left_false (w : Int) (A : Option Addr) (n c : Nat) (at_ : Int) (hw : 1 ≤ w) (hw' : w ≤ 1000) (hn : (n : Int) ≤ 10000) (h0 : 0 ≤ at_) (h1 : at_ ≤ 10000) (W : World) (hb : (at_ % w != 0) = false) : Calls Try.prog 93 #[.agg #[.int .i64 w, .slice A n c], .int .i64 at_, .int .i64 3] W fun e w' => e = .returned (.tuple #[.agg #[.int .i64 0, .int .i64 0], .bool false]) ∧ Below W.heap.size W w' := by
 go_enter Try.func93, Try.ntmps93
 go_wp2
 go_region_with (go_at_call 115; refine (spot_left w A n c at_ hw hw' hn h0 h1 _).mono ?_; rw [hb]; rintro e w' ⟨rfl, hbel⟩; have bk : w'.heap[W.heap.size + 1]? = some (.cells #[.int .i64 0, .int .i64 0] 92 (0, 0)) := kBe (by exact two_new W _ _ _) hbel; have c0 : w'.cell? ⟨W.heap.size + 1, 0, none⟩ = some (.int .i64 0) := (kCe bk 0).trans rfl; have c1 : w'.cell? ⟨W.heap.size + 1, 1, none⟩ = some (.int .i64 0) := (kCe bk 1).trans rfl; have f0 := kFr bk 0; have f1 := kFr bk 1; have bb : Below W.heap.size W w' := Below.trans zq41 (hbel.mono zq5))
 all_goals go_wp2
 all_goals refine bodyPost_ret (v := .tuple #[.agg #[.int .i64 0, .int .i64 0], .bool false]) zq79 rfl ⟨rfl, ?_⟩
 all_goals (refine Below.setCell ?_ zq58 _; refine Below.setCell ?_ zq58 _; assumption)

end Go.Proofs.Ytejgohgmmndgbaa.PFnTrailTurn
--slim
