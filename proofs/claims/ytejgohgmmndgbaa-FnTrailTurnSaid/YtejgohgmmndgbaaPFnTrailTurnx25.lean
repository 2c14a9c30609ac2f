-- Written by a program of this session: the kit's print, with functions among it that were proved by hand.
import Derived.Test.YtejgohgmmndgbaaPFnTrailTurnx0
namespace Go.Proofs.Ytejgohgmmndgbaa.PFnTrailTurn
open Go.RowKit Go.Proofs.YtejgohgmmndgbaaW.PrintWords Go.Proofs.YtejgohgmmndgbaaW.PrintLast Go.Proofs.YtejgohgmmndgbaaW.PrintMore
attribute [local go_sem] max2_int min2_int max_two min_two max_three min_three max_four min_four   -- for this text's walks alone
set_option linter.unusedVariables false
set_option linter.unusedSimpArgs false

open Go.Proofs.Ytejgohgmmndgbaa.HandA
/-! ### impl_DirTurn: function 73 -/
def dirV (k d : Int) : Int := if d < 0 ∨ 3 < d then -1 else if k = 2 ∨ k = 4 then (if d = 0 then 1 else if d = 1 then 0 else if d = 2 then 3 else 2) else if k = 3 ∨ k = 5 then 3 - d else d
def impl_DirTurn.f (a0 : Int) (a1 : Int) : Option (Int) := some (dirV a0 a1)
theorem ixs : (∀ w, (Instr.index 125 (.agg #[.int .i64 1, .int .i64 0, .int .i64 3, .int .i64 2]) (.int .i64 0)).run Try.prog w = .ok (.int .i64 1) w) ∧ (∀ w, (Instr.index 125 (.agg #[.int .i64 1, .int .i64 0, .int .i64 3, .int .i64 2]) (.int .i64 1)).run Try.prog w = .ok (.int .i64 0) w) ∧ (∀ w, (Instr.index 125 (.agg #[.int .i64 1, .int .i64 0, .int .i64 3, .int .i64 2]) (.int .i64 2)).run Try.prog w = .ok (.int .i64 3) w) ∧ (∀ w, (Instr.index 125 (.agg #[.int .i64 1, .int .i64 0, .int .i64 3, .int .i64 2]) (.int .i64 3)).run Try.prog w = .ok (.int .i64 2) w) ∧ (∀ w, (Instr.index 125 (.agg #[.int .i64 3, .int .i64 2, .int .i64 1, .int .i64 0]) (.int .i64 0)).run Try.prog w = .ok (.int .i64 3) w) ∧ (∀ w, (Instr.index 125 (.agg #[.int .i64 3, .int .i64 2, .int .i64 1, .int .i64 0]) (.int .i64 1)).run Try.prog w = .ok (.int .i64 2) w) ∧ (∀ w, (Instr.index 125 (.agg #[.int .i64 3, .int .i64 2, .int .i64 1, .int .i64 0]) (.int .i64 2)).run Try.prog w = .ok (.int .i64 1) w) ∧ (∀ w, (Instr.index 125 (.agg #[.int .i64 3, .int .i64 2, .int .i64 1, .int .i64 0]) (.int .i64 3)).run Try.prog w = .ok (.int .i64 0) w) := ⟨fun _ => by kernel_rfl, fun _ => by kernel_rfl, fun _ => by kernel_rfl, fun _ => by kernel_rfl, fun _ => by kernel_rfl, fun _ => by kernel_rfl, fun _ => by kernel_rfl, fun _ => by kernel_rfl⟩
set_option maxHeartbeats 4000000 in
set_option maxRecDepth 100000 in
theorem dirTurn_lo (k d : Int) (h : decide (0 ≤ d) = false) (w : World) : Calls Try.prog 73 #[.int .i64 k, .int .i64 d] w fun e w' => e = .returned (.int .i64 (-1)) ∧ Drawn0 w w' := by
 obtain ⟨ix1_0, ix1_1, ix1_2, ix1_3, ix3_0, ix3_1, ix3_2, ix3_3⟩ := ixs
 go_enter Try.func73, Try.ntmps73
 go_wp2
 go_ret
 exact ⟨rfl, Drawn0.refl _⟩
set_option maxHeartbeats 4000000 in
set_option maxRecDepth 100000 in
theorem dirTurn_hi (k d : Int) (h0 : decide (0 ≤ d) = true) (h : decide (d ≤ 3) = false) (w : World) : Calls Try.prog 73 #[.int .i64 k, .int .i64 d] w fun e w' => e = .returned (.int .i64 (-1)) ∧ Drawn0 w w' := by
 obtain ⟨ix1_0, ix1_1, ix1_2, ix1_3, ix3_0, ix3_1, ix3_2, ix3_3⟩ := ixs
 go_enter Try.func73, Try.ntmps73
 go_wp2
 go_ret
 exact ⟨rfl, Drawn0.refl _⟩
set_option maxHeartbeats 4000000 in
set_option maxRecDepth 100000 in
theorem dirTurn_2_0  (w : World) : Calls Try.prog 73 #[.int .i64 2, .int .i64 0] w fun e w' => e = .returned (.int .i64 1) ∧ Drawn0 w w' := by
 obtain ⟨ix1_0, ix1_1, ix1_2, ix1_3, ix3_0, ix3_1, ix3_2, ix3_3⟩ := ixs
 go_enter Try.func73, Try.ntmps73
 go_wp2
 go_ret
 exact ⟨rfl, Drawn0.refl _⟩
set_option maxHeartbeats 4000000 in
set_option maxRecDepth 100000 in
theorem dirTurn_2_1  (w : World) : Calls Try.prog 73 #[.int .i64 2, .int .i64 1] w fun e w' => e = .returned (.int .i64 0) ∧ Drawn0 w w' := by
 obtain ⟨ix1_0, ix1_1, ix1_2, ix1_3, ix3_0, ix3_1, ix3_2, ix3_3⟩ := ixs
 go_enter Try.func73, Try.ntmps73
 go_wp2
 go_ret
 exact ⟨rfl, Drawn0.refl _⟩
set_option maxHeartbeats 4000000 in
set_option maxRecDepth 100000 in
theorem dirTurn_2_2  (w : World) : Calls Try.prog 73 #[.int .i64 2, .int .i64 2] w fun e w' => e = .returned (.int .i64 3) ∧ Drawn0 w w' := by
 obtain ⟨ix1_0, ix1_1, ix1_2, ix1_3, ix3_0, ix3_1, ix3_2, ix3_3⟩ := ixs
 go_enter Try.func73, Try.ntmps73
 go_wp2
 go_ret
 exact ⟨rfl, Drawn0.refl _⟩
set_option maxHeartbeats 4000000 in
set_option maxRecDepth 100000 in
theorem dirTurn_2_3  (w : World) : Calls Try.prog 73 #[.int .i64 2, .int .i64 3] w fun e w' => e = .returned (.int .i64 2) ∧ Drawn0 w w' := by
 obtain ⟨ix1_0, ix1_1, ix1_2, ix1_3, ix3_0, ix3_1, ix3_2, ix3_3⟩ := ixs
 go_enter Try.func73, Try.ntmps73
 go_wp2
 go_ret
 exact ⟨rfl, Drawn0.refl _⟩
set_option maxHeartbeats 4000000 in
set_option maxRecDepth 100000 in
theorem dirTurn_4_0  (w : World) : Calls Try.prog 73 #[.int .i64 4, .int .i64 0] w fun e w' => e = .returned (.int .i64 1) ∧ Drawn0 w w' := by
 obtain ⟨ix1_0, ix1_1, ix1_2, ix1_3, ix3_0, ix3_1, ix3_2, ix3_3⟩ := ixs
 go_enter Try.func73, Try.ntmps73
 go_wp2
 go_ret
 exact ⟨rfl, Drawn0.refl _⟩
set_option maxHeartbeats 4000000 in
set_option maxRecDepth 100000 in
theorem dirTurn_4_1  (w : World) : Calls Try.prog 73 #[.int .i64 4, .int .i64 1] w fun e w' => e = .returned (.int .i64 0) ∧ Drawn0 w w' := by
 obtain ⟨ix1_0, ix1_1, ix1_2, ix1_3, ix3_0, ix3_1, ix3_2, ix3_3⟩ := ixs
 go_enter Try.func73, Try.ntmps73
 go_wp2
 go_ret
 exact ⟨rfl, Drawn0.refl _⟩
set_option maxHeartbeats 4000000 in
set_option maxRecDepth 100000 in
theorem dirTurn_4_2  (w : World) : Calls Try.prog 73 #[.int .i64 4, .int .i64 2] w fun e w' => e = .returned (.int .i64 3) ∧ Drawn0 w w' := by
 obtain ⟨ix1_0, ix1_1, ix1_2, ix1_3, ix3_0, ix3_1, ix3_2, ix3_3⟩ := ixs
 go_enter Try.func73, Try.ntmps73
 go_wp2
 go_ret
 exact ⟨rfl, Drawn0.refl _⟩
set_option maxHeartbeats 4000000 in
set_option maxRecDepth 100000 in
theorem dirTurn_4_3  (w : World) : Calls Try.prog 73 #[.int .i64 4, .int .i64 3] w fun e w' => e = .returned (.int .i64 2) ∧ Drawn0 w w' := by
 obtain ⟨ix1_0, ix1_1, ix1_2, ix1_3, ix3_0, ix3_1, ix3_2, ix3_3⟩ := ixs
 go_enter Try.func73, Try.ntmps73
 go_wp2
 go_ret
 exact ⟨rfl, Drawn0.refl _⟩
set_option maxHeartbeats 4000000 in
set_option maxRecDepth 100000 in
theorem dirTurn_3_0  (w : World) : Calls Try.prog 73 #[.int .i64 3, .int .i64 0] w fun e w' => e = .returned (.int .i64 3) ∧ Drawn0 w w' := by
 obtain ⟨ix1_0, ix1_1, ix1_2, ix1_3, ix3_0, ix3_1, ix3_2, ix3_3⟩ := ixs
 go_enter Try.func73, Try.ntmps73
 go_wp2
 go_ret
 exact ⟨rfl, Drawn0.refl _⟩
set_option maxHeartbeats 4000000 in
set_option maxRecDepth 100000 in
theorem dirTurn_3_1  (w : World) : Calls Try.prog 73 #[.int .i64 3, .int .i64 1] w fun e w' => e = .returned (.int .i64 2) ∧ Drawn0 w w' := by
 obtain ⟨ix1_0, ix1_1, ix1_2, ix1_3, ix3_0, ix3_1, ix3_2, ix3_3⟩ := ixs
 go_enter Try.func73, Try.ntmps73
 go_wp2
 go_ret
 exact ⟨rfl, Drawn0.refl _⟩
set_option maxHeartbeats 4000000 in
set_option maxRecDepth 100000 in
theorem dirTurn_3_2  (w : World) : Calls Try.prog 73 #[.int .i64 3, .int .i64 2] w fun e w' => e = .returned (.int .i64 1) ∧ Drawn0 w w' := by
 obtain ⟨ix1_0, ix1_1, ix1_2, ix1_3, ix3_0, ix3_1, ix3_2, ix3_3⟩ := ixs
 go_enter Try.func73, Try.ntmps73
 go_wp2
 go_ret
 exact ⟨rfl, Drawn0.refl _⟩
set_option maxHeartbeats 4000000 in
set_option maxRecDepth 100000 in
theorem dirTurn_3_3  (w : World) : Calls Try.prog 73 #[.int .i64 3, .int .i64 3] w fun e w' => e = .returned (.int .i64 0) ∧ Drawn0 w w' := by
 obtain ⟨ix1_0, ix1_1, ix1_2, ix1_3, ix3_0, ix3_1, ix3_2, ix3_3⟩ := ixs
 go_enter Try.func73, Try.ntmps73
 go_wp2
 go_ret
 exact ⟨rfl, Drawn0.refl _⟩
set_option maxHeartbeats 4000000 in
set_option maxRecDepth 100000 in
theorem dirTurn_5_0  (w : World) : Calls Try.prog 73 #[.int .i64 5, .int .i64 0] w fun e w' => e = .returned (.int .i64 3) ∧ Drawn0 w w' := by
 obtain ⟨ix1_0, ix1_1, ix1_2, ix1_3, ix3_0, ix3_1, ix3_2, ix3_3⟩ := ixs
 go_enter Try.func73, Try.ntmps73
 go_wp2
 go_ret
 exact ⟨rfl, Drawn0.refl _⟩
set_option maxHeartbeats 4000000 in
set_option maxRecDepth 100000 in
theorem dirTurn_5_1  (w : World) : Calls Try.prog 73 #[.int .i64 5, .int .i64 1] w fun e w' => e = .returned (.int .i64 2) ∧ Drawn0 w w' := by
 obtain ⟨ix1_0, ix1_1, ix1_2, ix1_3, ix3_0, ix3_1, ix3_2, ix3_3⟩ := ixs
 go_enter Try.func73, Try.ntmps73
 go_wp2
 go_ret
 exact ⟨rfl, Drawn0.refl _⟩
set_option maxHeartbeats 4000000 in
set_option maxRecDepth 100000 in
theorem dirTurn_5_2  (w : World) : Calls Try.prog 73 #[.int .i64 5, .int .i64 2] w fun e w' => e = .returned (.int .i64 1) ∧ Drawn0 w w' := by
 obtain ⟨ix1_0, ix1_1, ix1_2, ix1_3, ix3_0, ix3_1, ix3_2, ix3_3⟩ := ixs
 go_enter Try.func73, Try.ntmps73
 go_wp2
 go_ret
 exact ⟨rfl, Drawn0.refl _⟩
set_option maxHeartbeats 4000000 in
set_option maxRecDepth 100000 in
theorem dirTurn_5_3  (w : World) : Calls Try.prog 73 #[.int .i64 5, .int .i64 3] w fun e w' => e = .returned (.int .i64 0) ∧ Drawn0 w w' := by
 obtain ⟨ix1_0, ix1_1, ix1_2, ix1_3, ix3_0, ix3_1, ix3_2, ix3_3⟩ := ixs
 go_enter Try.func73, Try.ntmps73
 go_wp2
 go_ret
 exact ⟨rfl, Drawn0.refl _⟩
set_option maxHeartbeats 4000000 in
set_option maxRecDepth 100000 in
theorem dirTurn_on (k d : Int) (h0 : decide (0 ≤ d) = true) (h : decide (d ≤ 3) = true) (k2 : (k == 2) = false) (k4 : (k == 4) = false) (k3 : (k == 3) = false) (k5 : (k == 5) = false) (w : World) : Calls Try.prog 73 #[.int .i64 k, .int .i64 d] w fun e w' => e = .returned (.int .i64 d) ∧ Drawn0 w w' := by
 obtain ⟨ix1_0, ix1_1, ix1_2, ix1_3, ix3_0, ix3_1, ix3_2, ix3_3⟩ := ixs
 go_enter Try.func73, Try.ntmps73
 go_wp2
 go_ret
 exact ⟨rfl, Drawn0.refl _⟩
theorem impl_DirTurn.calls (a0 : Int) (a1 : Int) (r : Int) (w : World) (h : impl_DirTurn.f a0 a1 = some r) :
  Calls Try.prog 73 #[.int .i64 a0, .int .i64 a1] w fun e w' => e = .returned (.int .i64 r) ∧ Drawn0 w w' := by
 obtain rfl := Option.some.inj h
 by_cases h0 : 0 ≤ a1
 ·by_cases h3 : a1 ≤ 3
  ·have hd : a1 = 0 ∨ a1 = 1 ∨ a1 = 2 ∨ a1 = 3 := by omega
   by_cases k2 : a0 = 2
   ·subst k2; rcases hd with rfl | rfl | rfl | rfl
    ·exact dirTurn_2_0 w
    ·exact dirTurn_2_1 w
    ·exact dirTurn_2_2 w
    ·exact dirTurn_2_3 w
   by_cases k4 : a0 = 4
   ·subst k4; rcases hd with rfl | rfl | rfl | rfl
    ·exact dirTurn_4_0 w
    ·exact dirTurn_4_1 w
    ·exact dirTurn_4_2 w
    ·exact dirTurn_4_3 w
   by_cases k3 : a0 = 3
   ·subst k3; rcases hd with rfl | rfl | rfl | rfl
    ·exact dirTurn_3_0 w
    ·exact dirTurn_3_1 w
    ·exact dirTurn_3_2 w
    ·exact dirTurn_3_3 w
   by_cases k5 : a0 = 5
   ·subst k5; rcases hd with rfl | rfl | rfl | rfl
    ·exact dirTurn_5_0 w
    ·exact dirTurn_5_1 w
    ·exact dirTurn_5_2 w
    ·exact dirTurn_5_3 w
   rw [show dirV a0 a1 = a1 from by unfold dirV; rw [if_neg zq37, if_neg zq37, if_neg zq37]]
   exact dirTurn_on a0 a1 (by simpa using h0) (by simpa using h3) (by simpa using k2) (by simpa using k4) (by simpa using k3) (by simpa using k5) w
  ·rw [show dirV a0 a1 = -1 from by unfold dirV; rw [if_pos zq37]]
   exact dirTurn_hi a0 a1 (by simpa using h0) (by simpa using h3) w
 ·rw [show dirV a0 a1 = -1 from by unfold dirV; rw [if_pos zq37]]
  exact dirTurn_lo a0 a1 (by simpa using h0) w

end Go.Proofs.Ytejgohgmmndgbaa.PFnTrailTurn
--slim
