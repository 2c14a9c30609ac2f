-- Written by a program of this session: the kit's print, with functions among it that were proved by hand.
import Derived.Test.YtejgohgmmndgbaaPFnTrailTurnx0
import Derived.Test.YtejgohgmmndgbaaPFnTrailTurnx21
namespace Go.Proofs.Ytejgohgmmndgbaa.PFnTrailTurn
open Go.RowKit Go.Proofs.YtejgohgmmndgbaaW.PrintWords Go.Proofs.YtejgohgmmndgbaaW.PrintLast Go.Proofs.YtejgohgmmndgbaaW.PrintMore
attribute [local go_sem] max2_int min2_int max_two min_two max_three min_three max_four min_four   -- for this text's walks alone
set_option linter.unusedVariables false
set_option linter.unusedSimpArgs false


open Go.Proofs.Ytejgohgmmndgbaa.HandA
theorem impl_rayStep.calls (a0_0 : Int) (A0_1 : Option Addr) (c0_1 : Nat) (l0_1 : List (S57)) (a1 : Int) (a2 : Int) (r1 : Int) (r2 : Int) (r3 : Bool) (w : World) (hr0_1 : Kd.C k57 w A0_1 l0_1.length l0_1) (hc0_1 : l0_1.length ≤ c0_1) (h : impl_rayStep.f a0_0 l0_1 a1 a2 = some (r1, r2, r3)) :
  Calls Try.prog 93 #[.agg #[.int .i64 a0_0, .slice A0_1 l0_1.length c0_1], .int .i64 a1, .int .i64 a2] w fun e w' => e = .returned (.tuple #[.agg #[.int .i64 r1, .int .i64 r2], .bool r3]) ∧ Below w.heap.size w w' := by
 unfold impl_rayStep.f at h
 by_cases h2 : 1 ≤ a0_0 ∧ a0_0 ≤ 1000 ∧ (l0_1.length : Int) ≤ 10000 ∧ 0 ≤ a1 ∧ a1 ≤ 10000
 ·rw [if_pos h2] at h
  obtain ⟨g1, g2, g3, g4, g5⟩ := h2
  by_cases d0 : a2 = 0
  ·subst d0; rw [if_pos rfl] at h
   by_cases c : a0_0 ≤ a1
   ·rw [if_pos c] at h; cases h; exact rayStep_up_true a0_0 A0_1 _ c0_1 a1 g1 g2 g3 g4 g5 w (by simpa using c)
   ·rw [if_neg c] at h; cases h; exact rayStep_up_false a0_0 A0_1 _ c0_1 a1 g1 g2 g3 g4 g5 w (by simpa using c)
  rw [if_neg d0] at h
  by_cases d1 : a2 = 1
  ·subst d1; rw [if_pos rfl] at h
   by_cases c : a1 % a0_0 ≠ a0_0 - 1
   ·rw [if_pos c] at h; cases h; exact rayStep_right_true a0_0 A0_1 _ c0_1 a1 g1 g2 g3 g4 g5 w (by simpa using c)
   ·rw [if_neg c] at h; cases h; exact rayStep_right_false a0_0 A0_1 _ c0_1 a1 g1 g2 g3 g4 g5 w (by simpa using c)
  rw [if_neg d1] at h
  by_cases d2 : a2 = 2
  ·subst d2; rw [if_pos rfl] at h
   by_cases c : a1 + a0_0 < (l0_1.length : Int)
   ·rw [if_pos c] at h; cases h; exact rayStep_down_true a0_0 A0_1 _ c0_1 a1 g1 g2 g3 g4 g5 w (by simpa using c)
   ·rw [if_neg c] at h; cases h; exact rayStep_down_false a0_0 A0_1 _ c0_1 a1 g1 g2 g3 g4 g5 w (by simpa using c)
  rw [if_neg d2] at h
  by_cases d3 : a2 = 3
  ·subst d3; rw [if_pos rfl] at h
   by_cases c : a1 % a0_0 ≠ 0
   ·rw [if_pos c] at h; cases h; exact rayStep_left_true a0_0 A0_1 _ c0_1 a1 g1 g2 g3 g4 g5 w (by simpa using c)
   ·rw [if_neg c] at h; cases h; exact rayStep_left_false a0_0 A0_1 _ c0_1 a1 g1 g2 g3 g4 g5 w (by simpa using c)
  rw [if_neg d3] at h; cases h
 ·rw [if_neg h2] at h; cases h

/-! ### impl_dirOk: function 95 -/
def impl_dirOk.f (a0 : Int) : Option (Bool) := if a0 ≥ 0 then (some (decide (a0 ≤ 3))) else (some false)
set_option maxHeartbeats 8000000 in
set_option maxRecDepth 100000 in
theorem impl_dirOk.calls (a0 : Int) (r : Bool) (w : World) (h : impl_dirOk.f a0 = some r) :
  Calls Try.prog 95 #[.int .i64 a0] w fun e w' => e = .returned (.bool r) ∧ Drawn0 w w' := by
 have H : (if a0 ≥ 0 then (some (decide (a0 ≤ 3))) else (some false)) = some r := h
 clear h
 by_cases c2 : a0 ≥ 0
 ·rw [if_pos c2] at H
  have c2b0 : decide (0 ≤ a0) = true := decide_eq_true c2
  clear c2
  obtain rfl := Option.some.inj H
  go_enter Try.func95, Try.ntmps95
  go_wp2
  go_ret
  exact ⟨by first | rfl | (simp; done) | (simp [*]; done), by repeat (first | exact Drawn0.refl _ | apply Drawn0.step)⟩
 ·rw [if_neg c2] at H
  have c2b0 : decide (0 ≤ a0) = false := decide_eq_false c2
  clear c2
  obtain rfl := Option.some.inj H
  go_enter Try.func95, Try.ntmps95
  go_wp2
  go_ret
  exact ⟨by first | rfl | (simp; done) | (simp [*]; done), by repeat (first | exact Drawn0.refl _ | apply Drawn0.step)⟩

/-! ### impl_dirOpposite: function 116 -/
def impl_dirOpposite.f (a0 : Int) : Option (Int) := some (Int.tmod (wrap64 (a0 + 2)) 4)
set_option maxHeartbeats 8000000 in
set_option maxRecDepth 100000 in
theorem impl_dirOpposite.calls (a0 : Int) (r : Int) (w : World) (h : impl_dirOpposite.f a0 = some r) :
  Calls Try.prog 116 #[.int .i64 a0] w fun e w' => e = .returned (.int .i64 r) ∧ Drawn0 w w' := by
 have H : (some (Int.tmod (wrap64 (a0 + 2)) 4)) = some r := h
 clear h
 obtain rfl := Option.some.inj H
 go_enter Try.func116, Try.ntmps116
 go_wp2
 go_ret
 exact ⟨by first | rfl | (simp; done) | (simp [*]; done), by repeat (first | exact Drawn0.refl _ | apply Drawn0.step)⟩

-- NOT PRINTED: function 117 (impl_sidesTold_bool)

end Go.Proofs.Ytejgohgmmndgbaa.PFnTrailTurn
--slim
