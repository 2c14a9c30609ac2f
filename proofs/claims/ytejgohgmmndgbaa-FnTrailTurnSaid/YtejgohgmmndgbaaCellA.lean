/- What impl.cellTyped and impl.CellOk return, for every cell and in every world; nothing that was there is changed. -/
import Derived.Test.YtejgohgmmndgbaaProg
import Derived.WalkKit
import Derived.WalkLawsBesides
import Derived.Deep.QuietTactic
import Derived.BigQuiet
import Derived.KernelRfl
import Derived.Below
import Derived.Deep.Draws
namespace Go.Proofs.Ytejgohgmmndgbaa.CellA
open Go.RowKit
set_option linter.unusedVariables false
set_option linter.unusedSimpArgs false

def ctOk (k l : Int) : Bool := if k = 7 then decide (1 ≤ l ∧ l ≤ 9) else decide (0 ≤ k ∧ k ≤ 7 ∧ l = 0)
def ctT (k : Int) : TypeId := if k = 0 then 129 else if k = 1 then 130 else if k = 2 then 131 else if k = 3 then 132 else if k = 4 then 133 else if k = 5 then 134 else 135
def ctV (k l : Int) : Value := if k = 7 then .iface 127 (.agg #[.int .i64 l]) else if 0 ≤ k ∧ k ≤ 7 ∧ l = 0 then .iface (ctT k) (.agg #[]) else .nilIface

def Ct (k l : Int) (w : World) (e : Ending) (w' : World) : Prop := e = .returned (.tuple #[ctV k l, .bool (ctOk k l)]) ∧ Below w.heap.size w w'
theorem below_drewN {B : Nat} {w W : World} (h : Below B w W) (n : Nat) : Below B w (W.drewN n) := ⟨h.os, h.tape, h.output, h.size, h.block⟩

set_option maxHeartbeats 4000000 in
set_option maxRecDepth 100000 in
theorem ct_lamp (l : Int) (w : World) (b : Bool) (h : decide (1 ≤ l) = b) : Calls Try.prog 78 #[.agg #[.int .i64 7, .int .i64 l]] w (Ct 7 l w) := by
 have hv : ctV 7 l = .iface 127 (.agg #[.int .i64 l]) := rfl
 cases b
 ·have ho : ctOk 7 l = false := by simp at h; simp [ctOk]; omega
  have hq : Ct 7 l w = fun e w' => e = .returned (.tuple #[.iface 127 (.agg #[.int .i64 l]), .bool false]) ∧ Below w.heap.size w w' := by unfold Ct; rw [hv, ho]
  rw [hq]; clear hq ho hv
  go_enter Try.func78, Try.ntmps78
  go_wp2
  go_quiet (fail)
  go_wp2
  go_ret2
  exact ⟨rfl, (by repeat (first | exact Below.refl _ _ | refine below_drewN ?_ _ | refine Below.drew ?_ | refine Below.setCell ?_ (by simp) _ | refine Below.alloc ?_ (by simp) _))⟩
 ·have ho : ctOk 7 l = decide (l ≤ 9) := by simp at h; simp [ctOk, h]
  have hq : Ct 7 l w = fun e w' => e = .returned (.tuple #[.iface 127 (.agg #[.int .i64 l]), .bool (decide (l ≤ 9))]) ∧ Below w.heap.size w w' := by unfold Ct; rw [hv, ho]
  rw [hq]; clear hq ho hv
  go_enter Try.func78, Try.ntmps78
  go_wp2
  go_quiet (fail)
  go_wp2
  go_ret2
  exact ⟨rfl, (by repeat (first | exact Below.refl _ _ | refine below_drewN ?_ _ | refine Below.drew ?_ | refine Below.setCell ?_ (by simp) _ | refine Below.alloc ?_ (by simp) _))⟩
set_option maxHeartbeats 4000000 in
set_option maxRecDepth 100000 in
theorem ct_lo (k l : Int) (w : World) (h7 : (k == 7) = false) (h : decide (k < 0) = true) : Calls Try.prog 78 #[.agg #[.int .i64 k, .int .i64 l]] w (Ct k l w) := by
 have hv : ctV k l = .nilIface := by simp at h7 h; unfold ctV; rw [if_neg (by omega), if_neg (by omega)]
 have ho : ctOk k l = false := by simp at h7 h; unfold ctOk; rw [if_neg (by omega)]; simp; omega
 have hq : Ct k l w = fun e w' => e = .returned (.tuple #[.nilIface, .bool false]) ∧ Below w.heap.size w w' := by unfold Ct; rw [hv, ho]
 rw [hq]; clear hq ho hv
 go_enter Try.func78, Try.ntmps78
 go_wp2
 go_ret2
 exact ⟨rfl, (by repeat (first | exact Below.refl _ _ | refine below_drewN ?_ _ | refine Below.drew ?_ | refine Below.setCell ?_ (by simp) _ | refine Below.alloc ?_ (by simp) _))⟩
set_option maxHeartbeats 4000000 in
set_option maxRecDepth 100000 in
theorem ct_hi (k l : Int) (w : World) (h7 : (k == 7) = false) (h0 : decide (k < 0) = false) (h : decide (7 < k) = true) : Calls Try.prog 78 #[.agg #[.int .i64 k, .int .i64 l]] w (Ct k l w) := by
 have hv : ctV k l = .nilIface := by simp at h7 h; unfold ctV; rw [if_neg (by omega), if_neg (by omega)]
 have ho : ctOk k l = false := by simp at h7 h; unfold ctOk; rw [if_neg (by omega)]; simp; omega
 have hq : Ct k l w = fun e w' => e = .returned (.tuple #[.nilIface, .bool false]) ∧ Below w.heap.size w w' := by unfold Ct; rw [hv, ho]
 rw [hq]; clear hq ho hv
 go_enter Try.func78, Try.ntmps78
 go_wp2
 go_ret2
 exact ⟨rfl, (by repeat (first | exact Below.refl _ _ | refine below_drewN ?_ _ | refine Below.drew ?_ | refine Below.setCell ?_ (by simp) _ | refine Below.alloc ?_ (by simp) _))⟩
set_option maxHeartbeats 4000000 in
set_option maxRecDepth 100000 in
theorem ct_ne (k l : Int) (w : World) (h7 : (k == 7) = false) (h0 : decide (k < 0) = false) (h1 : decide (7 < k) = false) (h : (l != 0) = true) : Calls Try.prog 78 #[.agg #[.int .i64 k, .int .i64 l]] w (Ct k l w) := by
 have hv : ctV k l = .nilIface := by simp at h7 h; unfold ctV; rw [if_neg (by omega), if_neg (by omega)]
 have ho : ctOk k l = false := by simp at h7 h; unfold ctOk; rw [if_neg (by omega)]; simp; omega
 have hq : Ct k l w = fun e w' => e = .returned (.tuple #[.nilIface, .bool false]) ∧ Below w.heap.size w w' := by unfold Ct; rw [hv, ho]
 rw [hq]; clear hq ho hv
 go_enter Try.func78, Try.ntmps78
 go_wp2
 go_ret2
 exact ⟨rfl, (by repeat (first | exact Below.refl _ _ | refine below_drewN ?_ _ | refine Below.drew ?_ | refine Below.setCell ?_ (by simp) _ | refine Below.alloc ?_ (by simp) _))⟩
set_option maxHeartbeats 4000000 in
set_option maxRecDepth 100000 in
theorem ct_0 (w : World) : Calls Try.prog 78 #[.agg #[.int .i64 0, .int .i64 0]] w (Ct 0 0 w) := by
 have hq : Ct 0 0 w = fun e w' => e = .returned (.tuple #[.iface 129 (.agg #[]), .bool true]) ∧ Below w.heap.size w w' := by unfold Ct; rfl
 rw [hq]; clear hq
 go_enter Try.func78, Try.ntmps78
 go_wp2
 go_ret2
 exact ⟨rfl, (by repeat (first | exact Below.refl _ _ | refine below_drewN ?_ _ | refine Below.drew ?_ | refine Below.setCell ?_ (by simp) _ | refine Below.alloc ?_ (by simp) _))⟩
set_option maxHeartbeats 4000000 in
set_option maxRecDepth 100000 in
theorem ct_1 (w : World) : Calls Try.prog 78 #[.agg #[.int .i64 1, .int .i64 0]] w (Ct 1 0 w) := by
 have hq : Ct 1 0 w = fun e w' => e = .returned (.tuple #[.iface 130 (.agg #[]), .bool true]) ∧ Below w.heap.size w w' := by unfold Ct; rfl
 rw [hq]; clear hq
 go_enter Try.func78, Try.ntmps78
 go_wp2
 go_ret2
 exact ⟨rfl, (by repeat (first | exact Below.refl _ _ | refine below_drewN ?_ _ | refine Below.drew ?_ | refine Below.setCell ?_ (by simp) _ | refine Below.alloc ?_ (by simp) _))⟩
set_option maxHeartbeats 4000000 in
set_option maxRecDepth 100000 in
theorem ct_2 (w : World) : Calls Try.prog 78 #[.agg #[.int .i64 2, .int .i64 0]] w (Ct 2 0 w) := by
 have hq : Ct 2 0 w = fun e w' => e = .returned (.tuple #[.iface 131 (.agg #[]), .bool true]) ∧ Below w.heap.size w w' := by unfold Ct; rfl
 rw [hq]; clear hq
 go_enter Try.func78, Try.ntmps78
 go_wp2
 go_ret2
 exact ⟨rfl, (by repeat (first | exact Below.refl _ _ | refine below_drewN ?_ _ | refine Below.drew ?_ | refine Below.setCell ?_ (by simp) _ | refine Below.alloc ?_ (by simp) _))⟩
set_option maxHeartbeats 4000000 in
set_option maxRecDepth 100000 in
theorem ct_3 (w : World) : Calls Try.prog 78 #[.agg #[.int .i64 3, .int .i64 0]] w (Ct 3 0 w) := by
 have hq : Ct 3 0 w = fun e w' => e = .returned (.tuple #[.iface 132 (.agg #[]), .bool true]) ∧ Below w.heap.size w w' := by unfold Ct; rfl
 rw [hq]; clear hq
 go_enter Try.func78, Try.ntmps78
 go_wp2
 go_ret2
 exact ⟨rfl, (by repeat (first | exact Below.refl _ _ | refine below_drewN ?_ _ | refine Below.drew ?_ | refine Below.setCell ?_ (by simp) _ | refine Below.alloc ?_ (by simp) _))⟩
set_option maxHeartbeats 4000000 in
set_option maxRecDepth 100000 in
theorem ct_4 (w : World) : Calls Try.prog 78 #[.agg #[.int .i64 4, .int .i64 0]] w (Ct 4 0 w) := by
 have hq : Ct 4 0 w = fun e w' => e = .returned (.tuple #[.iface 133 (.agg #[]), .bool true]) ∧ Below w.heap.size w w' := by unfold Ct; rfl
 rw [hq]; clear hq
 go_enter Try.func78, Try.ntmps78
 go_wp2
 go_ret2
 exact ⟨rfl, (by repeat (first | exact Below.refl _ _ | refine below_drewN ?_ _ | refine Below.drew ?_ | refine Below.setCell ?_ (by simp) _ | refine Below.alloc ?_ (by simp) _))⟩
set_option maxHeartbeats 4000000 in
set_option maxRecDepth 100000 in
theorem ct_5 (w : World) : Calls Try.prog 78 #[.agg #[.int .i64 5, .int .i64 0]] w (Ct 5 0 w) := by
 have hq : Ct 5 0 w = fun e w' => e = .returned (.tuple #[.iface 134 (.agg #[]), .bool true]) ∧ Below w.heap.size w w' := by unfold Ct; rfl
 rw [hq]; clear hq
 go_enter Try.func78, Try.ntmps78
 go_wp2
 go_ret2
 exact ⟨rfl, (by repeat (first | exact Below.refl _ _ | refine below_drewN ?_ _ | refine Below.drew ?_ | refine Below.setCell ?_ (by simp) _ | refine Below.alloc ?_ (by simp) _))⟩
set_option maxHeartbeats 4000000 in
set_option maxRecDepth 100000 in
theorem ct_6 (w : World) : Calls Try.prog 78 #[.agg #[.int .i64 6, .int .i64 0]] w (Ct 6 0 w) := by
 have hq : Ct 6 0 w = fun e w' => e = .returned (.tuple #[.iface 135 (.agg #[]), .bool true]) ∧ Below w.heap.size w w' := by unfold Ct; rfl
 rw [hq]; clear hq
 go_enter Try.func78, Try.ntmps78
 go_wp2
 go_ret2
 exact ⟨rfl, (by repeat (first | exact Below.refl _ _ | refine below_drewN ?_ _ | refine Below.drew ?_ | refine Below.setCell ?_ (by simp) _ | refine Below.alloc ?_ (by simp) _))⟩

/-- impl.cellTyped: every cell. -/
theorem ct_any (k l : Int) (w : World) : Calls Try.prog 78 #[.agg #[.int .i64 k, .int .i64 l]] w (Ct k l w) := by
 by_cases h7 : k = 7
 ·subst h7; exact ct_lamp l w _ rfl
 ·have e7 : (k == 7) = false := by simpa using h7
  by_cases h0 : k < 0
  ·exact ct_lo k l w e7 (by simpa using h0)
  ·by_cases h1 : 7 < k
   ·exact ct_hi k l w e7 (by simpa using h0) (by simpa using h1)
   ·by_cases h2 : l = 0
    ·subst h2
     have : k = 0 ∨ k = 1 ∨ k = 2 ∨ k = 3 ∨ k = 4 ∨ k = 5 ∨ k = 6 := by omega
     rcases this with rfl | rfl | rfl | rfl | rfl | rfl | rfl
     ·exact ct_0 w
     ·exact ct_1 w
     ·exact ct_2 w
     ·exact ct_3 w
     ·exact ct_4 w
     ·exact ct_5 w
     ·exact ct_6 w
    ·exact ct_ne k l w e7 (by simpa using h0) (by simpa using h1) (by simpa using h2)

set_option maxHeartbeats 4000000 in
set_option maxRecDepth 100000 in
/-- impl.CellOk: every cell. -/
theorem cellOk_any (k l : Int) (w : World) : Calls Try.prog 66 #[.agg #[.int .i64 k, .int .i64 l]] w fun e w' => e = .returned (.bool (ctOk k l)) ∧ Below w.heap.size w w' := by
 go_enter Try.func66, Try.ntmps66
 go_wp2_with (go_at_call 78; refine (ct_any _ _ _).mono ?_; rintro e w' ⟨rfl, hb⟩)
 go_ret
 exact ⟨rfl, ((Below.refl _ _).alloc (Nat.le_refl _) _).trans (hb.mono (by simp))⟩
end Go.Proofs.Ytejgohgmmndgbaa.CellA
--slim
