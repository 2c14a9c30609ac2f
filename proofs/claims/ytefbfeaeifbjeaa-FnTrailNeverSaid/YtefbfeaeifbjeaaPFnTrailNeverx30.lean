-- Written by a program of this session: the kit's print, with functions among it that were proved by hand.
import Derived.Test.YtefbfeaeifbjeaaPFnTrailNeverx0
namespace Go.Proofs.Ytefbfeaeifbjeaa.PFnTrailNever
open Go.RowKit Go.Proofs.YtefbfeaeifbjeaaW.PrintWords Go.Proofs.YtefbfeaeifbjeaaW.PrintLast Go.Proofs.YtefbfeaeifbjeaaW.PrintMore
attribute [local go_sem] max2_int min2_int max_two min_two max_three min_three max_four min_four   -- for this text's walks alone
set_option linter.unusedVariables false
set_option linter.unusedSimpArgs false

/-! ### laws_llKinds: function 64 -/
mutual
def laws_llKinds.l0 : Nat → Int → Int → Int → Int → List (S57) → Option (Int)
 | 0, _, _, _, _, _ => none
 | k + 1, x1, x5, x6, x283000, x283001 => if x6 < (x283001.length : Int) then (if 0 ≤ x6 then (if ((rd_T57 x283001 x6).f0) = 3 then (laws_llKinds.j1 k x1 x5 x6 2 x283000 x283001) else (laws_llKinds.j1 k x1 x5 x6 ((rd_T57 x283001 x6).f0) x283000 x283001)) else (none)) else (some x5)
def laws_llKinds.j1 : Nat → Int → Int → Int → Int → Int → List (S57) → Option (Int)
 | 0, _, _, _, _, _, _ => none
 | k + 1, x1, x5, x6, x7, x283000, x283001 => if x7 = 5 then (if 4 = x1 then (laws_llKinds.l0 k x1 (wrap64 (x5 + 1)) (wrap64 (x6 + 1)) x283000 x283001) else (laws_llKinds.l0 k x1 x5 (wrap64 (x6 + 1)) x283000 x283001)) else (if x7 = x1 then (laws_llKinds.l0 k x1 (wrap64 (x5 + 1)) (wrap64 (x6 + 1)) x283000 x283001) else (laws_llKinds.l0 k x1 x5 (wrap64 (x6 + 1)) x283000 x283001))
end
def laws_llKinds.f (k : Nat) (a0_0 : Int) (l0_1 : List (S57)) (a1 : Int) : Option (Int) := laws_llKinds.l0 k a1 0 0 a0_0 l0_1
theorem laws_llKinds.mono_l : ∀ k, (∀ y0 y1 y2 y3 y4, LeO (laws_llKinds.l0 k y0 y1 y2 y3 y4) (laws_llKinds.l0 (k + 1) y0 y1 y2 y3 y4)) ∧ (∀ y0 y1 y2 y3 y4 y5, LeO (laws_llKinds.j1 k y0 y1 y2 y3 y4 y5) (laws_llKinds.j1 (k + 1) y0 y1 y2 y3 y4 y5))
 | 0 => ⟨fun _ _ _ _ _ r h => by simp [laws_llKinds.l0] at h, fun _ _ _ _ _ _ r h => by simp [laws_llKinds.j1] at h⟩
 | k + 1 => by
  obtain ⟨ih0, ih1⟩ := laws_llKinds.mono_l k
  refine ⟨?_, ?_⟩
  ·intro y0 y1 y2 y3 y4
   unfold laws_llKinds.l0
   repeat' first
   | (with_reducible exact ih0 _ _ _ _ _)
   | (with_reducible exact ih1 _ _ _ _ _ _)
   | (with_reducible exact LeO.refl _)
   | (with_reducible exact LeO.none _)
   | (with_reducible refine LeO.ite ?_ ?_)
   | (with_reducible refine LeO.bind ?_ (fun _ => ?_))
   | exact ih0 _ _ _ _ _
   | exact ih1 _ _ _ _ _ _
   | exact LeO.none _
   | refine LeO.ite ?_ ?_
   | refine LeO.bind ?_ (fun _ => ?_)
  ·intro y0 y1 y2 y3 y4 y5
   unfold laws_llKinds.j1
   repeat' first
   | (with_reducible exact ih0 _ _ _ _ _)
   | (with_reducible exact ih1 _ _ _ _ _ _)
   | (with_reducible exact LeO.refl _)
   | (with_reducible exact LeO.none _)
   | (with_reducible refine LeO.ite ?_ ?_)
   | (with_reducible refine LeO.bind ?_ (fun _ => ?_))
   | exact ih0 _ _ _ _ _
   | exact ih1 _ _ _ _ _ _
   | exact LeO.none _
   | refine LeO.ite ?_ ?_
   | refine LeO.bind ?_ (fun _ => ?_)
theorem laws_llKinds.mono : ∀ a0 a1 a2 k, LeO (laws_llKinds.f k a0 a1 a2) (laws_llKinds.f (k + 1) a0 a1 a2) := by
 intro a0 a1 a2 k
 obtain ⟨ih0, ih1⟩ := laws_llKinds.mono_l k
 unfold laws_llKinds.f
 repeat' first
   | (with_reducible exact ih0 _ _ _ _ _)
   | (with_reducible exact ih1 _ _ _ _ _ _)
   | (with_reducible exact LeO.refl _)
   | (with_reducible exact LeO.none _)
   | (with_reducible refine LeO.ite ?_ ?_)
   | (with_reducible refine LeO.bind ?_ (fun _ => ?_))
   | exact ih0 _ _ _ _ _
   | exact ih1 _ _ _ _ _ _
   | exact LeO.none _
   | refine LeO.ite ?_ ?_
   | refine LeO.bind ?_ (fun _ => ?_)
set_option maxHeartbeats 8000000 in
set_option maxRecDepth 100000 in
theorem laws_llKinds.calls (k : Nat) (a0_0 : Int) (A0_1 : Option Addr) (c0_1 : Nat) (l0_1 : List (S57)) (a1 : Int) (r : Int) (w : World) (hr0_1 : Kd.C k57 w A0_1 l0_1.length l0_1) (hc0_1 : l0_1.length ≤ c0_1) (h : laws_llKinds.f k a0_0 l0_1 a1 = some r) :
  Calls Try.prog 64 #[.agg #[.int .i64 a0_0, .slice A0_1 l0_1.length c0_1], .int .i64 a1] w fun e w' => e = .returned (.int .i64 r) ∧ Below w.heap.size w w' := by
 have hu25 := Try.underlying25
 have HR0_1 := Zs.mk hr0_1
 have HC0_1 := Zs.mk hc0_1
 clear hr0_1 hc0_1
 have HB := Zs.mk (Below.refl w.heap.size w)
 have H : (laws_llKinds.l0 k a1 0 0 a0_0 l0_1) = some r := h
 clear h
 have H' := Zs.mk H
 clear H
 go_enter Try.func64, Try.ntmps64
 go_wp2_with (first | ((with_reducible refine gate_dst (N := 2) rfl ?_); refine box_event ?hg (N := 2) ?hd (cs := #[.int .i64 a0_0, .slice A0_1 l0_1.length c0_1]) (t := 25) ?hr ?_; (case hd => rfl); (case hg => rfl); (case hr => first | (go_simp; done) | (go_simp; rfl)); intro gb282 hg w3 hbox hb; have n0_ := Zs.mk (bSp (by repeat (first | (with_reducible first | exact HB.out | apply bAl | apply bDN | apply bD1) | exact HB.out)) hb); have n1_ := Zs.mk (hbox); have n2_ := Zs.mk ((by rw [hg]; exact (bSz (by repeat (first | (with_reducible first | exact HB.out | apply bAl | apply bDN | apply bD1) | exact HB.out))) : w.heap.size ≤ gb282)); have n3_ := Zs.mk ((by rw [hg]; exact (bSz (by repeat (first | (with_reducible first | exact HB.out | apply bAl | apply bDN | apply bD1) | exact HB.out))) : w.heap.size ≤ gb282)); clear HB; have HB := n0_; have BK282 := n1_; have GW282 := n2_; have GE282 := n3_; clear n0_ n1_ n2_ n3_; clear hb hbox hg))
 go_loopg [5, 6] k (fun kq v5 v6 w' => ∃ (x5_1 : Int) (x6_1 : Int), v5 = .int .i64 x5_1 ∧ v6 = .int .i64 x6_1 ∧ Zs (laws_llKinds.l0 kq a1 x5_1 x6_1 a0_0 l0_1 = some r) ∧ Zs (kq ≤ k) ∧ Zs (w'.heap[gb282]? = some (.cells #[.int .i64 a0_0, (.slice A0_1 l0_1.length c0_1)] 25 (0, 0))) ∧ Zs (Below w.heap.size w w'))
 case atStart => exact ⟨(0), (0), (by first | rfl | (simp; done) | (simp [*]; done)), (by first | rfl | (simp; done) | (simp [*]; done)), H', ⟨Nat.le_refl _⟩, ⟨by (with_reducible repeat (first | refine kDN ?_ _ | refine kDr ?_ | refine kAl ?_ _)); exact BK282.out⟩, ⟨by repeat (first | (with_reducible first | exact HB.out | apply bAl | apply bDN | apply bD1 | refine bSt ?_ GE282.out) | exact HB.out)⟩⟩
 case round =>
  clear H'
  try clear p2
  obtain ⟨x5_1, x6_1, rfl, rfl, HA, HK1, BK282, HB⟩ := hrel
  cases gk with
  | zero => exact absurd HA.out (by simp [laws_llKinds.l0])
  | succ k1 =>
   have H := HA.out
   clear HA
   simp only [laws_llKinds.l0] at H
   by_cases c4 : x6_1 < (l0_1.length : Int)
   ·rw [if_pos c4] at H
    have c4b0 : decide (x6_1 < (l0_1.length : Int)) = true := decide_eq_true c4
    clear c4
    by_cases c5 : 0 ≤ x6_1
    ·rw [if_pos c5] at H
     have c5b0 : decide (0 ≤ x6_1) = true := decide_eq_true c5
     clear c5
     have HC6 := Zs.mk H
     clear H
     have hcz7_0 : wr.cell? ⟨gb282, 0, none⟩ = some (.int .i64 a0_0) := (kCe BK282.out 0).trans rfl
     have hcz7_1 : wr.cell? ⟨gb282, 1, none⟩ = some (.slice A0_1 l0_1.length c0_1) := (kCe BK282.out 1).trans rfl
     have hfz7_0 := kFr BK282.out 0
     have hfz7_1 := kFr BK282.out 1
     have p283 : 0 ≤ (x6_1 : Int) := of_decide_eq_true (by first | (with_reducible assumption) | assumption)
     have q283 : x6_1 < (l0_1.length : Int) := of_decide_eq_true (by first | (with_reducible assumption) | assumption)
     obtain ⟨ad283, e283, hx283_0, hx283_1⟩ := at_T57 HR0_1.out x6_1 p283 q283
     cases e283
     replace hx283_0 := (HB.out.cell (World.block_lt_of_cell? w _ hx283_0)).trans hx283_0
     replace hx283_1 := (HB.out.cell (World.block_lt_of_cell? w _ hx283_1)).trans hx283_1
     replace p283 := eq_true p283
     replace q283 := eq_true q283
     go_upto_if 22 with (fail)
     go_cut [7] (fun v7 wc => ∃ (kq : Nat) (x7_5 : Int), v7 = .int .i64 x7_5 ∧ Zs (laws_llKinds.j1 kq a1 x5_1 x6_1 x7_5 a0_0 l0_1 = some r) ∧ Zs (kq ≤ k1) ∧ Zs (wc.heap[gb282]? = some (.cells #[.int .i64 a0_0, (.slice (some ad283) l0_1.length c0_1)] 25 (0, 0))) ∧ Zs (Below w.heap.size w wc))
     case first =>
      have H := HC6.out
      clear HC6
      by_cases c8 : ((rd_T57 l0_1 x6_1).f0) = 3
      ·rw [if_pos c8] at H
       have c8b0 : (((rd_T57 l0_1 x6_1).f0) == 3) = true := beq_iff_eq.mpr c8
       have c8b1 : (((rd_T57 l0_1 x6_1).f0) != 3) = false := bne_eq_false_iff_eq.mpr c8
       clear c8
       (first | rw [c8b0] | (simp only [i64_w, i32_w]; rw [c8b0]) | skip)
       have H' := Zs.mk H
       clear H
       go_wp2
       go_meet
       case rel => exact ⟨_, (2), (by first | rfl | (simp; done) | (simp [*]; done)), H', ⟨by have := HK1.out; first | omega | exact Nat.le_refl _⟩, ⟨by (with_reducible repeat (first | refine kDN ?_ _ | refine kDr ?_ | refine kAl ?_ _)); exact BK282.out⟩, ⟨by repeat (first | (with_reducible first | exact HB.out | apply bAl | apply bDN | apply bD1 | refine bSt ?_ GE282.out) | exact HB.out)⟩⟩
      ·rw [if_neg c8] at H
       have c8b0 : (((rd_T57 l0_1 x6_1).f0) == 3) = false := beq_eq_false_iff_ne.mpr c8
       have c8b1 : (((rd_T57 l0_1 x6_1).f0) != 3) = true := bne_iff_ne.mpr c8
       (first | rw [c8b0] | (simp only [i64_w, i32_w]; rw [c8b0]) | skip)
       have H' := Zs.mk H
       clear H
       go_wp2
       go_meet
       case rel => exact ⟨_, ((rd_T57 l0_1 x6_1).f0), (by first | rfl | (simp; done) | (simp [*]; done)), H', ⟨by have := HK1.out; first | omega | exact Nat.le_refl _⟩, ⟨by (with_reducible repeat (first | refine kDN ?_ _ | refine kDr ?_ | refine kAl ?_ _)); exact BK282.out⟩, ⟨by repeat (first | (with_reducible first | exact HB.out | apply bAl | apply bDN | apply bD1 | refine bSt ?_ GE282.out) | exact HB.out)⟩⟩
     case rest =>
      clear HC6
      try clear p2
      try clear q2
      try clear hx2
      try clear c4
      try clear c4b0
      try clear c5
      try clear c5b0
      try clear c6
      try clear c8
      try clear c8b0
      try clear c8b1
      try clear hcz7_0
      try clear hcz7_1
      try clear hfz7_0
      try clear hfz7_1
      try clear hx283_0
      try clear hx283_1
      try clear p2
      try clear p283
      try clear q283
      obtain ⟨kq, x7_5, rfl, HA, HJ5, BK282, HB⟩ := hcut
      cases kq with
      | zero => exact absurd HA.out (by simp [laws_llKinds.j1])
      | succ kj5 =>
       have H := HA.out
       clear HA
       simp only [laws_llKinds.j1] at H
       by_cases c9 : x7_5 = 5
       ·rw [if_pos c9] at H
        have c9b0 : (x7_5 == 5) = true := beq_iff_eq.mpr c9
        have c9b1 : (x7_5 != 5) = false := bne_eq_false_iff_eq.mpr c9
        clear c9
        by_cases c10 : 4 = a1
        ·rw [if_pos c10] at H
         have c10b0 : (4 == a1) = true := beq_iff_eq.mpr c10
         have c10b1 : (4 != a1) = false := bne_eq_false_iff_eq.mpr c10
         clear c10
         have H' := Zs.mk H
         clear H
         go_wp2
         go_roundg kj5
         case measure => have := HK1.out; have := HJ5.out; omega
         case rel => exact ⟨(wrap64 (x5_1 + 1)), (wrap64 (x6_1 + 1)), (by first | rfl | (simp; done) | (simp [*]; done)), (by first | rfl | (simp; done) | (simp [*]; done)), H', ⟨by have := HK1.out; have := HJ5.out; omega⟩, ⟨by (with_reducible repeat (first | refine kDN ?_ _ | refine kDr ?_ | refine kAl ?_ _)); exact BK282.out⟩, ⟨by repeat (first | (with_reducible first | exact HB.out | apply bAl | apply bDN | apply bD1 | refine bSt ?_ GE282.out) | exact HB.out)⟩⟩
        ·rw [if_neg c10] at H
         have c10b0 : (4 == a1) = false := beq_eq_false_iff_ne.mpr c10
         have c10b1 : (4 != a1) = true := bne_iff_ne.mpr c10
         have H' := Zs.mk H
         clear H
         go_wp2
         go_roundg kj5
         case measure => have := HK1.out; have := HJ5.out; omega
         case rel => exact ⟨(x5_1), (wrap64 (x6_1 + 1)), (by first | rfl | (simp; done) | (simp [*]; done)), (by first | rfl | (simp; done) | (simp [*]; done)), H', ⟨by have := HK1.out; have := HJ5.out; omega⟩, ⟨by (with_reducible repeat (first | refine kDN ?_ _ | refine kDr ?_ | refine kAl ?_ _)); exact BK282.out⟩, ⟨by repeat (first | (with_reducible first | exact HB.out | apply bAl | apply bDN | apply bD1 | refine bSt ?_ GE282.out) | exact HB.out)⟩⟩
       ·rw [if_neg c9] at H
        have c9b0 : (x7_5 == 5) = false := beq_eq_false_iff_ne.mpr c9
        have c9b1 : (x7_5 != 5) = true := bne_iff_ne.mpr c9
        by_cases c11 : x7_5 = a1
        ·rw [if_pos c11] at H
         have c11b0 : (x7_5 == a1) = true := beq_iff_eq.mpr c11
         have c11b1 : (x7_5 != a1) = false := bne_eq_false_iff_eq.mpr c11
         clear c11
         have H' := Zs.mk H
         clear H
         go_wp2
         go_roundg kj5
         case measure => have := HK1.out; have := HJ5.out; omega
         case rel => exact ⟨(wrap64 (x5_1 + 1)), (wrap64 (x6_1 + 1)), (by first | rfl | (simp; done) | (simp [*]; done)), (by first | rfl | (simp; done) | (simp [*]; done)), H', ⟨by have := HK1.out; have := HJ5.out; omega⟩, ⟨by (with_reducible repeat (first | refine kDN ?_ _ | refine kDr ?_ | refine kAl ?_ _)); exact BK282.out⟩, ⟨by repeat (first | (with_reducible first | exact HB.out | apply bAl | apply bDN | apply bD1 | refine bSt ?_ GE282.out) | exact HB.out)⟩⟩
        ·rw [if_neg c11] at H
         have c11b0 : (x7_5 == a1) = false := beq_eq_false_iff_ne.mpr c11
         have c11b1 : (x7_5 != a1) = true := bne_iff_ne.mpr c11
         have H' := Zs.mk H
         clear H
         go_wp2
         go_roundg kj5
         case measure => have := HK1.out; have := HJ5.out; omega
         case rel => exact ⟨(x5_1), (wrap64 (x6_1 + 1)), (by first | rfl | (simp; done) | (simp [*]; done)), (by first | rfl | (simp; done) | (simp [*]; done)), H', ⟨by have := HK1.out; have := HJ5.out; omega⟩, ⟨by (with_reducible repeat (first | refine kDN ?_ _ | refine kDr ?_ | refine kAl ?_ _)); exact BK282.out⟩, ⟨by repeat (first | (with_reducible first | exact HB.out | apply bAl | apply bDN | apply bD1 | refine bSt ?_ GE282.out) | exact HB.out)⟩⟩
    ·rw [if_neg c5] at H
     exact absurd H (by simp)
   ·rw [if_neg c4] at H
    have c4b0 : decide (x6_1 < (l0_1.length : Int)) = false := decide_eq_false c4
    clear c4
    obtain rfl := Option.some.inj H
    have hcz12_0 : wr.cell? ⟨gb282, 0, none⟩ = some (.int .i64 a0_0) := (kCe BK282.out 0).trans rfl
    have hcz12_1 : wr.cell? ⟨gb282, 1, none⟩ = some (.slice A0_1 l0_1.length c0_1) := (kCe BK282.out 1).trans rfl
    have hfz12_0 := kFr BK282.out 0
    have hfz12_1 := kFr BK282.out 1
    go_wp2
    go_ret
    exact ⟨by first | rfl | (simp [errW_none, errW_some] <;> rfl) | (simp [*, errW_none, errW_some] <;> rfl), by repeat (first | (with_reducible first | exact HB.out | apply bAl | apply bDN | apply bD1 | refine bSt ?_ GE282.out) | exact HB.out)⟩

end Go.Proofs.Ytefbfeaeifbjeaa.PFnTrailNever
--slim
