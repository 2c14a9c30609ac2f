-- Written by a program of this session: the kit's print, with functions among it that were proved by hand.
import Derived.Test.YtejgohgmmndgbaaPFnTrailTurnx0
import Derived.Test.YtejgohgmmndgbaaPFnTrailTurnx26
import Derived.Test.YtejgohgmmndgbaaPFnTrailTurnx27
namespace Go.Proofs.Ytejgohgmmndgbaa.PFnTrailTurn
open Go.RowKit Go.Proofs.YtejgohgmmndgbaaW.PrintWords Go.Proofs.YtejgohgmmndgbaaW.PrintLast Go.Proofs.YtejgohgmmndgbaaW.PrintMore
attribute [local go_sem] max2_int min2_int max_two min_two max_three min_three max_four min_four   -- for this text's walks alone
set_option linter.unusedVariables false
set_option linter.unusedSimpArgs false

/-! ### impl_TrailTo: function 9 -/
def impl_TrailTo.l0 : Nat → Int → Int → List (S55) → Int → Int → Option (Int)
 | 0, _, _, _, _, _ => none
 | k + 1, x2, x7, x13, x14, x15 => if x15 < x14 then (if 0 ≤ x15 then (if x15 < (x13.length : Int) then (if ((rd_T55 x13 x15).f0) = 0 then (if ((rd_T55 x13 x15).f1) = x2 then (impl_TrailTo.l0 k x2 (wrap64 (x7 + ((rd_T55 x13 x15).f2))) x13 x14 (wrap64 (x15 + 1))) else (impl_TrailTo.l0 k x2 x7 x13 x14 (wrap64 (x15 + 1)))) else (impl_TrailTo.l0 k x2 x7 x13 x14 (wrap64 (x15 + 1)))) else (none)) else (none)) else (some x7)
def impl_TrailTo.f (k : Nat) (a0_0 : Int) (l0_1 : List (S57)) (a1 : Int) (a2 : Int) : Option (Int) := (impl_trailOf.f k a0_0 l0_1 a1).bind fun bt272 => (impl_TrailTo.l0 k a2 0 bt272.2 (bt272.2.length : Int) 0)
theorem impl_TrailTo.mono_l : ∀ k, (∀ y0 y1 y2 y3 y4, LeO (impl_TrailTo.l0 k y0 y1 y2 y3 y4) (impl_TrailTo.l0 (k + 1) y0 y1 y2 y3 y4))
 | 0 => fun _ _ _ _ _ r h => by simp [impl_TrailTo.l0] at h
 | k + 1 => by
  have ih0 := impl_TrailTo.mono_l k
  ·intro y0 y1 y2 y3 y4
   unfold impl_TrailTo.l0
   repeat' first
   | (with_reducible exact ih0 _ _ _ _ _)
   | (with_reducible exact impl_trailOf.mono _ _ _ _)
   | (with_reducible exact LeO.refl _)
   | (with_reducible exact LeO.none _)
   | (with_reducible refine LeO.ite ?_ ?_)
   | (with_reducible refine LeO.bind ?_ (fun _ => ?_))
   | exact ih0 _ _ _ _ _
   | exact impl_trailOf.mono _ _ _ _
   | exact LeO.none _
   | refine LeO.ite ?_ ?_
   | refine LeO.bind ?_ (fun _ => ?_)
theorem impl_TrailTo.mono : ∀ a0 a1 a2 a3 k, LeO (impl_TrailTo.f k a0 a1 a2 a3) (impl_TrailTo.f (k + 1) a0 a1 a2 a3) := by
 intro a0 a1 a2 a3 k
 have ih0 := impl_TrailTo.mono_l k
 unfold impl_TrailTo.f
 repeat' first
   | (with_reducible exact ih0 _ _ _ _ _)
   | (with_reducible exact impl_trailOf.mono _ _ _ _)
   | (with_reducible exact LeO.refl _)
   | (with_reducible exact LeO.none _)
   | (with_reducible refine LeO.ite ?_ ?_)
   | (with_reducible refine LeO.bind ?_ (fun _ => ?_))
   | exact ih0 _ _ _ _ _
   | exact impl_trailOf.mono _ _ _ _
   | exact LeO.none _
   | refine LeO.ite ?_ ?_
   | refine LeO.bind ?_ (fun _ => ?_)
set_option maxHeartbeats 8000000 in
set_option maxRecDepth 100000 in
theorem impl_TrailTo.calls (k : Nat) (a0_0 : Int) (A0_1 : Option Addr) (c0_1 : Nat) (l0_1 : List (S57)) (a1 : Int) (a2 : Int) (r : Int) (w : World) (hr0_1 : Kd.C k57 w A0_1 l0_1.length l0_1) (hc0_1 : l0_1.length ≤ c0_1) (h : impl_TrailTo.f k a0_0 l0_1 a1 a2 = some r) :
  Calls Try.prog 9 #[.agg #[.int .i64 a0_0, .slice A0_1 l0_1.length c0_1], .int .i64 a1, .int .i64 a2] w fun e w' => e = .returned (.int .i64 r) ∧ Below w.heap.size w w' := by
 have hu25 := Try.underlying25
 have hu55 := Try.underlying55
 have HR0_1 := Zs.mk hr0_1
 have HC0_1 := Zs.mk hc0_1
 clear hr0_1 hc0_1
 have HB := Zs.mk (Below.refl w.heap.size w)
 have H : ((impl_trailOf.f k a0_0 l0_1 a1).bind fun bt272 => (impl_TrailTo.l0 k a2 0 bt272.2 (bt272.2.length : Int) 0)) = some r := h
 clear h
 replace H := Option.bind_eq_some_iff.mp H
 obtain ⟨⟨t272, t275⟩, A40, H⟩ := H
 replace H : (impl_TrailTo.l0 k a2 0 t275 (t275.length : Int) 0) = some r := H
 have A4 := Zs.mk A40
 clear A40
 have H' := Zs.mk H
 clear H
 go_enter Try.func9, Try.ntmps9
 go_wp2_with (first | ((with_reducible refine gate_dst (N := 3) rfl ?_); refine box_event ?hg (N := 3) ?hd (cs := #[.int .i64 a0_0, .slice A0_1 l0_1.length c0_1]) (t := 25) ?hr ?_; (case hd => rfl); (case hg => rfl); (case hr => first | (go_simp; done) | (go_simp; rfl)); intro gb271 hg w5 hbox hb; have n0_ := Zs.mk (bSp zq2 hb); have n1_ := Zs.mk (hbox); have n2_ := Zs.mk ((by rw [hg]; exact (bSz zq2) : w.heap.size ≤ gb271)); have n3_ := Zs.mk ((by rw [hg]; exact (bSz zq2) : w.heap.size ≤ gb271)); clear HB; have HB := n0_; have BK271 := n1_; have GW271 := n2_; have GE271 := n3_; clear n0_ n1_ n2_ n3_; clear hb hbox hg; have hcz6_0 : w5.cell? ⟨gb271, 0, none⟩ = some (.int .i64 a0_0) := (kCe BK271.out 0).trans rfl; have hcz6_1 : w5.cell? ⟨gb271, 1, none⟩ = some (.slice A0_1 l0_1.length c0_1) := (kCe BK271.out 1).trans rfl; have hfz6_0 := kFr BK271.out 0; have hfz6_1 := kFr BK271.out 1) | ((with_reducible refine gate_callee (f := 44) rfl ?_); refine goesL_ (some 12) rfl rfl Try.func44 zq6 rfl #[.agg #[.int .i64 a0_0, .slice A0_1 l0_1.length c0_1], .int .i64 a1] rfl zq1 ?_; (with_reducible refine (impl_trailOf.calls k a0_0 _ _ l0_1 a1 t272 t275 _ ?side1 ?side2 A4.out).mono ?_); (case side1 => repeat (first | exact (Kd.C_below HR0_1.out HB.out) | (with_reducible refine Kd.C_alloc ?_ _) | (with_reducible refine Kd.C_drewN ?_ _) | (with_reducible refine Kd.C_drew ?_))); (case side2 => exact HC0_1.out); rintro e w7 ⟨v273, v276, rfl, ho0, ho1, hb⟩; obtain ⟨Av273, cv273, ev273⟩ := Kd.R_slice ho0; obtain ⟨Ao8, co8, ev276⟩ := Kd.R_slice ho1; subst ev273; subst ev276; have hfld0_ : ∀ w_, (Instr.field 71 (.agg #[.slice Av273 t272.length cv273, .slice Ao8 t275.length co8]) 0).run Try.prog w_ = .ok (.slice Av273 t272.length cv273) w_ := fun _ => zq6; have hfld1_ : ∀ w_, (Instr.field 71 (.agg #[.slice Av273 t272.length cv273, .slice Ao8 t275.length co8]) 1).run Try.prog w_ = .ok (.slice Ao8 t275.length co8) w_ := fun _ => zq6;  refine ⟨_, rfl, ?_⟩; have n0_ := Zs.mk (Kd.R_lower ho0 (bSz zq26)); have n1_ := Zs.mk (Kd.R_lower ho1 (bSz zq26)); have n2_ := Zs.mk (kBe (g := gb271) (o := .cells #[.int .i64 a0_0, .slice A0_1 l0_1.length c0_1] 25 (0, 0)) zq45 hb); have n3_ := Zs.mk (bSp zq26 hb); clear BK271; clear HB; have HO274 := n0_; have HO277 := n1_; have BK271 := n2_; have HB := n3_; clear n0_ n1_ n2_ n3_; (try clear hb); (try clear hb2); (try clear hk); (try clear hi); (try clear ho0); (try clear ho1)))
 go_loopg [7, 15] k (fun kq v7 v15 w' => ∃ (x7_1 : Int) (x15_1 : Int), v7 = .int .i64 x7_1 ∧ v15 = .int .i64 x15_1 ∧ Zs (impl_TrailTo.l0 kq a2 x7_1 t275 (t275.length : Int) x15_1 = some r) ∧ Zs (kq ≤ k) ∧ Zs (Kd.R k55 55 w' w.heap.size (fun _ => True) (.slice Ao8 t275.length co8) t275) ∧ Zs (w'.heap[gb271]? = some (.cells #[.int .i64 a0_0, (.slice A0_1 l0_1.length c0_1)] 25 (0, 0))) ∧ Zs (Below w.heap.size w w'))
 case atStart => exact ⟨(0), (0), zq13, zq13, H', ⟨Nat.le_refl _⟩, ⟨by (with_reducible repeat (first | apply Kd.R_alloc | apply Kd.R_drewN | apply Kd.R_drew)); exact HO277.out⟩, ⟨by (with_reducible repeat (first | refine kDN ?_ _ | refine kDr ?_ | refine kAl ?_ _)); exact BK271.out⟩, ⟨by repeat (first | (with_reducible first | exact HB.out | apply bAl | apply bDN | apply bD1 | refine bSt ?_ GE271.out) | exact HB.out)⟩⟩
 case round =>
  clear H'
  try clear p2
  try clear c4
  try clear hcz6_0
  try clear hcz6_1
  try clear hfz6_0
  try clear hfz6_1
  obtain ⟨x7_1, x15_1, rfl, rfl, HA, HK1, HO_13, BK271, HB⟩ := hrel
  cases gk with
  | zero => exact absurd HA.out (by simp [impl_TrailTo.l0])
  | succ k1 =>
   have H := HA.out
   clear HA
   simp only [impl_TrailTo.l0] at H
   by_cases c9 : x15_1 < (t275.length : Int)
   ·rw [if_pos c9] at H
    have c9b0 : decide (x15_1 < (t275.length : Int)) = true := decide_eq_true c9
    clear c9
    by_cases c10 : 0 ≤ x15_1
    ·rw [if_pos c10] at H
     have c10b0 : decide (0 ≤ x15_1) = true := decide_eq_true c10
     clear c10
     by_cases c11 : x15_1 < (t275.length : Int)
     ·rw [if_pos c11] at H
      have c11b0 : decide (x15_1 < (t275.length : Int)) = true := decide_eq_true c11
      clear c11
      by_cases c12 : ((rd_T55 t275 x15_1).f0) = 0
      ·rw [if_pos c12] at H
       have c12b0 : (((rd_T55 t275 x15_1).f0) == 0) = true := beq_iff_eq.mpr c12
       have c12b1 : (((rd_T55 t275 x15_1).f0) != 0) = false := bne_eq_false_iff_eq.mpr c12
       clear c12
       by_cases c13 : ((rd_T55 t275 x15_1).f1) = a2
       ·rw [if_pos c13] at H
        have c13b0 : (((rd_T55 t275 x15_1).f1) == a2) = true := beq_iff_eq.mpr c13
        have c13b1 : (((rd_T55 t275 x15_1).f1) != a2) = false := bne_eq_false_iff_eq.mpr c13
        clear c13
        have H' := Zs.mk H
        clear H
        have p278 : 0 ≤ (x15_1 : Int) := of_decide_eq_true zq8
        have q278 : x15_1 < (t275.length : Int) := of_decide_eq_true zq8
        obtain ⟨ad278, e278, hx278_0, hx278_1, hx278_2⟩ := at_T55 (Kd.R_reads' HO_13.out).2.2 x15_1 p278 q278
        cases e278
        replace p278 := eq_true p278
        replace q278 := eq_true q278
        go_wp2_with (first | ((with_reducible refine gate_dst (N := 9) rfl ?_); refine box_event ?hg (N := 9) ?hd (cs := #[.int .i64 0, .int .i64 0, .int .i64 0]) (t := 55) ?hr ?_; (case hd => rfl); (case hg => rfl); (case hr => first | (go_simp; done) | (go_simp; rfl)); intro gb279 hg w14 hbox hb; have n0_ := Zs.mk (Kd.R_below (Kd.R_elderB zq91 gb279 (Nat.le_of_eq hg.symm)) hb); have n1_ := Zs.mk (kBe (g := gb271) (o := .cells #[.int .i64 a0_0, .slice A0_1 l0_1.length c0_1] 25 (0, 0)) zq45 hb); have n2_ := Zs.mk (bSp zq26 hb); have n3_ := Zs.mk (hbox); have n4_ := Zs.mk ((by rw [hg]; exact (bSz zq26) : w.heap.size ≤ gb279)); have n5_ := Zs.mk ((by rw [hg]; exact (bSz zq26) : w.heap.size ≤ gb279)); have n6_ := Zs.mk ((by rw [hg]; exact Nat.ne_of_lt (blk_lt (g := gb271) (o := .cells #[.int .i64 a0_0, .slice A0_1 l0_1.length c0_1] 25 (0, 0)) zq45) : gb271 ≠ gb279)); have n7_ := Zs.mk ((by rw [hg]; exact Nat.ne_of_gt (blk_lt (g := gb271) (o := .cells #[.int .i64 a0_0, .slice A0_1 l0_1.length c0_1] 25 (0, 0)) zq45) : gb279 ≠ gb271)); clear HO_13; clear BK271; clear HB; have HO_13 := n0_; have BK271 := n1_; have HB := n2_; have BK279 := n3_; have GW279 := n4_; have GE279 := n5_; have NB271_279 := n6_; have NB279_271 := n7_; clear n0_ n1_ n2_ n3_ n4_ n5_ n6_ n7_; clear hb hbox hg; have hnb15 := NB279_271.out; have hnc15 := NB271_279.out; have hcz16_0 : w14.cell? ⟨gb279, 0, none⟩ = some (.int .i64 0) := (kCe BK279.out 0).trans rfl; have hcz16_1 : w14.cell? ⟨gb279, 1, none⟩ = some (.int .i64 0) := (kCe BK279.out 1).trans rfl; have hcz16_2 : w14.cell? ⟨gb279, 2, none⟩ = some (.int .i64 0) := (kCe BK279.out 2).trans rfl; have hfz16_0 := kFr BK279.out 0; have hfz16_1 := kFr BK279.out 1; have hfz16_2 := kFr BK279.out 2))
        go_roundg k1
        case measure => have := HK1.out; omega
        case rel => exact ⟨(wrap64 (x7_1 + ((rd_T55 t275 x15_1).f2))), (wrap64 (x15_1 + 1)), zq13, zq13, H', ⟨by have := HK1.out; omega⟩, ⟨by (with_reducible repeat (first | apply Kd.R_alloc | apply Kd.R_drewN | apply Kd.R_drew)); exact Kd.R_mono (Kd.R_far (p := ⟨gb279, 2, none⟩) (Kd.R_far (p := ⟨gb279, 1, none⟩) (Kd.R_far (p := ⟨gb279, 0, none⟩) (Kd.R_mono HO_13.out (fun k_ hk => (⟨hk, hk.2⟩ : _ ∧ k_ ≠ gb279))) (fun _ hk => hk.2) (.int .i64 ((rd_T55 t275 x15_1).f0))) (fun _ hk => hk.2) (.int .i64 ((rd_T55 t275 x15_1).f1))) (fun _ hk => hk.2) (.int .i64 ((rd_T55 t275 x15_1).f2))) (fun _ hk => trivial)⟩, ⟨by (with_reducible repeat (first | refine kDN ?_ _ | refine kDr ?_ | refine kAl ?_ _)); refine blk_far ?_ NB271_279.out _; (with_reducible repeat (first | refine kDN ?_ _ | refine kDr ?_ | refine kAl ?_ _)); refine blk_far ?_ NB271_279.out _; (with_reducible repeat (first | refine kDN ?_ _ | refine kDr ?_ | refine kAl ?_ _)); refine blk_far ?_ NB271_279.out _; (with_reducible repeat (first | refine kDN ?_ _ | refine kDr ?_ | refine kAl ?_ _)); exact BK271.out⟩, ⟨by repeat (first | (with_reducible first | exact HB.out | apply bAl | apply bDN | apply bD1 | refine bSt ?_ GE271.out | refine bSt ?_ GE279.out) | exact HB.out)⟩⟩
       ·rw [if_neg c13] at H
        have c13b0 : (((rd_T55 t275 x15_1).f1) == a2) = false := beq_eq_false_iff_ne.mpr c13
        have c13b1 : (((rd_T55 t275 x15_1).f1) != a2) = true := bne_iff_ne.mpr c13
        have H' := Zs.mk H
        clear H
        have p278 : 0 ≤ (x15_1 : Int) := of_decide_eq_true zq8
        have q278 : x15_1 < (t275.length : Int) := of_decide_eq_true zq8
        obtain ⟨ad278, e278, hx278_0, hx278_1, hx278_2⟩ := at_T55 (Kd.R_reads' HO_13.out).2.2 x15_1 p278 q278
        cases e278
        replace p278 := eq_true p278
        replace q278 := eq_true q278
        go_wp2_with (first | ((with_reducible refine gate_dst (N := 9) rfl ?_); refine box_event ?hg (N := 9) ?hd (cs := #[.int .i64 0, .int .i64 0, .int .i64 0]) (t := 55) ?hr ?_; (case hd => rfl); (case hg => rfl); (case hr => first | (go_simp; done) | (go_simp; rfl)); intro gb279 hg w17 hbox hb; have n0_ := Zs.mk (Kd.R_below (Kd.R_elderB zq91 gb279 (Nat.le_of_eq hg.symm)) hb); have n1_ := Zs.mk (kBe (g := gb271) (o := .cells #[.int .i64 a0_0, .slice A0_1 l0_1.length c0_1] 25 (0, 0)) zq45 hb); have n2_ := Zs.mk (bSp zq26 hb); have n3_ := Zs.mk (hbox); have n4_ := Zs.mk ((by rw [hg]; exact (bSz zq26) : w.heap.size ≤ gb279)); have n5_ := Zs.mk ((by rw [hg]; exact (bSz zq26) : w.heap.size ≤ gb279)); have n6_ := Zs.mk ((by rw [hg]; exact Nat.ne_of_lt (blk_lt (g := gb271) (o := .cells #[.int .i64 a0_0, .slice A0_1 l0_1.length c0_1] 25 (0, 0)) zq45) : gb271 ≠ gb279)); have n7_ := Zs.mk ((by rw [hg]; exact Nat.ne_of_gt (blk_lt (g := gb271) (o := .cells #[.int .i64 a0_0, .slice A0_1 l0_1.length c0_1] 25 (0, 0)) zq45) : gb279 ≠ gb271)); clear HO_13; clear BK271; clear HB; have HO_13 := n0_; have BK271 := n1_; have HB := n2_; have BK279 := n3_; have GW279 := n4_; have GE279 := n5_; have NB271_279 := n6_; have NB279_271 := n7_; clear n0_ n1_ n2_ n3_ n4_ n5_ n6_ n7_; clear hb hbox hg; have hnb18 := NB279_271.out; have hnc18 := NB271_279.out; have hcz19_0 : w17.cell? ⟨gb279, 0, none⟩ = some (.int .i64 0) := (kCe BK279.out 0).trans rfl; have hcz19_1 : w17.cell? ⟨gb279, 1, none⟩ = some (.int .i64 0) := (kCe BK279.out 1).trans rfl; have hcz19_2 : w17.cell? ⟨gb279, 2, none⟩ = some (.int .i64 0) := (kCe BK279.out 2).trans rfl; have hfz19_0 := kFr BK279.out 0; have hfz19_1 := kFr BK279.out 1; have hfz19_2 := kFr BK279.out 2))
        go_roundg k1
        case measure => have := HK1.out; omega
        case rel => exact ⟨(x7_1), (wrap64 (x15_1 + 1)), zq13, zq13, H', ⟨by have := HK1.out; omega⟩, ⟨by (with_reducible repeat (first | apply Kd.R_alloc | apply Kd.R_drewN | apply Kd.R_drew)); exact Kd.R_mono (Kd.R_far (p := ⟨gb279, 2, none⟩) (Kd.R_far (p := ⟨gb279, 1, none⟩) (Kd.R_far (p := ⟨gb279, 0, none⟩) (Kd.R_mono HO_13.out (fun k_ hk => (⟨hk, hk.2⟩ : _ ∧ k_ ≠ gb279))) (fun _ hk => hk.2) (.int .i64 ((rd_T55 t275 x15_1).f0))) (fun _ hk => hk.2) (.int .i64 ((rd_T55 t275 x15_1).f1))) (fun _ hk => hk.2) (.int .i64 ((rd_T55 t275 x15_1).f2))) (fun _ hk => trivial)⟩, ⟨by (with_reducible repeat (first | refine kDN ?_ _ | refine kDr ?_ | refine kAl ?_ _)); refine blk_far ?_ NB271_279.out _; (with_reducible repeat (first | refine kDN ?_ _ | refine kDr ?_ | refine kAl ?_ _)); refine blk_far ?_ NB271_279.out _; (with_reducible repeat (first | refine kDN ?_ _ | refine kDr ?_ | refine kAl ?_ _)); refine blk_far ?_ NB271_279.out _; (with_reducible repeat (first | refine kDN ?_ _ | refine kDr ?_ | refine kAl ?_ _)); exact BK271.out⟩, ⟨by repeat (first | (with_reducible first | exact HB.out | apply bAl | apply bDN | apply bD1 | refine bSt ?_ GE271.out | refine bSt ?_ GE279.out) | exact HB.out)⟩⟩
      ·rw [if_neg c12] at H
       have c12b0 : (((rd_T55 t275 x15_1).f0) == 0) = false := beq_eq_false_iff_ne.mpr c12
       have c12b1 : (((rd_T55 t275 x15_1).f0) != 0) = true := bne_iff_ne.mpr c12
       have H' := Zs.mk H
       clear H
       have p278 : 0 ≤ (x15_1 : Int) := of_decide_eq_true zq8
       have q278 : x15_1 < (t275.length : Int) := of_decide_eq_true zq8
       obtain ⟨ad278, e278, hx278_0, hx278_1, hx278_2⟩ := at_T55 (Kd.R_reads' HO_13.out).2.2 x15_1 p278 q278
       cases e278
       replace p278 := eq_true p278
       replace q278 := eq_true q278
       go_wp2_with (first | ((with_reducible refine gate_dst (N := 9) rfl ?_); refine box_event ?hg (N := 9) ?hd (cs := #[.int .i64 0, .int .i64 0, .int .i64 0]) (t := 55) ?hr ?_; (case hd => rfl); (case hg => rfl); (case hr => first | (go_simp; done) | (go_simp; rfl)); intro gb279 hg w20 hbox hb; have n0_ := Zs.mk (Kd.R_below (Kd.R_elderB zq91 gb279 (Nat.le_of_eq hg.symm)) hb); have n1_ := Zs.mk (kBe (g := gb271) (o := .cells #[.int .i64 a0_0, .slice A0_1 l0_1.length c0_1] 25 (0, 0)) zq45 hb); have n2_ := Zs.mk (bSp zq26 hb); have n3_ := Zs.mk (hbox); have n4_ := Zs.mk ((by rw [hg]; exact (bSz zq26) : w.heap.size ≤ gb279)); have n5_ := Zs.mk ((by rw [hg]; exact (bSz zq26) : w.heap.size ≤ gb279)); have n6_ := Zs.mk ((by rw [hg]; exact Nat.ne_of_lt (blk_lt (g := gb271) (o := .cells #[.int .i64 a0_0, .slice A0_1 l0_1.length c0_1] 25 (0, 0)) zq45) : gb271 ≠ gb279)); have n7_ := Zs.mk ((by rw [hg]; exact Nat.ne_of_gt (blk_lt (g := gb271) (o := .cells #[.int .i64 a0_0, .slice A0_1 l0_1.length c0_1] 25 (0, 0)) zq45) : gb279 ≠ gb271)); clear HO_13; clear BK271; clear HB; have HO_13 := n0_; have BK271 := n1_; have HB := n2_; have BK279 := n3_; have GW279 := n4_; have GE279 := n5_; have NB271_279 := n6_; have NB279_271 := n7_; clear n0_ n1_ n2_ n3_ n4_ n5_ n6_ n7_; clear hb hbox hg; have hnb21 := NB279_271.out; have hnc21 := NB271_279.out; have hcz22_0 : w20.cell? ⟨gb279, 0, none⟩ = some (.int .i64 0) := (kCe BK279.out 0).trans rfl; have hcz22_1 : w20.cell? ⟨gb279, 1, none⟩ = some (.int .i64 0) := (kCe BK279.out 1).trans rfl; have hcz22_2 : w20.cell? ⟨gb279, 2, none⟩ = some (.int .i64 0) := (kCe BK279.out 2).trans rfl; have hfz22_0 := kFr BK279.out 0; have hfz22_1 := kFr BK279.out 1; have hfz22_2 := kFr BK279.out 2))
       go_roundg k1
       case measure => have := HK1.out; omega
       case rel => exact ⟨(x7_1), (wrap64 (x15_1 + 1)), zq13, zq13, H', ⟨by have := HK1.out; omega⟩, ⟨by (with_reducible repeat (first | apply Kd.R_alloc | apply Kd.R_drewN | apply Kd.R_drew)); exact Kd.R_mono (Kd.R_far (p := ⟨gb279, 2, none⟩) (Kd.R_far (p := ⟨gb279, 1, none⟩) (Kd.R_far (p := ⟨gb279, 0, none⟩) (Kd.R_mono HO_13.out (fun k_ hk => (⟨hk, hk.2⟩ : _ ∧ k_ ≠ gb279))) (fun _ hk => hk.2) (.int .i64 ((rd_T55 t275 x15_1).f0))) (fun _ hk => hk.2) (.int .i64 ((rd_T55 t275 x15_1).f1))) (fun _ hk => hk.2) (.int .i64 ((rd_T55 t275 x15_1).f2))) (fun _ hk => trivial)⟩, ⟨by (with_reducible repeat (first | refine kDN ?_ _ | refine kDr ?_ | refine kAl ?_ _)); refine blk_far ?_ NB271_279.out _; (with_reducible repeat (first | refine kDN ?_ _ | refine kDr ?_ | refine kAl ?_ _)); refine blk_far ?_ NB271_279.out _; (with_reducible repeat (first | refine kDN ?_ _ | refine kDr ?_ | refine kAl ?_ _)); refine blk_far ?_ NB271_279.out _; (with_reducible repeat (first | refine kDN ?_ _ | refine kDr ?_ | refine kAl ?_ _)); exact BK271.out⟩, ⟨by repeat (first | (with_reducible first | exact HB.out | apply bAl | apply bDN | apply bD1 | refine bSt ?_ GE271.out | refine bSt ?_ GE279.out) | exact HB.out)⟩⟩
     ·rw [if_neg c11] at H
      exact absurd H zq58
    ·rw [if_neg c10] at H
     exact absurd H zq58
   ·rw [if_neg c9] at H
    have c9b0 : decide (x15_1 < (t275.length : Int)) = false := decide_eq_false c9
    clear c9
    obtain rfl := Option.some.inj H
    go_wp2
    go_ret
    exact ⟨by first | rfl | (simp [errW_none, errW_some] <;> rfl) | (simp [*, errW_none, errW_some] <;> rfl), by repeat (first | (with_reducible first | exact HB.out | apply bAl | apply bDN | apply bD1 | refine bSt ?_ GE271.out) | exact HB.out)⟩

end Go.Proofs.Ytejgohgmmndgbaa.PFnTrailTurn
--slim
