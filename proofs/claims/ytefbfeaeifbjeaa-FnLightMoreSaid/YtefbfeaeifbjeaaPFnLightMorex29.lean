-- Written by a program of this session: the kit's print, with functions among it that were proved by hand.
import Derived.Test.YtefbfeaeifbjeaaPFnLightMorex0
import Derived.Test.YtefbfeaeifbjeaaPFnLightMorex10
import Derived.Test.YtefbfeaeifbjeaaPFnLightMorex11
namespace Go.Proofs.Ytefbfeaeifbjeaa.PFnLightMore
open Go.RowKit Go.Proofs.YtefbfeaeifbjeaaW.PrintWords Go.Proofs.YtefbfeaeifbjeaaW.PrintLast Go.Proofs.YtefbfeaeifbjeaaW.PrintMore
attribute [local go_sem] max2_int min2_int max_two min_two max_three min_three max_four min_four   -- for this text's walks alone
set_option linter.unusedVariables false
set_option linter.unusedSimpArgs false

/-! ### impl_TrailLight: function 32 -/
def impl_TrailLight.l0 : Nat → Int → List (S60) → Int → Int → Int → List (S57) → Option (Int)
 | 0, _, _, _, _, _, _ => none
 | k + 1, x5, x11, x12, x13, x273000, x273001 => if x13 < x12 then (if 0 ≤ x13 then (if x13 < (x11.length : Int) then (if ((rd_T60 x11 x13).f0) = 2 then (if 0 ≤ ((rd_T60 x11 x13).f1) then (if ((rd_T60 x11 x13).f1) < (x273001.length : Int) then (impl_TrailLight.l0 k (wrap64 (x5 + (wrap64 (((rd_T60 x11 x13).f2) * ((rd_T57 x273001 ((rd_T60 x11 x13).f1)).f1))))) x11 x12 (wrap64 (x13 + 1)) x273000 x273001) else (none)) else (none)) else (impl_TrailLight.l0 k x5 x11 x12 (wrap64 (x13 + 1)) x273000 x273001)) else (none)) else (none)) else (some x5)
def impl_TrailLight.f (k : Nat) (a0_0 : Int) (l0_1 : List (S57)) (a1 : Int) : Option (Int) := (impl_trailOf.f k a0_0 l0_1 a1).bind fun bt273 => (impl_TrailLight.l0 k 0 bt273.2 (bt273.2.length : Int) 0 a0_0 l0_1)
theorem impl_TrailLight.mono_l : ∀ k, (∀ y0 y1 y2 y3 y4 y5, LeO (impl_TrailLight.l0 k y0 y1 y2 y3 y4 y5) (impl_TrailLight.l0 (k + 1) y0 y1 y2 y3 y4 y5))
 | 0 => fun _ _ _ _ _ _ r h => by simp [impl_TrailLight.l0] at h
 | k + 1 => by
  have ih0 := impl_TrailLight.mono_l k
  ·intro y0 y1 y2 y3 y4 y5
   unfold impl_TrailLight.l0
   repeat' first
   | (with_reducible exact ih0 _ _ _ _ _ _)
   | (with_reducible exact impl_trailOf.mono _ _ _ _)
   | (with_reducible exact LeO.refl _)
   | (with_reducible exact LeO.none _)
   | (with_reducible refine LeO.ite ?_ ?_)
   | (with_reducible refine LeO.bind ?_ (fun _ => ?_))
   | exact ih0 _ _ _ _ _ _
   | exact impl_trailOf.mono _ _ _ _
   | exact LeO.none _
   | refine LeO.ite ?_ ?_
   | refine LeO.bind ?_ (fun _ => ?_)
theorem impl_TrailLight.mono : ∀ a0 a1 a2 k, LeO (impl_TrailLight.f k a0 a1 a2) (impl_TrailLight.f (k + 1) a0 a1 a2) := by
 intro a0 a1 a2 k
 have ih0 := impl_TrailLight.mono_l k
 unfold impl_TrailLight.f
 repeat' first
   | (with_reducible exact ih0 _ _ _ _ _ _)
   | (with_reducible exact impl_trailOf.mono _ _ _ _)
   | (with_reducible exact LeO.refl _)
   | (with_reducible exact LeO.none _)
   | (with_reducible refine LeO.ite ?_ ?_)
   | (with_reducible refine LeO.bind ?_ (fun _ => ?_))
   | exact ih0 _ _ _ _ _ _
   | exact impl_trailOf.mono _ _ _ _
   | exact LeO.none _
   | refine LeO.ite ?_ ?_
   | refine LeO.bind ?_ (fun _ => ?_)
set_option maxHeartbeats 8000000 in
set_option maxRecDepth 100000 in
theorem impl_TrailLight.calls (k : Nat) (a0_0 : Int) (A0_1 : Option Addr) (c0_1 : Nat) (l0_1 : List (S57)) (a1 : Int) (r : Int) (w : World) (hr0_1 : Kd.C k57 w A0_1 l0_1.length l0_1) (hc0_1 : l0_1.length ≤ c0_1) (h : impl_TrailLight.f k a0_0 l0_1 a1 = some r) :
  Calls Try.prog 32 #[.agg #[.int .i64 a0_0, .slice A0_1 l0_1.length c0_1], .int .i64 a1] w fun e w' => e = .returned (.int .i64 r) ∧ Below w.heap.size w w' := by
 have hu25 := Try.underlying25
 have hu60 := Try.underlying60
 have HR0_1 := Zs.mk hr0_1
 have HC0_1 := Zs.mk hc0_1
 clear hr0_1 hc0_1
 have HB := Zs.mk (Below.refl w.heap.size w)
 have H : ((impl_trailOf.f k a0_0 l0_1 a1).bind fun bt273 => (impl_TrailLight.l0 k 0 bt273.2 (bt273.2.length : Int) 0 a0_0 l0_1)) = some r := h
 clear h
 replace H := Option.bind_eq_some_iff.mp H
 obtain ⟨⟨t273, t276⟩, A30, H⟩ := H
 replace H : (impl_TrailLight.l0 k 0 t276 (t276.length : Int) 0 a0_0 l0_1) = some r := H
 have A3 := Zs.mk A30
 clear A30
 have H' := Zs.mk H
 clear H
 go_enter Try.func32, Try.ntmps32
 go_wp2_with (first | ((with_reducible refine gate_dst (N := 2) rfl ?_); refine box_event ?hg (N := 2) ?hd (cs := #[.int .i64 a0_0, .slice A0_1 l0_1.length c0_1]) (t := 25) ?hr ?_; (case hd => rfl); (case hg => rfl); (case hr => first | (go_simp; done) | (go_simp; rfl)); intro gb272 hg w4 hbox hb; have n0_ := Zs.mk (bSp (by repeat (first | (with_reducible first | exact HB.out | apply bAl | apply bDN | apply bD1) | exact HB.out)) hb); have n1_ := Zs.mk (hbox); have n2_ := Zs.mk ((by rw [hg]; exact (bSz (by repeat (first | (with_reducible first | exact HB.out | apply bAl | apply bDN | apply bD1) | exact HB.out))) : w.heap.size ≤ gb272)); have n3_ := Zs.mk ((by rw [hg]; exact (bSz (by repeat (first | (with_reducible first | exact HB.out | apply bAl | apply bDN | apply bD1) | exact HB.out))) : w.heap.size ≤ gb272)); clear HB; have HB := n0_; have BK272 := n1_; have GW272 := n2_; have GE272 := n3_; clear n0_ n1_ n2_ n3_; clear hb hbox hg; have hcz5_0 : w4.cell? ⟨gb272, 0, none⟩ = some (.int .i64 a0_0) := (kCe BK272.out 0).trans rfl; have hcz5_1 : w4.cell? ⟨gb272, 1, none⟩ = some (.slice A0_1 l0_1.length c0_1) := (kCe BK272.out 1).trans rfl; have hfz5_0 := kFr BK272.out 0; have hfz5_1 := kFr BK272.out 1) | (go_at_call 54; (with_reducible refine (impl_trailOf.calls k a0_0 _ _ l0_1 a1 t273 t276 _ ?side1 ?side2 A3.out).mono ?_); (case side1 => repeat (first | exact (Kd.C_below HR0_1.out HB.out) | (with_reducible refine Kd.C_alloc ?_ _) | (with_reducible refine Kd.C_drewN ?_ _) | (with_reducible refine Kd.C_drew ?_))); (case side2 => exact HC0_1.out); rintro e w6 ⟨v274, v277, rfl, ho0, ho1, hb⟩; obtain ⟨Av274, cv274, ev274⟩ := Kd.R_slice ho0; obtain ⟨Ao7, co7, ev277⟩ := Kd.R_slice ho1; subst ev274; subst ev277; have hfld0_ : ∀ w_, (Instr.field 78 (.agg #[.slice Av274 t273.length cv274, .slice Ao7 t276.length co7]) 0).run Try.prog w_ = .ok (.slice Av274 t273.length cv274) w_ := fun _ => (by kernel_rfl); have hfld1_ : ∀ w_, (Instr.field 78 (.agg #[.slice Av274 t273.length cv274, .slice Ao7 t276.length co7]) 1).run Try.prog w_ = .ok (.slice Ao7 t276.length co7) w_ := fun _ => (by kernel_rfl);  have n0_ := Zs.mk (Kd.R_lower ho0 (bSz (by repeat (first | (with_reducible first | exact HB.out | apply bAl | apply bDN | apply bD1 | refine bSt ?_ GE272.out) | exact HB.out)))); have n1_ := Zs.mk (Kd.R_lower ho1 (bSz (by repeat (first | (with_reducible first | exact HB.out | apply bAl | apply bDN | apply bD1 | refine bSt ?_ GE272.out) | exact HB.out)))); have n2_ := Zs.mk (kBe (g := gb272) (o := .cells #[.int .i64 a0_0, .slice A0_1 l0_1.length c0_1] 25 (0, 0)) (by (with_reducible repeat (first | refine kDN ?_ _ | refine kDr ?_ | refine kAl ?_ _)); exact BK272.out) hb); have n3_ := Zs.mk (bSp (by repeat (first | (with_reducible first | exact HB.out | apply bAl | apply bDN | apply bD1 | refine bSt ?_ GE272.out) | exact HB.out)) hb); clear BK272; clear HB; have HO275 := n0_; have HO278 := n1_; have BK272 := n2_; have HB := n3_; clear n0_ n1_ n2_ n3_; (try clear hb); (try clear hb2); (try clear hk); (try clear hi); (try clear ho0); (try clear ho1)))
 repeat (go_quiet (fail); try go_wp2_with (fail))
 go_loopg [5, 13] k (fun kq v5 v13 w' => ∃ (x5_1 : Int) (x13_1 : Int), v5 = .int .i64 x5_1 ∧ v13 = .int .i64 x13_1 ∧ Zs (impl_TrailLight.l0 kq x5_1 t276 (t276.length : Int) x13_1 a0_0 l0_1 = some r) ∧ Zs (kq ≤ k) ∧ Zs (Kd.R k60 60 w' w.heap.size (fun _ => True) (.slice Ao7 t276.length co7) t276) ∧ Zs (w'.heap[gb272]? = some (.cells #[.int .i64 a0_0, (.slice A0_1 l0_1.length c0_1)] 25 (0, 0))) ∧ Zs (Below w.heap.size w w'))
 case atStart => exact ⟨(0), (0), (by first | rfl | (simp; done) | (simp [*]; done)), (by first | rfl | (simp; done) | (simp [*]; done)), H', ⟨Nat.le_refl _⟩, ⟨by (with_reducible repeat (first | apply Kd.R_alloc | apply Kd.R_drewN | apply Kd.R_drew)); exact HO278.out⟩, ⟨by (with_reducible repeat (first | refine kDN ?_ _ | refine kDr ?_ | refine kAl ?_ _)); exact BK272.out⟩, ⟨by repeat (first | (with_reducible first | exact HB.out | apply bAl | apply bDN | apply bD1 | refine bSt ?_ GE272.out) | exact HB.out)⟩⟩
 case round =>
  clear H'
  try clear p2
  try clear c3
  try clear hcz5_0
  try clear hcz5_1
  try clear hfz5_0
  try clear hfz5_1
  obtain ⟨x5_1, x13_1, rfl, rfl, HA, HK1, HO_11, BK272, HB⟩ := hrel
  cases gk with
  | zero => exact absurd HA.out (by simp [impl_TrailLight.l0])
  | succ k1 =>
   have H := HA.out
   clear HA
   simp only [impl_TrailLight.l0] at H
   by_cases c8 : x13_1 < (t276.length : Int)
   ·rw [if_pos c8] at H
    have c8b0 : decide (x13_1 < (t276.length : Int)) = true := decide_eq_true c8
    clear c8
    by_cases c9 : 0 ≤ x13_1
    ·rw [if_pos c9] at H
     have c9b0 : decide (0 ≤ x13_1) = true := decide_eq_true c9
     clear c9
     by_cases c10 : x13_1 < (t276.length : Int)
     ·rw [if_pos c10] at H
      have c10b0 : decide (x13_1 < (t276.length : Int)) = true := decide_eq_true c10
      clear c10
      by_cases c11 : ((rd_T60 t276 x13_1).f0) = 2
      ·rw [if_pos c11] at H
       have c11b0 : (((rd_T60 t276 x13_1).f0) == 2) = true := beq_iff_eq.mpr c11
       have c11b1 : (((rd_T60 t276 x13_1).f0) != 2) = false := bne_eq_false_iff_eq.mpr c11
       clear c11
       by_cases c12 : 0 ≤ ((rd_T60 t276 x13_1).f1)
       ·rw [if_pos c12] at H
        have c12b0 : decide (0 ≤ ((rd_T60 t276 x13_1).f1)) = true := decide_eq_true c12
        clear c12
        by_cases c13 : ((rd_T60 t276 x13_1).f1) < (l0_1.length : Int)
        ·rw [if_pos c13] at H
         have c13b0 : decide (((rd_T60 t276 x13_1).f1) < (l0_1.length : Int)) = true := decide_eq_true c13
         clear c13
         have H' := Zs.mk H
         clear H
         have p279 : 0 ≤ (x13_1 : Int) := of_decide_eq_true (by first | (with_reducible assumption) | assumption)
         have q279 : x13_1 < (t276.length : Int) := of_decide_eq_true (by first | (with_reducible assumption) | assumption)
         obtain ⟨ad279, e279, hx279_0, hx279_1, hx279_2⟩ := at_T60 (Kd.R_reads' HO_11.out).2.2 x13_1 p279 q279
         cases e279
         replace p279 := eq_true p279
         replace q279 := eq_true q279
         go_wp2_with (first | ((with_reducible refine gate_dst (N := 7) rfl ?_); refine box_event ?hg (N := 7) ?hd (cs := #[.int .i64 0, .int .i64 0, .int .i64 0]) (t := 60) ?hr ?_; (case hd => rfl); (case hg => rfl); (case hr => first | (go_simp; done) | (go_simp; rfl)); intro gb280 hg w14 hbox hb; have n0_ := Zs.mk (Kd.R_below (Kd.R_elderB (by (with_reducible repeat (first | apply Kd.R_alloc | apply Kd.R_drewN | apply Kd.R_drew)); exact HO_11.out) gb280 (Nat.le_of_eq hg.symm)) hb); have n1_ := Zs.mk (kBe (g := gb272) (o := .cells #[.int .i64 a0_0, .slice A0_1 l0_1.length c0_1] 25 (0, 0)) (by (with_reducible repeat (first | refine kDN ?_ _ | refine kDr ?_ | refine kAl ?_ _)); exact BK272.out) hb); have n2_ := Zs.mk (bSp (by repeat (first | (with_reducible first | exact HB.out | apply bAl | apply bDN | apply bD1 | refine bSt ?_ GE272.out) | exact HB.out)) hb); have n3_ := Zs.mk (hbox); have n4_ := Zs.mk ((by rw [hg]; exact (bSz (by repeat (first | (with_reducible first | exact HB.out | apply bAl | apply bDN | apply bD1 | refine bSt ?_ GE272.out) | exact HB.out))) : w.heap.size ≤ gb280)); have n5_ := Zs.mk ((by rw [hg]; exact (bSz (by repeat (first | (with_reducible first | exact HB.out | apply bAl | apply bDN | apply bD1 | refine bSt ?_ GE272.out) | exact HB.out))) : w.heap.size ≤ gb280)); have n6_ := Zs.mk ((by rw [hg]; exact Nat.ne_of_lt (blk_lt (g := gb272) (o := .cells #[.int .i64 a0_0, .slice A0_1 l0_1.length c0_1] 25 (0, 0)) (by (with_reducible repeat (first | refine kDN ?_ _ | refine kDr ?_ | refine kAl ?_ _)); exact BK272.out)) : gb272 ≠ gb280)); have n7_ := Zs.mk ((by rw [hg]; exact Nat.ne_of_gt (blk_lt (g := gb272) (o := .cells #[.int .i64 a0_0, .slice A0_1 l0_1.length c0_1] 25 (0, 0)) (by (with_reducible repeat (first | refine kDN ?_ _ | refine kDr ?_ | refine kAl ?_ _)); exact BK272.out)) : gb280 ≠ gb272)); clear HO_11; clear BK272; clear HB; have HO_11 := n0_; have BK272 := n1_; have HB := n2_; have BK280 := n3_; have GW280 := n4_; have GE280 := n5_; have NB272_280 := n6_; have NB280_272 := n7_; clear n0_ n1_ n2_ n3_ n4_ n5_ n6_ n7_; clear hb hbox hg; have hnb15 := NB280_272.out; have hnc15 := NB272_280.out; have hcz16_0 : w14.cell? ⟨gb280, 0, none⟩ = some (.int .i64 0) := (kCe BK280.out 0).trans rfl; have hcz16_1 : w14.cell? ⟨gb280, 1, none⟩ = some (.int .i64 0) := (kCe BK280.out 1).trans rfl; have hcz16_2 : w14.cell? ⟨gb280, 2, none⟩ = some (.int .i64 0) := (kCe BK280.out 2).trans rfl; have hfz16_0 := kFr BK280.out 0; have hfz16_1 := kFr BK280.out 1; have hfz16_2 := kFr BK280.out 2; have hcz17_0 : w14.cell? ⟨gb272, 0, none⟩ = some (.int .i64 a0_0) := (kCe BK272.out 0).trans rfl; have hcz17_1 : w14.cell? ⟨gb272, 1, none⟩ = some (.slice A0_1 l0_1.length c0_1) := (kCe BK272.out 1).trans rfl; have hfz17_0 := kFr BK272.out 0; have hfz17_1 := kFr BK272.out 1; have p281 : 0 ≤ (((rd_T60 t276 x13_1).f1) : Int) := of_decide_eq_true (by first | (with_reducible assumption) | assumption); have q281 : ((rd_T60 t276 x13_1).f1) < (l0_1.length : Int) := of_decide_eq_true (by first | (with_reducible assumption) | assumption); obtain ⟨ad281, e281, hx281_0, hx281_1⟩ := at_T57 HR0_1.out ((rd_T60 t276 x13_1).f1) p281 q281; cases e281; have hn281_0 : ad281.block ≠ gb280 := Nat.ne_of_lt (Nat.lt_of_lt_of_le (by have := World.block_lt_of_cell? _ _ hx281_0; first | rwa [add_block] at this | exact this) GW280.out); have hn281_1 : ad281.block ≠ gb280 := Nat.ne_of_lt (Nat.lt_of_lt_of_le (by have := World.block_lt_of_cell? _ _ hx281_0; first | rwa [add_block] at this | exact this) GW280.out); have hn281_2 : ad281.block ≠ gb280 := Nat.ne_of_lt (Nat.lt_of_lt_of_le (by have := World.block_lt_of_cell? _ _ hx281_0; first | rwa [add_block] at this | exact this) GW280.out); replace hx281_0 := (HB.out.cell (World.block_lt_of_cell? w _ hx281_0)).trans hx281_0; replace hx281_1 := (HB.out.cell (World.block_lt_of_cell? w _ hx281_1)).trans hx281_1; replace hx281_0 := (cell_far (p := ⟨gb280, 0, none⟩) (by first | (rw [add_block]; exact hn281_0) | (show (Addr.add _ _).block ≠ _; rw [add_block]; exact hn281_0) | exact hn281_0) (.int .i64 ((rd_T60 t276 x13_1).f0))).trans hx281_0; replace hx281_1 := (cell_far (p := ⟨gb280, 0, none⟩) (by first | (rw [add_block]; exact hn281_0) | (show (Addr.add _ _).block ≠ _; rw [add_block]; exact hn281_0) | exact hn281_0) (.int .i64 ((rd_T60 t276 x13_1).f0))).trans hx281_1; replace hx281_0 := (cell_far (p := ⟨gb280, 1, none⟩) (by first | (rw [add_block]; exact hn281_1) | (show (Addr.add _ _).block ≠ _; rw [add_block]; exact hn281_1) | exact hn281_1) (.int .i64 ((rd_T60 t276 x13_1).f1))).trans hx281_0; replace hx281_1 := (cell_far (p := ⟨gb280, 1, none⟩) (by first | (rw [add_block]; exact hn281_1) | (show (Addr.add _ _).block ≠ _; rw [add_block]; exact hn281_1) | exact hn281_1) (.int .i64 ((rd_T60 t276 x13_1).f1))).trans hx281_1; replace hx281_0 := (cell_far (p := ⟨gb280, 2, none⟩) (by first | (rw [add_block]; exact hn281_2) | (show (Addr.add _ _).block ≠ _; rw [add_block]; exact hn281_2) | exact hn281_2) (.int .i64 ((rd_T60 t276 x13_1).f2))).trans hx281_0; replace hx281_1 := (cell_far (p := ⟨gb280, 2, none⟩) (by first | (rw [add_block]; exact hn281_2) | (show (Addr.add _ _).block ≠ _; rw [add_block]; exact hn281_2) | exact hn281_2) (.int .i64 ((rd_T60 t276 x13_1).f2))).trans hx281_1; (try have hy281_0 := fun (n_ : Nat) => (show (((((w14.drewN n_).setCell ⟨gb280, 0, none⟩ (.int .i64 ((rd_T60 t276 x13_1).f0))).setCell ⟨gb280, 1, none⟩ (.int .i64 ((rd_T60 t276 x13_1).f1))).setCell ⟨gb280, 2, none⟩ (.int .i64 ((rd_T60 t276 x13_1).f2)))).cell? _ = some _ from hx281_0)); (try have hy281_1 := fun (n_ : Nat) => (show (((((w14.drewN n_).setCell ⟨gb280, 0, none⟩ (.int .i64 ((rd_T60 t276 x13_1).f0))).setCell ⟨gb280, 1, none⟩ (.int .i64 ((rd_T60 t276 x13_1).f1))).setCell ⟨gb280, 2, none⟩ (.int .i64 ((rd_T60 t276 x13_1).f2)))).cell? _ = some _ from hx281_1)); clear hn281_0; clear hn281_1; clear hn281_2; replace p281 := eq_true p281; replace q281 := eq_true q281))
         repeat (go_quiet (fail); try go_wp2_with (fail))
         go_roundg k1
         case measure => have := HK1.out; omega
         case rel => exact ⟨(wrap64 (x5_1 + (wrap64 (((rd_T60 t276 x13_1).f2) * ((rd_T57 l0_1 ((rd_T60 t276 x13_1).f1)).f1))))), (wrap64 (x13_1 + 1)), (by first | rfl | (simp; done) | (simp [*]; done)), (by first | rfl | (simp; done) | (simp [*]; done)), H', ⟨by have := HK1.out; omega⟩, ⟨by (with_reducible repeat (first | apply Kd.R_alloc | apply Kd.R_drewN | apply Kd.R_drew)); exact Kd.R_mono (Kd.R_far (p := ⟨gb280, 2, none⟩) (Kd.R_far (p := ⟨gb280, 1, none⟩) (Kd.R_far (p := ⟨gb280, 0, none⟩) (Kd.R_mono HO_11.out (fun k_ hk => (⟨hk, hk.2⟩ : _ ∧ k_ ≠ gb280))) (fun _ hk => hk.2) (.int .i64 ((rd_T60 t276 x13_1).f0))) (fun _ hk => hk.2) (.int .i64 ((rd_T60 t276 x13_1).f1))) (fun _ hk => hk.2) (.int .i64 ((rd_T60 t276 x13_1).f2))) (fun _ hk => trivial)⟩, ⟨by (with_reducible repeat (first | refine kDN ?_ _ | refine kDr ?_ | refine kAl ?_ _)); refine blk_far ?_ NB272_280.out _; (with_reducible repeat (first | refine kDN ?_ _ | refine kDr ?_ | refine kAl ?_ _)); refine blk_far ?_ NB272_280.out _; (with_reducible repeat (first | refine kDN ?_ _ | refine kDr ?_ | refine kAl ?_ _)); refine blk_far ?_ NB272_280.out _; (with_reducible repeat (first | refine kDN ?_ _ | refine kDr ?_ | refine kAl ?_ _)); exact BK272.out⟩, ⟨by repeat (first | (with_reducible first | exact HB.out | apply bAl | apply bDN | apply bD1 | refine bSt ?_ GE272.out | refine bSt ?_ GE280.out) | exact HB.out)⟩⟩
        ·rw [if_neg c13] at H
         exact absurd H (by simp)
       ·rw [if_neg c12] at H
        exact absurd H (by simp)
      ·rw [if_neg c11] at H
       have c11b0 : (((rd_T60 t276 x13_1).f0) == 2) = false := beq_eq_false_iff_ne.mpr c11
       have c11b1 : (((rd_T60 t276 x13_1).f0) != 2) = true := bne_iff_ne.mpr c11
       have H' := Zs.mk H
       clear H
       have p279 : 0 ≤ (x13_1 : Int) := of_decide_eq_true (by first | (with_reducible assumption) | assumption)
       have q279 : x13_1 < (t276.length : Int) := of_decide_eq_true (by first | (with_reducible assumption) | assumption)
       obtain ⟨ad279, e279, hx279_0, hx279_1, hx279_2⟩ := at_T60 (Kd.R_reads' HO_11.out).2.2 x13_1 p279 q279
       cases e279
       replace p279 := eq_true p279
       replace q279 := eq_true q279
       go_wp2_with (first | ((with_reducible refine gate_dst (N := 7) rfl ?_); refine box_event ?hg (N := 7) ?hd (cs := #[.int .i64 0, .int .i64 0, .int .i64 0]) (t := 60) ?hr ?_; (case hd => rfl); (case hg => rfl); (case hr => first | (go_simp; done) | (go_simp; rfl)); intro gb280 hg w18 hbox hb; have n0_ := Zs.mk (Kd.R_below (Kd.R_elderB (by (with_reducible repeat (first | apply Kd.R_alloc | apply Kd.R_drewN | apply Kd.R_drew)); exact HO_11.out) gb280 (Nat.le_of_eq hg.symm)) hb); have n1_ := Zs.mk (kBe (g := gb272) (o := .cells #[.int .i64 a0_0, .slice A0_1 l0_1.length c0_1] 25 (0, 0)) (by (with_reducible repeat (first | refine kDN ?_ _ | refine kDr ?_ | refine kAl ?_ _)); exact BK272.out) hb); have n2_ := Zs.mk (bSp (by repeat (first | (with_reducible first | exact HB.out | apply bAl | apply bDN | apply bD1 | refine bSt ?_ GE272.out) | exact HB.out)) hb); have n3_ := Zs.mk (hbox); have n4_ := Zs.mk ((by rw [hg]; exact (bSz (by repeat (first | (with_reducible first | exact HB.out | apply bAl | apply bDN | apply bD1 | refine bSt ?_ GE272.out) | exact HB.out))) : w.heap.size ≤ gb280)); have n5_ := Zs.mk ((by rw [hg]; exact (bSz (by repeat (first | (with_reducible first | exact HB.out | apply bAl | apply bDN | apply bD1 | refine bSt ?_ GE272.out) | exact HB.out))) : w.heap.size ≤ gb280)); have n6_ := Zs.mk ((by rw [hg]; exact Nat.ne_of_lt (blk_lt (g := gb272) (o := .cells #[.int .i64 a0_0, .slice A0_1 l0_1.length c0_1] 25 (0, 0)) (by (with_reducible repeat (first | refine kDN ?_ _ | refine kDr ?_ | refine kAl ?_ _)); exact BK272.out)) : gb272 ≠ gb280)); have n7_ := Zs.mk ((by rw [hg]; exact Nat.ne_of_gt (blk_lt (g := gb272) (o := .cells #[.int .i64 a0_0, .slice A0_1 l0_1.length c0_1] 25 (0, 0)) (by (with_reducible repeat (first | refine kDN ?_ _ | refine kDr ?_ | refine kAl ?_ _)); exact BK272.out)) : gb280 ≠ gb272)); clear HO_11; clear BK272; clear HB; have HO_11 := n0_; have BK272 := n1_; have HB := n2_; have BK280 := n3_; have GW280 := n4_; have GE280 := n5_; have NB272_280 := n6_; have NB280_272 := n7_; clear n0_ n1_ n2_ n3_ n4_ n5_ n6_ n7_; clear hb hbox hg; have hnb19 := NB280_272.out; have hnc19 := NB272_280.out; have hcz20_0 : w18.cell? ⟨gb280, 0, none⟩ = some (.int .i64 0) := (kCe BK280.out 0).trans rfl; have hcz20_1 : w18.cell? ⟨gb280, 1, none⟩ = some (.int .i64 0) := (kCe BK280.out 1).trans rfl; have hcz20_2 : w18.cell? ⟨gb280, 2, none⟩ = some (.int .i64 0) := (kCe BK280.out 2).trans rfl; have hfz20_0 := kFr BK280.out 0; have hfz20_1 := kFr BK280.out 1; have hfz20_2 := kFr BK280.out 2))
       repeat (go_quiet (fail); try go_wp2_with (fail))
       go_roundg k1
       case measure => have := HK1.out; omega
       case rel => exact ⟨(x5_1), (wrap64 (x13_1 + 1)), (by first | rfl | (simp; done) | (simp [*]; done)), (by first | rfl | (simp; done) | (simp [*]; done)), H', ⟨by have := HK1.out; omega⟩, ⟨by (with_reducible repeat (first | apply Kd.R_alloc | apply Kd.R_drewN | apply Kd.R_drew)); exact Kd.R_mono (Kd.R_far (p := ⟨gb280, 2, none⟩) (Kd.R_far (p := ⟨gb280, 1, none⟩) (Kd.R_far (p := ⟨gb280, 0, none⟩) (Kd.R_mono HO_11.out (fun k_ hk => (⟨hk, hk.2⟩ : _ ∧ k_ ≠ gb280))) (fun _ hk => hk.2) (.int .i64 ((rd_T60 t276 x13_1).f0))) (fun _ hk => hk.2) (.int .i64 ((rd_T60 t276 x13_1).f1))) (fun _ hk => hk.2) (.int .i64 ((rd_T60 t276 x13_1).f2))) (fun _ hk => trivial)⟩, ⟨by (with_reducible repeat (first | refine kDN ?_ _ | refine kDr ?_ | refine kAl ?_ _)); refine blk_far ?_ NB272_280.out _; (with_reducible repeat (first | refine kDN ?_ _ | refine kDr ?_ | refine kAl ?_ _)); refine blk_far ?_ NB272_280.out _; (with_reducible repeat (first | refine kDN ?_ _ | refine kDr ?_ | refine kAl ?_ _)); refine blk_far ?_ NB272_280.out _; (with_reducible repeat (first | refine kDN ?_ _ | refine kDr ?_ | refine kAl ?_ _)); exact BK272.out⟩, ⟨by repeat (first | (with_reducible first | exact HB.out | apply bAl | apply bDN | apply bD1 | refine bSt ?_ GE272.out | refine bSt ?_ GE280.out) | exact HB.out)⟩⟩
     ·rw [if_neg c10] at H
      exact absurd H (by simp)
    ·rw [if_neg c9] at H
     exact absurd H (by simp)
   ·rw [if_neg c8] at H
    have c8b0 : decide (x13_1 < (t276.length : Int)) = false := decide_eq_false c8
    clear c8
    obtain rfl := Option.some.inj H
    go_wp2
    repeat (go_quiet (fail); try go_wp2)
    go_ret
    exact ⟨by first | rfl | (simp [errW_none, errW_some] <;> rfl) | (simp [*, errW_none, errW_some] <;> rfl), by repeat (first | (with_reducible first | exact HB.out | apply bAl | apply bDN | apply bD1 | refine bSt ?_ GE272.out) | exact HB.out)⟩

end Go.Proofs.Ytefbfeaeifbjeaa.PFnLightMore
--slim
