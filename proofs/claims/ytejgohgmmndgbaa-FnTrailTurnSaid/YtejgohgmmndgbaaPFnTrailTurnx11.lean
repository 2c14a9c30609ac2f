-- Written by a program of this session: the kit's print, with functions among it that were proved by hand.
import Derived.Test.YtejgohgmmndgbaaPFnTrailTurnx0
import Derived.Test.YtejgohgmmndgbaaPFnTrailTurnx9
import Derived.Test.YtejgohgmmndgbaaPFnTrailTurnx10
namespace Go.Proofs.Ytejgohgmmndgbaa.PFnTrailTurn
open Go.RowKit Go.Proofs.YtejgohgmmndgbaaW.PrintWords Go.Proofs.YtejgohgmmndgbaaW.PrintLast Go.Proofs.YtejgohgmmndgbaaW.PrintMore
attribute [local go_sem] max2_int min2_int max_two min_two max_three min_three max_four min_four   -- for this text's walks alone
set_option linter.unusedVariables false
set_option linter.unusedSimpArgs false

/-! ### spec_l71Off: function 63 -/
def spec_l71Off.f (k : Nat) (s0_0 : List Int) (s0_1 : Int) : Option (Int × Int × Int) := (some (([(⟨(-1), 0⟩ : S57), (⟨8, 0⟩ : S57), (⟨7, 0⟩ : S57), (⟨7, 10⟩ : S57), (⟨1, 1⟩ : S57), (⟨0, 0⟩ : S57)] : List (S57)) : List (S57))).bind fun y150 => ((spec_l6Rd_pick.f k s0_0 s0_1 6).bind fun bt153 => (if 0 ≤ bt153.1 then (if bt153.1 < (y150.length : Int) then (some ((rd_T57 y150 bt153.1).f0, (rd_T57 y150 bt153.1).f1, bt153.2)) else (none)) else (none)))
theorem spec_l71Off.mono : ∀ a0 a1 k, LeO (spec_l71Off.f k a0 a1) (spec_l71Off.f (k + 1) a0 a1) := by
 intro a0 a1 k
 unfold spec_l71Off.f
 repeat' first
   | (with_reducible exact spec_l6Rd_pick.mono _ _ _ _)
   | (with_reducible exact LeO.refl _)
   | (with_reducible exact LeO.none _)
   | (with_reducible refine LeO.ite ?_ ?_)
   | (with_reducible refine LeO.bind ?_ (fun _ => ?_))
   | exact spec_l6Rd_pick.mono _ _ _ _
   | exact LeO.none _
   | refine LeO.ite ?_ ?_
   | refine LeO.bind ?_ (fun _ => ?_)
set_option maxHeartbeats 8000000 in
set_option maxRecDepth 100000 in
theorem spec_l71Off.calls (k : Nat) (g : Nat) (s0_0 : List Int) (s0_1 : Int) (r1 : Int) (r2 : Int) (r3 : Int) (w0 w : World) (hI : IsS90 w0 w g s0_0 s0_1) (hB : Below w0.heap.size w0 w) (h : spec_l71Off.f k s0_0 s0_1 = some (r1, r2, r3)) :
  Calls Try.prog 63 #[.pointer (some ⟨g, 0, none⟩)] w fun e w' => e = .returned (.agg #[.int .i64 r1, .int .i64 r2]) ∧ IsS90 w0 w' g s0_0 r3 ∧ Below w0.heap.size w0 w' ∧ KeepBut w w' g none := by
 have hu57 := Try.underlying57
 have HI0 := Zs.mk hI
 have HK := Zs.mk (KeepBut.refl w g none)
 have HL := Zs.mk hB.size
 clear hI
 have HW0 := Zs.mk hB.size
 have HB := Zs.mk hB
 clear hB
 have H : ((some (([(⟨(-1), 0⟩ : S57), (⟨8, 0⟩ : S57), (⟨7, 0⟩ : S57), (⟨7, 10⟩ : S57), (⟨1, 1⟩ : S57), (⟨0, 0⟩ : S57)] : List (S57)) : List (S57))).bind fun y150 => ((spec_l6Rd_pick.f k s0_0 s0_1 6).bind fun bt153 => (if 0 ≤ bt153.1 then (if bt153.1 < (y150.length : Int) then (some ((rd_T57 y150 bt153.1).f0, (rd_T57 y150 bt153.1).f1, bt153.2)) else (none)) else (none)))) = some (r1, r2, r3) := h
 clear h
 obtain ⟨y150, hy150⟩ : ∃ y_ : List (S57), y_ = (([(⟨(-1), 0⟩ : S57), (⟨8, 0⟩ : S57), (⟨7, 0⟩ : S57), (⟨7, 10⟩ : S57), (⟨1, 1⟩ : S57), (⟨0, 0⟩ : S57)] : List (S57))) := ⟨_, rfl⟩
 replace H : ((spec_l6Rd_pick.f k s0_0 s0_1 6).bind fun bt153 => (if 0 ≤ bt153.1 then (if bt153.1 < (y150.length : Int) then (some ((rd_T57 y150 bt153.1).f0, (rd_T57 y150 bt153.1).f1, bt153.2)) else (none)) else (none))) = some (r1, r2, r3) := by first | (rw [hy150]; with_reducible exact H) | (have H2_ := (Option.bind_some _ _).symm.trans H; rw [hy150]; with_reducible exact H2_) | (have H2_ := (Option.bind_some _ _).symm.trans H; with_reducible exact H2_) | with_reducible exact H | (rw [hy150]; exact H) | exact H
 have Ny150 := Zs.mk hy150
 clear hy150
 replace H := Option.bind_eq_some_iff.mp H
 obtain ⟨⟨t153, t154⟩, A20, H⟩ := H
 replace H : (if 0 ≤ t153 then (if t153 < (y150.length : Int) then (some ((rd_T57 y150 t153).f0, (rd_T57 y150 t153).f1, t154)) else (none)) else (none)) = some (r1, r2, r3) := H
 have A2 := Zs.mk A20
 clear A20
 by_cases c3 : 0 ≤ t153
 ·rw [if_pos c3] at H
  have c3b0 : decide (0 ≤ t153) = true := decide_eq_true c3
  clear c3
  by_cases c4 : t153 < (y150.length : Int)
  ·rw [if_pos c4] at H
   have c4b0 : decide (t153 < (y150.length : Int)) = true := decide_eq_true c4
   clear c4
   simp only [Option.some.injEq, Prod.mk.injEq] at H
   obtain ⟨rfl, rfl, rfl⟩ := H
   go_enter Try.func63, Try.ntmps63
   go_wp2_with (first | ((with_reducible refine gate_dst (N := 2) rfl ?_); refine box_event ?hg (N := 2) ?hd (cs := #[.int .i64 0, .int .i64 0]) (t := 57) ?hr ?_; (case hd => rfl); (case hg => rfl); (case hr => first | (go_simp; done) | (go_simp; rfl)); intro gb149 hg w5 hbox hb; have n0_ := Zs.mk (IsS90.below zq20 hb); have n1_ := Zs.mk (KeepBut.trans zq4 (KeepBut.of_below hb g none) (.inl rfl)); have n2_ := Zs.mk (bSp zq23 hb); have n3_ := Zs.mk (hbox); have n4_ := Zs.mk ((by rw [hg]; exact (keep_size (w := w) (g := g) (row := none) zq4) : w.heap.size ≤ gb149)); have n5_ := Zs.mk ((Nat.le_trans HW0.out (by rw [hg]; exact (keep_size (w := w) (g := g) (row := none) zq4) : w.heap.size ≤ gb149) : w0.heap.size ≤ gb149)); have n6_ := Zs.mk ((by rw [hg]; exact Nat.ne_of_lt (IsS90.lt (show IsS90 w0 _ g s0_0 s0_1 from by repeat (first | (with_reducible first | exact HI0.out | apply IsS90.alloc | apply IsS90.drewN | apply IsS90.drew | apply IsS90.set_1) | exact HI0.out))) : g ≠ gb149)); have n7_ := Zs.mk ((by rw [hg]; exact Nat.ne_of_gt (IsS90.lt (show IsS90 w0 _ g s0_0 s0_1 from by repeat (first | (with_reducible first | exact HI0.out | apply IsS90.alloc | apply IsS90.drewN | apply IsS90.drew | apply IsS90.set_1) | exact HI0.out))) : gb149 ≠ g)); clear HI0; clear HK; clear HB; have HI0 := n0_; have HK := n1_; have HB := n2_; have BK149 := n3_; have GW149 := n4_; have GE149 := n5_; have NB0_149 := n6_; have NB149_0 := n7_; clear n0_ n1_ n2_ n3_ n4_ n5_ n6_ n7_; clear hb hbox hg) | ((with_reducible refine gate_dst (N := 9) rfl ?_); refine Kd.R_lit k57 _ 57 ?hg (N := 9) ?hd (xs := ([(⟨(-1), 0⟩ : S57), (⟨8, 0⟩ : S57), (⟨7, 0⟩ : S57), (⟨7, 10⟩ : S57), (⟨1, 1⟩ : S57), (⟨0, 0⟩ : S57)] : List (S57))) (inner := [.int .i64 (-1), .int .i64 0, .int .i64 8, .int .i64 0, .int .i64 7, .int .i64 0, .int .i64 7, .int .i64 10, .int .i64 1, .int .i64 1, .int .i64 0, .int .i64 0]) (ok := fun _ => True) (okp := fun _ => True) ?hr ?hp (fun _ hk => hk) trivial (Below.refl _ _) (Nat.le_refl _) zq58 ?_; (case hd => rfl); (case hg => rfl); (case hr => first | (go_simp; done) | (go_simp; rfl)); (case hp => exact (Reps.c2 (show Kd.M k57 _ _ _ (⟨(-1), 0⟩ : S57) [.int .i64 (-1), .int .i64 0] from (k57_mkM _ _ _ (⟨(-1), 0⟩ : S57) )) (Reps.c2 (show Kd.M k57 _ _ _ (⟨8, 0⟩ : S57) [.int .i64 8, .int .i64 0] from (k57_mkM _ _ _ (⟨8, 0⟩ : S57) )) (Reps.c2 (show Kd.M k57 _ _ _ (⟨7, 0⟩ : S57) [.int .i64 7, .int .i64 0] from (k57_mkM _ _ _ (⟨7, 0⟩ : S57) )) (Reps.c2 (show Kd.M k57 _ _ _ (⟨7, 10⟩ : S57) [.int .i64 7, .int .i64 10] from (k57_mkM _ _ _ (⟨7, 10⟩ : S57) )) (Reps.c2 (show Kd.M k57 _ _ _ (⟨1, 1⟩ : S57) [.int .i64 1, .int .i64 1] from (k57_mkM _ _ _ (⟨1, 1⟩ : S57) )) (Reps.c2 (show Kd.M k57 _ _ _ (⟨0, 0⟩ : S57) [.int .i64 0, .int .i64 0] from (k57_mkM _ _ _ (⟨0, 0⟩ : S57) )) (Reps.none _ _)))))))); intro v151 w6 ho7 hb hg_ hnew_; clear hg_ hnew_; (first | rw [← Ny150.out] at ho7 | (simp only [Int.reduceToNat] at ho7; rw [← Ny150.out] at ho7)); have n0_ := Zs.mk (Kd.R_lower (Kd.R_newB ho7 (g := gb149) (o := .cells #[.int .i64 0, .int .i64 0] 57 (0, 0)) zq93) (keep_size (w := w) (g := g) (row := none) zq72)); have n1_ := Zs.mk (IsS90.below (by repeat (first | (with_reducible first | exact HI0.out | apply IsS90.alloc | apply IsS90.drewN | apply IsS90.drew | apply IsS90.set_1 | refine IsS90.far ?_ NB0_149.out _) | exact HI0.out)) hb); have n2_ := Zs.mk (kBe (g := gb149) (o := .cells #[.int .i64 0, .int .i64 0] 57 (0, 0)) zq93 hb); have n3_ := Zs.mk (KeepBut.trans zq72 (KeepBut.of_below hb g none) (.inl rfl)); have n4_ := Zs.mk (bSp (by repeat (first | (with_reducible first | exact HB.out | apply bAl | apply bDN | apply bD1 | refine bSt ?_ (IsS90.ge HI0.out) | refine bSt ?_ GE149.out) | exact HB.out)) hb); clear HI0; clear BK149; clear HK; clear HB; have HO152 := n0_; have HI0 := n1_; have BK149 := n2_; have HK := n3_; have HB := n4_; clear n0_ n1_ n2_ n3_ n4_; clear hb ho7) | ((with_reducible refine gate_callee (f := 43) rfl ?_); refine goesL_ (some 11) rfl rfl Try.func43 zq6 rfl #[.pointer (some ⟨g, 0, none⟩), .int .i64 6] rfl zq1 ?_; (with_reducible refine (spec_l6Rd_pick.calls k g s0_0 s0_1 6 t153 t154 w0 _ ?side1 ?side2 A2.out).mono ?_); (case side1 => repeat (first | (with_reducible first | exact HI0.out | apply IsS90.alloc | apply IsS90.drewN | apply IsS90.drew | apply IsS90.set_1 | refine IsS90.far ?_ NB0_149.out _) | exact HI0.out)); (case side2 => repeat (first | (with_reducible first | exact HB.out | apply bAl | apply bDN | apply bD1 | refine bSt ?_ (IsS90.ge HI0.out) | refine bSt ?_ GE149.out) | exact HB.out)); rintro e w8 ⟨rfl, hi, hb, hk⟩; refine ⟨_, rfl, ?_⟩; have n0_ := Zs.mk (KeepBut.blk hk (g' := gb149) (o := .cells #[.int .i64 0, .int .i64 0] 57 (0, 0)) zq93 NB149_0.out zq58); have n1_ := Zs.mk (Kd.R_mono (Kd.R_keep (IsS90.apart (show IsS90 w0 _ g s0_0 s0_1 from by repeat (first | (with_reducible first | exact HI0.out | apply IsS90.alloc | apply IsS90.drewN | apply IsS90.drew | apply IsS90.set_1 | refine IsS90.far ?_ NB0_149.out _) | exact HI0.out)) (by (with_reducible repeat (first | apply Kd.R_alloc | apply Kd.R_drewN | apply Kd.R_drew)); exact HO152.out) zq31) hk (fun _ h => h.2)) (fun _ h => h.1)); have n2_ := Zs.mk (KeepBut.trans zq72 hk (.inl rfl)); have n3_ := Zs.mk (hb); have n4_ := Zs.mk (hi); clear BK149; clear HO152; clear HK; clear HB; clear HI0; have BK149 := n0_; have HO152 := n1_; have HK := n2_; have HB := n3_; have HI0 := n4_; clear n0_ n1_ n2_ n3_ n4_; (try clear hb); (try clear hb2); (try clear hk); (try clear hi); obtain ⟨Ao9, co9, eo9⟩ := Kd.R_slice HO152.out; subst eo9; have p155 : 0 ≤ (t153 : Int) := of_decide_eq_true zq8; have q155 : t153 < (y150.length : Int) := of_decide_eq_true zq8; obtain ⟨ad155, e155, hx155_0, hx155_1⟩ := at_T57 (Kd.R_reads' HO152.out).2.2 t153 p155 q155; cases e155; replace p155 := eq_true p155; replace q155 := eq_true q155; have hnb10 := NB149_0.out; have hnc10 := NB0_149.out; have hcz11_0 : w8.cell? ⟨gb149, 0, none⟩ = some (.int .i64 0) := (kCe BK149.out 0).trans rfl; have hcz11_1 : w8.cell? ⟨gb149, 1, none⟩ = some (.int .i64 0) := (kCe BK149.out 1).trans rfl; have hfz11_0 := kFr BK149.out 0; have hfz11_1 := kFr BK149.out 1))
   refine bodyPost_ret (results_cell_row rfl _ _ gb149 57 #[.int .i64 ((rd_T57 y150 t153).f0), .int .i64 ((rd_T57 y150 t153).f1)] (0, 0) _ rfl (by (with_reducible repeat (first | refine kDN ?_ _ | refine kDr ?_ | refine kAl ?_ _)); refine blk_put (cs := #[.int .i64 ((rd_T57 y150 t153).f0), .int .i64 0]) ?_ 1 _ rfl; (with_reducible repeat (first | refine kDN ?_ _ | refine kDr ?_ | refine kAl ?_ _)); refine blk_put (cs := #[.int .i64 0, .int .i64 0]) ?_ 0 _ rfl; (with_reducible repeat (first | refine kDN ?_ _ | refine kDr ?_ | refine kAl ?_ _)); exact BK149.out) Try.underlying57 rfl zq6) rfl ?_
   exact ⟨by first | rfl | (simp [errW_none, errW_some] <;> rfl) | (simp [*, errW_none, errW_some] <;> rfl), by repeat (first | (with_reducible first | exact HI0.out | apply IsS90.alloc | apply IsS90.drewN | apply IsS90.drew | apply IsS90.set_1 | refine IsS90.far ?_ NB0_149.out _) | exact HI0.out), by repeat (first | (with_reducible first | exact HB.out | apply bAl | apply bDN | apply bD1 | refine bSt ?_ (IsS90.ge HI0.out) | refine bSt ?_ GE149.out) | exact HB.out), by repeat (first | (with_reducible first | exact HK.out | apply KeepBut.set_ | apply keep_drewN | apply keep_drew | apply keep_alloc | refine keep_far ?_ GW149.out _) | exact HK.out)⟩
  ·rw [if_neg c4] at H
   exact absurd H zq58
 ·rw [if_neg c3] at H
  exact absurd H zq58

end Go.Proofs.Ytejgohgmmndgbaa.PFnTrailTurn
--slim
