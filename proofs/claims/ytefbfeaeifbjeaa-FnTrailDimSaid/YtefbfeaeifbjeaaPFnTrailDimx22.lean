-- Written by a program of this session: the kit's print, with functions among it that were proved by hand.
import Derived.Test.YtefbfeaeifbjeaaPFnTrailDimx0
import Derived.Test.YtefbfeaeifbjeaaPFnTrailDimx18
import Derived.Test.YtefbfeaeifbjeaaPFnTrailDimx19
namespace Go.Proofs.Ytefbfeaeifbjeaa.PFnTrailDim
open Go.RowKit Go.Proofs.YtefbfeaeifbjeaaW.PrintWords Go.Proofs.YtefbfeaeifbjeaaW.PrintLast Go.Proofs.YtefbfeaeifbjeaaW.PrintMore
attribute [local go_sem] max2_int min2_int max_two min_two max_three min_three max_four min_four   -- for this text's walks alone
set_option linter.unusedVariables false
set_option linter.unusedSimpArgs false

/-! ### spec_l71Off: function 66 -/
def spec_l71Off.f (k : Nat) (s0_0 : List Int) (s0_1 : Int) : Option (Int × Int × Int) := (some (([(⟨(-1), 0⟩ : S57), (⟨8, 0⟩ : S57), (⟨7, 0⟩ : S57), (⟨7, 10⟩ : S57), (⟨1, 1⟩ : S57), (⟨0, 0⟩ : S57)] : List (S57)) : List (S57))).bind fun y174 => ((spec_l6Rd_pick.f k s0_0 s0_1 6).bind fun bt177 => (if 0 ≤ bt177.1 then (if bt177.1 < (y174.length : Int) then (some ((rd_T57 y174 bt177.1).f0, (rd_T57 y174 bt177.1).f1, bt177.2)) else (none)) else (none)))
theorem spec_l71Off.mono : ∀ a0 a1 k, LeO (spec_l71Off.f k a0 a1) (spec_l71Off.f (k + 1) a0 a1) := by
 intro a0 a1 k
 unfold spec_l71Off.f
 repeat' first
   | (with_reducible exact spec_l6Rd_pick.mono _ _ _ _)
   | (with_reducible exact LeO.refl _)
   | (with_reducible exact LeO.none _)
   | (with_reducible refine LeO.ite ?_ ?_)
   | (with_reducible refine LeO.bind ?_ (fun _ => ?_))
   | exact spec_l6Rd_pick.mono _ _ _ _
   | exact LeO.none _
   | refine LeO.ite ?_ ?_
   | refine LeO.bind ?_ (fun _ => ?_)
set_option maxHeartbeats 8000000 in
set_option maxRecDepth 100000 in
theorem spec_l71Off.calls (k : Nat) (g : Nat) (s0_0 : List Int) (s0_1 : Int) (r1 : Int) (r2 : Int) (r3 : Int) (w0 w : World) (hI : IsS91 w0 w g s0_0 s0_1) (hB : Below w0.heap.size w0 w) (h : spec_l71Off.f k s0_0 s0_1 = some (r1, r2, r3)) :
  Calls Try.prog 66 #[.pointer (some ⟨g, 0, none⟩)] w fun e w' => e = .returned (.agg #[.int .i64 r1, .int .i64 r2]) ∧ IsS91 w0 w' g s0_0 r3 ∧ Below w0.heap.size w0 w' ∧ KeepBut w w' g none := by
 have hu57 := Try.underlying57
 have HI0 := Zs.mk hI
 have HK := Zs.mk (KeepBut.refl w g none)
 have HL := Zs.mk hB.size
 clear hI
 have HW0 := Zs.mk hB.size
 have HB := Zs.mk hB
 clear hB
 have H : ((some (([(⟨(-1), 0⟩ : S57), (⟨8, 0⟩ : S57), (⟨7, 0⟩ : S57), (⟨7, 10⟩ : S57), (⟨1, 1⟩ : S57), (⟨0, 0⟩ : S57)] : List (S57)) : List (S57))).bind fun y174 => ((spec_l6Rd_pick.f k s0_0 s0_1 6).bind fun bt177 => (if 0 ≤ bt177.1 then (if bt177.1 < (y174.length : Int) then (some ((rd_T57 y174 bt177.1).f0, (rd_T57 y174 bt177.1).f1, bt177.2)) else (none)) else (none)))) = some (r1, r2, r3) := h
 clear h
 obtain ⟨y174, hy174⟩ : ∃ y_ : List (S57), y_ = (([(⟨(-1), 0⟩ : S57), (⟨8, 0⟩ : S57), (⟨7, 0⟩ : S57), (⟨7, 10⟩ : S57), (⟨1, 1⟩ : S57), (⟨0, 0⟩ : S57)] : List (S57))) := ⟨_, rfl⟩
 replace H : ((spec_l6Rd_pick.f k s0_0 s0_1 6).bind fun bt177 => (if 0 ≤ bt177.1 then (if bt177.1 < (y174.length : Int) then (some ((rd_T57 y174 bt177.1).f0, (rd_T57 y174 bt177.1).f1, bt177.2)) else (none)) else (none))) = some (r1, r2, r3) := by first | (rw [hy174]; with_reducible exact H) | (have H2_ := (Option.bind_some _ _).symm.trans H; rw [hy174]; with_reducible exact H2_) | (have H2_ := (Option.bind_some _ _).symm.trans H; with_reducible exact H2_) | with_reducible exact H | (rw [hy174]; exact H) | exact H
 have Ny174 := Zs.mk hy174
 clear hy174
 replace H := Option.bind_eq_some_iff.mp H
 obtain ⟨⟨t177, t178⟩, A20, H⟩ := H
 replace H : (if 0 ≤ t177 then (if t177 < (y174.length : Int) then (some ((rd_T57 y174 t177).f0, (rd_T57 y174 t177).f1, t178)) else (none)) else (none)) = some (r1, r2, r3) := H
 have A2 := Zs.mk A20
 clear A20
 by_cases c3 : 0 ≤ t177
 ·rw [if_pos c3] at H
  have c3b0 : decide (0 ≤ t177) = true := decide_eq_true c3
  clear c3
  by_cases c4 : t177 < (y174.length : Int)
  ·rw [if_pos c4] at H
   have c4b0 : decide (t177 < (y174.length : Int)) = true := decide_eq_true c4
   clear c4
   simp only [Option.some.injEq, Prod.mk.injEq] at H
   obtain ⟨rfl, rfl, rfl⟩ := H
   go_enter Try.func66, Try.ntmps66
   go_wp2_with (first | ((with_reducible refine gate_dst (N := 2) rfl ?_); refine box_event ?hg (N := 2) ?hd (cs := #[.int .i64 0, .int .i64 0]) (t := 57) ?hr ?_; (case hd => rfl); (case hg => rfl); (case hr => first | (go_simp; done) | (go_simp; rfl)); intro gb173 hg w5 hbox hb; have n0_ := Zs.mk (IsS91.below (by repeat (first | (with_reducible first | exact HI0.out | apply IsS91.alloc | apply IsS91.drewN | apply IsS91.drew | apply IsS91.set_1) | exact HI0.out)) hb); have n1_ := Zs.mk (KeepBut.trans (by repeat (first | (with_reducible first | exact HK.out | apply KeepBut.set_ | apply keep_drewN | apply keep_drew | apply keep_alloc) | exact HK.out)) (KeepBut.of_below hb g none) (.inl rfl)); have n2_ := Zs.mk (bSp (by repeat (first | (with_reducible first | exact HB.out | apply bAl | apply bDN | apply bD1 | refine bSt ?_ (IsS91.ge HI0.out)) | exact HB.out)) hb); have n3_ := Zs.mk (hbox); have n4_ := Zs.mk ((by rw [hg]; exact (keep_size (w := w) (g := g) (row := none) (by repeat (first | (with_reducible first | exact HK.out | apply KeepBut.set_ | apply keep_drewN | apply keep_drew | apply keep_alloc) | exact HK.out))) : w.heap.size ≤ gb173)); have n5_ := Zs.mk ((Nat.le_trans HW0.out (by rw [hg]; exact (keep_size (w := w) (g := g) (row := none) (by repeat (first | (with_reducible first | exact HK.out | apply KeepBut.set_ | apply keep_drewN | apply keep_drew | apply keep_alloc) | exact HK.out))) : w.heap.size ≤ gb173) : w0.heap.size ≤ gb173)); have n6_ := Zs.mk ((by rw [hg]; exact Nat.ne_of_lt (IsS91.lt (show IsS91 w0 _ g s0_0 s0_1 from by repeat (first | (with_reducible first | exact HI0.out | apply IsS91.alloc | apply IsS91.drewN | apply IsS91.drew | apply IsS91.set_1) | exact HI0.out))) : g ≠ gb173)); have n7_ := Zs.mk ((by rw [hg]; exact Nat.ne_of_gt (IsS91.lt (show IsS91 w0 _ g s0_0 s0_1 from by repeat (first | (with_reducible first | exact HI0.out | apply IsS91.alloc | apply IsS91.drewN | apply IsS91.drew | apply IsS91.set_1) | exact HI0.out))) : gb173 ≠ g)); clear HI0; clear HK; clear HB; have HI0 := n0_; have HK := n1_; have HB := n2_; have BK173 := n3_; have GW173 := n4_; have GE173 := n5_; have NB0_173 := n6_; have NB173_0 := n7_; clear n0_ n1_ n2_ n3_ n4_ n5_ n6_ n7_; clear hb hbox hg) | ((with_reducible refine gate_dst (N := 9) rfl ?_); refine Kd.R_lit k57 _ 57 ?hg (N := 9) ?hd (xs := ([(⟨(-1), 0⟩ : S57), (⟨8, 0⟩ : S57), (⟨7, 0⟩ : S57), (⟨7, 10⟩ : S57), (⟨1, 1⟩ : S57), (⟨0, 0⟩ : S57)] : List (S57))) (inner := [.int .i64 (-1), .int .i64 0, .int .i64 8, .int .i64 0, .int .i64 7, .int .i64 0, .int .i64 7, .int .i64 10, .int .i64 1, .int .i64 1, .int .i64 0, .int .i64 0]) (ok := fun _ => True) (okp := fun _ => True) ?hr ?hp (fun _ hk => hk) trivial (Below.refl _ _) (Nat.le_refl _) (by simp) ?_; (case hd => rfl); (case hg => rfl); (case hr => first | (go_simp; done) | (go_simp; rfl)); (case hp => exact (Reps.c2 (show Kd.M k57 _ _ _ (⟨(-1), 0⟩ : S57) [.int .i64 (-1), .int .i64 0] from (k57_mkM _ _ _ (⟨(-1), 0⟩ : S57) )) (Reps.c2 (show Kd.M k57 _ _ _ (⟨8, 0⟩ : S57) [.int .i64 8, .int .i64 0] from (k57_mkM _ _ _ (⟨8, 0⟩ : S57) )) (Reps.c2 (show Kd.M k57 _ _ _ (⟨7, 0⟩ : S57) [.int .i64 7, .int .i64 0] from (k57_mkM _ _ _ (⟨7, 0⟩ : S57) )) (Reps.c2 (show Kd.M k57 _ _ _ (⟨7, 10⟩ : S57) [.int .i64 7, .int .i64 10] from (k57_mkM _ _ _ (⟨7, 10⟩ : S57) )) (Reps.c2 (show Kd.M k57 _ _ _ (⟨1, 1⟩ : S57) [.int .i64 1, .int .i64 1] from (k57_mkM _ _ _ (⟨1, 1⟩ : S57) )) (Reps.c2 (show Kd.M k57 _ _ _ (⟨0, 0⟩ : S57) [.int .i64 0, .int .i64 0] from (k57_mkM _ _ _ (⟨0, 0⟩ : S57) )) (Reps.none _ _)))))))); intro v175 w6 ho7 hb hg_ hnew_; clear hg_ hnew_; (first | rw [← Ny174.out] at ho7 | (simp only [Int.reduceToNat] at ho7; rw [← Ny174.out] at ho7)); have n0_ := Zs.mk (Kd.R_lower (Kd.R_newB ho7 (g := gb173) (o := .cells #[.int .i64 0, .int .i64 0] 57 (0, 0)) (by (with_reducible repeat (first | refine kDN ?_ _ | refine kDr ?_ | refine kAl ?_ _)); exact BK173.out)) (keep_size (w := w) (g := g) (row := none) (by repeat (first | (with_reducible first | exact HK.out | apply KeepBut.set_ | apply keep_drewN | apply keep_drew | apply keep_alloc | refine keep_far ?_ GW173.out _) | exact HK.out)))); have n1_ := Zs.mk (IsS91.below (by repeat (first | (with_reducible first | exact HI0.out | apply IsS91.alloc | apply IsS91.drewN | apply IsS91.drew | apply IsS91.set_1 | refine IsS91.far ?_ NB0_173.out _) | exact HI0.out)) hb); have n2_ := Zs.mk (kBe (g := gb173) (o := .cells #[.int .i64 0, .int .i64 0] 57 (0, 0)) (by (with_reducible repeat (first | refine kDN ?_ _ | refine kDr ?_ | refine kAl ?_ _)); exact BK173.out) hb); have n3_ := Zs.mk (KeepBut.trans (by repeat (first | (with_reducible first | exact HK.out | apply KeepBut.set_ | apply keep_drewN | apply keep_drew | apply keep_alloc | refine keep_far ?_ GW173.out _) | exact HK.out)) (KeepBut.of_below hb g none) (.inl rfl)); have n4_ := Zs.mk (bSp (by repeat (first | (with_reducible first | exact HB.out | apply bAl | apply bDN | apply bD1 | refine bSt ?_ (IsS91.ge HI0.out) | refine bSt ?_ GE173.out) | exact HB.out)) hb); clear HI0; clear BK173; clear HK; clear HB; have HO176 := n0_; have HI0 := n1_; have BK173 := n2_; have HK := n3_; have HB := n4_; clear n0_ n1_ n2_ n3_ n4_; clear hb ho7) | ((with_reducible refine gate_callee (f := 41) rfl ?_); refine goesL_ (some 11) rfl rfl Try.func41 (by kernel_rfl) rfl #[.pointer (some ⟨g, 0, none⟩), .int .i64 6] rfl (by (try simp only [List.map_toArray, List.map_cons, List.map_nil]); first | done | rfl | (simp only [List.length_drop, List.length_take]; rfl)) ?_; (with_reducible refine (spec_l6Rd_pick.calls k g s0_0 s0_1 6 t177 t178 w0 _ ?side1 ?side2 A2.out).mono ?_); (case side1 => repeat (first | (with_reducible first | exact HI0.out | apply IsS91.alloc | apply IsS91.drewN | apply IsS91.drew | apply IsS91.set_1 | refine IsS91.far ?_ NB0_173.out _) | exact HI0.out)); (case side2 => repeat (first | (with_reducible first | exact HB.out | apply bAl | apply bDN | apply bD1 | refine bSt ?_ (IsS91.ge HI0.out) | refine bSt ?_ GE173.out) | exact HB.out)); rintro e w8 ⟨rfl, hi, hb, hk⟩; refine ⟨_, rfl, ?_⟩; have n0_ := Zs.mk (KeepBut.blk hk (g' := gb173) (o := .cells #[.int .i64 0, .int .i64 0] 57 (0, 0)) (by (with_reducible repeat (first | refine kDN ?_ _ | refine kDr ?_ | refine kAl ?_ _)); exact BK173.out) NB173_0.out (by simp)); have n1_ := Zs.mk (Kd.R_mono (Kd.R_keep (IsS91.apart (show IsS91 w0 _ g s0_0 s0_1 from by repeat (first | (with_reducible first | exact HI0.out | apply IsS91.alloc | apply IsS91.drewN | apply IsS91.drew | apply IsS91.set_1 | refine IsS91.far ?_ NB0_173.out _) | exact HI0.out)) (by (with_reducible repeat (first | apply Kd.R_alloc | apply Kd.R_drewN | apply Kd.R_drew)); exact HO176.out) (by decide)) hk (fun _ h => h.2)) (fun _ h => h.1)); have n2_ := Zs.mk (KeepBut.trans (by repeat (first | (with_reducible first | exact HK.out | apply KeepBut.set_ | apply keep_drewN | apply keep_drew | apply keep_alloc | refine keep_far ?_ GW173.out _) | exact HK.out)) hk (.inl rfl)); have n3_ := Zs.mk (hb); have n4_ := Zs.mk (hi); clear BK173; clear HO176; clear HK; clear HB; clear HI0; have BK173 := n0_; have HO176 := n1_; have HK := n2_; have HB := n3_; have HI0 := n4_; clear n0_ n1_ n2_ n3_ n4_; (try clear hb); (try clear hb2); (try clear hk); (try clear hi); obtain ⟨Ao9, co9, eo9⟩ := Kd.R_slice HO176.out; subst eo9; have p179 : 0 ≤ (t177 : Int) := of_decide_eq_true (by first | (with_reducible assumption) | assumption); have q179 : t177 < (y174.length : Int) := of_decide_eq_true (by first | (with_reducible assumption) | assumption); obtain ⟨ad179, e179, hx179_0, hx179_1⟩ := at_T57 (Kd.R_reads' HO176.out).2.2 t177 p179 q179; cases e179; replace p179 := eq_true p179; replace q179 := eq_true q179; have hnb10 := NB173_0.out; have hnc10 := NB0_173.out; have hcz11_0 : w8.cell? ⟨gb173, 0, none⟩ = some (.int .i64 0) := (kCe BK173.out 0).trans rfl; have hcz11_1 : w8.cell? ⟨gb173, 1, none⟩ = some (.int .i64 0) := (kCe BK173.out 1).trans rfl; have hfz11_0 := kFr BK173.out 0; have hfz11_1 := kFr BK173.out 1))
   refine bodyPost_ret (results_cell_row rfl _ _ gb173 57 #[.int .i64 ((rd_T57 y174 t177).f0), .int .i64 ((rd_T57 y174 t177).f1)] (0, 0) _ rfl (by (with_reducible repeat (first | refine kDN ?_ _ | refine kDr ?_ | refine kAl ?_ _)); refine blk_put (cs := #[.int .i64 ((rd_T57 y174 t177).f0), .int .i64 0]) ?_ 1 _ rfl; (with_reducible repeat (first | refine kDN ?_ _ | refine kDr ?_ | refine kAl ?_ _)); refine blk_put (cs := #[.int .i64 0, .int .i64 0]) ?_ 0 _ rfl; (with_reducible repeat (first | refine kDN ?_ _ | refine kDr ?_ | refine kAl ?_ _)); exact BK173.out) Try.underlying57 rfl (by kernel_rfl)) rfl ?_
   exact ⟨by first | rfl | (simp [errW_none, errW_some] <;> rfl) | (simp [*, errW_none, errW_some] <;> rfl), by repeat (first | (with_reducible first | exact HI0.out | apply IsS91.alloc | apply IsS91.drewN | apply IsS91.drew | apply IsS91.set_1 | refine IsS91.far ?_ NB0_173.out _) | exact HI0.out), by repeat (first | (with_reducible first | exact HB.out | apply bAl | apply bDN | apply bD1 | refine bSt ?_ (IsS91.ge HI0.out) | refine bSt ?_ GE173.out) | exact HB.out), by repeat (first | (with_reducible first | exact HK.out | apply KeepBut.set_ | apply keep_drewN | apply keep_drew | apply keep_alloc | refine keep_far ?_ GW173.out _) | exact HK.out)⟩
  ·rw [if_neg c4] at H
   exact absurd H (by simp)
 ·rw [if_neg c3] at H
  exact absurd H (by simp)

end Go.Proofs.Ytefbfeaeifbjeaa.PFnTrailDim
--slim
