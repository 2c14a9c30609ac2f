-- Written by a program of this session: the kit's print, with functions among it that were proved by hand.
import Derived.Test.YtejgohgmmndgbaaPFnTrailTurnx0
import Derived.Test.YtejgohgmmndgbaaPFnTrailTurnx9
import Derived.Test.YtejgohgmmndgbaaPFnTrailTurnx10
import Derived.Test.YtejgohgmmndgbaaPFnTrailTurnx11
import Derived.Test.YtejgohgmmndgbaaPFnTrailTurnx13
namespace Go.Proofs.Ytejgohgmmndgbaa.PFnTrailTurn
open Go.RowKit Go.Proofs.YtejgohgmmndgbaaW.PrintWords Go.Proofs.YtejgohgmmndgbaaW.PrintLast Go.Proofs.YtejgohgmmndgbaaW.PrintMore
attribute [local go_sem] max2_int min2_int max_two min_two max_three min_three max_four min_four   -- for this text's walks alone
set_option linter.unusedVariables false
set_option linter.unusedSimpArgs false

/-! ### spec_l71Some: function 68 -/
def spec_l71Some.l0 : Nat → List Int → Int → Int → List (S57) → Option (Int × (List (S57)) × Int)
 | 0, _, _, _, _ => none
 | k + 1, x1000, x1001, x180000, x180001 => if (x180001.length : Int) ≤ (wrap64 (x180000 * 5)) then (if x180001.length < 8796093022208 then (spec_l71Some.l0 k x1000 x1001 x180000 (x180001 ++ [(⟨0, 0⟩ : S57)])) else (none)) else (some (x180000, x180001, x1001))
def spec_l71Some.f (k : Nat) (s0_0 : List Int) (s0_1 : Int) : Option (Int × (List (S57)) × Int) := (spec_l71Grid.f k s0_0 s0_1).bind fun bt174 => ((spec_l6Rd_pick.f k s0_0 bt174.2.2 24).bind fun bt180 => (if bt180.1 > 0 then (some (bt174.1, bt174.2.1, bt180.2)) else ((spec_l6Rd_pick.f k s0_0 bt180.2 5).bind fun bt182 => (if bt182.1 = 0 then ((some (([0, (-1), 6] : List Int) : List Int)).bind fun y184 => ((spec_l6Rd_pick.f k s0_0 bt182.2 3).bind fun bt187 => (if 0 ≤ bt187.1 then (if bt187.1 < (y184.length : Int) then (some (rd y184 bt187.1, bt174.2.1, bt187.2)) else (none)) else (none)))) else (if bt182.1 = 1 then (if 1 ≤ (bt174.2.1.length : Int) then (some (bt174.1, (bt174.2.1.drop (1 : Int).toNat), bt182.2)) else (none)) else (if bt182.1 = 2 then ((spec_l6Rd_pick.f k s0_0 bt182.2 (bt174.2.1.length : Int)).bind fun bt193 => ((spec_l71Off.f k s0_0 bt193.2).bind fun bt195 => (if 0 ≤ bt193.1 then (if bt193.1 < (bt174.2.1.length : Int) then (some (bt174.1, (bt174.2.1.set (bt193.1 : Int).toNat (⟨bt195.1, bt195.2.1⟩ : S57)), bt195.2.2)) else (none)) else (none)))) else (if bt182.1 = 3 then (spec_l71Some.l0 k s0_0 bt182.2 bt174.1 bt174.2.1) else (some (bt174.1, ([] : List (S57)), bt182.2)))))))))
theorem spec_l71Some.mono_l : ∀ k, (∀ y0 y1 y2 y3, LeO (spec_l71Some.l0 k y0 y1 y2 y3) (spec_l71Some.l0 (k + 1) y0 y1 y2 y3))
 | 0 => fun _ _ _ _ r h => by simp [spec_l71Some.l0] at h
 | k + 1 => by
  have ih0 := spec_l71Some.mono_l k
  ·intro y0 y1 y2 y3
   unfold spec_l71Some.l0
   repeat' first
   | (with_reducible exact ih0 _ _ _ _)
   | (with_reducible exact spec_l6Rd_pick.mono _ _ _ _)
   | (with_reducible exact spec_l71Grid.mono _ _ _)
   | (with_reducible exact spec_l71Off.mono _ _ _)
   | (with_reducible exact LeO.refl _)
   | (with_reducible exact LeO.none _)
   | (with_reducible refine LeO.ite ?_ ?_)
   | (with_reducible refine LeO.bind ?_ (fun _ => ?_))
   | exact ih0 _ _ _ _
   | exact spec_l6Rd_pick.mono _ _ _ _
   | exact spec_l71Grid.mono _ _ _
   | exact spec_l71Off.mono _ _ _
   | exact LeO.none _
   | refine LeO.ite ?_ ?_
   | refine LeO.bind ?_ (fun _ => ?_)
theorem spec_l71Some.mono : ∀ a0 a1 k, LeO (spec_l71Some.f k a0 a1) (spec_l71Some.f (k + 1) a0 a1) := by
 intro a0 a1 k
 have ih0 := spec_l71Some.mono_l k
 unfold spec_l71Some.f
 repeat' first
   | (with_reducible exact ih0 _ _ _ _)
   | (with_reducible exact spec_l6Rd_pick.mono _ _ _ _)
   | (with_reducible exact spec_l71Grid.mono _ _ _)
   | (with_reducible exact spec_l71Off.mono _ _ _)
   | (with_reducible exact LeO.refl _)
   | (with_reducible exact LeO.none _)
   | (with_reducible refine LeO.ite ?_ ?_)
   | (with_reducible refine LeO.bind ?_ (fun _ => ?_))
   | exact ih0 _ _ _ _
   | exact spec_l6Rd_pick.mono _ _ _ _
   | exact spec_l71Grid.mono _ _ _
   | exact spec_l71Off.mono _ _ _
   | exact LeO.none _
   | refine LeO.ite ?_ ?_
   | refine LeO.bind ?_ (fun _ => ?_)
def spec_l71Some.T11 : Bool × List (List Nat × List Nat) := (true, [([], []), ([0], [0]), ([], []), ([], []), ([3], [3]), ([4], [4]), ([2, 5], [2, 5]), ([], []), ([7, 6], [7]), ([1, 6, 0, 1, 2, 3, 4, 5, 6, 7, 8], [1, 6]), ([9, 8, 8, 0, 1, 2, 3, 4, 5, 6, 7, 8], [8, 9])])
def spec_l71Some.B11 : List Nat := [0, 1, 0, 0, 8, 24, 60, 0, 252, 511, 1023]
theorem spec_l71Some.tab11 : rtab .any (opsOf Try.f68 11) = spec_l71Some.T11 := by kernel_rfl
theorem spec_l71Some.bits11 : waitsOk spec_l71Some.T11.2 spec_l71Some.B11 = true := by kernel_rfl
set_option maxHeartbeats 8000000 in
set_option maxRecDepth 100000 in
theorem spec_l71Some.calls (k : Nat) (g : Nat) (s0_0 : List Int) (s0_1 : Int) (r1 : Int) (r2 : List (S57)) (r3 : Int) (w0 w : World) (hI : IsS90 w0 w g s0_0 s0_1) (hB : Below w0.heap.size w0 w) (h : spec_l71Some.f k s0_0 s0_1 = some (r1, r2, r3)) :
  Calls Try.prog 68 #[.pointer (some ⟨g, 0, none⟩)] w fun e w' => ∃ v1_ : Value, e = .returned (.agg #[.int .i64 r1, v1_]) ∧ Kd.Q k57 57 w' w.heap.size (fun _ => True) v1_ r2 ∧ IsS90 w0 w' g s0_0 r3 ∧ Below w0.heap.size w0 w' ∧ KeepBut w w' g none := by
 have hu25 := Try.underlying25
 have hu57 := Try.underlying57
 have HI0 := Zs.mk hI
 have HK := Zs.mk (KeepBut.refl w g none)
 have HL := Zs.mk hB.size
 clear hI
 have HW0 := Zs.mk hB.size
 have HB := Zs.mk hB
 clear hB
 have H : ((spec_l71Grid.f k s0_0 s0_1).bind fun bt174 => ((spec_l6Rd_pick.f k s0_0 bt174.2.2 24).bind fun bt180 => (if bt180.1 > 0 then (some (bt174.1, bt174.2.1, bt180.2)) else ((spec_l6Rd_pick.f k s0_0 bt180.2 5).bind fun bt182 => (if bt182.1 = 0 then ((some (([0, (-1), 6] : List Int) : List Int)).bind fun y184 => ((spec_l6Rd_pick.f k s0_0 bt182.2 3).bind fun bt187 => (if 0 ≤ bt187.1 then (if bt187.1 < (y184.length : Int) then (some (rd y184 bt187.1, bt174.2.1, bt187.2)) else (none)) else (none)))) else (if bt182.1 = 1 then (if 1 ≤ (bt174.2.1.length : Int) then (some (bt174.1, (bt174.2.1.drop (1 : Int).toNat), bt182.2)) else (none)) else (if bt182.1 = 2 then ((spec_l6Rd_pick.f k s0_0 bt182.2 (bt174.2.1.length : Int)).bind fun bt193 => ((spec_l71Off.f k s0_0 bt193.2).bind fun bt195 => (if 0 ≤ bt193.1 then (if bt193.1 < (bt174.2.1.length : Int) then (some (bt174.1, (bt174.2.1.set (bt193.1 : Int).toNat (⟨bt195.1, bt195.2.1⟩ : S57)), bt195.2.2)) else (none)) else (none)))) else (if bt182.1 = 3 then (spec_l71Some.l0 k s0_0 bt182.2 bt174.1 bt174.2.1) else (some (bt174.1, ([] : List (S57)), bt182.2)))))))))) = some (r1, r2, r3) := h
 clear h
 replace H := Option.bind_eq_some_iff.mp H
 obtain ⟨⟨t174, t175, t178⟩, A20, H⟩ := H
 replace H : ((spec_l6Rd_pick.f k s0_0 t178 24).bind fun bt180 => (if bt180.1 > 0 then (some (t174, t175, bt180.2)) else ((spec_l6Rd_pick.f k s0_0 bt180.2 5).bind fun bt182 => (if bt182.1 = 0 then ((some (([0, (-1), 6] : List Int) : List Int)).bind fun y184 => ((spec_l6Rd_pick.f k s0_0 bt182.2 3).bind fun bt187 => (if 0 ≤ bt187.1 then (if bt187.1 < (y184.length : Int) then (some (rd y184 bt187.1, t175, bt187.2)) else (none)) else (none)))) else (if bt182.1 = 1 then (if 1 ≤ (t175.length : Int) then (some (t174, (t175.drop (1 : Int).toNat), bt182.2)) else (none)) else (if bt182.1 = 2 then ((spec_l6Rd_pick.f k s0_0 bt182.2 (t175.length : Int)).bind fun bt193 => ((spec_l71Off.f k s0_0 bt193.2).bind fun bt195 => (if 0 ≤ bt193.1 then (if bt193.1 < (t175.length : Int) then (some (t174, (t175.set (bt193.1 : Int).toNat (⟨bt195.1, bt195.2.1⟩ : S57)), bt195.2.2)) else (none)) else (none)))) else (if bt182.1 = 3 then (spec_l71Some.l0 k s0_0 bt182.2 t174 t175) else (some (t174, ([] : List (S57)), bt182.2))))))))) = some (r1, r2, r3) := H
 have A2 := Zs.mk A20
 clear A20
 replace H := Option.bind_eq_some_iff.mp H
 obtain ⟨⟨t180, t181⟩, A30, H⟩ := H
 replace H : (if t180 > 0 then (some (t174, t175, t181)) else ((spec_l6Rd_pick.f k s0_0 t181 5).bind fun bt182 => (if bt182.1 = 0 then ((some (([0, (-1), 6] : List Int) : List Int)).bind fun y184 => ((spec_l6Rd_pick.f k s0_0 bt182.2 3).bind fun bt187 => (if 0 ≤ bt187.1 then (if bt187.1 < (y184.length : Int) then (some (rd y184 bt187.1, t175, bt187.2)) else (none)) else (none)))) else (if bt182.1 = 1 then (if 1 ≤ (t175.length : Int) then (some (t174, (t175.drop (1 : Int).toNat), bt182.2)) else (none)) else (if bt182.1 = 2 then ((spec_l6Rd_pick.f k s0_0 bt182.2 (t175.length : Int)).bind fun bt193 => ((spec_l71Off.f k s0_0 bt193.2).bind fun bt195 => (if 0 ≤ bt193.1 then (if bt193.1 < (t175.length : Int) then (some (t174, (t175.set (bt193.1 : Int).toNat (⟨bt195.1, bt195.2.1⟩ : S57)), bt195.2.2)) else (none)) else (none)))) else (if bt182.1 = 3 then (spec_l71Some.l0 k s0_0 bt182.2 t174 t175) else (some (t174, ([] : List (S57)), bt182.2)))))))) = some (r1, r2, r3) := H
 have A3 := Zs.mk A30
 clear A30
 by_cases c4 : t180 > 0
 ·rw [if_pos c4] at H
  have c4b0 : decide (0 < t180) = true := decide_eq_true c4
  clear c4
  simp only [Option.some.injEq, Prod.mk.injEq] at H
  obtain ⟨rfl, rfl, rfl⟩ := H
  go_enter Try.func68, Try.ntmps68
  go_wp2_with (first | ((with_reducible refine gate_dst (N := 2) rfl ?_); refine box_event ?hg (N := 2) ?hd (cs := #[.int .i64 0, .slice none 0 0]) (t := 25) ?hr ?_; (case hd => rfl); (case hg => rfl); (case hr => first | (go_simp; done) | (go_simp; rfl)); intro gb173 hg w5 hbox hb; have n0_ := Zs.mk (IsS90.below zq20 hb); have n1_ := Zs.mk (KeepBut.trans zq4 (KeepBut.of_below hb g none) (.inl rfl)); have n2_ := Zs.mk (bSp zq23 hb); have n3_ := Zs.mk (hbox); have n4_ := Zs.mk ((by rw [hg]; exact (keep_size (w := w) (g := g) (row := none) zq4) : w.heap.size ≤ gb173)); have n5_ := Zs.mk ((Nat.le_trans HW0.out (by rw [hg]; exact (keep_size (w := w) (g := g) (row := none) zq4) : w.heap.size ≤ gb173) : w0.heap.size ≤ gb173)); have n6_ := Zs.mk ((by rw [hg]; exact Nat.ne_of_lt (IsS90.lt (show IsS90 w0 _ g s0_0 s0_1 from by repeat (first | (with_reducible first | exact HI0.out | apply IsS90.alloc | apply IsS90.drewN | apply IsS90.drew | apply IsS90.set_1) | exact HI0.out))) : g ≠ gb173)); have n7_ := Zs.mk ((by rw [hg]; exact Nat.ne_of_gt (IsS90.lt (show IsS90 w0 _ g s0_0 s0_1 from by repeat (first | (with_reducible first | exact HI0.out | apply IsS90.alloc | apply IsS90.drewN | apply IsS90.drew | apply IsS90.set_1) | exact HI0.out))) : gb173 ≠ g)); clear HI0; clear HK; clear HB; have HI0 := n0_; have HK := n1_; have HB := n2_; have BK173 := n3_; have GW173 := n4_; have GE173 := n5_; have NB0_173 := n6_; have NB173_0 := n7_; clear n0_ n1_ n2_ n3_ n4_ n5_ n6_ n7_; clear hb hbox hg) | ((with_reducible refine gate_callee (f := 85) rfl ?_); refine goesL_ (some 5) rfl rfl Try.func85 zq6 rfl #[.pointer (some ⟨g, 0, none⟩)] rfl zq1 ?_; (with_reducible refine (spec_l71Grid.calls k g s0_0 s0_1 t174 t175 t178 w0 _ ?side1 ?side2 A2.out).mono ?_); (case side1 => repeat (first | (with_reducible first | exact HI0.out | apply IsS90.alloc | apply IsS90.drewN | apply IsS90.drew | apply IsS90.set_1 | refine IsS90.far ?_ NB0_173.out _) | exact HI0.out)); (case side2 => repeat (first | (with_reducible first | exact HB.out | apply bAl | apply bDN | apply bD1 | refine bSt ?_ (IsS90.ge HI0.out) | refine bSt ?_ GE173.out) | exact HB.out)); rintro e w6 ⟨v176, rfl, ho0, hi, hb, hk⟩; refine ⟨_, rfl, ?_⟩; have n0_ := Zs.mk (KeepBut.blk hk (g' := gb173) (o := .cells #[.int .i64 0, .slice none 0 0] 25 (0, 0)) zq10 NB173_0.out zq58); have n1_ := Zs.mk (Kd.R_lower ho0 (keep_size (w := w) (g := g) (row := none) zq3)); have n2_ := Zs.mk (KeepBut.trans zq3 hk (.inl rfl)); have n3_ := Zs.mk (hb); have n4_ := Zs.mk (hi); clear BK173; clear HK; clear HB; clear HI0; have BK173 := n0_; have HO177 := n1_; have HK := n2_; have HB := n3_; have HI0 := n4_; clear n0_ n1_ n2_ n3_ n4_; (try clear hb); (try clear hb2); (try clear hk); (try clear hi); (try clear ho0)) | ((with_reducible refine gate_dst (N := 3) rfl ?_); refine box_event ?hg (N := 3) ?hd (cs := #[.int .i64 0, .slice none 0 0]) (t := 25) ?hr ?_; (case hd => rfl); (case hg => rfl); (case hr => first | (go_simp; done) | (go_simp; rfl)); intro gb179 hg w7 hbox hb; have n0_ := Zs.mk (Kd.R_below zq21 hb); have n1_ := Zs.mk (IsS90.below zq43 hb); have n2_ := Zs.mk (kBe (g := gb173) (o := .cells #[.int .i64 0, .slice none 0 0] 25 (0, 0)) zq10 hb); have n3_ := Zs.mk (KeepBut.trans zq3 (KeepBut.of_below hb g none) (.inl rfl)); have n4_ := Zs.mk (bSp zq48 hb); have n5_ := Zs.mk (hbox); have n6_ := Zs.mk ((by rw [hg]; exact (keep_size (w := w) (g := g) (row := none) zq3) : w.heap.size ≤ gb179)); have n7_ := Zs.mk ((Nat.le_trans HW0.out (by rw [hg]; exact (keep_size (w := w) (g := g) (row := none) zq3) : w.heap.size ≤ gb179) : w0.heap.size ≤ gb179)); have n8_ := Zs.mk ((by rw [hg]; exact Nat.ne_of_lt (blk_lt (g := gb173) (o := .cells #[.int .i64 0, .slice none 0 0] 25 (0, 0)) zq10) : gb173 ≠ gb179)); have n9_ := Zs.mk ((by rw [hg]; exact Nat.ne_of_gt (blk_lt (g := gb173) (o := .cells #[.int .i64 0, .slice none 0 0] 25 (0, 0)) zq10) : gb179 ≠ gb173)); have n10_ := Zs.mk ((by rw [hg]; exact Nat.ne_of_lt (IsS90.lt (show IsS90 w0 _ g s0_0 t178 from by repeat (first | (with_reducible first | exact HI0.out | apply IsS90.alloc | apply IsS90.drewN | apply IsS90.drew | apply IsS90.set_1 | refine IsS90.far ?_ NB0_173.out _) | exact HI0.out))) : g ≠ gb179)); have n11_ := Zs.mk ((by rw [hg]; exact Nat.ne_of_gt (IsS90.lt (show IsS90 w0 _ g s0_0 t178 from by repeat (first | (with_reducible first | exact HI0.out | apply IsS90.alloc | apply IsS90.drewN | apply IsS90.drew | apply IsS90.set_1 | refine IsS90.far ?_ NB0_173.out _) | exact HI0.out))) : gb179 ≠ g)); clear HO177; clear HI0; clear BK173; clear HK; clear HB; have HO177 := n0_; have HI0 := n1_; have BK173 := n2_; have HK := n3_; have HB := n4_; have BK179 := n5_; have GW179 := n6_; have GE179 := n7_; have NB173_179 := n8_; have NB179_173 := n9_; have NB0_179 := n10_; have NB179_0 := n11_; clear n0_ n1_ n2_ n3_ n4_ n5_ n6_ n7_ n8_ n9_ n10_ n11_; clear hb hbox hg; have hnb8 := NB179_173.out; have hnc8 := NB173_179.out; have hnb9 := NB179_0.out; have hnc9 := NB0_179.out; have hcz10_0 : w7.cell? ⟨gb179, 0, none⟩ = some (.int .i64 0) := (kCe BK179.out 0).trans rfl; have hcz10_1 : w7.cell? ⟨gb179, 1, none⟩ = some (.slice none 0 0) := (kCe BK179.out 1).trans rfl; have hfz10_0 := kFr BK179.out 0; have hfz10_1 := kFr BK179.out 1; obtain ⟨Ao11, co11, eo11⟩ := Kd.R_slice HO177.out; subst eo11) | ((with_reducible refine gate_callee (f := 43) rfl ?_); refine goesL_ (some 7) rfl rfl Try.func43 zq6 rfl #[.pointer (some ⟨g, 0, none⟩), .int .i64 24] rfl zq1 ?_; (with_reducible refine (spec_l6Rd_pick.calls k g s0_0 t178 24 t180 t181 w0 _ ?side1 ?side2 A3.out).mono ?_); (case side1 => repeat (first | (with_reducible first | exact HI0.out | apply IsS90.alloc | apply IsS90.drewN | apply IsS90.drew | apply IsS90.set_1 | refine IsS90.far ?_ NB0_173.out _ | refine IsS90.far ?_ NB0_179.out _) | exact HI0.out)); (case side2 => repeat (first | (with_reducible first | exact HB.out | apply bAl | apply bDN | apply bD1 | refine bSt ?_ (IsS90.ge HI0.out) | refine bSt ?_ GE173.out | refine bSt ?_ GE179.out) | exact HB.out)); rintro e w12 ⟨rfl, hi, hb, hk⟩; refine ⟨_, rfl, ?_⟩; have n0_ := Zs.mk (KeepBut.blk hk (g' := gb173) (o := .cells #[.int .i64 0, .slice none 0 0] 25 (0, 0)) zq19 NB173_0.out zq58); have n1_ := Zs.mk (Kd.R_mono (Kd.R_keep (IsS90.apart (show IsS90 w0 _ g s0_0 t178 from by repeat (first | (with_reducible first | exact HI0.out | apply IsS90.alloc | apply IsS90.drewN | apply IsS90.drew | apply IsS90.set_1 | refine IsS90.far ?_ NB0_173.out _ | refine IsS90.far ?_ NB0_179.out _) | exact HI0.out)) (by (with_reducible repeat (first | apply Kd.R_alloc | apply Kd.R_drewN | apply Kd.R_drew)); exact (Kd.R_mono (Kd.R_far (p := ⟨gb179, 1, none⟩) (Kd.R_far (p := ⟨gb179, 0, none⟩) (Kd.R_types HO177.out BK179.out zq31) (fun _ hk => hk.2) (.int .i64 t174)) (fun _ hk => hk.2) (.slice Ao11 t175.length co11)) (fun _ h_ => h_.1))) zq31) hk (fun _ h => h.2)) (fun _ h => h.1)); have n2_ := Zs.mk (KeepBut.blk hk (g' := gb179) (o := .cells #[.int .i64 t174, .slice Ao11 t175.length co11] 25 (0, 0)) zq17 NB179_0.out zq58); have n3_ := Zs.mk (KeepBut.trans zq7 hk (.inl rfl)); have n4_ := Zs.mk (hb); have n5_ := Zs.mk (hi); clear BK173; clear HO177; clear BK179; clear HK; clear HB; clear HI0; have BK173 := n0_; have HO177 := n1_; have BK179 := n2_; have HK := n3_; have HB := n4_; have HI0 := n5_; clear n0_ n1_ n2_ n3_ n4_ n5_; (try clear hb); (try clear hb2); (try clear hk); (try clear hi); have hcz13_0 : w12.cell? ⟨gb179, 0, none⟩ = some (.int .i64 t174) := (kCe BK179.out 0).trans rfl; have hcz13_1 : w12.cell? ⟨gb179, 1, none⟩ = some (.slice Ao11 t175.length co11) := (kCe BK179.out 1).trans rfl; have hfz13_0 := kFr BK179.out 0; have hfz13_1 := kFr BK179.out 1; have hnb14 := NB173_0.out; have hnc14 := NB0_173.out; have hcz15_0 : w12.cell? ⟨gb173, 0, none⟩ = some (.int .i64 0) := (kCe BK173.out 0).trans rfl; have hcz15_1 : w12.cell? ⟨gb173, 1, none⟩ = some (.slice none 0 0) := (kCe BK173.out 1).trans rfl; have hfz15_0 := kFr BK173.out 0; have hfz15_1 := kFr BK173.out 1))
  refine bodyPost_ret (results_cell_row rfl _ _ gb173 25 #[.int .i64 t174, .slice Ao11 t175.length co11] (0, 0) _ rfl zq49 Try.underlying25 rfl zq6) rfl ?_
  exact ⟨_, by first | rfl | (simp [errW_none, errW_some] <;> rfl) | (simp [*, errW_none, errW_some] <;> rfl), Kd.Q_of_R (by (with_reducible repeat (first | apply Kd.R_alloc | apply Kd.R_drewN | apply Kd.R_drew)); exact Kd.R_mono (Kd.R_far (p := ⟨gb173, 1, none⟩) (Kd.R_far (p := ⟨gb173, 0, none⟩) (Kd.R_types HO177.out BK173.out zq31) (fun _ hk => hk.2) (.int .i64 t174)) (fun _ hk => hk.2) (.slice Ao11 t175.length co11)) (fun _ hk => trivial)), by repeat (first | (with_reducible first | exact HI0.out | apply IsS90.alloc | apply IsS90.drewN | apply IsS90.drew | apply IsS90.set_1 | refine IsS90.far ?_ NB0_173.out _ | refine IsS90.far ?_ NB0_179.out _) | exact HI0.out), by repeat (first | (with_reducible first | exact HB.out | apply bAl | apply bDN | apply bD1 | refine bSt ?_ (IsS90.ge HI0.out) | refine bSt ?_ GE173.out | refine bSt ?_ GE179.out) | exact HB.out), by repeat (first | (with_reducible first | exact HK.out | apply KeepBut.set_ | apply keep_drewN | apply keep_drew | apply keep_alloc | refine keep_far ?_ GW173.out _ | refine keep_far ?_ GW179.out _) | exact HK.out)⟩
 ·rw [if_neg c4] at H
  have c4b0 : decide (0 < t180) = false := decide_eq_false c4
  clear c4
  replace H := Option.bind_eq_some_iff.mp H
  obtain ⟨⟨t182, t183⟩, A160, H⟩ := H
  replace H : (if t182 = 0 then ((some (([0, (-1), 6] : List Int) : List Int)).bind fun y184 => ((spec_l6Rd_pick.f k s0_0 t183 3).bind fun bt187 => (if 0 ≤ bt187.1 then (if bt187.1 < (y184.length : Int) then (some (rd y184 bt187.1, t175, bt187.2)) else (none)) else (none)))) else (if t182 = 1 then (if 1 ≤ (t175.length : Int) then (some (t174, (t175.drop (1 : Int).toNat), t183)) else (none)) else (if t182 = 2 then ((spec_l6Rd_pick.f k s0_0 t183 (t175.length : Int)).bind fun bt193 => ((spec_l71Off.f k s0_0 bt193.2).bind fun bt195 => (if 0 ≤ bt193.1 then (if bt193.1 < (t175.length : Int) then (some (t174, (t175.set (bt193.1 : Int).toNat (⟨bt195.1, bt195.2.1⟩ : S57)), bt195.2.2)) else (none)) else (none)))) else (if t182 = 3 then (spec_l71Some.l0 k s0_0 t183 t174 t175) else (some (t174, ([] : List (S57)), t183)))))) = some (r1, r2, r3) := H
  have A16 := Zs.mk A160
  clear A160
  by_cases c17 : t182 = 0
  ·rw [if_pos c17] at H
   have c17b0 : (t182 == 0) = true := beq_iff_eq.mpr c17
   have c17b1 : (t182 != 0) = false := bne_eq_false_iff_eq.mpr c17
   clear c17
   obtain ⟨y184, hy184⟩ : ∃ y_ : List Int, y_ = (([0, (-1), 6] : List Int)) := ⟨_, rfl⟩
   replace H : ((spec_l6Rd_pick.f k s0_0 t183 3).bind fun bt187 => (if 0 ≤ bt187.1 then (if bt187.1 < (y184.length : Int) then (some (rd y184 bt187.1, t175, bt187.2)) else (none)) else (none))) = some (r1, r2, r3) := by first | (rw [hy184]; with_reducible exact H) | (have H2_ := (Option.bind_some _ _).symm.trans H; rw [hy184]; with_reducible exact H2_) | (have H2_ := (Option.bind_some _ _).symm.trans H; with_reducible exact H2_) | with_reducible exact H | (rw [hy184]; exact H) | exact H
   have Ny184 := Zs.mk hy184
   clear hy184
   replace H := Option.bind_eq_some_iff.mp H
   obtain ⟨⟨t187, t188⟩, A180, H⟩ := H
   replace H : (if 0 ≤ t187 then (if t187 < (y184.length : Int) then (some (rd y184 t187, t175, t188)) else (none)) else (none)) = some (r1, r2, r3) := H
   have A18 := Zs.mk A180
   clear A180
   by_cases c19 : 0 ≤ t187
   ·rw [if_pos c19] at H
    have c19b0 : decide (0 ≤ t187) = true := decide_eq_true c19
    clear c19
    by_cases c20 : t187 < (y184.length : Int)
    ·rw [if_pos c20] at H
     have c20b0 : decide (t187 < (y184.length : Int)) = true := decide_eq_true c20
     clear c20
     simp only [Option.some.injEq, Prod.mk.injEq] at H
     obtain ⟨rfl, rfl, rfl⟩ := H
     go_enter Try.func68, Try.ntmps68
     go_wp2_with (first | ((with_reducible refine gate_dst (N := 2) rfl ?_); refine box_event ?hg (N := 2) ?hd (cs := #[.int .i64 0, .slice none 0 0]) (t := 25) ?hr ?_; (case hd => rfl); (case hg => rfl); (case hr => first | (go_simp; done) | (go_simp; rfl)); intro gb173 hg w21 hbox hb; have n0_ := Zs.mk (IsS90.below zq20 hb); have n1_ := Zs.mk (KeepBut.trans zq4 (KeepBut.of_below hb g none) (.inl rfl)); have n2_ := Zs.mk (bSp zq23 hb); have n3_ := Zs.mk (hbox); have n4_ := Zs.mk ((by rw [hg]; exact (keep_size (w := w) (g := g) (row := none) zq4) : w.heap.size ≤ gb173)); have n5_ := Zs.mk ((Nat.le_trans HW0.out (by rw [hg]; exact (keep_size (w := w) (g := g) (row := none) zq4) : w.heap.size ≤ gb173) : w0.heap.size ≤ gb173)); have n6_ := Zs.mk ((by rw [hg]; exact Nat.ne_of_lt (IsS90.lt (show IsS90 w0 _ g s0_0 s0_1 from by repeat (first | (with_reducible first | exact HI0.out | apply IsS90.alloc | apply IsS90.drewN | apply IsS90.drew | apply IsS90.set_1) | exact HI0.out))) : g ≠ gb173)); have n7_ := Zs.mk ((by rw [hg]; exact Nat.ne_of_gt (IsS90.lt (show IsS90 w0 _ g s0_0 s0_1 from by repeat (first | (with_reducible first | exact HI0.out | apply IsS90.alloc | apply IsS90.drewN | apply IsS90.drew | apply IsS90.set_1) | exact HI0.out))) : gb173 ≠ g)); clear HI0; clear HK; clear HB; have HI0 := n0_; have HK := n1_; have HB := n2_; have BK173 := n3_; have GW173 := n4_; have GE173 := n5_; have NB0_173 := n6_; have NB173_0 := n7_; clear n0_ n1_ n2_ n3_ n4_ n5_ n6_ n7_; clear hb hbox hg) | ((with_reducible refine gate_callee (f := 85) rfl ?_); refine goesL_ (some 5) rfl rfl Try.func85 zq6 rfl #[.pointer (some ⟨g, 0, none⟩)] rfl zq1 ?_; (with_reducible refine (spec_l71Grid.calls k g s0_0 s0_1 t174 t175 t178 w0 _ ?side1 ?side2 A2.out).mono ?_); (case side1 => repeat (first | (with_reducible first | exact HI0.out | apply IsS90.alloc | apply IsS90.drewN | apply IsS90.drew | apply IsS90.set_1 | refine IsS90.far ?_ NB0_173.out _) | exact HI0.out)); (case side2 => repeat (first | (with_reducible first | exact HB.out | apply bAl | apply bDN | apply bD1 | refine bSt ?_ (IsS90.ge HI0.out) | refine bSt ?_ GE173.out) | exact HB.out)); rintro e w22 ⟨v176, rfl, ho0, hi, hb, hk⟩; refine ⟨_, rfl, ?_⟩; have n0_ := Zs.mk (KeepBut.blk hk (g' := gb173) (o := .cells #[.int .i64 0, .slice none 0 0] 25 (0, 0)) zq10 NB173_0.out zq58); have n1_ := Zs.mk (Kd.R_lower ho0 (keep_size (w := w) (g := g) (row := none) zq3)); have n2_ := Zs.mk (KeepBut.trans zq3 hk (.inl rfl)); have n3_ := Zs.mk (hb); have n4_ := Zs.mk (hi); clear BK173; clear HK; clear HB; clear HI0; have BK173 := n0_; have HO177 := n1_; have HK := n2_; have HB := n3_; have HI0 := n4_; clear n0_ n1_ n2_ n3_ n4_; (try clear hb); (try clear hb2); (try clear hk); (try clear hi); (try clear ho0)) | ((with_reducible refine gate_dst (N := 3) rfl ?_); refine box_event ?hg (N := 3) ?hd (cs := #[.int .i64 0, .slice none 0 0]) (t := 25) ?hr ?_; (case hd => rfl); (case hg => rfl); (case hr => first | (go_simp; done) | (go_simp; rfl)); intro gb179 hg w23 hbox hb; have n0_ := Zs.mk (Kd.R_below zq21 hb); have n1_ := Zs.mk (IsS90.below zq43 hb); have n2_ := Zs.mk (kBe (g := gb173) (o := .cells #[.int .i64 0, .slice none 0 0] 25 (0, 0)) zq10 hb); have n3_ := Zs.mk (KeepBut.trans zq3 (KeepBut.of_below hb g none) (.inl rfl)); have n4_ := Zs.mk (bSp zq48 hb); have n5_ := Zs.mk (hbox); have n6_ := Zs.mk ((by rw [hg]; exact (keep_size (w := w) (g := g) (row := none) zq3) : w.heap.size ≤ gb179)); have n7_ := Zs.mk ((Nat.le_trans HW0.out (by rw [hg]; exact (keep_size (w := w) (g := g) (row := none) zq3) : w.heap.size ≤ gb179) : w0.heap.size ≤ gb179)); have n8_ := Zs.mk ((by rw [hg]; exact Nat.ne_of_lt (blk_lt (g := gb173) (o := .cells #[.int .i64 0, .slice none 0 0] 25 (0, 0)) zq10) : gb173 ≠ gb179)); have n9_ := Zs.mk ((by rw [hg]; exact Nat.ne_of_gt (blk_lt (g := gb173) (o := .cells #[.int .i64 0, .slice none 0 0] 25 (0, 0)) zq10) : gb179 ≠ gb173)); have n10_ := Zs.mk ((by rw [hg]; exact Nat.ne_of_lt (IsS90.lt (show IsS90 w0 _ g s0_0 t178 from by repeat (first | (with_reducible first | exact HI0.out | apply IsS90.alloc | apply IsS90.drewN | apply IsS90.drew | apply IsS90.set_1 | refine IsS90.far ?_ NB0_173.out _) | exact HI0.out))) : g ≠ gb179)); have n11_ := Zs.mk ((by rw [hg]; exact Nat.ne_of_gt (IsS90.lt (show IsS90 w0 _ g s0_0 t178 from by repeat (first | (with_reducible first | exact HI0.out | apply IsS90.alloc | apply IsS90.drewN | apply IsS90.drew | apply IsS90.set_1 | refine IsS90.far ?_ NB0_173.out _) | exact HI0.out))) : gb179 ≠ g)); clear HO177; clear HI0; clear BK173; clear HK; clear HB; have HO177 := n0_; have HI0 := n1_; have BK173 := n2_; have HK := n3_; have HB := n4_; have BK179 := n5_; have GW179 := n6_; have GE179 := n7_; have NB173_179 := n8_; have NB179_173 := n9_; have NB0_179 := n10_; have NB179_0 := n11_; clear n0_ n1_ n2_ n3_ n4_ n5_ n6_ n7_ n8_ n9_ n10_ n11_; clear hb hbox hg; have hnb24 := NB179_173.out; have hnc24 := NB173_179.out; have hnb25 := NB179_0.out; have hnc25 := NB0_179.out; have hcz26_0 : w23.cell? ⟨gb179, 0, none⟩ = some (.int .i64 0) := (kCe BK179.out 0).trans rfl; have hcz26_1 : w23.cell? ⟨gb179, 1, none⟩ = some (.slice none 0 0) := (kCe BK179.out 1).trans rfl; have hfz26_0 := kFr BK179.out 0; have hfz26_1 := kFr BK179.out 1; obtain ⟨Ao27, co27, eo27⟩ := Kd.R_slice HO177.out; subst eo27) | ((with_reducible refine gate_callee (f := 43) rfl ?_); refine goesL_ (some 7) rfl rfl Try.func43 zq6 rfl #[.pointer (some ⟨g, 0, none⟩), .int .i64 24] rfl zq1 ?_; (with_reducible refine (spec_l6Rd_pick.calls k g s0_0 t178 24 t180 t181 w0 _ ?side1 ?side2 A3.out).mono ?_); (case side1 => repeat (first | (with_reducible first | exact HI0.out | apply IsS90.alloc | apply IsS90.drewN | apply IsS90.drew | apply IsS90.set_1 | refine IsS90.far ?_ NB0_173.out _ | refine IsS90.far ?_ NB0_179.out _) | exact HI0.out)); (case side2 => repeat (first | (with_reducible first | exact HB.out | apply bAl | apply bDN | apply bD1 | refine bSt ?_ (IsS90.ge HI0.out) | refine bSt ?_ GE173.out | refine bSt ?_ GE179.out) | exact HB.out)); rintro e w28 ⟨rfl, hi, hb, hk⟩; refine ⟨_, rfl, ?_⟩; have n0_ := Zs.mk (KeepBut.blk hk (g' := gb173) (o := .cells #[.int .i64 0, .slice none 0 0] 25 (0, 0)) zq19 NB173_0.out zq58); have n1_ := Zs.mk (Kd.R_mono (Kd.R_keep (IsS90.apart (show IsS90 w0 _ g s0_0 t178 from by repeat (first | (with_reducible first | exact HI0.out | apply IsS90.alloc | apply IsS90.drewN | apply IsS90.drew | apply IsS90.set_1 | refine IsS90.far ?_ NB0_173.out _ | refine IsS90.far ?_ NB0_179.out _) | exact HI0.out)) (by (with_reducible repeat (first | apply Kd.R_alloc | apply Kd.R_drewN | apply Kd.R_drew)); exact (Kd.R_mono (Kd.R_far (p := ⟨gb179, 1, none⟩) (Kd.R_far (p := ⟨gb179, 0, none⟩) (Kd.R_types HO177.out BK179.out zq31) (fun _ hk => hk.2) (.int .i64 t174)) (fun _ hk => hk.2) (.slice Ao27 t175.length co27)) (fun _ h_ => h_.1))) zq31) hk (fun _ h => h.2)) (fun _ h => h.1)); have n2_ := Zs.mk (KeepBut.blk hk (g' := gb179) (o := .cells #[.int .i64 t174, .slice Ao27 t175.length co27] 25 (0, 0)) zq17 NB179_0.out zq58); have n3_ := Zs.mk (KeepBut.trans zq7 hk (.inl rfl)); have n4_ := Zs.mk (hb); have n5_ := Zs.mk (hi); clear BK173; clear HO177; clear BK179; clear HK; clear HB; clear HI0; have BK173 := n0_; have HO177 := n1_; have BK179 := n2_; have HK := n3_; have HB := n4_; have HI0 := n5_; clear n0_ n1_ n2_ n3_ n4_ n5_; (try clear hb); (try clear hb2); (try clear hk); (try clear hi)) | ((with_reducible refine gate_callee (f := 43) rfl ?_); refine goesL_ (some 11) rfl rfl Try.func43 zq6 rfl #[.pointer (some ⟨g, 0, none⟩), .int .i64 5] rfl zq1 ?_; (with_reducible refine (spec_l6Rd_pick.calls k g s0_0 t181 5 t182 t183 w0 _ ?side1 ?side2 A16.out).mono ?_); (case side1 => repeat (first | (with_reducible first | exact HI0.out | apply IsS90.alloc | apply IsS90.drewN | apply IsS90.drew | apply IsS90.set_1 | refine IsS90.far ?_ NB0_173.out _ | refine IsS90.far ?_ NB0_179.out _) | exact HI0.out)); (case side2 => repeat (first | (with_reducible first | exact HB.out | apply bAl | apply bDN | apply bD1 | refine bSt ?_ (IsS90.ge HI0.out) | refine bSt ?_ GE173.out | refine bSt ?_ GE179.out) | exact HB.out)); rintro e w29 ⟨rfl, hi, hb, hk⟩; refine ⟨_, rfl, ?_⟩; have n0_ := Zs.mk (KeepBut.blk hk (g' := gb173) (o := .cells #[.int .i64 0, .slice none 0 0] 25 (0, 0)) zq10 NB173_0.out zq58); have n1_ := Zs.mk (Kd.R_mono (Kd.R_keep (IsS90.apart (show IsS90 w0 _ g s0_0 t181 from by repeat (first | (with_reducible first | exact HI0.out | apply IsS90.alloc | apply IsS90.drewN | apply IsS90.drew | apply IsS90.set_1 | refine IsS90.far ?_ NB0_173.out _ | refine IsS90.far ?_ NB0_179.out _) | exact HI0.out)) zq21 zq31) hk (fun _ h => h.2)) (fun _ h => h.1)); have n2_ := Zs.mk (KeepBut.blk hk (g' := gb179) (o := .cells #[.int .i64 t174, .slice Ao27 t175.length co27] 25 (0, 0)) zq44 NB179_0.out zq58); have n3_ := Zs.mk (KeepBut.trans zq7 hk (.inl rfl)); have n4_ := Zs.mk (hb); have n5_ := Zs.mk (hi); clear BK173; clear HO177; clear BK179; clear HK; clear HB; clear HI0; have BK173 := n0_; have HO177 := n1_; have BK179 := n2_; have HK := n3_; have HB := n4_; have HI0 := n5_; clear n0_ n1_ n2_ n3_ n4_ n5_; (try clear hb); (try clear hb2); (try clear hk); (try clear hi)) | ((with_reducible refine gate_dst (N := 15) rfl ?_); refine Kd.R_lit (Kd.int .i64) _ 3 ?hg (N := 15) ?hd (xs := ([0, (-1), 6] : List Int)) (inner := [.int .i64 0, .int .i64 (-1), .int .i64 6]) (ok := fun _ => True) (okp := fun _ => True) ?hr ?hp (fun _ hk => hk) trivial (Below.refl _ _) (Nat.le_refl _) zq58 ?_; (case hd => rfl); (case hg => rfl); (case hr => first | (go_simp; done) | (go_simp; rfl)); (case hp => exact (Reps.one (show Kd.M (Kd.int .i64) _ _ _ 0 [.int .i64 0] from rfl) (Reps.one (show Kd.M (Kd.int .i64) _ _ _ (-1) [.int .i64 (-1)] from rfl) (Reps.one (show Kd.M (Kd.int .i64) _ _ _ 6 [.int .i64 6] from rfl) (Reps.none _ _))))); intro v185 w30 ho31 hb hg_ hnew_; clear hg_ hnew_; (first | rw [← Ny184.out] at ho31 | (simp only [Int.reduceToNat] at ho31; rw [← Ny184.out] at ho31)); have n0_ := Zs.mk (Kd.R_below zq21 hb); have n1_ := Zs.mk (Kd.R_lower ho31 (keep_size (w := w) (g := g) (row := none) zq7)); have n2_ := Zs.mk (IsS90.below zq89 hb); have n3_ := Zs.mk (kBe (g := gb173) (o := .cells #[.int .i64 0, .slice none 0 0] 25 (0, 0)) zq10 hb); have n4_ := Zs.mk (kBe (g := gb179) (o := .cells #[.int .i64 t174, .slice Ao27 t175.length co27] 25 (0, 0)) zq44 hb); have n5_ := Zs.mk (KeepBut.trans zq7 (KeepBut.of_below hb g none) (.inl rfl)); have n6_ := Zs.mk (bSp (by repeat (first | (with_reducible first | exact HB.out | apply bAl | apply bDN | apply bD1 | refine bSt ?_ (IsS90.ge HI0.out) | refine bSt ?_ GE173.out | refine bSt ?_ GE179.out) | exact HB.out)) hb); clear HO177; clear HI0; clear BK173; clear BK179; clear HK; clear HB; have HO177 := n0_; have HO186 := n1_; have HI0 := n2_; have BK173 := n3_; have BK179 := n4_; have HK := n5_; have HB := n6_; clear n0_ n1_ n2_ n3_ n4_ n5_ n6_; clear hb ho31) | ((with_reducible refine gate_callee (f := 43) rfl ?_); refine goesL_ (some 17) rfl rfl Try.func43 zq6 rfl #[.pointer (some ⟨g, 0, none⟩), .int .i64 3] rfl zq1 ?_; (with_reducible refine (spec_l6Rd_pick.calls k g s0_0 t183 3 t187 t188 w0 _ ?side1 ?side2 A18.out).mono ?_); (case side1 => repeat (first | (with_reducible first | exact HI0.out | apply IsS90.alloc | apply IsS90.drewN | apply IsS90.drew | apply IsS90.set_1 | refine IsS90.far ?_ NB0_173.out _ | refine IsS90.far ?_ NB0_179.out _) | exact HI0.out)); (case side2 => repeat (first | (with_reducible first | exact HB.out | apply bAl | apply bDN | apply bD1 | refine bSt ?_ (IsS90.ge HI0.out) | refine bSt ?_ GE173.out | refine bSt ?_ GE179.out) | exact HB.out)); rintro e w32 ⟨rfl, hi, hb, hk⟩; refine ⟨_, rfl, ?_⟩; have n0_ := Zs.mk (KeepBut.blk hk (g' := gb173) (o := .cells #[.int .i64 0, .slice none 0 0] 25 (0, 0)) zq10 NB173_0.out zq58); have n1_ := Zs.mk (Kd.R_mono (Kd.R_keep (IsS90.apart (show IsS90 w0 _ g s0_0 t183 from by repeat (first | (with_reducible first | exact HI0.out | apply IsS90.alloc | apply IsS90.drewN | apply IsS90.drew | apply IsS90.set_1 | refine IsS90.far ?_ NB0_173.out _ | refine IsS90.far ?_ NB0_179.out _) | exact HI0.out)) zq21 zq31) hk (fun _ h => h.2)) (fun _ h => h.1)); have n2_ := Zs.mk (KeepBut.blk hk (g' := gb179) (o := .cells #[.int .i64 t174, .slice Ao27 t175.length co27] 25 (0, 0)) zq44 NB179_0.out zq58); have n3_ := Zs.mk (Kd.R_mono (Kd.R_keep (IsS90.apart (show IsS90 w0 _ g s0_0 t183 from by repeat (first | (with_reducible first | exact HI0.out | apply IsS90.alloc | apply IsS90.drewN | apply IsS90.drew | apply IsS90.set_1 | refine IsS90.far ?_ NB0_173.out _ | refine IsS90.far ?_ NB0_179.out _) | exact HI0.out)) (by (with_reducible repeat (first | apply Kd.R_alloc | apply Kd.R_drewN | apply Kd.R_drew)); exact HO186.out) zq31) hk (fun _ h => h.2)) (fun _ h => h.1)); have n4_ := Zs.mk (KeepBut.trans zq7 hk (.inl rfl)); have n5_ := Zs.mk (hb); have n6_ := Zs.mk (hi); clear BK173; clear HO177; clear BK179; clear HO186; clear HK; clear HB; clear HI0; have BK173 := n0_; have HO177 := n1_; have BK179 := n2_; have HO186 := n3_; have HK := n4_; have HB := n5_; have HI0 := n6_; clear n0_ n1_ n2_ n3_ n4_ n5_ n6_; (try clear hb); (try clear hb2); (try clear hk); (try clear hi); obtain ⟨Ao33, co33, eo33⟩ := Kd.R_slice HO186.out; subst eo33; have p189 : 0 ≤ (t187 : Int) := of_decide_eq_true zq8; have q189 : t187 < (y184.length : Int) := of_decide_eq_true zq8; obtain ⟨ad189, e189, hx189_0⟩ := Kd.at_int (Kd.R_reads' HO186.out).2.2 t187 p189 q189; cases e189; replace p189 := eq_true p189; replace q189 := eq_true q189; have hcz34_0 : w32.cell? ⟨gb179, 0, none⟩ = some (.int .i64 t174) := (kCe BK179.out 0).trans rfl; have hcz34_1 : w32.cell? ⟨gb179, 1, none⟩ = some (.slice Ao27 t175.length co27) := (kCe BK179.out 1).trans rfl; have hfz34_0 := kFr BK179.out 0; have hfz34_1 := kFr BK179.out 1; have hnb35 := NB173_0.out; have hnc35 := NB0_173.out; have hcz36_0 : w32.cell? ⟨gb173, 0, none⟩ = some (.int .i64 0) := (kCe BK173.out 0).trans rfl; have hcz36_1 : w32.cell? ⟨gb173, 1, none⟩ = some (.slice none 0 0) := (kCe BK173.out 1).trans rfl; have hfz36_0 := kFr BK173.out 0; have hfz36_1 := kFr BK173.out 1))
     refine bodyPost_ret (results_cell_row rfl _ _ gb173 25 #[.int .i64 (rd y184 t187), .slice Ao27 t175.length co27] (0, 0) _ rfl (by (with_reducible repeat (first | refine kDN ?_ _ | refine kDr ?_ | refine kAl ?_ _)); refine blk_put (cs := #[.int .i64 (rd y184 t187), .slice none 0 0]) ?_ 1 _ rfl; (with_reducible repeat (first | refine kDN ?_ _ | refine kDr ?_ | refine kAl ?_ _)); refine blk_put (cs := #[.int .i64 0, .slice none 0 0]) ?_ 0 _ rfl; (with_reducible repeat (first | refine kDN ?_ _ | refine kDr ?_ | refine kAl ?_ _)); refine blk_far ?_ NB173_179.out _; (with_reducible repeat (first | refine kDN ?_ _ | refine kDr ?_ | refine kAl ?_ _)); exact BK173.out) Try.underlying25 rfl zq6) rfl ?_
     exact ⟨_, by first | rfl | (simp [errW_none, errW_some] <;> rfl) | (simp [*, errW_none, errW_some] <;> rfl), Kd.Q_of_R (by (with_reducible repeat (first | apply Kd.R_alloc | apply Kd.R_drewN | apply Kd.R_drew)); exact Kd.R_mono (Kd.R_far (p := ⟨gb173, 1, none⟩) (Kd.R_far (p := ⟨gb173, 0, none⟩) (Kd.R_far (p := ⟨gb179, 0, none⟩) (Kd.R_types (Kd.R_types HO177.out BK179.out zq31) BK173.out zq31) (fun _ hk => hk.1.2) (.int .i64 (rd y184 t187))) (fun _ hk => hk.2) (.int .i64 (rd y184 t187))) (fun _ hk => hk.2) (.slice Ao27 t175.length co27)) (fun _ hk => trivial)), by repeat (first | (with_reducible first | exact HI0.out | apply IsS90.alloc | apply IsS90.drewN | apply IsS90.drew | apply IsS90.set_1 | refine IsS90.far ?_ NB0_173.out _ | refine IsS90.far ?_ NB0_179.out _) | exact HI0.out), by repeat (first | (with_reducible first | exact HB.out | apply bAl | apply bDN | apply bD1 | refine bSt ?_ (IsS90.ge HI0.out) | refine bSt ?_ GE173.out | refine bSt ?_ GE179.out) | exact HB.out), by repeat (first | (with_reducible first | exact HK.out | apply KeepBut.set_ | apply keep_drewN | apply keep_drew | apply keep_alloc | refine keep_far ?_ GW173.out _ | refine keep_far ?_ GW179.out _) | exact HK.out)⟩
    ·rw [if_neg c20] at H
     exact absurd H zq58
   ·rw [if_neg c19] at H
    exact absurd H zq58
  ·rw [if_neg c17] at H
   have c17b0 : (t182 == 0) = false := beq_eq_false_iff_ne.mpr c17
   have c17b1 : (t182 != 0) = true := bne_iff_ne.mpr c17
   by_cases c37 : t182 = 1
   ·rw [if_pos c37] at H
    have c37b0 : (t182 == 1) = true := beq_iff_eq.mpr c37
    have c37b1 : (t182 != 1) = false := bne_eq_false_iff_eq.mpr c37
    clear c37
    by_cases c38 : 1 ≤ (t175.length : Int)
    ·rw [if_pos c38] at H
     have c38b0 := eq_true c38
     have c38b1 : decide (1 ≤ (t175.length : Int)) = true := decide_eq_true c38
     clear c38
     obtain ⟨y190, hy190⟩ : ∃ y_ : List (S57), y_ = (t175.drop (1 : Int).toNat) := ⟨_, rfl⟩
     replace H : (some (t174, y190, t183)) = some (r1, r2, r3) := by first | (rw [hy190]; with_reducible exact H) | (have H2_ := (Option.bind_some _ _).symm.trans H; rw [hy190]; with_reducible exact H2_) | (have H2_ := (Option.bind_some _ _).symm.trans H; with_reducible exact H2_) | with_reducible exact H | (rw [hy190]; exact H) | exact H
     have Ny190 := Zs.mk hy190
     clear hy190
     simp only [Option.some.injEq, Prod.mk.injEq] at H
     obtain ⟨rfl, rfl, rfl⟩ := H
     go_enter Try.func68, Try.ntmps68
     go_wp2_with (first | ((with_reducible refine gate_dst (N := 2) rfl ?_); refine box_event ?hg (N := 2) ?hd (cs := #[.int .i64 0, .slice none 0 0]) (t := 25) ?hr ?_; (case hd => rfl); (case hg => rfl); (case hr => first | (go_simp; done) | (go_simp; rfl)); intro gb173 hg w39 hbox hb; have n0_ := Zs.mk (IsS90.below zq20 hb); have n1_ := Zs.mk (KeepBut.trans zq4 (KeepBut.of_below hb g none) (.inl rfl)); have n2_ := Zs.mk (bSp zq23 hb); have n3_ := Zs.mk (hbox); have n4_ := Zs.mk ((by rw [hg]; exact (keep_size (w := w) (g := g) (row := none) zq4) : w.heap.size ≤ gb173)); have n5_ := Zs.mk ((Nat.le_trans HW0.out (by rw [hg]; exact (keep_size (w := w) (g := g) (row := none) zq4) : w.heap.size ≤ gb173) : w0.heap.size ≤ gb173)); have n6_ := Zs.mk ((by rw [hg]; exact Nat.ne_of_lt (IsS90.lt (show IsS90 w0 _ g s0_0 s0_1 from by repeat (first | (with_reducible first | exact HI0.out | apply IsS90.alloc | apply IsS90.drewN | apply IsS90.drew | apply IsS90.set_1) | exact HI0.out))) : g ≠ gb173)); have n7_ := Zs.mk ((by rw [hg]; exact Nat.ne_of_gt (IsS90.lt (show IsS90 w0 _ g s0_0 s0_1 from by repeat (first | (with_reducible first | exact HI0.out | apply IsS90.alloc | apply IsS90.drewN | apply IsS90.drew | apply IsS90.set_1) | exact HI0.out))) : gb173 ≠ g)); clear HI0; clear HK; clear HB; have HI0 := n0_; have HK := n1_; have HB := n2_; have BK173 := n3_; have GW173 := n4_; have GE173 := n5_; have NB0_173 := n6_; have NB173_0 := n7_; clear n0_ n1_ n2_ n3_ n4_ n5_ n6_ n7_; clear hb hbox hg) | ((with_reducible refine gate_callee (f := 85) rfl ?_); refine goesL_ (some 5) rfl rfl Try.func85 zq6 rfl #[.pointer (some ⟨g, 0, none⟩)] rfl zq1 ?_; (with_reducible refine (spec_l71Grid.calls k g s0_0 s0_1 t174 t175 t178 w0 _ ?side1 ?side2 A2.out).mono ?_); (case side1 => repeat (first | (with_reducible first | exact HI0.out | apply IsS90.alloc | apply IsS90.drewN | apply IsS90.drew | apply IsS90.set_1 | refine IsS90.far ?_ NB0_173.out _) | exact HI0.out)); (case side2 => repeat (first | (with_reducible first | exact HB.out | apply bAl | apply bDN | apply bD1 | refine bSt ?_ (IsS90.ge HI0.out) | refine bSt ?_ GE173.out) | exact HB.out)); rintro e w40 ⟨v176, rfl, ho0, hi, hb, hk⟩; refine ⟨_, rfl, ?_⟩; have n0_ := Zs.mk (KeepBut.blk hk (g' := gb173) (o := .cells #[.int .i64 0, .slice none 0 0] 25 (0, 0)) zq10 NB173_0.out zq58); have n1_ := Zs.mk (Kd.R_lower ho0 (keep_size (w := w) (g := g) (row := none) zq3)); have n2_ := Zs.mk (KeepBut.trans zq3 hk (.inl rfl)); have n3_ := Zs.mk (hb); have n4_ := Zs.mk (hi); clear BK173; clear HK; clear HB; clear HI0; have BK173 := n0_; have HO177 := n1_; have HK := n2_; have HB := n3_; have HI0 := n4_; clear n0_ n1_ n2_ n3_ n4_; (try clear hb); (try clear hb2); (try clear hk); (try clear hi); (try clear ho0)) | ((with_reducible refine gate_dst (N := 3) rfl ?_); refine box_event ?hg (N := 3) ?hd (cs := #[.int .i64 0, .slice none 0 0]) (t := 25) ?hr ?_; (case hd => rfl); (case hg => rfl); (case hr => first | (go_simp; done) | (go_simp; rfl)); intro gb179 hg w41 hbox hb; have n0_ := Zs.mk (Kd.R_below zq21 hb); have n1_ := Zs.mk (IsS90.below zq43 hb); have n2_ := Zs.mk (kBe (g := gb173) (o := .cells #[.int .i64 0, .slice none 0 0] 25 (0, 0)) zq10 hb); have n3_ := Zs.mk (KeepBut.trans zq3 (KeepBut.of_below hb g none) (.inl rfl)); have n4_ := Zs.mk (bSp zq48 hb); have n5_ := Zs.mk (hbox); have n6_ := Zs.mk ((by rw [hg]; exact (keep_size (w := w) (g := g) (row := none) zq3) : w.heap.size ≤ gb179)); have n7_ := Zs.mk ((Nat.le_trans HW0.out (by rw [hg]; exact (keep_size (w := w) (g := g) (row := none) zq3) : w.heap.size ≤ gb179) : w0.heap.size ≤ gb179)); have n8_ := Zs.mk ((by rw [hg]; exact Nat.ne_of_lt (blk_lt (g := gb173) (o := .cells #[.int .i64 0, .slice none 0 0] 25 (0, 0)) zq10) : gb173 ≠ gb179)); have n9_ := Zs.mk ((by rw [hg]; exact Nat.ne_of_gt (blk_lt (g := gb173) (o := .cells #[.int .i64 0, .slice none 0 0] 25 (0, 0)) zq10) : gb179 ≠ gb173)); have n10_ := Zs.mk ((by rw [hg]; exact Nat.ne_of_lt (IsS90.lt (show IsS90 w0 _ g s0_0 t178 from by repeat (first | (with_reducible first | exact HI0.out | apply IsS90.alloc | apply IsS90.drewN | apply IsS90.drew | apply IsS90.set_1 | refine IsS90.far ?_ NB0_173.out _) | exact HI0.out))) : g ≠ gb179)); have n11_ := Zs.mk ((by rw [hg]; exact Nat.ne_of_gt (IsS90.lt (show IsS90 w0 _ g s0_0 t178 from by repeat (first | (with_reducible first | exact HI0.out | apply IsS90.alloc | apply IsS90.drewN | apply IsS90.drew | apply IsS90.set_1 | refine IsS90.far ?_ NB0_173.out _) | exact HI0.out))) : gb179 ≠ g)); clear HO177; clear HI0; clear BK173; clear HK; clear HB; have HO177 := n0_; have HI0 := n1_; have BK173 := n2_; have HK := n3_; have HB := n4_; have BK179 := n5_; have GW179 := n6_; have GE179 := n7_; have NB173_179 := n8_; have NB179_173 := n9_; have NB0_179 := n10_; have NB179_0 := n11_; clear n0_ n1_ n2_ n3_ n4_ n5_ n6_ n7_ n8_ n9_ n10_ n11_; clear hb hbox hg; have hnb42 := NB179_173.out; have hnc42 := NB173_179.out; have hnb43 := NB179_0.out; have hnc43 := NB0_179.out; have hcz44_0 : w41.cell? ⟨gb179, 0, none⟩ = some (.int .i64 0) := (kCe BK179.out 0).trans rfl; have hcz44_1 : w41.cell? ⟨gb179, 1, none⟩ = some (.slice none 0 0) := (kCe BK179.out 1).trans rfl; have hfz44_0 := kFr BK179.out 0; have hfz44_1 := kFr BK179.out 1; obtain ⟨Ao45, co45, eo45⟩ := Kd.R_slice HO177.out; subst eo45) | ((with_reducible refine gate_callee (f := 43) rfl ?_); refine goesL_ (some 7) rfl rfl Try.func43 zq6 rfl #[.pointer (some ⟨g, 0, none⟩), .int .i64 24] rfl zq1 ?_; (with_reducible refine (spec_l6Rd_pick.calls k g s0_0 t178 24 t180 t181 w0 _ ?side1 ?side2 A3.out).mono ?_); (case side1 => repeat (first | (with_reducible first | exact HI0.out | apply IsS90.alloc | apply IsS90.drewN | apply IsS90.drew | apply IsS90.set_1 | refine IsS90.far ?_ NB0_173.out _ | refine IsS90.far ?_ NB0_179.out _) | exact HI0.out)); (case side2 => repeat (first | (with_reducible first | exact HB.out | apply bAl | apply bDN | apply bD1 | refine bSt ?_ (IsS90.ge HI0.out) | refine bSt ?_ GE173.out | refine bSt ?_ GE179.out) | exact HB.out)); rintro e w46 ⟨rfl, hi, hb, hk⟩; refine ⟨_, rfl, ?_⟩; have n0_ := Zs.mk (KeepBut.blk hk (g' := gb173) (o := .cells #[.int .i64 0, .slice none 0 0] 25 (0, 0)) zq19 NB173_0.out zq58); have n1_ := Zs.mk (Kd.R_mono (Kd.R_keep (IsS90.apart (show IsS90 w0 _ g s0_0 t178 from by repeat (first | (with_reducible first | exact HI0.out | apply IsS90.alloc | apply IsS90.drewN | apply IsS90.drew | apply IsS90.set_1 | refine IsS90.far ?_ NB0_173.out _ | refine IsS90.far ?_ NB0_179.out _) | exact HI0.out)) (by (with_reducible repeat (first | apply Kd.R_alloc | apply Kd.R_drewN | apply Kd.R_drew)); exact (Kd.R_mono (Kd.R_far (p := ⟨gb179, 1, none⟩) (Kd.R_far (p := ⟨gb179, 0, none⟩) (Kd.R_types HO177.out BK179.out zq31) (fun _ hk => hk.2) (.int .i64 t174)) (fun _ hk => hk.2) (.slice Ao45 t175.length co45)) (fun _ h_ => h_.1))) zq31) hk (fun _ h => h.2)) (fun _ h => h.1)); have n2_ := Zs.mk (KeepBut.blk hk (g' := gb179) (o := .cells #[.int .i64 t174, .slice Ao45 t175.length co45] 25 (0, 0)) zq17 NB179_0.out zq58); have n3_ := Zs.mk (KeepBut.trans zq7 hk (.inl rfl)); have n4_ := Zs.mk (hb); have n5_ := Zs.mk (hi); clear BK173; clear HO177; clear BK179; clear HK; clear HB; clear HI0; have BK173 := n0_; have HO177 := n1_; have BK179 := n2_; have HK := n3_; have HB := n4_; have HI0 := n5_; clear n0_ n1_ n2_ n3_ n4_ n5_; (try clear hb); (try clear hb2); (try clear hk); (try clear hi)) | ((with_reducible refine gate_callee (f := 43) rfl ?_); refine goesL_ (some 11) rfl rfl Try.func43 zq6 rfl #[.pointer (some ⟨g, 0, none⟩), .int .i64 5] rfl zq1 ?_; (with_reducible refine (spec_l6Rd_pick.calls k g s0_0 t181 5 t182 t183 w0 _ ?side1 ?side2 A16.out).mono ?_); (case side1 => repeat (first | (with_reducible first | exact HI0.out | apply IsS90.alloc | apply IsS90.drewN | apply IsS90.drew | apply IsS90.set_1 | refine IsS90.far ?_ NB0_173.out _ | refine IsS90.far ?_ NB0_179.out _) | exact HI0.out)); (case side2 => repeat (first | (with_reducible first | exact HB.out | apply bAl | apply bDN | apply bD1 | refine bSt ?_ (IsS90.ge HI0.out) | refine bSt ?_ GE173.out | refine bSt ?_ GE179.out) | exact HB.out)); rintro e w47 ⟨rfl, hi, hb, hk⟩; refine ⟨_, rfl, ?_⟩; have n0_ := Zs.mk (KeepBut.blk hk (g' := gb173) (o := .cells #[.int .i64 0, .slice none 0 0] 25 (0, 0)) zq10 NB173_0.out zq58); have n1_ := Zs.mk (Kd.R_mono (Kd.R_keep (IsS90.apart (show IsS90 w0 _ g s0_0 t181 from by repeat (first | (with_reducible first | exact HI0.out | apply IsS90.alloc | apply IsS90.drewN | apply IsS90.drew | apply IsS90.set_1 | refine IsS90.far ?_ NB0_173.out _ | refine IsS90.far ?_ NB0_179.out _) | exact HI0.out)) zq21 zq31) hk (fun _ h => h.2)) (fun _ h => h.1)); have n2_ := Zs.mk (KeepBut.blk hk (g' := gb179) (o := .cells #[.int .i64 t174, .slice Ao45 t175.length co45] 25 (0, 0)) zq44 NB179_0.out zq58); have n3_ := Zs.mk (KeepBut.trans zq7 hk (.inl rfl)); have n4_ := Zs.mk (hb); have n5_ := Zs.mk (hi); clear BK173; clear HO177; clear BK179; clear HK; clear HB; clear HI0; have BK173 := n0_; have HO177 := n1_; have BK179 := n2_; have HK := n3_; have HB := n4_; have HI0 := n5_; clear n0_ n1_ n2_ n3_ n4_ n5_; (try clear hb); (try clear hb2); (try clear hk); (try clear hi); have hcz48_0 : w47.cell? ⟨gb179, 0, none⟩ = some (.int .i64 t174) := (kCe BK179.out 0).trans rfl; have hcz48_1 : w47.cell? ⟨gb179, 1, none⟩ = some (.slice Ao45 t175.length co45) := (kCe BK179.out 1).trans rfl; have hfz48_0 := kFr BK179.out 0; have hfz48_1 := kFr BK179.out 1; have q49 : (1 : Int) ≤ ((t175.length : Int) : Int) := of_decide_eq_true zq8; obtain ⟨i049, hi049, _, hsz49, _⟩ := info_parts info57; have hcut49 := cut_from (P := Try.prog) 23 57 .i64 Try.underlying23 hi049 2 hsz49 Ao45 t175.length co45 1 zq37 q49; have hr49 := Kd.Q_drop (k := (1 : Int).toNat) (Kd.Q_of_R HO177.out) zq37; obtain ⟨A49, hA49⟩ : ∃ A1, A1 = (if co45 = (1 : Int).toNat then Ao45 else (Ao45 : Option Addr).map (·.add ((1 : Int).toNat * 2))) := ⟨_, rfl⟩; obtain ⟨c49, hc49⟩ : ∃ c1, c1 = co45 - (1 : Int).toNat := ⟨_, rfl⟩; have hy49 : y190.length = t175.length - (1 : Int).toNat := (by rw [Ny190.out, List.length_drop]); rw [← Ny190.out] at hr49; rw [← hy49, ← hA49, ← hc49] at hcut49; replace hr49 : Kd.Q k57 57 w47 w.heap.size (fun _ => True) (.slice A49 y190.length c49) y190 := (by rw [hA49, hc49, hy49]; exact hr49); have HE49 : Zs ((Value.slice A49 y190.length c49).ownBlock = (.slice Ao45 t175.length co45 : Value).ownBlock) := ⟨by rw [hA49]; split <;> (cases (Ao45 : Option Addr) <;> rfl)⟩; clear hy49 hi049 hsz49 HO177 hA49 hc49; have HO192 := Zs.mk hr49; clear hr49; replace q49 := eq_true q49; have hnb50 := NB173_0.out; have hnc50 := NB0_173.out; have hcz51_0 : w47.cell? ⟨gb173, 0, none⟩ = some (.int .i64 0) := (kCe BK173.out 0).trans rfl; have hcz51_1 : w47.cell? ⟨gb173, 1, none⟩ = some (.slice none 0 0) := (kCe BK173.out 1).trans rfl; have hfz51_0 := kFr BK173.out 0; have hfz51_1 := kFr BK173.out 1))
     refine bodyPost_ret (results_cell_row rfl _ _ gb173 25 #[.int .i64 t174, .slice A49 y190.length c49] (0, 0) _ rfl zq62 Try.underlying25 rfl zq6) rfl ?_
     exact ⟨_, by first | rfl | (simp [errW_none, errW_some] <;> rfl) | (simp [*, errW_none, errW_some] <;> rfl), by (with_reducible repeat (first | apply Kd.Q_alloc | apply Kd.Q_drewN | apply Kd.Q_drew)); exact Kd.Q_mono (Kd.Q_far (p := ⟨gb173, 1, none⟩) (Kd.Q_far (p := ⟨gb173, 0, none⟩) (Kd.Q_far (p := ⟨gb179, 1, none⟩) (Kd.Q_types (Kd.Q_types HO192.out BK179.out zq31) BK173.out zq31) (fun _ hk => hk.1.2) (.slice A49 y190.length c49)) (fun _ hk => hk.2) (.int .i64 t174)) (fun _ hk => hk.2) (.slice A49 y190.length c49)) (fun _ hk => trivial), by repeat (first | (with_reducible first | exact HI0.out | apply IsS90.alloc | apply IsS90.drewN | apply IsS90.drew | apply IsS90.set_1 | refine IsS90.far ?_ NB0_173.out _ | refine IsS90.far ?_ NB0_179.out _) | exact HI0.out), by repeat (first | (with_reducible first | exact HB.out | apply bAl | apply bDN | apply bD1 | refine bSt ?_ (IsS90.ge HI0.out) | refine bSt ?_ GE173.out | refine bSt ?_ GE179.out) | exact HB.out), by repeat (first | (with_reducible first | exact HK.out | apply KeepBut.set_ | apply keep_drewN | apply keep_drew | apply keep_alloc | refine keep_far ?_ GW173.out _ | refine keep_far ?_ GW179.out _) | exact HK.out)⟩
    ·rw [if_neg c38] at H
     exact absurd H zq58
   ·rw [if_neg c37] at H
    have c37b0 : (t182 == 1) = false := beq_eq_false_iff_ne.mpr c37
    have c37b1 : (t182 != 1) = true := bne_iff_ne.mpr c37
    by_cases c52 : t182 = 2
    ·rw [if_pos c52] at H
     have c52b0 : (t182 == 2) = true := beq_iff_eq.mpr c52
     have c52b1 : (t182 != 2) = false := bne_eq_false_iff_eq.mpr c52
     clear c52
     replace H := Option.bind_eq_some_iff.mp H
     obtain ⟨⟨t193, t194⟩, A530, H⟩ := H
     replace H : ((spec_l71Off.f k s0_0 t194).bind fun bt195 => (if 0 ≤ t193 then (if t193 < (t175.length : Int) then (some (t174, (t175.set (t193 : Int).toNat (⟨bt195.1, bt195.2.1⟩ : S57)), bt195.2.2)) else (none)) else (none))) = some (r1, r2, r3) := H
     have A53 := Zs.mk A530
     clear A530
     replace H := Option.bind_eq_some_iff.mp H
     obtain ⟨⟨t195, t196, t197⟩, A540, H⟩ := H
     replace H : (if 0 ≤ t193 then (if t193 < (t175.length : Int) then (some (t174, (t175.set (t193 : Int).toNat (⟨t195, t196⟩ : S57)), t197)) else (none)) else (none)) = some (r1, r2, r3) := H
     have A54 := Zs.mk A540
     clear A540
     by_cases c55 : 0 ≤ t193
     ·rw [if_pos c55] at H
      have c55b0 : decide (0 ≤ t193) = true := decide_eq_true c55
      clear c55
      by_cases c56 : t193 < (t175.length : Int)
      ·rw [if_pos c56] at H
       have c56b0 : decide (t193 < (t175.length : Int)) = true := decide_eq_true c56
       clear c56
       obtain ⟨y198, hy198⟩ : ∃ y_ : List (S57), y_ = (t175.set (t193 : Int).toNat (⟨t195, t196⟩ : S57)) := ⟨_, rfl⟩
       replace H : (some (t174, y198, t197)) = some (r1, r2, r3) := by first | (rw [hy198]; with_reducible exact H) | (have H2_ := (Option.bind_some _ _).symm.trans H; rw [hy198]; with_reducible exact H2_) | (have H2_ := (Option.bind_some _ _).symm.trans H; with_reducible exact H2_) | with_reducible exact H | (rw [hy198]; exact H) | exact H
       have Ny198 := Zs.mk hy198
       clear hy198
       simp only [Option.some.injEq, Prod.mk.injEq] at H
       obtain ⟨rfl, rfl, rfl⟩ := H
       go_enter Try.func68, Try.ntmps68
       try go_wp2_with (first | ((with_reducible refine gate_dst (N := 2) rfl ?_); refine box_event ?hg (N := 2) ?hd (cs := #[.int .i64 0, .slice none 0 0]) (t := 25) ?hr ?_; (case hd => rfl); (case hg => rfl); (case hr => first | (go_simp; done) | (go_simp; rfl)); intro gb173 hg w58 hbox hb; have n0_ := Zs.mk (IsS90.below zq20 hb); have n1_ := Zs.mk (KeepBut.trans zq4 (KeepBut.of_below hb g none) (.inl rfl)); have n2_ := Zs.mk (bSp zq23 hb); have n3_ := Zs.mk (hbox); have n4_ := Zs.mk ((by rw [hg]; exact (keep_size (w := w) (g := g) (row := none) zq4) : w.heap.size ≤ gb173)); have n5_ := Zs.mk ((Nat.le_trans HW0.out (by rw [hg]; exact (keep_size (w := w) (g := g) (row := none) zq4) : w.heap.size ≤ gb173) : w0.heap.size ≤ gb173)); have n6_ := Zs.mk ((by rw [hg]; exact Nat.ne_of_lt (IsS90.lt (show IsS90 w0 _ g s0_0 s0_1 from by repeat (first | (with_reducible first | exact HI0.out | apply IsS90.alloc | apply IsS90.drewN | apply IsS90.drew | apply IsS90.set_1) | exact HI0.out))) : g ≠ gb173)); have n7_ := Zs.mk ((by rw [hg]; exact Nat.ne_of_gt (IsS90.lt (show IsS90 w0 _ g s0_0 s0_1 from by repeat (first | (with_reducible first | exact HI0.out | apply IsS90.alloc | apply IsS90.drewN | apply IsS90.drew | apply IsS90.set_1) | exact HI0.out))) : gb173 ≠ g)); clear HI0; clear HK; clear HB; have HI0 := n0_; have HK := n1_; have HB := n2_; have BK173 := n3_; have GW173 := n4_; have GE173 := n5_; have NB0_173 := n6_; have NB173_0 := n7_; clear n0_ n1_ n2_ n3_ n4_ n5_ n6_ n7_; clear hb hbox hg) | ((with_reducible refine gate_callee (f := 85) rfl ?_); refine goesL_ (some 5) rfl rfl Try.func85 zq6 rfl #[.pointer (some ⟨g, 0, none⟩)] rfl zq1 ?_; (with_reducible refine (spec_l71Grid.calls k g s0_0 s0_1 t174 t175 t178 w0 _ ?side1 ?side2 A2.out).mono ?_); (case side1 => repeat (first | (with_reducible first | exact HI0.out | apply IsS90.alloc | apply IsS90.drewN | apply IsS90.drew | apply IsS90.set_1 | refine IsS90.far ?_ NB0_173.out _) | exact HI0.out)); (case side2 => repeat (first | (with_reducible first | exact HB.out | apply bAl | apply bDN | apply bD1 | refine bSt ?_ (IsS90.ge HI0.out) | refine bSt ?_ GE173.out) | exact HB.out)); rintro e w59 ⟨v176, rfl, ho0, hi, hb, hk⟩; refine ⟨_, rfl, ?_⟩; have n0_ := Zs.mk (KeepBut.blk hk (g' := gb173) (o := .cells #[.int .i64 0, .slice none 0 0] 25 (0, 0)) zq10 NB173_0.out zq58); have n1_ := Zs.mk (Kd.R_lower ho0 (keep_size (w := w) (g := g) (row := none) zq3)); have n2_ := Zs.mk (KeepBut.trans zq3 hk (.inl rfl)); have n3_ := Zs.mk (hb); have n4_ := Zs.mk (hi); clear BK173; clear HK; clear HB; clear HI0; have BK173 := n0_; have HO177 := n1_; have HK := n2_; have HB := n3_; have HI0 := n4_; clear n0_ n1_ n2_ n3_ n4_; (try clear hb); (try clear hb2); (try clear hk); (try clear hi); (try clear ho0)) | ((with_reducible refine gate_dst (N := 3) rfl ?_); refine box_event ?hg (N := 3) ?hd (cs := #[.int .i64 0, .slice none 0 0]) (t := 25) ?hr ?_; (case hd => rfl); (case hg => rfl); (case hr => first | (go_simp; done) | (go_simp; rfl)); intro gb179 hg w60 hbox hb; have n0_ := Zs.mk (Kd.R_below zq21 hb); have n1_ := Zs.mk (IsS90.below zq43 hb); have n2_ := Zs.mk (kBe (g := gb173) (o := .cells #[.int .i64 0, .slice none 0 0] 25 (0, 0)) zq10 hb); have n3_ := Zs.mk (KeepBut.trans zq3 (KeepBut.of_below hb g none) (.inl rfl)); have n4_ := Zs.mk (bSp zq48 hb); have n5_ := Zs.mk (hbox); have n6_ := Zs.mk ((by rw [hg]; exact (keep_size (w := w) (g := g) (row := none) zq3) : w.heap.size ≤ gb179)); have n7_ := Zs.mk ((Nat.le_trans HW0.out (by rw [hg]; exact (keep_size (w := w) (g := g) (row := none) zq3) : w.heap.size ≤ gb179) : w0.heap.size ≤ gb179)); have n8_ := Zs.mk ((by rw [hg]; exact Nat.ne_of_lt (blk_lt (g := gb173) (o := .cells #[.int .i64 0, .slice none 0 0] 25 (0, 0)) zq10) : gb173 ≠ gb179)); have n9_ := Zs.mk ((by rw [hg]; exact Nat.ne_of_gt (blk_lt (g := gb173) (o := .cells #[.int .i64 0, .slice none 0 0] 25 (0, 0)) zq10) : gb179 ≠ gb173)); have n10_ := Zs.mk ((by rw [hg]; exact Nat.ne_of_lt (IsS90.lt (show IsS90 w0 _ g s0_0 t178 from by repeat (first | (with_reducible first | exact HI0.out | apply IsS90.alloc | apply IsS90.drewN | apply IsS90.drew | apply IsS90.set_1 | refine IsS90.far ?_ NB0_173.out _) | exact HI0.out))) : g ≠ gb179)); have n11_ := Zs.mk ((by rw [hg]; exact Nat.ne_of_gt (IsS90.lt (show IsS90 w0 _ g s0_0 t178 from by repeat (first | (with_reducible first | exact HI0.out | apply IsS90.alloc | apply IsS90.drewN | apply IsS90.drew | apply IsS90.set_1 | refine IsS90.far ?_ NB0_173.out _) | exact HI0.out))) : gb179 ≠ g)); clear HO177; clear HI0; clear BK173; clear HK; clear HB; have HO177 := n0_; have HI0 := n1_; have BK173 := n2_; have HK := n3_; have HB := n4_; have BK179 := n5_; have GW179 := n6_; have GE179 := n7_; have NB173_179 := n8_; have NB179_173 := n9_; have NB0_179 := n10_; have NB179_0 := n11_; clear n0_ n1_ n2_ n3_ n4_ n5_ n6_ n7_ n8_ n9_ n10_ n11_; clear hb hbox hg; have hnb61 := NB179_173.out; have hnc61 := NB173_179.out; have hnb62 := NB179_0.out; have hnc62 := NB0_179.out; have hcz63_0 : w60.cell? ⟨gb179, 0, none⟩ = some (.int .i64 0) := (kCe BK179.out 0).trans rfl; have hcz63_1 : w60.cell? ⟨gb179, 1, none⟩ = some (.slice none 0 0) := (kCe BK179.out 1).trans rfl; have hfz63_0 := kFr BK179.out 0; have hfz63_1 := kFr BK179.out 1; obtain ⟨Ao64, co64, eo64⟩ := Kd.R_slice HO177.out; subst eo64) | ((with_reducible refine gate_callee (f := 43) rfl ?_); refine goesL_ (some 7) rfl rfl Try.func43 zq6 rfl #[.pointer (some ⟨g, 0, none⟩), .int .i64 24] rfl zq1 ?_; (with_reducible refine (spec_l6Rd_pick.calls k g s0_0 t178 24 t180 t181 w0 _ ?side1 ?side2 A3.out).mono ?_); (case side1 => repeat (first | (with_reducible first | exact HI0.out | apply IsS90.alloc | apply IsS90.drewN | apply IsS90.drew | apply IsS90.set_1 | refine IsS90.far ?_ NB0_173.out _ | refine IsS90.far ?_ NB0_179.out _) | exact HI0.out)); (case side2 => repeat (first | (with_reducible first | exact HB.out | apply bAl | apply bDN | apply bD1 | refine bSt ?_ (IsS90.ge HI0.out) | refine bSt ?_ GE173.out | refine bSt ?_ GE179.out) | exact HB.out)); rintro e w65 ⟨rfl, hi, hb, hk⟩; refine ⟨_, rfl, ?_⟩; have n0_ := Zs.mk (KeepBut.blk hk (g' := gb173) (o := .cells #[.int .i64 0, .slice none 0 0] 25 (0, 0)) zq19 NB173_0.out zq58); have n1_ := Zs.mk (Kd.R_mono (Kd.R_keep (IsS90.apart (show IsS90 w0 _ g s0_0 t178 from by repeat (first | (with_reducible first | exact HI0.out | apply IsS90.alloc | apply IsS90.drewN | apply IsS90.drew | apply IsS90.set_1 | refine IsS90.far ?_ NB0_173.out _ | refine IsS90.far ?_ NB0_179.out _) | exact HI0.out)) (by (with_reducible repeat (first | apply Kd.R_alloc | apply Kd.R_drewN | apply Kd.R_drew)); exact (Kd.R_mono (Kd.R_far (p := ⟨gb179, 1, none⟩) (Kd.R_far (p := ⟨gb179, 0, none⟩) (Kd.R_types HO177.out BK179.out zq31) (fun _ hk => hk.2) (.int .i64 t174)) (fun _ hk => hk.2) (.slice Ao64 t175.length co64)) (fun _ h_ => h_.1))) zq31) hk (fun _ h => h.2)) (fun _ h => h.1)); have n2_ := Zs.mk (KeepBut.blk hk (g' := gb179) (o := .cells #[.int .i64 t174, .slice Ao64 t175.length co64] 25 (0, 0)) zq17 NB179_0.out zq58); have n3_ := Zs.mk (KeepBut.trans zq7 hk (.inl rfl)); have n4_ := Zs.mk (hb); have n5_ := Zs.mk (hi); clear BK173; clear HO177; clear BK179; clear HK; clear HB; clear HI0; have BK173 := n0_; have HO177 := n1_; have BK179 := n2_; have HK := n3_; have HB := n4_; have HI0 := n5_; clear n0_ n1_ n2_ n3_ n4_ n5_; (try clear hb); (try clear hb2); (try clear hk); (try clear hi)) | ((with_reducible refine gate_callee (f := 43) rfl ?_); refine goesL_ (some 11) rfl rfl Try.func43 zq6 rfl #[.pointer (some ⟨g, 0, none⟩), .int .i64 5] rfl zq1 ?_; (with_reducible refine (spec_l6Rd_pick.calls k g s0_0 t181 5 t182 t183 w0 _ ?side1 ?side2 A16.out).mono ?_); (case side1 => repeat (first | (with_reducible first | exact HI0.out | apply IsS90.alloc | apply IsS90.drewN | apply IsS90.drew | apply IsS90.set_1 | refine IsS90.far ?_ NB0_173.out _ | refine IsS90.far ?_ NB0_179.out _) | exact HI0.out)); (case side2 => repeat (first | (with_reducible first | exact HB.out | apply bAl | apply bDN | apply bD1 | refine bSt ?_ (IsS90.ge HI0.out) | refine bSt ?_ GE173.out | refine bSt ?_ GE179.out) | exact HB.out)); rintro e w66 ⟨rfl, hi, hb, hk⟩; refine ⟨_, rfl, ?_⟩; have n0_ := Zs.mk (KeepBut.blk hk (g' := gb173) (o := .cells #[.int .i64 0, .slice none 0 0] 25 (0, 0)) zq10 NB173_0.out zq58); have n1_ := Zs.mk (Kd.R_mono (Kd.R_keep (IsS90.apart (show IsS90 w0 _ g s0_0 t181 from by repeat (first | (with_reducible first | exact HI0.out | apply IsS90.alloc | apply IsS90.drewN | apply IsS90.drew | apply IsS90.set_1 | refine IsS90.far ?_ NB0_173.out _ | refine IsS90.far ?_ NB0_179.out _) | exact HI0.out)) zq21 zq31) hk (fun _ h => h.2)) (fun _ h => h.1)); have n2_ := Zs.mk (KeepBut.blk hk (g' := gb179) (o := .cells #[.int .i64 t174, .slice Ao64 t175.length co64] 25 (0, 0)) zq44 NB179_0.out zq58); have n3_ := Zs.mk (KeepBut.trans zq7 hk (.inl rfl)); have n4_ := Zs.mk (hb); have n5_ := Zs.mk (hi); clear BK173; clear HO177; clear BK179; clear HK; clear HB; clear HI0; have BK173 := n0_; have HO177 := n1_; have BK179 := n2_; have HK := n3_; have HB := n4_; have HI0 := n5_; clear n0_ n1_ n2_ n3_ n4_ n5_; (try clear hb); (try clear hb2); (try clear hk); (try clear hi)))
       have n0_ := Zs.mk (Kd.R_drew HO177.out)
       have n1_ := Zs.mk (kDr BK173.out)
       have n2_ := Zs.mk (kDr BK179.out)
       have n3_ := Zs.mk (IsS90.drew HI0.out)
       have n4_ := Zs.mk (keep_drew HK.out)
       have n5_ := Zs.mk (bD1 HB.out)
       clear HO177
       clear BK173
       clear BK179
       clear HI0
       clear HK
       clear HB
       have HO177 := n0_
       have BK173 := n1_
       have BK179 := n2_
       have HI0 := n3_
       have HK := n4_
       have HB := n5_
       clear n0_ n1_ n2_ n3_ n4_ n5_
       refine start_ (n := 11) (S := fun w' => w'.cell? ⟨gb179, 0, none⟩ = some (.int .i64 t174) ∧ w'.cell? ⟨gb179, 1, none⟩ = some (.slice Ao64 t175.length co64)) (ds := [10]) #[false, false, false, false, false, false, false, false, false, false, false] zq6 rfl rfl ⟨(kCe BK179.out 0).trans rfl, (kCe BK179.out 1).trans rfl⟩ (fun hHeld => ?_); refine with_tabW spec_l71Some.tab11 spec_l71Some.bits11 (fun HT_ HW_ => ?_)
       generalize w66.drew = w67 at HO177 BK173 BK179 HI0 HK HB hHeld ⊢
       refine pure_ (i := 0) (N := some 29) (v := ?_) (a' := ?_) #[true, false, false, false, false, false, false, false, false, false, false] rfl rfl (any_of HT_.out zq6) (fun _ _ _ h => h) (Or.inl ⟨by rfl, ?_⟩) ?_ ?_
       rotate_left
       ·intro w'
        go_simp
        with_reducible rfl
       rotate_left
       ·simp only [Act.put, List.setIfInBounds_toArray, List.set_cons_zero, List.set_cons_succ, i64_w, i32_w]
        rfl
       refine pure_ (i := 2) (N := some 31) (v := ?_) (a' := ?_) #[true, false, true, false, false, false, false, false, false, false, false] rfl rfl (any_of HT_.out zq6) (fun _ _ _ h => h) (Or.inl ⟨by rfl, ?_⟩) ?_ ?_
       rotate_left
       ·intro w'
        go_simp
        with_reducible rfl
       rotate_left
       ·simp only [Act.put, List.setIfInBounds_toArray, List.set_cons_zero, List.set_cons_succ, i64_w, i32_w]
        rfl
       refine pure_ (i := 3) (N := some 32) (v := ?_) (a' := ?_) #[true, false, true, true, false, false, false, false, false, false, false] rfl rfl (any_of HT_.out zq6) (fun _ _ _ h => h) (Or.inl ⟨by rfl, ?_⟩) ?_ ?_
       rotate_left
       ·intro w'
        go_simp
        with_reducible rfl
       rotate_left
       ·simp only [Act.put, List.setIfInBounds_toArray, List.set_cons_zero, List.set_cons_succ, i64_w, i32_w]
        rfl
       refine pure_ (i := 7) (N := some 36) (v := ?_) (a' := ?_) #[true, false, true, true, false, false, false, true, false, false, false] rfl rfl (any_of HT_.out zq6) (fun _ _ _ h => h) (Or.inl ⟨by rfl, ?_⟩) ?_ ?_
       rotate_left
       ·intro w'
        go_simp
        with_reducible rfl
       rotate_left
       ·simp only [Act.put, List.setIfInBounds_toArray, List.set_cons_zero, List.set_cons_succ, i64_w, i32_w]
        rfl
       refine take_ (i := 1) (N := some 30) (v := ?_) (a' := ?_) #[true, true, true, true, false, false, false, true, false, false, false] rfl rfl (take_ofW HT_.out HW_.out zq6) (fun _ _ _ h => h) (Or.inl ⟨by rfl, ?_⟩) hHeld ?_ ?_
       rotate_left
       ·rintro w' ⟨s0, s1⟩
        go_simp
        with_reducible rfl
       rotate_left
       ·simp only [Act.put, List.setIfInBounds_toArray, List.set_cons_zero, List.set_cons_succ, i64_w, i32_w]
        rfl
       refine take_ (i := 4) (N := some 33) (v := ?_) (a' := ?_) #[true, true, true, true, true, false, false, true, false, false, false] rfl rfl (take_ofW HT_.out HW_.out zq6) (fun _ _ _ h => h) (Or.inl ⟨by rfl, ?_⟩) hHeld ?_ ?_
       rotate_left
       ·rintro w' ⟨s0, s1⟩
        go_simp
        with_reducible rfl
       rotate_left
       ·simp only [Act.put, List.setIfInBounds_toArray, List.set_cons_zero, List.set_cons_succ, i64_w, i32_w]
        rfl
       refine pure_ (i := 5) (N := some 34) (v := ?_) (a' := ?_) #[true, true, true, true, true, true, false, true, false, false, false] rfl rfl (any_of HT_.out zq6) (fun _ _ _ h => h) (Or.inl ⟨by rfl, ?_⟩) ?_ ?_
       rotate_left
       ·intro w'
        go_simp
        with_reducible rfl
       rotate_left
       ·simp only [Act.put, List.setIfInBounds_toArray, List.set_cons_zero, List.set_cons_succ, i64_w, i32_w]
        rfl
       refine one_ (i := 6) (N := some 35) #[true, true, true, true, true, true, true, true, false, false, false] rfl rfl (one_of HT_.out zq6) zq31 (fun K hK => ?_)
       refine goes_ Try.func43 zq6 rfl #[.pointer (some ⟨g, 0, none⟩), .int .i64 (t175.length : Int)] (by rfl) rfl rfl zq1 ?_
       with_reducible refine (spec_l6Rd_pick.calls k g s0_0 t183 (t175.length : Int) t193 t194 w0 _ ?side1 ?side2 A53.out).mono ?_
       (case side1 => repeat (first | (with_reducible first | exact HI0.out | apply IsS90.alloc | apply IsS90.drewN | apply IsS90.drew | apply IsS90.set_1 | refine IsS90.far ?_ NB0_173.out _ | refine IsS90.far ?_ NB0_179.out _) | exact HI0.out))
       (case side2 => repeat (first | (with_reducible first | exact HB.out | apply bAl | apply bDN | apply bD1 | refine bSt ?_ (IsS90.ge HI0.out) | refine bSt ?_ GE173.out | refine bSt ?_ GE179.out) | exact HB.out))
       rintro e w68 ⟨rfl, hi, hb, hk⟩
       refine ⟨_, rfl, ?_⟩
       have n0_ := Zs.mk (KeepBut.blk hk (g' := gb173) (o := .cells #[.int .i64 0, .slice none 0 0] 25 (0, 0)) zq10 NB173_0.out zq58)
       have n1_ := Zs.mk (Kd.R_mono (Kd.R_keep (IsS90.apart (show IsS90 w0 _ g s0_0 t183 from by repeat (first | (with_reducible first | exact HI0.out | apply IsS90.alloc | apply IsS90.drewN | apply IsS90.drew | apply IsS90.set_1 | refine IsS90.far ?_ NB0_173.out _ | refine IsS90.far ?_ NB0_179.out _) | exact HI0.out)) zq21 zq31) hk (fun _ h => h.2)) (fun _ h => h.1))
       have n2_ := Zs.mk (KeepBut.blk hk (g' := gb179) (o := .cells #[.int .i64 t174, .slice Ao64 t175.length co64] 25 (0, 0)) zq44 NB179_0.out zq58)
       have n3_ := Zs.mk (KeepBut.trans zq7 hk (.inl rfl))
       have n4_ := Zs.mk (hb)
       have n5_ := Zs.mk (hi)
       clear BK173
       clear HO177
       clear BK179
       clear HK
       clear HB
       clear HI0
       have BK173 := n0_
       have HO177 := n1_
       have BK179 := n2_
       have HK := n3_
       have HB := n4_
       have HI0 := n5_
       clear n0_ n1_ n2_ n3_ n4_ n5_
       (try clear hb)
       (try clear hb2)
       (try clear hk)
       (try clear hi)
       refine hK.out _ _ ⟨(kCe BK179.out 0).trans rfl, (kCe BK179.out 1).trans rfl⟩ (fun hHeld => ?_)
       clear hK K
       refine norm_ (a' := ?_) ?_ ?_
       rotate_left
       ·show Act.put _ (some 35) _ = _
        simp only [Act.put, List.setIfInBounds_toArray, List.set_cons_zero, List.set_cons_succ, i64_w, i32_w]
        rfl
       refine one_ (i := 8) (N := some 37) #[true, true, true, true, true, true, true, true, true, false, false] rfl rfl (one_of HT_.out zq6) zq31 (fun K hK => ?_)
       refine goes_ Try.func63 zq6 rfl #[.pointer (some ⟨g, 0, none⟩)] (by rfl) rfl rfl zq1 ?_
       with_reducible refine (spec_l71Off.calls k g s0_0 t194 t195 t196 t197 w0 _ ?side1 ?side2 A54.out).mono ?_
       (case side1 => repeat (first | (with_reducible first | exact HI0.out | apply IsS90.alloc | apply IsS90.drewN | apply IsS90.drew | apply IsS90.set_1 | refine IsS90.far ?_ NB0_173.out _ | refine IsS90.far ?_ NB0_179.out _) | exact HI0.out))
       (case side2 => repeat (first | (with_reducible first | exact HB.out | apply bAl | apply bDN | apply bD1 | refine bSt ?_ (IsS90.ge HI0.out) | refine bSt ?_ GE173.out | refine bSt ?_ GE179.out) | exact HB.out))
       rintro e w69 ⟨rfl, hi, hb, hk⟩
       refine ⟨_, rfl, ?_⟩
       have n0_ := Zs.mk (KeepBut.blk hk (g' := gb173) (o := .cells #[.int .i64 0, .slice none 0 0] 25 (0, 0)) zq10 NB173_0.out zq58)
       have n1_ := Zs.mk (Kd.R_mono (Kd.R_keep (IsS90.apart (show IsS90 w0 _ g s0_0 t194 from by repeat (first | (with_reducible first | exact HI0.out | apply IsS90.alloc | apply IsS90.drewN | apply IsS90.drew | apply IsS90.set_1 | refine IsS90.far ?_ NB0_173.out _ | refine IsS90.far ?_ NB0_179.out _) | exact HI0.out)) zq21 zq31) hk (fun _ h => h.2)) (fun _ h => h.1))
       have n2_ := Zs.mk (KeepBut.blk hk (g' := gb179) (o := .cells #[.int .i64 t174, .slice Ao64 t175.length co64] 25 (0, 0)) zq44 NB179_0.out zq58)
       have n3_ := Zs.mk (KeepBut.trans zq7 hk (.inl rfl))
       have n4_ := Zs.mk (hb)
       have n5_ := Zs.mk (hi)
       clear BK173
       clear HO177
       clear BK179
       clear HK
       clear HB
       clear HI0
       have BK173 := n0_
       have HO177 := n1_
       have BK179 := n2_
       have HK := n3_
       have HB := n4_
       have HI0 := n5_
       clear n0_ n1_ n2_ n3_ n4_ n5_
       (try clear hb)
       (try clear hb2)
       (try clear hk)
       (try clear hi)
       have p57 : 0 ≤ (t193 : Int) := of_decide_eq_true zq8
       have q57 : (t193 : Int) < ((t175.length : Int) : Int) := of_decide_eq_true zq8
       obtain ⟨go57, co57, eo57, gb57, gl57, cl57, HG57⟩ := Kd.R_form HO177.out zq37
       (first | cases eo57 | (injection eo57 with ea_ en_ ec_; (first | subst ea_ | (injection ea_ with ea_; subst ea_)); subst ec_; clear en_))
       have GB57 := Zs.mk gb57
       have GG57 := Zs.mk HG57
       clear gb57 gl57 HG57
       obtain ⟨ce57, hcl57, hM57, hcc57, hfr57⟩ := Kd.R_elem HO177.out z57 (t193 : Int) p57 q57
       obtain rfl := k57_openM hM57
       have hx57_0 : World.cell? _ ⟨go57, (t193 : Int).toNat * 2, none⟩ = some (.int .i64 ((rd_T57 t175 t193).f0)) := hcc57 0 _ rfl
       have hx57_1 : World.cell? _ ⟨go57, (t193 : Int).toNat * 2 + 1, none⟩ = some (.int .i64 ((rd_T57 t175 t193).f1)) := hcc57 1 _ rfl
       have hf57_0 : World.frozen? _ ⟨go57, (t193 : Int).toNat * 2, none⟩ = false := hfr57 0
       have hf57_1 : World.frozen? _ ⟨go57, (t193 : Int).toNat * 2 + 1, none⟩ = false := hfr57 1
       clear hcl57 hcc57 hfr57 hM57
       replace p57 := eq_true p57
       replace q57 := eq_true q57
       have HN0_go57 := Zs.mk (show g ≠ go57 from by have h_ := IsS90.own_ne HI0.out HO177.out zq31; intro e_; exact h_ (by rw [e_]; rfl))
       obtain ⟨ce70, hcl70, hM70, hcc70, hfr70⟩ := Kd.R_elem HO177.out z57 (t193 : Int) (of_decide_eq_true zq8) (by have h_ : (t193 : Int) < ((t175.length : Int) : Int) := of_decide_eq_true zq8; first | exact h_ | (have e_ := (Kd.R_reads' HO177.out).1; omega) | simpa using h_)
       obtain rfl := k57_openM hM70
       have HP70 := (Kd.R_seg HO177.out (t193 : Int) (of_decide_eq_true zq8) (by have h_ : (t193 : Int) < ((t175.length : Int) : Int) := of_decide_eq_true zq8; first | exact h_ | (have e_ := (Kd.R_reads' HO177.out).1; omega) | simpa using h_) (seg := [.int .i64 t195, .int .i64 t196]) (j := 0) hcl70 hcc70 (show 2 ≤ 2 from by decide) (x' := (⟨t195, t196⟩ : S57)) (k57_mkM _ _ _ (⟨t195, t196⟩ : S57) ) (fun _ hk => hk)).1
       rw [← Ny198.out] at HP70
       have HQ70 := Zs.mk HP70
       clear hcl70 hcc70 hfr70 hM70 HP70
       refine hK.out _ _ ⟨(kCe BK179.out 0).trans rfl, (kCe BK179.out 1).trans rfl⟩ (fun hHeld => ?_)
       clear hK K
       refine norm_ (a' := ?_) ?_ ?_
       rotate_left
       ·show Act.put _ (some 37) _ = _
        simp only [Act.put, List.setIfInBounds_toArray, List.set_cons_zero, List.set_cons_succ, i64_w, i32_w]
        rfl
       refine pure_ (i := 9) (N := some 38) (v := ?_) (a' := ?_) #[true, true, true, true, true, true, true, true, true, true, false] rfl rfl (any_of HT_.out zq6) (fun _ _ _ h => h) (Or.inl ⟨by rfl, ?_⟩) ?_ ?_
       rotate_left
       ·intro w'
        go_simp
        with_reducible rfl
       rotate_left
       ·simp only [Act.put, List.setIfInBounds_toArray, List.set_cons_zero, List.set_cons_succ, i64_w, i32_w]
        rfl
       refine last_ (i := 10) (N := none) #[true, true, true, true, true, true, true, true, true, true, true] rfl rfl (one_of HT_.out zq6) zq31 (fun K hK => ?_)
       refine skip_ (w1 := ?_) (by rfl) rfl ?_ ?_
       rotate_left
       ·go_simp
        rfl
       refine hK.out _ _ ?_
       clear hK K
       refine done_ (done_of HT_.out zq6) ?_
       have n0_ : Zs (Kd.R k57 57 ((w69.setCell ⟨go57, (t193 : Int).toNat * 2, none⟩ (.int .i64 t195)).setCell ⟨go57, (t193 : Int).toNat * 2 + 1, none⟩ (.int .i64 t196)) w.heap.size (fun _ => True) (.slice (some ⟨go57, 0, none⟩) t175.length co64) y198) := ⟨by (with_reducible repeat (first | apply Kd.R_alloc | apply Kd.R_drewN | apply Kd.R_drew)); exact HQ70.out⟩
       have n1_ : Zs (((w69.setCell ⟨go57, (t193 : Int).toNat * 2, none⟩ (.int .i64 t195)).setCell ⟨go57, (t193 : Int).toNat * 2 + 1, none⟩ (.int .i64 t196)).heap[gb173]? = some (.cells #[.int .i64 0, .slice none 0 0] 25 (0, 0))) := ⟨by (with_reducible repeat (first | refine kDN ?_ _ | refine kDr ?_ | refine kAl ?_ _)); refine blk_far ?_ (by have h_ := Kd.R_ne HO177.out BK173.out zq31; intro e_; exact h_ (by rw [e_]; rfl)) _; (with_reducible repeat (first | refine kDN ?_ _ | refine kDr ?_ | refine kAl ?_ _)); refine blk_far ?_ (by have h_ := Kd.R_ne HO177.out BK173.out zq31; intro e_; exact h_ (by rw [e_]; rfl)) _; (with_reducible repeat (first | refine kDN ?_ _ | refine kDr ?_ | refine kAl ?_ _)); exact BK173.out⟩
       have n2_ : Zs (((w69.setCell ⟨go57, (t193 : Int).toNat * 2, none⟩ (.int .i64 t195)).setCell ⟨go57, (t193 : Int).toNat * 2 + 1, none⟩ (.int .i64 t196)).heap[gb179]? = some (.cells #[.int .i64 t174, .slice (some ⟨go57, 0, none⟩) t175.length co64] 25 (0, 0))) := ⟨by (with_reducible repeat (first | refine kDN ?_ _ | refine kDr ?_ | refine kAl ?_ _)); refine blk_far ?_ (by have h_ := Kd.R_ne HO177.out BK179.out zq31; intro e_; exact h_ (by rw [e_]; rfl)) _; (with_reducible repeat (first | refine kDN ?_ _ | refine kDr ?_ | refine kAl ?_ _)); refine blk_far ?_ (by have h_ := Kd.R_ne HO177.out BK179.out zq31; intro e_; exact h_ (by rw [e_]; rfl)) _; (with_reducible repeat (first | refine kDN ?_ _ | refine kDr ?_ | refine kAl ?_ _)); exact BK179.out⟩
       have n3_ : Zs (IsS90 w0 ((w69.setCell ⟨go57, (t193 : Int).toNat * 2, none⟩ (.int .i64 t195)).setCell ⟨go57, (t193 : Int).toNat * 2 + 1, none⟩ (.int .i64 t196)) g s0_0 t197) := ⟨by repeat (first | (with_reducible first | exact HI0.out | apply IsS90.alloc | apply IsS90.drewN | apply IsS90.drew | apply IsS90.set_1 | refine IsS90.far ?_ HN0_go57.out _ | refine IsS90.far ?_ HN0_go57.out _ | refine IsS90.far ?_ NB0_173.out _ | refine IsS90.far ?_ NB0_179.out _) | exact HI0.out)⟩
       have n4_ : Zs (KeepBut w ((w69.setCell ⟨go57, (t193 : Int).toNat * 2, none⟩ (.int .i64 t195)).setCell ⟨go57, (t193 : Int).toNat * 2 + 1, none⟩ (.int .i64 t196)) g none) := ⟨by repeat (first | (with_reducible first | exact HK.out | apply KeepBut.set_ | apply keep_drewN | apply keep_drew | apply keep_alloc | refine keep_far ?_ GB57.out _ | refine keep_far ?_ GB57.out _ | refine keep_far ?_ GW173.out _ | refine keep_far ?_ GW179.out _) | exact HK.out)⟩
       have n5_ : Zs (Below w0.heap.size w0 ((w69.setCell ⟨go57, (t193 : Int).toNat * 2, none⟩ (.int .i64 t195)).setCell ⟨go57, (t193 : Int).toNat * 2 + 1, none⟩ (.int .i64 t196))) := ⟨by repeat (first | (with_reducible first | exact HB.out | apply bAl | apply bDN | apply bD1 | refine bSt ?_ (Nat.le_trans HL.out GB57.out) | refine bSt ?_ (Nat.le_trans HL.out GB57.out) | refine bSt ?_ (IsS90.ge HI0.out) | refine bSt ?_ GE173.out | refine bSt ?_ GE179.out) | exact HB.out)⟩
       (try clear HO177)
       (try clear BK173)
       (try clear BK179)
       (try clear HI0)
       (try clear HK)
       (try clear HB)
       generalize ((w69.setCell ⟨go57, (t193 : Int).toNat * 2, none⟩ (.int .i64 t195)).setCell ⟨go57, (t193 : Int).toNat * 2 + 1, none⟩ (.int .i64 t196)) = w71 at n0_ n1_ n2_ n3_ n4_ n5_ ⊢
       have HO177 := n0_
       have BK173 := n1_
       have BK179 := n2_
       have HI0 := n3_
       have HK := n4_
       have HB := n5_
       clear n0_ n1_ n2_ n3_ n4_ n5_
       have hcz72_0 : w71.cell? ⟨gb179, 0, none⟩ = some (.int .i64 t174) := (kCe BK179.out 0).trans rfl
       have hcz72_1 : w71.cell? ⟨gb179, 1, none⟩ = some (.slice (some ⟨go57, 0, none⟩) t175.length co64) := (kCe BK179.out 1).trans rfl
       have hfz72_0 := kFr BK179.out 0
       have hfz72_1 := kFr BK179.out 1
       have hnb73 := NB173_0.out
       have hnc73 := NB0_173.out
       have hcz74_0 : w71.cell? ⟨gb173, 0, none⟩ = some (.int .i64 0) := (kCe BK173.out 0).trans rfl
       have hcz74_1 : w71.cell? ⟨gb173, 1, none⟩ = some (.slice none 0 0) := (kCe BK173.out 1).trans rfl
       have hfz74_0 := kFr BK173.out 0
       have hfz74_1 := kFr BK173.out 1
       try go_wp2
       refine bodyPost_ret (results_cell_row rfl _ _ gb173 25 #[.int .i64 t174, .slice (some ⟨go57, 0, none⟩) t175.length co64] (0, 0) _ rfl zq49 Try.underlying25 rfl zq6) rfl ?_
       exact ⟨_, by first | rfl | (simp [errW_none, errW_some] <;> rfl) | (simp [*, errW_none, errW_some] <;> rfl), Kd.Q_of_R (by (with_reducible repeat (first | apply Kd.R_alloc | apply Kd.R_drewN | apply Kd.R_drew)); exact Kd.R_mono (Kd.R_far (p := ⟨gb173, 1, none⟩) (Kd.R_far (p := ⟨gb173, 0, none⟩) (Kd.R_types HO177.out BK173.out zq31) (fun _ hk => hk.2) (.int .i64 t174)) (fun _ hk => hk.2) (.slice (some ⟨go57, 0, none⟩) t175.length co64)) (fun _ hk => trivial)), by repeat (first | (with_reducible first | exact HI0.out | apply IsS90.alloc | apply IsS90.drewN | apply IsS90.drew | apply IsS90.set_1 | refine IsS90.far ?_ NB0_173.out _ | refine IsS90.far ?_ NB0_179.out _) | exact HI0.out), by repeat (first | (with_reducible first | exact HB.out | apply bAl | apply bDN | apply bD1 | refine bSt ?_ (IsS90.ge HI0.out) | refine bSt ?_ GE173.out | refine bSt ?_ GE179.out) | exact HB.out), by repeat (first | (with_reducible first | exact HK.out | apply KeepBut.set_ | apply keep_drewN | apply keep_drew | apply keep_alloc | refine keep_far ?_ GW173.out _ | refine keep_far ?_ GW179.out _) | exact HK.out)⟩
      ·rw [if_neg c56] at H
       exact absurd H zq58
     ·rw [if_neg c55] at H
      exact absurd H zq58
    ·rw [if_neg c52] at H
     have c52b0 : (t182 == 2) = false := beq_eq_false_iff_ne.mpr c52
     have c52b1 : (t182 != 2) = true := bne_iff_ne.mpr c52
     by_cases c75 : t182 = 3
     ·rw [if_pos c75] at H
      have c75b0 : (t182 == 3) = true := beq_iff_eq.mpr c75
      have c75b1 : (t182 != 3) = false := bne_eq_false_iff_eq.mpr c75
      clear c75
      have H' := Zs.mk H
      clear H
      go_enter Try.func68, Try.ntmps68
      go_wp2_with (first | ((with_reducible refine gate_dst (N := 2) rfl ?_); refine box_event ?hg (N := 2) ?hd (cs := #[.int .i64 0, .slice none 0 0]) (t := 25) ?hr ?_; (case hd => rfl); (case hg => rfl); (case hr => first | (go_simp; done) | (go_simp; rfl)); intro gb173 hg w76 hbox hb; have n0_ := Zs.mk (IsS90.below zq20 hb); have n1_ := Zs.mk (KeepBut.trans zq4 (KeepBut.of_below hb g none) (.inl rfl)); have n2_ := Zs.mk (bSp zq23 hb); have n3_ := Zs.mk (hbox); have n4_ := Zs.mk ((by rw [hg]; exact (keep_size (w := w) (g := g) (row := none) zq4) : w.heap.size ≤ gb173)); have n5_ := Zs.mk ((Nat.le_trans HW0.out (by rw [hg]; exact (keep_size (w := w) (g := g) (row := none) zq4) : w.heap.size ≤ gb173) : w0.heap.size ≤ gb173)); have n6_ := Zs.mk ((by rw [hg]; exact Nat.ne_of_lt (IsS90.lt (show IsS90 w0 _ g s0_0 s0_1 from by repeat (first | (with_reducible first | exact HI0.out | apply IsS90.alloc | apply IsS90.drewN | apply IsS90.drew | apply IsS90.set_1) | exact HI0.out))) : g ≠ gb173)); have n7_ := Zs.mk ((by rw [hg]; exact Nat.ne_of_gt (IsS90.lt (show IsS90 w0 _ g s0_0 s0_1 from by repeat (first | (with_reducible first | exact HI0.out | apply IsS90.alloc | apply IsS90.drewN | apply IsS90.drew | apply IsS90.set_1) | exact HI0.out))) : gb173 ≠ g)); clear HI0; clear HK; clear HB; have HI0 := n0_; have HK := n1_; have HB := n2_; have BK173 := n3_; have GW173 := n4_; have GE173 := n5_; have NB0_173 := n6_; have NB173_0 := n7_; clear n0_ n1_ n2_ n3_ n4_ n5_ n6_ n7_; clear hb hbox hg) | ((with_reducible refine gate_callee (f := 85) rfl ?_); refine goesL_ (some 5) rfl rfl Try.func85 zq6 rfl #[.pointer (some ⟨g, 0, none⟩)] rfl zq1 ?_; (with_reducible refine (spec_l71Grid.calls k g s0_0 s0_1 t174 t175 t178 w0 _ ?side1 ?side2 A2.out).mono ?_); (case side1 => repeat (first | (with_reducible first | exact HI0.out | apply IsS90.alloc | apply IsS90.drewN | apply IsS90.drew | apply IsS90.set_1 | refine IsS90.far ?_ NB0_173.out _) | exact HI0.out)); (case side2 => repeat (first | (with_reducible first | exact HB.out | apply bAl | apply bDN | apply bD1 | refine bSt ?_ (IsS90.ge HI0.out) | refine bSt ?_ GE173.out) | exact HB.out)); rintro e w77 ⟨v176, rfl, ho0, hi, hb, hk⟩; refine ⟨_, rfl, ?_⟩; have n0_ := Zs.mk (KeepBut.blk hk (g' := gb173) (o := .cells #[.int .i64 0, .slice none 0 0] 25 (0, 0)) zq10 NB173_0.out zq58); have n1_ := Zs.mk (Kd.R_lower ho0 (keep_size (w := w) (g := g) (row := none) zq3)); have n2_ := Zs.mk (KeepBut.trans zq3 hk (.inl rfl)); have n3_ := Zs.mk (hb); have n4_ := Zs.mk (hi); clear BK173; clear HK; clear HB; clear HI0; have BK173 := n0_; have HO177 := n1_; have HK := n2_; have HB := n3_; have HI0 := n4_; clear n0_ n1_ n2_ n3_ n4_; (try clear hb); (try clear hb2); (try clear hk); (try clear hi); (try clear ho0)) | ((with_reducible refine gate_dst (N := 3) rfl ?_); refine box_event ?hg (N := 3) ?hd (cs := #[.int .i64 0, .slice none 0 0]) (t := 25) ?hr ?_; (case hd => rfl); (case hg => rfl); (case hr => first | (go_simp; done) | (go_simp; rfl)); intro gb179 hg w78 hbox hb; have n0_ := Zs.mk (Kd.R_below zq21 hb); have n1_ := Zs.mk (IsS90.below zq43 hb); have n2_ := Zs.mk (kBe (g := gb173) (o := .cells #[.int .i64 0, .slice none 0 0] 25 (0, 0)) zq10 hb); have n3_ := Zs.mk (KeepBut.trans zq3 (KeepBut.of_below hb g none) (.inl rfl)); have n4_ := Zs.mk (bSp zq48 hb); have n5_ := Zs.mk (hbox); have n6_ := Zs.mk ((by rw [hg]; exact (keep_size (w := w) (g := g) (row := none) zq3) : w.heap.size ≤ gb179)); have n7_ := Zs.mk ((Nat.le_trans HW0.out (by rw [hg]; exact (keep_size (w := w) (g := g) (row := none) zq3) : w.heap.size ≤ gb179) : w0.heap.size ≤ gb179)); have n8_ := Zs.mk ((by rw [hg]; exact Nat.ne_of_lt (blk_lt (g := gb173) (o := .cells #[.int .i64 0, .slice none 0 0] 25 (0, 0)) zq10) : gb173 ≠ gb179)); have n9_ := Zs.mk ((by rw [hg]; exact Nat.ne_of_gt (blk_lt (g := gb173) (o := .cells #[.int .i64 0, .slice none 0 0] 25 (0, 0)) zq10) : gb179 ≠ gb173)); have n10_ := Zs.mk ((by rw [hg]; exact Nat.ne_of_lt (IsS90.lt (show IsS90 w0 _ g s0_0 t178 from by repeat (first | (with_reducible first | exact HI0.out | apply IsS90.alloc | apply IsS90.drewN | apply IsS90.drew | apply IsS90.set_1 | refine IsS90.far ?_ NB0_173.out _) | exact HI0.out))) : g ≠ gb179)); have n11_ := Zs.mk ((by rw [hg]; exact Nat.ne_of_gt (IsS90.lt (show IsS90 w0 _ g s0_0 t178 from by repeat (first | (with_reducible first | exact HI0.out | apply IsS90.alloc | apply IsS90.drewN | apply IsS90.drew | apply IsS90.set_1 | refine IsS90.far ?_ NB0_173.out _) | exact HI0.out))) : gb179 ≠ g)); clear HO177; clear HI0; clear BK173; clear HK; clear HB; have HO177 := n0_; have HI0 := n1_; have BK173 := n2_; have HK := n3_; have HB := n4_; have BK179 := n5_; have GW179 := n6_; have GE179 := n7_; have NB173_179 := n8_; have NB179_173 := n9_; have NB0_179 := n10_; have NB179_0 := n11_; clear n0_ n1_ n2_ n3_ n4_ n5_ n6_ n7_ n8_ n9_ n10_ n11_; clear hb hbox hg; have hnb79 := NB179_173.out; have hnc79 := NB173_179.out; have hnb80 := NB179_0.out; have hnc80 := NB0_179.out; have hcz81_0 : w78.cell? ⟨gb179, 0, none⟩ = some (.int .i64 0) := (kCe BK179.out 0).trans rfl; have hcz81_1 : w78.cell? ⟨gb179, 1, none⟩ = some (.slice none 0 0) := (kCe BK179.out 1).trans rfl; have hfz81_0 := kFr BK179.out 0; have hfz81_1 := kFr BK179.out 1; obtain ⟨Ao82, co82, eo82⟩ := Kd.R_slice HO177.out; subst eo82) | ((with_reducible refine gate_callee (f := 43) rfl ?_); refine goesL_ (some 7) rfl rfl Try.func43 zq6 rfl #[.pointer (some ⟨g, 0, none⟩), .int .i64 24] rfl zq1 ?_; (with_reducible refine (spec_l6Rd_pick.calls k g s0_0 t178 24 t180 t181 w0 _ ?side1 ?side2 A3.out).mono ?_); (case side1 => repeat (first | (with_reducible first | exact HI0.out | apply IsS90.alloc | apply IsS90.drewN | apply IsS90.drew | apply IsS90.set_1 | refine IsS90.far ?_ NB0_173.out _ | refine IsS90.far ?_ NB0_179.out _) | exact HI0.out)); (case side2 => repeat (first | (with_reducible first | exact HB.out | apply bAl | apply bDN | apply bD1 | refine bSt ?_ (IsS90.ge HI0.out) | refine bSt ?_ GE173.out | refine bSt ?_ GE179.out) | exact HB.out)); rintro e w83 ⟨rfl, hi, hb, hk⟩; refine ⟨_, rfl, ?_⟩; have n0_ := Zs.mk (KeepBut.blk hk (g' := gb173) (o := .cells #[.int .i64 0, .slice none 0 0] 25 (0, 0)) zq19 NB173_0.out zq58); have n1_ := Zs.mk (Kd.R_mono (Kd.R_keep (IsS90.apart (show IsS90 w0 _ g s0_0 t178 from by repeat (first | (with_reducible first | exact HI0.out | apply IsS90.alloc | apply IsS90.drewN | apply IsS90.drew | apply IsS90.set_1 | refine IsS90.far ?_ NB0_173.out _ | refine IsS90.far ?_ NB0_179.out _) | exact HI0.out)) (by (with_reducible repeat (first | apply Kd.R_alloc | apply Kd.R_drewN | apply Kd.R_drew)); exact (Kd.R_mono (Kd.R_far (p := ⟨gb179, 1, none⟩) (Kd.R_far (p := ⟨gb179, 0, none⟩) (Kd.R_types HO177.out BK179.out zq31) (fun _ hk => hk.2) (.int .i64 t174)) (fun _ hk => hk.2) (.slice Ao82 t175.length co82)) (fun _ h_ => h_.1))) zq31) hk (fun _ h => h.2)) (fun _ h => h.1)); have n2_ := Zs.mk (KeepBut.blk hk (g' := gb179) (o := .cells #[.int .i64 t174, .slice Ao82 t175.length co82] 25 (0, 0)) zq17 NB179_0.out zq58); have n3_ := Zs.mk (KeepBut.trans zq7 hk (.inl rfl)); have n4_ := Zs.mk (hb); have n5_ := Zs.mk (hi); clear BK173; clear HO177; clear BK179; clear HK; clear HB; clear HI0; have BK173 := n0_; have HO177 := n1_; have BK179 := n2_; have HK := n3_; have HB := n4_; have HI0 := n5_; clear n0_ n1_ n2_ n3_ n4_ n5_; (try clear hb); (try clear hb2); (try clear hk); (try clear hi)) | ((with_reducible refine gate_callee (f := 43) rfl ?_); refine goesL_ (some 11) rfl rfl Try.func43 zq6 rfl #[.pointer (some ⟨g, 0, none⟩), .int .i64 5] rfl zq1 ?_; (with_reducible refine (spec_l6Rd_pick.calls k g s0_0 t181 5 t182 t183 w0 _ ?side1 ?side2 A16.out).mono ?_); (case side1 => repeat (first | (with_reducible first | exact HI0.out | apply IsS90.alloc | apply IsS90.drewN | apply IsS90.drew | apply IsS90.set_1 | refine IsS90.far ?_ NB0_173.out _ | refine IsS90.far ?_ NB0_179.out _) | exact HI0.out)); (case side2 => repeat (first | (with_reducible first | exact HB.out | apply bAl | apply bDN | apply bD1 | refine bSt ?_ (IsS90.ge HI0.out) | refine bSt ?_ GE173.out | refine bSt ?_ GE179.out) | exact HB.out)); rintro e w84 ⟨rfl, hi, hb, hk⟩; refine ⟨_, rfl, ?_⟩; have n0_ := Zs.mk (KeepBut.blk hk (g' := gb173) (o := .cells #[.int .i64 0, .slice none 0 0] 25 (0, 0)) zq10 NB173_0.out zq58); have n1_ := Zs.mk (Kd.R_mono (Kd.R_keep (IsS90.apart (show IsS90 w0 _ g s0_0 t181 from by repeat (first | (with_reducible first | exact HI0.out | apply IsS90.alloc | apply IsS90.drewN | apply IsS90.drew | apply IsS90.set_1 | refine IsS90.far ?_ NB0_173.out _ | refine IsS90.far ?_ NB0_179.out _) | exact HI0.out)) zq21 zq31) hk (fun _ h => h.2)) (fun _ h => h.1)); have n2_ := Zs.mk (KeepBut.blk hk (g' := gb179) (o := .cells #[.int .i64 t174, .slice Ao82 t175.length co82] 25 (0, 0)) zq44 NB179_0.out zq58); have n3_ := Zs.mk (KeepBut.trans zq7 hk (.inl rfl)); have n4_ := Zs.mk (hb); have n5_ := Zs.mk (hi); clear BK173; clear HO177; clear BK179; clear HK; clear HB; clear HI0; have BK173 := n0_; have HO177 := n1_; have BK179 := n2_; have HK := n3_; have HB := n4_; have HI0 := n5_; clear n0_ n1_ n2_ n3_ n4_ n5_; (try clear hb); (try clear hb2); (try clear hk); (try clear hi)))
      go_loopg [] k (fun kq w' => ∃ (x180001_1 : List (S57)) (u180001 : Value), Zs (spec_l71Some.l0 kq s0_0 t183 t174 x180001_1 = some (r1, r2, r3)) ∧ Zs (kq ≤ k) ∧ Zs (Kd.Q k57 57 w' w.heap.size (fun _ => True) u180001 x180001_1) ∧ Zs (w'.heap[gb173]? = some (.cells #[.int .i64 0, (.slice none 0 0)] 25 (0, 0))) ∧ Zs (w'.heap[gb179]? = some (.cells #[.int .i64 t174, u180001] 25 (0, 0))) ∧ Zs (IsS90 w0 w' g s0_0 t183) ∧ Zs (KeepBut w w' g none) ∧ Zs (Below w0.heap.size w0 w'))
      case atStart => exact ⟨(t175), (.slice Ao82 t175.length co82), H', ⟨Nat.le_refl _⟩, ⟨Kd.Q_of_R zq21⟩, ⟨by (with_reducible repeat (first | refine kDN ?_ _ | refine kDr ?_ | refine kAl ?_ _)); exact BK173.out⟩, ⟨by (with_reducible repeat (first | refine kDN ?_ _ | refine kDr ?_ | refine kAl ?_ _)); exact BK179.out⟩, ⟨by repeat (first | (with_reducible first | exact HI0.out | apply IsS90.alloc | apply IsS90.drewN | apply IsS90.drew | apply IsS90.set_1 | refine IsS90.far ?_ NB0_173.out _ | refine IsS90.far ?_ NB0_179.out _) | exact HI0.out)⟩, ⟨by repeat (first | (with_reducible first | exact HK.out | apply KeepBut.set_ | apply keep_drewN | apply keep_drew | apply keep_alloc | refine keep_far ?_ GW173.out _ | refine keep_far ?_ GW179.out _) | exact HK.out)⟩, ⟨by repeat (first | (with_reducible first | exact HB.out | apply bAl | apply bDN | apply bD1 | refine bSt ?_ (IsS90.ge HI0.out) | refine bSt ?_ GE173.out | refine bSt ?_ GE179.out) | exact HB.out)⟩⟩
      case round =>
       clear H'
       try clear c1
       try clear p1
       try clear q1
       try clear hx1
       try clear c2
       try clear p2
       try clear c3
       try clear c4
       try clear c4b0
       try clear q4
       try clear c5
       try clear p5
       try clear q5
       try clear hx5
       try clear hf5
       try clear c6
       try clear c7
       try clear c8
       try clear c9
       try clear c14
       try clear c17
       try clear c17b0
       try clear c17b1
       try clear p18
       try clear q18
       try clear hx18
       try clear c19
       try clear c19b0
       try clear c20
       try clear c20b0
       try clear c24
       try clear c25
       try clear c35
       try clear c37
       try clear c37b0
       try clear c37b1
       try clear c38
       try clear c38b0
       try clear c38b1
       try clear c42
       try clear c43
       try clear c49
       try clear q49
       try clear c50
       try clear c52
       try clear c52b0
       try clear c52b1
       try clear c55
       try clear c55b0
       try clear c56
       try clear c56b0
       try clear c57
       try clear p57
       try clear q57
       try clear hx57
       try clear hf57
       try clear c61
       try clear c62
       try clear c63
       try clear c68
       try clear c70
       try clear c73
       try clear c75
       try clear c75b0
       try clear c75b1
       try clear c79
       try clear c80
       try clear hcz10_0
       try clear hcz10_1
       try clear hcz13_0
       try clear hcz13_1
       try clear hcz15_0
       try clear hcz15_1
       try clear hcz26_0
       try clear hcz26_1
       try clear hcz34_0
       try clear hcz34_1
       try clear hcz36_0
       try clear hcz36_1
       try clear hcz44_0
       try clear hcz44_1
       try clear hcz48_0
       try clear hcz48_1
       try clear hcz51_0
       try clear hcz51_1
       try clear hcz63_0
       try clear hcz63_1
       try clear hcz72_0
       try clear hcz72_1
       try clear hcz74_0
       try clear hcz74_1
       try clear hcz81_0
       try clear hcz81_1
       try clear hfz10_0
       try clear hfz10_1
       try clear hfz13_0
       try clear hfz13_1
       try clear hfz15_0
       try clear hfz15_1
       try clear hfz26_0
       try clear hfz26_1
       try clear hfz34_0
       try clear hfz34_1
       try clear hfz36_0
       try clear hfz36_1
       try clear hfz44_0
       try clear hfz44_1
       try clear hfz48_0
       try clear hfz48_1
       try clear hfz51_0
       try clear hfz51_1
       try clear hfz63_0
       try clear hfz63_1
       try clear hfz72_0
       try clear hfz72_1
       try clear hfz74_0
       try clear hfz74_1
       try clear hfz81_0
       try clear hfz81_1
       try clear hx189_0
       try clear hx57_0
       try clear hx57_1
       try clear p189
       try clear p57
       try clear q189
       try clear q49
       try clear q57
       obtain ⟨x180001_1, u180001, HA, HK1, HO_180001, BK173, BK179, HI0, HK, HB⟩ := hrel
       cases gk with
       | zero => exact absurd HA.out (by simp [spec_l71Some.l0])
       | succ k1 =>
        have H := HA.out
        clear HA
        simp only [spec_l71Some.l0] at H
        by_cases c85 : (x180001_1.length : Int) ≤ (wrap64 (t174 * 5))
        ·rw [if_pos c85] at H
         have c85b0 : decide ((x180001_1.length : Int) ≤ (wrap64 (t174 * 5))) = true := decide_eq_true c85
         clear c85
         by_cases c86 : x180001_1.length < 8796093022208
         ·rw [if_pos c86] at H
          have LMc86 := Zs.mk c86
          clear c86
          obtain ⟨y199, hy199⟩ : ∃ y_ : List (S57), y_ = (x180001_1 ++ [(⟨0, 0⟩ : S57)]) := ⟨_, rfl⟩
          replace H : (spec_l71Some.l0 k1 s0_0 t183 t174 y199) = some (r1, r2, r3) := by first | (rw [hy199]; with_reducible exact H) | (have H2_ := (Option.bind_some _ _).symm.trans H; rw [hy199]; with_reducible exact H2_) | (have H2_ := (Option.bind_some _ _).symm.trans H; with_reducible exact H2_) | with_reducible exact H | (rw [hy199]; exact H) | exact H
          have Ny199 := Zs.mk hy199
          clear hy199
          have H' := Zs.mk H
          clear H
          have hnb87 := NB179_173.out
          have hnc87 := NB173_179.out
          have hnb88 := NB179_0.out
          have hnc88 := NB0_179.out
          have hcz89_0 : wr.cell? ⟨gb179, 0, none⟩ = some (.int .i64 t174) := (kCe BK179.out 0).trans rfl
          have hcz89_1 : wr.cell? ⟨gb179, 1, none⟩ = some (u180001) := (kCe BK179.out 1).trans rfl
          have hfz89_0 := kFr BK179.out 0
          have hfz89_1 := kFr BK179.out 1
          obtain ⟨Ao90, co90, eo90, _⟩ := Kd.Q_slice HO_180001.out
          subst eo90
          go_wp2_with (first | ((with_reducible refine gate_builtin (b := .append) (xs := #[.tmp 49, .tmp 51]) rfl ?_); at_builtin; refine Kd.Q_append k57 w.heap.size rfl (.tmp 49) (.tmp 51) 23 57 (.agg #[(.int .i64 0), (.int .i64 0)]) 16 rfl Try.underlying23 info57 rfl zq31 zq37 (.slice Ao90 x180001_1.length co90) x180001_1 (⟨0, 0⟩ : S57) [.int .i64 0, .int .i64 0] (fun _ => True) (fun _ => False) rfl rfl ?aP (fun _ hk => hk.elim) ?aF ?aO (Below.refl _ _) ?aS ?aL ?_; (case aP => exact k57_mkM _ _ _ (⟨0, 0⟩ : S57)); (case aF => exact (fun _ _ => trivial)); (case aO => exact (by (with_reducible repeat (first | apply Kd.Q_alloc | apply Kd.Q_drewN | apply Kd.Q_drew)); exact HO_180001.out)); (case aS => exact (keep_size (w := w) (g := g) (row := none) zq7)); (case aL => have := LMc86.out; omega); intro v200 w91 ho hb hg hat; rw [← Ny199.out] at ho; have n0_ := Zs.mk (blk_grown (g := gb173) (o := .cells #[.int .i64 0, .slice none 0 0] 25 (0, 0)) zq10 hg (Kd.Q_ne HO_180001.out BK173.out zq31)); have n1_ := Zs.mk (blk_grown (g := gb179) (o := .cells #[.int .i64 t174, .slice Ao90 x180001_1.length co90] 25 (0, 0)) zq44 hg (Kd.Q_ne HO_180001.out BK179.out zq31)); have n2_ := Zs.mk (IsS90.grown zq89 hg (IsS90.own_neQ HI0.out HO_180001.out zq31)); have n3_ := Zs.mk (below_weaken (by repeat (first | (with_reducible first | exact HB.out | apply bAl | apply bDN | apply bD1 | refine bSt ?_ (IsS90.ge HI0.out) | refine bSt ?_ GE173.out | refine bSt ?_ GE179.out) | exact HB.out)) HL.out hb); have n4_ := Zs.mk (KeepBut.trans zq7 (KeepBut.of_grown hg g) (Kd.Q_base2 HO_180001.out)); have n5_ := Zs.mk (ho); clear BK173; clear BK179; clear HI0; clear HB; clear HK; clear HO_180001; have BK173 := n0_; have BK179 := n1_; have HI0 := n2_; have HB := n3_; have HK := n4_; have HO201 := n5_; clear n0_ n1_ n2_ n3_ n4_ n5_; clear ho hb hg hat; obtain ⟨Ao92, co92, eo92, _⟩ := Kd.Q_slice HO201.out; subst eo92; have hcz93_0 : w91.cell? ⟨gb179, 0, none⟩ = some (.int .i64 t174) := (kCe BK179.out 0).trans rfl; have hcz93_1 : w91.cell? ⟨gb179, 1, none⟩ = some (.slice Ao90 x180001_1.length co90) := (kCe BK179.out 1).trans rfl; have hfz93_0 := kFr BK179.out 0; have hfz93_1 := kFr BK179.out 1))
          go_roundg k1
          case measure => have := HK1.out; omega
          case rel => exact ⟨(y199), (.slice Ao92 y199.length co92), H', ⟨by have := HK1.out; omega⟩, ⟨by (with_reducible repeat (first | apply Kd.Q_alloc | apply Kd.Q_drewN | apply Kd.Q_drew)); exact Kd.Q_mono (Kd.Q_far (p := ⟨gb179, 1, none⟩) (Kd.Q_types HO201.out BK179.out zq31) (fun _ hk => hk.2) (.slice Ao92 y199.length co92)) (fun _ hk => trivial)⟩, ⟨by (with_reducible repeat (first | refine kDN ?_ _ | refine kDr ?_ | refine kAl ?_ _)); refine blk_far ?_ NB173_179.out _; (with_reducible repeat (first | refine kDN ?_ _ | refine kDr ?_ | refine kAl ?_ _)); exact BK173.out⟩, ⟨by (with_reducible repeat (first | refine kDN ?_ _ | refine kDr ?_ | refine kAl ?_ _)); refine blk_put (cs := #[.int .i64 t174, .slice Ao90 x180001_1.length co90]) ?_ 1 _ rfl; (with_reducible repeat (first | refine kDN ?_ _ | refine kDr ?_ | refine kAl ?_ _)); exact BK179.out⟩, ⟨by repeat (first | (with_reducible first | exact HI0.out | apply IsS90.alloc | apply IsS90.drewN | apply IsS90.drew | apply IsS90.set_1 | refine IsS90.far ?_ NB0_173.out _ | refine IsS90.far ?_ NB0_179.out _) | exact HI0.out)⟩, ⟨by repeat (first | (with_reducible first | exact HK.out | apply KeepBut.set_ | apply keep_drewN | apply keep_drew | apply keep_alloc | refine keep_far ?_ GW173.out _ | refine keep_far ?_ GW179.out _) | exact HK.out)⟩, ⟨by repeat (first | (with_reducible first | exact HB.out | apply bAl | apply bDN | apply bD1 | refine bSt ?_ (IsS90.ge HI0.out) | refine bSt ?_ GE173.out | refine bSt ?_ GE179.out) | exact HB.out)⟩⟩
         ·rw [if_neg c86] at H
          exact absurd H zq58
        ·rw [if_neg c85] at H
         have c85b0 : decide ((x180001_1.length : Int) ≤ (wrap64 (t174 * 5))) = false := decide_eq_false c85
         clear c85
         simp only [Option.some.injEq, Prod.mk.injEq] at H
         obtain ⟨rfl, rfl, rfl⟩ := H
         have hnb94 := NB179_173.out
         have hnc94 := NB173_179.out
         have hnb95 := NB179_0.out
         have hnc95 := NB0_179.out
         have hcz96_0 : wr.cell? ⟨gb179, 0, none⟩ = some (.int .i64 t174) := (kCe BK179.out 0).trans rfl
         have hcz96_1 : wr.cell? ⟨gb179, 1, none⟩ = some (u180001) := (kCe BK179.out 1).trans rfl
         have hfz96_0 := kFr BK179.out 0
         have hfz96_1 := kFr BK179.out 1
         obtain ⟨Ao97, co97, eo97, _⟩ := Kd.Q_slice HO_180001.out
         subst eo97
         have hnb98 := NB173_0.out
         have hnc98 := NB0_173.out
         have hcz99_0 : wr.cell? ⟨gb173, 0, none⟩ = some (.int .i64 0) := (kCe BK173.out 0).trans rfl
         have hcz99_1 : wr.cell? ⟨gb173, 1, none⟩ = some (.slice none 0 0) := (kCe BK173.out 1).trans rfl
         have hfz99_0 := kFr BK173.out 0
         have hfz99_1 := kFr BK173.out 1
         go_wp2
         refine bodyPost_ret (results_cell_row rfl _ _ gb173 25 #[.int .i64 t174, .slice Ao97 x180001_1.length co97] (0, 0) _ rfl zq49 Try.underlying25 rfl zq6) rfl ?_
         exact ⟨_, by first | rfl | (simp [errW_none, errW_some] <;> rfl) | (simp [*, errW_none, errW_some] <;> rfl), by (with_reducible repeat (first | apply Kd.Q_alloc | apply Kd.Q_drewN | apply Kd.Q_drew)); exact Kd.Q_mono (Kd.Q_far (p := ⟨gb173, 1, none⟩) (Kd.Q_far (p := ⟨gb173, 0, none⟩) (Kd.Q_types HO_180001.out BK173.out zq31) (fun _ hk => hk.2) (.int .i64 t174)) (fun _ hk => hk.2) (.slice Ao97 x180001_1.length co97)) (fun _ hk => trivial), by repeat (first | (with_reducible first | exact HI0.out | apply IsS90.alloc | apply IsS90.drewN | apply IsS90.drew | apply IsS90.set_1 | refine IsS90.far ?_ NB0_173.out _ | refine IsS90.far ?_ NB0_179.out _) | exact HI0.out), by repeat (first | (with_reducible first | exact HB.out | apply bAl | apply bDN | apply bD1 | refine bSt ?_ (IsS90.ge HI0.out) | refine bSt ?_ GE173.out | refine bSt ?_ GE179.out) | exact HB.out), by repeat (first | (with_reducible first | exact HK.out | apply KeepBut.set_ | apply keep_drewN | apply keep_drew | apply keep_alloc | refine keep_far ?_ GW173.out _ | refine keep_far ?_ GW179.out _) | exact HK.out)⟩
     ·rw [if_neg c75] at H
      have c75b0 : (t182 == 3) = false := beq_eq_false_iff_ne.mpr c75
      have c75b1 : (t182 != 3) = true := bne_iff_ne.mpr c75
      simp only [Option.some.injEq, Prod.mk.injEq] at H
      obtain ⟨rfl, rfl, rfl⟩ := H
      go_enter Try.func68, Try.ntmps68
      go_wp2_with (first | ((with_reducible refine gate_dst (N := 2) rfl ?_); refine box_event ?hg (N := 2) ?hd (cs := #[.int .i64 0, .slice none 0 0]) (t := 25) ?hr ?_; (case hd => rfl); (case hg => rfl); (case hr => first | (go_simp; done) | (go_simp; rfl)); intro gb173 hg w100 hbox hb; have n0_ := Zs.mk (IsS90.below zq20 hb); have n1_ := Zs.mk (KeepBut.trans zq4 (KeepBut.of_below hb g none) (.inl rfl)); have n2_ := Zs.mk (bSp zq23 hb); have n3_ := Zs.mk (hbox); have n4_ := Zs.mk ((by rw [hg]; exact (keep_size (w := w) (g := g) (row := none) zq4) : w.heap.size ≤ gb173)); have n5_ := Zs.mk ((Nat.le_trans HW0.out (by rw [hg]; exact (keep_size (w := w) (g := g) (row := none) zq4) : w.heap.size ≤ gb173) : w0.heap.size ≤ gb173)); have n6_ := Zs.mk ((by rw [hg]; exact Nat.ne_of_lt (IsS90.lt (show IsS90 w0 _ g s0_0 s0_1 from by repeat (first | (with_reducible first | exact HI0.out | apply IsS90.alloc | apply IsS90.drewN | apply IsS90.drew | apply IsS90.set_1) | exact HI0.out))) : g ≠ gb173)); have n7_ := Zs.mk ((by rw [hg]; exact Nat.ne_of_gt (IsS90.lt (show IsS90 w0 _ g s0_0 s0_1 from by repeat (first | (with_reducible first | exact HI0.out | apply IsS90.alloc | apply IsS90.drewN | apply IsS90.drew | apply IsS90.set_1) | exact HI0.out))) : gb173 ≠ g)); clear HI0; clear HK; clear HB; have HI0 := n0_; have HK := n1_; have HB := n2_; have BK173 := n3_; have GW173 := n4_; have GE173 := n5_; have NB0_173 := n6_; have NB173_0 := n7_; clear n0_ n1_ n2_ n3_ n4_ n5_ n6_ n7_; clear hb hbox hg) | ((with_reducible refine gate_callee (f := 85) rfl ?_); refine goesL_ (some 5) rfl rfl Try.func85 zq6 rfl #[.pointer (some ⟨g, 0, none⟩)] rfl zq1 ?_; (with_reducible refine (spec_l71Grid.calls k g s0_0 s0_1 t174 t175 t178 w0 _ ?side1 ?side2 A2.out).mono ?_); (case side1 => repeat (first | (with_reducible first | exact HI0.out | apply IsS90.alloc | apply IsS90.drewN | apply IsS90.drew | apply IsS90.set_1 | refine IsS90.far ?_ NB0_173.out _) | exact HI0.out)); (case side2 => repeat (first | (with_reducible first | exact HB.out | apply bAl | apply bDN | apply bD1 | refine bSt ?_ (IsS90.ge HI0.out) | refine bSt ?_ GE173.out) | exact HB.out)); rintro e w101 ⟨v176, rfl, ho0, hi, hb, hk⟩; refine ⟨_, rfl, ?_⟩; have n0_ := Zs.mk (KeepBut.blk hk (g' := gb173) (o := .cells #[.int .i64 0, .slice none 0 0] 25 (0, 0)) zq10 NB173_0.out zq58); have n1_ := Zs.mk (Kd.R_lower ho0 (keep_size (w := w) (g := g) (row := none) zq3)); have n2_ := Zs.mk (KeepBut.trans zq3 hk (.inl rfl)); have n3_ := Zs.mk (hb); have n4_ := Zs.mk (hi); clear BK173; clear HK; clear HB; clear HI0; have BK173 := n0_; have HO177 := n1_; have HK := n2_; have HB := n3_; have HI0 := n4_; clear n0_ n1_ n2_ n3_ n4_; (try clear hb); (try clear hb2); (try clear hk); (try clear hi); (try clear ho0)) | ((with_reducible refine gate_dst (N := 3) rfl ?_); refine box_event ?hg (N := 3) ?hd (cs := #[.int .i64 0, .slice none 0 0]) (t := 25) ?hr ?_; (case hd => rfl); (case hg => rfl); (case hr => first | (go_simp; done) | (go_simp; rfl)); intro gb179 hg w102 hbox hb; have n0_ := Zs.mk (Kd.R_below zq21 hb); have n1_ := Zs.mk (IsS90.below zq43 hb); have n2_ := Zs.mk (kBe (g := gb173) (o := .cells #[.int .i64 0, .slice none 0 0] 25 (0, 0)) zq10 hb); have n3_ := Zs.mk (KeepBut.trans zq3 (KeepBut.of_below hb g none) (.inl rfl)); have n4_ := Zs.mk (bSp zq48 hb); have n5_ := Zs.mk (hbox); have n6_ := Zs.mk ((by rw [hg]; exact (keep_size (w := w) (g := g) (row := none) zq3) : w.heap.size ≤ gb179)); have n7_ := Zs.mk ((Nat.le_trans HW0.out (by rw [hg]; exact (keep_size (w := w) (g := g) (row := none) zq3) : w.heap.size ≤ gb179) : w0.heap.size ≤ gb179)); have n8_ := Zs.mk ((by rw [hg]; exact Nat.ne_of_lt (blk_lt (g := gb173) (o := .cells #[.int .i64 0, .slice none 0 0] 25 (0, 0)) zq10) : gb173 ≠ gb179)); have n9_ := Zs.mk ((by rw [hg]; exact Nat.ne_of_gt (blk_lt (g := gb173) (o := .cells #[.int .i64 0, .slice none 0 0] 25 (0, 0)) zq10) : gb179 ≠ gb173)); have n10_ := Zs.mk ((by rw [hg]; exact Nat.ne_of_lt (IsS90.lt (show IsS90 w0 _ g s0_0 t178 from by repeat (first | (with_reducible first | exact HI0.out | apply IsS90.alloc | apply IsS90.drewN | apply IsS90.drew | apply IsS90.set_1 | refine IsS90.far ?_ NB0_173.out _) | exact HI0.out))) : g ≠ gb179)); have n11_ := Zs.mk ((by rw [hg]; exact Nat.ne_of_gt (IsS90.lt (show IsS90 w0 _ g s0_0 t178 from by repeat (first | (with_reducible first | exact HI0.out | apply IsS90.alloc | apply IsS90.drewN | apply IsS90.drew | apply IsS90.set_1 | refine IsS90.far ?_ NB0_173.out _) | exact HI0.out))) : gb179 ≠ g)); clear HO177; clear HI0; clear BK173; clear HK; clear HB; have HO177 := n0_; have HI0 := n1_; have BK173 := n2_; have HK := n3_; have HB := n4_; have BK179 := n5_; have GW179 := n6_; have GE179 := n7_; have NB173_179 := n8_; have NB179_173 := n9_; have NB0_179 := n10_; have NB179_0 := n11_; clear n0_ n1_ n2_ n3_ n4_ n5_ n6_ n7_ n8_ n9_ n10_ n11_; clear hb hbox hg; have hnb103 := NB179_173.out; have hnc103 := NB173_179.out; have hnb104 := NB179_0.out; have hnc104 := NB0_179.out; have hcz105_0 : w102.cell? ⟨gb179, 0, none⟩ = some (.int .i64 0) := (kCe BK179.out 0).trans rfl; have hcz105_1 : w102.cell? ⟨gb179, 1, none⟩ = some (.slice none 0 0) := (kCe BK179.out 1).trans rfl; have hfz105_0 := kFr BK179.out 0; have hfz105_1 := kFr BK179.out 1; obtain ⟨Ao106, co106, eo106⟩ := Kd.R_slice HO177.out; subst eo106) | ((with_reducible refine gate_callee (f := 43) rfl ?_); refine goesL_ (some 7) rfl rfl Try.func43 zq6 rfl #[.pointer (some ⟨g, 0, none⟩), .int .i64 24] rfl zq1 ?_; (with_reducible refine (spec_l6Rd_pick.calls k g s0_0 t178 24 t180 t181 w0 _ ?side1 ?side2 A3.out).mono ?_); (case side1 => repeat (first | (with_reducible first | exact HI0.out | apply IsS90.alloc | apply IsS90.drewN | apply IsS90.drew | apply IsS90.set_1 | refine IsS90.far ?_ NB0_173.out _ | refine IsS90.far ?_ NB0_179.out _) | exact HI0.out)); (case side2 => repeat (first | (with_reducible first | exact HB.out | apply bAl | apply bDN | apply bD1 | refine bSt ?_ (IsS90.ge HI0.out) | refine bSt ?_ GE173.out | refine bSt ?_ GE179.out) | exact HB.out)); rintro e w107 ⟨rfl, hi, hb, hk⟩; refine ⟨_, rfl, ?_⟩; have n0_ := Zs.mk (KeepBut.blk hk (g' := gb173) (o := .cells #[.int .i64 0, .slice none 0 0] 25 (0, 0)) zq19 NB173_0.out zq58); have n1_ := Zs.mk (Kd.R_mono (Kd.R_keep (IsS90.apart (show IsS90 w0 _ g s0_0 t178 from by repeat (first | (with_reducible first | exact HI0.out | apply IsS90.alloc | apply IsS90.drewN | apply IsS90.drew | apply IsS90.set_1 | refine IsS90.far ?_ NB0_173.out _ | refine IsS90.far ?_ NB0_179.out _) | exact HI0.out)) (by (with_reducible repeat (first | apply Kd.R_alloc | apply Kd.R_drewN | apply Kd.R_drew)); exact (Kd.R_mono (Kd.R_far (p := ⟨gb179, 1, none⟩) (Kd.R_far (p := ⟨gb179, 0, none⟩) (Kd.R_types HO177.out BK179.out zq31) (fun _ hk => hk.2) (.int .i64 t174)) (fun _ hk => hk.2) (.slice Ao106 t175.length co106)) (fun _ h_ => h_.1))) zq31) hk (fun _ h => h.2)) (fun _ h => h.1)); have n2_ := Zs.mk (KeepBut.blk hk (g' := gb179) (o := .cells #[.int .i64 t174, .slice Ao106 t175.length co106] 25 (0, 0)) zq17 NB179_0.out zq58); have n3_ := Zs.mk (KeepBut.trans zq7 hk (.inl rfl)); have n4_ := Zs.mk (hb); have n5_ := Zs.mk (hi); clear BK173; clear HO177; clear BK179; clear HK; clear HB; clear HI0; have BK173 := n0_; have HO177 := n1_; have BK179 := n2_; have HK := n3_; have HB := n4_; have HI0 := n5_; clear n0_ n1_ n2_ n3_ n4_ n5_; (try clear hb); (try clear hb2); (try clear hk); (try clear hi)) | ((with_reducible refine gate_callee (f := 43) rfl ?_); refine goesL_ (some 11) rfl rfl Try.func43 zq6 rfl #[.pointer (some ⟨g, 0, none⟩), .int .i64 5] rfl zq1 ?_; (with_reducible refine (spec_l6Rd_pick.calls k g s0_0 t181 5 t182 t183 w0 _ ?side1 ?side2 A16.out).mono ?_); (case side1 => repeat (first | (with_reducible first | exact HI0.out | apply IsS90.alloc | apply IsS90.drewN | apply IsS90.drew | apply IsS90.set_1 | refine IsS90.far ?_ NB0_173.out _ | refine IsS90.far ?_ NB0_179.out _) | exact HI0.out)); (case side2 => repeat (first | (with_reducible first | exact HB.out | apply bAl | apply bDN | apply bD1 | refine bSt ?_ (IsS90.ge HI0.out) | refine bSt ?_ GE173.out | refine bSt ?_ GE179.out) | exact HB.out)); rintro e w108 ⟨rfl, hi, hb, hk⟩; refine ⟨_, rfl, ?_⟩; have n0_ := Zs.mk (KeepBut.blk hk (g' := gb173) (o := .cells #[.int .i64 0, .slice none 0 0] 25 (0, 0)) zq10 NB173_0.out zq58); have n1_ := Zs.mk (Kd.R_mono (Kd.R_keep (IsS90.apart (show IsS90 w0 _ g s0_0 t181 from by repeat (first | (with_reducible first | exact HI0.out | apply IsS90.alloc | apply IsS90.drewN | apply IsS90.drew | apply IsS90.set_1 | refine IsS90.far ?_ NB0_173.out _ | refine IsS90.far ?_ NB0_179.out _) | exact HI0.out)) zq21 zq31) hk (fun _ h => h.2)) (fun _ h => h.1)); have n2_ := Zs.mk (KeepBut.blk hk (g' := gb179) (o := .cells #[.int .i64 t174, .slice Ao106 t175.length co106] 25 (0, 0)) zq44 NB179_0.out zq58); have n3_ := Zs.mk (KeepBut.trans zq7 hk (.inl rfl)); have n4_ := Zs.mk (hb); have n5_ := Zs.mk (hi); clear BK173; clear HO177; clear BK179; clear HK; clear HB; clear HI0; have BK173 := n0_; have HO177 := n1_; have BK179 := n2_; have HK := n3_; have HB := n4_; have HI0 := n5_; clear n0_ n1_ n2_ n3_ n4_ n5_; (try clear hb); (try clear hb2); (try clear hk); (try clear hi); have hcz109_0 : w108.cell? ⟨gb179, 0, none⟩ = some (.int .i64 t174) := (kCe BK179.out 0).trans rfl; have hcz109_1 : w108.cell? ⟨gb179, 1, none⟩ = some (.slice Ao106 t175.length co106) := (kCe BK179.out 1).trans rfl; have hfz109_0 := kFr BK179.out 0; have hfz109_1 := kFr BK179.out 1; have hnb110 := NB173_0.out; have hnc110 := NB0_173.out; have hcz111_0 : w108.cell? ⟨gb173, 0, none⟩ = some (.int .i64 0) := (kCe BK173.out 0).trans rfl; have hcz111_1 : w108.cell? ⟨gb173, 1, none⟩ = some (.slice none 0 0) := (kCe BK173.out 1).trans rfl; have hfz111_0 := kFr BK173.out 0; have hfz111_1 := kFr BK173.out 1))
      refine bodyPost_ret (results_cell_row rfl _ _ gb173 25 #[.int .i64 t174, .slice none 0 0] (0, 0) _ rfl zq62 Try.underlying25 rfl zq6) rfl ?_
      exact ⟨_, by first | rfl | (simp [errW_none, errW_some] <;> rfl) | (simp [*, errW_none, errW_some] <;> rfl), Kd.Q_of_R (by first | exact Kd.R_nil _ _ _ _ _ | exact Kd.N_nil _ _ _ _ _ | exact Kd.V_nil _ _ _ _ _ | exact Kd.Q_nil _ _ _ _ _ | exact Kd.S_nil _ _ _ _ _), by repeat (first | (with_reducible first | exact HI0.out | apply IsS90.alloc | apply IsS90.drewN | apply IsS90.drew | apply IsS90.set_1 | refine IsS90.far ?_ NB0_173.out _ | refine IsS90.far ?_ NB0_179.out _) | exact HI0.out), by repeat (first | (with_reducible first | exact HB.out | apply bAl | apply bDN | apply bD1 | refine bSt ?_ (IsS90.ge HI0.out) | refine bSt ?_ GE173.out | refine bSt ?_ GE179.out) | exact HB.out), by repeat (first | (with_reducible first | exact HK.out | apply KeepBut.set_ | apply keep_drewN | apply keep_drew | apply keep_alloc | refine keep_far ?_ GW173.out _ | refine keep_far ?_ GW179.out _) | exact HK.out)⟩

end Go.Proofs.Ytejgohgmmndgbaa.PFnTrailTurn
--slim
