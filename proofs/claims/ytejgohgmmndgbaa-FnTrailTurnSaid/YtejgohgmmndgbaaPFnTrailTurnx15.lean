-- Written by a program of this session: the kit's print, with functions among it that were proved by hand.
import Derived.Test.YtejgohgmmndgbaaPFnTrailTurnx0
import Derived.Test.YtejgohgmmndgbaaPFnTrailTurnx9
import Derived.Test.YtejgohgmmndgbaaPFnTrailTurnx10
import Derived.Test.YtejgohgmmndgbaaPFnTrailTurnx14
namespace Go.Proofs.Ytejgohgmmndgbaa.PFnTrailTurn
open Go.RowKit Go.Proofs.YtejgohgmmndgbaaW.PrintWords Go.Proofs.YtejgohgmmndgbaaW.PrintLast Go.Proofs.YtejgohgmmndgbaaW.PrintMore
attribute [local go_sem] max2_int min2_int max_two min_two max_three min_three max_four min_four   -- for this text's walks alone
set_option linter.unusedVariables false
set_option linter.unusedSimpArgs false

/-! ### spec_l71Bright: function 41 -/
mutual
def spec_l71Bright.l0 : Nat → Int → List Int → Int → Int → List (S57) → Option (Int × (List (S57)) × Int)
 | 0, _, _, _, _, _ => none
 | k + 1, x4, x1000, x1001, x209000, x209001 => if x4 > 0 then (spec_l71Bright.j1 k x4 (decide ((x209001.length : Int) > 0)) x1000 x1001 x209000 x209001) else (spec_l71Bright.j1 k x4 false x1000 x1001 x209000 x209001)
def spec_l71Bright.j1 : Nat → Int → Bool → List Int → Int → Int → List (S57) → Option (Int × (List (S57)) × Int)
 | 0, _, _, _, _, _, _ => none
 | k + 1, x4, x16, x1000, x1001, x209000, x209001 => if x16 = true then ((spec_l6Rd_pick.f k x1000 x1001 (x209001.length : Int)).bind fun bt211 => ((some (([2, 3, 4, 5] : List Int) : List Int)).bind fun y213 => ((spec_l6Rd_pick.f k x1000 bt211.2 4).bind fun bt216 => (if 0 ≤ bt216.1 then (if bt216.1 < (y213.length : Int) then (if 0 ≤ bt211.1 then (if bt211.1 < (x209001.length : Int) then (spec_l71Bright.l0 k (wrap64 (x4 - 1)) x1000 bt216.2 x209000 (x209001.set (bt211.1 : Int).toNat (⟨rd y213 bt216.1, 0⟩ : S57))) else (none)) else (none)) else (none)) else (none))))) else (some (x209000, x209001, x1001))
end
def spec_l71Bright.f (k : Nat) (s0_0 : List Int) (s0_1 : Int) : Option (Int × (List (S57)) × Int) := (spec_l71Some.f k s0_0 s0_1).bind fun bt203 => ((spec_l6Rd_pick.f k s0_0 bt203.2.2 8).bind fun bt209 => (spec_l71Bright.l0 k bt209.1 s0_0 bt209.2 bt203.1 bt203.2.1))
theorem spec_l71Bright.mono_l : ∀ k, (∀ y0 y1 y2 y3 y4, LeO (spec_l71Bright.l0 k y0 y1 y2 y3 y4) (spec_l71Bright.l0 (k + 1) y0 y1 y2 y3 y4)) ∧ (∀ y0 y1 y2 y3 y4 y5, LeO (spec_l71Bright.j1 k y0 y1 y2 y3 y4 y5) (spec_l71Bright.j1 (k + 1) y0 y1 y2 y3 y4 y5))
 | 0 => ⟨fun _ _ _ _ _ r h => by simp [spec_l71Bright.l0] at h, fun _ _ _ _ _ _ r h => by simp [spec_l71Bright.j1] at h⟩
 | k + 1 => by
  obtain ⟨ih0, ih1⟩ := spec_l71Bright.mono_l k
  refine ⟨?_, ?_⟩
  ·intro y0 y1 y2 y3 y4
   unfold spec_l71Bright.l0
   repeat' first
   | (with_reducible exact ih0 _ _ _ _ _)
   | (with_reducible exact ih1 _ _ _ _ _ _)
   | (with_reducible exact spec_l6Rd_pick.mono _ _ _ _)
   | (with_reducible exact spec_l71Some.mono _ _ _)
   | (with_reducible exact LeO.refl _)
   | (with_reducible exact LeO.none _)
   | (with_reducible refine LeO.ite ?_ ?_)
   | (with_reducible refine LeO.bind ?_ (fun _ => ?_))
   | exact ih0 _ _ _ _ _
   | exact ih1 _ _ _ _ _ _
   | exact spec_l6Rd_pick.mono _ _ _ _
   | exact spec_l71Some.mono _ _ _
   | exact LeO.none _
   | refine LeO.ite ?_ ?_
   | refine LeO.bind ?_ (fun _ => ?_)
  ·intro y0 y1 y2 y3 y4 y5
   unfold spec_l71Bright.j1
   repeat' first
   | (with_reducible exact ih0 _ _ _ _ _)
   | (with_reducible exact ih1 _ _ _ _ _ _)
   | (with_reducible exact spec_l6Rd_pick.mono _ _ _ _)
   | (with_reducible exact spec_l71Some.mono _ _ _)
   | (with_reducible exact LeO.refl _)
   | (with_reducible exact LeO.none _)
   | (with_reducible refine LeO.ite ?_ ?_)
   | (with_reducible refine LeO.bind ?_ (fun _ => ?_))
   | exact ih0 _ _ _ _ _
   | exact ih1 _ _ _ _ _ _
   | exact spec_l6Rd_pick.mono _ _ _ _
   | exact spec_l71Some.mono _ _ _
   | exact LeO.none _
   | refine LeO.ite ?_ ?_
   | refine LeO.bind ?_ (fun _ => ?_)
theorem spec_l71Bright.mono : ∀ a0 a1 k, LeO (spec_l71Bright.f k a0 a1) (spec_l71Bright.f (k + 1) a0 a1) := by
 intro a0 a1 k
 obtain ⟨ih0, ih1⟩ := spec_l71Bright.mono_l k
 unfold spec_l71Bright.f
 repeat' first
   | (with_reducible exact ih0 _ _ _ _ _)
   | (with_reducible exact ih1 _ _ _ _ _ _)
   | (with_reducible exact spec_l6Rd_pick.mono _ _ _ _)
   | (with_reducible exact spec_l71Some.mono _ _ _)
   | (with_reducible exact LeO.refl _)
   | (with_reducible exact LeO.none _)
   | (with_reducible refine LeO.ite ?_ ?_)
   | (with_reducible refine LeO.bind ?_ (fun _ => ?_))
   | exact ih0 _ _ _ _ _
   | exact ih1 _ _ _ _ _ _
   | exact spec_l6Rd_pick.mono _ _ _ _
   | exact spec_l71Some.mono _ _ _
   | exact LeO.none _
   | refine LeO.ite ?_ ?_
   | refine LeO.bind ?_ (fun _ => ?_)
def spec_l71Bright.T5 : Bool × List (List Nat × List Nat) := (true, [([], []), ([0], [0]), ([], []), ([], []), ([3], [3]), ([4], [4]), ([2, 5], [2, 5]), ([], []), ([], []), ([8, 6], [8]), ([7, 9], [7, 9]), ([10], [10]), ([11], [11]), ([1, 6, 0, 1, 2, 3, 4, 5, 6, 7, 8, 9, 10, 11, 12], [1, 6]), ([13, 12, 9, 0, 1, 2, 3, 4, 5, 6, 7, 8, 9, 10, 11, 12], [12, 13])])
def spec_l71Bright.B5 : List Nat := [0, 1, 0, 0, 8, 24, 60, 0, 0, 380, 1020, 2044, 4092, 8191, 16383]
theorem spec_l71Bright.tab5 : rtab .any (opsOf Try.f41 5) = spec_l71Bright.T5 := by kernel_rfl
theorem spec_l71Bright.bits5 : waitsOk spec_l71Bright.T5.2 spec_l71Bright.B5 = true := by kernel_rfl
set_option maxHeartbeats 8000000 in
set_option maxRecDepth 100000 in
theorem spec_l71Bright.calls (k : Nat) (g : Nat) (s0_0 : List Int) (s0_1 : Int) (r1 : Int) (r2 : List (S57)) (r3 : Int) (w0 w : World) (hI : IsS90 w0 w g s0_0 s0_1) (hB : Below w0.heap.size w0 w) (h : spec_l71Bright.f k s0_0 s0_1 = some (r1, r2, r3)) :
  Calls Try.prog 41 #[.pointer (some ⟨g, 0, none⟩)] w fun e w' => ∃ v1_ : Value, e = .returned (.agg #[.int .i64 r1, v1_]) ∧ Kd.Q k57 57 w' w.heap.size (fun _ => True) v1_ r2 ∧ IsS90 w0 w' g s0_0 r3 ∧ Below w0.heap.size w0 w' ∧ KeepBut w w' g none := by
 have hu25 := Try.underlying25
 have hu57 := Try.underlying57
 have HI0 := Zs.mk hI
 have HK := Zs.mk (KeepBut.refl w g none)
 have HL := Zs.mk hB.size
 clear hI
 have HW0 := Zs.mk hB.size
 have HB := Zs.mk hB
 clear hB
 have H : ((spec_l71Some.f k s0_0 s0_1).bind fun bt203 => ((spec_l6Rd_pick.f k s0_0 bt203.2.2 8).bind fun bt209 => (spec_l71Bright.l0 k bt209.1 s0_0 bt209.2 bt203.1 bt203.2.1))) = some (r1, r2, r3) := h
 clear h
 replace H := Option.bind_eq_some_iff.mp H
 obtain ⟨⟨t203, t204, t207⟩, A20, H⟩ := H
 replace H : ((spec_l6Rd_pick.f k s0_0 t207 8).bind fun bt209 => (spec_l71Bright.l0 k bt209.1 s0_0 bt209.2 t203 t204)) = some (r1, r2, r3) := H
 have A2 := Zs.mk A20
 clear A20
 replace H := Option.bind_eq_some_iff.mp H
 obtain ⟨⟨t209, t210⟩, A30, H⟩ := H
 replace H : (spec_l71Bright.l0 k t209 s0_0 t210 t203 t204) = some (r1, r2, r3) := H
 have A3 := Zs.mk A30
 clear A30
 have H' := Zs.mk H
 clear H
 go_enter Try.func41, Try.ntmps41
 go_wp2_with (first | ((with_reducible refine gate_dst (N := 2) rfl ?_); (try (refine gate_guard (by rfl) ?_; dsimp only)); refine box_event ?hg (N := 2) ?hd (cs := #[.int .i64 0, .slice none 0 0]) (t := 25) ?hr ?_; (case hd => rfl); (case hg => rfl); (case hr => first | (go_simp; done) | (go_simp; rfl)); intro gb202 hg w4 hbox hb; have n0_ := Zs.mk (IsS90.below zq20 hb); have n1_ := Zs.mk (KeepBut.trans zq4 (KeepBut.of_below hb g none) (.inl rfl)); have n2_ := Zs.mk (bSp zq23 hb); have n3_ := Zs.mk (hbox); have n4_ := Zs.mk ((by rw [hg]; exact (keep_size (w := w) (g := g) (row := none) zq4) : w.heap.size ≤ gb202)); have n5_ := Zs.mk ((Nat.le_trans HW0.out (by rw [hg]; exact (keep_size (w := w) (g := g) (row := none) zq4) : w.heap.size ≤ gb202) : w0.heap.size ≤ gb202)); have n6_ := Zs.mk ((by rw [hg]; exact Nat.ne_of_lt (IsS90.lt (show IsS90 w0 _ g s0_0 s0_1 from by repeat (first | (with_reducible first | exact HI0.out | apply IsS90.alloc | apply IsS90.drewN | apply IsS90.drew | apply IsS90.set_1) | exact HI0.out))) : g ≠ gb202)); have n7_ := Zs.mk ((by rw [hg]; exact Nat.ne_of_gt (IsS90.lt (show IsS90 w0 _ g s0_0 s0_1 from by repeat (first | (with_reducible first | exact HI0.out | apply IsS90.alloc | apply IsS90.drewN | apply IsS90.drew | apply IsS90.set_1) | exact HI0.out))) : gb202 ≠ g)); clear HI0; clear HK; clear HB; have HI0 := n0_; have HK := n1_; have HB := n2_; have BK202 := n3_; have GW202 := n4_; have GE202 := n5_; have NB0_202 := n6_; have NB202_0 := n7_; clear n0_ n1_ n2_ n3_ n4_ n5_ n6_ n7_; clear hb hbox hg) | ((with_reducible refine gate_callee (f := 68) rfl ?_); refine goesL_ (some 6) rfl rfl Try.func68 zq6 rfl #[.pointer (some ⟨g, 0, none⟩)] rfl zq1 ?_; (with_reducible refine (spec_l71Some.calls k g s0_0 s0_1 t203 t204 t207 w0 _ ?side1 ?side2 A2.out).mono ?_); (case side1 => repeat (first | (with_reducible first | exact HI0.out | apply IsS90.alloc | apply IsS90.drewN | apply IsS90.drew | apply IsS90.set_1 | refine IsS90.far ?_ NB0_202.out _) | exact HI0.out)); (case side2 => repeat (first | (with_reducible first | exact HB.out | apply bAl | apply bDN | apply bD1 | refine bSt ?_ (IsS90.ge HI0.out) | refine bSt ?_ GE202.out) | exact HB.out)); rintro e w5 ⟨v205, rfl, ho0, hi, hb, hk⟩; refine ⟨_, rfl, ?_⟩; have n0_ := Zs.mk (KeepBut.blk hk (g' := gb202) (o := .cells #[.int .i64 0, .slice none 0 0] 25 (0, 0)) zq28 NB202_0.out zq58); have n1_ := Zs.mk (Kd.Q_lower ho0 (keep_size (w := w) (g := g) (row := none) zq51)); have n2_ := Zs.mk (KeepBut.trans zq51 hk (.inl rfl)); have n3_ := Zs.mk (hb); have n4_ := Zs.mk (hi); clear BK202; clear HK; clear HB; clear HI0; have BK202 := n0_; have HO206 := n1_; have HK := n2_; have HB := n3_; have HI0 := n4_; clear n0_ n1_ n2_ n3_ n4_; (try clear hb); (try clear hb2); (try clear hk); (try clear hi); (try clear ho0)) | ((with_reducible refine gate_dst (N := 3) rfl ?_); (try (refine gate_guard (by rfl) ?_; dsimp only)); refine box_event ?hg (N := 3) ?hd (cs := #[.int .i64 0, .slice none 0 0]) (t := 25) ?hr ?_; (case hd => rfl); (case hg => rfl); (case hr => first | (go_simp; done) | (go_simp; rfl)); intro gb208 hg w6 hbox hb; have n0_ := Zs.mk (Kd.Q_below (by (with_reducible repeat (first | apply Kd.Q_alloc | apply Kd.Q_drewN | apply Kd.Q_drew)); exact HO206.out) hb); have n1_ := Zs.mk (IsS90.below (by repeat (first | (with_reducible first | exact HI0.out | apply IsS90.alloc | apply IsS90.drewN | apply IsS90.drew | apply IsS90.set_1 | refine IsS90.far ?_ NB0_202.out _) | exact HI0.out)) hb); have n2_ := Zs.mk (kBe (g := gb202) (o := .cells #[.int .i64 0, .slice none 0 0] 25 (0, 0)) zq28 hb); have n3_ := Zs.mk (KeepBut.trans zq51 (KeepBut.of_below hb g none) (.inl rfl)); have n4_ := Zs.mk (bSp (by repeat (first | (with_reducible first | exact HB.out | apply bAl | apply bDN | apply bD1 | refine bSt ?_ (IsS90.ge HI0.out) | refine bSt ?_ GE202.out) | exact HB.out)) hb); have n5_ := Zs.mk (hbox); have n6_ := Zs.mk ((by rw [hg]; exact (keep_size (w := w) (g := g) (row := none) zq51) : w.heap.size ≤ gb208)); have n7_ := Zs.mk ((Nat.le_trans HW0.out (by rw [hg]; exact (keep_size (w := w) (g := g) (row := none) zq51) : w.heap.size ≤ gb208) : w0.heap.size ≤ gb208)); have n8_ := Zs.mk ((by rw [hg]; exact Nat.ne_of_lt (blk_lt (g := gb202) (o := .cells #[.int .i64 0, .slice none 0 0] 25 (0, 0)) zq28) : gb202 ≠ gb208)); have n9_ := Zs.mk ((by rw [hg]; exact Nat.ne_of_gt (blk_lt (g := gb202) (o := .cells #[.int .i64 0, .slice none 0 0] 25 (0, 0)) zq28) : gb208 ≠ gb202)); have n10_ := Zs.mk ((by rw [hg]; exact Nat.ne_of_lt (IsS90.lt (show IsS90 w0 _ g s0_0 t207 from by repeat (first | (with_reducible first | exact HI0.out | apply IsS90.alloc | apply IsS90.drewN | apply IsS90.drew | apply IsS90.set_1 | refine IsS90.far ?_ NB0_202.out _) | exact HI0.out))) : g ≠ gb208)); have n11_ := Zs.mk ((by rw [hg]; exact Nat.ne_of_gt (IsS90.lt (show IsS90 w0 _ g s0_0 t207 from by repeat (first | (with_reducible first | exact HI0.out | apply IsS90.alloc | apply IsS90.drewN | apply IsS90.drew | apply IsS90.set_1 | refine IsS90.far ?_ NB0_202.out _) | exact HI0.out))) : gb208 ≠ g)); clear HO206; clear HI0; clear BK202; clear HK; clear HB; have HO206 := n0_; have HI0 := n1_; have BK202 := n2_; have HK := n3_; have HB := n4_; have BK208 := n5_; have GW208 := n6_; have GE208 := n7_; have NB202_208 := n8_; have NB208_202 := n9_; have NB0_208 := n10_; have NB208_0 := n11_; clear n0_ n1_ n2_ n3_ n4_ n5_ n6_ n7_ n8_ n9_ n10_ n11_; clear hb hbox hg; have hnb7 := NB208_202.out; have hnc7 := NB202_208.out; have hnb8 := NB208_0.out; have hnc8 := NB0_208.out; have hcz9_0 : w6.cell? ⟨gb208, 0, none⟩ = some (.int .i64 0) := (kCe BK208.out 0).trans rfl; have hcz9_1 : w6.cell? ⟨gb208, 1, none⟩ = some (.slice none 0 0) := (kCe BK208.out 1).trans rfl; have hfz9_0 := kFr BK208.out 0; have hfz9_1 := kFr BK208.out 1; obtain ⟨Ao10, co10, eo10, _⟩ := Kd.Q_slice HO206.out; subst eo10) | ((with_reducible refine gate_callee (f := 43) rfl ?_); refine goesL_ (some 8) rfl rfl Try.func43 zq6 rfl #[.pointer (some ⟨g, 0, none⟩), .int .i64 8] rfl zq1 ?_; (with_reducible refine (spec_l6Rd_pick.calls k g s0_0 t207 8 t209 t210 w0 _ ?side1 ?side2 A3.out).mono ?_); (case side1 => repeat (first | (with_reducible first | exact HI0.out | apply IsS90.alloc | apply IsS90.drewN | apply IsS90.drew | apply IsS90.set_1 | refine IsS90.far ?_ NB0_202.out _ | refine IsS90.far ?_ NB0_208.out _) | exact HI0.out)); (case side2 => repeat (first | (with_reducible first | exact HB.out | apply bAl | apply bDN | apply bD1 | refine bSt ?_ (IsS90.ge HI0.out) | refine bSt ?_ GE202.out | refine bSt ?_ GE208.out) | exact HB.out)); rintro e w11 ⟨rfl, hi, hb, hk⟩; refine ⟨_, rfl, ?_⟩; have n0_ := Zs.mk (KeepBut.blk hk (g' := gb202) (o := .cells #[.int .i64 0, .slice none 0 0] 25 (0, 0)) (by (with_reducible repeat (first | refine kDN ?_ _ | refine kDr ?_ | refine kAl ?_ _)); refine blk_far ?_ NB202_208.out _; (with_reducible repeat (first | refine kDN ?_ _ | refine kDr ?_ | refine kAl ?_ _)); refine blk_far ?_ NB202_208.out _; (with_reducible repeat (first | refine kDN ?_ _ | refine kDr ?_ | refine kAl ?_ _)); exact BK202.out) NB202_0.out zq58); have n1_ := Zs.mk (Kd.Q_mono (Kd.Q_keep (IsS90.apartQ (show IsS90 w0 _ g s0_0 t207 from by repeat (first | (with_reducible first | exact HI0.out | apply IsS90.alloc | apply IsS90.drewN | apply IsS90.drew | apply IsS90.set_1 | refine IsS90.far ?_ NB0_202.out _ | refine IsS90.far ?_ NB0_208.out _) | exact HI0.out)) (by (with_reducible repeat (first | apply Kd.Q_alloc | apply Kd.Q_drewN | apply Kd.Q_drew)); exact (Kd.Q_mono (Kd.Q_far (p := ⟨gb208, 1, none⟩) (Kd.Q_far (p := ⟨gb208, 0, none⟩) (Kd.Q_types HO206.out BK208.out zq31) (fun _ hk => hk.2) (.int .i64 t203)) (fun _ hk => hk.2) (.slice Ao10 t204.length co10)) (fun _ h_ => h_.1))) zq31) hk (fun _ h => h.2)) (fun _ h => h.1)); have n2_ := Zs.mk (KeepBut.blk hk (g' := gb208) (o := .cells #[.int .i64 t203, .slice Ao10 t204.length co10] 25 (0, 0)) (by (with_reducible repeat (first | refine kDN ?_ _ | refine kDr ?_ | refine kAl ?_ _)); refine blk_put (cs := #[.int .i64 t203, .slice none 0 0]) ?_ 1 _ rfl; (with_reducible repeat (first | refine kDN ?_ _ | refine kDr ?_ | refine kAl ?_ _)); refine blk_put (cs := #[.int .i64 0, .slice none 0 0]) ?_ 0 _ rfl; (with_reducible repeat (first | refine kDN ?_ _ | refine kDr ?_ | refine kAl ?_ _)); exact BK208.out) NB208_0.out zq58); have n3_ := Zs.mk (KeepBut.trans zq12 hk (.inl rfl)); have n4_ := Zs.mk (hb); have n5_ := Zs.mk (hi); clear BK202; clear HO206; clear BK208; clear HK; clear HB; clear HI0; have BK202 := n0_; have HO206 := n1_; have BK208 := n2_; have HK := n3_; have HB := n4_; have HI0 := n5_; clear n0_ n1_ n2_ n3_ n4_ n5_; (try clear hb); (try clear hb2); (try clear hk); (try clear hi)))
 go_loopg [4] k (fun kq v4 w' => ∃ (x4_1 : Int) (x1001_1 : Int) (x209001_1 : List (S57)) (u209001 : Value), v4 = .int .i64 x4_1 ∧ Zs (spec_l71Bright.l0 kq x4_1 s0_0 x1001_1 t203 x209001_1 = some (r1, r2, r3)) ∧ Zs (kq ≤ k) ∧ Zs (Kd.Q k57 57 w' w.heap.size (fun _ => True) u209001 x209001_1) ∧ Zs (w'.heap[gb202]? = some (.cells #[.int .i64 0, (.slice none 0 0)] 25 (0, 0))) ∧ Zs (w'.heap[gb208]? = some (.cells #[.int .i64 t203, u209001] 25 (0, 0))) ∧ Zs (IsS90 w0 w' g s0_0 x1001_1) ∧ Zs (KeepBut w w' g none) ∧ Zs (Below w0.heap.size w0 w'))
 case atStart => exact ⟨(t209), (t210), (t204), (.slice Ao10 t204.length co10), zq13, H', ⟨Nat.le_refl _⟩, ⟨by (with_reducible repeat (first | apply Kd.Q_alloc | apply Kd.Q_drewN | apply Kd.Q_drew)); exact HO206.out⟩, ⟨by (with_reducible repeat (first | refine kDN ?_ _ | refine kDr ?_ | refine kAl ?_ _)); exact BK202.out⟩, ⟨by (with_reducible repeat (first | refine kDN ?_ _ | refine kDr ?_ | refine kAl ?_ _)); exact BK208.out⟩, ⟨by repeat (first | (with_reducible first | exact HI0.out | apply IsS90.alloc | apply IsS90.drewN | apply IsS90.drew | apply IsS90.set_1 | refine IsS90.far ?_ NB0_202.out _ | refine IsS90.far ?_ NB0_208.out _) | exact HI0.out)⟩, ⟨by repeat (first | (with_reducible first | exact HK.out | apply KeepBut.set_ | apply keep_drewN | apply keep_drew | apply keep_alloc | refine keep_far ?_ GW202.out _ | refine keep_far ?_ GW208.out _) | exact HK.out)⟩, ⟨by repeat (first | (with_reducible first | exact HB.out | apply bAl | apply bDN | apply bD1 | refine bSt ?_ (IsS90.ge HI0.out) | refine bSt ?_ GE202.out | refine bSt ?_ GE208.out) | exact HB.out)⟩⟩
 case round =>
  clear H'
  try clear p2
  try clear c4
  try clear c6
  try clear c7
  try clear c8
  try clear hcz9_0
  try clear hcz9_1
  try clear hfz9_0
  try clear hfz9_1
  obtain ⟨x4_1, x1001_1, x209001_1, u209001, rfl, HA, HK1, HO_209001, BK202, BK208, HI0, HK, HB⟩ := hrel
  cases gk with
  | zero => exact absurd HA.out (by simp [spec_l71Bright.l0])
  | succ k1 =>
   have H := HA.out
   clear HA
   simp only [spec_l71Bright.l0] at H
   have HC12 := Zs.mk H
   clear H
   go_upto_region 3 with (fail)
   go_cut [16] (fun v16 wc => ∃ (kq : Nat) (x16_11 : Bool), v16 = .bool x16_11 ∧ Zs (spec_l71Bright.j1 kq x4_1 x16_11 s0_0 x1001_1 t203 x209001_1 = some (r1, r2, r3)) ∧ Zs (kq ≤ k1) ∧ Zs (Kd.Q k57 57 wc w.heap.size (fun _ => True) u209001 x209001_1) ∧ Zs (wc.heap[gb202]? = some (.cells #[.int .i64 0, (.slice none 0 0)] 25 (0, 0))) ∧ Zs (wc.heap[gb208]? = some (.cells #[.int .i64 t203, u209001] 25 (0, 0))) ∧ Zs (IsS90 w0 wc g s0_0 x1001_1) ∧ Zs (KeepBut w wc g none) ∧ Zs (Below w0.heap.size w0 wc))
   case first =>
    have H := HC12.out
    clear HC12
    by_cases c13 : x4_1 > 0
    ·rw [if_pos c13] at H
     have c13b0 : decide (0 < x4_1) = true := decide_eq_true c13
     clear c13
     (first | rw [c13b0] | (simp only [i64_w, i32_w]; rw [c13b0]) | skip)
     have H' := Zs.mk H
     clear H
     have hnb14 := NB208_202.out
     have hnc14 := NB202_208.out
     have hnb15 := NB208_0.out
     have hnc15 := NB0_208.out
     have hcz16_0 : wr.cell? ⟨gb208, 0, none⟩ = some (.int .i64 t203) := (kCe BK208.out 0).trans rfl
     have hcz16_1 : wr.cell? ⟨gb208, 1, none⟩ = some (u209001) := (kCe BK208.out 1).trans rfl
     have hfz16_0 := kFr BK208.out 0
     have hfz16_1 := kFr BK208.out 1
     obtain ⟨Ao17, co17, eo17, _⟩ := Kd.Q_slice HO_209001.out
     subst eo17
     go_wp2
     go_meet
     case rel => exact ⟨_, (decide ((x209001_1.length : Int) > 0)), zq13, H', ⟨by have := HK1.out; first | omega | exact Nat.le_refl _⟩, ⟨by (with_reducible repeat (first | apply Kd.Q_alloc | apply Kd.Q_drewN | apply Kd.Q_drew)); exact HO_209001.out⟩, ⟨by (with_reducible repeat (first | refine kDN ?_ _ | refine kDr ?_ | refine kAl ?_ _)); exact BK202.out⟩, ⟨by (with_reducible repeat (first | refine kDN ?_ _ | refine kDr ?_ | refine kAl ?_ _)); exact BK208.out⟩, ⟨by repeat (first | (with_reducible first | exact HI0.out | apply IsS90.alloc | apply IsS90.drewN | apply IsS90.drew | apply IsS90.set_1 | refine IsS90.far ?_ NB0_202.out _ | refine IsS90.far ?_ NB0_208.out _) | exact HI0.out)⟩, ⟨by repeat (first | (with_reducible first | exact HK.out | apply KeepBut.set_ | apply keep_drewN | apply keep_drew | apply keep_alloc | refine keep_far ?_ GW202.out _ | refine keep_far ?_ GW208.out _) | exact HK.out)⟩, ⟨by repeat (first | (with_reducible first | exact HB.out | apply bAl | apply bDN | apply bD1 | refine bSt ?_ (IsS90.ge HI0.out) | refine bSt ?_ GE202.out | refine bSt ?_ GE208.out) | exact HB.out)⟩⟩
    ·rw [if_neg c13] at H
     have c13b0 : decide (0 < x4_1) = false := decide_eq_false c13
     clear c13
     (first | rw [c13b0] | (simp only [i64_w, i32_w]; rw [c13b0]) | skip)
     have H' := Zs.mk H
     clear H
     go_wp2
     go_meet
     case rel => exact ⟨_, (false), zq13, H', ⟨by have := HK1.out; first | omega | exact Nat.le_refl _⟩, ⟨by (with_reducible repeat (first | apply Kd.Q_alloc | apply Kd.Q_drewN | apply Kd.Q_drew)); exact HO_209001.out⟩, ⟨by (with_reducible repeat (first | refine kDN ?_ _ | refine kDr ?_ | refine kAl ?_ _)); exact BK202.out⟩, ⟨by (with_reducible repeat (first | refine kDN ?_ _ | refine kDr ?_ | refine kAl ?_ _)); exact BK208.out⟩, ⟨by repeat (first | (with_reducible first | exact HI0.out | apply IsS90.alloc | apply IsS90.drewN | apply IsS90.drew | apply IsS90.set_1 | refine IsS90.far ?_ NB0_202.out _ | refine IsS90.far ?_ NB0_208.out _) | exact HI0.out)⟩, ⟨by repeat (first | (with_reducible first | exact HK.out | apply KeepBut.set_ | apply keep_drewN | apply keep_drew | apply keep_alloc | refine keep_far ?_ GW202.out _ | refine keep_far ?_ GW208.out _) | exact HK.out)⟩, ⟨by repeat (first | (with_reducible first | exact HB.out | apply bAl | apply bDN | apply bD1 | refine bSt ?_ (IsS90.ge HI0.out) | refine bSt ?_ GE202.out | refine bSt ?_ GE208.out) | exact HB.out)⟩⟩
   case rest =>
    clear HC12
    try clear c1
    try clear p2
    try clear c4
    try clear c6
    try clear c7
    try clear c8
    try clear c13
    try clear c13b0
    try clear c14
    try clear c15
    try clear hcz16_0
    try clear hcz16_1
    try clear hcz9_0
    try clear hcz9_1
    try clear hfz16_0
    try clear hfz16_1
    try clear hfz9_0
    try clear hfz9_1
    try clear p2
    obtain ⟨kq, x16_11, rfl, HA, HJ11, HO_209001, BK202, BK208, HI0, HK, HB⟩ := hcut
    cases kq with
    | zero => exact absurd HA.out (by simp [spec_l71Bright.j1])
    | succ kj11 =>
     have H := HA.out
     clear HA
     simp only [spec_l71Bright.j1] at H
     by_cases c18 : x16_11 = true
     ·subst c18
      have H1 : ((spec_l6Rd_pick.f kj11 s0_0 x1001_1 (x209001_1.length : Int)).bind fun bt211 => ((some (([2, 3, 4, 5] : List Int) : List Int)).bind fun y213 => ((spec_l6Rd_pick.f kj11 s0_0 bt211.2 4).bind fun bt216 => (if 0 ≤ bt216.1 then (if bt216.1 < (y213.length : Int) then (if 0 ≤ bt211.1 then (if bt211.1 < (x209001_1.length : Int) then (spec_l71Bright.l0 kj11 (wrap64 (x4_1 - 1)) s0_0 bt216.2 t203 (x209001_1.set (bt211.1 : Int).toNat (⟨rd y213 bt216.1, 0⟩ : S57))) else (none)) else (none)) else (none)) else (none))))) = some (r1, r2, r3) := by rw [if_pos rfl] at H; exact H
      clear H
      have H := H1
      clear H1
      replace H := Option.bind_eq_some_iff.mp H
      obtain ⟨⟨t211, t212⟩, A190, H⟩ := H
      replace H : ((some (([2, 3, 4, 5] : List Int) : List Int)).bind fun y213 => ((spec_l6Rd_pick.f kj11 s0_0 t212 4).bind fun bt216 => (if 0 ≤ bt216.1 then (if bt216.1 < (y213.length : Int) then (if 0 ≤ t211 then (if t211 < (x209001_1.length : Int) then (spec_l71Bright.l0 kj11 (wrap64 (x4_1 - 1)) s0_0 bt216.2 t203 (x209001_1.set (t211 : Int).toNat (⟨rd y213 bt216.1, 0⟩ : S57))) else (none)) else (none)) else (none)) else (none)))) = some (r1, r2, r3) := H
      have A19 := Zs.mk A190
      clear A190
      obtain ⟨y213, hy213⟩ : ∃ y_ : List Int, y_ = (([2, 3, 4, 5] : List Int)) := ⟨_, rfl⟩
      replace H : ((spec_l6Rd_pick.f kj11 s0_0 t212 4).bind fun bt216 => (if 0 ≤ bt216.1 then (if bt216.1 < (y213.length : Int) then (if 0 ≤ t211 then (if t211 < (x209001_1.length : Int) then (spec_l71Bright.l0 kj11 (wrap64 (x4_1 - 1)) s0_0 bt216.2 t203 (x209001_1.set (t211 : Int).toNat (⟨rd y213 bt216.1, 0⟩ : S57))) else (none)) else (none)) else (none)) else (none))) = some (r1, r2, r3) := by first | (rw [hy213]; with_reducible exact H) | (have H2_ := (Option.bind_some _ _).symm.trans H; rw [hy213]; with_reducible exact H2_) | (have H2_ := (Option.bind_some _ _).symm.trans H; with_reducible exact H2_) | with_reducible exact H | (rw [hy213]; exact H) | exact H
      have Ny213 := Zs.mk hy213
      clear hy213
      replace H := Option.bind_eq_some_iff.mp H
      obtain ⟨⟨t216, t217⟩, A200, H⟩ := H
      replace H : (if 0 ≤ t216 then (if t216 < (y213.length : Int) then (if 0 ≤ t211 then (if t211 < (x209001_1.length : Int) then (spec_l71Bright.l0 kj11 (wrap64 (x4_1 - 1)) s0_0 t217 t203 (x209001_1.set (t211 : Int).toNat (⟨rd y213 t216, 0⟩ : S57))) else (none)) else (none)) else (none)) else (none)) = some (r1, r2, r3) := H
      have A20 := Zs.mk A200
      clear A200
      by_cases c21 : 0 ≤ t216
      ·rw [if_pos c21] at H
       have c21b0 : decide (0 ≤ t216) = true := decide_eq_true c21
       clear c21
       by_cases c22 : t216 < (y213.length : Int)
       ·rw [if_pos c22] at H
        have c22b0 : decide (t216 < (y213.length : Int)) = true := decide_eq_true c22
        clear c22
        by_cases c23 : 0 ≤ t211
        ·rw [if_pos c23] at H
         have c23b0 : decide (0 ≤ t211) = true := decide_eq_true c23
         clear c23
         by_cases c24 : t211 < (x209001_1.length : Int)
         ·rw [if_pos c24] at H
          have c24b0 : decide (t211 < (x209001_1.length : Int)) = true := decide_eq_true c24
          clear c24
          obtain ⟨y219, hy219⟩ : ∃ y_ : List (S57), y_ = (x209001_1.set (t211 : Int).toNat (⟨rd y213 t216, 0⟩ : S57)) := ⟨_, rfl⟩
          replace H : (spec_l71Bright.l0 kj11 (wrap64 (x4_1 - 1)) s0_0 t217 t203 y219) = some (r1, r2, r3) := by first | (rw [hy219]; with_reducible exact H) | (have H2_ := (Option.bind_some _ _).symm.trans H; rw [hy219]; with_reducible exact H2_) | (have H2_ := (Option.bind_some _ _).symm.trans H; with_reducible exact H2_) | with_reducible exact H | (rw [hy219]; exact H) | exact H
          have Ny219 := Zs.mk hy219
          clear hy219
          have H' := Zs.mk H
          clear H
          try go_wp2
          have pi218 : (0 ≤ (t216 : Int)) = True := eq_true (of_decide_eq_true zq8)
          have qi218 : (t216 < (y213.length : Int)) = True := eq_true (of_decide_eq_true zq8)
          have n0_ := Zs.mk (Kd.Q_drew HO_209001.out)
          have n1_ := Zs.mk (kDr BK202.out)
          have n2_ := Zs.mk (kDr BK208.out)
          have n3_ := Zs.mk (IsS90.drew HI0.out)
          have n4_ := Zs.mk (keep_drew HK.out)
          have n5_ := Zs.mk (bD1 HB.out)
          clear HO_209001
          clear BK202
          clear BK208
          clear HI0
          clear HK
          clear HB
          have HO_209001 := n0_
          have BK202 := n1_
          have BK208 := n2_
          have HI0 := n3_
          have HK := n4_
          have HB := n5_
          clear n0_ n1_ n2_ n3_ n4_ n5_
          obtain ⟨Ao27, co27, eo27, _⟩ := Kd.Q_slice HO_209001.out
          (first | subst eo27 | (injection eo27 with f1_ f2_ f3_; have f4_ := f1_.symm; have f5_ := f3_.symm; clear f1_ f2_ f3_; subst f4_; subst f5_))
          refine start_ (n := 15) (S := fun w' => w'.cell? ⟨gb208, 0, none⟩ = some (.int .i64 t203) ∧ w'.cell? ⟨gb208, 1, none⟩ = some (.slice Ao27 x209001_1.length co27)) (ds := [14]) #[false, false, false, false, false, false, false, false, false, false, false, false, false, false, false] zq6 rfl rfl ⟨(kCe BK208.out 0).trans rfl, (kCe BK208.out 1).trans rfl⟩ (fun hHeld => ?_); refine with_tabW spec_l71Bright.tab5 spec_l71Bright.bits5 (fun HT_ HW_ => ?_)
          generalize wc.drew = w26 at HO_209001 BK202 BK208 HI0 HK HB hHeld ⊢
          refine pure_ (i := 0) (N := some 19) (v := ?_) (a' := ?_) #[true, false, false, false, false, false, false, false, false, false, false, false, false, false, false] rfl rfl (any_of HT_.out zq6) (fun _ _ _ h => h) (Or.inl ⟨by rfl, ?_⟩) ?_ ?_
          rotate_left
          ·intro w'
           go_simp
           with_reducible rfl
          rotate_left
          ·simp only [Act.put, List.setIfInBounds_toArray, List.set_cons_zero, List.set_cons_succ, i64_w, i32_w]
           rfl
          refine pure_ (i := 2) (N := some 21) (v := ?_) (a' := ?_) #[true, false, true, false, false, false, false, false, false, false, false, false, false, false, false] rfl rfl (any_of HT_.out zq6) (fun _ _ _ h => h) (Or.inl ⟨by rfl, ?_⟩) ?_ ?_
          rotate_left
          ·intro w'
           go_simp
           with_reducible rfl
          rotate_left
          ·simp only [Act.put, List.setIfInBounds_toArray, List.set_cons_zero, List.set_cons_succ, i64_w, i32_w]
           rfl
          refine pure_ (i := 3) (N := some 22) (v := ?_) (a' := ?_) #[true, false, true, true, false, false, false, false, false, false, false, false, false, false, false] rfl rfl (any_of HT_.out zq6) (fun _ _ _ h => h) (Or.inl ⟨by rfl, ?_⟩) ?_ ?_
          rotate_left
          ·intro w'
           go_simp
           with_reducible rfl
          rotate_left
          ·simp only [Act.put, List.setIfInBounds_toArray, List.set_cons_zero, List.set_cons_succ, i64_w, i32_w]
           rfl
          refine pure_ (i := 8) (N := some 27) (v := ?_) (a' := ?_) #[true, false, true, true, false, false, false, false, true, false, false, false, false, false, false] rfl rfl (any_of HT_.out zq6) (fun _ _ _ h => h) (Or.inl ⟨by rfl, ?_⟩) ?_ ?_
          rotate_left
          ·intro w'
           go_simp
           with_reducible rfl
          rotate_left
          ·simp only [Act.put, List.setIfInBounds_toArray, List.set_cons_zero, List.set_cons_succ, i64_w, i32_w]
           rfl
          refine take_ (i := 1) (N := some 20) (v := ?_) (a' := ?_) #[true, true, true, true, false, false, false, false, true, false, false, false, false, false, false] rfl rfl (take_ofW HT_.out HW_.out zq6) (fun _ _ _ h => h) (Or.inl ⟨by rfl, ?_⟩) hHeld ?_ ?_
          rotate_left
          ·rintro w' ⟨s0, s1⟩
           go_simp
           with_reducible rfl
          rotate_left
          ·simp only [Act.put, List.setIfInBounds_toArray, List.set_cons_zero, List.set_cons_succ, i64_w, i32_w]
           rfl
          refine take_ (i := 4) (N := some 23) (v := ?_) (a' := ?_) #[true, true, true, true, true, false, false, false, true, false, false, false, false, false, false] rfl rfl (take_ofW HT_.out HW_.out zq6) (fun _ _ _ h => h) (Or.inl ⟨by rfl, ?_⟩) hHeld ?_ ?_
          rotate_left
          ·rintro w' ⟨s0, s1⟩
           go_simp
           with_reducible rfl
          rotate_left
          ·simp only [Act.put, List.setIfInBounds_toArray, List.set_cons_zero, List.set_cons_succ, i64_w, i32_w]
           rfl
          refine pure_ (i := 5) (N := some 24) (v := ?_) (a' := ?_) #[true, true, true, true, true, true, false, false, true, false, false, false, false, false, false] rfl rfl (any_of HT_.out zq6) (fun _ _ _ h => h) (Or.inl ⟨by rfl, ?_⟩) ?_ ?_
          rotate_left
          ·intro w'
           go_simp
           with_reducible rfl
          rotate_left
          ·simp only [Act.put, List.setIfInBounds_toArray, List.set_cons_zero, List.set_cons_succ, i64_w, i32_w]
           rfl
          refine join_ (σ := Value × Addr) 5 #[true, true, true, true, true, true, true, true, true, true, false, false, false, false, false] (fun s_ => [(25, .int .i64 t211), (26, s_.1), (28, .int .i64 t216)]) (fun s_ w' => (w'.cell? ⟨gb208, 0, none⟩ = some (.int .i64 t203) ∧ w'.cell? ⟨gb208, 1, none⟩ = some (.slice Ao27 x209001_1.length co27)) ∧ (Kd.R (Kd.int .i64) 3 w' w.heap.size (fun _ => True) s_.1 y213) ∧ (Kd.Q k57 57 w' w.heap.size (fun _ => True) (.slice Ao27 x209001_1.length co27) x209001_1) ∧ (∃ c_, (s_.1 : Value) = .slice (some s_.2) y213.length c_) ∧ (w'.heap[gb202]? = some (.cells #[.int .i64 0, .slice none 0 0] 25 (0, 0))) ∧ (w'.heap[gb208]? = some (.cells #[.int .i64 t203, .slice Ao27 x209001_1.length co27] 25 (0, 0))) ∧ (IsS90 w0 w' g s0_0 t217) ∧ (KeepBut w w' g none) ∧ (Below w0.heap.size w0 w')) ?_ ?_
          rotate_left
          ·intro hCont
           refine two_ (i := 6) (j := 7) (Ni := some 25) (Nj := some 26) #[true, true, true, true, true, true, true, false, true, false, false, false, false, false, false] #[true, true, true, true, true, true, false, true, true, false, false, false, false, false, false] rfl rfl rfl rfl (two_of HT_.out zq6) zq31 zq31 (fun K hK => ?_) (fun K hK => ?_)
           ·skip
            refine goes_ Try.func43 zq6 rfl #[.pointer (some ⟨g, 0, none⟩), .int .i64 (x209001_1.length : Int)] (by rfl) rfl rfl zq1 ?_
            with_reducible refine (spec_l6Rd_pick.calls kj11 g s0_0 x1001_1 (x209001_1.length : Int) t211 t212 w0 _ ?side1 ?side2 A19.out).mono ?_
            (case side1 => repeat (first | (with_reducible first | exact HI0.out | apply IsS90.alloc | apply IsS90.drewN | apply IsS90.drew | apply IsS90.set_1 | refine IsS90.far ?_ NB0_202.out _ | refine IsS90.far ?_ NB0_208.out _) | exact HI0.out))
            (case side2 => repeat (first | (with_reducible first | exact HB.out | apply bAl | apply bDN | apply bD1 | refine bSt ?_ (IsS90.ge HI0.out) | refine bSt ?_ GE202.out | refine bSt ?_ GE208.out) | exact HB.out))
            rintro e w28 ⟨rfl, hi, hb, hk⟩
            refine ⟨_, rfl, ?_⟩
            have n0_ := Zs.mk (Kd.Q_mono (Kd.Q_keep (IsS90.apartQ (show IsS90 w0 _ g s0_0 x1001_1 from by repeat (first | (with_reducible first | exact HI0.out | apply IsS90.alloc | apply IsS90.drewN | apply IsS90.drew | apply IsS90.set_1 | refine IsS90.far ?_ NB0_202.out _ | refine IsS90.far ?_ NB0_208.out _) | exact HI0.out)) zq34 zq31) hk (fun _ h => h.2)) (fun _ h => h.1))
            have n1_ := Zs.mk (KeepBut.blk hk (g' := gb202) (o := .cells #[.int .i64 0, .slice none 0 0] 25 (0, 0)) zq28 NB202_0.out zq58)
            have n2_ := Zs.mk (KeepBut.blk hk (g' := gb208) (o := .cells #[.int .i64 t203, .slice Ao27 x209001_1.length co27] 25 (0, 0)) zq39 NB208_0.out zq58)
            have n3_ := Zs.mk (KeepBut.trans zq12 hk (.inl rfl))
            have n4_ := Zs.mk (hb)
            have n5_ := Zs.mk (hi)
            clear HO_209001
            clear BK202
            clear BK208
            clear HK
            clear HB
            clear HI0
            have HO_209001 := n0_
            have BK202 := n1_
            have BK208 := n2_
            have HK := n3_
            have HB := n4_
            have HI0 := n5_
            clear n0_ n1_ n2_ n3_ n4_ n5_
            (try clear hb)
            (try clear hb2)
            (try clear hk)
            (try clear hi)
            refine hK.out _ _ ⟨(kCe BK208.out 0).trans rfl, (kCe BK208.out 1).trans rfl⟩ (fun hHeld => ?_)
            clear hK K
            refine norm_ (a' := ?_) ?_ ?_
            rotate_left
            ·show Act.put _ (some 25) _ = _
             simp only [Act.put, List.setIfInBounds_toArray, List.set_cons_zero, List.set_cons_succ, i64_w, i32_w]
             rfl
            refine two_ (i := 7) (j := 9) (Ni := some 26) (Nj := some 28) #[true, true, true, true, true, true, true, true, true, false, false, false, false, false, false] #[true, true, true, true, true, true, true, false, true, true, false, false, false, false, false] rfl rfl rfl rfl (two_of HT_.out zq6) zq31 zq31 (fun K hK => ?_) (fun K hK => ?_)
            ·skip
             refine Kd.R_lit_step (Kd.int .i64) _ 3 ?hg (N := 26) ?hd (xs := ([2, 3, 4, 5] : List Int)) (inner := [.int .i64 2, .int .i64 3, .int .i64 4, .int .i64 5]) (ok := fun _ => True) (okp := fun _ => True) ?hr ?hp (fun _ hk => hk) trivial (Below.refl _ _) (Nat.le_refl _) zq58 ?_; (case hd => rfl); (case hg => rfl); (case hr => first | (go_simp; done) | (go_simp; rfl)); (case hp => exact (Reps.one (show Kd.M (Kd.int .i64) _ _ _ 2 [.int .i64 2] from rfl) (Reps.one (show Kd.M (Kd.int .i64) _ _ _ 3 [.int .i64 3] from rfl) (Reps.one (show Kd.M (Kd.int .i64) _ _ _ 4 [.int .i64 4] from rfl) (Reps.one (show Kd.M (Kd.int .i64) _ _ _ 5 [.int .i64 5] from rfl) (Reps.none _ _))))))
             intro v214 w29 ho30 hb hg_ hnew_
             clear hg_ hnew_
             (first | rw [← Ny213.out] at ho30 | (simp only [Int.reduceToNat] at ho30; rw [← Ny213.out] at ho30))
             have n0_ := Zs.mk (Kd.Q_below zq34 hb)
             have n1_ := Zs.mk (Kd.R_lower ho30 (keep_size (w := w) (g := g) (row := none) zq12))
             have n2_ := Zs.mk (kBe (g := gb202) (o := .cells #[.int .i64 0, .slice none 0 0] 25 (0, 0)) zq28 hb)
             have n3_ := Zs.mk (kBe (g := gb208) (o := .cells #[.int .i64 t203, .slice Ao27 x209001_1.length co27] 25 (0, 0)) zq39 hb)
             have n4_ := Zs.mk (IsS90.below zq32 hb)
             have n5_ := Zs.mk (KeepBut.trans zq12 (KeepBut.of_below hb g none) (.inl rfl))
             have n6_ := Zs.mk (bSp zq42 hb)
             clear HO_209001
             clear BK202
             clear BK208
             clear HI0
             clear HK
             clear HB
             have HO_209001 := n0_
             have HO215 := n1_
             have BK202 := n2_
             have BK208 := n3_
             have HI0 := n4_
             have HK := n5_
             have HB := n6_
             clear n0_ n1_ n2_ n3_ n4_ n5_ n6_
             clear hb ho30
             obtain ⟨Ao31, co31, eo31⟩ := Kd.R_slice HO215.out
             subst eo31
             obtain ⟨ado31, fo31, _⟩ := Kd.at_int (Kd.R_reads' HO215.out).2.2 0 zq31 (by rw [Ny213.out]; simp)
             cases fo31
             refine hK.out _ _ ⟨(kCe BK208.out 0).trans rfl, (kCe BK208.out 1).trans rfl⟩ (fun hHeld => ?_)
             clear hK K
             refine norm_ (a' := ?_) ?_ ?_
             rotate_left
             ·show Act.put _ (some 26) _ = _
              simp only [Act.put, List.setIfInBounds_toArray, List.set_cons_zero, List.set_cons_succ, i64_w, i32_w]
              rfl
             refine one_ (i := 9) (N := some 28) #[true, true, true, true, true, true, true, true, true, true, false, false, false, false, false] rfl rfl (one_of HT_.out zq6) zq31 (fun K hK => ?_)
             refine goes_ Try.func43 zq6 rfl #[.pointer (some ⟨g, 0, none⟩), .int .i64 4] (by rfl) rfl rfl zq1 ?_
             with_reducible refine (spec_l6Rd_pick.calls kj11 g s0_0 t212 4 t216 t217 w0 _ ?side1 ?side2 A20.out).mono ?_
             (case side1 => repeat (first | (with_reducible first | exact HI0.out | apply IsS90.alloc | apply IsS90.drewN | apply IsS90.drew | apply IsS90.set_1 | refine IsS90.far ?_ NB0_202.out _ | refine IsS90.far ?_ NB0_208.out _) | exact HI0.out))
             (case side2 => repeat (first | (with_reducible first | exact HB.out | apply bAl | apply bDN | apply bD1 | refine bSt ?_ (IsS90.ge HI0.out) | refine bSt ?_ GE202.out | refine bSt ?_ GE208.out) | exact HB.out))
             rintro e w32 ⟨rfl, hi, hb, hk⟩
             refine ⟨_, rfl, ?_⟩
             have n0_ := Zs.mk (Kd.Q_mono (Kd.Q_keep (IsS90.apartQ (show IsS90 w0 _ g s0_0 t212 from by repeat (first | (with_reducible first | exact HI0.out | apply IsS90.alloc | apply IsS90.drewN | apply IsS90.drew | apply IsS90.set_1 | refine IsS90.far ?_ NB0_202.out _ | refine IsS90.far ?_ NB0_208.out _) | exact HI0.out)) zq34 zq31) hk (fun _ h => h.2)) (fun _ h => h.1))
             have n1_ := Zs.mk (KeepBut.blk hk (g' := gb202) (o := .cells #[.int .i64 0, .slice none 0 0] 25 (0, 0)) zq28 NB202_0.out zq58)
             have n2_ := Zs.mk (KeepBut.blk hk (g' := gb208) (o := .cells #[.int .i64 t203, .slice Ao27 x209001_1.length co27] 25 (0, 0)) zq39 NB208_0.out zq58)
             have n3_ := Zs.mk (Kd.R_mono (Kd.R_keep (IsS90.apart (show IsS90 w0 _ g s0_0 t212 from by repeat (first | (with_reducible first | exact HI0.out | apply IsS90.alloc | apply IsS90.drewN | apply IsS90.drew | apply IsS90.set_1 | refine IsS90.far ?_ NB0_202.out _ | refine IsS90.far ?_ NB0_208.out _) | exact HI0.out)) zq63 zq31) hk (fun _ h => h.2)) (fun _ h => h.1))
             have n4_ := Zs.mk (KeepBut.trans zq12 hk (.inl rfl))
             have n5_ := Zs.mk (hb)
             have n6_ := Zs.mk (hi)
             clear HO_209001
             clear BK202
             clear BK208
             clear HO215
             clear HK
             clear HB
             clear HI0
             have HO_209001 := n0_
             have BK202 := n1_
             have BK208 := n2_
             have HO215 := n3_
             have HK := n4_
             have HB := n5_
             have HI0 := n6_
             clear n0_ n1_ n2_ n3_ n4_ n5_ n6_
             (try clear hb)
             (try clear hb2)
             (try clear hk)
             (try clear hi)
             refine hK.out _ _ ⟨(kCe BK208.out 0).trans rfl, (kCe BK208.out 1).trans rfl⟩ (fun hHeld => ?_)
             clear hK K
             refine norm_ (a' := ?_) ?_ ?_
             rotate_left
             ·show Act.put _ (some 28) _ = _
              simp only [Act.put, List.setIfInBounds_toArray, List.set_cons_zero, List.set_cons_succ, i64_w, i32_w]
              rfl
             exact norm_ (by simp only [putAll, Act.put, List.setIfInBounds_toArray, List.set_cons_zero, List.set_cons_succ]) (hCont (.slice (some ado31) y213.length co31, ado31) _ ⟨hHeld, zq63, zq34, ⟨_, rfl⟩, zq28, zq39, zq32, zq12, zq42⟩)
            ·skip
             refine goes_ Try.func43 zq6 rfl #[.pointer (some ⟨g, 0, none⟩), .int .i64 4] (by rfl) rfl rfl zq1 ?_
             with_reducible refine (spec_l6Rd_pick.calls kj11 g s0_0 t212 4 t216 t217 w0 _ ?side1 ?side2 A20.out).mono ?_
             (case side1 => repeat (first | (with_reducible first | exact HI0.out | apply IsS90.alloc | apply IsS90.drewN | apply IsS90.drew | apply IsS90.set_1 | refine IsS90.far ?_ NB0_202.out _ | refine IsS90.far ?_ NB0_208.out _) | exact HI0.out))
             (case side2 => repeat (first | (with_reducible first | exact HB.out | apply bAl | apply bDN | apply bD1 | refine bSt ?_ (IsS90.ge HI0.out) | refine bSt ?_ GE202.out | refine bSt ?_ GE208.out) | exact HB.out))
             rintro e w29 ⟨rfl, hi, hb, hk⟩
             refine ⟨_, rfl, ?_⟩
             have n0_ := Zs.mk (Kd.Q_mono (Kd.Q_keep (IsS90.apartQ (show IsS90 w0 _ g s0_0 t212 from by repeat (first | (with_reducible first | exact HI0.out | apply IsS90.alloc | apply IsS90.drewN | apply IsS90.drew | apply IsS90.set_1 | refine IsS90.far ?_ NB0_202.out _ | refine IsS90.far ?_ NB0_208.out _) | exact HI0.out)) zq34 zq31) hk (fun _ h => h.2)) (fun _ h => h.1))
             have n1_ := Zs.mk (KeepBut.blk hk (g' := gb202) (o := .cells #[.int .i64 0, .slice none 0 0] 25 (0, 0)) zq28 NB202_0.out zq58)
             have n2_ := Zs.mk (KeepBut.blk hk (g' := gb208) (o := .cells #[.int .i64 t203, .slice Ao27 x209001_1.length co27] 25 (0, 0)) zq39 NB208_0.out zq58)
             have n3_ := Zs.mk (KeepBut.trans zq12 hk (.inl rfl))
             have n4_ := Zs.mk (hb)
             have n5_ := Zs.mk (hi)
             clear HO_209001
             clear BK202
             clear BK208
             clear HK
             clear HB
             clear HI0
             have HO_209001 := n0_
             have BK202 := n1_
             have BK208 := n2_
             have HK := n3_
             have HB := n4_
             have HI0 := n5_
             clear n0_ n1_ n2_ n3_ n4_ n5_
             (try clear hb)
             (try clear hb2)
             (try clear hk)
             (try clear hi)
             refine hK.out _ _ ⟨(kCe BK208.out 0).trans rfl, (kCe BK208.out 1).trans rfl⟩ (fun hHeld => ?_)
             clear hK K
             refine norm_ (a' := ?_) ?_ ?_
             rotate_left
             ·show Act.put _ (some 28) _ = _
              simp only [Act.put, List.setIfInBounds_toArray, List.set_cons_zero, List.set_cons_succ, i64_w, i32_w]
              rfl
             refine one_ (i := 7) (N := some 26) #[true, true, true, true, true, true, true, true, true, true, false, false, false, false, false] rfl rfl (one_of HT_.out zq6) zq31 (fun K hK => ?_)
             refine Kd.R_lit_step (Kd.int .i64) _ 3 ?hg (N := 26) ?hd (xs := ([2, 3, 4, 5] : List Int)) (inner := [.int .i64 2, .int .i64 3, .int .i64 4, .int .i64 5]) (ok := fun _ => True) (okp := fun _ => True) ?hr ?hp (fun _ hk => hk) trivial (Below.refl _ _) (Nat.le_refl _) zq58 ?_; (case hd => rfl); (case hg => rfl); (case hr => first | (go_simp; done) | (go_simp; rfl)); (case hp => exact (Reps.one (show Kd.M (Kd.int .i64) _ _ _ 2 [.int .i64 2] from rfl) (Reps.one (show Kd.M (Kd.int .i64) _ _ _ 3 [.int .i64 3] from rfl) (Reps.one (show Kd.M (Kd.int .i64) _ _ _ 4 [.int .i64 4] from rfl) (Reps.one (show Kd.M (Kd.int .i64) _ _ _ 5 [.int .i64 5] from rfl) (Reps.none _ _))))))
             intro v214 w30 ho31 hb hg_ hnew_
             clear hg_ hnew_
             (first | rw [← Ny213.out] at ho31 | (simp only [Int.reduceToNat] at ho31; rw [← Ny213.out] at ho31))
             have n0_ := Zs.mk (Kd.Q_below zq34 hb)
             have n1_ := Zs.mk (Kd.R_lower ho31 (keep_size (w := w) (g := g) (row := none) zq12))
             have n2_ := Zs.mk (kBe (g := gb202) (o := .cells #[.int .i64 0, .slice none 0 0] 25 (0, 0)) zq28 hb)
             have n3_ := Zs.mk (kBe (g := gb208) (o := .cells #[.int .i64 t203, .slice Ao27 x209001_1.length co27] 25 (0, 0)) zq39 hb)
             have n4_ := Zs.mk (IsS90.below zq32 hb)
             have n5_ := Zs.mk (KeepBut.trans zq12 (KeepBut.of_below hb g none) (.inl rfl))
             have n6_ := Zs.mk (bSp zq42 hb)
             clear HO_209001
             clear BK202
             clear BK208
             clear HI0
             clear HK
             clear HB
             have HO_209001 := n0_
             have HO215 := n1_
             have BK202 := n2_
             have BK208 := n3_
             have HI0 := n4_
             have HK := n5_
             have HB := n6_
             clear n0_ n1_ n2_ n3_ n4_ n5_ n6_
             clear hb ho31
             obtain ⟨Ao32, co32, eo32⟩ := Kd.R_slice HO215.out
             subst eo32
             obtain ⟨ado32, fo32, _⟩ := Kd.at_int (Kd.R_reads' HO215.out).2.2 0 zq31 (by rw [Ny213.out]; simp)
             cases fo32
             refine hK.out _ _ ⟨(kCe BK208.out 0).trans rfl, (kCe BK208.out 1).trans rfl⟩ (fun hHeld => ?_)
             clear hK K
             refine norm_ (a' := ?_) ?_ ?_
             rotate_left
             ·show Act.put _ (some 26) _ = _
              simp only [Act.put, List.setIfInBounds_toArray, List.set_cons_zero, List.set_cons_succ, i64_w, i32_w]
              rfl
             exact norm_ (by simp only [putAll, Act.put, List.setIfInBounds_toArray, List.set_cons_zero, List.set_cons_succ]) (hCont (.slice (some ado32) y213.length co32, ado32) _ ⟨hHeld, zq63, zq34, ⟨_, rfl⟩, zq28, zq39, zq32, zq12, zq42⟩)
           ·skip
            refine Kd.R_lit_step (Kd.int .i64) _ 3 ?hg (N := 26) ?hd (xs := ([2, 3, 4, 5] : List Int)) (inner := [.int .i64 2, .int .i64 3, .int .i64 4, .int .i64 5]) (ok := fun _ => True) (okp := fun _ => True) ?hr ?hp (fun _ hk => hk) trivial (Below.refl _ _) (Nat.le_refl _) zq58 ?_; (case hd => rfl); (case hg => rfl); (case hr => first | (go_simp; done) | (go_simp; rfl)); (case hp => exact (Reps.one (show Kd.M (Kd.int .i64) _ _ _ 2 [.int .i64 2] from rfl) (Reps.one (show Kd.M (Kd.int .i64) _ _ _ 3 [.int .i64 3] from rfl) (Reps.one (show Kd.M (Kd.int .i64) _ _ _ 4 [.int .i64 4] from rfl) (Reps.one (show Kd.M (Kd.int .i64) _ _ _ 5 [.int .i64 5] from rfl) (Reps.none _ _))))))
            intro v214 w28 ho29 hb hg_ hnew_
            clear hg_ hnew_
            (first | rw [← Ny213.out] at ho29 | (simp only [Int.reduceToNat] at ho29; rw [← Ny213.out] at ho29))
            have n0_ := Zs.mk (Kd.Q_below zq34 hb)
            have n1_ := Zs.mk (Kd.R_lower ho29 (keep_size (w := w) (g := g) (row := none) zq12))
            have n2_ := Zs.mk (kBe (g := gb202) (o := .cells #[.int .i64 0, .slice none 0 0] 25 (0, 0)) zq28 hb)
            have n3_ := Zs.mk (kBe (g := gb208) (o := .cells #[.int .i64 t203, .slice Ao27 x209001_1.length co27] 25 (0, 0)) zq39 hb)
            have n4_ := Zs.mk (IsS90.below zq32 hb)
            have n5_ := Zs.mk (KeepBut.trans zq12 (KeepBut.of_below hb g none) (.inl rfl))
            have n6_ := Zs.mk (bSp zq42 hb)
            clear HO_209001
            clear BK202
            clear BK208
            clear HI0
            clear HK
            clear HB
            have HO_209001 := n0_
            have HO215 := n1_
            have BK202 := n2_
            have BK208 := n3_
            have HI0 := n4_
            have HK := n5_
            have HB := n6_
            clear n0_ n1_ n2_ n3_ n4_ n5_ n6_
            clear hb ho29
            obtain ⟨Ao30, co30, eo30⟩ := Kd.R_slice HO215.out
            subst eo30
            obtain ⟨ado30, fo30, _⟩ := Kd.at_int (Kd.R_reads' HO215.out).2.2 0 zq31 (by rw [Ny213.out]; simp)
            cases fo30
            refine hK.out _ _ ⟨(kCe BK208.out 0).trans rfl, (kCe BK208.out 1).trans rfl⟩ (fun hHeld => ?_)
            clear hK K
            refine norm_ (a' := ?_) ?_ ?_
            rotate_left
            ·show Act.put _ (some 26) _ = _
             simp only [Act.put, List.setIfInBounds_toArray, List.set_cons_zero, List.set_cons_succ, i64_w, i32_w]
             rfl
            refine one_ (i := 6) (N := some 25) #[true, true, true, true, true, true, true, true, true, false, false, false, false, false, false] rfl rfl (one_of HT_.out zq6) zq31 (fun K hK => ?_)
            refine goes_ Try.func43 zq6 rfl #[.pointer (some ⟨g, 0, none⟩), .int .i64 (x209001_1.length : Int)] (by rfl) rfl rfl zq1 ?_
            with_reducible refine (spec_l6Rd_pick.calls kj11 g s0_0 x1001_1 (x209001_1.length : Int) t211 t212 w0 _ ?side1 ?side2 A19.out).mono ?_
            (case side1 => repeat (first | (with_reducible first | exact HI0.out | apply IsS90.alloc | apply IsS90.drewN | apply IsS90.drew | apply IsS90.set_1 | refine IsS90.far ?_ NB0_202.out _ | refine IsS90.far ?_ NB0_208.out _) | exact HI0.out))
            (case side2 => repeat (first | (with_reducible first | exact HB.out | apply bAl | apply bDN | apply bD1 | refine bSt ?_ (IsS90.ge HI0.out) | refine bSt ?_ GE202.out | refine bSt ?_ GE208.out) | exact HB.out))
            rintro e w31 ⟨rfl, hi, hb, hk⟩
            refine ⟨_, rfl, ?_⟩
            have n0_ := Zs.mk (Kd.Q_mono (Kd.Q_keep (IsS90.apartQ (show IsS90 w0 _ g s0_0 x1001_1 from by repeat (first | (with_reducible first | exact HI0.out | apply IsS90.alloc | apply IsS90.drewN | apply IsS90.drew | apply IsS90.set_1 | refine IsS90.far ?_ NB0_202.out _ | refine IsS90.far ?_ NB0_208.out _) | exact HI0.out)) zq34 zq31) hk (fun _ h => h.2)) (fun _ h => h.1))
            have n1_ := Zs.mk (KeepBut.blk hk (g' := gb202) (o := .cells #[.int .i64 0, .slice none 0 0] 25 (0, 0)) zq28 NB202_0.out zq58)
            have n2_ := Zs.mk (KeepBut.blk hk (g' := gb208) (o := .cells #[.int .i64 t203, .slice Ao27 x209001_1.length co27] 25 (0, 0)) zq39 NB208_0.out zq58)
            have n3_ := Zs.mk (Kd.R_mono (Kd.R_keep (IsS90.apart (show IsS90 w0 _ g s0_0 x1001_1 from by repeat (first | (with_reducible first | exact HI0.out | apply IsS90.alloc | apply IsS90.drewN | apply IsS90.drew | apply IsS90.set_1 | refine IsS90.far ?_ NB0_202.out _ | refine IsS90.far ?_ NB0_208.out _) | exact HI0.out)) zq63 zq31) hk (fun _ h => h.2)) (fun _ h => h.1))
            have n4_ := Zs.mk (KeepBut.trans zq12 hk (.inl rfl))
            have n5_ := Zs.mk (hb)
            have n6_ := Zs.mk (hi)
            clear HO_209001
            clear BK202
            clear BK208
            clear HO215
            clear HK
            clear HB
            clear HI0
            have HO_209001 := n0_
            have BK202 := n1_
            have BK208 := n2_
            have HO215 := n3_
            have HK := n4_
            have HB := n5_
            have HI0 := n6_
            clear n0_ n1_ n2_ n3_ n4_ n5_ n6_
            (try clear hb)
            (try clear hb2)
            (try clear hk)
            (try clear hi)
            refine hK.out _ _ ⟨(kCe BK208.out 0).trans rfl, (kCe BK208.out 1).trans rfl⟩ (fun hHeld => ?_)
            clear hK K
            refine norm_ (a' := ?_) ?_ ?_
            rotate_left
            ·show Act.put _ (some 25) _ = _
             simp only [Act.put, List.setIfInBounds_toArray, List.set_cons_zero, List.set_cons_succ, i64_w, i32_w]
             rfl
            refine one_ (i := 9) (N := some 28) #[true, true, true, true, true, true, true, true, true, true, false, false, false, false, false] rfl rfl (one_of HT_.out zq6) zq31 (fun K hK => ?_)
            refine goes_ Try.func43 zq6 rfl #[.pointer (some ⟨g, 0, none⟩), .int .i64 4] (by rfl) rfl rfl zq1 ?_
            with_reducible refine (spec_l6Rd_pick.calls kj11 g s0_0 t212 4 t216 t217 w0 _ ?side1 ?side2 A20.out).mono ?_
            (case side1 => repeat (first | (with_reducible first | exact HI0.out | apply IsS90.alloc | apply IsS90.drewN | apply IsS90.drew | apply IsS90.set_1 | refine IsS90.far ?_ NB0_202.out _ | refine IsS90.far ?_ NB0_208.out _) | exact HI0.out))
            (case side2 => repeat (first | (with_reducible first | exact HB.out | apply bAl | apply bDN | apply bD1 | refine bSt ?_ (IsS90.ge HI0.out) | refine bSt ?_ GE202.out | refine bSt ?_ GE208.out) | exact HB.out))
            rintro e w32 ⟨rfl, hi, hb, hk⟩
            refine ⟨_, rfl, ?_⟩
            have n0_ := Zs.mk (Kd.Q_mono (Kd.Q_keep (IsS90.apartQ (show IsS90 w0 _ g s0_0 t212 from by repeat (first | (with_reducible first | exact HI0.out | apply IsS90.alloc | apply IsS90.drewN | apply IsS90.drew | apply IsS90.set_1 | refine IsS90.far ?_ NB0_202.out _ | refine IsS90.far ?_ NB0_208.out _) | exact HI0.out)) zq34 zq31) hk (fun _ h => h.2)) (fun _ h => h.1))
            have n1_ := Zs.mk (KeepBut.blk hk (g' := gb202) (o := .cells #[.int .i64 0, .slice none 0 0] 25 (0, 0)) zq28 NB202_0.out zq58)
            have n2_ := Zs.mk (KeepBut.blk hk (g' := gb208) (o := .cells #[.int .i64 t203, .slice Ao27 x209001_1.length co27] 25 (0, 0)) zq39 NB208_0.out zq58)
            have n3_ := Zs.mk (Kd.R_mono (Kd.R_keep (IsS90.apart (show IsS90 w0 _ g s0_0 t212 from by repeat (first | (with_reducible first | exact HI0.out | apply IsS90.alloc | apply IsS90.drewN | apply IsS90.drew | apply IsS90.set_1 | refine IsS90.far ?_ NB0_202.out _ | refine IsS90.far ?_ NB0_208.out _) | exact HI0.out)) zq63 zq31) hk (fun _ h => h.2)) (fun _ h => h.1))
            have n4_ := Zs.mk (KeepBut.trans zq12 hk (.inl rfl))
            have n5_ := Zs.mk (hb)
            have n6_ := Zs.mk (hi)
            clear HO_209001
            clear BK202
            clear BK208
            clear HO215
            clear HK
            clear HB
            clear HI0
            have HO_209001 := n0_
            have BK202 := n1_
            have BK208 := n2_
            have HO215 := n3_
            have HK := n4_
            have HB := n5_
            have HI0 := n6_
            clear n0_ n1_ n2_ n3_ n4_ n5_ n6_
            (try clear hb)
            (try clear hb2)
            (try clear hk)
            (try clear hi)
            refine hK.out _ _ ⟨(kCe BK208.out 0).trans rfl, (kCe BK208.out 1).trans rfl⟩ (fun hHeld => ?_)
            clear hK K
            refine norm_ (a' := ?_) ?_ ?_
            rotate_left
            ·show Act.put _ (some 28) _ = _
             simp only [Act.put, List.setIfInBounds_toArray, List.set_cons_zero, List.set_cons_succ, i64_w, i32_w]
             rfl
            exact norm_ (by simp only [putAll, Act.put, List.setIfInBounds_toArray, List.set_cons_zero, List.set_cons_succ]) (hCont (.slice (some ado30) y213.length co30, ado30) _ ⟨hHeld, zq63, zq34, ⟨_, rfl⟩, zq28, zq39, zq32, zq12, zq42⟩)
          rintro ⟨v214, adz_v214⟩ w33 ⟨hS_, h0_, h1_, h2_, h3_, h4_, h5_, h6_, h7_⟩
          have n0_ : Zs (Kd.R (Kd.int .i64) 3 w33 w.heap.size (fun _ => True) v214 y213) := ⟨h0_⟩
          have n1_ : Zs (Kd.Q k57 57 w33 w.heap.size (fun _ => True) (.slice Ao27 x209001_1.length co27) x209001_1) := ⟨h1_⟩
          have n2_ : Zs (∃ c_, (v214 : Value) = .slice (some adz_v214) y213.length c_) := ⟨h2_⟩
          have n3_ : Zs (w33.heap[gb202]? = some (.cells #[.int .i64 0, .slice none 0 0] 25 (0, 0))) := ⟨h3_⟩
          have n4_ : Zs (w33.heap[gb208]? = some (.cells #[.int .i64 t203, .slice Ao27 x209001_1.length co27] 25 (0, 0))) := ⟨h4_⟩
          have n5_ : Zs (IsS90 w0 w33 g s0_0 t217) := ⟨h5_⟩
          have n6_ : Zs (KeepBut w w33 g none) := ⟨h6_⟩
          have n7_ : Zs (Below w0.heap.size w0 w33) := ⟨h7_⟩
          clear HO_209001
          clear BK202
          clear BK208
          clear HI0
          clear HK
          clear HB
          clear h0_ h1_ h2_ h3_ h4_ h5_ h6_ h7_
          have HO215 := n0_
          have HO_209001 := n1_
          have HA_HO215 := n2_
          have BK202 := n3_
          have BK208 := n4_
          have HI0 := n5_
          have HK := n6_
          have HB := n7_
          clear n0_ n1_ n2_ n3_ n4_ n5_ n6_ n7_
          have hHeld : w33.cell? ⟨gb208, 0, none⟩ = some (.int .i64 t203) ∧ w33.cell? ⟨gb208, 1, none⟩ = some (.slice Ao27 x209001_1.length co27) := hS_
          obtain ⟨co34, eo34⟩ := HA_HO215.out
          clear HA_HO215
          subst eo34
          have p25 : 0 ≤ (t211 : Int) := of_decide_eq_true zq8
          have q25 : (t211 : Int) < ((x209001_1.length : Int) : Int) := of_decide_eq_true zq8
          obtain ⟨go25, oo25, co25, eo25, gb25, gl25, cl25, HG25⟩ := Kd.Q_form HO_209001.out zq37
          (first | cases eo25 | (injection eo25 with ea_ en_ ec_; (first | subst ea_ | (injection ea_ with ea_; subst ea_)); subst ec_; clear en_))
          have GB25 := Zs.mk gb25
          have GG25 := Zs.mk HG25
          clear gb25 gl25 HG25
          obtain ⟨ce25, hcl25, hM25, hcc25, hfr25⟩ := Kd.Q_elem HO_209001.out z57 (t211 : Int) p25 q25
          obtain rfl := k57_openM hM25
          have hx25_0 : World.cell? _ ⟨go25, oo25 + (t211 : Int).toNat * 2, none⟩ = some (.int .i64 ((rd_T57 x209001_1 t211).f0)) := hcc25 0 _ rfl
          have hx25_1 : World.cell? _ ⟨go25, oo25 + (t211 : Int).toNat * 2 + 1, none⟩ = some (.int .i64 ((rd_T57 x209001_1 t211).f1)) := hcc25 1 _ rfl
          have hf25_0 : World.frozen? _ ⟨go25, oo25 + (t211 : Int).toNat * 2, none⟩ = false := hfr25 0
          have hf25_1 : World.frozen? _ ⟨go25, oo25 + (t211 : Int).toNat * 2 + 1, none⟩ = false := hfr25 1
          clear hcl25 hcc25 hfr25 hM25
          replace p25 := eq_true p25
          replace q25 := eq_true q25
          have HN0_go25 := Zs.mk (show g ≠ go25 from by have h_ := IsS90.own_neQ HI0.out HO_209001.out zq31; intro e_; exact h_ (by rw [e_]; rfl))
          obtain ⟨ce35, hcl35, hM35, hcc35, hfr35⟩ := Kd.Q_elem HO_209001.out z57 (t211 : Int) (of_decide_eq_true zq8) (by have h_ : (t211 : Int) < ((x209001_1.length : Int) : Int) := of_decide_eq_true zq8; first | exact h_ | (have e_ := (Kd.Q_reads' HO_209001.out).1; omega) | simpa using h_)
          obtain rfl := k57_openM hM35
          have HP35 := (Kd.Q_seg HO_209001.out (t211 : Int) (of_decide_eq_true zq8) (by have h_ : (t211 : Int) < ((x209001_1.length : Int) : Int) := of_decide_eq_true zq8; first | exact h_ | (have e_ := (Kd.Q_reads' HO_209001.out).1; omega) | simpa using h_) (seg := [.int .i64 (rd y213 t216), .int .i64 0]) (j := 0) hcl35 hcc35 (show 2 ≤ 2 from by decide) (x' := (⟨rd y213 t216, 0⟩ : S57)) (k57_mkM _ _ _ (⟨rd y213 t216, 0⟩ : S57) ) (fun _ hk => hk)).1
          rw [← Ny219.out] at HP35
          have HQ35 := Zs.mk HP35
          clear hcl35 hcc35 hfr35 hM35 HP35
          refine norm_ (a' := ?_) ?_ ?_
          rotate_left
          ·simp only [putAll, Act.put, List.setIfInBounds_toArray, List.set_cons_zero, List.set_cons_succ]
           rfl
          refine pure_ (i := 10) (N := some 29) (v := ?_) (a' := ?_) #[true, true, true, true, true, true, true, true, true, true, true, false, false, false, false] rfl rfl (any_of HT_.out zq6) (fun _ _ _ h => h) (Or.inl ⟨by rfl, ?_⟩) ?_ ?_
          rotate_left
          ·intro w'
           go_simp
           with_reducible rfl
          rotate_left
          ·simp only [Act.put, List.setIfInBounds_toArray, List.set_cons_zero, List.set_cons_succ, i64_w, i32_w]
           rfl
          refine one_ (i := 11) (N := some 30) #[true, true, true, true, true, true, true, true, true, true, true, true, false, false, false] rfl rfl (one_of HT_.out zq6) zq31 (fun K hK => ?_)
          (have p218 : 0 ≤ (t216 : Int) := of_decide_eq_true zq8; have q218 : t216 < (y213.length : Int) := of_decide_eq_true zq8; obtain ⟨ad218, e218, hx218_0⟩ := Kd.at_int (Kd.R_reads' HO215.out).2.2 t216 p218 q218; obtain rfl : adz_v214 = ad218 := (by injection e218))
          refine value_ (w1 := ?_) (v := ?_) (by rfl) rfl ?_ ?_
          rotate_left 2
          ·go_simp
           constructor
           ·rfl
           ·rfl
          clear hx218_0
          refine hK.out _ _ ⟨(kCe BK208.out 0).trans rfl, (kCe BK208.out 1).trans rfl⟩ (fun hHeld => ?_)
          clear hK K
          refine norm_ (a' := ?_) ?_ ?_
          rotate_left
          ·show Act.put _ (some 30) _ = _
           simp only [Act.put, List.setIfInBounds_toArray, List.set_cons_zero, List.set_cons_succ, i64_w, i32_w]
           rfl
          refine pure_ (i := 12) (N := some 31) (v := ?_) (a' := ?_) #[true, true, true, true, true, true, true, true, true, true, true, true, true, false, false] rfl rfl (any_of HT_.out zq6) (fun _ _ _ h => h) (Or.inl ⟨by rfl, ?_⟩) ?_ ?_
          rotate_left
          ·intro w'
           go_simp
           with_reducible rfl
          rotate_left
          ·simp only [Act.put, List.setIfInBounds_toArray, List.set_cons_zero, List.set_cons_succ, i64_w, i32_w]
           rfl
          refine pure_ (i := 13) (N := some 32) (v := ?_) (a' := ?_) #[true, true, true, true, true, true, true, true, true, true, true, true, true, true, false] rfl rfl (any_of HT_.out zq6) (fun _ _ _ h => h) (Or.inl ⟨by rfl, ?_⟩) ?_ ?_
          rotate_left
          ·intro w'
           go_simp
           with_reducible rfl
          rotate_left
          ·simp only [Act.put, List.setIfInBounds_toArray, List.set_cons_zero, List.set_cons_succ, i64_w, i32_w]
           rfl
          refine last_ (i := 14) (N := none) #[true, true, true, true, true, true, true, true, true, true, true, true, true, true, true] rfl rfl (one_of HT_.out zq6) zq31 (fun K hK => ?_)
          refine skip_ (w1 := ?_) (by rfl) rfl ?_ ?_
          rotate_left
          ·go_simp
           rfl
          refine hK.out _ _ ?_
          clear hK K
          refine done_ (done_of HT_.out zq6) ?_
          try go_wp2
          go_roundg kj11
          case measure => have := HK1.out; have := HJ11.out; omega
          case rel => exact ⟨(wrap64 (x4_1 - 1)), (t217), (y219), (.slice (some ⟨go25, oo25, none⟩) x209001_1.length co27), zq13, H', ⟨by have := HK1.out; have := HJ11.out; omega⟩, ⟨by (with_reducible repeat (first | apply Kd.Q_alloc | apply Kd.Q_drewN | apply Kd.Q_drew)); exact HQ35.out⟩, ⟨by (with_reducible repeat (first | refine kDN ?_ _ | refine kDr ?_ | refine kAl ?_ _)); refine blk_far ?_ (by have h_ := Kd.Q_ne HO_209001.out BK202.out zq31; intro e_; exact h_ (by rw [e_]; rfl)) _; (with_reducible repeat (first | refine kDN ?_ _ | refine kDr ?_ | refine kAl ?_ _)); refine blk_far ?_ (by have h_ := Kd.Q_ne HO_209001.out BK202.out zq31; intro e_; exact h_ (by rw [e_]; rfl)) _; (with_reducible repeat (first | refine kDN ?_ _ | refine kDr ?_ | refine kAl ?_ _)); exact BK202.out⟩, ⟨by (with_reducible repeat (first | refine kDN ?_ _ | refine kDr ?_ | refine kAl ?_ _)); refine blk_far ?_ (by have h_ := Kd.Q_ne HO_209001.out BK208.out zq31; intro e_; exact h_ (by rw [e_]; rfl)) _; (with_reducible repeat (first | refine kDN ?_ _ | refine kDr ?_ | refine kAl ?_ _)); refine blk_far ?_ (by have h_ := Kd.Q_ne HO_209001.out BK208.out zq31; intro e_; exact h_ (by rw [e_]; rfl)) _; (with_reducible repeat (first | refine kDN ?_ _ | refine kDr ?_ | refine kAl ?_ _)); exact BK208.out⟩, ⟨by repeat (first | (with_reducible first | exact HI0.out | apply IsS90.alloc | apply IsS90.drewN | apply IsS90.drew | apply IsS90.set_1 | refine IsS90.far ?_ HN0_go25.out _ | refine IsS90.far ?_ HN0_go25.out _ | refine IsS90.far ?_ NB0_202.out _ | refine IsS90.far ?_ NB0_208.out _) | exact HI0.out)⟩, ⟨by repeat (first | (with_reducible first | exact HK.out | apply KeepBut.set_ | apply keep_drewN | apply keep_drew | apply keep_alloc | refine keep_far ?_ GB25.out _ | refine keep_far ?_ GB25.out _ | refine keep_far ?_ GW202.out _ | refine keep_far ?_ GW208.out _) | exact HK.out)⟩, ⟨by repeat (first | (with_reducible first | exact HB.out | apply bAl | apply bDN | apply bD1 | refine bSt ?_ (Nat.le_trans HL.out GB25.out) | refine bSt ?_ (Nat.le_trans HL.out GB25.out) | refine bSt ?_ (IsS90.ge HI0.out) | refine bSt ?_ GE202.out | refine bSt ?_ GE208.out) | exact HB.out)⟩⟩
         ·rw [if_neg c24] at H
          exact absurd H zq58
        ·rw [if_neg c23] at H
         exact absurd H zq58
       ·rw [if_neg c22] at H
        exact absurd H zq58
      ·rw [if_neg c21] at H
       exact absurd H zq58
     ·replace c18 := Bool.eq_false_iff.mpr c18
      subst c18
      have H1 : (some (t203, x209001_1, x1001_1)) = some (r1, r2, r3) := by rw [if_neg (show ¬ (false = true) by decide)] at H; exact H
      clear H
      have H := H1
      clear H1
      simp only [Option.some.injEq, Prod.mk.injEq] at H
      obtain ⟨rfl, rfl, rfl⟩ := H
      have hnb36 := NB208_202.out
      have hnc36 := NB202_208.out
      have hnb37 := NB208_0.out
      have hnc37 := NB0_208.out
      have hcz38_0 : wc.cell? ⟨gb208, 0, none⟩ = some (.int .i64 t203) := (kCe BK208.out 0).trans rfl
      have hcz38_1 : wc.cell? ⟨gb208, 1, none⟩ = some (u209001) := (kCe BK208.out 1).trans rfl
      have hfz38_0 := kFr BK208.out 0
      have hfz38_1 := kFr BK208.out 1
      have hnb39 := NB202_0.out
      have hnc39 := NB0_202.out
      have hcz40_0 : wc.cell? ⟨gb202, 0, none⟩ = some (.int .i64 0) := (kCe BK202.out 0).trans rfl
      have hcz40_1 : wc.cell? ⟨gb202, 1, none⟩ = some (.slice none 0 0) := (kCe BK202.out 1).trans rfl
      have hfz40_0 := kFr BK202.out 0
      have hfz40_1 := kFr BK202.out 1
      obtain ⟨Ao41, co41, eo41, _⟩ := Kd.Q_slice HO_209001.out
      subst eo41
      go_wp2
      refine bodyPost_ret (results_cell_row rfl _ _ gb202 25 #[.int .i64 t203, .slice Ao41 x209001_1.length co41] (0, 0) _ rfl (by (with_reducible repeat (first | refine kDN ?_ _ | refine kDr ?_ | refine kAl ?_ _)); refine blk_put (cs := #[.int .i64 t203, .slice none 0 0]) ?_ 1 _ rfl; (with_reducible repeat (first | refine kDN ?_ _ | refine kDr ?_ | refine kAl ?_ _)); refine blk_put (cs := #[.int .i64 0, .slice none 0 0]) ?_ 0 _ rfl; (with_reducible repeat (first | refine kDN ?_ _ | refine kDr ?_ | refine kAl ?_ _)); exact BK202.out) Try.underlying25 rfl zq6) rfl ?_
      exact ⟨_, by first | rfl | (simp [errW_none, errW_some] <;> rfl) | (simp [*, errW_none, errW_some] <;> rfl), by (with_reducible repeat (first | apply Kd.Q_alloc | apply Kd.Q_drewN | apply Kd.Q_drew)); exact Kd.Q_mono (Kd.Q_far (p := ⟨gb202, 1, none⟩) (Kd.Q_far (p := ⟨gb202, 0, none⟩) (Kd.Q_types HO_209001.out BK202.out zq31) (fun _ hk => hk.2) (.int .i64 t203)) (fun _ hk => hk.2) (.slice Ao41 x209001_1.length co41)) (fun _ hk => trivial), by repeat (first | (with_reducible first | exact HI0.out | apply IsS90.alloc | apply IsS90.drewN | apply IsS90.drew | apply IsS90.set_1 | refine IsS90.far ?_ NB0_202.out _ | refine IsS90.far ?_ NB0_208.out _) | exact HI0.out), by repeat (first | (with_reducible first | exact HB.out | apply bAl | apply bDN | apply bD1 | refine bSt ?_ (IsS90.ge HI0.out) | refine bSt ?_ GE202.out | refine bSt ?_ GE208.out) | exact HB.out), by repeat (first | (with_reducible first | exact HK.out | apply KeepBut.set_ | apply keep_drewN | apply keep_drew | apply keep_alloc | refine keep_far ?_ GW202.out _ | refine keep_far ?_ GW208.out _) | exact HK.out)⟩

end Go.Proofs.Ytejgohgmmndgbaa.PFnTrailTurn
--slim
