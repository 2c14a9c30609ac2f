-- Written by a program of this session: the kit's print, with functions among it that were proved by hand.
import Derived.Test.YtejgohgmmndgbaaPFnTrailTurnx0
import Derived.Test.YtejgohgmmndgbaaPFnTrailTurnx9
import Derived.Test.YtejgohgmmndgbaaPFnTrailTurnx10
import Derived.Test.YtejgohgmmndgbaaPFnTrailTurnx12
namespace Go.Proofs.Ytejgohgmmndgbaa.PFnTrailTurn
open Go.RowKit Go.Proofs.YtejgohgmmndgbaaW.PrintWords Go.Proofs.YtejgohgmmndgbaaW.PrintLast Go.Proofs.YtejgohgmmndgbaaW.PrintMore
attribute [local go_sem] max2_int min2_int max_two min_two max_three min_three max_four min_four   -- for this text's walks alone
set_option linter.unusedVariables false
set_option linter.unusedSimpArgs false

/-! ### spec_l71Grid: function 85 -/
def spec_l71Grid.l0 : Nat → Int → List Int → Int → Int → List (S57) → Option (Int × (List (S57)) × Int)
 | 0, _, _, _, _, _ => none
 | k + 1, x4, x1000, x1001, x165000, x165001 => if x4 > 0 then ((spec_l71Cell.f k x1000 x1001).bind fun bt167 => (if x165001.length < 8796093022208 then (spec_l71Grid.l0 k (wrap64 (x4 - 1)) x1000 bt167.2.2 x165000 (x165001 ++ [(⟨bt167.1, bt167.2.1⟩ : S57)])) else (none))) else (some (x165000, x165001, x1001))
def spec_l71Grid.f (k : Nat) (s0_0 : List Int) (s0_1 : Int) : Option (Int × (List (S57)) × Int) := (spec_l6Rd_pick.f k s0_0 s0_1 5).bind fun bt162 => ((spec_l6Rd_pick.f k s0_0 bt162.2 5).bind fun bt165 => (spec_l71Grid.l0 k (wrap64 ((wrap64 (1 + bt162.1)) * (wrap64 (1 + bt165.1)))) s0_0 bt165.2 (wrap64 (1 + bt162.1)) ([] : List (S57))))
theorem spec_l71Grid.mono_l : ∀ k, (∀ y0 y1 y2 y3 y4, LeO (spec_l71Grid.l0 k y0 y1 y2 y3 y4) (spec_l71Grid.l0 (k + 1) y0 y1 y2 y3 y4))
 | 0 => fun _ _ _ _ _ r h => by simp [spec_l71Grid.l0] at h
 | k + 1 => by
  have ih0 := spec_l71Grid.mono_l k
  ·intro y0 y1 y2 y3 y4
   unfold spec_l71Grid.l0
   repeat' first
   | (with_reducible exact ih0 _ _ _ _ _)
   | (with_reducible exact spec_l6Rd_pick.mono _ _ _ _)
   | (with_reducible exact spec_l71Cell.mono _ _ _)
   | (with_reducible exact LeO.refl _)
   | (with_reducible exact LeO.none _)
   | (with_reducible refine LeO.ite ?_ ?_)
   | (with_reducible refine LeO.bind ?_ (fun _ => ?_))
   | exact ih0 _ _ _ _ _
   | exact spec_l6Rd_pick.mono _ _ _ _
   | exact spec_l71Cell.mono _ _ _
   | exact LeO.none _
   | refine LeO.ite ?_ ?_
   | refine LeO.bind ?_ (fun _ => ?_)
theorem spec_l71Grid.mono : ∀ a0 a1 k, LeO (spec_l71Grid.f k a0 a1) (spec_l71Grid.f (k + 1) a0 a1) := by
 intro a0 a1 k
 have ih0 := spec_l71Grid.mono_l k
 unfold spec_l71Grid.f
 repeat' first
   | (with_reducible exact ih0 _ _ _ _ _)
   | (with_reducible exact spec_l6Rd_pick.mono _ _ _ _)
   | (with_reducible exact spec_l71Cell.mono _ _ _)
   | (with_reducible exact LeO.refl _)
   | (with_reducible exact LeO.none _)
   | (with_reducible refine LeO.ite ?_ ?_)
   | (with_reducible refine LeO.bind ?_ (fun _ => ?_))
   | exact ih0 _ _ _ _ _
   | exact spec_l6Rd_pick.mono _ _ _ _
   | exact spec_l71Cell.mono _ _ _
   | exact LeO.none _
   | refine LeO.ite ?_ ?_
   | refine LeO.bind ?_ (fun _ => ?_)
def spec_l71Grid.T5 : Bool × List (List Nat × List Nat) := (true, [([], []), ([0], [0]), ([], []), ([2], [2]), ([3], [3]), ([1, 4, 3], [1, 4]), ([0, 1, 2, 3, 4, 5], []), ([6, 5, 5, 0, 1, 2, 3, 4, 5], [5, 6])])
def spec_l71Grid.B5 : List Nat := [0, 1, 0, 4, 12, 31, 63, 127]
theorem spec_l71Grid.tab5 : rtab .any (opsOf Try.f85 5) = spec_l71Grid.T5 := by kernel_rfl
theorem spec_l71Grid.bits5 : waitsOk spec_l71Grid.T5.2 spec_l71Grid.B5 = true := by kernel_rfl
set_option maxHeartbeats 8000000 in
set_option maxRecDepth 100000 in
theorem spec_l71Grid.calls (k : Nat) (g : Nat) (s0_0 : List Int) (s0_1 : Int) (r1 : Int) (r2 : List (S57)) (r3 : Int) (w0 w : World) (hI : IsS90 w0 w g s0_0 s0_1) (hB : Below w0.heap.size w0 w) (h : spec_l71Grid.f k s0_0 s0_1 = some (r1, r2, r3)) :
  Calls Try.prog 85 #[.pointer (some ⟨g, 0, none⟩)] w fun e w' => ∃ v1_ : Value, e = .returned (.agg #[.int .i64 r1, v1_]) ∧ Kd.R k57 57 w' w.heap.size (fun _ => True) v1_ r2 ∧ IsS90 w0 w' g s0_0 r3 ∧ Below w0.heap.size w0 w' ∧ KeepBut w w' g none := by
 have hu25 := Try.underlying25
 have HI0 := Zs.mk hI
 have HK := Zs.mk (KeepBut.refl w g none)
 have HL := Zs.mk hB.size
 clear hI
 have HW0 := Zs.mk hB.size
 have HB := Zs.mk hB
 clear hB
 have H : ((spec_l6Rd_pick.f k s0_0 s0_1 5).bind fun bt162 => ((spec_l6Rd_pick.f k s0_0 bt162.2 5).bind fun bt165 => (spec_l71Grid.l0 k (wrap64 ((wrap64 (1 + bt162.1)) * (wrap64 (1 + bt165.1)))) s0_0 bt165.2 (wrap64 (1 + bt162.1)) ([] : List (S57))))) = some (r1, r2, r3) := h
 clear h
 replace H := Option.bind_eq_some_iff.mp H
 obtain ⟨⟨t162, t163⟩, A20, H⟩ := H
 replace H : ((spec_l6Rd_pick.f k s0_0 t163 5).bind fun bt165 => (spec_l71Grid.l0 k (wrap64 ((wrap64 (1 + t162)) * (wrap64 (1 + bt165.1)))) s0_0 bt165.2 (wrap64 (1 + t162)) ([] : List (S57)))) = some (r1, r2, r3) := H
 have A2 := Zs.mk A20
 clear A20
 replace H := Option.bind_eq_some_iff.mp H
 obtain ⟨⟨t165, t166⟩, A30, H⟩ := H
 replace H : (spec_l71Grid.l0 k (wrap64 ((wrap64 (1 + t162)) * (wrap64 (1 + t165)))) s0_0 t166 (wrap64 (1 + t162)) ([] : List (S57))) = some (r1, r2, r3) := H
 have A3 := Zs.mk A30
 clear A30
 have H' := Zs.mk H
 clear H
 go_enter Try.func85, Try.ntmps85
 try go_wp2_with (first | ((with_reducible refine gate_dst (N := 2) rfl ?_); refine box_event ?hg (N := 2) ?hd (cs := #[.int .i64 0, .slice none 0 0]) (t := 25) ?hr ?_; (case hd => rfl); (case hg => rfl); (case hr => first | (go_simp; done) | (go_simp; rfl)); intro gb161 hg w4 hbox hb; have n0_ := Zs.mk (IsS90.below zq20 hb); have n1_ := Zs.mk (KeepBut.trans zq4 (KeepBut.of_below hb g none) (.inl rfl)); have n2_ := Zs.mk (bSp zq23 hb); have n3_ := Zs.mk (hbox); have n4_ := Zs.mk ((by rw [hg]; exact (keep_size (w := w) (g := g) (row := none) zq4) : w.heap.size ≤ gb161)); have n5_ := Zs.mk ((Nat.le_trans HW0.out (by rw [hg]; exact (keep_size (w := w) (g := g) (row := none) zq4) : w.heap.size ≤ gb161) : w0.heap.size ≤ gb161)); have n6_ := Zs.mk ((by rw [hg]; exact Nat.ne_of_lt (IsS90.lt (show IsS90 w0 _ g s0_0 s0_1 from by repeat (first | (with_reducible first | exact HI0.out | apply IsS90.alloc | apply IsS90.drewN | apply IsS90.drew | apply IsS90.set_1) | exact HI0.out))) : g ≠ gb161)); have n7_ := Zs.mk ((by rw [hg]; exact Nat.ne_of_gt (IsS90.lt (show IsS90 w0 _ g s0_0 s0_1 from by repeat (first | (with_reducible first | exact HI0.out | apply IsS90.alloc | apply IsS90.drewN | apply IsS90.drew | apply IsS90.set_1) | exact HI0.out))) : gb161 ≠ g)); clear HI0; clear HK; clear HB; have HI0 := n0_; have HK := n1_; have HB := n2_; have BK161 := n3_; have GW161 := n4_; have GE161 := n5_; have NB0_161 := n6_; have NB161_0 := n7_; clear n0_ n1_ n2_ n3_ n4_ n5_ n6_ n7_; clear hb hbox hg) | ((with_reducible refine gate_callee (f := 43) rfl ?_); refine goesL_ (some 6) rfl rfl Try.func43 zq6 rfl #[.pointer (some ⟨g, 0, none⟩), .int .i64 5] rfl zq1 ?_; (with_reducible refine (spec_l6Rd_pick.calls k g s0_0 s0_1 5 t162 t163 w0 _ ?side1 ?side2 A2.out).mono ?_); (case side1 => repeat (first | (with_reducible first | exact HI0.out | apply IsS90.alloc | apply IsS90.drewN | apply IsS90.drew | apply IsS90.set_1 | refine IsS90.far ?_ NB0_161.out _) | exact HI0.out)); (case side2 => repeat (first | (with_reducible first | exact HB.out | apply bAl | apply bDN | apply bD1 | refine bSt ?_ (IsS90.ge HI0.out) | refine bSt ?_ GE161.out) | exact HB.out)); rintro e w5 ⟨rfl, hi, hb, hk⟩; refine ⟨_, rfl, ?_⟩; have n0_ := Zs.mk (KeepBut.blk hk (g' := gb161) (o := .cells #[.int .i64 0, .slice none 0 0] 25 (0, 0)) zq57 NB161_0.out zq58); have n1_ := Zs.mk (KeepBut.trans zq59 hk (.inl rfl)); have n2_ := Zs.mk (hb); have n3_ := Zs.mk (hi); clear BK161; clear HK; clear HB; clear HI0; have BK161 := n0_; have HK := n1_; have HB := n2_; have HI0 := n3_; clear n0_ n1_ n2_ n3_; (try clear hb); (try clear hb2); (try clear hk); (try clear hi)) | ((with_reducible refine gate_dst (N := 3) rfl ?_); refine box_event ?hg (N := 3) ?hd (cs := #[.int .i64 0, .slice none 0 0]) (t := 25) ?hr ?_; (case hd => rfl); (case hg => rfl); (case hr => first | (go_simp; done) | (go_simp; rfl)); intro gb164 hg w6 hbox hb; have n0_ := Zs.mk (IsS90.below (by repeat (first | (with_reducible first | exact HI0.out | apply IsS90.alloc | apply IsS90.drewN | apply IsS90.drew | apply IsS90.set_1 | refine IsS90.far ?_ NB0_161.out _) | exact HI0.out)) hb); have n1_ := Zs.mk (kBe (g := gb161) (o := .cells #[.int .i64 0, .slice none 0 0] 25 (0, 0)) zq57 hb); have n2_ := Zs.mk (KeepBut.trans zq59 (KeepBut.of_below hb g none) (.inl rfl)); have n3_ := Zs.mk (bSp (by repeat (first | (with_reducible first | exact HB.out | apply bAl | apply bDN | apply bD1 | refine bSt ?_ (IsS90.ge HI0.out) | refine bSt ?_ GE161.out) | exact HB.out)) hb); have n4_ := Zs.mk (hbox); have n5_ := Zs.mk ((by rw [hg]; exact (keep_size (w := w) (g := g) (row := none) zq59) : w.heap.size ≤ gb164)); have n6_ := Zs.mk ((Nat.le_trans HW0.out (by rw [hg]; exact (keep_size (w := w) (g := g) (row := none) zq59) : w.heap.size ≤ gb164) : w0.heap.size ≤ gb164)); have n7_ := Zs.mk ((by rw [hg]; exact Nat.ne_of_lt (blk_lt (g := gb161) (o := .cells #[.int .i64 0, .slice none 0 0] 25 (0, 0)) zq57) : gb161 ≠ gb164)); have n8_ := Zs.mk ((by rw [hg]; exact Nat.ne_of_gt (blk_lt (g := gb161) (o := .cells #[.int .i64 0, .slice none 0 0] 25 (0, 0)) zq57) : gb164 ≠ gb161)); have n9_ := Zs.mk ((by rw [hg]; exact Nat.ne_of_lt (IsS90.lt (show IsS90 w0 _ g s0_0 t163 from by repeat (first | (with_reducible first | exact HI0.out | apply IsS90.alloc | apply IsS90.drewN | apply IsS90.drew | apply IsS90.set_1 | refine IsS90.far ?_ NB0_161.out _) | exact HI0.out))) : g ≠ gb164)); have n10_ := Zs.mk ((by rw [hg]; exact Nat.ne_of_gt (IsS90.lt (show IsS90 w0 _ g s0_0 t163 from by repeat (first | (with_reducible first | exact HI0.out | apply IsS90.alloc | apply IsS90.drewN | apply IsS90.drew | apply IsS90.set_1 | refine IsS90.far ?_ NB0_161.out _) | exact HI0.out))) : gb164 ≠ g)); clear HI0; clear BK161; clear HK; clear HB; have HI0 := n0_; have BK161 := n1_; have HK := n2_; have HB := n3_; have BK164 := n4_; have GW164 := n5_; have GE164 := n6_; have NB161_164 := n7_; have NB164_161 := n8_; have NB0_164 := n9_; have NB164_0 := n10_; clear n0_ n1_ n2_ n3_ n4_ n5_ n6_ n7_ n8_ n9_ n10_; clear hb hbox hg; have hnb7 := NB164_161.out; have hnc7 := NB161_164.out; have hnb8 := NB164_0.out; have hnc8 := NB0_164.out; have hcz9_0 : w6.cell? ⟨gb164, 0, none⟩ = some (.int .i64 0) := (kCe BK164.out 0).trans rfl; have hcz9_1 : w6.cell? ⟨gb164, 1, none⟩ = some (.slice none 0 0) := (kCe BK164.out 1).trans rfl; have hfz9_0 := kFr BK164.out 0; have hfz9_1 := kFr BK164.out 1))
 have n0_ : Zs (((w6.setCell ⟨gb164, 0, none⟩ (.int .i64 (wrap64 (1 + t162)))).setCell ⟨gb164, 1, none⟩ (.slice none 0 0)).heap[gb161]? = some (.cells #[.int .i64 0, .slice none 0 0] 25 (0, 0))) := ⟨by (with_reducible repeat (first | refine kDN ?_ _ | refine kDr ?_ | refine kAl ?_ _)); refine blk_far ?_ NB161_164.out _; (with_reducible repeat (first | refine kDN ?_ _ | refine kDr ?_ | refine kAl ?_ _)); refine blk_far ?_ NB161_164.out _; (with_reducible repeat (first | refine kDN ?_ _ | refine kDr ?_ | refine kAl ?_ _)); exact BK161.out⟩
 have n1_ : Zs (((w6.setCell ⟨gb164, 0, none⟩ (.int .i64 (wrap64 (1 + t162)))).setCell ⟨gb164, 1, none⟩ (.slice none 0 0)).heap[gb164]? = some (.cells #[.int .i64 (wrap64 (1 + t162)), .slice none 0 0] 25 (0, 0))) := ⟨by (with_reducible repeat (first | refine kDN ?_ _ | refine kDr ?_ | refine kAl ?_ _)); refine blk_put (cs := #[.int .i64 (wrap64 (1 + t162)), .slice none 0 0]) ?_ 1 _ rfl; (with_reducible repeat (first | refine kDN ?_ _ | refine kDr ?_ | refine kAl ?_ _)); refine blk_put (cs := #[.int .i64 0, .slice none 0 0]) ?_ 0 _ rfl; (with_reducible repeat (first | refine kDN ?_ _ | refine kDr ?_ | refine kAl ?_ _)); exact BK164.out⟩
 have n2_ : Zs (IsS90 w0 ((w6.setCell ⟨gb164, 0, none⟩ (.int .i64 (wrap64 (1 + t162)))).setCell ⟨gb164, 1, none⟩ (.slice none 0 0)) g s0_0 t163) := ⟨by repeat (first | (with_reducible first | exact HI0.out | apply IsS90.alloc | apply IsS90.drewN | apply IsS90.drew | apply IsS90.set_1 | refine IsS90.far ?_ NB0_161.out _ | refine IsS90.far ?_ NB0_164.out _) | exact HI0.out)⟩
 have n3_ : Zs (KeepBut w ((w6.setCell ⟨gb164, 0, none⟩ (.int .i64 (wrap64 (1 + t162)))).setCell ⟨gb164, 1, none⟩ (.slice none 0 0)) g none) := ⟨by repeat (first | (with_reducible first | exact HK.out | apply KeepBut.set_ | apply keep_drewN | apply keep_drew | apply keep_alloc | refine keep_far ?_ GW161.out _ | refine keep_far ?_ GW164.out _) | exact HK.out)⟩
 have n4_ : Zs (Below w0.heap.size w0 ((w6.setCell ⟨gb164, 0, none⟩ (.int .i64 (wrap64 (1 + t162)))).setCell ⟨gb164, 1, none⟩ (.slice none 0 0))) := ⟨by repeat (first | (with_reducible first | exact HB.out | apply bAl | apply bDN | apply bD1 | refine bSt ?_ (IsS90.ge HI0.out) | refine bSt ?_ GE161.out | refine bSt ?_ GE164.out) | exact HB.out)⟩
 (try clear BK161)
 (try clear BK164)
 (try clear HI0)
 (try clear HK)
 (try clear HB)
 generalize ((w6.setCell ⟨gb164, 0, none⟩ (.int .i64 (wrap64 (1 + t162)))).setCell ⟨gb164, 1, none⟩ (.slice none 0 0)) = w10 at n0_ n1_ n2_ n3_ n4_ ⊢
 have BK161 := n0_
 have BK164 := n1_
 have HI0 := n2_
 have HK := n3_
 have HB := n4_
 clear n0_ n1_ n2_ n3_ n4_
 have n0_ := Zs.mk (kDr BK161.out)
 have n1_ := Zs.mk (kDr BK164.out)
 have n2_ := Zs.mk (IsS90.drew HI0.out)
 have n3_ := Zs.mk (keep_drew HK.out)
 have n4_ := Zs.mk (bD1 HB.out)
 clear BK161
 clear BK164
 clear HI0
 clear HK
 clear HB
 have BK161 := n0_
 have BK164 := n1_
 have HI0 := n2_
 have HK := n3_
 have HB := n4_
 clear n0_ n1_ n2_ n3_ n4_
 refine start_ (n := 7) (S := fun w' => w'.cell? ⟨gb164, 0, none⟩ = some (.int .i64 (wrap64 (1 + t162))) ∧ w'.cell? ⟨gb164, 1, none⟩ = some (.slice none 0 0)) (ds := []) #[false, false, false, false, false, false, false] zq6 rfl rfl ⟨(kCe BK164.out 0).trans rfl, (kCe BK164.out 1).trans rfl⟩ (fun hHeld => ?_)
 generalize w10.drew = w11 at BK161 BK164 HI0 HK HB hHeld ⊢
 refine pure_ (i := 0) (N := some 9) (v := ?_) (a' := ?_) #[true, false, false, false, false, false, false] rfl rfl zq6 (fun _ _ _ h => h) (Or.inl ⟨by rfl, ?_⟩) ?_ ?_
 rotate_left
 ·intro w'
  go_simp
  with_reducible rfl
 rotate_left
 ·simp only [Act.put, List.setIfInBounds_toArray, List.set_cons_zero, List.set_cons_succ, i64_w, i32_w]
  rfl
 refine pure_ (i := 2) (N := some 11) (v := ?_) (a' := ?_) #[true, false, true, false, false, false, false] rfl rfl zq6 (fun _ _ _ h => h) (Or.inl ⟨by rfl, ?_⟩) ?_ ?_
 rotate_left
 ·intro w'
  go_simp
  with_reducible rfl
 rotate_left
 ·simp only [Act.put, List.setIfInBounds_toArray, List.set_cons_zero, List.set_cons_succ, i64_w, i32_w]
  rfl
 refine take_ (i := 1) (N := some 10) (v := ?_) (a' := ?_) #[true, true, true, false, false, false, false] rfl rfl zq6 (fun _ _ _ h => h) (Or.inl ⟨by rfl, ?_⟩) hHeld ?_ ?_
 rotate_left
 ·rintro w' ⟨s0, s1⟩
  go_simp
  with_reducible rfl
 rotate_left
 ·simp only [Act.put, List.setIfInBounds_toArray, List.set_cons_zero, List.set_cons_succ, i64_w, i32_w]
  rfl
 refine one_ (i := 3) (N := some 12) #[true, true, true, true, false, false, false] rfl rfl zq6 zq31 (fun K hK => ?_)
 refine goes_ Try.func43 zq6 rfl #[.pointer (some ⟨g, 0, none⟩), .int .i64 5] (by rfl) rfl rfl zq1 ?_
 with_reducible refine (spec_l6Rd_pick.calls k g s0_0 t163 5 t165 t166 w0 _ ?side1 ?side2 A3.out).mono ?_
 (case side1 => repeat (first | (with_reducible first | exact HI0.out | apply IsS90.alloc | apply IsS90.drewN | apply IsS90.drew | apply IsS90.set_1 | refine IsS90.far ?_ NB0_161.out _ | refine IsS90.far ?_ NB0_164.out _) | exact HI0.out))
 (case side2 => repeat (first | (with_reducible first | exact HB.out | apply bAl | apply bDN | apply bD1 | refine bSt ?_ (IsS90.ge HI0.out) | refine bSt ?_ GE161.out | refine bSt ?_ GE164.out) | exact HB.out))
 rintro e w12 ⟨rfl, hi, hb, hk⟩
 refine ⟨_, rfl, ?_⟩
 have n0_ := Zs.mk (KeepBut.blk hk (g' := gb161) (o := .cells #[.int .i64 0, .slice none 0 0] 25 (0, 0)) zq57 NB161_0.out zq58)
 have n1_ := Zs.mk (KeepBut.blk hk (g' := gb164) (o := .cells #[.int .i64 (wrap64 (1 + t162)), .slice none 0 0] 25 (0, 0)) zq95 NB164_0.out zq58)
 have n2_ := Zs.mk (KeepBut.trans zq55 hk (.inl rfl))
 have n3_ := Zs.mk (hb)
 have n4_ := Zs.mk (hi)
 clear BK161
 clear BK164
 clear HK
 clear HB
 clear HI0
 have BK161 := n0_
 have BK164 := n1_
 have HK := n2_
 have HB := n3_
 have HI0 := n4_
 clear n0_ n1_ n2_ n3_ n4_
 (try clear hb)
 (try clear hb2)
 (try clear hk)
 (try clear hi)
 refine hK.out _ _ ⟨(kCe BK164.out 0).trans rfl, (kCe BK164.out 1).trans rfl⟩ (fun hHeld => ?_)
 clear hK K
 refine norm_ (a' := ?_) ?_ ?_
 rotate_left
 ·show Act.put _ (some 12) _ = _
  simp only [Act.put, List.setIfInBounds_toArray, List.set_cons_zero, List.set_cons_succ, i64_w, i32_w]
  rfl
 refine pure_ (i := 4) (N := some 13) (v := ?_) (a' := ?_) #[true, true, true, true, true, false, false] rfl rfl zq6 (fun _ _ _ h => h) (Or.inl ⟨by rfl, ?_⟩) ?_ ?_
 rotate_left
 ·intro w'
  go_simp
  with_reducible rfl
 rotate_left
 ·simp only [Act.put, List.setIfInBounds_toArray, List.set_cons_zero, List.set_cons_succ, i64_w, i32_w]
  rfl
 refine pure_ (i := 5) (N := some 14) (v := ?_) (a' := ?_) #[true, true, true, true, true, true, false] rfl rfl zq6 (fun _ _ _ h => h) (Or.inl ⟨by rfl, ?_⟩) ?_ ?_
 rotate_left
 ·intro w'
  go_simp
  with_reducible rfl
 rotate_left
 ·simp only [Act.put, List.setIfInBounds_toArray, List.set_cons_zero, List.set_cons_succ, i64_w, i32_w]
  rfl
 refine pure_ (i := 6) (N := some 4) (v := ?_) (a' := ?_) #[true, true, true, true, true, true, true] rfl rfl zq6 (fun _ _ _ h => h) (Or.inl ⟨by rfl, ?_⟩) ?_ ?_
 rotate_left
 ·intro w'
  go_simp
  with_reducible rfl
 rotate_left
 ·simp only [Act.put, List.setIfInBounds_toArray, List.set_cons_zero, List.set_cons_succ, i64_w, i32_w]
  rfl
 refine done_ zq6 ?_
 try go_wp2
 go_loopg [4] k (fun kq v4 w' => ∃ (x4_1 : Int) (x1001_1 : Int) (x165001_1 : List (S57)) (u165001 : Value), v4 = .int .i64 x4_1 ∧ Zs (spec_l71Grid.l0 kq x4_1 s0_0 x1001_1 (wrap64 (1 + t162)) x165001_1 = some (r1, r2, r3)) ∧ Zs (kq ≤ k) ∧ Zs (Kd.R k57 57 w' w.heap.size (fun _ => True) u165001 x165001_1) ∧ Zs (w'.heap[gb161]? = some (.cells #[.int .i64 0, (.slice none 0 0)] 25 (0, 0))) ∧ Zs (w'.heap[gb164]? = some (.cells #[.int .i64 (wrap64 (1 + t162)), u165001] 25 (0, 0))) ∧ Zs (IsS90 w0 w' g s0_0 x1001_1) ∧ Zs (KeepBut w w' g none) ∧ Zs (Below w0.heap.size w0 w'))
 case atStart => exact ⟨(wrap64 ((wrap64 (1 + t162)) * (wrap64 (1 + t165)))), (t166), (([] : List (S57))), (.slice none 0 0), zq13, H', ⟨Nat.le_refl _⟩, ⟨by first | exact Kd.R_nil _ _ _ _ _ | exact Kd.N_nil _ _ _ _ _ | exact Kd.V_nil _ _ _ _ _ | exact Kd.Q_nil _ _ _ _ _ | exact Kd.S_nil _ _ _ _ _⟩, ⟨by (with_reducible repeat (first | refine kDN ?_ _ | refine kDr ?_ | refine kAl ?_ _)); exact BK161.out⟩, ⟨by (with_reducible repeat (first | refine kDN ?_ _ | refine kDr ?_ | refine kAl ?_ _)); exact BK164.out⟩, ⟨by repeat (first | (with_reducible first | exact HI0.out | apply IsS90.alloc | apply IsS90.drewN | apply IsS90.drew | apply IsS90.set_1 | refine IsS90.far ?_ NB0_161.out _ | refine IsS90.far ?_ NB0_164.out _) | exact HI0.out)⟩, ⟨by repeat (first | (with_reducible first | exact HK.out | apply KeepBut.set_ | apply keep_drewN | apply keep_drew | apply keep_alloc | refine keep_far ?_ GW161.out _ | refine keep_far ?_ GW164.out _) | exact HK.out)⟩, ⟨by repeat (first | (with_reducible first | exact HB.out | apply bAl | apply bDN | apply bD1 | refine bSt ?_ (IsS90.ge HI0.out) | refine bSt ?_ GE161.out | refine bSt ?_ GE164.out) | exact HB.out)⟩⟩
 case round =>
  clear H'
  try clear p2
  try clear c4
  try clear p6
  try clear c7
  try clear c8
  try clear hcz9_0
  try clear hcz9_1
  try clear hfz9_0
  try clear hfz9_1
  obtain ⟨x4_1, x1001_1, x165001_1, u165001, rfl, HA, HK1, HO_165001, BK161, BK164, HI0, HK, HB⟩ := hrel
  cases gk with
  | zero => exact absurd HA.out (by simp [spec_l71Grid.l0])
  | succ k1 =>
   have H := HA.out
   clear HA
   simp only [spec_l71Grid.l0] at H
   by_cases c13 : x4_1 > 0
   ·rw [if_pos c13] at H
    have c13b0 : decide (0 < x4_1) = true := decide_eq_true c13
    clear c13
    replace H := Option.bind_eq_some_iff.mp H
    obtain ⟨⟨t167, t168, t169⟩, A140, H⟩ := H
    replace H : (if x165001_1.length < 8796093022208 then (spec_l71Grid.l0 k1 (wrap64 (x4_1 - 1)) s0_0 t169 (wrap64 (1 + t162)) (x165001_1 ++ [(⟨t167, t168⟩ : S57)])) else (none)) = some (r1, r2, r3) := H
    have A14 := Zs.mk A140
    clear A140
    by_cases c15 : x165001_1.length < 8796093022208
    ·rw [if_pos c15] at H
     have LMc15 := Zs.mk c15
     clear c15
     obtain ⟨y170, hy170⟩ : ∃ y_ : List (S57), y_ = (x165001_1 ++ [(⟨t167, t168⟩ : S57)]) := ⟨_, rfl⟩
     replace H : (spec_l71Grid.l0 k1 (wrap64 (x4_1 - 1)) s0_0 t169 (wrap64 (1 + t162)) y170) = some (r1, r2, r3) := by first | (rw [hy170]; with_reducible exact H) | (have H2_ := (Option.bind_some _ _).symm.trans H; rw [hy170]; with_reducible exact H2_) | (have H2_ := (Option.bind_some _ _).symm.trans H; with_reducible exact H2_) | with_reducible exact H | (rw [hy170]; exact H) | exact H
     have Ny170 := Zs.mk hy170
     clear hy170
     have H' := Zs.mk H
     clear H
     try go_wp2
     have n0_ := Zs.mk (Kd.R_drew HO_165001.out)
     have n1_ := Zs.mk (kDr BK161.out)
     have n2_ := Zs.mk (kDr BK164.out)
     have n3_ := Zs.mk (IsS90.drew HI0.out)
     have n4_ := Zs.mk (keep_drew HK.out)
     have n5_ := Zs.mk (bD1 HB.out)
     clear HO_165001
     clear BK161
     clear BK164
     clear HI0
     clear HK
     clear HB
     have HO_165001 := n0_
     have BK161 := n1_
     have BK164 := n2_
     have HI0 := n3_
     have HK := n4_
     have HB := n5_
     clear n0_ n1_ n2_ n3_ n4_ n5_
     refine start_ (n := 8) (S := fun w' => w'.cell? ⟨gb164, 0, none⟩ = some (.int .i64 (wrap64 (1 + t162))) ∧ w'.cell? ⟨gb164, 1, none⟩ = some (u165001)) (ds := [7]) #[false, false, false, false, false, false, false, false] zq6 rfl rfl ⟨(kCe BK164.out 0).trans rfl, (kCe BK164.out 1).trans rfl⟩ (fun hHeld => ?_); refine with_tabW spec_l71Grid.tab5 spec_l71Grid.bits5 (fun HT_ HW_ => ?_)
     generalize wr.drew = w16 at HO_165001 BK161 BK164 HI0 HK HB hHeld ⊢
     refine pure_ (i := 0) (N := some 19) (v := ?_) (a' := ?_) #[true, false, false, false, false, false, false, false] rfl rfl (any_of HT_.out zq6) (fun _ _ _ h => h) (Or.inl ⟨by rfl, ?_⟩) ?_ ?_
     rotate_left
     ·intro w'
      go_simp
      with_reducible rfl
     rotate_left
     ·simp only [Act.put, List.setIfInBounds_toArray, List.set_cons_zero, List.set_cons_succ, i64_w, i32_w]
      rfl
     refine pure_ (i := 2) (N := some 21) (v := ?_) (a' := ?_) #[true, false, true, false, false, false, false, false] rfl rfl (any_of HT_.out zq6) (fun _ _ _ h => h) (Or.inl ⟨by rfl, ?_⟩) ?_ ?_
     rotate_left
     ·intro w'
      go_simp
      with_reducible rfl
     rotate_left
     ·simp only [Act.put, List.setIfInBounds_toArray, List.set_cons_zero, List.set_cons_succ, i64_w, i32_w]
      rfl
     refine take_ (i := 1) (N := some 20) (v := ?_) (a' := ?_) #[true, true, true, false, false, false, false, false] rfl rfl (take_ofW HT_.out HW_.out zq6) (fun _ _ _ h => h) (Or.inl ⟨by rfl, ?_⟩) hHeld ?_ ?_
     rotate_left
     ·rintro w' ⟨s0, s1⟩
      go_simp
      with_reducible rfl
     rotate_left
     ·simp only [Act.put, List.setIfInBounds_toArray, List.set_cons_zero, List.set_cons_succ, i64_w, i32_w]
      rfl
     refine one_ (i := 3) (N := some 22) #[true, true, true, true, false, false, false, false] rfl rfl (one_of HT_.out zq6) zq31 (fun K hK => ?_)
     refine goes_ Try.func64 zq6 rfl #[.pointer (some ⟨g, 0, none⟩)] (by rfl) rfl rfl zq1 ?_
     with_reducible refine (spec_l71Cell.calls k1 g s0_0 x1001_1 t167 t168 t169 w0 _ ?side1 ?side2 A14.out).mono ?_
     (case side1 => repeat (first | (with_reducible first | exact HI0.out | apply IsS90.alloc | apply IsS90.drewN | apply IsS90.drew | apply IsS90.set_1 | refine IsS90.far ?_ NB0_161.out _ | refine IsS90.far ?_ NB0_164.out _) | exact HI0.out))
     (case side2 => repeat (first | (with_reducible first | exact HB.out | apply bAl | apply bDN | apply bD1 | refine bSt ?_ (IsS90.ge HI0.out) | refine bSt ?_ GE161.out | refine bSt ?_ GE164.out) | exact HB.out))
     rintro e w17 ⟨rfl, hi, hb, hk⟩
     refine ⟨_, rfl, ?_⟩
     have n0_ := Zs.mk (Kd.R_mono (Kd.R_keep (IsS90.apart (show IsS90 w0 _ g s0_0 x1001_1 from by repeat (first | (with_reducible first | exact HI0.out | apply IsS90.alloc | apply IsS90.drewN | apply IsS90.drew | apply IsS90.set_1 | refine IsS90.far ?_ NB0_161.out _ | refine IsS90.far ?_ NB0_164.out _) | exact HI0.out)) (by (with_reducible repeat (first | apply Kd.R_alloc | apply Kd.R_drewN | apply Kd.R_drew)); exact HO_165001.out) zq31) hk (fun _ h => h.2)) (fun _ h => h.1))
     have n1_ := Zs.mk (KeepBut.blk hk (g' := gb161) (o := .cells #[.int .i64 0, .slice none 0 0] 25 (0, 0)) zq57 NB161_0.out zq58)
     have n2_ := Zs.mk (KeepBut.blk hk (g' := gb164) (o := .cells #[.int .i64 (wrap64 (1 + t162)), u165001] 25 (0, 0)) zq95 NB164_0.out zq58)
     have n3_ := Zs.mk (KeepBut.trans zq55 hk (.inl rfl))
     have n4_ := Zs.mk (hb)
     have n5_ := Zs.mk (hi)
     clear HO_165001
     clear BK161
     clear BK164
     clear HK
     clear HB
     clear HI0
     have HO_165001 := n0_
     have BK161 := n1_
     have BK164 := n2_
     have HK := n3_
     have HB := n4_
     have HI0 := n5_
     clear n0_ n1_ n2_ n3_ n4_ n5_
     (try clear hb)
     (try clear hb2)
     (try clear hk)
     (try clear hi)
     refine hK.out _ _ ⟨(kCe BK164.out 0).trans rfl, (kCe BK164.out 1).trans rfl⟩ (fun hHeld => ?_)
     clear hK K
     refine norm_ (a' := ?_) ?_ ?_
     rotate_left
     ·show Act.put _ (some 22) _ = _
      simp only [Act.put, List.setIfInBounds_toArray, List.set_cons_zero, List.set_cons_succ, i64_w, i32_w]
      rfl
     refine one_ (i := 4) (N := some 23) #[true, true, true, true, true, false, false, false] rfl rfl (one_of HT_.out zq6) zq31 (fun K hK => ?_)
     refine value_ (w1 := ?_) (v := ?_) (by rfl) rfl ?_ ?_
     rotate_left 2
     ·go_simp
      constructor
      ·rfl
      ·rfl
     refine hK.out _ _ ⟨(kCe (kAl BK164.out _) 0).trans rfl, (kCe (kAl BK164.out _) 1).trans rfl⟩ (fun hHeld => ?_)
     clear hK K
     refine norm_ (a' := ?_) ?_ ?_
     rotate_left
     ·show Act.put _ (some 23) _ = _
      simp only [Act.put, List.setIfInBounds_toArray, List.set_cons_zero, List.set_cons_succ, i64_w, i32_w]
      rfl
     refine one_ (i := 5) (N := some 24) #[true, true, true, true, true, true, false, false] rfl rfl (one_of HT_.out zq6) zq31 (fun K hK => ?_)
     refine Kd.R_append_step k57 w.heap.size (by rfl) (.tmp 20) (.tmp 23) 23 57 (.agg #[(.int .i64 0), (.int .i64 0)]) 16 rfl Try.underlying23 info57 rfl zq31 zq37 u165001 x165001_1 (⟨t167, t168⟩ : S57) [.int .i64 t167, .int .i64 t168] (fun _ => True) (fun _ => False) rfl rfl ?aP (fun _ hk => hk.elim) ?aF ?aO (Below.refl _ _) ?aS ?aL ?_
     (case aP => exact k57_mkM _ _ _ (⟨t167, t168⟩ : S57))
     (case aF => exact (fun _ _ => trivial))
     (case aO => exact (by (with_reducible repeat (first | apply Kd.R_alloc | apply Kd.R_drewN | apply Kd.R_drew)); exact HO_165001.out))
     (case aS => exact (keep_size (w := w) (g := g) (row := none) zq55))
     (case aL => have := LMc15.out; omega)
     intro v171 w18 ho hb hg hat
     rw [← Ny170.out] at ho
     have n0_ := Zs.mk (blk_grown (g := gb161) (o := .cells #[.int .i64 0, .slice none 0 0] 25 (0, 0)) zq57 hg (Kd.R_ne HO_165001.out BK161.out zq31))
     have n1_ := Zs.mk (blk_grown (g := gb164) (o := .cells #[.int .i64 (wrap64 (1 + t162)), u165001] 25 (0, 0)) zq95 hg (Kd.R_ne HO_165001.out BK164.out zq31))
     have n2_ := Zs.mk (IsS90.grown (by repeat (first | (with_reducible first | exact HI0.out | apply IsS90.alloc | apply IsS90.drewN | apply IsS90.drew | apply IsS90.set_1 | refine IsS90.far ?_ NB0_161.out _ | refine IsS90.far ?_ NB0_164.out _) | exact HI0.out)) hg (IsS90.own_ne HI0.out HO_165001.out zq31))
     have n3_ := Zs.mk (below_weaken (by repeat (first | (with_reducible first | exact HB.out | apply bAl | apply bDN | apply bD1 | refine bSt ?_ (IsS90.ge HI0.out) | refine bSt ?_ GE161.out | refine bSt ?_ GE164.out) | exact HB.out)) HL.out hb)
     have n4_ := Zs.mk (KeepBut.trans zq55 (KeepBut.of_grown hg g) (Kd.R_base2 HO_165001.out))
     have n5_ := Zs.mk (ho)
     clear BK161
     clear BK164
     clear HI0
     clear HB
     clear HK
     clear HO_165001
     have BK161 := n0_
     have BK164 := n1_
     have HI0 := n2_
     have HB := n3_
     have HK := n4_
     have HO172 := n5_
     clear n0_ n1_ n2_ n3_ n4_ n5_
     clear ho hb hg hat
     obtain ⟨Ao19, co19, eo19⟩ := Kd.R_slice HO172.out
     (first | subst eo19 | (injection eo19 with f1_ f2_ f3_; have f4_ := f1_.symm; have f5_ := f3_.symm; clear f1_ f2_ f3_; subst f4_; subst f5_))
     refine hK.out _ _ ⟨(kCe BK164.out 0).trans rfl, (kCe BK164.out 1).trans rfl⟩ (fun hHeld => ?_)
     clear hK K
     refine norm_ (a' := ?_) ?_ ?_
     rotate_left
     ·show Act.put _ (some 24) _ = _
      simp only [Act.put, List.setIfInBounds_toArray, List.set_cons_zero, List.set_cons_succ, i64_w, i32_w]
      rfl
     refine pure_ (i := 6) (N := some 25) (v := ?_) (a' := ?_) #[true, true, true, true, true, true, true, false] rfl rfl (any_of HT_.out zq6) (fun _ _ _ h => h) (Or.inl ⟨by rfl, ?_⟩) ?_ ?_
     rotate_left
     ·intro w'
      go_simp
      with_reducible rfl
     rotate_left
     ·simp only [Act.put, List.setIfInBounds_toArray, List.set_cons_zero, List.set_cons_succ, i64_w, i32_w]
      rfl
     refine last_ (i := 7) (N := none) #[true, true, true, true, true, true, true, true] rfl rfl (one_of HT_.out zq6) zq31 (fun K hK => ?_)
     have hs20 : w18.cell? ⟨gb164, 1, none⟩ = some (u165001) := (kCe BK164.out 1).trans rfl
     have hfs20 := kFr BK164.out 1
     have hns20_0 := NB161_164.out
     have hms20_0 := NB164_161.out
     refine skip_ (w1 := ?_) (by rfl) rfl ?_ ?_
     rotate_left
     ·go_simp
      rfl
     refine hK.out _ _ ?_
     clear hK K
     refine done_ (done_of HT_.out zq6) ?_
     try go_wp2
     go_roundg k1
     case measure => have := HK1.out; omega
     case rel => exact ⟨(wrap64 (x4_1 - 1)), (t169), (y170), (.slice Ao19 y170.length co19), zq13, H', ⟨by have := HK1.out; omega⟩, ⟨by (with_reducible repeat (first | apply Kd.R_alloc | apply Kd.R_drewN | apply Kd.R_drew)); exact Kd.R_mono (Kd.R_far (p := ⟨gb164, 1, none⟩) (Kd.R_types HO172.out BK164.out zq31) (fun _ hk => hk.2) (.slice Ao19 y170.length co19)) (fun _ hk => trivial)⟩, ⟨by (with_reducible repeat (first | refine kDN ?_ _ | refine kDr ?_ | refine kAl ?_ _)); refine blk_far ?_ NB161_164.out _; (with_reducible repeat (first | refine kDN ?_ _ | refine kDr ?_ | refine kAl ?_ _)); exact BK161.out⟩, ⟨by (with_reducible repeat (first | refine kDN ?_ _ | refine kDr ?_ | refine kAl ?_ _)); refine blk_put (cs := #[.int .i64 (wrap64 (1 + t162)), u165001]) ?_ 1 _ rfl; (with_reducible repeat (first | refine kDN ?_ _ | refine kDr ?_ | refine kAl ?_ _)); exact BK164.out⟩, ⟨by repeat (first | (with_reducible first | exact HI0.out | apply IsS90.alloc | apply IsS90.drewN | apply IsS90.drew | apply IsS90.set_1 | refine IsS90.far ?_ NB0_161.out _ | refine IsS90.far ?_ NB0_164.out _) | exact HI0.out)⟩, ⟨by repeat (first | (with_reducible first | exact HK.out | apply KeepBut.set_ | apply keep_drewN | apply keep_drew | apply keep_alloc | refine keep_far ?_ GW161.out _ | refine keep_far ?_ GW164.out _) | exact HK.out)⟩, ⟨by repeat (first | (with_reducible first | exact HB.out | apply bAl | apply bDN | apply bD1 | refine bSt ?_ (IsS90.ge HI0.out) | refine bSt ?_ GE161.out | refine bSt ?_ GE164.out) | exact HB.out)⟩⟩
    ·rw [if_neg c15] at H
     exact absurd H zq58
   ·rw [if_neg c13] at H
    have c13b0 : decide (0 < x4_1) = false := decide_eq_false c13
    clear c13
    simp only [Option.some.injEq, Prod.mk.injEq] at H
    obtain ⟨rfl, rfl, rfl⟩ := H
    have hnb21 := NB164_161.out
    have hnc21 := NB161_164.out
    have hnb22 := NB164_0.out
    have hnc22 := NB0_164.out
    have hcz23_0 : wr.cell? ⟨gb164, 0, none⟩ = some (.int .i64 (wrap64 (1 + t162))) := (kCe BK164.out 0).trans rfl
    have hcz23_1 : wr.cell? ⟨gb164, 1, none⟩ = some (u165001) := (kCe BK164.out 1).trans rfl
    have hfz23_0 := kFr BK164.out 0
    have hfz23_1 := kFr BK164.out 1
    have hnb24 := NB161_0.out
    have hnc24 := NB0_161.out
    have hcz25_0 : wr.cell? ⟨gb161, 0, none⟩ = some (.int .i64 0) := (kCe BK161.out 0).trans rfl
    have hcz25_1 : wr.cell? ⟨gb161, 1, none⟩ = some (.slice none 0 0) := (kCe BK161.out 1).trans rfl
    have hfz25_0 := kFr BK161.out 0
    have hfz25_1 := kFr BK161.out 1
    obtain ⟨Ao26, co26, eo26⟩ := Kd.R_slice HO_165001.out
    subst eo26
    go_wp2
    refine bodyPost_ret (results_cell_row rfl _ _ gb161 25 #[.int .i64 (wrap64 (1 + t162)), .slice Ao26 x165001_1.length co26] (0, 0) _ rfl (by (with_reducible repeat (first | refine kDN ?_ _ | refine kDr ?_ | refine kAl ?_ _)); refine blk_put (cs := #[.int .i64 (wrap64 (1 + t162)), .slice none 0 0]) ?_ 1 _ rfl; (with_reducible repeat (first | refine kDN ?_ _ | refine kDr ?_ | refine kAl ?_ _)); refine blk_put (cs := #[.int .i64 0, .slice none 0 0]) ?_ 0 _ rfl; (with_reducible repeat (first | refine kDN ?_ _ | refine kDr ?_ | refine kAl ?_ _)); exact BK161.out) Try.underlying25 rfl zq6) rfl ?_
    exact ⟨_, by first | rfl | (simp [errW_none, errW_some] <;> rfl) | (simp [*, errW_none, errW_some] <;> rfl), by (with_reducible repeat (first | apply Kd.R_alloc | apply Kd.R_drewN | apply Kd.R_drew)); exact Kd.R_mono (Kd.R_far (p := ⟨gb161, 1, none⟩) (Kd.R_far (p := ⟨gb161, 0, none⟩) (Kd.R_types HO_165001.out BK161.out zq31) (fun _ hk => hk.2) (.int .i64 (wrap64 (1 + t162)))) (fun _ hk => hk.2) (.slice Ao26 x165001_1.length co26)) (fun _ hk => trivial), by repeat (first | (with_reducible first | exact HI0.out | apply IsS90.alloc | apply IsS90.drewN | apply IsS90.drew | apply IsS90.set_1 | refine IsS90.far ?_ NB0_161.out _ | refine IsS90.far ?_ NB0_164.out _) | exact HI0.out), by repeat (first | (with_reducible first | exact HB.out | apply bAl | apply bDN | apply bD1 | refine bSt ?_ (IsS90.ge HI0.out) | refine bSt ?_ GE161.out | refine bSt ?_ GE164.out) | exact HB.out), by repeat (first | (with_reducible first | exact HK.out | apply KeepBut.set_ | apply keep_drewN | apply keep_drew | apply keep_alloc | refine keep_far ?_ GW161.out _ | refine keep_far ?_ GW164.out _) | exact HK.out)⟩

end Go.Proofs.Ytejgohgmmndgbaa.PFnTrailTurn
--slim
