-- Written by a program of this session: the kit's print, with functions among it that were proved by hand.
import Derived.Test.YtejgohgmmndgbaaPFnTrailTurnx0
import Derived.Test.YtejgohgmmndgbaaPFnTrailTurnx1
import Derived.Test.YtejgohgmmndgbaaPFnTrailTurnx3
namespace Go.Proofs.Ytejgohgmmndgbaa.PFnTrailTurn
open Go.RowKit Go.Proofs.YtejgohgmmndgbaaW.PrintWords Go.Proofs.YtejgohgmmndgbaaW.PrintLast Go.Proofs.YtejgohgmmndgbaaW.PrintMore
attribute [local go_sem] max2_int min2_int max_two min_two max_three min_three max_four min_four   -- for this text's walks alone
set_option linter.unusedVariables false
set_option linter.unusedSimpArgs false

/-! ### spec_l2Next: function 119 -/
def spec_l2Next.f (a0_0 : Int) (l0_1 : List (S57)) (a1 : Int) (a2 : Int) : Option (Int × Int × Bool) := if a0_0 = 0 then (none) else ((some (([(-1), 0, 1, 0] : List Int) : List Int)).bind fun y121 => (if 0 ≤ a2 then (if a2 < (y121.length : Int) then ((some (([0, 1, 0, (-1)] : List Int) : List Int)).bind fun y125 => (if a2 < (y125.length : Int) then ((spec_l1High.f a0_0 l0_1).bind fun t129 => ((spec_l6In.f (wrap64 ((wrap64 (Int.tdiv a1 a0_0)) + (rd y121 a2))) 0 (wrap64 (t129 - 1))).bind fun t130 => (if t130 = true then ((spec_l6In.f (wrap64 ((Int.tmod a1 a0_0) + (rd y125 a2))) 0 (wrap64 (a0_0 - 1))).bind fun t131 => (if t131 = true then (some (wrap64 ((wrap64 ((wrap64 ((wrap64 (Int.tdiv a1 a0_0)) + (rd y121 a2))) * a0_0)) + (wrap64 ((Int.tmod a1 a0_0) + (rd y125 a2)))), a2, true)) else (some (0, 0, false)))) else (some (0, 0, false))))) else (none))) else (none)) else (none)))
def spec_l2Next.T1 : Bool × List (List Nat × List Nat) := (true, [([], []), ([], []), ([1], [1]), ([0, 2], [0, 2]), ([], []), ([], []), ([4, 5], [4, 5]), ([6], [6]), ([3, 7], [3, 7]), ([8, 0, 1, 2, 3, 4, 5, 6, 7, 8], [8])])
def spec_l2Next.B1 : List Nat := [0, 0, 2, 7, 0, 0, 48, 112, 255, 511]
theorem spec_l2Next.tab1 : rtab .any (opsOf Try.f119 1) = spec_l2Next.T1 := by kernel_rfl
theorem spec_l2Next.bits1 : waitsOk spec_l2Next.T1.2 spec_l2Next.B1 = true := by kernel_rfl
def spec_l2Next.T2 : Bool × List (List Nat × List Nat) := (true, [([], []), ([], []), ([1], [1]), ([0, 2], [0, 2]), ([], []), ([], []), ([4, 5], [4, 5]), ([6], [6]), ([3, 7], [3, 7]), ([8, 0, 1, 2, 3, 4, 5, 6, 7, 8], [8])])
def spec_l2Next.B2 : List Nat := [0, 0, 2, 7, 0, 0, 48, 112, 255, 511]
theorem spec_l2Next.tab2 : rtab .any (opsOf Try.f119 2) = spec_l2Next.T2 := by kernel_rfl
theorem spec_l2Next.bits2 : waitsOk spec_l2Next.T2.2 spec_l2Next.B2 = true := by kernel_rfl
set_option maxHeartbeats 8000000 in
set_option maxRecDepth 100000 in
theorem spec_l2Next.calls (a0_0 : Int) (A0_1 : Option Addr) (c0_1 : Nat) (l0_1 : List (S57)) (a1 : Int) (a2 : Int) (r1 : Int) (r2 : Int) (r3 : Bool) (w : World) (hr0_1 : Kd.C k57 w A0_1 l0_1.length l0_1) (hc0_1 : l0_1.length ≤ c0_1) (h : spec_l2Next.f a0_0 l0_1 a1 a2 = some (r1, r2, r3)) :
  Calls Try.prog 119 #[.agg #[.int .i64 a0_0, .slice A0_1 l0_1.length c0_1], .int .i64 a1, .int .i64 a2] w fun e w' => e = .returned (.tuple #[.agg #[.int .i64 r1, .int .i64 r2], .bool r3]) ∧ Below w.heap.size w w' := by
 have hu25 := Try.underlying25
 have hu92 := Try.underlying92
 have HR0_1 := Zs.mk hr0_1
 have HC0_1 := Zs.mk hc0_1
 clear hr0_1 hc0_1
 have HB := Zs.mk (Below.refl w.heap.size w)
 have H : (if a0_0 = 0 then (none) else ((some (([(-1), 0, 1, 0] : List Int) : List Int)).bind fun y121 => (if 0 ≤ a2 then (if a2 < (y121.length : Int) then ((some (([0, 1, 0, (-1)] : List Int) : List Int)).bind fun y125 => (if a2 < (y125.length : Int) then ((spec_l1High.f a0_0 l0_1).bind fun t129 => ((spec_l6In.f (wrap64 ((wrap64 (Int.tdiv a1 a0_0)) + (rd y121 a2))) 0 (wrap64 (t129 - 1))).bind fun t130 => (if t130 = true then ((spec_l6In.f (wrap64 ((Int.tmod a1 a0_0) + (rd y125 a2))) 0 (wrap64 (a0_0 - 1))).bind fun t131 => (if t131 = true then (some (wrap64 ((wrap64 ((wrap64 ((wrap64 (Int.tdiv a1 a0_0)) + (rd y121 a2))) * a0_0)) + (wrap64 ((Int.tmod a1 a0_0) + (rd y125 a2)))), a2, true)) else (some (0, 0, false)))) else (some (0, 0, false))))) else (none))) else (none)) else (none)))) = some (r1, r2, r3) := h
 clear h
 by_cases c4 : a0_0 = 0
 ·rw [if_pos c4] at H
  exact absurd H zq58
 ·rw [if_neg c4] at H
  have c4b0 : (a0_0 == 0) = false := beq_eq_false_iff_ne.mpr c4
  have c4b1 : (a0_0 != 0) = true := bne_iff_ne.mpr c4
  obtain ⟨y121, hy121⟩ : ∃ y_ : List Int, y_ = (([(-1), 0, 1, 0] : List Int)) := ⟨_, rfl⟩
  replace H : (if 0 ≤ a2 then (if a2 < (y121.length : Int) then ((some (([0, 1, 0, (-1)] : List Int) : List Int)).bind fun y125 => (if a2 < (y125.length : Int) then ((spec_l1High.f a0_0 l0_1).bind fun t129 => ((spec_l6In.f (wrap64 ((wrap64 (Int.tdiv a1 a0_0)) + (rd y121 a2))) 0 (wrap64 (t129 - 1))).bind fun t130 => (if t130 = true then ((spec_l6In.f (wrap64 ((Int.tmod a1 a0_0) + (rd y125 a2))) 0 (wrap64 (a0_0 - 1))).bind fun t131 => (if t131 = true then (some (wrap64 ((wrap64 ((wrap64 ((wrap64 (Int.tdiv a1 a0_0)) + (rd y121 a2))) * a0_0)) + (wrap64 ((Int.tmod a1 a0_0) + (rd y125 a2)))), a2, true)) else (some (0, 0, false)))) else (some (0, 0, false))))) else (none))) else (none)) else (none)) = some (r1, r2, r3) := by first | (rw [hy121]; with_reducible exact H) | (have H2_ := (Option.bind_some _ _).symm.trans H; rw [hy121]; with_reducible exact H2_) | (have H2_ := (Option.bind_some _ _).symm.trans H; with_reducible exact H2_) | with_reducible exact H | (rw [hy121]; exact H) | exact H
  have Ny121 := Zs.mk hy121
  clear hy121
  by_cases c5 : 0 ≤ a2
  ·rw [if_pos c5] at H
   have c5b0 : decide (0 ≤ a2) = true := decide_eq_true c5
   clear c5
   by_cases c6 : a2 < (y121.length : Int)
   ·rw [if_pos c6] at H
    have c6b0 : decide (a2 < (y121.length : Int)) = true := decide_eq_true c6
    clear c6
    obtain ⟨y125, hy125⟩ : ∃ y_ : List Int, y_ = (([0, 1, 0, (-1)] : List Int)) := ⟨_, rfl⟩
    replace H : (if a2 < (y125.length : Int) then ((spec_l1High.f a0_0 l0_1).bind fun t129 => ((spec_l6In.f (wrap64 ((wrap64 (Int.tdiv a1 a0_0)) + (rd y121 a2))) 0 (wrap64 (t129 - 1))).bind fun t130 => (if t130 = true then ((spec_l6In.f (wrap64 ((Int.tmod a1 a0_0) + (rd y125 a2))) 0 (wrap64 (a0_0 - 1))).bind fun t131 => (if t131 = true then (some (wrap64 ((wrap64 ((wrap64 ((wrap64 (Int.tdiv a1 a0_0)) + (rd y121 a2))) * a0_0)) + (wrap64 ((Int.tmod a1 a0_0) + (rd y125 a2)))), a2, true)) else (some (0, 0, false)))) else (some (0, 0, false))))) else (none)) = some (r1, r2, r3) := by first | (rw [hy125]; with_reducible exact H) | (have H2_ := (Option.bind_some _ _).symm.trans H; rw [hy125]; with_reducible exact H2_) | (have H2_ := (Option.bind_some _ _).symm.trans H; with_reducible exact H2_) | with_reducible exact H | (rw [hy125]; exact H) | exact H
    have Ny125 := Zs.mk hy125
    clear hy125
    by_cases c7 : a2 < (y125.length : Int)
    ·rw [if_pos c7] at H
     have c7b0 : decide (a2 < (y125.length : Int)) = true := decide_eq_true c7
     clear c7
     replace H := Option.bind_eq_some_iff.mp H
     obtain ⟨t129, A80, H⟩ := H
     replace H : ((spec_l6In.f (wrap64 ((wrap64 (Int.tdiv a1 a0_0)) + (rd y121 a2))) 0 (wrap64 (t129 - 1))).bind fun t130 => (if t130 = true then ((spec_l6In.f (wrap64 ((Int.tmod a1 a0_0) + (rd y125 a2))) 0 (wrap64 (a0_0 - 1))).bind fun t131 => (if t131 = true then (some (wrap64 ((wrap64 ((wrap64 ((wrap64 (Int.tdiv a1 a0_0)) + (rd y121 a2))) * a0_0)) + (wrap64 ((Int.tmod a1 a0_0) + (rd y125 a2)))), a2, true)) else (some (0, 0, false)))) else (some (0, 0, false)))) = some (r1, r2, r3) := H
     have A8 := Zs.mk A80
     clear A80
     replace H := Option.bind_eq_some_iff.mp H
     obtain ⟨t130, A90, H⟩ := H
     replace H : (if t130 = true then ((spec_l6In.f (wrap64 ((Int.tmod a1 a0_0) + (rd y125 a2))) 0 (wrap64 (a0_0 - 1))).bind fun t131 => (if t131 = true then (some (wrap64 ((wrap64 ((wrap64 ((wrap64 (Int.tdiv a1 a0_0)) + (rd y121 a2))) * a0_0)) + (wrap64 ((Int.tmod a1 a0_0) + (rd y125 a2)))), a2, true)) else (some (0, 0, false)))) else (some (0, 0, false))) = some (r1, r2, r3) := H
     have A9 := Zs.mk A90
     clear A90
     by_cases c10 : t130 = true
     ·subst c10
      have H1 : ((spec_l6In.f (wrap64 ((Int.tmod a1 a0_0) + (rd y125 a2))) 0 (wrap64 (a0_0 - 1))).bind fun t131 => (if t131 = true then (some (wrap64 ((wrap64 ((wrap64 ((wrap64 (Int.tdiv a1 a0_0)) + (rd y121 a2))) * a0_0)) + (wrap64 ((Int.tmod a1 a0_0) + (rd y125 a2)))), a2, true)) else (some (0, 0, false)))) = some (r1, r2, r3) := by rw [if_pos rfl] at H; exact H
      clear H
      have H := H1
      clear H1
      replace H := Option.bind_eq_some_iff.mp H
      obtain ⟨t131, A110, H⟩ := H
      replace H : (if t131 = true then (some (wrap64 ((wrap64 ((wrap64 ((wrap64 (Int.tdiv a1 a0_0)) + (rd y121 a2))) * a0_0)) + (wrap64 ((Int.tmod a1 a0_0) + (rd y125 a2)))), a2, true)) else (some (0, 0, false))) = some (r1, r2, r3) := H
      have A11 := Zs.mk A110
      clear A110
      by_cases c12 : t131 = true
      ·subst c12
       have H1 : (some (wrap64 ((wrap64 ((wrap64 ((wrap64 (Int.tdiv a1 a0_0)) + (rd y121 a2))) * a0_0)) + (wrap64 ((Int.tmod a1 a0_0) + (rd y125 a2)))), a2, true)) = some (r1, r2, r3) := by rw [if_pos rfl] at H; exact H
       clear H
       have H := H1
       clear H1
       simp only [Option.some.injEq, Prod.mk.injEq] at H
       obtain ⟨rfl, rfl, rfl⟩ := H
       go_enter Try.func119, Try.ntmps119
       try go_wp2_with (first | ((with_reducible refine gate_dst (N := 3) rfl ?_); refine box_event ?hg (N := 3) ?hd (cs := #[.int .i64 a0_0, .slice A0_1 l0_1.length c0_1]) (t := 25) ?hr ?_; (case hd => rfl); (case hg => rfl); (case hr => first | (go_simp; done) | (go_simp; rfl)); intro gb119 hg w13 hbox hb; have n0_ := Zs.mk (bSp zq2 hb); have n1_ := Zs.mk (hbox); have n2_ := Zs.mk ((by rw [hg]; exact (bSz zq2) : w.heap.size ≤ gb119)); have n3_ := Zs.mk ((by rw [hg]; exact (bSz zq2) : w.heap.size ≤ gb119)); clear HB; have HB := n0_; have BK119 := n1_; have GW119 := n2_; have GE119 := n3_; clear n0_ n1_ n2_ n3_; clear hb hbox hg) | ((with_reducible refine gate_dst (N := 6) rfl ?_); refine box_event ?hg (N := 6) ?hd (cs := #[.int .i64 0, .int .i64 0]) (t := 92) ?hr ?_; (case hd => rfl); (case hg => rfl); (case hr => first | (go_simp; done) | (go_simp; rfl)); intro gb120 hg w14 hbox hb; have n0_ := Zs.mk (kBe (g := gb119) (o := .cells #[.int .i64 a0_0, .slice A0_1 l0_1.length c0_1] 25 (0, 0)) zq15 hb); have n1_ := Zs.mk (bSp zq38 hb); have n2_ := Zs.mk (hbox); have n3_ := Zs.mk ((by rw [hg]; exact (bSz zq38) : w.heap.size ≤ gb120)); have n4_ := Zs.mk ((by rw [hg]; exact (bSz zq38) : w.heap.size ≤ gb120)); have n5_ := Zs.mk ((by rw [hg]; exact Nat.ne_of_lt (blk_lt (g := gb119) (o := .cells #[.int .i64 a0_0, .slice A0_1 l0_1.length c0_1] 25 (0, 0)) zq15) : gb119 ≠ gb120)); have n6_ := Zs.mk ((by rw [hg]; exact Nat.ne_of_gt (blk_lt (g := gb119) (o := .cells #[.int .i64 a0_0, .slice A0_1 l0_1.length c0_1] 25 (0, 0)) zq15) : gb120 ≠ gb119)); clear BK119; clear HB; have BK119 := n0_; have HB := n1_; have BK120 := n2_; have GW120 := n3_; have GE120 := n4_; have NB119_120 := n5_; have NB120_119 := n6_; clear n0_ n1_ n2_ n3_ n4_ n5_ n6_; clear hb hbox hg))
       have pi124 : (0 ≤ (a2 : Int)) = True := eq_true (of_decide_eq_true zq8)
       have qi124 : (a2 < (y121.length : Int)) = True := eq_true (of_decide_eq_true zq8)
       have n0_ := Zs.mk (kDr BK119.out)
       have n1_ := Zs.mk (kDr BK120.out)
       have n2_ := Zs.mk (bD1 HB.out)
       clear BK119
       clear BK120
       clear HB
       have BK119 := n0_
       have BK120 := n1_
       have HB := n2_
       clear n0_ n1_ n2_
       refine start_ (n := 10) (S := fun w' => w'.cell? ⟨gb119, 0, none⟩ = some (.int .i64 a0_0) ∧ w'.cell? ⟨gb119, 1, none⟩ = some (.slice A0_1 l0_1.length c0_1)) (ds := []) #[false, false, false, false, false, false, false, false, false, false] zq6 rfl rfl ⟨(kCe BK119.out 0).trans rfl, (kCe BK119.out 1).trans rfl⟩ (fun hHeld => ?_); refine with_tabW spec_l2Next.tab1 spec_l2Next.bits1 (fun HT_ HW_ => ?_)
       generalize w14.drew = w15 at BK119 BK120 HB hHeld ⊢
       refine pure_ (i := 0) (N := some 10) (v := ?_) (a' := ?_) #[true, false, false, false, false, false, false, false, false, false] rfl rfl (any_of HT_.out zq6) (fun _ _ _ h => h) (Or.inl ⟨by rfl, ?_⟩) ?_ ?_
       rotate_left
       ·intro w'
        go_simp
        with_reducible rfl
       rotate_left
       ·simp only [Act.put, List.setIfInBounds_toArray, List.set_cons_zero, List.set_cons_succ, i64_w, i32_w]
        rfl
       refine pure_ (i := 1) (N := some 11) (v := ?_) (a' := ?_) #[true, true, false, false, false, false, false, false, false, false] rfl rfl (any_of HT_.out zq6) (fun _ _ _ h => h) (Or.inl ⟨by rfl, ?_⟩) ?_ ?_
       rotate_left
       ·intro w'
        go_simp
        with_reducible rfl
       rotate_left
       ·simp only [Act.put, List.setIfInBounds_toArray, List.set_cons_zero, List.set_cons_succ, i64_w, i32_w]
        rfl
       refine pure_ (i := 5) (N := some 15) (v := ?_) (a' := ?_) #[true, true, false, false, false, true, false, false, false, false] rfl rfl (any_of HT_.out zq6) (fun _ _ _ h => h) (Or.inl ⟨by rfl, ?_⟩) ?_ ?_
       rotate_left
       ·intro w'
        go_simp
        with_reducible rfl
       rotate_left
       ·simp only [Act.put, List.setIfInBounds_toArray, List.set_cons_zero, List.set_cons_succ, i64_w, i32_w]
        rfl
       refine take_ (i := 2) (N := some 12) (v := ?_) (a' := ?_) #[true, true, true, false, false, true, false, false, false, false] rfl rfl (take_ofW HT_.out HW_.out zq6) (fun _ _ _ h => h) (Or.inl ⟨by rfl, ?_⟩) hHeld ?_ ?_
       rotate_left
       ·rintro w' ⟨s0, s1⟩
        go_simp
        with_reducible rfl
       rotate_left
       ·simp only [Act.put, List.setIfInBounds_toArray, List.set_cons_zero, List.set_cons_succ, i64_w, i32_w]
        rfl
       refine pure_ (i := 3) (N := some 13) (v := ?_) (a' := ?_) #[true, true, true, true, false, true, false, false, false, false] rfl rfl (any_of HT_.out zq6) (fun _ _ _ h => h) (Or.inl ⟨by rfl, ?_⟩) ?_ ?_
       rotate_left
       ·intro w'
        go_simp
        with_reducible rfl
       rotate_left
       ·simp only [Act.put, List.setIfInBounds_toArray, List.set_cons_zero, List.set_cons_succ, i64_w, i32_w]
        rfl
       refine one_ (i := 4) (N := some 14) #[true, true, true, true, true, true, false, false, false, false] rfl rfl (one_of HT_.out zq6) zq31 (fun K hK => ?_)
       refine Kd.R_lit_step (Kd.int .i64) _ 3 ?hg (N := 14) ?hd (xs := ([(-1), 0, 1, 0] : List Int)) (inner := [.int .i64 (-1), .int .i64 0, .int .i64 1, .int .i64 0]) (ok := fun _ => True) (okp := fun _ => True) ?hr ?hp (fun _ hk => hk) trivial (Below.refl _ _) (Nat.le_refl _) zq58 ?_; (case hd => rfl); (case hg => rfl); (case hr => first | (go_simp; done) | (go_simp; rfl)); (case hp => exact (Reps.one (show Kd.M (Kd.int .i64) _ _ _ (-1) [.int .i64 (-1)] from rfl) (Reps.one (show Kd.M (Kd.int .i64) _ _ _ 0 [.int .i64 0] from rfl) (Reps.one (show Kd.M (Kd.int .i64) _ _ _ 1 [.int .i64 1] from rfl) (Reps.one (show Kd.M (Kd.int .i64) _ _ _ 0 [.int .i64 0] from rfl) (Reps.none _ _))))))
       intro v122 w16 ho17 hb hg_ hnew_
       clear hg_ hnew_
       (first | rw [← Ny121.out] at ho17 | (simp only [Int.reduceToNat] at ho17; rw [← Ny121.out] at ho17))
       have n0_ := Zs.mk (Kd.R_lower ho17 (bSz zq11))
       have n1_ := Zs.mk (kBe (g := gb119) (o := .cells #[.int .i64 a0_0, .slice A0_1 l0_1.length c0_1] 25 (0, 0)) zq15 hb)
       have n2_ := Zs.mk (kBe (g := gb120) (o := .cells #[.int .i64 0, .int .i64 0] 92 (0, 0)) zq30 hb)
       have n3_ := Zs.mk (bSp zq11 hb)
       clear BK119
       clear BK120
       clear HB
       have HO123 := n0_
       have BK119 := n1_
       have BK120 := n2_
       have HB := n3_
       clear n0_ n1_ n2_ n3_
       clear hb ho17
       obtain ⟨Ao18, co18, eo18⟩ := Kd.R_slice HO123.out
       subst eo18
       obtain ⟨ado18, fo18, _⟩ := Kd.at_int (Kd.R_reads' HO123.out).2.2 0 zq31 (by rw [Ny121.out]; simp)
       cases fo18
       refine hK.out _ _ ⟨(kCe BK119.out 0).trans rfl, (kCe BK119.out 1).trans rfl⟩ (fun hHeld => ?_)
       clear hK K
       refine norm_ (a' := ?_) ?_ ?_
       rotate_left
       ·show Act.put _ (some 14) _ = _
        simp only [Act.put, List.setIfInBounds_toArray, List.set_cons_zero, List.set_cons_succ, i64_w, i32_w]
        rfl
       refine pure_ (i := 6) (N := some 16) (v := ?_) (a' := ?_) #[true, true, true, true, true, true, true, false, false, false] rfl rfl (any_of HT_.out zq6) (fun _ _ _ h => h) (Or.inl ⟨by rfl, ?_⟩) ?_ ?_
       rotate_left
       ·intro w'
        go_simp
        with_reducible rfl
       rotate_left
       ·simp only [Act.put, List.setIfInBounds_toArray, List.set_cons_zero, List.set_cons_succ, i64_w, i32_w]
        rfl
       refine one_ (i := 7) (N := some 17) #[true, true, true, true, true, true, true, true, false, false] rfl rfl (one_of HT_.out zq6) zq31 (fun K hK => ?_)
       (have p124 : 0 ≤ (a2 : Int) := of_decide_eq_true zq8; have q124 : a2 < (y121.length : Int) := of_decide_eq_true zq8; obtain ⟨ad124, e124, hx124_0⟩ := Kd.at_int (Kd.R_reads' HO123.out).2.2 a2 p124 q124; obtain rfl : ado18 = ad124 := (by injection e124))
       refine value_ (w1 := ?_) (v := ?_) (by rfl) rfl ?_ ?_
       rotate_left 2
       ·go_simp
        constructor
        ·rfl
        ·rfl
       clear hx124_0
       refine hK.out _ _ ⟨(kCe BK119.out 0).trans rfl, (kCe BK119.out 1).trans rfl⟩ (fun hHeld => ?_)
       clear hK K
       refine norm_ (a' := ?_) ?_ ?_
       rotate_left
       ·show Act.put _ (some 17) _ = _
        simp only [Act.put, List.setIfInBounds_toArray, List.set_cons_zero, List.set_cons_succ, i64_w, i32_w]
        rfl
       refine pure_ (i := 8) (N := some 18) (v := ?_) (a' := ?_) #[true, true, true, true, true, true, true, true, true, false] rfl rfl (any_of HT_.out zq6) (fun _ _ _ h => h) (Or.inl ⟨by rfl, ?_⟩) ?_ ?_
       rotate_left
       ·intro w'
        go_simp
        with_reducible rfl
       rotate_left
       ·simp only [Act.put, List.setIfInBounds_toArray, List.set_cons_zero, List.set_cons_succ, i64_w, i32_w]
        rfl
       refine pure_ (i := 9) (N := some 8) (v := ?_) (a' := ?_) #[true, true, true, true, true, true, true, true, true, true] rfl rfl (any_of HT_.out zq6) (fun _ _ _ h => h) (Or.inl ⟨by rfl, ?_⟩) ?_ ?_
       rotate_left
       ·intro w'
        go_simp
        with_reducible rfl
       rotate_left
       ·simp only [Act.put, List.setIfInBounds_toArray, List.set_cons_zero, List.set_cons_succ, i64_w, i32_w]
        rfl
       refine done_ (done_of HT_.out zq6) ?_
       try go_wp2
       have pi128 : (0 ≤ (a2 : Int)) = True := eq_true (of_decide_eq_true zq8)
       have qi128 : (a2 < (y125.length : Int)) = True := eq_true (of_decide_eq_true zq8)
       have n0_ := Zs.mk (Kd.R_drew HO123.out)
       have n1_ := Zs.mk (kDr BK119.out)
       have n2_ := Zs.mk (kDr BK120.out)
       have n3_ := Zs.mk (bD1 HB.out)
       clear HO123
       clear BK119
       clear BK120
       clear HB
       have HO123 := n0_
       have BK119 := n1_
       have BK120 := n2_
       have HB := n3_
       clear n0_ n1_ n2_ n3_
       refine start_ (n := 10) (S := fun w' => w'.cell? ⟨gb119, 0, none⟩ = some (.int .i64 a0_0) ∧ w'.cell? ⟨gb119, 1, none⟩ = some (.slice A0_1 l0_1.length c0_1)) (ds := []) #[false, false, false, false, false, false, false, false, false, false] zq6 rfl rfl ⟨(kCe BK119.out 0).trans rfl, (kCe BK119.out 1).trans rfl⟩ (fun hHeld => ?_); refine with_tabW spec_l2Next.tab2 spec_l2Next.bits2 (fun HT_ HW_ => ?_)
       generalize w16.drew = w19 at HO123 BK119 BK120 HB hHeld ⊢
       refine pure_ (i := 0) (N := some 19) (v := ?_) (a' := ?_) #[true, false, false, false, false, false, false, false, false, false] rfl rfl (any_of HT_.out zq6) (fun _ _ _ h => h) (Or.inl ⟨by rfl, ?_⟩) ?_ ?_
       rotate_left
       ·intro w'
        go_simp
        with_reducible rfl
       rotate_left
       ·simp only [Act.put, List.setIfInBounds_toArray, List.set_cons_zero, List.set_cons_succ, i64_w, i32_w]
        rfl
       refine pure_ (i := 1) (N := some 20) (v := ?_) (a' := ?_) #[true, true, false, false, false, false, false, false, false, false] rfl rfl (any_of HT_.out zq6) (fun _ _ _ h => h) (Or.inl ⟨by rfl, ?_⟩) ?_ ?_
       rotate_left
       ·intro w'
        go_simp
        with_reducible rfl
       rotate_left
       ·simp only [Act.put, List.setIfInBounds_toArray, List.set_cons_zero, List.set_cons_succ, i64_w, i32_w]
        rfl
       refine pure_ (i := 5) (N := some 24) (v := ?_) (a' := ?_) #[true, true, false, false, false, true, false, false, false, false] rfl rfl (any_of HT_.out zq6) (fun _ _ _ h => h) (Or.inl ⟨by rfl, ?_⟩) ?_ ?_
       rotate_left
       ·intro w'
        go_simp
        with_reducible rfl
       rotate_left
       ·simp only [Act.put, List.setIfInBounds_toArray, List.set_cons_zero, List.set_cons_succ, i64_w, i32_w]
        rfl
       refine take_ (i := 2) (N := some 21) (v := ?_) (a' := ?_) #[true, true, true, false, false, true, false, false, false, false] rfl rfl (take_ofW HT_.out HW_.out zq6) (fun _ _ _ h => h) (Or.inl ⟨by rfl, ?_⟩) hHeld ?_ ?_
       rotate_left
       ·rintro w' ⟨s0, s1⟩
        go_simp
        with_reducible rfl
       rotate_left
       ·simp only [Act.put, List.setIfInBounds_toArray, List.set_cons_zero, List.set_cons_succ, i64_w, i32_w]
        rfl
       refine pure_ (i := 3) (N := some 22) (v := ?_) (a' := ?_) #[true, true, true, true, false, true, false, false, false, false] rfl rfl (any_of HT_.out zq6) (fun _ _ _ h => h) (Or.inl ⟨by rfl, ?_⟩) ?_ ?_
       rotate_left
       ·intro w'
        go_simp
        with_reducible rfl
       rotate_left
       ·simp only [Act.put, List.setIfInBounds_toArray, List.set_cons_zero, List.set_cons_succ, i64_w, i32_w]
        rfl
       refine one_ (i := 4) (N := some 23) #[true, true, true, true, true, true, false, false, false, false] rfl rfl (one_of HT_.out zq6) zq31 (fun K hK => ?_)
       refine Kd.R_lit_step (Kd.int .i64) _ 3 ?hg (N := 23) ?hd (xs := ([0, 1, 0, (-1)] : List Int)) (inner := [.int .i64 0, .int .i64 1, .int .i64 0, .int .i64 (-1)]) (ok := fun _ => True) (okp := fun _ => True) ?hr ?hp (fun _ hk => hk) trivial (Below.refl _ _) (Nat.le_refl _) zq58 ?_; (case hd => rfl); (case hg => rfl); (case hr => first | (go_simp; done) | (go_simp; rfl)); (case hp => exact (Reps.one (show Kd.M (Kd.int .i64) _ _ _ 0 [.int .i64 0] from rfl) (Reps.one (show Kd.M (Kd.int .i64) _ _ _ 1 [.int .i64 1] from rfl) (Reps.one (show Kd.M (Kd.int .i64) _ _ _ 0 [.int .i64 0] from rfl) (Reps.one (show Kd.M (Kd.int .i64) _ _ _ (-1) [.int .i64 (-1)] from rfl) (Reps.none _ _))))))
       intro v126 w20 ho21 hb hg_ hnew_
       clear hg_ hnew_
       (first | rw [← Ny125.out] at ho21 | (simp only [Int.reduceToNat] at ho21; rw [← Ny125.out] at ho21))
       have n0_ := Zs.mk (Kd.R_elder' zq47 (Kd.R_base ho21) hb)
       have n1_ := Zs.mk (Kd.R_lower (Kd.R_new' ho21 (Kd.R_lt zq47)) (bSz zq11))
       have n2_ := Zs.mk (kBe (g := gb119) (o := .cells #[.int .i64 a0_0, .slice A0_1 l0_1.length c0_1] 25 (0, 0)) zq15 hb)
       have n3_ := Zs.mk (kBe (g := gb120) (o := .cells #[.int .i64 0, .int .i64 0] 92 (0, 0)) zq30 hb)
       have n4_ := Zs.mk (bSp zq11 hb)
       clear HO123
       clear BK119
       clear BK120
       clear HB
       have HO123 := n0_
       have HO127 := n1_
       have BK119 := n2_
       have BK120 := n3_
       have HB := n4_
       clear n0_ n1_ n2_ n3_ n4_
       clear hb ho21
       obtain ⟨Ao22, co22, eo22⟩ := Kd.R_slice HO127.out
       subst eo22
       obtain ⟨ado22, fo22, _⟩ := Kd.at_int (Kd.R_reads' HO127.out).2.2 0 zq31 (by rw [Ny125.out]; simp)
       cases fo22
       refine hK.out _ _ ⟨(kCe BK119.out 0).trans rfl, (kCe BK119.out 1).trans rfl⟩ (fun hHeld => ?_)
       clear hK K
       refine norm_ (a' := ?_) ?_ ?_
       rotate_left
       ·show Act.put _ (some 23) _ = _
        simp only [Act.put, List.setIfInBounds_toArray, List.set_cons_zero, List.set_cons_succ, i64_w, i32_w]
        rfl
       refine pure_ (i := 6) (N := some 25) (v := ?_) (a' := ?_) #[true, true, true, true, true, true, true, false, false, false] rfl rfl (any_of HT_.out zq6) (fun _ _ _ h => h) (Or.inl ⟨by rfl, ?_⟩) ?_ ?_
       rotate_left
       ·intro w'
        go_simp
        with_reducible rfl
       rotate_left
       ·simp only [Act.put, List.setIfInBounds_toArray, List.set_cons_zero, List.set_cons_succ, i64_w, i32_w]
        rfl
       refine one_ (i := 7) (N := some 26) #[true, true, true, true, true, true, true, true, false, false] rfl rfl (one_of HT_.out zq6) zq31 (fun K hK => ?_)
       (have p128 : 0 ≤ (a2 : Int) := of_decide_eq_true zq8; have q128 : a2 < (y125.length : Int) := of_decide_eq_true zq8; obtain ⟨ad128, e128, hx128_0⟩ := Kd.at_int (Kd.R_reads' HO127.out).2.2 a2 p128 q128; obtain rfl : ado22 = ad128 := (by injection e128))
       refine value_ (w1 := ?_) (v := ?_) (by rfl) rfl ?_ ?_
       rotate_left 2
       ·go_simp
        constructor
        ·rfl
        ·rfl
       clear hx128_0
       refine hK.out _ _ ⟨(kCe BK119.out 0).trans rfl, (kCe BK119.out 1).trans rfl⟩ (fun hHeld => ?_)
       clear hK K
       refine norm_ (a' := ?_) ?_ ?_
       rotate_left
       ·show Act.put _ (some 26) _ = _
        simp only [Act.put, List.setIfInBounds_toArray, List.set_cons_zero, List.set_cons_succ, i64_w, i32_w]
        rfl
       refine pure_ (i := 8) (N := some 27) (v := ?_) (a' := ?_) #[true, true, true, true, true, true, true, true, true, false] rfl rfl (any_of HT_.out zq6) (fun _ _ _ h => h) (Or.inl ⟨by rfl, ?_⟩) ?_ ?_
       rotate_left
       ·intro w'
        go_simp
        with_reducible rfl
       rotate_left
       ·simp only [Act.put, List.setIfInBounds_toArray, List.set_cons_zero, List.set_cons_succ, i64_w, i32_w]
        rfl
       refine pure_ (i := 9) (N := some 9) (v := ?_) (a' := ?_) #[true, true, true, true, true, true, true, true, true, true] rfl rfl (any_of HT_.out zq6) (fun _ _ _ h => h) (Or.inl ⟨by rfl, ?_⟩) ?_ ?_
       rotate_left
       ·intro w'
        go_simp
        with_reducible rfl
       rotate_left
       ·simp only [Act.put, List.setIfInBounds_toArray, List.set_cons_zero, List.set_cons_succ, i64_w, i32_w]
        rfl
       refine done_ (done_of HT_.out zq6) ?_
       have hnb23 := NB119_120.out
       have hnc23 := NB120_119.out
       have hcz24_0 : w20.cell? ⟨gb119, 0, none⟩ = some (.int .i64 a0_0) := (kCe BK119.out 0).trans rfl
       have hcz24_1 : w20.cell? ⟨gb119, 1, none⟩ = some (.slice A0_1 l0_1.length c0_1) := (kCe BK119.out 1).trans rfl
       have hfz24_0 := kFr BK119.out 0
       have hfz24_1 := kFr BK119.out 1
       try go_wp2_with (first | ((with_reducible refine gate_callee (f := 96) rfl ?_); refine goesL_ (some 30) rfl rfl Try.func96 zq6 rfl #[.agg #[.int .i64 a0_0, .slice A0_1 l0_1.length c0_1]] rfl zq1 ?_; (with_reducible refine (spec_l1High.calls a0_0 _ _ l0_1 t129 _ ?side1 ?side2 A8.out).mono ?_); (case side1 => repeat (first | exact (Kd.C_below HR0_1.out HB.out) | (with_reducible refine Kd.C_alloc ?_ _) | (with_reducible refine Kd.C_drewN ?_ _) | (with_reducible refine Kd.C_drew ?_))); (case side2 => exact HC0_1.out); rintro e w25 ⟨rfl, hb⟩; refine ⟨_, rfl, ?_⟩; have n0_ := Zs.mk (Kd.R_below zq47 hb); have n1_ := Zs.mk (Kd.R_below zq92 hb); have n2_ := Zs.mk (kBe (g := gb119) (o := .cells #[.int .i64 a0_0, .slice A0_1 l0_1.length c0_1] 25 (0, 0)) zq15 hb); have n3_ := Zs.mk (kBe (g := gb120) (o := .cells #[.int .i64 0, .int .i64 0] 92 (0, 0)) zq30 hb); have n4_ := Zs.mk (bSp zq11 hb); clear HO123; clear HO127; clear BK119; clear BK120; clear HB; have HO123 := n0_; have HO127 := n1_; have BK119 := n2_; have BK120 := n3_; have HB := n4_; clear n0_ n1_ n2_ n3_ n4_; (try clear hb); (try clear hb2); (try clear hk); (try clear hi)) | ((with_reducible refine gate_callee (f := 65) rfl ?_); refine goesL_ (some 32) rfl rfl Try.func65 zq6 rfl #[.int .i64 (wrap64 ((wrap64 (Int.tdiv a1 a0_0)) + (rd y121 a2))), .int .i64 0, .int .i64 (wrap64 (t129 - 1))] rfl zq1 ?_; (with_reducible refine (spec_l6In.calls (wrap64 ((wrap64 (Int.tdiv a1 a0_0)) + (rd y121 a2))) 0 (wrap64 (t129 - 1)) true _ A9.out).mono ?_); rintro e w' ⟨rfl, ⟨nd, rfl⟩⟩; refine ⟨_, rfl, ?_⟩; (try (rw [drewN_self w25]; generalize hq_ : World.drewN w25 _ = w25; have n0_ : Zs (Kd.R (Kd.int .i64) 3 w25 w.heap.size (fun k_ => some k_ ≠ (.slice (some ado22) y125.length co22 : Value).ownBlock) (.slice (some ado18) y121.length co18) y121) := ⟨by rw [← hq_]; exact zq60⟩; have n1_ : Zs (Kd.R (Kd.int .i64) 3 w25 w.heap.size (fun k_ => some k_ ≠ (.slice (some ado18) y121.length co18 : Value).ownBlock) (.slice (some ado22) y125.length co22) y125) := ⟨by rw [← hq_]; exact zq61⟩; have n2_ : Zs (w25.heap[gb119]? = some (.cells #[.int .i64 a0_0, .slice A0_1 l0_1.length c0_1] 25 (0, 0))) := ⟨by rw [← hq_]; exact zq15⟩; have n3_ : Zs (w25.heap[gb120]? = some (.cells #[.int .i64 0, .int .i64 0] 92 (0, 0))) := ⟨by rw [← hq_]; exact zq30⟩; have n4_ : Zs (Below w.heap.size w w25) := ⟨by rw [← hq_]; exact zq11⟩; clear HO123 HO127 BK119 BK120 HB hq_; have HO123 := n0_; have HO127 := n1_; have BK119 := n2_; have BK120 := n3_; have HB := n4_; clear n0_ n1_ n2_ n3_ n4_)); have hcz26_0 : w25.cell? ⟨gb119, 0, none⟩ = some (.int .i64 a0_0) := (kCe BK119.out 0).trans rfl; have hcz26_1 : w25.cell? ⟨gb119, 1, none⟩ = some (.slice A0_1 l0_1.length c0_1) := (kCe BK119.out 1).trans rfl; have hfz26_0 := kFr BK119.out 0; have hfz26_1 := kFr BK119.out 1) | (go_at_call 65; (with_reducible refine (spec_l6In.calls (wrap64 ((Int.tmod a1 a0_0) + (rd y125 a2))) 0 (wrap64 (a0_0 - 1)) true _ A11.out).mono ?_); rintro e w' ⟨rfl, ⟨nd, rfl⟩⟩; (try (rw [drewN_self w25]; generalize hq_ : World.drewN w25 _ = w25; have n0_ : Zs (Kd.R (Kd.int .i64) 3 w25 w.heap.size (fun k_ => some k_ ≠ (.slice (some ado22) y125.length co22 : Value).ownBlock) (.slice (some ado18) y121.length co18) y121) := ⟨by rw [← hq_]; exact zq60⟩; have n1_ : Zs (Kd.R (Kd.int .i64) 3 w25 w.heap.size (fun k_ => some k_ ≠ (.slice (some ado18) y121.length co18 : Value).ownBlock) (.slice (some ado22) y125.length co22) y125) := ⟨by rw [← hq_]; exact zq61⟩; have n2_ : Zs (w25.heap[gb119]? = some (.cells #[.int .i64 a0_0, .slice A0_1 l0_1.length c0_1] 25 (0, 0))) := ⟨by rw [← hq_]; exact zq15⟩; have n3_ : Zs (w25.heap[gb120]? = some (.cells #[.int .i64 0, .int .i64 0] 92 (0, 0))) := ⟨by rw [← hq_]; exact zq30⟩; have n4_ : Zs (Below w.heap.size w w25) := ⟨by rw [← hq_]; exact zq11⟩; clear HO123 HO127 BK119 BK120 HB hq_; have HO123 := n0_; have HO127 := n1_; have BK119 := n2_; have BK120 := n3_; have HB := n4_; clear n0_ n1_ n2_ n3_ n4_)); have hcz27_0 : w25.cell? ⟨gb120, 0, none⟩ = some (.int .i64 0) := (kCe BK120.out 0).trans rfl; have hcz27_1 : w25.cell? ⟨gb120, 1, none⟩ = some (.int .i64 0) := (kCe BK120.out 1).trans rfl; have hfz27_0 := kFr BK120.out 0; have hfz27_1 := kFr BK120.out 1))
       refine bodyPost_ret (results_ct rfl _ _ gb120 92 #[.int .i64 (wrap64 ((wrap64 ((wrap64 ((wrap64 (Int.tdiv a1 a0_0)) + (rd y121 a2))) * a0_0)) + (wrap64 ((Int.tmod a1 a0_0) + (rd y125 a2))))), .int .i64 a2] (0, 0) _ rfl (by (with_reducible repeat (first | refine kDN ?_ _ | refine kDr ?_ | refine kAl ?_ _)); refine blk_put (cs := #[.int .i64 (wrap64 ((wrap64 ((wrap64 ((wrap64 (Int.tdiv a1 a0_0)) + (rd y121 a2))) * a0_0)) + (wrap64 ((Int.tmod a1 a0_0) + (rd y125 a2))))), .int .i64 0]) ?_ 1 _ rfl; (with_reducible repeat (first | refine kDN ?_ _ | refine kDr ?_ | refine kAl ?_ _)); refine blk_put (cs := #[.int .i64 0, .int .i64 0]) ?_ 0 _ rfl; (with_reducible repeat (first | refine kDN ?_ _ | refine kDr ?_ | refine kAl ?_ _)); exact BK120.out) Try.underlying92 rfl zq6) rfl ?_
       exact ⟨by first | rfl | (simp [errW_none, errW_some] <;> rfl) | (simp [*, errW_none, errW_some] <;> rfl), by repeat (first | (with_reducible first | exact HB.out | apply bAl | apply bDN | apply bD1 | refine bSt ?_ GE119.out | refine bSt ?_ GE120.out) | exact HB.out)⟩
      ·replace c12 := Bool.eq_false_iff.mpr c12
       subst c12
       have H1 : (some (0, 0, false)) = some (r1, r2, r3) := by rw [if_neg (show ¬ (false = true) by decide)] at H; exact H
       clear H
       have H := H1
       clear H1
       simp only [Option.some.injEq, Prod.mk.injEq] at H
       obtain ⟨rfl, rfl, rfl⟩ := H
       go_enter Try.func119, Try.ntmps119
       try go_wp2_with (first | ((with_reducible refine gate_dst (N := 3) rfl ?_); refine box_event ?hg (N := 3) ?hd (cs := #[.int .i64 a0_0, .slice A0_1 l0_1.length c0_1]) (t := 25) ?hr ?_; (case hd => rfl); (case hg => rfl); (case hr => first | (go_simp; done) | (go_simp; rfl)); intro gb119 hg w28 hbox hb; have n0_ := Zs.mk (bSp zq2 hb); have n1_ := Zs.mk (hbox); have n2_ := Zs.mk ((by rw [hg]; exact (bSz zq2) : w.heap.size ≤ gb119)); have n3_ := Zs.mk ((by rw [hg]; exact (bSz zq2) : w.heap.size ≤ gb119)); clear HB; have HB := n0_; have BK119 := n1_; have GW119 := n2_; have GE119 := n3_; clear n0_ n1_ n2_ n3_; clear hb hbox hg) | ((with_reducible refine gate_dst (N := 6) rfl ?_); refine box_event ?hg (N := 6) ?hd (cs := #[.int .i64 0, .int .i64 0]) (t := 92) ?hr ?_; (case hd => rfl); (case hg => rfl); (case hr => first | (go_simp; done) | (go_simp; rfl)); intro gb120 hg w29 hbox hb; have n0_ := Zs.mk (kBe (g := gb119) (o := .cells #[.int .i64 a0_0, .slice A0_1 l0_1.length c0_1] 25 (0, 0)) zq15 hb); have n1_ := Zs.mk (bSp zq38 hb); have n2_ := Zs.mk (hbox); have n3_ := Zs.mk ((by rw [hg]; exact (bSz zq38) : w.heap.size ≤ gb120)); have n4_ := Zs.mk ((by rw [hg]; exact (bSz zq38) : w.heap.size ≤ gb120)); have n5_ := Zs.mk ((by rw [hg]; exact Nat.ne_of_lt (blk_lt (g := gb119) (o := .cells #[.int .i64 a0_0, .slice A0_1 l0_1.length c0_1] 25 (0, 0)) zq15) : gb119 ≠ gb120)); have n6_ := Zs.mk ((by rw [hg]; exact Nat.ne_of_gt (blk_lt (g := gb119) (o := .cells #[.int .i64 a0_0, .slice A0_1 l0_1.length c0_1] 25 (0, 0)) zq15) : gb120 ≠ gb119)); clear BK119; clear HB; have BK119 := n0_; have HB := n1_; have BK120 := n2_; have GW120 := n3_; have GE120 := n4_; have NB119_120 := n5_; have NB120_119 := n6_; clear n0_ n1_ n2_ n3_ n4_ n5_ n6_; clear hb hbox hg))
       have pi124 : (0 ≤ (a2 : Int)) = True := eq_true (of_decide_eq_true zq8)
       have qi124 : (a2 < (y121.length : Int)) = True := eq_true (of_decide_eq_true zq8)
       have n0_ := Zs.mk (kDr BK119.out)
       have n1_ := Zs.mk (kDr BK120.out)
       have n2_ := Zs.mk (bD1 HB.out)
       clear BK119
       clear BK120
       clear HB
       have BK119 := n0_
       have BK120 := n1_
       have HB := n2_
       clear n0_ n1_ n2_
       refine start_ (n := 10) (S := fun w' => w'.cell? ⟨gb119, 0, none⟩ = some (.int .i64 a0_0) ∧ w'.cell? ⟨gb119, 1, none⟩ = some (.slice A0_1 l0_1.length c0_1)) (ds := []) #[false, false, false, false, false, false, false, false, false, false] zq6 rfl rfl ⟨(kCe BK119.out 0).trans rfl, (kCe BK119.out 1).trans rfl⟩ (fun hHeld => ?_); refine with_tabW spec_l2Next.tab1 spec_l2Next.bits1 (fun HT_ HW_ => ?_)
       generalize w29.drew = w30 at BK119 BK120 HB hHeld ⊢
       refine pure_ (i := 0) (N := some 10) (v := ?_) (a' := ?_) #[true, false, false, false, false, false, false, false, false, false] rfl rfl (any_of HT_.out zq6) (fun _ _ _ h => h) (Or.inl ⟨by rfl, ?_⟩) ?_ ?_
       rotate_left
       ·intro w'
        go_simp
        with_reducible rfl
       rotate_left
       ·simp only [Act.put, List.setIfInBounds_toArray, List.set_cons_zero, List.set_cons_succ, i64_w, i32_w]
        rfl
       refine pure_ (i := 1) (N := some 11) (v := ?_) (a' := ?_) #[true, true, false, false, false, false, false, false, false, false] rfl rfl (any_of HT_.out zq6) (fun _ _ _ h => h) (Or.inl ⟨by rfl, ?_⟩) ?_ ?_
       rotate_left
       ·intro w'
        go_simp
        with_reducible rfl
       rotate_left
       ·simp only [Act.put, List.setIfInBounds_toArray, List.set_cons_zero, List.set_cons_succ, i64_w, i32_w]
        rfl
       refine pure_ (i := 5) (N := some 15) (v := ?_) (a' := ?_) #[true, true, false, false, false, true, false, false, false, false] rfl rfl (any_of HT_.out zq6) (fun _ _ _ h => h) (Or.inl ⟨by rfl, ?_⟩) ?_ ?_
       rotate_left
       ·intro w'
        go_simp
        with_reducible rfl
       rotate_left
       ·simp only [Act.put, List.setIfInBounds_toArray, List.set_cons_zero, List.set_cons_succ, i64_w, i32_w]
        rfl
       refine take_ (i := 2) (N := some 12) (v := ?_) (a' := ?_) #[true, true, true, false, false, true, false, false, false, false] rfl rfl (take_ofW HT_.out HW_.out zq6) (fun _ _ _ h => h) (Or.inl ⟨by rfl, ?_⟩) hHeld ?_ ?_
       rotate_left
       ·rintro w' ⟨s0, s1⟩
        go_simp
        with_reducible rfl
       rotate_left
       ·simp only [Act.put, List.setIfInBounds_toArray, List.set_cons_zero, List.set_cons_succ, i64_w, i32_w]
        rfl
       refine pure_ (i := 3) (N := some 13) (v := ?_) (a' := ?_) #[true, true, true, true, false, true, false, false, false, false] rfl rfl (any_of HT_.out zq6) (fun _ _ _ h => h) (Or.inl ⟨by rfl, ?_⟩) ?_ ?_
       rotate_left
       ·intro w'
        go_simp
        with_reducible rfl
       rotate_left
       ·simp only [Act.put, List.setIfInBounds_toArray, List.set_cons_zero, List.set_cons_succ, i64_w, i32_w]
        rfl
       refine one_ (i := 4) (N := some 14) #[true, true, true, true, true, true, false, false, false, false] rfl rfl (one_of HT_.out zq6) zq31 (fun K hK => ?_)
       refine Kd.R_lit_step (Kd.int .i64) _ 3 ?hg (N := 14) ?hd (xs := ([(-1), 0, 1, 0] : List Int)) (inner := [.int .i64 (-1), .int .i64 0, .int .i64 1, .int .i64 0]) (ok := fun _ => True) (okp := fun _ => True) ?hr ?hp (fun _ hk => hk) trivial (Below.refl _ _) (Nat.le_refl _) zq58 ?_; (case hd => rfl); (case hg => rfl); (case hr => first | (go_simp; done) | (go_simp; rfl)); (case hp => exact (Reps.one (show Kd.M (Kd.int .i64) _ _ _ (-1) [.int .i64 (-1)] from rfl) (Reps.one (show Kd.M (Kd.int .i64) _ _ _ 0 [.int .i64 0] from rfl) (Reps.one (show Kd.M (Kd.int .i64) _ _ _ 1 [.int .i64 1] from rfl) (Reps.one (show Kd.M (Kd.int .i64) _ _ _ 0 [.int .i64 0] from rfl) (Reps.none _ _))))))
       intro v122 w31 ho32 hb hg_ hnew_
       clear hg_ hnew_
       (first | rw [← Ny121.out] at ho32 | (simp only [Int.reduceToNat] at ho32; rw [← Ny121.out] at ho32))
       have n0_ := Zs.mk (Kd.R_lower ho32 (bSz zq11))
       have n1_ := Zs.mk (kBe (g := gb119) (o := .cells #[.int .i64 a0_0, .slice A0_1 l0_1.length c0_1] 25 (0, 0)) zq15 hb)
       have n2_ := Zs.mk (kBe (g := gb120) (o := .cells #[.int .i64 0, .int .i64 0] 92 (0, 0)) zq30 hb)
       have n3_ := Zs.mk (bSp zq11 hb)
       clear BK119
       clear BK120
       clear HB
       have HO123 := n0_
       have BK119 := n1_
       have BK120 := n2_
       have HB := n3_
       clear n0_ n1_ n2_ n3_
       clear hb ho32
       obtain ⟨Ao33, co33, eo33⟩ := Kd.R_slice HO123.out
       subst eo33
       obtain ⟨ado33, fo33, _⟩ := Kd.at_int (Kd.R_reads' HO123.out).2.2 0 zq31 (by rw [Ny121.out]; simp)
       cases fo33
       refine hK.out _ _ ⟨(kCe BK119.out 0).trans rfl, (kCe BK119.out 1).trans rfl⟩ (fun hHeld => ?_)
       clear hK K
       refine norm_ (a' := ?_) ?_ ?_
       rotate_left
       ·show Act.put _ (some 14) _ = _
        simp only [Act.put, List.setIfInBounds_toArray, List.set_cons_zero, List.set_cons_succ, i64_w, i32_w]
        rfl
       refine pure_ (i := 6) (N := some 16) (v := ?_) (a' := ?_) #[true, true, true, true, true, true, true, false, false, false] rfl rfl (any_of HT_.out zq6) (fun _ _ _ h => h) (Or.inl ⟨by rfl, ?_⟩) ?_ ?_
       rotate_left
       ·intro w'
        go_simp
        with_reducible rfl
       rotate_left
       ·simp only [Act.put, List.setIfInBounds_toArray, List.set_cons_zero, List.set_cons_succ, i64_w, i32_w]
        rfl
       refine one_ (i := 7) (N := some 17) #[true, true, true, true, true, true, true, true, false, false] rfl rfl (one_of HT_.out zq6) zq31 (fun K hK => ?_)
       (have p124 : 0 ≤ (a2 : Int) := of_decide_eq_true zq8; have q124 : a2 < (y121.length : Int) := of_decide_eq_true zq8; obtain ⟨ad124, e124, hx124_0⟩ := Kd.at_int (Kd.R_reads' HO123.out).2.2 a2 p124 q124; obtain rfl : ado33 = ad124 := (by injection e124))
       refine value_ (w1 := ?_) (v := ?_) (by rfl) rfl ?_ ?_
       rotate_left 2
       ·go_simp
        constructor
        ·rfl
        ·rfl
       clear hx124_0
       refine hK.out _ _ ⟨(kCe BK119.out 0).trans rfl, (kCe BK119.out 1).trans rfl⟩ (fun hHeld => ?_)
       clear hK K
       refine norm_ (a' := ?_) ?_ ?_
       rotate_left
       ·show Act.put _ (some 17) _ = _
        simp only [Act.put, List.setIfInBounds_toArray, List.set_cons_zero, List.set_cons_succ, i64_w, i32_w]
        rfl
       refine pure_ (i := 8) (N := some 18) (v := ?_) (a' := ?_) #[true, true, true, true, true, true, true, true, true, false] rfl rfl (any_of HT_.out zq6) (fun _ _ _ h => h) (Or.inl ⟨by rfl, ?_⟩) ?_ ?_
       rotate_left
       ·intro w'
        go_simp
        with_reducible rfl
       rotate_left
       ·simp only [Act.put, List.setIfInBounds_toArray, List.set_cons_zero, List.set_cons_succ, i64_w, i32_w]
        rfl
       refine pure_ (i := 9) (N := some 8) (v := ?_) (a' := ?_) #[true, true, true, true, true, true, true, true, true, true] rfl rfl (any_of HT_.out zq6) (fun _ _ _ h => h) (Or.inl ⟨by rfl, ?_⟩) ?_ ?_
       rotate_left
       ·intro w'
        go_simp
        with_reducible rfl
       rotate_left
       ·simp only [Act.put, List.setIfInBounds_toArray, List.set_cons_zero, List.set_cons_succ, i64_w, i32_w]
        rfl
       refine done_ (done_of HT_.out zq6) ?_
       try go_wp2
       have pi128 : (0 ≤ (a2 : Int)) = True := eq_true (of_decide_eq_true zq8)
       have qi128 : (a2 < (y125.length : Int)) = True := eq_true (of_decide_eq_true zq8)
       have n0_ := Zs.mk (Kd.R_drew HO123.out)
       have n1_ := Zs.mk (kDr BK119.out)
       have n2_ := Zs.mk (kDr BK120.out)
       have n3_ := Zs.mk (bD1 HB.out)
       clear HO123
       clear BK119
       clear BK120
       clear HB
       have HO123 := n0_
       have BK119 := n1_
       have BK120 := n2_
       have HB := n3_
       clear n0_ n1_ n2_ n3_
       refine start_ (n := 10) (S := fun w' => w'.cell? ⟨gb119, 0, none⟩ = some (.int .i64 a0_0) ∧ w'.cell? ⟨gb119, 1, none⟩ = some (.slice A0_1 l0_1.length c0_1)) (ds := []) #[false, false, false, false, false, false, false, false, false, false] zq6 rfl rfl ⟨(kCe BK119.out 0).trans rfl, (kCe BK119.out 1).trans rfl⟩ (fun hHeld => ?_); refine with_tabW spec_l2Next.tab2 spec_l2Next.bits2 (fun HT_ HW_ => ?_)
       generalize w31.drew = w34 at HO123 BK119 BK120 HB hHeld ⊢
       refine pure_ (i := 0) (N := some 19) (v := ?_) (a' := ?_) #[true, false, false, false, false, false, false, false, false, false] rfl rfl (any_of HT_.out zq6) (fun _ _ _ h => h) (Or.inl ⟨by rfl, ?_⟩) ?_ ?_
       rotate_left
       ·intro w'
        go_simp
        with_reducible rfl
       rotate_left
       ·simp only [Act.put, List.setIfInBounds_toArray, List.set_cons_zero, List.set_cons_succ, i64_w, i32_w]
        rfl
       refine pure_ (i := 1) (N := some 20) (v := ?_) (a' := ?_) #[true, true, false, false, false, false, false, false, false, false] rfl rfl (any_of HT_.out zq6) (fun _ _ _ h => h) (Or.inl ⟨by rfl, ?_⟩) ?_ ?_
       rotate_left
       ·intro w'
        go_simp
        with_reducible rfl
       rotate_left
       ·simp only [Act.put, List.setIfInBounds_toArray, List.set_cons_zero, List.set_cons_succ, i64_w, i32_w]
        rfl
       refine pure_ (i := 5) (N := some 24) (v := ?_) (a' := ?_) #[true, true, false, false, false, true, false, false, false, false] rfl rfl (any_of HT_.out zq6) (fun _ _ _ h => h) (Or.inl ⟨by rfl, ?_⟩) ?_ ?_
       rotate_left
       ·intro w'
        go_simp
        with_reducible rfl
       rotate_left
       ·simp only [Act.put, List.setIfInBounds_toArray, List.set_cons_zero, List.set_cons_succ, i64_w, i32_w]
        rfl
       refine take_ (i := 2) (N := some 21) (v := ?_) (a' := ?_) #[true, true, true, false, false, true, false, false, false, false] rfl rfl (take_ofW HT_.out HW_.out zq6) (fun _ _ _ h => h) (Or.inl ⟨by rfl, ?_⟩) hHeld ?_ ?_
       rotate_left
       ·rintro w' ⟨s0, s1⟩
        go_simp
        with_reducible rfl
       rotate_left
       ·simp only [Act.put, List.setIfInBounds_toArray, List.set_cons_zero, List.set_cons_succ, i64_w, i32_w]
        rfl
       refine pure_ (i := 3) (N := some 22) (v := ?_) (a' := ?_) #[true, true, true, true, false, true, false, false, false, false] rfl rfl (any_of HT_.out zq6) (fun _ _ _ h => h) (Or.inl ⟨by rfl, ?_⟩) ?_ ?_
       rotate_left
       ·intro w'
        go_simp
        with_reducible rfl
       rotate_left
       ·simp only [Act.put, List.setIfInBounds_toArray, List.set_cons_zero, List.set_cons_succ, i64_w, i32_w]
        rfl
       refine one_ (i := 4) (N := some 23) #[true, true, true, true, true, true, false, false, false, false] rfl rfl (one_of HT_.out zq6) zq31 (fun K hK => ?_)
       refine Kd.R_lit_step (Kd.int .i64) _ 3 ?hg (N := 23) ?hd (xs := ([0, 1, 0, (-1)] : List Int)) (inner := [.int .i64 0, .int .i64 1, .int .i64 0, .int .i64 (-1)]) (ok := fun _ => True) (okp := fun _ => True) ?hr ?hp (fun _ hk => hk) trivial (Below.refl _ _) (Nat.le_refl _) zq58 ?_; (case hd => rfl); (case hg => rfl); (case hr => first | (go_simp; done) | (go_simp; rfl)); (case hp => exact (Reps.one (show Kd.M (Kd.int .i64) _ _ _ 0 [.int .i64 0] from rfl) (Reps.one (show Kd.M (Kd.int .i64) _ _ _ 1 [.int .i64 1] from rfl) (Reps.one (show Kd.M (Kd.int .i64) _ _ _ 0 [.int .i64 0] from rfl) (Reps.one (show Kd.M (Kd.int .i64) _ _ _ (-1) [.int .i64 (-1)] from rfl) (Reps.none _ _))))))
       intro v126 w35 ho36 hb hg_ hnew_
       clear hg_ hnew_
       (first | rw [← Ny125.out] at ho36 | (simp only [Int.reduceToNat] at ho36; rw [← Ny125.out] at ho36))
       have n0_ := Zs.mk (Kd.R_elder' zq47 (Kd.R_base ho36) hb)
       have n1_ := Zs.mk (Kd.R_lower (Kd.R_new' ho36 (Kd.R_lt zq47)) (bSz zq11))
       have n2_ := Zs.mk (kBe (g := gb119) (o := .cells #[.int .i64 a0_0, .slice A0_1 l0_1.length c0_1] 25 (0, 0)) zq15 hb)
       have n3_ := Zs.mk (kBe (g := gb120) (o := .cells #[.int .i64 0, .int .i64 0] 92 (0, 0)) zq30 hb)
       have n4_ := Zs.mk (bSp zq11 hb)
       clear HO123
       clear BK119
       clear BK120
       clear HB
       have HO123 := n0_
       have HO127 := n1_
       have BK119 := n2_
       have BK120 := n3_
       have HB := n4_
       clear n0_ n1_ n2_ n3_ n4_
       clear hb ho36
       obtain ⟨Ao37, co37, eo37⟩ := Kd.R_slice HO127.out
       subst eo37
       obtain ⟨ado37, fo37, _⟩ := Kd.at_int (Kd.R_reads' HO127.out).2.2 0 zq31 (by rw [Ny125.out]; simp)
       cases fo37
       refine hK.out _ _ ⟨(kCe BK119.out 0).trans rfl, (kCe BK119.out 1).trans rfl⟩ (fun hHeld => ?_)
       clear hK K
       refine norm_ (a' := ?_) ?_ ?_
       rotate_left
       ·show Act.put _ (some 23) _ = _
        simp only [Act.put, List.setIfInBounds_toArray, List.set_cons_zero, List.set_cons_succ, i64_w, i32_w]
        rfl
       refine pure_ (i := 6) (N := some 25) (v := ?_) (a' := ?_) #[true, true, true, true, true, true, true, false, false, false] rfl rfl (any_of HT_.out zq6) (fun _ _ _ h => h) (Or.inl ⟨by rfl, ?_⟩) ?_ ?_
       rotate_left
       ·intro w'
        go_simp
        with_reducible rfl
       rotate_left
       ·simp only [Act.put, List.setIfInBounds_toArray, List.set_cons_zero, List.set_cons_succ, i64_w, i32_w]
        rfl
       refine one_ (i := 7) (N := some 26) #[true, true, true, true, true, true, true, true, false, false] rfl rfl (one_of HT_.out zq6) zq31 (fun K hK => ?_)
       (have p128 : 0 ≤ (a2 : Int) := of_decide_eq_true zq8; have q128 : a2 < (y125.length : Int) := of_decide_eq_true zq8; obtain ⟨ad128, e128, hx128_0⟩ := Kd.at_int (Kd.R_reads' HO127.out).2.2 a2 p128 q128; obtain rfl : ado37 = ad128 := (by injection e128))
       refine value_ (w1 := ?_) (v := ?_) (by rfl) rfl ?_ ?_
       rotate_left 2
       ·go_simp
        constructor
        ·rfl
        ·rfl
       clear hx128_0
       refine hK.out _ _ ⟨(kCe BK119.out 0).trans rfl, (kCe BK119.out 1).trans rfl⟩ (fun hHeld => ?_)
       clear hK K
       refine norm_ (a' := ?_) ?_ ?_
       rotate_left
       ·show Act.put _ (some 26) _ = _
        simp only [Act.put, List.setIfInBounds_toArray, List.set_cons_zero, List.set_cons_succ, i64_w, i32_w]
        rfl
       refine pure_ (i := 8) (N := some 27) (v := ?_) (a' := ?_) #[true, true, true, true, true, true, true, true, true, false] rfl rfl (any_of HT_.out zq6) (fun _ _ _ h => h) (Or.inl ⟨by rfl, ?_⟩) ?_ ?_
       rotate_left
       ·intro w'
        go_simp
        with_reducible rfl
       rotate_left
       ·simp only [Act.put, List.setIfInBounds_toArray, List.set_cons_zero, List.set_cons_succ, i64_w, i32_w]
        rfl
       refine pure_ (i := 9) (N := some 9) (v := ?_) (a' := ?_) #[true, true, true, true, true, true, true, true, true, true] rfl rfl (any_of HT_.out zq6) (fun _ _ _ h => h) (Or.inl ⟨by rfl, ?_⟩) ?_ ?_
       rotate_left
       ·intro w'
        go_simp
        with_reducible rfl
       rotate_left
       ·simp only [Act.put, List.setIfInBounds_toArray, List.set_cons_zero, List.set_cons_succ, i64_w, i32_w]
        rfl
       refine done_ (done_of HT_.out zq6) ?_
       have hnb38 := NB119_120.out
       have hnc38 := NB120_119.out
       have hcz39_0 : w35.cell? ⟨gb119, 0, none⟩ = some (.int .i64 a0_0) := (kCe BK119.out 0).trans rfl
       have hcz39_1 : w35.cell? ⟨gb119, 1, none⟩ = some (.slice A0_1 l0_1.length c0_1) := (kCe BK119.out 1).trans rfl
       have hfz39_0 := kFr BK119.out 0
       have hfz39_1 := kFr BK119.out 1
       try go_wp2_with (first | ((with_reducible refine gate_callee (f := 96) rfl ?_); refine goesL_ (some 30) rfl rfl Try.func96 zq6 rfl #[.agg #[.int .i64 a0_0, .slice A0_1 l0_1.length c0_1]] rfl zq1 ?_; (with_reducible refine (spec_l1High.calls a0_0 _ _ l0_1 t129 _ ?side1 ?side2 A8.out).mono ?_); (case side1 => repeat (first | exact (Kd.C_below HR0_1.out HB.out) | (with_reducible refine Kd.C_alloc ?_ _) | (with_reducible refine Kd.C_drewN ?_ _) | (with_reducible refine Kd.C_drew ?_))); (case side2 => exact HC0_1.out); rintro e w40 ⟨rfl, hb⟩; refine ⟨_, rfl, ?_⟩; have n0_ := Zs.mk (Kd.R_below zq47 hb); have n1_ := Zs.mk (Kd.R_below zq92 hb); have n2_ := Zs.mk (kBe (g := gb119) (o := .cells #[.int .i64 a0_0, .slice A0_1 l0_1.length c0_1] 25 (0, 0)) zq15 hb); have n3_ := Zs.mk (kBe (g := gb120) (o := .cells #[.int .i64 0, .int .i64 0] 92 (0, 0)) zq30 hb); have n4_ := Zs.mk (bSp zq11 hb); clear HO123; clear HO127; clear BK119; clear BK120; clear HB; have HO123 := n0_; have HO127 := n1_; have BK119 := n2_; have BK120 := n3_; have HB := n4_; clear n0_ n1_ n2_ n3_ n4_; (try clear hb); (try clear hb2); (try clear hk); (try clear hi)) | ((with_reducible refine gate_callee (f := 65) rfl ?_); refine goesL_ (some 32) rfl rfl Try.func65 zq6 rfl #[.int .i64 (wrap64 ((wrap64 (Int.tdiv a1 a0_0)) + (rd y121 a2))), .int .i64 0, .int .i64 (wrap64 (t129 - 1))] rfl zq1 ?_; (with_reducible refine (spec_l6In.calls (wrap64 ((wrap64 (Int.tdiv a1 a0_0)) + (rd y121 a2))) 0 (wrap64 (t129 - 1)) true _ A9.out).mono ?_); rintro e w' ⟨rfl, ⟨nd, rfl⟩⟩; refine ⟨_, rfl, ?_⟩; (try (rw [drewN_self w40]; generalize hq_ : World.drewN w40 _ = w40; have n0_ : Zs (Kd.R (Kd.int .i64) 3 w40 w.heap.size (fun k_ => some k_ ≠ (.slice (some ado37) y125.length co37 : Value).ownBlock) (.slice (some ado33) y121.length co33) y121) := ⟨by rw [← hq_]; exact zq60⟩; have n1_ : Zs (Kd.R (Kd.int .i64) 3 w40 w.heap.size (fun k_ => some k_ ≠ (.slice (some ado33) y121.length co33 : Value).ownBlock) (.slice (some ado37) y125.length co37) y125) := ⟨by rw [← hq_]; exact zq61⟩; have n2_ : Zs (w40.heap[gb119]? = some (.cells #[.int .i64 a0_0, .slice A0_1 l0_1.length c0_1] 25 (0, 0))) := ⟨by rw [← hq_]; exact zq15⟩; have n3_ : Zs (w40.heap[gb120]? = some (.cells #[.int .i64 0, .int .i64 0] 92 (0, 0))) := ⟨by rw [← hq_]; exact zq30⟩; have n4_ : Zs (Below w.heap.size w w40) := ⟨by rw [← hq_]; exact zq11⟩; clear HO123 HO127 BK119 BK120 HB hq_; have HO123 := n0_; have HO127 := n1_; have BK119 := n2_; have BK120 := n3_; have HB := n4_; clear n0_ n1_ n2_ n3_ n4_)); have hcz41_0 : w40.cell? ⟨gb119, 0, none⟩ = some (.int .i64 a0_0) := (kCe BK119.out 0).trans rfl; have hcz41_1 : w40.cell? ⟨gb119, 1, none⟩ = some (.slice A0_1 l0_1.length c0_1) := (kCe BK119.out 1).trans rfl; have hfz41_0 := kFr BK119.out 0; have hfz41_1 := kFr BK119.out 1) | (go_at_call 65; (with_reducible refine (spec_l6In.calls (wrap64 ((Int.tmod a1 a0_0) + (rd y125 a2))) 0 (wrap64 (a0_0 - 1)) false _ A11.out).mono ?_); rintro e w' ⟨rfl, ⟨nd, rfl⟩⟩; (try (rw [drewN_self w40]; generalize hq_ : World.drewN w40 _ = w40; have n0_ : Zs (Kd.R (Kd.int .i64) 3 w40 w.heap.size (fun k_ => some k_ ≠ (.slice (some ado37) y125.length co37 : Value).ownBlock) (.slice (some ado33) y121.length co33) y121) := ⟨by rw [← hq_]; exact zq60⟩; have n1_ : Zs (Kd.R (Kd.int .i64) 3 w40 w.heap.size (fun k_ => some k_ ≠ (.slice (some ado33) y121.length co33 : Value).ownBlock) (.slice (some ado37) y125.length co37) y125) := ⟨by rw [← hq_]; exact zq61⟩; have n2_ : Zs (w40.heap[gb119]? = some (.cells #[.int .i64 a0_0, .slice A0_1 l0_1.length c0_1] 25 (0, 0))) := ⟨by rw [← hq_]; exact zq15⟩; have n3_ : Zs (w40.heap[gb120]? = some (.cells #[.int .i64 0, .int .i64 0] 92 (0, 0))) := ⟨by rw [← hq_]; exact zq30⟩; have n4_ : Zs (Below w.heap.size w w40) := ⟨by rw [← hq_]; exact zq11⟩; clear HO123 HO127 BK119 BK120 HB hq_; have HO123 := n0_; have HO127 := n1_; have BK119 := n2_; have BK120 := n3_; have HB := n4_; clear n0_ n1_ n2_ n3_ n4_)); have hcz42_0 : w40.cell? ⟨gb120, 0, none⟩ = some (.int .i64 0) := (kCe BK120.out 0).trans rfl; have hcz42_1 : w40.cell? ⟨gb120, 1, none⟩ = some (.int .i64 0) := (kCe BK120.out 1).trans rfl; have hfz42_0 := kFr BK120.out 0; have hfz42_1 := kFr BK120.out 1))
       refine bodyPost_ret (results_ct rfl _ _ gb120 92 #[.int .i64 0, .int .i64 0] (0, 0) _ rfl zq70 Try.underlying92 rfl zq6) rfl ?_
       exact ⟨by first | rfl | (simp [errW_none, errW_some] <;> rfl) | (simp [*, errW_none, errW_some] <;> rfl), by repeat (first | (with_reducible first | exact HB.out | apply bAl | apply bDN | apply bD1 | refine bSt ?_ GE119.out | refine bSt ?_ GE120.out) | exact HB.out)⟩
     ·replace c10 := Bool.eq_false_iff.mpr c10
      subst c10
      have H1 : (some (0, 0, false)) = some (r1, r2, r3) := by rw [if_neg (show ¬ (false = true) by decide)] at H; exact H
      clear H
      have H := H1
      clear H1
      simp only [Option.some.injEq, Prod.mk.injEq] at H
      obtain ⟨rfl, rfl, rfl⟩ := H
      go_enter Try.func119, Try.ntmps119
      try go_wp2_with (first | ((with_reducible refine gate_dst (N := 3) rfl ?_); refine box_event ?hg (N := 3) ?hd (cs := #[.int .i64 a0_0, .slice A0_1 l0_1.length c0_1]) (t := 25) ?hr ?_; (case hd => rfl); (case hg => rfl); (case hr => first | (go_simp; done) | (go_simp; rfl)); intro gb119 hg w43 hbox hb; have n0_ := Zs.mk (bSp zq2 hb); have n1_ := Zs.mk (hbox); have n2_ := Zs.mk ((by rw [hg]; exact (bSz zq2) : w.heap.size ≤ gb119)); have n3_ := Zs.mk ((by rw [hg]; exact (bSz zq2) : w.heap.size ≤ gb119)); clear HB; have HB := n0_; have BK119 := n1_; have GW119 := n2_; have GE119 := n3_; clear n0_ n1_ n2_ n3_; clear hb hbox hg) | ((with_reducible refine gate_dst (N := 6) rfl ?_); refine box_event ?hg (N := 6) ?hd (cs := #[.int .i64 0, .int .i64 0]) (t := 92) ?hr ?_; (case hd => rfl); (case hg => rfl); (case hr => first | (go_simp; done) | (go_simp; rfl)); intro gb120 hg w44 hbox hb; have n0_ := Zs.mk (kBe (g := gb119) (o := .cells #[.int .i64 a0_0, .slice A0_1 l0_1.length c0_1] 25 (0, 0)) zq15 hb); have n1_ := Zs.mk (bSp zq38 hb); have n2_ := Zs.mk (hbox); have n3_ := Zs.mk ((by rw [hg]; exact (bSz zq38) : w.heap.size ≤ gb120)); have n4_ := Zs.mk ((by rw [hg]; exact (bSz zq38) : w.heap.size ≤ gb120)); have n5_ := Zs.mk ((by rw [hg]; exact Nat.ne_of_lt (blk_lt (g := gb119) (o := .cells #[.int .i64 a0_0, .slice A0_1 l0_1.length c0_1] 25 (0, 0)) zq15) : gb119 ≠ gb120)); have n6_ := Zs.mk ((by rw [hg]; exact Nat.ne_of_gt (blk_lt (g := gb119) (o := .cells #[.int .i64 a0_0, .slice A0_1 l0_1.length c0_1] 25 (0, 0)) zq15) : gb120 ≠ gb119)); clear BK119; clear HB; have BK119 := n0_; have HB := n1_; have BK120 := n2_; have GW120 := n3_; have GE120 := n4_; have NB119_120 := n5_; have NB120_119 := n6_; clear n0_ n1_ n2_ n3_ n4_ n5_ n6_; clear hb hbox hg))
      have pi124 : (0 ≤ (a2 : Int)) = True := eq_true (of_decide_eq_true zq8)
      have qi124 : (a2 < (y121.length : Int)) = True := eq_true (of_decide_eq_true zq8)
      have n0_ := Zs.mk (kDr BK119.out)
      have n1_ := Zs.mk (kDr BK120.out)
      have n2_ := Zs.mk (bD1 HB.out)
      clear BK119
      clear BK120
      clear HB
      have BK119 := n0_
      have BK120 := n1_
      have HB := n2_
      clear n0_ n1_ n2_
      refine start_ (n := 10) (S := fun w' => w'.cell? ⟨gb119, 0, none⟩ = some (.int .i64 a0_0) ∧ w'.cell? ⟨gb119, 1, none⟩ = some (.slice A0_1 l0_1.length c0_1)) (ds := []) #[false, false, false, false, false, false, false, false, false, false] zq6 rfl rfl ⟨(kCe BK119.out 0).trans rfl, (kCe BK119.out 1).trans rfl⟩ (fun hHeld => ?_); refine with_tabW spec_l2Next.tab1 spec_l2Next.bits1 (fun HT_ HW_ => ?_)
      generalize w44.drew = w45 at BK119 BK120 HB hHeld ⊢
      refine pure_ (i := 0) (N := some 10) (v := ?_) (a' := ?_) #[true, false, false, false, false, false, false, false, false, false] rfl rfl (any_of HT_.out zq6) (fun _ _ _ h => h) (Or.inl ⟨by rfl, ?_⟩) ?_ ?_
      rotate_left
      ·intro w'
       go_simp
       with_reducible rfl
      rotate_left
      ·simp only [Act.put, List.setIfInBounds_toArray, List.set_cons_zero, List.set_cons_succ, i64_w, i32_w]
       rfl
      refine pure_ (i := 1) (N := some 11) (v := ?_) (a' := ?_) #[true, true, false, false, false, false, false, false, false, false] rfl rfl (any_of HT_.out zq6) (fun _ _ _ h => h) (Or.inl ⟨by rfl, ?_⟩) ?_ ?_
      rotate_left
      ·intro w'
       go_simp
       with_reducible rfl
      rotate_left
      ·simp only [Act.put, List.setIfInBounds_toArray, List.set_cons_zero, List.set_cons_succ, i64_w, i32_w]
       rfl
      refine pure_ (i := 5) (N := some 15) (v := ?_) (a' := ?_) #[true, true, false, false, false, true, false, false, false, false] rfl rfl (any_of HT_.out zq6) (fun _ _ _ h => h) (Or.inl ⟨by rfl, ?_⟩) ?_ ?_
      rotate_left
      ·intro w'
       go_simp
       with_reducible rfl
      rotate_left
      ·simp only [Act.put, List.setIfInBounds_toArray, List.set_cons_zero, List.set_cons_succ, i64_w, i32_w]
       rfl
      refine take_ (i := 2) (N := some 12) (v := ?_) (a' := ?_) #[true, true, true, false, false, true, false, false, false, false] rfl rfl (take_ofW HT_.out HW_.out zq6) (fun _ _ _ h => h) (Or.inl ⟨by rfl, ?_⟩) hHeld ?_ ?_
      rotate_left
      ·rintro w' ⟨s0, s1⟩
       go_simp
       with_reducible rfl
      rotate_left
      ·simp only [Act.put, List.setIfInBounds_toArray, List.set_cons_zero, List.set_cons_succ, i64_w, i32_w]
       rfl
      refine pure_ (i := 3) (N := some 13) (v := ?_) (a' := ?_) #[true, true, true, true, false, true, false, false, false, false] rfl rfl (any_of HT_.out zq6) (fun _ _ _ h => h) (Or.inl ⟨by rfl, ?_⟩) ?_ ?_
      rotate_left
      ·intro w'
       go_simp
       with_reducible rfl
      rotate_left
      ·simp only [Act.put, List.setIfInBounds_toArray, List.set_cons_zero, List.set_cons_succ, i64_w, i32_w]
       rfl
      refine one_ (i := 4) (N := some 14) #[true, true, true, true, true, true, false, false, false, false] rfl rfl (one_of HT_.out zq6) zq31 (fun K hK => ?_)
      refine Kd.R_lit_step (Kd.int .i64) _ 3 ?hg (N := 14) ?hd (xs := ([(-1), 0, 1, 0] : List Int)) (inner := [.int .i64 (-1), .int .i64 0, .int .i64 1, .int .i64 0]) (ok := fun _ => True) (okp := fun _ => True) ?hr ?hp (fun _ hk => hk) trivial (Below.refl _ _) (Nat.le_refl _) zq58 ?_; (case hd => rfl); (case hg => rfl); (case hr => first | (go_simp; done) | (go_simp; rfl)); (case hp => exact (Reps.one (show Kd.M (Kd.int .i64) _ _ _ (-1) [.int .i64 (-1)] from rfl) (Reps.one (show Kd.M (Kd.int .i64) _ _ _ 0 [.int .i64 0] from rfl) (Reps.one (show Kd.M (Kd.int .i64) _ _ _ 1 [.int .i64 1] from rfl) (Reps.one (show Kd.M (Kd.int .i64) _ _ _ 0 [.int .i64 0] from rfl) (Reps.none _ _))))))
      intro v122 w46 ho47 hb hg_ hnew_
      clear hg_ hnew_
      (first | rw [← Ny121.out] at ho47 | (simp only [Int.reduceToNat] at ho47; rw [← Ny121.out] at ho47))
      have n0_ := Zs.mk (Kd.R_lower ho47 (bSz zq11))
      have n1_ := Zs.mk (kBe (g := gb119) (o := .cells #[.int .i64 a0_0, .slice A0_1 l0_1.length c0_1] 25 (0, 0)) zq15 hb)
      have n2_ := Zs.mk (kBe (g := gb120) (o := .cells #[.int .i64 0, .int .i64 0] 92 (0, 0)) zq30 hb)
      have n3_ := Zs.mk (bSp zq11 hb)
      clear BK119
      clear BK120
      clear HB
      have HO123 := n0_
      have BK119 := n1_
      have BK120 := n2_
      have HB := n3_
      clear n0_ n1_ n2_ n3_
      clear hb ho47
      obtain ⟨Ao48, co48, eo48⟩ := Kd.R_slice HO123.out
      subst eo48
      obtain ⟨ado48, fo48, _⟩ := Kd.at_int (Kd.R_reads' HO123.out).2.2 0 zq31 (by rw [Ny121.out]; simp)
      cases fo48
      refine hK.out _ _ ⟨(kCe BK119.out 0).trans rfl, (kCe BK119.out 1).trans rfl⟩ (fun hHeld => ?_)
      clear hK K
      refine norm_ (a' := ?_) ?_ ?_
      rotate_left
      ·show Act.put _ (some 14) _ = _
       simp only [Act.put, List.setIfInBounds_toArray, List.set_cons_zero, List.set_cons_succ, i64_w, i32_w]
       rfl
      refine pure_ (i := 6) (N := some 16) (v := ?_) (a' := ?_) #[true, true, true, true, true, true, true, false, false, false] rfl rfl (any_of HT_.out zq6) (fun _ _ _ h => h) (Or.inl ⟨by rfl, ?_⟩) ?_ ?_
      rotate_left
      ·intro w'
       go_simp
       with_reducible rfl
      rotate_left
      ·simp only [Act.put, List.setIfInBounds_toArray, List.set_cons_zero, List.set_cons_succ, i64_w, i32_w]
       rfl
      refine one_ (i := 7) (N := some 17) #[true, true, true, true, true, true, true, true, false, false] rfl rfl (one_of HT_.out zq6) zq31 (fun K hK => ?_)
      (have p124 : 0 ≤ (a2 : Int) := of_decide_eq_true zq8; have q124 : a2 < (y121.length : Int) := of_decide_eq_true zq8; obtain ⟨ad124, e124, hx124_0⟩ := Kd.at_int (Kd.R_reads' HO123.out).2.2 a2 p124 q124; obtain rfl : ado48 = ad124 := (by injection e124))
      refine value_ (w1 := ?_) (v := ?_) (by rfl) rfl ?_ ?_
      rotate_left 2
      ·go_simp
       constructor
       ·rfl
       ·rfl
      clear hx124_0
      refine hK.out _ _ ⟨(kCe BK119.out 0).trans rfl, (kCe BK119.out 1).trans rfl⟩ (fun hHeld => ?_)
      clear hK K
      refine norm_ (a' := ?_) ?_ ?_
      rotate_left
      ·show Act.put _ (some 17) _ = _
       simp only [Act.put, List.setIfInBounds_toArray, List.set_cons_zero, List.set_cons_succ, i64_w, i32_w]
       rfl
      refine pure_ (i := 8) (N := some 18) (v := ?_) (a' := ?_) #[true, true, true, true, true, true, true, true, true, false] rfl rfl (any_of HT_.out zq6) (fun _ _ _ h => h) (Or.inl ⟨by rfl, ?_⟩) ?_ ?_
      rotate_left
      ·intro w'
       go_simp
       with_reducible rfl
      rotate_left
      ·simp only [Act.put, List.setIfInBounds_toArray, List.set_cons_zero, List.set_cons_succ, i64_w, i32_w]
       rfl
      refine pure_ (i := 9) (N := some 8) (v := ?_) (a' := ?_) #[true, true, true, true, true, true, true, true, true, true] rfl rfl (any_of HT_.out zq6) (fun _ _ _ h => h) (Or.inl ⟨by rfl, ?_⟩) ?_ ?_
      rotate_left
      ·intro w'
       go_simp
       with_reducible rfl
      rotate_left
      ·simp only [Act.put, List.setIfInBounds_toArray, List.set_cons_zero, List.set_cons_succ, i64_w, i32_w]
       rfl
      refine done_ (done_of HT_.out zq6) ?_
      try go_wp2
      have pi128 : (0 ≤ (a2 : Int)) = True := eq_true (of_decide_eq_true zq8)
      have qi128 : (a2 < (y125.length : Int)) = True := eq_true (of_decide_eq_true zq8)
      have n0_ := Zs.mk (Kd.R_drew HO123.out)
      have n1_ := Zs.mk (kDr BK119.out)
      have n2_ := Zs.mk (kDr BK120.out)
      have n3_ := Zs.mk (bD1 HB.out)
      clear HO123
      clear BK119
      clear BK120
      clear HB
      have HO123 := n0_
      have BK119 := n1_
      have BK120 := n2_
      have HB := n3_
      clear n0_ n1_ n2_ n3_
      refine start_ (n := 10) (S := fun w' => w'.cell? ⟨gb119, 0, none⟩ = some (.int .i64 a0_0) ∧ w'.cell? ⟨gb119, 1, none⟩ = some (.slice A0_1 l0_1.length c0_1)) (ds := []) #[false, false, false, false, false, false, false, false, false, false] zq6 rfl rfl ⟨(kCe BK119.out 0).trans rfl, (kCe BK119.out 1).trans rfl⟩ (fun hHeld => ?_); refine with_tabW spec_l2Next.tab2 spec_l2Next.bits2 (fun HT_ HW_ => ?_)
      generalize w46.drew = w49 at HO123 BK119 BK120 HB hHeld ⊢
      refine pure_ (i := 0) (N := some 19) (v := ?_) (a' := ?_) #[true, false, false, false, false, false, false, false, false, false] rfl rfl (any_of HT_.out zq6) (fun _ _ _ h => h) (Or.inl ⟨by rfl, ?_⟩) ?_ ?_
      rotate_left
      ·intro w'
       go_simp
       with_reducible rfl
      rotate_left
      ·simp only [Act.put, List.setIfInBounds_toArray, List.set_cons_zero, List.set_cons_succ, i64_w, i32_w]
       rfl
      refine pure_ (i := 1) (N := some 20) (v := ?_) (a' := ?_) #[true, true, false, false, false, false, false, false, false, false] rfl rfl (any_of HT_.out zq6) (fun _ _ _ h => h) (Or.inl ⟨by rfl, ?_⟩) ?_ ?_
      rotate_left
      ·intro w'
       go_simp
       with_reducible rfl
      rotate_left
      ·simp only [Act.put, List.setIfInBounds_toArray, List.set_cons_zero, List.set_cons_succ, i64_w, i32_w]
       rfl
      refine pure_ (i := 5) (N := some 24) (v := ?_) (a' := ?_) #[true, true, false, false, false, true, false, false, false, false] rfl rfl (any_of HT_.out zq6) (fun _ _ _ h => h) (Or.inl ⟨by rfl, ?_⟩) ?_ ?_
      rotate_left
      ·intro w'
       go_simp
       with_reducible rfl
      rotate_left
      ·simp only [Act.put, List.setIfInBounds_toArray, List.set_cons_zero, List.set_cons_succ, i64_w, i32_w]
       rfl
      refine take_ (i := 2) (N := some 21) (v := ?_) (a' := ?_) #[true, true, true, false, false, true, false, false, false, false] rfl rfl (take_ofW HT_.out HW_.out zq6) (fun _ _ _ h => h) (Or.inl ⟨by rfl, ?_⟩) hHeld ?_ ?_
      rotate_left
      ·rintro w' ⟨s0, s1⟩
       go_simp
       with_reducible rfl
      rotate_left
      ·simp only [Act.put, List.setIfInBounds_toArray, List.set_cons_zero, List.set_cons_succ, i64_w, i32_w]
       rfl
      refine pure_ (i := 3) (N := some 22) (v := ?_) (a' := ?_) #[true, true, true, true, false, true, false, false, false, false] rfl rfl (any_of HT_.out zq6) (fun _ _ _ h => h) (Or.inl ⟨by rfl, ?_⟩) ?_ ?_
      rotate_left
      ·intro w'
       go_simp
       with_reducible rfl
      rotate_left
      ·simp only [Act.put, List.setIfInBounds_toArray, List.set_cons_zero, List.set_cons_succ, i64_w, i32_w]
       rfl
      refine one_ (i := 4) (N := some 23) #[true, true, true, true, true, true, false, false, false, false] rfl rfl (one_of HT_.out zq6) zq31 (fun K hK => ?_)
      refine Kd.R_lit_step (Kd.int .i64) _ 3 ?hg (N := 23) ?hd (xs := ([0, 1, 0, (-1)] : List Int)) (inner := [.int .i64 0, .int .i64 1, .int .i64 0, .int .i64 (-1)]) (ok := fun _ => True) (okp := fun _ => True) ?hr ?hp (fun _ hk => hk) trivial (Below.refl _ _) (Nat.le_refl _) zq58 ?_; (case hd => rfl); (case hg => rfl); (case hr => first | (go_simp; done) | (go_simp; rfl)); (case hp => exact (Reps.one (show Kd.M (Kd.int .i64) _ _ _ 0 [.int .i64 0] from rfl) (Reps.one (show Kd.M (Kd.int .i64) _ _ _ 1 [.int .i64 1] from rfl) (Reps.one (show Kd.M (Kd.int .i64) _ _ _ 0 [.int .i64 0] from rfl) (Reps.one (show Kd.M (Kd.int .i64) _ _ _ (-1) [.int .i64 (-1)] from rfl) (Reps.none _ _))))))
      intro v126 w50 ho51 hb hg_ hnew_
      clear hg_ hnew_
      (first | rw [← Ny125.out] at ho51 | (simp only [Int.reduceToNat] at ho51; rw [← Ny125.out] at ho51))
      have n0_ := Zs.mk (Kd.R_elder' zq47 (Kd.R_base ho51) hb)
      have n1_ := Zs.mk (Kd.R_lower (Kd.R_new' ho51 (Kd.R_lt zq47)) (bSz zq11))
      have n2_ := Zs.mk (kBe (g := gb119) (o := .cells #[.int .i64 a0_0, .slice A0_1 l0_1.length c0_1] 25 (0, 0)) zq15 hb)
      have n3_ := Zs.mk (kBe (g := gb120) (o := .cells #[.int .i64 0, .int .i64 0] 92 (0, 0)) zq30 hb)
      have n4_ := Zs.mk (bSp zq11 hb)
      clear HO123
      clear BK119
      clear BK120
      clear HB
      have HO123 := n0_
      have HO127 := n1_
      have BK119 := n2_
      have BK120 := n3_
      have HB := n4_
      clear n0_ n1_ n2_ n3_ n4_
      clear hb ho51
      obtain ⟨Ao52, co52, eo52⟩ := Kd.R_slice HO127.out
      subst eo52
      obtain ⟨ado52, fo52, _⟩ := Kd.at_int (Kd.R_reads' HO127.out).2.2 0 zq31 (by rw [Ny125.out]; simp)
      cases fo52
      refine hK.out _ _ ⟨(kCe BK119.out 0).trans rfl, (kCe BK119.out 1).trans rfl⟩ (fun hHeld => ?_)
      clear hK K
      refine norm_ (a' := ?_) ?_ ?_
      rotate_left
      ·show Act.put _ (some 23) _ = _
       simp only [Act.put, List.setIfInBounds_toArray, List.set_cons_zero, List.set_cons_succ, i64_w, i32_w]
       rfl
      refine pure_ (i := 6) (N := some 25) (v := ?_) (a' := ?_) #[true, true, true, true, true, true, true, false, false, false] rfl rfl (any_of HT_.out zq6) (fun _ _ _ h => h) (Or.inl ⟨by rfl, ?_⟩) ?_ ?_
      rotate_left
      ·intro w'
       go_simp
       with_reducible rfl
      rotate_left
      ·simp only [Act.put, List.setIfInBounds_toArray, List.set_cons_zero, List.set_cons_succ, i64_w, i32_w]
       rfl
      refine one_ (i := 7) (N := some 26) #[true, true, true, true, true, true, true, true, false, false] rfl rfl (one_of HT_.out zq6) zq31 (fun K hK => ?_)
      (have p128 : 0 ≤ (a2 : Int) := of_decide_eq_true zq8; have q128 : a2 < (y125.length : Int) := of_decide_eq_true zq8; obtain ⟨ad128, e128, hx128_0⟩ := Kd.at_int (Kd.R_reads' HO127.out).2.2 a2 p128 q128; obtain rfl : ado52 = ad128 := (by injection e128))
      refine value_ (w1 := ?_) (v := ?_) (by rfl) rfl ?_ ?_
      rotate_left 2
      ·go_simp
       constructor
       ·rfl
       ·rfl
      clear hx128_0
      refine hK.out _ _ ⟨(kCe BK119.out 0).trans rfl, (kCe BK119.out 1).trans rfl⟩ (fun hHeld => ?_)
      clear hK K
      refine norm_ (a' := ?_) ?_ ?_
      rotate_left
      ·show Act.put _ (some 26) _ = _
       simp only [Act.put, List.setIfInBounds_toArray, List.set_cons_zero, List.set_cons_succ, i64_w, i32_w]
       rfl
      refine pure_ (i := 8) (N := some 27) (v := ?_) (a' := ?_) #[true, true, true, true, true, true, true, true, true, false] rfl rfl (any_of HT_.out zq6) (fun _ _ _ h => h) (Or.inl ⟨by rfl, ?_⟩) ?_ ?_
      rotate_left
      ·intro w'
       go_simp
       with_reducible rfl
      rotate_left
      ·simp only [Act.put, List.setIfInBounds_toArray, List.set_cons_zero, List.set_cons_succ, i64_w, i32_w]
       rfl
      refine pure_ (i := 9) (N := some 9) (v := ?_) (a' := ?_) #[true, true, true, true, true, true, true, true, true, true] rfl rfl (any_of HT_.out zq6) (fun _ _ _ h => h) (Or.inl ⟨by rfl, ?_⟩) ?_ ?_
      rotate_left
      ·intro w'
       go_simp
       with_reducible rfl
      rotate_left
      ·simp only [Act.put, List.setIfInBounds_toArray, List.set_cons_zero, List.set_cons_succ, i64_w, i32_w]
       rfl
      refine done_ (done_of HT_.out zq6) ?_
      have hnb53 := NB119_120.out
      have hnc53 := NB120_119.out
      have hcz54_0 : w50.cell? ⟨gb119, 0, none⟩ = some (.int .i64 a0_0) := (kCe BK119.out 0).trans rfl
      have hcz54_1 : w50.cell? ⟨gb119, 1, none⟩ = some (.slice A0_1 l0_1.length c0_1) := (kCe BK119.out 1).trans rfl
      have hfz54_0 := kFr BK119.out 0
      have hfz54_1 := kFr BK119.out 1
      try go_wp2_with (first | ((with_reducible refine gate_callee (f := 96) rfl ?_); refine goesL_ (some 30) rfl rfl Try.func96 zq6 rfl #[.agg #[.int .i64 a0_0, .slice A0_1 l0_1.length c0_1]] rfl zq1 ?_; (with_reducible refine (spec_l1High.calls a0_0 _ _ l0_1 t129 _ ?side1 ?side2 A8.out).mono ?_); (case side1 => repeat (first | exact (Kd.C_below HR0_1.out HB.out) | (with_reducible refine Kd.C_alloc ?_ _) | (with_reducible refine Kd.C_drewN ?_ _) | (with_reducible refine Kd.C_drew ?_))); (case side2 => exact HC0_1.out); rintro e w55 ⟨rfl, hb⟩; refine ⟨_, rfl, ?_⟩; have n0_ := Zs.mk (Kd.R_below zq47 hb); have n1_ := Zs.mk (Kd.R_below zq92 hb); have n2_ := Zs.mk (kBe (g := gb119) (o := .cells #[.int .i64 a0_0, .slice A0_1 l0_1.length c0_1] 25 (0, 0)) zq15 hb); have n3_ := Zs.mk (kBe (g := gb120) (o := .cells #[.int .i64 0, .int .i64 0] 92 (0, 0)) zq30 hb); have n4_ := Zs.mk (bSp zq11 hb); clear HO123; clear HO127; clear BK119; clear BK120; clear HB; have HO123 := n0_; have HO127 := n1_; have BK119 := n2_; have BK120 := n3_; have HB := n4_; clear n0_ n1_ n2_ n3_ n4_; (try clear hb); (try clear hb2); (try clear hk); (try clear hi)) | ((with_reducible refine gate_callee (f := 65) rfl ?_); refine goesL_ (some 32) rfl rfl Try.func65 zq6 rfl #[.int .i64 (wrap64 ((wrap64 (Int.tdiv a1 a0_0)) + (rd y121 a2))), .int .i64 0, .int .i64 (wrap64 (t129 - 1))] rfl zq1 ?_; (with_reducible refine (spec_l6In.calls (wrap64 ((wrap64 (Int.tdiv a1 a0_0)) + (rd y121 a2))) 0 (wrap64 (t129 - 1)) false _ A9.out).mono ?_); rintro e w' ⟨rfl, ⟨nd, rfl⟩⟩; refine ⟨_, rfl, ?_⟩; (try (rw [drewN_self w55]; generalize hq_ : World.drewN w55 _ = w55; have n0_ : Zs (Kd.R (Kd.int .i64) 3 w55 w.heap.size (fun k_ => some k_ ≠ (.slice (some ado52) y125.length co52 : Value).ownBlock) (.slice (some ado48) y121.length co48) y121) := ⟨by rw [← hq_]; exact zq60⟩; have n1_ : Zs (Kd.R (Kd.int .i64) 3 w55 w.heap.size (fun k_ => some k_ ≠ (.slice (some ado48) y121.length co48 : Value).ownBlock) (.slice (some ado52) y125.length co52) y125) := ⟨by rw [← hq_]; exact zq61⟩; have n2_ : Zs (w55.heap[gb119]? = some (.cells #[.int .i64 a0_0, .slice A0_1 l0_1.length c0_1] 25 (0, 0))) := ⟨by rw [← hq_]; exact zq15⟩; have n3_ : Zs (w55.heap[gb120]? = some (.cells #[.int .i64 0, .int .i64 0] 92 (0, 0))) := ⟨by rw [← hq_]; exact zq30⟩; have n4_ : Zs (Below w.heap.size w w55) := ⟨by rw [← hq_]; exact zq11⟩; clear HO123 HO127 BK119 BK120 HB hq_; have HO123 := n0_; have HO127 := n1_; have BK119 := n2_; have BK120 := n3_; have HB := n4_; clear n0_ n1_ n2_ n3_ n4_)); have hcz56_0 : w55.cell? ⟨gb120, 0, none⟩ = some (.int .i64 0) := (kCe BK120.out 0).trans rfl; have hcz56_1 : w55.cell? ⟨gb120, 1, none⟩ = some (.int .i64 0) := (kCe BK120.out 1).trans rfl; have hfz56_0 := kFr BK120.out 0; have hfz56_1 := kFr BK120.out 1))
      refine bodyPost_ret (results_ct rfl _ _ gb120 92 #[.int .i64 0, .int .i64 0] (0, 0) _ rfl zq70 Try.underlying92 rfl zq6) rfl ?_
      exact ⟨by first | rfl | (simp [errW_none, errW_some] <;> rfl) | (simp [*, errW_none, errW_some] <;> rfl), by repeat (first | (with_reducible first | exact HB.out | apply bAl | apply bDN | apply bD1 | refine bSt ?_ GE119.out | refine bSt ?_ GE120.out) | exact HB.out)⟩
    ·rw [if_neg c7] at H
     exact absurd H zq58
   ·rw [if_neg c6] at H
    exact absurd H zq58
  ·rw [if_neg c5] at H
   exact absurd H zq58

end Go.Proofs.Ytejgohgmmndgbaa.PFnTrailTurn
--slim
