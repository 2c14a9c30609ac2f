-- Written by a program of this session: the kit's print, with functions among it that were proved by hand.
import Derived.Test.YtejgohgmmndgbaaPFnTrailTurnx0
import Derived.Test.YtejgohgmmndgbaaPFnTrailTurnx3
import Derived.Test.YtejgohgmmndgbaaPFnTrailTurnx4
namespace Go.Proofs.Ytejgohgmmndgbaa.PFnTrailTurn
open Go.RowKit Go.Proofs.YtejgohgmmndgbaaW.PrintWords Go.Proofs.YtejgohgmmndgbaaW.PrintLast Go.Proofs.YtejgohgmmndgbaaW.PrintMore
attribute [local go_sem] max2_int min2_int max_two min_two max_three min_three max_four min_four   -- for this text's walks alone
set_option linter.unusedVariables false
set_option linter.unusedSimpArgs false

/-! ### spec_l2Back: function 127 -/
def spec_l2Back.f (a0 : Int) : Option (Int) := some (Int.tmod (wrap64 (a0 + 2)) 4)
set_option maxHeartbeats 8000000 in
set_option maxRecDepth 100000 in
theorem spec_l2Back.calls (a0 : Int) (r : Int) (w : World) (h : spec_l2Back.f a0 = some r) :
  Calls Try.prog 127 #[.int .i64 a0] w fun e w' => e = .returned (.int .i64 r) ∧ Drawn0 w w' := by
 have H : (some (Int.tmod (wrap64 (a0 + 2)) 4)) = some r := h
 clear h
 obtain rfl := Option.some.inj H
 go_enter Try.func127, Try.ntmps127
 go_wp2
 go_ret
 exact ⟨by first | rfl | (simp; done) | (simp [*]; done), by repeat (first | exact Drawn0.refl _ | apply Drawn0.step)⟩

/-! ### spec_l3Of: function 120 -/
def spec_l3Of.l0 : Nat → Int → Int → Int → Int → List (S57) → Option (Int)
 | 0, _, _, _, _, _ => none
 | k + 1, x1, x2, x7, x133000, x133001 => (spec_l3Many.f x133000 x133001).bind fun t133 => (if x7 < t133 then ((spec_l3Ray.f x133000 x133001 x7).bind fun bt134 => (if bt134.1 = x1 then ((spec_l2Back.f bt134.2).bind fun t137 => (if t137 = x2 then (some x7) else (spec_l3Of.l0 k x1 x2 (wrap64 (x7 + 1)) x133000 x133001))) else (spec_l3Of.l0 k x1 x2 (wrap64 (x7 + 1)) x133000 x133001))) else (some (-1)))
def spec_l3Of.f (k : Nat) (a0_0 : Int) (l0_1 : List (S57)) (a1 : Int) (a2 : Int) : Option (Int) := spec_l3Of.l0 k a1 a2 0 a0_0 l0_1
theorem spec_l3Of.mono_l : ∀ k, (∀ y0 y1 y2 y3 y4, LeO (spec_l3Of.l0 k y0 y1 y2 y3 y4) (spec_l3Of.l0 (k + 1) y0 y1 y2 y3 y4))
 | 0 => fun _ _ _ _ _ r h => by simp [spec_l3Of.l0] at h
 | k + 1 => by
  have ih0 := spec_l3Of.mono_l k
  ·intro y0 y1 y2 y3 y4
   unfold spec_l3Of.l0
   repeat' first
   | (with_reducible exact ih0 _ _ _ _ _)
   | (with_reducible exact LeO.refl _)
   | (with_reducible exact LeO.none _)
   | (with_reducible refine LeO.ite ?_ ?_)
   | (with_reducible refine LeO.bind ?_ (fun _ => ?_))
   | exact ih0 _ _ _ _ _
   | exact LeO.none _
   | refine LeO.ite ?_ ?_
   | refine LeO.bind ?_ (fun _ => ?_)
theorem spec_l3Of.mono : ∀ a0 a1 a2 a3 k, LeO (spec_l3Of.f k a0 a1 a2 a3) (spec_l3Of.f (k + 1) a0 a1 a2 a3) := by
 intro a0 a1 a2 a3 k
 have ih0 := spec_l3Of.mono_l k
 unfold spec_l3Of.f
 repeat' first
   | (with_reducible exact ih0 _ _ _ _ _)
   | (with_reducible exact LeO.refl _)
   | (with_reducible exact LeO.none _)
   | (with_reducible refine LeO.ite ?_ ?_)
   | (with_reducible refine LeO.bind ?_ (fun _ => ?_))
   | exact ih0 _ _ _ _ _
   | exact LeO.none _
   | refine LeO.ite ?_ ?_
   | refine LeO.bind ?_ (fun _ => ?_)
set_option maxHeartbeats 8000000 in
set_option maxRecDepth 100000 in
theorem spec_l3Of.calls (k : Nat) (a0_0 : Int) (A0_1 : Option Addr) (c0_1 : Nat) (l0_1 : List (S57)) (a1 : Int) (a2 : Int) (r : Int) (w : World) (hr0_1 : Kd.C k57 w A0_1 l0_1.length l0_1) (hc0_1 : l0_1.length ≤ c0_1) (h : spec_l3Of.f k a0_0 l0_1 a1 a2 = some r) :
  Calls Try.prog 120 #[.agg #[.int .i64 a0_0, .slice A0_1 l0_1.length c0_1], .int .i64 a1, .int .i64 a2] w fun e w' => e = .returned (.int .i64 r) ∧ Below w.heap.size w w' := by
 have hu25 := Try.underlying25
 have hu92 := Try.underlying92
 have HR0_1 := Zs.mk hr0_1
 have HC0_1 := Zs.mk hc0_1
 clear hr0_1 hc0_1
 have HB := Zs.mk (Below.refl w.heap.size w)
 have H : (spec_l3Of.l0 k a1 a2 0 a0_0 l0_1) = some r := h
 clear h
 have H' := Zs.mk H
 clear H
 go_enter Try.func120, Try.ntmps120
 go_wp2_with (first | ((with_reducible refine gate_dst (N := 3) rfl ?_); refine box_event ?hg (N := 3) ?hd (cs := #[.int .i64 a0_0, .slice A0_1 l0_1.length c0_1]) (t := 25) ?hr ?_; (case hd => rfl); (case hg => rfl); (case hr => first | (go_simp; done) | (go_simp; rfl)); intro gb132 hg w4 hbox hb; have n0_ := Zs.mk (bSp zq2 hb); have n1_ := Zs.mk (hbox); have n2_ := Zs.mk ((by rw [hg]; exact (bSz zq2) : w.heap.size ≤ gb132)); have n3_ := Zs.mk ((by rw [hg]; exact (bSz zq2) : w.heap.size ≤ gb132)); clear HB; have HB := n0_; have BK132 := n1_; have GW132 := n2_; have GE132 := n3_; clear n0_ n1_ n2_ n3_; clear hb hbox hg))
 go_loopg [7] k (fun kq v7 w' => ∃ (x7_1 : Int), v7 = .int .i64 x7_1 ∧ Zs (spec_l3Of.l0 kq a1 a2 x7_1 a0_0 l0_1 = some r) ∧ Zs (kq ≤ k) ∧ Zs (w'.heap[gb132]? = some (.cells #[.int .i64 a0_0, (.slice A0_1 l0_1.length c0_1)] 25 (0, 0))) ∧ Zs (Below w.heap.size w w'))
 case atStart => exact ⟨(0), zq13, H', ⟨Nat.le_refl _⟩, ⟨by (with_reducible repeat (first | refine kDN ?_ _ | refine kDr ?_ | refine kAl ?_ _)); exact BK132.out⟩, ⟨by repeat (first | (with_reducible first | exact HB.out | apply bAl | apply bDN | apply bD1 | refine bSt ?_ GE132.out) | exact HB.out)⟩⟩
 case round =>
  clear H'
  try clear c1
  try clear p2
  obtain ⟨x7_1, rfl, HA, HK1, BK132, HB⟩ := hrel
  cases gk with
  | zero => exact absurd HA.out (by simp [spec_l3Of.l0])
  | succ k1 =>
   have H := HA.out
   clear HA
   simp only [spec_l3Of.l0] at H
   replace H := Option.bind_eq_some_iff.mp H
   obtain ⟨t133, A50, H⟩ := H
   replace H : (if x7_1 < t133 then ((spec_l3Ray.f a0_0 l0_1 x7_1).bind fun bt134 => (if bt134.1 = a1 then ((spec_l2Back.f bt134.2).bind fun t137 => (if t137 = a2 then (some x7_1) else (spec_l3Of.l0 k1 a1 a2 (wrap64 (x7_1 + 1)) a0_0 l0_1))) else (spec_l3Of.l0 k1 a1 a2 (wrap64 (x7_1 + 1)) a0_0 l0_1))) else (some (-1))) = some r := H
   have A5 := Zs.mk A50
   clear A50
   by_cases c6 : x7_1 < t133
   ·rw [if_pos c6] at H
    have c6b0 : decide (x7_1 < t133) = true := decide_eq_true c6
    clear c6
    replace H := Option.bind_eq_some_iff.mp H
    obtain ⟨⟨t134, t135⟩, A70, H⟩ := H
    replace H : (if t134 = a1 then ((spec_l2Back.f t135).bind fun t137 => (if t137 = a2 then (some x7_1) else (spec_l3Of.l0 k1 a1 a2 (wrap64 (x7_1 + 1)) a0_0 l0_1))) else (spec_l3Of.l0 k1 a1 a2 (wrap64 (x7_1 + 1)) a0_0 l0_1)) = some r := H
    have A7 := Zs.mk A70
    clear A70
    by_cases c8 : t134 = a1
    ·rw [if_pos c8] at H
     have c8b0 : (t134 == a1) = true := beq_iff_eq.mpr c8
     have c8b1 : (t134 != a1) = false := bne_eq_false_iff_eq.mpr c8
     clear c8
     replace H := Option.bind_eq_some_iff.mp H
     obtain ⟨t137, A90, H⟩ := H
     replace H : (if t137 = a2 then (some x7_1) else (spec_l3Of.l0 k1 a1 a2 (wrap64 (x7_1 + 1)) a0_0 l0_1)) = some r := H
     have A9 := Zs.mk A90
     clear A90
     by_cases c10 : t137 = a2
     ·rw [if_pos c10] at H
      have c10b0 : (t137 == a2) = true := beq_iff_eq.mpr c10
      have c10b1 : (t137 != a2) = false := bne_eq_false_iff_eq.mpr c10
      clear c10
      obtain rfl := Option.some.inj H
      have hcz11_0 : wr.cell? ⟨gb132, 0, none⟩ = some (.int .i64 a0_0) := (kCe BK132.out 0).trans rfl
      have hcz11_1 : wr.cell? ⟨gb132, 1, none⟩ = some (.slice A0_1 l0_1.length c0_1) := (kCe BK132.out 1).trans rfl
      have hfz11_0 := kFr BK132.out 0
      have hfz11_1 := kFr BK132.out 1
      go_wp2_with (first | ((with_reducible refine gate_callee (f := 75) rfl ?_); refine goesL_ (some 11) rfl rfl Try.func75 zq6 rfl #[.agg #[.int .i64 a0_0, .slice A0_1 l0_1.length c0_1]] rfl zq1 ?_; (with_reducible refine (spec_l3Many.calls a0_0 _ _ l0_1 t133 _ ?side1 ?side2 A5.out).mono ?_); (case side1 => repeat (first | exact (Kd.C_below HR0_1.out HB.out) | (with_reducible refine Kd.C_alloc ?_ _) | (with_reducible refine Kd.C_drewN ?_ _) | (with_reducible refine Kd.C_drew ?_))); (case side2 => exact HC0_1.out); rintro e w12 ⟨rfl, hb⟩; refine ⟨_, rfl, ?_⟩; have n0_ := Zs.mk (kBe (g := gb132) (o := .cells #[.int .i64 a0_0, .slice A0_1 l0_1.length c0_1] 25 (0, 0)) zq25 hb); have n1_ := Zs.mk (bSp zq18 hb); clear BK132; clear HB; have BK132 := n0_; have HB := n1_; clear n0_ n1_; (try clear hb); (try clear hb2); (try clear hk); (try clear hi); have hcz13_0 : w12.cell? ⟨gb132, 0, none⟩ = some (.int .i64 a0_0) := (kCe BK132.out 0).trans rfl; have hcz13_1 : w12.cell? ⟨gb132, 1, none⟩ = some (.slice A0_1 l0_1.length c0_1) := (kCe BK132.out 1).trans rfl; have hfz13_0 := kFr BK132.out 0; have hfz13_1 := kFr BK132.out 1) | ((with_reducible refine gate_callee (f := 76) rfl ?_); refine goesL_ (some 17) rfl rfl Try.func76 zq6 rfl #[.agg #[.int .i64 a0_0, .slice A0_1 l0_1.length c0_1], .int .i64 x7_1] rfl zq1 ?_; (with_reducible refine (spec_l3Ray.calls a0_0 _ _ l0_1 x7_1 t134 t135 _ ?side1 ?side2 A7.out).mono ?_); (case side1 => repeat (first | exact (Kd.C_below HR0_1.out HB.out) | (with_reducible refine Kd.C_alloc ?_ _) | (with_reducible refine Kd.C_drewN ?_ _) | (with_reducible refine Kd.C_drew ?_))); (case side2 => exact HC0_1.out); rintro e w14 ⟨rfl, hb⟩; refine ⟨_, rfl, ?_⟩; have n0_ := Zs.mk (kBe (g := gb132) (o := .cells #[.int .i64 a0_0, .slice A0_1 l0_1.length c0_1] 25 (0, 0)) zq25 hb); have n1_ := Zs.mk (bSp zq18 hb); clear BK132; clear HB; have BK132 := n0_; have HB := n1_; clear n0_ n1_; (try clear hb); (try clear hb2); (try clear hk); (try clear hi)) | ((with_reducible refine gate_dst (N := 8) rfl ?_); refine box_event ?hg (N := 8) ?hd (cs := #[.int .i64 0, .int .i64 0]) (t := 92) ?hr ?_; (case hd => rfl); (case hg => rfl); (case hr => first | (go_simp; done) | (go_simp; rfl)); intro gb136 hg w15 hbox hb; have n0_ := Zs.mk (kBe (g := gb132) (o := .cells #[.int .i64 a0_0, .slice A0_1 l0_1.length c0_1] 25 (0, 0)) zq25 hb); have n1_ := Zs.mk (bSp zq18 hb); have n2_ := Zs.mk (hbox); have n3_ := Zs.mk ((by rw [hg]; exact (bSz zq18) : w.heap.size ≤ gb136)); have n4_ := Zs.mk ((by rw [hg]; exact (bSz zq18) : w.heap.size ≤ gb136)); have n5_ := Zs.mk ((by rw [hg]; exact Nat.ne_of_lt (blk_lt (g := gb132) (o := .cells #[.int .i64 a0_0, .slice A0_1 l0_1.length c0_1] 25 (0, 0)) zq25) : gb132 ≠ gb136)); have n6_ := Zs.mk ((by rw [hg]; exact Nat.ne_of_gt (blk_lt (g := gb132) (o := .cells #[.int .i64 a0_0, .slice A0_1 l0_1.length c0_1] 25 (0, 0)) zq25) : gb136 ≠ gb132)); clear BK132; clear HB; have BK132 := n0_; have HB := n1_; have BK136 := n2_; have GW136 := n3_; have GE136 := n4_; have NB132_136 := n5_; have NB136_132 := n6_; clear n0_ n1_ n2_ n3_ n4_ n5_ n6_; clear hb hbox hg; have hnb16 := NB136_132.out; have hnc16 := NB132_136.out; have hcz17_0 : w15.cell? ⟨gb136, 0, none⟩ = some (.int .i64 0) := (kCe BK136.out 0).trans rfl; have hcz17_1 : w15.cell? ⟨gb136, 1, none⟩ = some (.int .i64 0) := (kCe BK136.out 1).trans rfl; have hfz17_0 := kFr BK136.out 0; have hfz17_1 := kFr BK136.out 1) | (go_at_call 127; (with_reducible refine (spec_l2Back.calls t135 t137 _ A9.out).mono ?_); rintro e w' ⟨rfl, ⟨nd, rfl⟩⟩))
      go_ret
      exact ⟨by first | rfl | (simp [errW_none, errW_some] <;> rfl) | (simp [*, errW_none, errW_some] <;> rfl), by repeat (first | (with_reducible first | exact HB.out | apply bAl | apply bDN | apply bD1 | refine bSt ?_ GE132.out | refine bSt ?_ GE136.out) | exact HB.out)⟩
     ·rw [if_neg c10] at H
      have c10b0 : (t137 == a2) = false := beq_eq_false_iff_ne.mpr c10
      have c10b1 : (t137 != a2) = true := bne_iff_ne.mpr c10
      have H' := Zs.mk H
      clear H
      have hcz18_0 : wr.cell? ⟨gb132, 0, none⟩ = some (.int .i64 a0_0) := (kCe BK132.out 0).trans rfl
      have hcz18_1 : wr.cell? ⟨gb132, 1, none⟩ = some (.slice A0_1 l0_1.length c0_1) := (kCe BK132.out 1).trans rfl
      have hfz18_0 := kFr BK132.out 0
      have hfz18_1 := kFr BK132.out 1
      go_wp2_with (first | ((with_reducible refine gate_callee (f := 75) rfl ?_); refine goesL_ (some 11) rfl rfl Try.func75 zq6 rfl #[.agg #[.int .i64 a0_0, .slice A0_1 l0_1.length c0_1]] rfl zq1 ?_; (with_reducible refine (spec_l3Many.calls a0_0 _ _ l0_1 t133 _ ?side1 ?side2 A5.out).mono ?_); (case side1 => repeat (first | exact (Kd.C_below HR0_1.out HB.out) | (with_reducible refine Kd.C_alloc ?_ _) | (with_reducible refine Kd.C_drewN ?_ _) | (with_reducible refine Kd.C_drew ?_))); (case side2 => exact HC0_1.out); rintro e w19 ⟨rfl, hb⟩; refine ⟨_, rfl, ?_⟩; have n0_ := Zs.mk (kBe (g := gb132) (o := .cells #[.int .i64 a0_0, .slice A0_1 l0_1.length c0_1] 25 (0, 0)) zq25 hb); have n1_ := Zs.mk (bSp zq18 hb); clear BK132; clear HB; have BK132 := n0_; have HB := n1_; clear n0_ n1_; (try clear hb); (try clear hb2); (try clear hk); (try clear hi); have hcz20_0 : w19.cell? ⟨gb132, 0, none⟩ = some (.int .i64 a0_0) := (kCe BK132.out 0).trans rfl; have hcz20_1 : w19.cell? ⟨gb132, 1, none⟩ = some (.slice A0_1 l0_1.length c0_1) := (kCe BK132.out 1).trans rfl; have hfz20_0 := kFr BK132.out 0; have hfz20_1 := kFr BK132.out 1) | ((with_reducible refine gate_callee (f := 76) rfl ?_); refine goesL_ (some 17) rfl rfl Try.func76 zq6 rfl #[.agg #[.int .i64 a0_0, .slice A0_1 l0_1.length c0_1], .int .i64 x7_1] rfl zq1 ?_; (with_reducible refine (spec_l3Ray.calls a0_0 _ _ l0_1 x7_1 t134 t135 _ ?side1 ?side2 A7.out).mono ?_); (case side1 => repeat (first | exact (Kd.C_below HR0_1.out HB.out) | (with_reducible refine Kd.C_alloc ?_ _) | (with_reducible refine Kd.C_drewN ?_ _) | (with_reducible refine Kd.C_drew ?_))); (case side2 => exact HC0_1.out); rintro e w21 ⟨rfl, hb⟩; refine ⟨_, rfl, ?_⟩; have n0_ := Zs.mk (kBe (g := gb132) (o := .cells #[.int .i64 a0_0, .slice A0_1 l0_1.length c0_1] 25 (0, 0)) zq25 hb); have n1_ := Zs.mk (bSp zq18 hb); clear BK132; clear HB; have BK132 := n0_; have HB := n1_; clear n0_ n1_; (try clear hb); (try clear hb2); (try clear hk); (try clear hi)) | ((with_reducible refine gate_dst (N := 8) rfl ?_); refine box_event ?hg (N := 8) ?hd (cs := #[.int .i64 0, .int .i64 0]) (t := 92) ?hr ?_; (case hd => rfl); (case hg => rfl); (case hr => first | (go_simp; done) | (go_simp; rfl)); intro gb136 hg w22 hbox hb; have n0_ := Zs.mk (kBe (g := gb132) (o := .cells #[.int .i64 a0_0, .slice A0_1 l0_1.length c0_1] 25 (0, 0)) zq25 hb); have n1_ := Zs.mk (bSp zq18 hb); have n2_ := Zs.mk (hbox); have n3_ := Zs.mk ((by rw [hg]; exact (bSz zq18) : w.heap.size ≤ gb136)); have n4_ := Zs.mk ((by rw [hg]; exact (bSz zq18) : w.heap.size ≤ gb136)); have n5_ := Zs.mk ((by rw [hg]; exact Nat.ne_of_lt (blk_lt (g := gb132) (o := .cells #[.int .i64 a0_0, .slice A0_1 l0_1.length c0_1] 25 (0, 0)) zq25) : gb132 ≠ gb136)); have n6_ := Zs.mk ((by rw [hg]; exact Nat.ne_of_gt (blk_lt (g := gb132) (o := .cells #[.int .i64 a0_0, .slice A0_1 l0_1.length c0_1] 25 (0, 0)) zq25) : gb136 ≠ gb132)); clear BK132; clear HB; have BK132 := n0_; have HB := n1_; have BK136 := n2_; have GW136 := n3_; have GE136 := n4_; have NB132_136 := n5_; have NB136_132 := n6_; clear n0_ n1_ n2_ n3_ n4_ n5_ n6_; clear hb hbox hg; have hnb23 := NB136_132.out; have hnc23 := NB132_136.out; have hcz24_0 : w22.cell? ⟨gb136, 0, none⟩ = some (.int .i64 0) := (kCe BK136.out 0).trans rfl; have hcz24_1 : w22.cell? ⟨gb136, 1, none⟩ = some (.int .i64 0) := (kCe BK136.out 1).trans rfl; have hfz24_0 := kFr BK136.out 0; have hfz24_1 := kFr BK136.out 1) | (go_at_call 127; (with_reducible refine (spec_l2Back.calls t135 t137 _ A9.out).mono ?_); rintro e w' ⟨rfl, ⟨nd, rfl⟩⟩))
      go_roundg k1
      case measure => have := HK1.out; omega
      case rel => exact ⟨(wrap64 (x7_1 + 1)), zq13, H', ⟨by have := HK1.out; omega⟩, ⟨by (with_reducible repeat (first | refine kDN ?_ _ | refine kDr ?_ | refine kAl ?_ _)); refine blk_far ?_ NB132_136.out _; (with_reducible repeat (first | refine kDN ?_ _ | refine kDr ?_ | refine kAl ?_ _)); refine blk_far ?_ NB132_136.out _; (with_reducible repeat (first | refine kDN ?_ _ | refine kDr ?_ | refine kAl ?_ _)); exact BK132.out⟩, ⟨by repeat (first | (with_reducible first | exact HB.out | apply bAl | apply bDN | apply bD1 | refine bSt ?_ GE132.out | refine bSt ?_ GE136.out) | exact HB.out)⟩⟩
    ·rw [if_neg c8] at H
     have c8b0 : (t134 == a1) = false := beq_eq_false_iff_ne.mpr c8
     have c8b1 : (t134 != a1) = true := bne_iff_ne.mpr c8
     have H' := Zs.mk H
     clear H
     have hcz25_0 : wr.cell? ⟨gb132, 0, none⟩ = some (.int .i64 a0_0) := (kCe BK132.out 0).trans rfl
     have hcz25_1 : wr.cell? ⟨gb132, 1, none⟩ = some (.slice A0_1 l0_1.length c0_1) := (kCe BK132.out 1).trans rfl
     have hfz25_0 := kFr BK132.out 0
     have hfz25_1 := kFr BK132.out 1
     go_wp2_with (first | ((with_reducible refine gate_callee (f := 75) rfl ?_); refine goesL_ (some 11) rfl rfl Try.func75 zq6 rfl #[.agg #[.int .i64 a0_0, .slice A0_1 l0_1.length c0_1]] rfl zq1 ?_; (with_reducible refine (spec_l3Many.calls a0_0 _ _ l0_1 t133 _ ?side1 ?side2 A5.out).mono ?_); (case side1 => repeat (first | exact (Kd.C_below HR0_1.out HB.out) | (with_reducible refine Kd.C_alloc ?_ _) | (with_reducible refine Kd.C_drewN ?_ _) | (with_reducible refine Kd.C_drew ?_))); (case side2 => exact HC0_1.out); rintro e w26 ⟨rfl, hb⟩; refine ⟨_, rfl, ?_⟩; have n0_ := Zs.mk (kBe (g := gb132) (o := .cells #[.int .i64 a0_0, .slice A0_1 l0_1.length c0_1] 25 (0, 0)) zq25 hb); have n1_ := Zs.mk (bSp zq18 hb); clear BK132; clear HB; have BK132 := n0_; have HB := n1_; clear n0_ n1_; (try clear hb); (try clear hb2); (try clear hk); (try clear hi); have hcz27_0 : w26.cell? ⟨gb132, 0, none⟩ = some (.int .i64 a0_0) := (kCe BK132.out 0).trans rfl; have hcz27_1 : w26.cell? ⟨gb132, 1, none⟩ = some (.slice A0_1 l0_1.length c0_1) := (kCe BK132.out 1).trans rfl; have hfz27_0 := kFr BK132.out 0; have hfz27_1 := kFr BK132.out 1) | ((with_reducible refine gate_callee (f := 76) rfl ?_); refine goesL_ (some 17) rfl rfl Try.func76 zq6 rfl #[.agg #[.int .i64 a0_0, .slice A0_1 l0_1.length c0_1], .int .i64 x7_1] rfl zq1 ?_; (with_reducible refine (spec_l3Ray.calls a0_0 _ _ l0_1 x7_1 t134 t135 _ ?side1 ?side2 A7.out).mono ?_); (case side1 => repeat (first | exact (Kd.C_below HR0_1.out HB.out) | (with_reducible refine Kd.C_alloc ?_ _) | (with_reducible refine Kd.C_drewN ?_ _) | (with_reducible refine Kd.C_drew ?_))); (case side2 => exact HC0_1.out); rintro e w28 ⟨rfl, hb⟩; refine ⟨_, rfl, ?_⟩; have n0_ := Zs.mk (kBe (g := gb132) (o := .cells #[.int .i64 a0_0, .slice A0_1 l0_1.length c0_1] 25 (0, 0)) zq25 hb); have n1_ := Zs.mk (bSp zq18 hb); clear BK132; clear HB; have BK132 := n0_; have HB := n1_; clear n0_ n1_; (try clear hb); (try clear hb2); (try clear hk); (try clear hi)) | ((with_reducible refine gate_dst (N := 8) rfl ?_); refine box_event ?hg (N := 8) ?hd (cs := #[.int .i64 0, .int .i64 0]) (t := 92) ?hr ?_; (case hd => rfl); (case hg => rfl); (case hr => first | (go_simp; done) | (go_simp; rfl)); intro gb136 hg w29 hbox hb; have n0_ := Zs.mk (kBe (g := gb132) (o := .cells #[.int .i64 a0_0, .slice A0_1 l0_1.length c0_1] 25 (0, 0)) zq25 hb); have n1_ := Zs.mk (bSp zq18 hb); have n2_ := Zs.mk (hbox); have n3_ := Zs.mk ((by rw [hg]; exact (bSz zq18) : w.heap.size ≤ gb136)); have n4_ := Zs.mk ((by rw [hg]; exact (bSz zq18) : w.heap.size ≤ gb136)); have n5_ := Zs.mk ((by rw [hg]; exact Nat.ne_of_lt (blk_lt (g := gb132) (o := .cells #[.int .i64 a0_0, .slice A0_1 l0_1.length c0_1] 25 (0, 0)) zq25) : gb132 ≠ gb136)); have n6_ := Zs.mk ((by rw [hg]; exact Nat.ne_of_gt (blk_lt (g := gb132) (o := .cells #[.int .i64 a0_0, .slice A0_1 l0_1.length c0_1] 25 (0, 0)) zq25) : gb136 ≠ gb132)); clear BK132; clear HB; have BK132 := n0_; have HB := n1_; have BK136 := n2_; have GW136 := n3_; have GE136 := n4_; have NB132_136 := n5_; have NB136_132 := n6_; clear n0_ n1_ n2_ n3_ n4_ n5_ n6_; clear hb hbox hg; have hnb30 := NB136_132.out; have hnc30 := NB132_136.out; have hcz31_0 : w29.cell? ⟨gb136, 0, none⟩ = some (.int .i64 0) := (kCe BK136.out 0).trans rfl; have hcz31_1 : w29.cell? ⟨gb136, 1, none⟩ = some (.int .i64 0) := (kCe BK136.out 1).trans rfl; have hfz31_0 := kFr BK136.out 0; have hfz31_1 := kFr BK136.out 1))
     go_roundg k1
     case measure => have := HK1.out; omega
     case rel => exact ⟨(wrap64 (x7_1 + 1)), zq13, H', ⟨by have := HK1.out; omega⟩, ⟨by (with_reducible repeat (first | refine kDN ?_ _ | refine kDr ?_ | refine kAl ?_ _)); refine blk_far ?_ NB132_136.out _; (with_reducible repeat (first | refine kDN ?_ _ | refine kDr ?_ | refine kAl ?_ _)); refine blk_far ?_ NB132_136.out _; (with_reducible repeat (first | refine kDN ?_ _ | refine kDr ?_ | refine kAl ?_ _)); exact BK132.out⟩, ⟨by repeat (first | (with_reducible first | exact HB.out | apply bAl | apply bDN | apply bD1 | refine bSt ?_ GE132.out | refine bSt ?_ GE136.out) | exact HB.out)⟩⟩
   ·rw [if_neg c6] at H
    have c6b0 : decide (x7_1 < t133) = false := decide_eq_false c6
    clear c6
    obtain rfl := Option.some.inj H
    have hcz32_0 : wr.cell? ⟨gb132, 0, none⟩ = some (.int .i64 a0_0) := (kCe BK132.out 0).trans rfl
    have hcz32_1 : wr.cell? ⟨gb132, 1, none⟩ = some (.slice A0_1 l0_1.length c0_1) := (kCe BK132.out 1).trans rfl
    have hfz32_0 := kFr BK132.out 0
    have hfz32_1 := kFr BK132.out 1
    go_wp2_with (first | ((with_reducible refine gate_callee (f := 75) rfl ?_); refine goesL_ (some 11) rfl rfl Try.func75 zq6 rfl #[.agg #[.int .i64 a0_0, .slice A0_1 l0_1.length c0_1]] rfl zq1 ?_; (with_reducible refine (spec_l3Many.calls a0_0 _ _ l0_1 t133 _ ?side1 ?side2 A5.out).mono ?_); (case side1 => repeat (first | exact (Kd.C_below HR0_1.out HB.out) | (with_reducible refine Kd.C_alloc ?_ _) | (with_reducible refine Kd.C_drewN ?_ _) | (with_reducible refine Kd.C_drew ?_))); (case side2 => exact HC0_1.out); rintro e w33 ⟨rfl, hb⟩; refine ⟨_, rfl, ?_⟩; have n0_ := Zs.mk (kBe (g := gb132) (o := .cells #[.int .i64 a0_0, .slice A0_1 l0_1.length c0_1] 25 (0, 0)) zq25 hb); have n1_ := Zs.mk (bSp zq18 hb); clear BK132; clear HB; have BK132 := n0_; have HB := n1_; clear n0_ n1_; (try clear hb); (try clear hb2); (try clear hk); (try clear hi)))
    go_ret
    exact ⟨by first | rfl | (simp [errW_none, errW_some] <;> rfl) | (simp [*, errW_none, errW_some] <;> rfl), by repeat (first | (with_reducible first | exact HB.out | apply bAl | apply bDN | apply bD1 | refine bSt ?_ GE132.out) | exact HB.out)⟩

-- NOT PRINTED: function 100 (spec_l11Walk_leave)

-- NOT PRINTED: function 98 (spec_l11Walk_half)

end Go.Proofs.Ytejgohgmmndgbaa.PFnTrailTurn
--slim
