-- Written by a program of this session: the kit's print, with functions among it that were proved by hand.
import Derived.Test.YtejgohgmmndgbaaPFnTrailTurnx0
import Derived.Test.YtejgohgmmndgbaaPFnTrailTurnx3
import Derived.Test.YtejgohgmmndgbaaPFnTrailTurnx4
import Derived.Test.YtejgohgmmndgbaaPFnTrailTurnx7
import Derived.Test.YtejgohgmmndgbaaPFnTrailTurnx9
import Derived.Test.YtejgohgmmndgbaaPFnTrailTurnx16
namespace Go.Proofs.Ytejgohgmmndgbaa.PFnTrailTurn
open Go.RowKit Go.Proofs.YtejgohgmmndgbaaW.PrintWords Go.Proofs.YtejgohgmmndgbaaW.PrintLast Go.Proofs.YtejgohgmmndgbaaW.PrintMore
attribute [local go_sem] max2_int min2_int max_two min_two max_three min_three max_four min_four   -- for this text's walks alone
set_option linter.unusedVariables false
set_option linter.unusedSimpArgs false

open Go.Proofs.Ytejgohgmmndgbaa.HandA
/-! ### spec_TrailTo: function 10 -/
def spec_TrailTo.l0 : Nat → Int → Int → List (S55) → Int → Option Int
 | 0, _, _, _, _ => none
 | k + 1, to_, n, es, i => if i < (es.length : Int) then (if 0 ≤ i then (if (rd_T55 es i).f0 = 0 then (if (rd_T55 es i).f1 = to_ then spec_TrailTo.l0 k to_ (wrap64 (n + (rd_T55 es i).f2)) es (wrap64 (i + 1)) else spec_TrailTo.l0 k to_ n es (wrap64 (i + 1))) else spec_TrailTo.l0 k to_ n es (wrap64 (i + 1))) else none) else some n
theorem spec_TrailTo.mono_l : ∀ k to_ n es i, LeO (spec_TrailTo.l0 k to_ n es i) (spec_TrailTo.l0 (k + 1) to_ n es i)
 | 0 => fun _ _ _ _ r h => by simp [spec_TrailTo.l0] at h
 | k + 1 => fun to_ n es i => by
  have ih := spec_TrailTo.mono_l k
  unfold spec_TrailTo.l0
  exact LeO.ite (LeO.ite (LeO.ite (LeO.ite (ih _ _ _ _) (ih _ _ _ _)) (ih _ _ _ _)) (LeO.refl _)) (LeO.refl _)
def spec_TrailTo.f (k : Nat) (a0_0 : Int) (l0_1 : List (S57)) (a1 : Int) (a2 : Int) : Option (Int) :=
 (spec_l11Is.f k a0_0 l0_1 a1).bind fun t => if t = true then (spec_l3Ray.f a0_0 l0_1 a1).bind fun x => (comeF k a0_0 l0_1 k x.1 x.2 64 [] []).bind fun r => spec_TrailTo.l0 k a2 0 r.2 0 else some 0
theorem spec_TrailTo.mono : ∀ a0 a1 a2 a3 k, LeO (spec_TrailTo.f k a0 a1 a2 a3) (spec_TrailTo.f (k + 1) a0 a1 a2 a3) := by
 intro a0 a1 a2 a3 k
 unfold spec_TrailTo.f
 exact LeO.bind (spec_l11Is.mono _ _ _ _) fun _ => LeO.ite (LeO.bind (LeO.refl _) fun _ => LeO.bind (comeF_mono _ _ _ _ _ _ _ _ _) fun _ => spec_TrailTo.mono_l _ _ _ _ _) (LeO.refl _)
set_option maxHeartbeats 8000000 in
set_option maxRecDepth 100000 in
theorem spec_TrailTo_no (k : Nat) (w : Int) (A : Option Addr) (c : Nat) (l : List S57) (a1 a2 : Int) (W : World) (hr : Kd.C k57 W A l.length l) (hc : l.length ≤ c) (ht : spec_l11Is.f k w l a1 = some false) :
  Calls Try.prog 10 #[.agg #[.int .i64 w, .slice A l.length c], .int .i64 a1, .int .i64 a2] W fun e w' => e = .returned (.int .i64 0) ∧ Below W.heap.size W w' := by
 go_enter Try.func10, Try.ntmps10
 go_wp2_with (go_at_call 45; refine (spec_l11Is.calls k w A c l a1 false _ zq50 hc ht).mono ?_; rintro e w' ⟨rfl, hbel⟩; have bb : Below W.heap.size W w' := Below.trans zq46 (hbel.mono zq5))
 go_ret
 exact ⟨rfl, bb⟩
set_option maxHeartbeats 8000000 in
set_option maxRecDepth 100000 in
theorem spec_TrailTo_yes (k : Nat) (w : Int) (A : Option Addr) (c : Nat) (l : List S57) (a1 a2 x y s : Int) (r : List S50 × List S55) (W : World) (hr : Kd.C k57 W A l.length l) (hc : l.length ≤ c) (ht : spec_l11Is.f k w l a1 = some true) (hx : spec_l3Ray.f w l a1 = some (x, y)) (hq : comeF k w l k x y 64 [] [] = some r) (hs : spec_TrailTo.l0 k a2 0 r.2 0 = some s) :
  Calls Try.prog 10 #[.agg #[.int .i64 w, .slice A l.length c], .int .i64 a1, .int .i64 a2] W fun e w' => e = .returned (.int .i64 s) ∧ Below W.heap.size W w' := by
 have hu1 := Try.underlying55
 have HS := Zs.mk hs
 clear hs
 go_enter Try.func10, Try.ntmps10
 go_wp2_with (first | (go_at_call 46; refine (l11Go k w A c l a1 x y r _ (Kd.C_below hr bb) hc hx hq).mono ?_; rintro e w2 ⟨bt, v0, v1, rfl, H2⟩; have bb2 : Below W.heap.size W w2 := Below.trans bb (H2.bl.mono bb.size); obtain ⟨A7, c7, e7⟩ := Kd.R_slice H2.re; subst e7; have hrd := Zs.mk (Kd.R_reads' H2.re); have g2 : w2.cell? ⟨bt, 3, none⟩ = some (.slice A7 (r.2).length c7) := (kCe H2.hbt 3).trans rfl) | (go_at_call 45; refine (spec_l11Is.calls k w A c l a1 true _ zq50 hc ht).mono ?_; rintro e w' ⟨rfl, hbel⟩; have bk0 : w'.heap[W.heap.size]? = some (.cells #[.int .i64 w, .slice A l.length c] 25 (0, 0)) := kBe (by exact blk_new W _) hbel; have g0 : w'.cell? ⟨W.heap.size, 0, none⟩ = some (.int .i64 w) := (kCe bk0 0).trans rfl; have g1 : w'.cell? ⟨W.heap.size, 1, none⟩ = some (.slice A l.length c) := (kCe bk0 1).trans rfl; have bb : Below W.heap.size W w' := Below.trans zq46 (hbel.mono zq5)))
 have HBB := Zs.mk bb2
 clear g2 g0 g1
 go_loopg [7, 9] k (fun kq v7 v9 w' => ∃ (x7 x9 : Int), v7 = .int .i64 x7 ∧ v9 = .int .i64 x9 ∧ Zs (spec_TrailTo.l0 kq a2 x7 r.2 x9 = some s) ∧ Zs (kq ≤ k) ∧ w' = w2)
 case atStart => exact ⟨0, 0, rfl, rfl, HS, ⟨Nat.le_refl _⟩, rfl⟩
 case round =>
  obtain ⟨x7, x9, rfl, rfl, HA, HK1, hw⟩ := hrel
  subst hw
  cases gk with
  | zero => exact absurd HA.out (by simp [spec_TrailTo.l0])
  | succ k1 =>
   have H := HA.out
   clear HA HS
   simp only [spec_TrailTo.l0] at H
   by_cases c9 : x9 < (r.2.length : Int)
   ·rw [if_pos c9] at H
    have c9b0 : decide (x9 < (r.2.length : Int)) = true := decide_eq_true c9
    by_cases c10 : 0 ≤ x9
    ·rw [if_pos c10] at H
     obtain ⟨ad270, e270, hx270_0, hx270_1, hx270_2⟩ := at_T55 hrd.out.2.2 x9 c10 c9
     cases e270
     have p270 := eq_true c10
     have q270 := eq_true c9
     clear c9 c10
     by_cases c12 : ((rd_T55 r.2 x9).f0) = 0
     ·rw [if_pos c12] at H
      have c12b0 : (((rd_T55 r.2 x9).f0) == 0) = true := beq_iff_eq.mpr c12
      clear c12
      by_cases c13 : ((rd_T55 r.2 x9).f1) = a2
      ·rw [if_pos c13] at H
       have c13b0 : (((rd_T55 r.2 x9).f1) == a2) = true := beq_iff_eq.mpr c13
       clear c13
       have H' := Zs.mk H
       clear H
       go_wp2
       go_roundg k1
       case measure => have := HK1.out; omega
       case rel => exact ⟨_, _, (by first | rfl | (simp; done)), (by first | rfl | (simp; done)), H', ⟨by have := HK1.out; omega⟩, rfl⟩
      ·rw [if_neg c13] at H
       have c13b0 : (((rd_T55 r.2 x9).f1) == a2) = false := beq_eq_false_iff_ne.mpr c13
       clear c13
       have H' := Zs.mk H
       clear H
       go_wp2
       go_roundg k1
       case measure => have := HK1.out; omega
       case rel => exact ⟨_, _, (by first | rfl | (simp; done)), (by first | rfl | (simp; done)), H', ⟨by have := HK1.out; omega⟩, rfl⟩
     ·rw [if_neg c12] at H
      have c12b0 : (((rd_T55 r.2 x9).f0) == 0) = false := beq_eq_false_iff_ne.mpr c12
      clear c12
      have H' := Zs.mk H
      clear H
      go_wp2
      go_roundg k1
      case measure => have := HK1.out; omega
      case rel => exact ⟨_, _, (by first | rfl | (simp; done)), (by first | rfl | (simp; done)), H', ⟨by have := HK1.out; omega⟩, rfl⟩
    ·rw [if_neg c10] at H; cases H
   ·rw [if_neg c9] at H
    have c9b0 : decide (x9 < (r.2.length : Int)) = false := decide_eq_false c9
    clear c9
    have H' := Option.some.inj H
    clear H
    go_wp2
    go_ret
    exact ⟨by subst H'; rfl, HBB.out⟩
theorem spec_TrailTo.calls (k : Nat) (a0_0 : Int) (A0_1 : Option Addr) (c0_1 : Nat) (l0_1 : List (S57)) (a1 : Int) (a2 : Int) (r : Int) (w : World) (hr0_1 : Kd.C k57 w A0_1 l0_1.length l0_1) (hc0_1 : l0_1.length ≤ c0_1) (h : spec_TrailTo.f k a0_0 l0_1 a1 a2 = some r) :
  Calls Try.prog 10 #[.agg #[.int .i64 a0_0, .slice A0_1 l0_1.length c0_1], .int .i64 a1, .int .i64 a2] w fun e w' => e = .returned (.int .i64 r) ∧ Below w.heap.size w w' := by
 unfold spec_TrailTo.f at h
 obtain ⟨t, ht, h⟩ := Option.bind_eq_some_iff.1 h
 cases t with
 | false => cases (show some (0 : Int) = some r from h); exact spec_TrailTo_no k a0_0 A0_1 c0_1 l0_1 a1 a2 w hr0_1 hc0_1 ht
 | true =>
  obtain ⟨⟨x, y⟩, hx, h⟩ := Option.bind_eq_some_iff.1 (show ((spec_l3Ray.f a0_0 l0_1 a1).bind fun x => (comeF k a0_0 l0_1 k x.1 x.2 64 [] []).bind fun r => spec_TrailTo.l0 k a2 0 r.2 0) = some r from h)
  obtain ⟨rr, hq, h⟩ := Option.bind_eq_some_iff.1 h
  exact spec_TrailTo_yes k a0_0 A0_1 c0_1 l0_1 a1 a2 x y r rr w hr0_1 hc0_1 ht hx hq h

/-! ### laws_llSight: function 11 -/
def laws_llSight.f (k : Nat) (a0_0 : Int) (l0_1 : List (S57)) (a1 : Int) : Option (Bool) := if a1 ≥ 0 then ((spec_SightMany.f k a0_0 l0_1).bind fun t281 => (some (decide (a1 < t281)))) else (some false)
theorem laws_llSight.mono : ∀ a0 a1 a2 k, LeO (laws_llSight.f k a0 a1 a2) (laws_llSight.f (k + 1) a0 a1 a2) := by
 intro a0 a1 a2 k
 unfold laws_llSight.f
 repeat' first
   | (with_reducible exact spec_SightMany.mono _ _ _)
   | (with_reducible exact LeO.refl _)
   | (with_reducible exact LeO.none _)
   | (with_reducible refine LeO.ite ?_ ?_)
   | (with_reducible refine LeO.bind ?_ (fun _ => ?_))
   | exact spec_SightMany.mono _ _ _
   | exact LeO.none _
   | refine LeO.ite ?_ ?_
   | refine LeO.bind ?_ (fun _ => ?_)
set_option maxHeartbeats 8000000 in
set_option maxRecDepth 100000 in
theorem laws_llSight.calls (k : Nat) (a0_0 : Int) (A0_1 : Option Addr) (c0_1 : Nat) (l0_1 : List (S57)) (a1 : Int) (r : Bool) (w : World) (hr0_1 : Kd.C k57 w A0_1 l0_1.length l0_1) (hc0_1 : l0_1.length ≤ c0_1) (h : laws_llSight.f k a0_0 l0_1 a1 = some r) :
  Calls Try.prog 11 #[.agg #[.int .i64 a0_0, .slice A0_1 l0_1.length c0_1], .int .i64 a1] w fun e w' => e = .returned (.bool r) ∧ Below w.heap.size w w' := by
 have hu25 := Try.underlying25
 have HR0_1 := Zs.mk hr0_1
 have HC0_1 := Zs.mk hc0_1
 clear hr0_1 hc0_1
 have HB := Zs.mk (Below.refl w.heap.size w)
 have H : (if a1 ≥ 0 then ((spec_SightMany.f k a0_0 l0_1).bind fun t281 => (some (decide (a1 < t281)))) else (some false)) = some r := h
 clear h
 by_cases c3 : a1 ≥ 0
 ·rw [if_pos c3] at H
  have c3b0 : decide (0 ≤ a1) = true := decide_eq_true c3
  clear c3
  replace H := Option.bind_eq_some_iff.mp H
  obtain ⟨t281, A40, H⟩ := H
  replace H : (some (decide (a1 < t281))) = some r := H
  have A4 := Zs.mk A40
  clear A40
  obtain rfl := Option.some.inj H
  go_enter Try.func11, Try.ntmps11
  go_wp2_with (first | ((with_reducible refine gate_dst (N := 2) rfl ?_); refine box_event ?hg (N := 2) ?hd (cs := #[.int .i64 a0_0, .slice A0_1 l0_1.length c0_1]) (t := 25) ?hr ?_; (case hd => rfl); (case hg => rfl); (case hr => first | (go_simp; done) | (go_simp; rfl)); intro gb280 hg w5 hbox hb; have n0_ := Zs.mk (bSp zq2 hb); have n1_ := Zs.mk (hbox); have n2_ := Zs.mk ((by rw [hg]; exact (bSz zq2) : w.heap.size ≤ gb280)); have n3_ := Zs.mk ((by rw [hg]; exact (bSz zq2) : w.heap.size ≤ gb280)); clear HB; have HB := n0_; have BK280 := n1_; have GW280 := n2_; have GE280 := n3_; clear n0_ n1_ n2_ n3_; clear hb hbox hg; have hcz6_0 : w5.cell? ⟨gb280, 0, none⟩ = some (.int .i64 a0_0) := (kCe BK280.out 0).trans rfl; have hcz6_1 : w5.cell? ⟨gb280, 1, none⟩ = some (.slice A0_1 l0_1.length c0_1) := (kCe BK280.out 1).trans rfl; have hfz6_0 := kFr BK280.out 0; have hfz6_1 := kFr BK280.out 1) | (go_at_call 47; (with_reducible refine (spec_SightMany.calls k a0_0 _ _ l0_1 t281 _ ?side1 ?side2 A4.out).mono ?_); (case side1 => repeat (first | exact (Kd.C_below HR0_1.out HB.out) | (with_reducible refine Kd.C_alloc ?_ _) | (with_reducible refine Kd.C_drewN ?_ _) | (with_reducible refine Kd.C_drew ?_))); (case side2 => exact HC0_1.out); rintro e w7 ⟨rfl, hb⟩; have n0_ := Zs.mk (kBe (g := gb280) (o := .cells #[.int .i64 a0_0, .slice A0_1 l0_1.length c0_1] 25 (0, 0)) (by (with_reducible repeat (first | refine kDN ?_ _ | refine kDr ?_ | refine kAl ?_ _)); exact BK280.out) hb); have n1_ := Zs.mk (bSp (by repeat (first | (with_reducible first | exact HB.out | apply bAl | apply bDN | apply bD1 | refine bSt ?_ GE280.out) | exact HB.out)) hb); clear BK280; clear HB; have BK280 := n0_; have HB := n1_; clear n0_ n1_; (try clear hb); (try clear hb2); (try clear hk); (try clear hi)))
  go_ret
  exact ⟨by first | rfl | (simp [errW_none, errW_some] <;> rfl) | (simp [*, errW_none, errW_some] <;> rfl), by repeat (first | (with_reducible first | exact HB.out | apply bAl | apply bDN | apply bD1 | refine bSt ?_ GE280.out) | exact HB.out)⟩
 ·rw [if_neg c3] at H
  have c3b0 : decide (0 ≤ a1) = false := decide_eq_false c3
  clear c3
  obtain rfl := Option.some.inj H
  go_enter Try.func11, Try.ntmps11
  go_wp2_with (first | ((with_reducible refine gate_dst (N := 2) rfl ?_); refine box_event ?hg (N := 2) ?hd (cs := #[.int .i64 a0_0, .slice A0_1 l0_1.length c0_1]) (t := 25) ?hr ?_; (case hd => rfl); (case hg => rfl); (case hr => first | (go_simp; done) | (go_simp; rfl)); intro gb280 hg w8 hbox hb; have n0_ := Zs.mk (bSp zq2 hb); have n1_ := Zs.mk (hbox); have n2_ := Zs.mk ((by rw [hg]; exact (bSz zq2) : w.heap.size ≤ gb280)); have n3_ := Zs.mk ((by rw [hg]; exact (bSz zq2) : w.heap.size ≤ gb280)); clear HB; have HB := n0_; have BK280 := n1_; have GW280 := n2_; have GE280 := n3_; clear n0_ n1_ n2_ n3_; clear hb hbox hg))
  go_ret
  exact ⟨by first | rfl | (simp [errW_none, errW_some] <;> rfl) | (simp [*, errW_none, errW_some] <;> rfl), by repeat (first | (with_reducible first | exact HB.out | apply bAl | apply bDN | apply bD1 | refine bSt ?_ GE280.out) | exact HB.out)⟩

-- NOT PRINTED: function 79 (impl_cellSwapped)

-- NOT PRINTED: function 50 (impl_gridMoved)

end Go.Proofs.Ytejgohgmmndgbaa.PFnTrailTurn
--slim
