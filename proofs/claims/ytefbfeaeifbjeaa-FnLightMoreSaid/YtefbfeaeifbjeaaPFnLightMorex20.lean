-- Written by a program of this session: the kit's print, with functions among it that were proved by hand.
import Derived.Test.YtefbfeaeifbjeaaPFnLightMorex0
import Derived.Test.YtefbfeaeifbjeaaPFnLightMorex15
import Derived.Test.YtefbfeaeifbjeaaPFnLightMorex18
import Derived.Test.YtefbfeaeifbjeaaPFnLightMorex19
namespace Go.Proofs.Ytefbfeaeifbjeaa.PFnLightMore
open Go.RowKit Go.Proofs.YtefbfeaeifbjeaaW.PrintWords Go.Proofs.YtefbfeaeifbjeaaW.PrintLast Go.Proofs.YtefbfeaeifbjeaaW.PrintMore
attribute [local go_sem] max2_int min2_int max_two min_two max_three min_three max_four min_four   -- for this text's walks alone
set_option linter.unusedVariables false
set_option linter.unusedSimpArgs false


open Go.Proofs.Ytefbfeaeifbjeaa.HandA
/-! ### spec's walk from a sight -/
set_option maxHeartbeats 8000000 in
set_option maxRecDepth 100000 in
theorem l11Go (k : Nat) (w : Int) (A : Option Addr) (c : Nat) (l : List S57) (a1 with_reducible_ y : Int) (r : List S65 × List S60) (W : World) (hr : Kd.C k57 W A l.length l) (hc : l.length ≤ c) (hx : spec_l3Ray.f w l a1 = some (with_reducible_, y)) (hq : comeF k w l k with_reducible_ y 64 [] [] = some r) :
  Calls Try.prog 56 #[.agg #[.int .i64 w, .slice A l.length c], .int .i64 a1] W fun e w' => ∃ (bt : Nat) (v0 v1 : Value), e = .returned (.pointer (some ⟨bt, 0, none⟩)) ∧ WalkSt W w' W.heap.size bt w A l.length c v0 v1 r.1 r.2 := by
 have HX : Zs (WalkSt W ((((W.alloc (.cells #[.int .i64 w, .slice A l.length c] 25 (0, 0))).alloc (.cells #[] 65 (0, 0))).alloc (.cells #[] 60 (0, 0))).alloc (.cells #[.int .i64 w, .slice A l.length c, .slice (some ⟨W.heap.size + 1, 0, none⟩) 0 0, .slice (some ⟨W.heap.size + 1 + 1, 0, none⟩) 0 0] 81 (0, 0))) W.heap.size (W.heap.size + 1 + 1 + 1) w A l.length c (.slice (some ⟨W.heap.size + 1, 0, none⟩) 0 0) (.slice (some ⟨W.heap.size + 1 + 1, 0, none⟩) 0 0) [] []) := by
  refine ⟨⟨four_new W _ _ _ _, R_lit0 (kAl (two_new W _ _ _) _) (by omega) (by omega), R_lit0 (kAl (three_new W _ _ _) _) (by omega) (by omega), ?_, by omega⟩⟩
  repeat (first | exact Below.refl _ _ | refine Below.alloc ?_ (by first | (simp; done) | (simp; omega)) _)
 have HC : Zs (∀ W', Below W.heap.size W W' → Kd.C k57 W' A l.length l) := ⟨fun _ hb => Kd.C_below hr hb⟩
 have HQ := Zs.mk hq
 clear hr hq
 go_enter Try.func56, Try.ntmps56
 go_wp2_with (first | (go_at_call 75; refine (come_all k W W.heap.size _ w A c l HC.out hc k with_reducible_ y 64 [] [] _ _ r _ HQ.out (H1.out.alloc _)).mono ?_; rintro e w2 ⟨rfl, va, vb, h2⟩; have H2 := Zs.mk h2; clear h2) | (go_at_call 74; refine (spec_l3Ray.calls w A c l a1 with_reducible_ y _ (HC.out _ HX.out.bl) hc hx).mono ?_; rintro e w1 ⟨rfl, hb1⟩; have H1 := Zs.mk (HX.out.below hb1); clear hb1))
 go_ret
 exact ⟨_, _, _, rfl, H2.out⟩

/-! ### spec_l11Light: function 63 -/
def spec_l11Light.l0 : Nat → List (S60) → Int → Int → Int → List (S57) → Option (Int)
 | 0, _, _, _, _, _ => none
 | k + 1, x1, x5, x6, x173000, x173001 => if x6 < (x1.length : Int) then (if 0 ≤ x6 then (if ((rd_T60 x1 x6).f0) = 2 then (if 0 ≤ ((rd_T60 x1 x6).f1) then (if ((rd_T60 x1 x6).f1) < (x173001.length : Int) then (spec_l11Light.l0 k x1 (wrap64 (x5 + (wrap64 (((rd_T60 x1 x6).f2) * ((rd_T57 x173001 ((rd_T60 x1 x6).f1)).f1))))) (wrap64 (x6 + 1)) x173000 x173001) else (none)) else (none)) else (spec_l11Light.l0 k x1 x5 (wrap64 (x6 + 1)) x173000 x173001)) else (none)) else (some x5)
def spec_l11Light.f (k : Nat) (a0_0 : Int) (l0_1 : List (S57)) (l1 : List (S60)) : Option (Int) := spec_l11Light.l0 k l1 0 0 a0_0 l0_1
theorem spec_l11Light.mono_l : ∀ k, (∀ y0 y1 y2 y3 y4, LeO (spec_l11Light.l0 k y0 y1 y2 y3 y4) (spec_l11Light.l0 (k + 1) y0 y1 y2 y3 y4))
 | 0 => fun _ _ _ _ _ r h => by simp [spec_l11Light.l0] at h
 | k + 1 => by
  have ih0 := spec_l11Light.mono_l k
  ·intro y0 y1 y2 y3 y4
   unfold spec_l11Light.l0
   repeat' first
   | (with_reducible exact ih0 _ _ _ _ _)
   | (with_reducible exact LeO.refl _)
   | (with_reducible exact LeO.none _)
   | (with_reducible refine LeO.ite ?_ ?_)
   | (with_reducible refine LeO.bind ?_ (fun _ => ?_))
   | exact ih0 _ _ _ _ _
   | exact LeO.none _
   | refine LeO.ite ?_ ?_
   | refine LeO.bind ?_ (fun _ => ?_)
theorem spec_l11Light.mono : ∀ a0 a1 a2 k, LeO (spec_l11Light.f k a0 a1 a2) (spec_l11Light.f (k + 1) a0 a1 a2) := by
 intro a0 a1 a2 k
 have ih0 := spec_l11Light.mono_l k
 unfold spec_l11Light.f
 repeat' first
   | (with_reducible exact ih0 _ _ _ _ _)
   | (with_reducible exact LeO.refl _)
   | (with_reducible exact LeO.none _)
   | (with_reducible refine LeO.ite ?_ ?_)
   | (with_reducible refine LeO.bind ?_ (fun _ => ?_))
   | exact ih0 _ _ _ _ _
   | exact LeO.none _
   | refine LeO.ite ?_ ?_
   | refine LeO.bind ?_ (fun _ => ?_)
set_option maxHeartbeats 8000000 in
set_option maxRecDepth 100000 in
theorem spec_l11Light.calls (k : Nat) (a0_0 : Int) (A0_1 : Option Addr) (c0_1 : Nat) (l0_1 : List (S57)) (A1 : Option Addr) (c1 : Nat) (l1 : List (S60)) (r : Int) (w : World) (hr0_1 : Kd.C k57 w A0_1 l0_1.length l0_1) (hc0_1 : l0_1.length ≤ c0_1) (hr1 : Kd.C k60 w A1 l1.length l1) (hc1 : l1.length ≤ c1) (h : spec_l11Light.f k a0_0 l0_1 l1 = some r) :
  Calls Try.prog 63 #[.agg #[.int .i64 a0_0, .slice A0_1 l0_1.length c0_1], .slice A1 l1.length c1] w fun e w' => e = .returned (.int .i64 r) ∧ Below w.heap.size w w' := by
 have hu25 := Try.underlying25
 have HR0_1 := Zs.mk hr0_1
 have HC0_1 := Zs.mk hc0_1
 clear hr0_1 hc0_1
 have HR1 := Zs.mk hr1
 have HC1 := Zs.mk hc1
 clear hr1 hc1
 have HB := Zs.mk (Below.refl w.heap.size w)
 have H : (spec_l11Light.l0 k l1 0 0 a0_0 l0_1) = some r := h
 clear h
 have H' := Zs.mk H
 clear H
 go_enter Try.func63, Try.ntmps63
 go_wp2_with (first | ((with_reducible refine gate_dst (N := 2) rfl ?_); refine box_event ?hg (N := 2) ?hd (cs := #[.int .i64 a0_0, .slice A0_1 l0_1.length c0_1]) (t := 25) ?hr ?_; (case hd => rfl); (case hg => rfl); (case hr => first | (go_simp; done) | (go_simp; rfl)); intro gb172 hg w3 hbox hb; have n0_ := Zs.mk (bSp (by repeat (first | (with_reducible first | exact HB.out | apply bAl | apply bDN | apply bD1) | exact HB.out)) hb); have n1_ := Zs.mk (hbox); have n2_ := Zs.mk ((by rw [hg]; exact (bSz (by repeat (first | (with_reducible first | exact HB.out | apply bAl | apply bDN | apply bD1) | exact HB.out))) : w.heap.size ≤ gb172)); have n3_ := Zs.mk ((by rw [hg]; exact (bSz (by repeat (first | (with_reducible first | exact HB.out | apply bAl | apply bDN | apply bD1) | exact HB.out))) : w.heap.size ≤ gb172)); clear HB; have HB := n0_; have BK172 := n1_; have GW172 := n2_; have GE172 := n3_; clear n0_ n1_ n2_ n3_; clear hb hbox hg))
 repeat (go_quiet (first | ((with_reducible refine gate_dst (N := 2) rfl ?_); refine box_event ?hg (N := 2) ?hd (cs := #[.int .i64 a0_0, .slice A0_1 l0_1.length c0_1]) (t := 25) ?hr ?_; (case hd => rfl); (case hg => rfl); (case hr => first | (go_simp; done) | (go_simp; rfl)); intro gb172 hg w3 hbox hb; have n0_ := Zs.mk (bSp (by repeat (first | (with_reducible first | exact HB.out | apply bAl | apply bDN | apply bD1) | exact HB.out)) hb); have n1_ := Zs.mk (hbox); have n2_ := Zs.mk ((by rw [hg]; exact (bSz (by repeat (first | (with_reducible first | exact HB.out | apply bAl | apply bDN | apply bD1) | exact HB.out))) : w.heap.size ≤ gb172)); have n3_ := Zs.mk ((by rw [hg]; exact (bSz (by repeat (first | (with_reducible first | exact HB.out | apply bAl | apply bDN | apply bD1) | exact HB.out))) : w.heap.size ≤ gb172)); clear HB; have HB := n0_; have BK172 := n1_; have GW172 := n2_; have GE172 := n3_; clear n0_ n1_ n2_ n3_; clear hb hbox hg)); try go_wp2_with (first | ((with_reducible refine gate_dst (N := 2) rfl ?_); refine box_event ?hg (N := 2) ?hd (cs := #[.int .i64 a0_0, .slice A0_1 l0_1.length c0_1]) (t := 25) ?hr ?_; (case hd => rfl); (case hg => rfl); (case hr => first | (go_simp; done) | (go_simp; rfl)); intro gb172 hg w3 hbox hb; have n0_ := Zs.mk (bSp (by repeat (first | (with_reducible first | exact HB.out | apply bAl | apply bDN | apply bD1) | exact HB.out)) hb); have n1_ := Zs.mk (hbox); have n2_ := Zs.mk ((by rw [hg]; exact (bSz (by repeat (first | (with_reducible first | exact HB.out | apply bAl | apply bDN | apply bD1) | exact HB.out))) : w.heap.size ≤ gb172)); have n3_ := Zs.mk ((by rw [hg]; exact (bSz (by repeat (first | (with_reducible first | exact HB.out | apply bAl | apply bDN | apply bD1) | exact HB.out))) : w.heap.size ≤ gb172)); clear HB; have HB := n0_; have BK172 := n1_; have GW172 := n2_; have GE172 := n3_; clear n0_ n1_ n2_ n3_; clear hb hbox hg)))
 go_loopg [5, 6] k (fun kq v5 v6 w' => ∃ (x5_1 : Int) (x6_1 : Int), v5 = .int .i64 x5_1 ∧ v6 = .int .i64 x6_1 ∧ Zs (spec_l11Light.l0 kq l1 x5_1 x6_1 a0_0 l0_1 = some r) ∧ Zs (kq ≤ k) ∧ Zs (w'.heap[gb172]? = some (.cells #[.int .i64 a0_0, (.slice A0_1 l0_1.length c0_1)] 25 (0, 0))) ∧ Zs (Below w.heap.size w w'))
 case atStart => exact ⟨(0), (0), (by first | rfl | (simp; done) | (simp [*]; done)), (by first | rfl | (simp; done) | (simp [*]; done)), H', ⟨Nat.le_refl _⟩, ⟨by (with_reducible repeat (first | refine kDN ?_ _ | refine kDr ?_ | refine kAl ?_ _)); exact BK172.out⟩, ⟨by repeat (first | (with_reducible first | exact HB.out | apply bAl | apply bDN | apply bD1 | refine bSt ?_ GE172.out) | exact HB.out)⟩⟩
 case round =>
  clear H'
  try clear c1
  try clear p2
  obtain ⟨x5_1, x6_1, rfl, rfl, HA, HK1, BK172, HB⟩ := hrel
  cases gk with
  | zero => exact absurd HA.out (by simp [spec_l11Light.l0])
  | succ k1 =>
   have H := HA.out
   clear HA
   simp only [spec_l11Light.l0] at H
   by_cases c4 : x6_1 < (l1.length : Int)
   ·rw [if_pos c4] at H
    have c4b0 : decide (x6_1 < (l1.length : Int)) = true := decide_eq_true c4
    clear c4
    by_cases c5 : 0 ≤ x6_1
    ·rw [if_pos c5] at H
     have c5b0 : decide (0 ≤ x6_1) = true := decide_eq_true c5
     clear c5
     by_cases c6 : ((rd_T60 l1 x6_1).f0) = 2
     ·rw [if_pos c6] at H
      have c6b0 : (((rd_T60 l1 x6_1).f0) == 2) = true := beq_iff_eq.mpr c6
      have c6b1 : (((rd_T60 l1 x6_1).f0) != 2) = false := bne_eq_false_iff_eq.mpr c6
      clear c6
      by_cases c7 : 0 ≤ ((rd_T60 l1 x6_1).f1)
      ·rw [if_pos c7] at H
       have c7b0 : decide (0 ≤ ((rd_T60 l1 x6_1).f1)) = true := decide_eq_true c7
       clear c7
       by_cases c8 : ((rd_T60 l1 x6_1).f1) < (l0_1.length : Int)
       ·rw [if_pos c8] at H
        have c8b0 : decide (((rd_T60 l1 x6_1).f1) < (l0_1.length : Int)) = true := decide_eq_true c8
        clear c8
        have H' := Zs.mk H
        clear H
        have p173 : 0 ≤ (x6_1 : Int) := of_decide_eq_true (by first | (with_reducible assumption) | assumption)
        have q173 : x6_1 < (l1.length : Int) := of_decide_eq_true (by first | (with_reducible assumption) | assumption)
        obtain ⟨ad173, e173, hx173_0, hx173_1, hx173_2⟩ := at_T60 HR1.out x6_1 p173 q173
        cases e173
        replace hx173_0 := (HB.out.cell (World.block_lt_of_cell? w _ hx173_0)).trans hx173_0
        replace hx173_1 := (HB.out.cell (World.block_lt_of_cell? w _ hx173_1)).trans hx173_1
        replace hx173_2 := (HB.out.cell (World.block_lt_of_cell? w _ hx173_2)).trans hx173_2
        replace p173 := eq_true p173
        replace q173 := eq_true q173
        have p174 : 0 ≤ (x6_1 : Int) := of_decide_eq_true (by first | (with_reducible assumption) | assumption)
        have q174 : x6_1 < (l1.length : Int) := of_decide_eq_true (by first | (with_reducible assumption) | assumption)
        obtain ⟨ad174, e174, hx174_0, hx174_1, hx174_2⟩ := at_T60 HR1.out x6_1 p174 q174
        obtain rfl : ad173 = ad174 := (by injection e174)
        replace hx174_0 := (HB.out.cell (World.block_lt_of_cell? w _ hx174_0)).trans hx174_0
        replace hx174_1 := (HB.out.cell (World.block_lt_of_cell? w _ hx174_1)).trans hx174_1
        replace hx174_2 := (HB.out.cell (World.block_lt_of_cell? w _ hx174_2)).trans hx174_2
        replace p174 := eq_true p174
        replace q174 := eq_true q174
        have hcz9_0 : wr.cell? ⟨gb172, 0, none⟩ = some (.int .i64 a0_0) := (kCe BK172.out 0).trans rfl
        have hcz9_1 : wr.cell? ⟨gb172, 1, none⟩ = some (.slice A0_1 l0_1.length c0_1) := (kCe BK172.out 1).trans rfl
        have hfz9_0 := kFr BK172.out 0
        have hfz9_1 := kFr BK172.out 1
        have p175 : 0 ≤ (x6_1 : Int) := of_decide_eq_true (by first | (with_reducible assumption) | assumption)
        have q175 : x6_1 < (l1.length : Int) := of_decide_eq_true (by first | (with_reducible assumption) | assumption)
        obtain ⟨ad175, e175, hx175_0, hx175_1, hx175_2⟩ := at_T60 HR1.out x6_1 p175 q175
        obtain rfl : ad173 = ad175 := (by injection e175)
        replace hx175_0 := (HB.out.cell (World.block_lt_of_cell? w _ hx175_0)).trans hx175_0
        replace hx175_1 := (HB.out.cell (World.block_lt_of_cell? w _ hx175_1)).trans hx175_1
        replace hx175_2 := (HB.out.cell (World.block_lt_of_cell? w _ hx175_2)).trans hx175_2
        replace p175 := eq_true p175
        replace q175 := eq_true q175
        have p176 : 0 ≤ (((rd_T60 l1 x6_1).f1) : Int) := of_decide_eq_true (by first | (with_reducible assumption) | assumption)
        have q176 : ((rd_T60 l1 x6_1).f1) < (l0_1.length : Int) := of_decide_eq_true (by first | (with_reducible assumption) | assumption)
        obtain ⟨ad176, e176, hx176_0, hx176_1⟩ := at_T57 HR0_1.out ((rd_T60 l1 x6_1).f1) p176 q176
        cases e176
        replace hx176_0 := (HB.out.cell (World.block_lt_of_cell? w _ hx176_0)).trans hx176_0
        replace hx176_1 := (HB.out.cell (World.block_lt_of_cell? w _ hx176_1)).trans hx176_1
        replace p176 := eq_true p176
        replace q176 := eq_true q176
        go_wp2
        repeat (go_quiet (fail); try go_wp2)
        go_roundg k1
        case measure => have := HK1.out; omega
        case rel => exact ⟨(wrap64 (x5_1 + (wrap64 (((rd_T60 l1 x6_1).f2) * ((rd_T57 l0_1 ((rd_T60 l1 x6_1).f1)).f1))))), (wrap64 (x6_1 + 1)), (by first | rfl | (simp; done) | (simp [*]; done)), (by first | rfl | (simp; done) | (simp [*]; done)), H', ⟨by have := HK1.out; omega⟩, ⟨by (with_reducible repeat (first | refine kDN ?_ _ | refine kDr ?_ | refine kAl ?_ _)); exact BK172.out⟩, ⟨by repeat (first | (with_reducible first | exact HB.out | apply bAl | apply bDN | apply bD1 | refine bSt ?_ GE172.out) | exact HB.out)⟩⟩
       ·rw [if_neg c8] at H
        exact absurd H (by simp)
      ·rw [if_neg c7] at H
       exact absurd H (by simp)
     ·rw [if_neg c6] at H
      have c6b0 : (((rd_T60 l1 x6_1).f0) == 2) = false := beq_eq_false_iff_ne.mpr c6
      have c6b1 : (((rd_T60 l1 x6_1).f0) != 2) = true := bne_iff_ne.mpr c6
      have H' := Zs.mk H
      clear H
      have p173 : 0 ≤ (x6_1 : Int) := of_decide_eq_true (by first | (with_reducible assumption) | assumption)
      have q173 : x6_1 < (l1.length : Int) := of_decide_eq_true (by first | (with_reducible assumption) | assumption)
      obtain ⟨ad173, e173, hx173_0, hx173_1, hx173_2⟩ := at_T60 HR1.out x6_1 p173 q173
      cases e173
      replace hx173_0 := (HB.out.cell (World.block_lt_of_cell? w _ hx173_0)).trans hx173_0
      replace hx173_1 := (HB.out.cell (World.block_lt_of_cell? w _ hx173_1)).trans hx173_1
      replace hx173_2 := (HB.out.cell (World.block_lt_of_cell? w _ hx173_2)).trans hx173_2
      replace p173 := eq_true p173
      replace q173 := eq_true q173
      go_wp2
      repeat (go_quiet (fail); try go_wp2)
      go_roundg k1
      case measure => have := HK1.out; omega
      case rel => exact ⟨(x5_1), (wrap64 (x6_1 + 1)), (by first | rfl | (simp; done) | (simp [*]; done)), (by first | rfl | (simp; done) | (simp [*]; done)), H', ⟨by have := HK1.out; omega⟩, ⟨by (with_reducible repeat (first | refine kDN ?_ _ | refine kDr ?_ | refine kAl ?_ _)); exact BK172.out⟩, ⟨by repeat (first | (with_reducible first | exact HB.out | apply bAl | apply bDN | apply bD1 | refine bSt ?_ GE172.out) | exact HB.out)⟩⟩
    ·rw [if_neg c5] at H
     exact absurd H (by simp)
   ·rw [if_neg c4] at H
    have c4b0 : decide (x6_1 < (l1.length : Int)) = false := decide_eq_false c4
    clear c4
    obtain rfl := Option.some.inj H
    go_wp2
    repeat (go_quiet (fail); try go_wp2)
    go_ret
    exact ⟨by first | rfl | (simp [errW_none, errW_some] <;> rfl) | (simp [*, errW_none, errW_some] <;> rfl), by repeat (first | (with_reducible first | exact HB.out | apply bAl | apply bDN | apply bD1 | refine bSt ?_ GE172.out) | exact HB.out)⟩

open Go.Proofs.Ytefbfeaeifbjeaa.HandA
/-! ### spec_TrailLight: function 33 -/
def spec_TrailLight.f (k : Nat) (a0_0 : Int) (l0_1 : List (S57)) (a1 : Int) : Option (Int) :=
 (spec_l11Is.f k a0_0 l0_1 a1).bind fun t => if t = true then (spec_l3Ray.f a0_0 l0_1 a1).bind fun with_reducible_ => (comeF k a0_0 l0_1 k with_reducible_.1 with_reducible_.2 64 [] []).bind fun r => spec_l11Light.f k a0_0 l0_1 r.2 else some 0
theorem spec_TrailLight.mono : ∀ a0 a1 a2 k, LeO (spec_TrailLight.f k a0 a1 a2) (spec_TrailLight.f (k + 1) a0 a1 a2) := by
 intro a0 a1 a2 k
 unfold spec_TrailLight.f
 exact LeO.bind (spec_l11Is.mono _ _ _ _) fun _ => LeO.ite (LeO.bind (LeO.refl _) fun _ => LeO.bind (comeF_mono _ _ _ _ _ _ _ _ _) fun _ => spec_l11Light.mono _ _ _ _) (LeO.refl _)
set_option maxHeartbeats 8000000 in
set_option maxRecDepth 100000 in
theorem spec_TrailLight_no (k : Nat) (w : Int) (A : Option Addr) (c : Nat) (l : List S57) (a1 : Int) (W : World) (hr : Kd.C k57 W A l.length l) (hc : l.length ≤ c) (ht : spec_l11Is.f k w l a1 = some false) :
  Calls Try.prog 33 #[.agg #[.int .i64 w, .slice A l.length c], .int .i64 a1] W fun e w' => e = .returned (.int .i64 0) ∧ Below W.heap.size W w' := by
 go_enter Try.func33, Try.ntmps33
 go_wp2_with (go_at_call 55; refine (spec_l11Is.calls k w A c l a1 false _ (by with_reducible repeat (first | apply Kd.C_alloc | apply Kd.C_drewN | apply Kd.C_drew | exact hr)) hc ht).mono ?_; rintro e w' ⟨rfl, hbel⟩; have bb : Below W.heap.size W w' := Below.trans (by repeat (first | exact Below.refl _ _ | refine Below.alloc ?_ (by first | (simp; done) | (simp; omega)) _)) (hbel.mono (by first | (simp; done) | (simp; omega))))
 go_ret
 exact ⟨rfl, bb⟩
set_option maxHeartbeats 8000000 in
set_option maxRecDepth 100000 in
theorem spec_TrailLight_yes (k : Nat) (w : Int) (A : Option Addr) (c : Nat) (l : List S57) (a1 with_reducible_ y s : Int) (r : List S65 × List S60) (W : World) (hr : Kd.C k57 W A l.length l) (hc : l.length ≤ c) (ht : spec_l11Is.f k w l a1 = some true) (hx : spec_l3Ray.f w l a1 = some (with_reducible_, y)) (hq : comeF k w l k with_reducible_ y 64 [] [] = some r) (hs : spec_l11Light.f k w l r.2 = some s) :
  Calls Try.prog 33 #[.agg #[.int .i64 w, .slice A l.length c], .int .i64 a1] W fun e w' => e = .returned (.int .i64 s) ∧ Below W.heap.size W w' := by
 have HC : Zs (∀ W', Below W.heap.size W W' → Kd.C k57 W' A l.length l) := ⟨fun _ hb => Kd.C_below hr hb⟩
 go_enter Try.func33, Try.ntmps33
 go_wp2_with (go_at_call 55; refine (spec_l11Is.calls k w A c l a1 true _ (by with_reducible repeat (first | apply Kd.C_alloc | apply Kd.C_drewN | apply Kd.C_drew | exact hr)) hc ht).mono ?_; rintro e w1 ⟨rfl, hbel⟩; have bk0 : w1.heap[W.heap.size]? = some (.cells #[.int .i64 w, .slice A l.length c] 25 (0, 0)) := kBe (by exact blk_new W _) hbel; have m0 : w1.cell? ⟨W.heap.size, 0, none⟩ = some (.int .i64 w) := (kCe bk0 0).trans rfl; have m1 : w1.cell? ⟨W.heap.size, 1, none⟩ = some (.slice A l.length c) := (kCe bk0 1).trans rfl; have bb : Below W.heap.size W w1 := Below.trans (by repeat (first | exact Below.refl _ _ | refine Below.alloc ?_ (by first | (simp; done) | (simp; omega)) _)) (hbel.mono (by first | (simp; done) | (simp; omega))))
 go_region_with (first | (go_at_call 63; refine (spec_l11Light.calls k w A c l A7 c7 r.2 s _ (HC.out _ bb2) hc hrd.2.2 hrd.2.1 hs).mono ?_; rintro e w3 ⟨rfl, hb3⟩; have bb3 : Below W.heap.size W w3 := Below.trans bb2 (hb3.mono bb2.size)) | (go_at_call 56; refine (l11Go k w A c l a1 with_reducible_ y r _ (HC.out _ (Below.drew bb)) hc hx hq).mono ?_; rintro e w2 ⟨bt, v0, v1, rfl, H2⟩; have bb2 : Below W.heap.size W w2 := Below.trans (Below.drew bb) (H2.bl.mono bb.size); have bk2 : w2.heap[W.heap.size]? = some (.cells #[.int .i64 w, .slice A l.length c] 25 (0, 0)) := kBe (kDr bk0) H2.bl; obtain ⟨A7, c7, e7⟩ := Kd.R_slice H2.re; subst e7; have hrd := Kd.R_reads' H2.re; have g2 : w2.cell? ⟨bt, 3, none⟩ = some (.slice A7 r.2.length c7) := (kCe H2.hbt 3).trans rfl; clear m0 m1; have m0 : w2.cell? ⟨W.heap.size, 0, none⟩ = some (.int .i64 w) := (kCe bk2 0).trans rfl; have m1 : w2.cell? ⟨W.heap.size, 1, none⟩ = some (.slice A l.length c) := (kCe bk2 1).trans rfl))
 all_goals go_wp2
 all_goals go_ret
 all_goals exact ⟨rfl, bb3⟩
theorem spec_TrailLight.calls (k : Nat) (a0_0 : Int) (A0_1 : Option Addr) (c0_1 : Nat) (l0_1 : List (S57)) (a1 : Int) (r : Int) (w : World) (hr0_1 : Kd.C k57 w A0_1 l0_1.length l0_1) (hc0_1 : l0_1.length ≤ c0_1) (h : spec_TrailLight.f k a0_0 l0_1 a1 = some r) :
  Calls Try.prog 33 #[.agg #[.int .i64 a0_0, .slice A0_1 l0_1.length c0_1], .int .i64 a1] w fun e w' => e = .returned (.int .i64 r) ∧ Below w.heap.size w w' := by
 unfold spec_TrailLight.f at h
 obtain ⟨t, ht, h⟩ := Option.bind_eq_some_iff.1 h
 cases t with
 | false => cases (show some (0 : Int) = some r from h); exact spec_TrailLight_no k a0_0 A0_1 c0_1 l0_1 a1 w hr0_1 hc0_1 ht
 | true =>
  obtain ⟨⟨with_reducible_, y⟩, hx, h⟩ := Option.bind_eq_some_iff.1 (show ((spec_l3Ray.f a0_0 l0_1 a1).bind fun with_reducible_ => (comeF k a0_0 l0_1 k with_reducible_.1 with_reducible_.2 64 [] []).bind fun r => spec_l11Light.f k a0_0 l0_1 r.2) = some r from h)
  obtain ⟨rr, hq, h⟩ := Option.bind_eq_some_iff.1 h
  exact spec_TrailLight_yes k a0_0 A0_1 c0_1 l0_1 a1 with_reducible_ y r rr w hr0_1 hc0_1 ht hx hq h

end Go.Proofs.Ytefbfeaeifbjeaa.PFnLightMore
--slim
