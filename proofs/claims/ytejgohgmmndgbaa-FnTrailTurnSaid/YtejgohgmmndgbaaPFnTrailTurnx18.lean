-- Written by a program of this session: the kit's print, with functions among it that were proved by hand.
import Derived.Test.YtejgohgmmndgbaaPFnTrailTurnx0
import Derived.Test.YtejgohgmmndgbaaPFnTrailTurnx17
namespace Go.Proofs.Ytejgohgmmndgbaa.PFnTrailTurn
open Go.RowKit Go.Proofs.YtejgohgmmndgbaaW.PrintWords Go.Proofs.YtejgohgmmndgbaaW.PrintLast Go.Proofs.YtejgohgmmndgbaaW.PrintMore
attribute [local go_sem] max2_int min2_int max_two min_two max_three min_three max_four min_four   -- for this text's walks alone
set_option linter.unusedVariables false
set_option linter.unusedSimpArgs false

/-! ### impl_GridOk: function 48 -/
mutual
def impl_GridOk.j0 : Nat → Bool → Int → List (S57) → Option (Bool)
 | 0, _, _, _ => none
 | k + 1, x12, x257000, x257001 => if x12 = true then (some false) else (if (x257001.length : Int) = 0 then (impl_GridOk.j1 k true x257000 x257001) else (if (x257001.length : Int) > (wrap64 (x257000 * 5)) then (impl_GridOk.j1 k true x257000 x257001) else (if x257000 = 0 then (none) else (impl_GridOk.j1 k (((x257001.length : Int) % x257000) != 0) x257000 x257001))))
def impl_GridOk.j1 : Nat → Bool → Int → List (S57) → Option (Bool)
 | 0, _, _, _ => none
 | k + 1, x34, x257000, x257001 => if x34 = true then (some false) else (impl_GridOk.l0 k x257001 (x257001.length : Int) 0)
def impl_GridOk.l0 : Nat → List (S57) → Int → Int → Option (Bool)
 | 0, _, _, _ => none
 | k + 1, x36, x37, x38 => if x38 < x37 then (if 0 ≤ x38 then (if x38 < (x36.length : Int) then ((impl_CellOk.f ((rd_T57 x36 x38).f0) ((rd_T57 x36 x38).f1)).bind fun t259 => (if t259 = true then (impl_GridOk.l0 k x36 x37 (wrap64 (x38 + 1))) else (some false))) else (none)) else (none)) else (some true)
end
def impl_GridOk.f (k : Nat) (a0_0 : Int) (l0_1 : List (S57)) : Option (Bool) := if a0_0 < 1 then (impl_GridOk.j0 k true a0_0 l0_1) else (impl_GridOk.j0 k (decide (a0_0 > 5)) a0_0 l0_1)
theorem impl_GridOk.mono_l : ∀ k, (∀ y0 y1 y2, LeO (impl_GridOk.j0 k y0 y1 y2) (impl_GridOk.j0 (k + 1) y0 y1 y2)) ∧ (∀ y0 y1 y2, LeO (impl_GridOk.j1 k y0 y1 y2) (impl_GridOk.j1 (k + 1) y0 y1 y2)) ∧ (∀ y0 y1 y2, LeO (impl_GridOk.l0 k y0 y1 y2) (impl_GridOk.l0 (k + 1) y0 y1 y2))
 | 0 => ⟨fun _ _ _ r h => by simp [impl_GridOk.j0] at h, fun _ _ _ r h => by simp [impl_GridOk.j1] at h, fun _ _ _ r h => by simp [impl_GridOk.l0] at h⟩
 | k + 1 => by
  obtain ⟨ih0, ih1, ih2⟩ := impl_GridOk.mono_l k
  refine ⟨?_, ?_, ?_⟩
  ·intro y0 y1 y2
   unfold impl_GridOk.j0
   repeat' first
   | (with_reducible exact ih0 _ _ _)
   | (with_reducible exact ih1 _ _ _)
   | (with_reducible exact ih2 _ _ _)
   | (with_reducible exact LeO.refl _)
   | (with_reducible exact LeO.none _)
   | (with_reducible refine LeO.ite ?_ ?_)
   | (with_reducible refine LeO.bind ?_ (fun _ => ?_))
   | exact ih0 _ _ _
   | exact ih1 _ _ _
   | exact ih2 _ _ _
   | exact LeO.none _
   | refine LeO.ite ?_ ?_
   | refine LeO.bind ?_ (fun _ => ?_)
  ·intro y0 y1 y2
   unfold impl_GridOk.j1
   repeat' first
   | (with_reducible exact ih0 _ _ _)
   | (with_reducible exact ih1 _ _ _)
   | (with_reducible exact ih2 _ _ _)
   | (with_reducible exact LeO.refl _)
   | (with_reducible exact LeO.none _)
   | (with_reducible refine LeO.ite ?_ ?_)
   | (with_reducible refine LeO.bind ?_ (fun _ => ?_))
   | exact ih0 _ _ _
   | exact ih1 _ _ _
   | exact ih2 _ _ _
   | exact LeO.none _
   | refine LeO.ite ?_ ?_
   | refine LeO.bind ?_ (fun _ => ?_)
  ·intro y0 y1 y2
   unfold impl_GridOk.l0
   repeat' first
   | (with_reducible exact ih0 _ _ _)
   | (with_reducible exact ih1 _ _ _)
   | (with_reducible exact ih2 _ _ _)
   | (with_reducible exact LeO.refl _)
   | (with_reducible exact LeO.none _)
   | (with_reducible refine LeO.ite ?_ ?_)
   | (with_reducible refine LeO.bind ?_ (fun _ => ?_))
   | exact ih0 _ _ _
   | exact ih1 _ _ _
   | exact ih2 _ _ _
   | exact LeO.none _
   | refine LeO.ite ?_ ?_
   | refine LeO.bind ?_ (fun _ => ?_)
theorem impl_GridOk.mono : ∀ a0 a1 k, LeO (impl_GridOk.f k a0 a1) (impl_GridOk.f (k + 1) a0 a1) := by
 intro a0 a1 k
 obtain ⟨ih0, ih1, ih2⟩ := impl_GridOk.mono_l k
 unfold impl_GridOk.f
 repeat' first
   | (with_reducible exact ih0 _ _ _)
   | (with_reducible exact ih1 _ _ _)
   | (with_reducible exact ih2 _ _ _)
   | (with_reducible exact LeO.refl _)
   | (with_reducible exact LeO.none _)
   | (with_reducible refine LeO.ite ?_ ?_)
   | (with_reducible refine LeO.bind ?_ (fun _ => ?_))
   | exact ih0 _ _ _
   | exact ih1 _ _ _
   | exact ih2 _ _ _
   | exact LeO.none _
   | refine LeO.ite ?_ ?_
   | refine LeO.bind ?_ (fun _ => ?_)
set_option maxHeartbeats 8000000 in
set_option maxRecDepth 100000 in
theorem impl_GridOk.calls (k : Nat) (a0_0 : Int) (A0_1 : Option Addr) (c0_1 : Nat) (l0_1 : List (S57)) (r : Bool) (w : World) (hr0_1 : Kd.C k57 w A0_1 l0_1.length l0_1) (hc0_1 : l0_1.length ≤ c0_1) (h : impl_GridOk.f k a0_0 l0_1 = some r) :
  Calls Try.prog 48 #[.agg #[.int .i64 a0_0, .slice A0_1 l0_1.length c0_1]] w fun e w' => e = .returned (.bool r) ∧ Below w.heap.size w w' := by
 have hu25 := Try.underlying25
 have hu57 := Try.underlying57
 have HR0_1 := Zs.mk hr0_1
 have HC0_1 := Zs.mk hc0_1
 clear hr0_1 hc0_1
 have HB := Zs.mk (Below.refl w.heap.size w)
 have H : (if a0_0 < 1 then (impl_GridOk.j0 k true a0_0 l0_1) else (impl_GridOk.j0 k (decide (a0_0 > 5)) a0_0 l0_1)) = some r := h
 clear h
 have HC2 := Zs.mk H
 clear H
 go_enter Try.func48, Try.ntmps48
 go_upto_region 1 with (first | ((with_reducible refine gate_dst (N := 1) rfl ?_); (try (refine gate_guard (by rfl) ?_; dsimp only)); refine box_event ?hg (N := 1) ?hd (cs := #[.int .i64 a0_0, .slice A0_1 l0_1.length c0_1]) (t := 25) ?hr ?_; (case hd => rfl); (case hg => rfl); (case hr => first | (go_simp; done) | (go_simp; rfl)); intro gb256 hg w3 hbox hb; have n0_ := Zs.mk (bSp zq2 hb); have n1_ := Zs.mk (hbox); have n2_ := Zs.mk ((by rw [hg]; exact (bSz zq2) : w.heap.size ≤ gb256)); have n3_ := Zs.mk ((by rw [hg]; exact (bSz zq2) : w.heap.size ≤ gb256)); clear HB; have HB := n0_; have BK256 := n1_; have GW256 := n2_; have GE256 := n3_; clear n0_ n1_ n2_ n3_; clear hb hbox hg))
 (try simp only [Act.put, List.setIfInBounds_toArray, List.set_cons_zero, List.set_cons_succ])
 go_cut [12] (fun v12 wc => ∃ (kq : Nat) (x12_1 : Bool), v12 = .bool x12_1 ∧ Zs (impl_GridOk.j0 kq x12_1 a0_0 l0_1 = some r) ∧ Zs (kq ≤ k) ∧ Zs (wc.heap[gb256]? = some (.cells #[.int .i64 a0_0, (.slice A0_1 l0_1.length c0_1)] 25 (0, 0))) ∧ Zs (Below w.heap.size w wc))
 case first =>
  have H := HC2.out
  clear HC2
  by_cases c4 : a0_0 < 1
  ·rw [if_pos c4] at H
   have c4b0 : decide (a0_0 < 1) = true := decide_eq_true c4
   clear c4
   (first | rw [c4b0] | (simp only [i64_w, i32_w]; rw [c4b0]) | skip)
   have H' := Zs.mk H
   clear H
   have hcz5_0 : w3.cell? ⟨gb256, 0, none⟩ = some (.int .i64 a0_0) := (kCe BK256.out 0).trans rfl
   have hcz5_1 : w3.cell? ⟨gb256, 1, none⟩ = some (.slice A0_1 l0_1.length c0_1) := (kCe BK256.out 1).trans rfl
   have hfz5_0 := kFr BK256.out 0
   have hfz5_1 := kFr BK256.out 1
   go_wp2
   go_meet
   case rel => exact ⟨_, (true), zq13, H', ⟨by first | omega | exact Nat.le_refl _⟩, ⟨by (with_reducible repeat (first | refine kDN ?_ _ | refine kDr ?_ | refine kAl ?_ _)); exact BK256.out⟩, ⟨by repeat (first | (with_reducible first | exact HB.out | apply bAl | apply bDN | apply bD1 | refine bSt ?_ GE256.out) | exact HB.out)⟩⟩
  ·rw [if_neg c4] at H
   have c4b0 : decide (a0_0 < 1) = false := decide_eq_false c4
   clear c4
   (first | rw [c4b0] | (simp only [i64_w, i32_w]; rw [c4b0]) | skip)
   have H' := Zs.mk H
   clear H
   have hcz6_0 : w3.cell? ⟨gb256, 0, none⟩ = some (.int .i64 a0_0) := (kCe BK256.out 0).trans rfl
   have hcz6_1 : w3.cell? ⟨gb256, 1, none⟩ = some (.slice A0_1 l0_1.length c0_1) := (kCe BK256.out 1).trans rfl
   have hfz6_0 := kFr BK256.out 0
   have hfz6_1 := kFr BK256.out 1
   go_wp2
   go_meet
   case rel => exact ⟨_, (decide (a0_0 > 5)), zq13, H', ⟨by first | omega | exact Nat.le_refl _⟩, ⟨by (with_reducible repeat (first | refine kDN ?_ _ | refine kDr ?_ | refine kAl ?_ _)); exact BK256.out⟩, ⟨by repeat (first | (with_reducible first | exact HB.out | apply bAl | apply bDN | apply bD1 | refine bSt ?_ GE256.out) | exact HB.out)⟩⟩
 case rest =>
  clear HC2
  try clear p2
  try clear c4
  try clear c4b0
  try clear hcz5_0
  try clear hcz5_1
  try clear hcz6_0
  try clear hcz6_1
  try clear hfz5_0
  try clear hfz5_1
  try clear hfz6_0
  try clear hfz6_1
  obtain ⟨kq, x12_1, rfl, HA, HJ1, BK256, HB⟩ := hcut
  cases kq with
  | zero => exact absurd HA.out (by simp [impl_GridOk.j0])
  | succ kj1 =>
   have H := HA.out
   clear HA
   simp only [impl_GridOk.j0] at H
   by_cases c7 : x12_1 = true
   ·subst c7
    have H1 : (some false) = some r := by rw [if_pos rfl] at H; exact H
    clear H
    have H := H1
    clear H1
    obtain rfl := Option.some.inj H
    go_wp2
    go_ret
    exact ⟨by first | rfl | (simp [errW_none, errW_some] <;> rfl) | (simp [*, errW_none, errW_some] <;> rfl), by repeat (first | (with_reducible first | exact HB.out | apply bAl | apply bDN | apply bD1 | refine bSt ?_ GE256.out) | exact HB.out)⟩
   ·replace c7 := Bool.eq_false_iff.mpr c7
    subst c7
    have H1 : (if (l0_1.length : Int) = 0 then (impl_GridOk.j1 kj1 true a0_0 l0_1) else (if (l0_1.length : Int) > (wrap64 (a0_0 * 5)) then (impl_GridOk.j1 kj1 true a0_0 l0_1) else (if a0_0 = 0 then (none) else (impl_GridOk.j1 kj1 (((l0_1.length : Int) % a0_0) != 0) a0_0 l0_1)))) = some r := by rw [if_neg (show ¬ (false = true) by decide)] at H; exact H
    clear H
    have H := H1
    clear H1
    have HC8 := Zs.mk H
    clear H
    go_upto_region 3 with (fail)
    go_cut [34] (fun v34 wc => ∃ (kq : Nat) (x34_7 : Bool), v34 = .bool x34_7 ∧ Zs (impl_GridOk.j1 kq x34_7 a0_0 l0_1 = some r) ∧ Zs (kq ≤ kj1) ∧ Zs (wc.heap[gb256]? = some (.cells #[.int .i64 a0_0, (.slice A0_1 l0_1.length c0_1)] 25 (0, 0))) ∧ Zs (Below w.heap.size w wc))
    case first =>
     have H := HC8.out
     clear HC8
     by_cases c9 : (l0_1.length : Int) = 0
     ·rw [if_pos c9] at H
      have c9b0 : ((l0_1.length : Int) == 0) = true := beq_iff_eq.mpr c9
      have c9b1 : ((l0_1.length : Int) != 0) = false := bne_eq_false_iff_eq.mpr c9
      clear c9
      (first | rw [c9b0] | (simp only [i64_w, i32_w]; rw [c9b0]) | skip)
      have H' := Zs.mk H
      clear H
      have hcz10_0 : wc.cell? ⟨gb256, 0, none⟩ = some (.int .i64 a0_0) := (kCe BK256.out 0).trans rfl
      have hcz10_1 : wc.cell? ⟨gb256, 1, none⟩ = some (.slice A0_1 l0_1.length c0_1) := (kCe BK256.out 1).trans rfl
      have hfz10_0 := kFr BK256.out 0
      have hfz10_1 := kFr BK256.out 1
      go_wp2
      go_meet
      case rel => exact ⟨_, (true), zq13, H', ⟨by have := HJ1.out; first | omega | exact Nat.le_refl _⟩, ⟨by (with_reducible repeat (first | refine kDN ?_ _ | refine kDr ?_ | refine kAl ?_ _)); exact BK256.out⟩, ⟨by repeat (first | (with_reducible first | exact HB.out | apply bAl | apply bDN | apply bD1 | refine bSt ?_ GE256.out) | exact HB.out)⟩⟩
     ·rw [if_neg c9] at H
      have c9b0 : ((l0_1.length : Int) == 0) = false := beq_eq_false_iff_ne.mpr c9
      have c9b1 : ((l0_1.length : Int) != 0) = true := bne_iff_ne.mpr c9
      have c9b2 : ¬ (l0_1 = []) := fun h_ => c9 (by rw [h_]; rfl)
      (first | rw [c9b0] | (simp only [i64_w, i32_w]; rw [c9b0]) | skip)
      by_cases c11 : (l0_1.length : Int) > (wrap64 (a0_0 * 5))
      ·rw [if_pos c11] at H
       have c11b0 : decide ((wrap64 (a0_0 * 5)) < (l0_1.length : Int)) = true := decide_eq_true c11
       clear c11
       have H' := Zs.mk H
       clear H
       have hcz12_0 : wc.cell? ⟨gb256, 0, none⟩ = some (.int .i64 a0_0) := (kCe BK256.out 0).trans rfl
       have hcz12_1 : wc.cell? ⟨gb256, 1, none⟩ = some (.slice A0_1 l0_1.length c0_1) := (kCe BK256.out 1).trans rfl
       have hfz12_0 := kFr BK256.out 0
       have hfz12_1 := kFr BK256.out 1
       go_wp2
       go_meet
       case rel => exact ⟨_, (true), zq13, H', ⟨by have := HJ1.out; first | omega | exact Nat.le_refl _⟩, ⟨by (with_reducible repeat (first | refine kDN ?_ _ | refine kDr ?_ | refine kAl ?_ _)); exact BK256.out⟩, ⟨by repeat (first | (with_reducible first | exact HB.out | apply bAl | apply bDN | apply bD1 | refine bSt ?_ GE256.out) | exact HB.out)⟩⟩
      ·rw [if_neg c11] at H
       have c11b0 : decide ((wrap64 (a0_0 * 5)) < (l0_1.length : Int)) = false := decide_eq_false c11
       clear c11
       by_cases c13 : a0_0 = 0
       ·rw [if_pos c13] at H
        exact absurd H zq58
       ·rw [if_neg c13] at H
        have c13b0 : (a0_0 == 0) = false := beq_eq_false_iff_ne.mpr c13
        have c13b1 : (a0_0 != 0) = true := bne_iff_ne.mpr c13
        have H' := Zs.mk H
        clear H
        have hcz14_0 : wc.cell? ⟨gb256, 0, none⟩ = some (.int .i64 a0_0) := (kCe BK256.out 0).trans rfl
        have hcz14_1 : wc.cell? ⟨gb256, 1, none⟩ = some (.slice A0_1 l0_1.length c0_1) := (kCe BK256.out 1).trans rfl
        have hfz14_0 := kFr BK256.out 0
        have hfz14_1 := kFr BK256.out 1
        go_wp2
        go_meet
        case rel => exact ⟨_, ((((l0_1.length : Int) % a0_0) != 0)), zq13, H', ⟨by have := HJ1.out; first | omega | exact Nat.le_refl _⟩, ⟨by (with_reducible repeat (first | refine kDN ?_ _ | refine kDr ?_ | refine kAl ?_ _)); exact BK256.out⟩, ⟨by repeat (first | (with_reducible first | exact HB.out | apply bAl | apply bDN | apply bD1 | refine bSt ?_ GE256.out) | exact HB.out)⟩⟩
    case rest =>
     clear HC8
     try clear c1
     try clear p2
     try clear c4
     try clear c4b0
     try clear p6
     try clear c7
     try clear c9
     try clear c9b0
     try clear c9b1
     try clear c9b2
     try clear c11
     try clear c11b0
     try clear c13
     try clear c13b0
     try clear c13b1
     try clear hcz10_0
     try clear hcz10_1
     try clear hcz12_0
     try clear hcz12_1
     try clear hcz14_0
     try clear hcz14_1
     try clear hcz5_0
     try clear hcz5_1
     try clear hcz6_0
     try clear hcz6_1
     try clear hfz10_0
     try clear hfz10_1
     try clear hfz12_0
     try clear hfz12_1
     try clear hfz14_0
     try clear hfz14_1
     try clear hfz5_0
     try clear hfz5_1
     try clear hfz6_0
     try clear hfz6_1
     try clear p2
     obtain ⟨kq, x34_7, rfl, HA, HJ7, BK256, HB⟩ := hcut
     cases kq with
     | zero => exact absurd HA.out (by simp [impl_GridOk.j1])
     | succ kj7 =>
      have H := HA.out
      clear HA
      simp only [impl_GridOk.j1] at H
      by_cases c15 : x34_7 = true
      ·subst c15
       have H1 : (some false) = some r := by rw [if_pos rfl] at H; exact H
       clear H
       have H := H1
       clear H1
       obtain rfl := Option.some.inj H
       go_wp2
       go_ret
       exact ⟨by first | rfl | (simp [errW_none, errW_some] <;> rfl) | (simp [*, errW_none, errW_some] <;> rfl), by repeat (first | (with_reducible first | exact HB.out | apply bAl | apply bDN | apply bD1 | refine bSt ?_ GE256.out) | exact HB.out)⟩
      ·replace c15 := Bool.eq_false_iff.mpr c15
       subst c15
       have H1 : (impl_GridOk.l0 kj7 l0_1 (l0_1.length : Int) 0) = some r := by rw [if_neg (show ¬ (false = true) by decide)] at H; exact H
       clear H
       have H := H1
       clear H1
       have H' := Zs.mk H
       clear H
       have hcz16_0 : wc.cell? ⟨gb256, 0, none⟩ = some (.int .i64 a0_0) := (kCe BK256.out 0).trans rfl
       have hcz16_1 : wc.cell? ⟨gb256, 1, none⟩ = some (.slice A0_1 l0_1.length c0_1) := (kCe BK256.out 1).trans rfl
       have hfz16_0 := kFr BK256.out 0
       have hfz16_1 := kFr BK256.out 1
       go_wp2
       go_loopg [38] kj7 (fun kq v38 w' => ∃ (x38_3 : Int), v38 = .int .i64 x38_3 ∧ Zs (impl_GridOk.l0 kq l0_1 (l0_1.length : Int) x38_3 = some r) ∧ Zs (kq ≤ kj7) ∧ Zs (w'.heap[gb256]? = some (.cells #[.int .i64 a0_0, (.slice A0_1 l0_1.length c0_1)] 25 (0, 0))) ∧ Zs (Below w.heap.size w w'))
       case atStart => exact ⟨(0), zq13, H', ⟨Nat.le_refl _⟩, ⟨by (with_reducible repeat (first | refine kDN ?_ _ | refine kDr ?_ | refine kAl ?_ _)); exact BK256.out⟩, ⟨by repeat (first | (with_reducible first | exact HB.out | apply bAl | apply bDN | apply bD1 | refine bSt ?_ GE256.out) | exact HB.out)⟩⟩
       case round =>
        clear H'
        try clear c1
        try clear p2
        try clear c4
        try clear c4b0
        try clear p6
        try clear c7
        try clear c9
        try clear c9b0
        try clear c9b1
        try clear c9b2
        try clear c11
        try clear c11b0
        try clear c13
        try clear c13b0
        try clear c13b1
        try clear c15
        try clear hcz10_0
        try clear hcz10_1
        try clear hcz12_0
        try clear hcz12_1
        try clear hcz14_0
        try clear hcz14_1
        try clear hcz16_0
        try clear hcz16_1
        try clear hcz5_0
        try clear hcz5_1
        try clear hcz6_0
        try clear hcz6_1
        try clear hfz10_0
        try clear hfz10_1
        try clear hfz12_0
        try clear hfz12_1
        try clear hfz14_0
        try clear hfz14_1
        try clear hfz16_0
        try clear hfz16_1
        try clear hfz5_0
        try clear hfz5_1
        try clear hfz6_0
        try clear hfz6_1
        try clear p2
        try clear p6
        obtain ⟨x38_3, rfl, HA, HK3, BK256, HB⟩ := hrel
        cases gk with
        | zero => exact absurd HA.out (by simp [impl_GridOk.l0])
        | succ k3 =>
         have H := HA.out
         clear HA
         simp only [impl_GridOk.l0] at H
         by_cases c17 : x38_3 < (l0_1.length : Int)
         ·rw [if_pos c17] at H
          have c17b0 : decide (x38_3 < (l0_1.length : Int)) = true := decide_eq_true c17
          clear c17
          by_cases c18 : 0 ≤ x38_3
          ·rw [if_pos c18] at H
           have c18b0 : decide (0 ≤ x38_3) = true := decide_eq_true c18
           clear c18
           by_cases c19 : x38_3 < (l0_1.length : Int)
           ·rw [if_pos c19] at H
            have c19b0 : decide (x38_3 < (l0_1.length : Int)) = true := decide_eq_true c19
            clear c19
            replace H := Option.bind_eq_some_iff.mp H
            obtain ⟨t259, A200, H⟩ := H
            replace H : (if t259 = true then (impl_GridOk.l0 k3 l0_1 (l0_1.length : Int) (wrap64 (x38_3 + 1))) else (some false)) = some r := H
            have A20 := Zs.mk A200
            clear A200
            by_cases c21 : t259 = true
            ·subst c21
             have H1 : (impl_GridOk.l0 k3 l0_1 (l0_1.length : Int) (wrap64 (x38_3 + 1))) = some r := by rw [if_pos rfl] at H; exact H
             clear H
             have H := H1
             clear H1
             have H' := Zs.mk H
             clear H
             have p257 : 0 ≤ (x38_3 : Int) := of_decide_eq_true zq8
             have q257 : x38_3 < (l0_1.length : Int) := of_decide_eq_true zq8
             obtain ⟨ad257, e257, hx257_0, hx257_1⟩ := at_T57 HR0_1.out x38_3 p257 q257
             cases e257
             replace hx257_0 := (HB.out.cell (World.block_lt_of_cell? w _ hx257_0)).trans hx257_0
             replace hx257_1 := (HB.out.cell (World.block_lt_of_cell? w _ hx257_1)).trans hx257_1
             replace p257 := eq_true p257
             replace q257 := eq_true q257
             go_wp2_with (first | ((with_reducible refine gate_dst (N := 4) rfl ?_); (try (refine gate_guard (by rfl) ?_; dsimp only)); refine box_event ?hg (N := 4) ?hd (cs := #[.int .i64 0, .int .i64 0]) (t := 57) ?hr ?_; (case hd => rfl); (case hg => rfl); (case hr => first | (go_simp; done) | (go_simp; rfl)); intro gb258 hg w22 hbox hb; have n0_ := Zs.mk (kBe (g := gb256) (o := .cells #[.int .i64 a0_0, .slice (some ad257) l0_1.length c0_1] 25 (0, 0)) zq66 hb); have n1_ := Zs.mk (bSp zq53 hb); have n2_ := Zs.mk (hbox); have n3_ := Zs.mk ((by rw [hg]; exact (bSz zq53) : w.heap.size ≤ gb258)); have n4_ := Zs.mk ((by rw [hg]; exact (bSz zq53) : w.heap.size ≤ gb258)); have n5_ := Zs.mk ((by rw [hg]; exact Nat.ne_of_lt (blk_lt (g := gb256) (o := .cells #[.int .i64 a0_0, .slice (some ad257) l0_1.length c0_1] 25 (0, 0)) zq66) : gb256 ≠ gb258)); have n6_ := Zs.mk ((by rw [hg]; exact Nat.ne_of_gt (blk_lt (g := gb256) (o := .cells #[.int .i64 a0_0, .slice (some ad257) l0_1.length c0_1] 25 (0, 0)) zq66) : gb258 ≠ gb256)); clear BK256; clear HB; have BK256 := n0_; have HB := n1_; have BK258 := n2_; have GW258 := n3_; have GE258 := n4_; have NB256_258 := n5_; have NB258_256 := n6_; clear n0_ n1_ n2_ n3_ n4_ n5_ n6_; clear hb hbox hg; have hnb23 := NB258_256.out; have hnc23 := NB256_258.out; have hcz24_0 : w22.cell? ⟨gb258, 0, none⟩ = some (.int .i64 0) := (kCe BK258.out 0).trans rfl; have hcz24_1 : w22.cell? ⟨gb258, 1, none⟩ = some (.int .i64 0) := (kCe BK258.out 1).trans rfl; have hfz24_0 := kFr BK258.out 0; have hfz24_1 := kFr BK258.out 1) | ((with_reducible refine gate_callee (f := 66) rfl ?_); refine goesL_ (some 43) rfl rfl Try.func66 zq6 rfl #[.agg #[.int .i64 ((rd_T57 l0_1 x38_3).f0), .int .i64 ((rd_T57 l0_1 x38_3).f1)]] rfl zq1 ?_; (with_reducible refine (impl_CellOk.calls ((rd_T57 l0_1 x38_3).f0) ((rd_T57 l0_1 x38_3).f1) true _ A20.out).mono ?_); rintro e w25 ⟨rfl, hb⟩; refine ⟨_, rfl, ?_⟩; have n0_ := Zs.mk (kBe (g := gb256) (o := .cells #[.int .i64 a0_0, .slice (some ad257) l0_1.length c0_1] 25 (0, 0)) zq74 hb); have n1_ := Zs.mk (kBe (g := gb258) (o := .cells #[.int .i64 ((rd_T57 l0_1 x38_3).f0), .int .i64 ((rd_T57 l0_1 x38_3).f1)] 57 (0, 0)) zq68 hb); have n2_ := Zs.mk (bSp (by repeat (first | (with_reducible first | exact HB.out | apply bAl | apply bDN | apply bD1 | refine bSt ?_ GE256.out | refine bSt ?_ GE258.out) | exact HB.out)) hb); clear BK256; clear BK258; clear HB; have BK256 := n0_; have BK258 := n1_; have HB := n2_; clear n0_ n1_ n2_; (try clear hb); (try clear hb2); (try clear hk); (try clear hi)))
             go_roundg k3
             case measure => have := HJ1.out; have := HJ7.out; have := HK3.out; omega
             case rel => exact ⟨(wrap64 (x38_3 + 1)), zq13, H', ⟨by have := HJ1.out; have := HJ7.out; have := HK3.out; omega⟩, ⟨by (with_reducible repeat (first | refine kDN ?_ _ | refine kDr ?_ | refine kAl ?_ _)); exact BK256.out⟩, ⟨by repeat (first | (with_reducible first | exact HB.out | apply bAl | apply bDN | apply bD1 | refine bSt ?_ GE256.out | refine bSt ?_ GE258.out) | exact HB.out)⟩⟩
            ·replace c21 := Bool.eq_false_iff.mpr c21
             subst c21
             have H1 : (some false) = some r := by rw [if_neg (show ¬ (false = true) by decide)] at H; exact H
             clear H
             have H := H1
             clear H1
             obtain rfl := Option.some.inj H
             have p257 : 0 ≤ (x38_3 : Int) := of_decide_eq_true zq8
             have q257 : x38_3 < (l0_1.length : Int) := of_decide_eq_true zq8
             obtain ⟨ad257, e257, hx257_0, hx257_1⟩ := at_T57 HR0_1.out x38_3 p257 q257
             cases e257
             replace hx257_0 := (HB.out.cell (World.block_lt_of_cell? w _ hx257_0)).trans hx257_0
             replace hx257_1 := (HB.out.cell (World.block_lt_of_cell? w _ hx257_1)).trans hx257_1
             replace p257 := eq_true p257
             replace q257 := eq_true q257
             go_wp2_with (first | ((with_reducible refine gate_dst (N := 4) rfl ?_); (try (refine gate_guard (by rfl) ?_; dsimp only)); refine box_event ?hg (N := 4) ?hd (cs := #[.int .i64 0, .int .i64 0]) (t := 57) ?hr ?_; (case hd => rfl); (case hg => rfl); (case hr => first | (go_simp; done) | (go_simp; rfl)); intro gb258 hg w26 hbox hb; have n0_ := Zs.mk (kBe (g := gb256) (o := .cells #[.int .i64 a0_0, .slice (some ad257) l0_1.length c0_1] 25 (0, 0)) zq66 hb); have n1_ := Zs.mk (bSp zq53 hb); have n2_ := Zs.mk (hbox); have n3_ := Zs.mk ((by rw [hg]; exact (bSz zq53) : w.heap.size ≤ gb258)); have n4_ := Zs.mk ((by rw [hg]; exact (bSz zq53) : w.heap.size ≤ gb258)); have n5_ := Zs.mk ((by rw [hg]; exact Nat.ne_of_lt (blk_lt (g := gb256) (o := .cells #[.int .i64 a0_0, .slice (some ad257) l0_1.length c0_1] 25 (0, 0)) zq66) : gb256 ≠ gb258)); have n6_ := Zs.mk ((by rw [hg]; exact Nat.ne_of_gt (blk_lt (g := gb256) (o := .cells #[.int .i64 a0_0, .slice (some ad257) l0_1.length c0_1] 25 (0, 0)) zq66) : gb258 ≠ gb256)); clear BK256; clear HB; have BK256 := n0_; have HB := n1_; have BK258 := n2_; have GW258 := n3_; have GE258 := n4_; have NB256_258 := n5_; have NB258_256 := n6_; clear n0_ n1_ n2_ n3_ n4_ n5_ n6_; clear hb hbox hg; have hnb27 := NB258_256.out; have hnc27 := NB256_258.out; have hcz28_0 : w26.cell? ⟨gb258, 0, none⟩ = some (.int .i64 0) := (kCe BK258.out 0).trans rfl; have hcz28_1 : w26.cell? ⟨gb258, 1, none⟩ = some (.int .i64 0) := (kCe BK258.out 1).trans rfl; have hfz28_0 := kFr BK258.out 0; have hfz28_1 := kFr BK258.out 1) | ((with_reducible refine gate_callee (f := 66) rfl ?_); refine goesL_ (some 43) rfl rfl Try.func66 zq6 rfl #[.agg #[.int .i64 ((rd_T57 l0_1 x38_3).f0), .int .i64 ((rd_T57 l0_1 x38_3).f1)]] rfl zq1 ?_; (with_reducible refine (impl_CellOk.calls ((rd_T57 l0_1 x38_3).f0) ((rd_T57 l0_1 x38_3).f1) false _ A20.out).mono ?_); rintro e w29 ⟨rfl, hb⟩; refine ⟨_, rfl, ?_⟩; have n0_ := Zs.mk (kBe (g := gb256) (o := .cells #[.int .i64 a0_0, .slice (some ad257) l0_1.length c0_1] 25 (0, 0)) zq74 hb); have n1_ := Zs.mk (kBe (g := gb258) (o := .cells #[.int .i64 ((rd_T57 l0_1 x38_3).f0), .int .i64 ((rd_T57 l0_1 x38_3).f1)] 57 (0, 0)) zq68 hb); have n2_ := Zs.mk (bSp (by repeat (first | (with_reducible first | exact HB.out | apply bAl | apply bDN | apply bD1 | refine bSt ?_ GE256.out | refine bSt ?_ GE258.out) | exact HB.out)) hb); clear BK256; clear BK258; clear HB; have BK256 := n0_; have BK258 := n1_; have HB := n2_; clear n0_ n1_ n2_; (try clear hb); (try clear hb2); (try clear hk); (try clear hi)))
             go_ret
             exact ⟨by first | rfl | (simp [errW_none, errW_some] <;> rfl) | (simp [*, errW_none, errW_some] <;> rfl), by repeat (first | (with_reducible first | exact HB.out | apply bAl | apply bDN | apply bD1 | refine bSt ?_ GE256.out | refine bSt ?_ GE258.out) | exact HB.out)⟩
           ·rw [if_neg c19] at H
            exact absurd H zq58
          ·rw [if_neg c18] at H
           exact absurd H zq58
         ·rw [if_neg c17] at H
          have c17b0 : decide (x38_3 < (l0_1.length : Int)) = false := decide_eq_false c17
          clear c17
          obtain rfl := Option.some.inj H
          go_wp2
          go_ret
          exact ⟨by first | rfl | (simp [errW_none, errW_some] <;> rfl) | (simp [*, errW_none, errW_some] <;> rfl), by repeat (first | (with_reducible first | exact HB.out | apply bAl | apply bDN | apply bD1 | refine bSt ?_ GE256.out) | exact HB.out)⟩

end Go.Proofs.Ytejgohgmmndgbaa.PFnTrailTurn
--slim
