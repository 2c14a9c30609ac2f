-- Written by a program of this session: the kit's print, with functions among it that were proved by hand.
import Derived.Test.YtejgohgmmndgbaaPFnTrailTurnx0
import Derived.Test.YtejgohgmmndgbaaPFnTrailTurnx1
import Derived.Test.YtejgohgmmndgbaaPFnTrailTurnx5
import Derived.Test.YtejgohgmmndgbaaPFnTrailTurnx6
namespace Go.Proofs.Ytejgohgmmndgbaa.PFnTrailTurn
open Go.RowKit Go.Proofs.YtejgohgmmndgbaaW.PrintWords Go.Proofs.YtejgohgmmndgbaaW.PrintLast Go.Proofs.YtejgohgmmndgbaaW.PrintMore
attribute [local go_sem] max2_int min2_int max_two min_two max_three min_three max_four min_four   -- for this text's walks alone
set_option linter.unusedVariables false
set_option linter.unusedSimpArgs false

/-! ### spec_DirTurn: function 99 -/
def spec_DirTurn.j0 : Nat → Int → Int → Bool → Option (Int)
 | 0, _, _, _ => none
 | k + 1, x1, x8, x9 => if x9 = true then (some (Go.bits .xor .i64 x1 1)) else (if x8 = 3 then (some (wrap64 (3 - x1))) else (if x8 = 5 then (some (wrap64 (3 - x1))) else (some x1)))
def spec_DirTurn.f (k : Nat) (a0 : Int) (a1 : Int) : Option (Int) := (spec_l6In.f a1 0 3).bind fun t142 => (if t142 = true then (if a0 = 2 then (spec_DirTurn.j0 k a1 a0 (a0 == 2)) else (spec_DirTurn.j0 k a1 a0 (a0 == 4))) else (some (-1)))
theorem spec_DirTurn.mono_l : ∀ k, (∀ y0 y1 y2, LeO (spec_DirTurn.j0 k y0 y1 y2) (spec_DirTurn.j0 (k + 1) y0 y1 y2))
 | 0 => fun _ _ _ r h => by simp [spec_DirTurn.j0] at h
 | k + 1 => by
  have ih0 := spec_DirTurn.mono_l k
  ·intro y0 y1 y2
   unfold spec_DirTurn.j0
   repeat' first
   | (with_reducible exact ih0 _ _ _)
   | (with_reducible exact LeO.refl _)
   | (with_reducible exact LeO.none _)
   | (with_reducible refine LeO.ite ?_ ?_)
   | (with_reducible refine LeO.bind ?_ (fun _ => ?_))
   | exact ih0 _ _ _
   | exact LeO.none _
   | refine LeO.ite ?_ ?_
   | refine LeO.bind ?_ (fun _ => ?_)
theorem spec_DirTurn.mono : ∀ a0 a1 k, LeO (spec_DirTurn.f k a0 a1) (spec_DirTurn.f (k + 1) a0 a1) := by
 intro a0 a1 k
 have ih0 := spec_DirTurn.mono_l k
 unfold spec_DirTurn.f
 repeat' first
   | (with_reducible exact ih0 _ _ _)
   | (with_reducible exact LeO.refl _)
   | (with_reducible exact LeO.none _)
   | (with_reducible refine LeO.ite ?_ ?_)
   | (with_reducible refine LeO.bind ?_ (fun _ => ?_))
   | exact ih0 _ _ _
   | exact LeO.none _
   | refine LeO.ite ?_ ?_
   | refine LeO.bind ?_ (fun _ => ?_)
set_option maxHeartbeats 8000000 in
set_option maxRecDepth 100000 in
theorem spec_DirTurn.calls (k : Nat) (a0 : Int) (a1 : Int) (r : Int) (w : World) (h : spec_DirTurn.f k a0 a1 = some r) :
  Calls Try.prog 99 #[.int .i64 a0, .int .i64 a1] w fun e w' => e = .returned (.int .i64 r) ∧ Drawn0 w w' := by
 have H : ((spec_l6In.f a1 0 3).bind fun t142 => (if t142 = true then (if a0 = 2 then (spec_DirTurn.j0 k a1 a0 (a0 == 2)) else (spec_DirTurn.j0 k a1 a0 (a0 == 4))) else (some (-1)))) = some r := h
 clear h
 replace H := Option.bind_eq_some_iff.mp H
 obtain ⟨t142, A30, H⟩ := H
 replace H : (if t142 = true then (if a0 = 2 then (spec_DirTurn.j0 k a1 a0 (a0 == 2)) else (spec_DirTurn.j0 k a1 a0 (a0 == 4))) else (some (-1))) = some r := H
 have A3 := Zs.mk A30
 clear A30
 by_cases c4 : t142 = true
 ·subst c4
  have H1 : (if a0 = 2 then (spec_DirTurn.j0 k a1 a0 (a0 == 2)) else (spec_DirTurn.j0 k a1 a0 (a0 == 4))) = some r := by rw [if_pos rfl] at H; exact H
  clear H
  have H := H1
  clear H1
  have HC5 := Zs.mk H
  clear H
  go_enter Try.func99, Try.ntmps99
  go_upto_if 9 with (first | ((with_reducible refine gate_callee (f := 65) rfl ?_); refine goesL_ (some 6) rfl rfl Try.func65 zq6 rfl #[.int .i64 a1, .int .i64 0, .int .i64 3] rfl zq1 ?_; (with_reducible refine (spec_l6In.calls a1 0 3 true _ A3.out).mono ?_); rintro e w' ⟨rfl, ⟨nd, rfl⟩⟩; refine ⟨_, rfl, ?_⟩))
  (try simp only [Act.put, List.setIfInBounds_toArray, List.set_cons_zero, List.set_cons_succ])
  go_cut [9] (fun v9 wc => ∃ (kq : Nat) (x9_4 : Bool), v9 = .bool x9_4 ∧ Zs (spec_DirTurn.j0 kq a1 a0 x9_4 = some r) ∧ Zs (kq ≤ k) ∧ Drawn0 w wc)
  case first =>
   have H := HC5.out
   clear HC5
   by_cases c6 : a0 = 2
   ·rw [if_pos c6] at H
    have c6b0 : (a0 == 2) = true := beq_iff_eq.mpr c6
    have c6b1 : (a0 != 2) = false := bne_eq_false_iff_eq.mpr c6
    clear c6
    (first | rw [c6b0] | (simp only [i64_w, i32_w]; rw [c6b0]) | skip)
    have H' := Zs.mk H
    clear H
    go_wp2
    go_meet
    case rel => exact ⟨_, ((a0 == 2)), zq13, H', ⟨by first | omega | exact Nat.le_refl _⟩, by repeat (first | exact Drawn0.refl _ | apply Drawn0.step)⟩
   ·rw [if_neg c6] at H
    have c6b0 : (a0 == 2) = false := beq_eq_false_iff_ne.mpr c6
    have c6b1 : (a0 != 2) = true := bne_iff_ne.mpr c6
    (first | rw [c6b0] | (simp only [i64_w, i32_w]; rw [c6b0]) | skip)
    have H' := Zs.mk H
    clear H
    go_wp2
    go_meet
    case rel => exact ⟨_, ((a0 == 4)), zq13, H', ⟨by first | omega | exact Nat.le_refl _⟩, by repeat (first | exact Drawn0.refl _ | apply Drawn0.step)⟩
  case rest =>
   clear HC5
   try clear p2
   try clear c4
   try clear c6
   try clear c6b0
   try clear c6b1
   obtain ⟨kq, x9_4, rfl, HA, HJ4, ⟨mc4, rfl⟩⟩ := hcut
   cases kq with
   | zero => exact absurd HA.out (by simp [spec_DirTurn.j0])
   | succ kj4 =>
    have H := HA.out
    clear HA
    simp only [spec_DirTurn.j0] at H
    by_cases c7 : x9_4 = true
    ·subst c7
     have H1 : (some (Go.bits .xor .i64 a1 1)) = some r := by rw [if_pos rfl] at H; exact H
     clear H
     have H := H1
     clear H1
     obtain rfl := Option.some.inj H
     go_wp2
     go_ret
     exact ⟨by first | rfl | (simp; done) | (simp [*]; done), by repeat (first | exact Drawn0.refl _ | apply Drawn0.step)⟩
    ·replace c7 := Bool.eq_false_iff.mpr c7
     subst c7
     have H1 : (if a0 = 3 then (some (wrap64 (3 - a1))) else (if a0 = 5 then (some (wrap64 (3 - a1))) else (some a1))) = some r := by rw [if_neg (show ¬ (false = true) by decide)] at H; exact H
     clear H
     have H := H1
     clear H1
     by_cases c8 : a0 = 3
     ·rw [if_pos c8] at H
      have c8b0 : (a0 == 3) = true := beq_iff_eq.mpr c8
      have c8b1 : (a0 != 3) = false := bne_eq_false_iff_eq.mpr c8
      clear c8
      obtain rfl := Option.some.inj H
      go_wp2
      go_ret
      exact ⟨by first | rfl | (simp; done) | (simp [*]; done), by repeat (first | exact Drawn0.refl _ | apply Drawn0.step)⟩
     ·rw [if_neg c8] at H
      have c8b0 : (a0 == 3) = false := beq_eq_false_iff_ne.mpr c8
      have c8b1 : (a0 != 3) = true := bne_iff_ne.mpr c8
      by_cases c9 : a0 = 5
      ·rw [if_pos c9] at H
       have c9b0 : (a0 == 5) = true := beq_iff_eq.mpr c9
       have c9b1 : (a0 != 5) = false := bne_eq_false_iff_eq.mpr c9
       clear c9
       obtain rfl := Option.some.inj H
       go_wp2
       go_ret
       exact ⟨by first | rfl | (simp; done) | (simp [*]; done), by repeat (first | exact Drawn0.refl _ | apply Drawn0.step)⟩
      ·rw [if_neg c9] at H
       have c9b0 : (a0 == 5) = false := beq_eq_false_iff_ne.mpr c9
       have c9b1 : (a0 != 5) = true := bne_iff_ne.mpr c9
       obtain rfl := Option.some.inj H
       go_wp2
       go_ret
       exact ⟨by first | rfl | (simp; done) | (simp [*]; done), by repeat (first | exact Drawn0.refl _ | apply Drawn0.step)⟩
 ·replace c4 := Bool.eq_false_iff.mpr c4
  subst c4
  have H1 : (some (-1)) = some r := by rw [if_neg (show ¬ (false = true) by decide)] at H; exact H
  clear H
  have H := H1
  clear H1
  obtain rfl := Option.some.inj H
  go_enter Try.func99, Try.ntmps99
  go_wp2_with (first | ((with_reducible refine gate_callee (f := 65) rfl ?_); refine goesL_ (some 6) rfl rfl Try.func65 zq6 rfl #[.int .i64 a1, .int .i64 0, .int .i64 3] rfl zq1 ?_; (with_reducible refine (spec_l6In.calls a1 0 3 false _ A3.out).mono ?_); rintro e w' ⟨rfl, ⟨nd, rfl⟩⟩; refine ⟨_, rfl, ?_⟩))
  go_ret
  exact ⟨by first | rfl | (simp; done) | (simp [*]; done), by repeat (first | exact Drawn0.refl _ | apply Drawn0.step)⟩

-- NOT PRINTED: function 77 (spec_l11Walk_come)

open Go.Proofs.Ytejgohgmmndgbaa.HandA
/-! ### the end of light, at a walk -/
set_option maxHeartbeats 4000000 in
set_option maxRecDepth 100000 in
theorem walkEnd_pos (w0 : World) (B bt : Nat) (gx : Int) (gy v0 v1 : Value) (es : List S55) (kind where_ weight : Int) (W : World) (hp : decide (0 < weight) = true) (ht : W.heap[bt]? = some (.cells #[.int .i64 gx, gy, v0, v1] 74 (0, 0))) (hr : Kd.R k55 55 W B (fun k => k ≠ bt) v1 es) (hB : Below B w0 W) (hb : B ≤ bt) (hl : es.length ≤ 1000000) :
  Calls Try.prog 97 #[.pointer (some ⟨bt, 0, none⟩), .int .i64 kind, .int .i64 where_, .int .i64 weight] W fun e w' => e = .returned (.tuple #[]) ∧ ∃ v1' : Value, w'.heap[bt]? = some (.cells #[.int .i64 gx, gy, v0, v1'] 74 (0, 0)) ∧ Kd.R k55 55 w' B (fun k => k ≠ bt) v1' (es ++ [⟨kind, where_, weight⟩]) ∧ Below B w0 w' ∧ Stay W w' bt v1 := by
 obtain ⟨A1, c1, rfl⟩ := Kd.R_slice hr
 have HT := Zs.mk ht
 have HR := Zs.mk hr
 have HB := Zs.mk hB
 have HL : Zs (bt < W.heap.size ∧ B ≤ bt ∧ es.length ≤ 1000000) := ⟨blk_lt ht, hb, hl⟩
 have t0 : W.cell? ⟨bt, 2, none⟩ = some v0 := (kCe ht 2).trans rfl
 have t1 : W.cell? ⟨bt, 3, none⟩ = some (.slice A1 es.length c1) := (kCe ht 3).trans rfl
 have X0 := kAl ht (.cells #[.int .i64 kind, .int .i64 where_, .int .i64 weight] 55 (0, 0))
 clear ht hr hB hb hl
 go_enter Try.func97, Try.ntmps97
 go_wp2_with (at_builtin; refine Kd.R_append k55 (w0 := w0) B rfl (.tmp 14) (.tmp 19) 51 55 (.agg #[.int .i64 0, .int .i64 0, .int .i64 0]) 24 rfl Try.underlying51 infoEnd rfl zq31 zq37 (.slice A1 es.length c1) es ⟨kind, where_, weight⟩ [.int .i64 kind, .int .i64 where_, .int .i64 weight] (fun k => k ≠ bt) (fun _ => False) rfl rfl ?aP (fun _ hk => hk.elim) ?aF ?aO ?aB ?aS ?aL ?_; (case aP => exact k55_mkM _ _ _ _); (case aF => exact (fun k hk => by have := HL.out; omega)); (case aO => exact HR.out); (case aB => exact HB.out); (case aS => have := HL.out; omega); (case aL => have := HL.out; omega); intro v1' w3 ho hb hg hat; obtain ⟨A2, c2, e2⟩ := Kd.R_slice ho; rw [List.length_append, List.length_singleton] at e2; subst e2; have bk := blk_grown HT.out hg (fun e => HR.out.1 bt e.symm rfl); have f1 := kFr bk 3; have d1 : w3.cell? ⟨bt, 3, none⟩ = some (.slice A1 es.length c1) := (kCe bk 3).trans rfl)
 go_end0
 have hne : ∀ k, (fun k => k ≠ bt) k → k ≠ bt := fun _ h => h
 refine ⟨rfl, .slice A2 (es.length + 1) c2, ?_, R_set (g := bt) (i := 3) (u := .slice A2 (es.length + 1) c2) k55_flat ho hne, hb.setCell HL.out.2.1 _, ?_⟩
 ·simpa using blk_set bk 3 (.slice A2 (es.length + 1) c2)
 ·refine ⟨by rw [World.size_setCell]; exact hg.size, fun k hk hkg hko => (heap_set_ne hkg).trans (hg.block k hk (fun e => hko e.symm))⟩
set_option maxHeartbeats 4000000 in
set_option maxRecDepth 100000 in
theorem walkEnd_no (p : Value) (kind where_ weight : Int) (W : World) (hp : decide (0 < weight) = false) :
  Calls Try.prog 97 #[p, .int .i64 kind, .int .i64 where_, .int .i64 weight] W fun e w' => e = .returned (.tuple #[]) ∧ w' = W := by
 go_enter Try.func97, Try.ntmps97
 go_wp2
 go_end0
 exact ⟨rfl, rfl⟩
theorem walkEnd (w0 : World) (B bt : Nat) (gx : Int) (gy v0 v1 : Value) (es : List S55) (kind where_ weight : Int) (W : World) (ht : W.heap[bt]? = some (.cells #[.int .i64 gx, gy, v0, v1] 74 (0, 0))) (hr : Kd.R k55 55 W B (fun k => k ≠ bt) v1 es) (hB : Below B w0 W) (hb : B ≤ bt) (hl : es.length ≤ 1000000) :
  Calls Try.prog 97 #[.pointer (some ⟨bt, 0, none⟩), .int .i64 kind, .int .i64 where_, .int .i64 weight] W fun e w' => e = .returned (.tuple #[]) ∧ ∃ v1' : Value, w'.heap[bt]? = some (.cells #[.int .i64 gx, gy, v0, v1'] 74 (0, 0)) ∧ Kd.R k55 55 w' B (fun k => k ≠ bt) v1' (endV es kind where_ weight) ∧ Below B w0 w' ∧ Stay W w' bt v1 := by
 unfold endV
 by_cases hw : weight > 0
 ·rw [if_pos hw]
  exact walkEnd_pos w0 B bt gx gy v0 v1 es kind where_ weight W (by simpa using hw) ht hr hB hb hl
 ·rw [if_neg hw]
  refine (walkEnd_no _ kind where_ weight W (by simpa using hw)).mono ?_
  rintro e w' ⟨rfl, rfl⟩
  exact ⟨rfl, v1, ht, hr, hB, Nat.le_refl _, fun _ _ _ _ => rfl⟩


open Go.Proofs.Ytejgohgmmndgbaa.HandA
/-! ### the walk of spec's light -/
section
variable (k : Nat) (w : Int) (l : List S57)
def leaveF (come : Int → Int → Int → List S50 → List S55 → Option (List S50 × List S55)) (at_ dir weight : Int) (vs : List S50) (es : List S55) : Option (List S50 × List S55) :=
 if es.length ≤ 1000000 then
  (spec_l2Next.f w l at_ dir).bind fun x => if x.2.2 = true then come x.1 dir weight vs es else (spec_l3Of.f k w l at_ dir).bind fun s => some (vs, endV es 0 s weight)
 else none
def halfF (come : Int → Int → Int → List S50 → List S55 → Option (List S50 × List S55)) (at_ dir weight : Int) (vs : List S50) (es : List S55) : Option (List S50 × List S55) :=
 if weight > 0 then leaveF k w l come at_ dir weight vs es else some (vs, es)
def comeF : Nat → Int → Int → Int → List S50 → List S55 → Option (List S50 × List S55)
 | 0, _, _, _, _, _ => none
 | q + 1, at_, dir, weight, vs, es =>
  if weight = 0 then some (vs, es)
  else if 0 ≤ at_ ∧ at_ < (l.length : Int) ∧ 0 ≤ weight ∧ weight ≤ 1000 ∧ vs.length ≤ 1000000 ∧ es.length ≤ 999990 then
   if (rd_T57 l at_).f0 = 1 then some (vs ++ [⟨at_, dir, weight⟩], endV es 1 at_ weight)
   else if (rd_T57 l at_).f0 = 7 then some (vs ++ [⟨at_, dir, weight⟩], endV es 2 at_ weight)
   else if (rd_T57 l at_).f0 = 6 then halfF k w l (comeF q) at_ dir (weight / 2) (vs ++ [⟨at_, dir, weight⟩]) (endV es 3 at_ (weight - weight / 2))
   else if (rd_T57 l at_).f0 = 4 ∨ (rd_T57 l at_).f0 = 5 then
    (halfF k w l (comeF q) at_ dir (weight / 2) (vs ++ [⟨at_, dir, weight⟩]) (endV es 3 at_ (weight - 2 * (weight / 2)))).bind fun r =>
    (spec_DirTurn.f k (rd_T57 l at_).f0 dir).bind fun d => halfF k w l (comeF q) at_ d (weight / 2) r.1 r.2
   else (spec_DirTurn.f k (rd_T57 l at_).f0 dir).bind fun d => leaveF k w l (comeF q) at_ d weight (vs ++ [⟨at_, dir, weight⟩]) es
  else none
end
theorem leaveF_mono {k : Nat} {w : Int} {l : List S57} {c c' : Int → Int → Int → List S50 → List S55 → Option (List S50 × List S55)} (h : ∀ a b x y z, LeO (c a b x y z) (c' a b x y z)) : ∀ a b x y z, LeO (leaveF k w l c a b x y z) (leaveF (k + 1) w l c' a b x y z) := by
 intro a b x y z
 unfold leaveF
 exact LeO.ite (LeO.bind (LeO.refl _) fun _ => LeO.ite (h _ _ _ _ _) (LeO.bind (spec_l3Of.mono _ _ _ _ _) fun _ => LeO.refl _)) (LeO.none _)
theorem halfF_mono {k : Nat} {w : Int} {l : List S57} {c c' : Int → Int → Int → List S50 → List S55 → Option (List S50 × List S55)} (h : ∀ a b x y z, LeO (c a b x y z) (c' a b x y z)) : ∀ a b x y z, LeO (halfF k w l c a b x y z) (halfF (k + 1) w l c' a b x y z) := by
 intro a b x y z
 unfold halfF
 exact LeO.ite (leaveF_mono h _ _ _ _ _) (LeO.refl _)
theorem comeF_mono (k : Nat) (w : Int) (l : List S57) : ∀ q a b x y z, LeO (comeF k w l q a b x y z) (comeF (k + 1) w l (q + 1) a b x y z)
 | 0, _, _, _, _, _ => fun r h => by simp [comeF] at h
 | q + 1, a, b, x, y, z => by
  have ih := comeF_mono k w l q
  rw [comeF, comeF.eq_2 (k + 1)]
  exact LeO.ite (LeO.refl _) (LeO.ite (LeO.ite (LeO.refl _) (LeO.ite (LeO.refl _) (LeO.ite (halfF_mono ih _ _ _ _ _) (LeO.ite (LeO.bind (halfF_mono ih _ _ _ _ _) fun _ => LeO.bind (spec_DirTurn.mono _ _ _) fun _ => halfF_mono ih _ _ _ _ _) (LeO.bind (spec_DirTurn.mono _ _ _) fun _ => leaveF_mono ih _ _ _ _ _))))) (LeO.none _))
structure WalkSt (W0 wr : World) (B bt : Nat) (w : Int) (A : Option Addr) (n c : Nat) (v0 v1 : Value) (vs : List S50) (es : List S55) : Prop where
 hbt : wr.heap[bt]? = some (.cells #[.int .i64 w, .slice A n c, v0, v1] 74 (0, 0))
 rv : Kd.R k50 50 wr B (fun k => k ≠ bt) v0 vs
 re : Kd.R k55 55 wr B (fun k => k ≠ bt) v1 es
 bl : Below B W0 wr
 hb : B ≤ bt
section
variable {W0 wr w1 : World} {B bt : Nat} {w : Int} {A : Option Addr} {n c : Nat} {v0 v1 : Value} {vs : List S50} {es : List S55}
theorem WalkSt.below (H : WalkSt W0 wr B bt w A n c v0 v1 vs es) (hb : Below wr.heap.size wr w1) : WalkSt W0 w1 B bt w A n c v0 v1 vs es :=
 ⟨kBe H.hbt hb, Kd.R_below H.rv hb, Kd.R_below H.re hb, Below.trans H.bl (hb.mono (by have := blk_lt H.hbt; have := H.hb; omega)), H.hb⟩
theorem WalkSt.alloc (H : WalkSt W0 wr B bt w A n c v0 v1 vs es) (o : Obj) : WalkSt W0 (wr.alloc o) B bt w A n c v0 v1 vs es := H.below ((Below.refl _ _).alloc (Nat.le_refl _) _)
theorem WalkSt.ended {v1' : Value} {es' : List S55} (H : WalkSt W0 wr B bt w A n c v0 v1 vs es) (h1 : w1.heap[bt]? = some (.cells #[.int .i64 w, .slice A n c, v0, v1'] 74 (0, 0))) (h2 : Kd.R k55 55 w1 B (fun k => k ≠ bt) v1' es') (h3 : Below B W0 w1) (h4 : Stay wr w1 bt v1) : WalkSt W0 w1 B bt w A n c v0 v1' vs es' :=
 ⟨h1, R_flat k50_flat H.rv (fun k hk => h4.2 k (R_ty H.rv k hk).1 (R_ty H.rv k hk).2.2.1 (R_ne H.rv H.re zq31 k hk)) (fun _ _ h => h) (fun _ _ h => h), h2, h3, H.hb⟩
theorem WalkSt.visited {v0' : Value} {vs' : List S50} (H : WalkSt W0 wr B bt w A n c v0 v1 vs es) (ho : Kd.R k50 50 w1 B (fun k => k ≠ bt) v0' vs') (hb : Below B W0 w1) (hg : wr.grownBy w1 v0.ownBlock) : WalkSt W0 (w1.setCell ⟨bt, 2, none⟩ v0') B bt w A n c v0' v1 vs' es := by
 have hs : ∀ k, (fun k => k ≠ bt) k → k ≠ bt := fun _ h => h
 refine ⟨?_, R_set k50_flat ho hs, R_set k55_flat (R_grown k55_flat H.re H.rv zq31 hg) hs, hb.setCell H.hb _, H.hb⟩
 simpa using blk_set (blk_grown H.hbt hg (fun e => R_ne_blk H.rv H.hbt zq31 e.symm)) 2 v0'
end

end Go.Proofs.Ytejgohgmmndgbaa.PFnTrailTurn
--slim
