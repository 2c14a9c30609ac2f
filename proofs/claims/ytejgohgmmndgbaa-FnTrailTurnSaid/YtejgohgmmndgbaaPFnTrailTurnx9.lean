-- Written by a program of this session: the kit's print, with functions among it that were proved by hand.
import Derived.Test.YtejgohgmmndgbaaPFnTrailTurnx0
import Derived.Test.YtejgohgmmndgbaaPFnTrailTurnx3
import Derived.Test.YtejgohgmmndgbaaPFnTrailTurnx4
import Derived.Test.YtejgohgmmndgbaaPFnTrailTurnx7
import Derived.Test.YtejgohgmmndgbaaPFnTrailTurnx8
namespace Go.Proofs.Ytejgohgmmndgbaa.PFnTrailTurn
open Go.RowKit Go.Proofs.YtejgohgmmndgbaaW.PrintWords Go.Proofs.YtejgohgmmndgbaaW.PrintLast Go.Proofs.YtejgohgmmndgbaaW.PrintMore
attribute [local go_sem] max2_int min2_int max_two min_two max_three min_three max_four min_four   -- for this text's walks alone
set_option linter.unusedVariables false
set_option linter.unusedSimpArgs false


open Go.Proofs.Ytejgohgmmndgbaa.HandA
/-! ### spec's walk from a sight -/
set_option maxHeartbeats 8000000 in
set_option maxRecDepth 100000 in
theorem l11Go (k : Nat) (w : Int) (A : Option Addr) (c : Nat) (l : List S57) (a1 x y : Int) (r : List S50 × List S55) (W : World) (hr : Kd.C k57 W A l.length l) (hc : l.length ≤ c) (hx : spec_l3Ray.f w l a1 = some (x, y)) (hq : comeF k w l k x y 64 [] [] = some r) :
  Calls Try.prog 46 #[.agg #[.int .i64 w, .slice A l.length c], .int .i64 a1] W fun e w' => ∃ (bt : Nat) (v0 v1 : Value), e = .returned (.pointer (some ⟨bt, 0, none⟩)) ∧ WalkSt W w' W.heap.size bt w A l.length c v0 v1 r.1 r.2 := by
 have HX : Zs (WalkSt W ((((W.alloc (.cells #[.int .i64 w, .slice A l.length c] 25 (0, 0))).alloc (.cells #[] 50 (0, 0))).alloc (.cells #[] 55 (0, 0))).alloc (.cells #[.int .i64 w, .slice A l.length c, .slice (some ⟨W.heap.size + 1, 0, none⟩) 0 0, .slice (some ⟨W.heap.size + 1 + 1, 0, none⟩) 0 0] 74 (0, 0))) W.heap.size (W.heap.size + 1 + 1 + 1) w A l.length c (.slice (some ⟨W.heap.size + 1, 0, none⟩) 0 0) (.slice (some ⟨W.heap.size + 1 + 1, 0, none⟩) 0 0) [] []) := by
  refine ⟨⟨four_new W _ _ _ _, R_lit0 (kAl (two_new W _ _ _) _) zq37 zq37, R_lit0 (kAl (three_new W _ _ _) _) zq37 zq37, ?_, by omega⟩⟩
  repeat (first | exact Below.refl _ _ | refine Below.alloc ?_ zq5 _)
 have HC : Zs (∀ W', Below W.heap.size W W' → Kd.C k57 W' A l.length l) := ⟨fun _ hb => Kd.C_below hr hb⟩
 have HQ := Zs.mk hq
 clear hr hq
 go_enter Try.func46, Try.ntmps46
 go_wp2_with (first | (go_at_call 77; refine (come_all k W W.heap.size _ w A c l HC.out hc k x y 64 [] [] _ _ r _ HQ.out (H1.out.alloc _)).mono ?_; rintro e w2 ⟨rfl, va, vb, h2⟩; have H2 := Zs.mk h2; clear h2) | (go_at_call 76; refine (spec_l3Ray.calls w A c l a1 x y _ (HC.out _ HX.out.bl) hc hx).mono ?_; rintro e w1 ⟨rfl, hb1⟩; have H1 := Zs.mk (HX.out.below hb1); clear hb1))
 go_ret
 exact ⟨_, _, _, rfl, H2.out⟩

open Go.Proofs.Ytejgohgmmndgbaa.HandA
/-! ### spec_TrailEnds: function 32 -/
def spec_TrailEnds.f (k : Nat) (a0_0 : Int) (l0_1 : List (S57)) (a1 : Int) : Option (List (S55)) :=
 (spec_l11Is.f k a0_0 l0_1 a1).bind fun t => if t = true then (spec_l3Ray.f a0_0 l0_1 a1).bind fun x => (comeF k a0_0 l0_1 k x.1 x.2 64 [] []).bind fun r => some r.2 else some []
theorem spec_TrailEnds.mono : ∀ a0 a1 a2 k, LeO (spec_TrailEnds.f k a0 a1 a2) (spec_TrailEnds.f (k + 1) a0 a1 a2) := by
 intro a0 a1 a2 k
 unfold spec_TrailEnds.f
 exact LeO.bind (spec_l11Is.mono _ _ _ _) fun _ => LeO.ite (LeO.bind (LeO.refl _) fun _ => LeO.bind (comeF_mono _ _ _ _ _ _ _ _ _) fun _ => LeO.refl _) (LeO.refl _)
set_option maxHeartbeats 8000000 in
set_option maxRecDepth 100000 in
theorem spec_TrailEnds_no (k : Nat) (w : Int) (A : Option Addr) (c : Nat) (l : List S57) (a1 : Int) (W : World) (hr : Kd.C k57 W A l.length l) (hc : l.length ≤ c) (ht : spec_l11Is.f k w l a1 = some false) :
  Calls Try.prog 32 #[.agg #[.int .i64 w, .slice A l.length c], .int .i64 a1] W fun e w' => ∃ v0_ : Value, e = .returned v0_ ∧ Kd.R k55 55 w' W.heap.size (fun _ => True) v0_ [] ∧ Below W.heap.size W w' := by
 go_enter Try.func32, Try.ntmps32
 go_wp2_with (go_at_call 45; refine (spec_l11Is.calls k w A c l a1 false _ zq50 hc ht).mono ?_; rintro e w' ⟨rfl, hbel⟩; have bb : Below W.heap.size W w' := Below.trans zq46 (hbel.mono zq5))
 go_ret
 exact ⟨_, rfl, R_lit0 (blk_new _ _) bb.size trivial, bb.alloc bb.size _⟩
set_option maxHeartbeats 8000000 in
set_option maxRecDepth 100000 in
theorem spec_TrailEnds_yes (k : Nat) (w : Int) (A : Option Addr) (c : Nat) (l : List S57) (a1 x y : Int) (r : List S50 × List S55) (W : World) (hr : Kd.C k57 W A l.length l) (hc : l.length ≤ c) (ht : spec_l11Is.f k w l a1 = some true) (hx : spec_l3Ray.f w l a1 = some (x, y)) (hq : comeF k w l k x y 64 [] [] = some r) :
  Calls Try.prog 32 #[.agg #[.int .i64 w, .slice A l.length c], .int .i64 a1] W fun e w' => ∃ v0_ : Value, e = .returned v0_ ∧ Kd.R k55 55 w' W.heap.size (fun _ => True) v0_ r.2 ∧ Below W.heap.size W w' := by
 go_enter Try.func32, Try.ntmps32
 go_wp2_with (first | (go_at_call 46; refine (l11Go k w A c l a1 x y r _ (Kd.C_below hr bb) hc hx hq).mono ?_; rintro e w2 ⟨bt, v0, v1, rfl, H2⟩; have bb2 : Below W.heap.size W w2 := Below.trans bb (H2.bl.mono bb.size); have HR2 : Kd.R k55 55 w2 W.heap.size (fun _ => True) v1 r.2 := Kd.R_mono (Kd.R_lower H2.re bb.size) (fun _ _ => trivial); obtain ⟨A7, c7, e7⟩ := Kd.R_slice H2.re; subst e7; have g2 : w2.cell? ⟨bt, 3, none⟩ = some (.slice A7 (r.2).length c7) := (kCe H2.hbt 3).trans rfl) | (go_at_call 45; refine (spec_l11Is.calls k w A c l a1 true _ zq50 hc ht).mono ?_; rintro e w' ⟨rfl, hbel⟩; have bk0 : w'.heap[W.heap.size]? = some (.cells #[.int .i64 w, .slice A l.length c] 25 (0, 0)) := kBe (by exact blk_new W _) hbel; have g0 : w'.cell? ⟨W.heap.size, 0, none⟩ = some (.int .i64 w) := (kCe bk0 0).trans rfl; have g1 : w'.cell? ⟨W.heap.size, 1, none⟩ = some (.slice A l.length c) := (kCe bk0 1).trans rfl; have bb : Below W.heap.size W w' := Below.trans zq46 (hbel.mono zq5)))
 go_ret
 exact ⟨_, rfl, HR2, bb2⟩
theorem spec_TrailEnds.calls (k : Nat) (a0_0 : Int) (A0_1 : Option Addr) (c0_1 : Nat) (l0_1 : List (S57)) (a1 : Int) (r : List (S55)) (w : World) (hr0_1 : Kd.C k57 w A0_1 l0_1.length l0_1) (hc0_1 : l0_1.length ≤ c0_1) (h : spec_TrailEnds.f k a0_0 l0_1 a1 = some r) :
  Calls Try.prog 32 #[.agg #[.int .i64 a0_0, .slice A0_1 l0_1.length c0_1], .int .i64 a1] w fun e w' => ∃ v0_ : Value, e = .returned (v0_) ∧ Kd.R k55 55 w' w.heap.size (fun _ => True) v0_ r ∧ Below w.heap.size w w' := by
 unfold spec_TrailEnds.f at h
 obtain ⟨t, ht, h⟩ := Option.bind_eq_some_iff.1 h
 cases t with
 | false => cases (show some ([] : List (S55)) = some r from h); exact spec_TrailEnds_no k a0_0 A0_1 c0_1 l0_1 a1 w hr0_1 hc0_1 ht
 | true =>
  obtain ⟨⟨x, y⟩, hx, h⟩ := Option.bind_eq_some_iff.1 (show ((spec_l3Ray.f a0_0 l0_1 a1).bind fun x => (comeF k a0_0 l0_1 k x.1 x.2 64 [] []).bind fun r => some r.2) = some r from h)
  obtain ⟨rr, hq, h⟩ := Option.bind_eq_some_iff.1 h
  cases h
  exact spec_TrailEnds_yes k a0_0 A0_1 c0_1 l0_1 a1 x y rr w hr0_1 hc0_1 ht hx hq

/-- A state of type 90 at block g of W; what its slices lead to came in by w0. -/
def IsS90 (w0 W : World) (g : Nat) (f0 : List Int) (f1 : Int) : Prop := ∃ A0 c0, W.heap[g]? = some (.cells #[.slice A0 f0.length c0, .int .i64 f1] 90 (0, 0)) ∧ w0.heap.size ≤ g ∧ Kd.C (Kd.int .u8) w0 A0 f0.length f0
theorem IsS90.grown {w0 W : World} {g : Nat} {f0 : List Int} {f1 : Int} {W1 : World} {row : Option Nat} (h : IsS90 w0 W g f0 f1) (hw : W.grownBy W1 row) (hne : some g ≠ row) : IsS90 w0 W1 g f0 f1 := by
 obtain ⟨A0, c0, hb, hg, hr0⟩ := h
 exact ⟨A0, c0, blk_grown hb hw hne, hg, hr0⟩
theorem IsS90.own_neN {w0 W : World} {g : Nat} {f0 : List Int} {f1 : Int} {α : Type} {d : Kd α} {e : Nat} {base : Nat} {ok : Nat → Prop} {v : Value} {xs : List α} (h : IsS90 w0 W g f0 f1) (ho : Kd.N d e W base ok v xs) (ht : e ≠ 90) : some g ≠ v.ownBlock := by
 obtain ⟨A0, c0, hb, hg, hr0⟩ := h
 exact Kd.N_ne ho hb ht
theorem IsS90.fresh {w0 W : World} {g : Nat} {f0 : List Int} {f1 : Int} (h : IsS90 w0 W g f0 f1) : ∀ k, W.heap.size ≤ k → k ≠ g := by
 obtain ⟨A0, c0, hb, hg, hr0⟩ := h
 exact Kd.freshB hb
theorem IsS90.kept {w0 W : World} {g : Nat} {f0 : List Int} {f1 : Int} {W1 : World} {S : Nat → Prop} (h : IsS90 w0 W g f0 f1) (hk : Kept W W1 S) (hne : ¬ S g) : IsS90 w0 W1 g f0 f1 := by
 obtain ⟨A0, c0, hb, hg, hr0⟩ := h
 exact ⟨A0, c0, blk_kept hb hk hne, hg, hr0⟩
theorem IsS90.below {w0 W : World} {g : Nat} {f0 : List Int} {f1 : Int} {W1 : World} (h : IsS90 w0 W g f0 f1) (hw : Below W.heap.size W W1) : IsS90 w0 W1 g f0 f1 := h.grown (grown_of_below hw none) zq58
theorem IsS90.alloc {w0 W : World} {g : Nat} {f0 : List Int} {f1 : Int} (h : IsS90 w0 W g f0 f1) (o : Obj) : IsS90 w0 (W.alloc o) g f0 f1 := h.below (bAl (Below.refl _ _) o)
theorem IsS90.drewN {w0 W : World} {g : Nat} {f0 : List Int} {f1 : Int} (h : IsS90 w0 W g f0 f1) (m : Nat) : IsS90 w0 (W.drewN m) g f0 f1 := h
theorem IsS90.drew {w0 W : World} {g : Nat} {f0 : List Int} {f1 : Int} (h : IsS90 w0 W g f0 f1) : IsS90 w0 W.drew g f0 f1 := h
theorem IsS90.at_ {w0 W : World} {g : Nat} {f0 : List Int} {f1 : Int} {w' : World} {m : Nat} (hq : W.drewN m = w') (h : IsS90 w0 W g f0 f1) : IsS90 w0 w' g f0 f1 := by subst hq; exact IsS90.drewN h m
theorem IsS90.apart {w0 W : World} {g : Nat} {f0 : List Int} {f1 : Int} {α : Type} {d : Kd α} {e : Nat} {base : Nat} {ok : Nat → Prop} {v : Value} {xs : List α} (h : IsS90 w0 W g f0 f1) (ho : d.R e W base ok v xs) (ht : ∀ q, q ∈ e :: d.E → q ≠ 90) : d.R e W base (fun k => ok k ∧ k ≠ g) v xs := by
 obtain ⟨A0, c0, hb, hg, hr0⟩ := h
 exact Kd.R_types ho hb ht
theorem IsS90.own_ne {w0 W : World} {g : Nat} {f0 : List Int} {f1 : Int} {α : Type} {d : Kd α} {e : Nat} {base : Nat} {ok : Nat → Prop} {v : Value} {xs : List α} (h : IsS90 w0 W g f0 f1) (ho : d.R e W base ok v xs) (ht : e ≠ 90) : some g ≠ v.ownBlock := by
 obtain ⟨A0, c0, hb, hg, hr0⟩ := h
 exact Kd.R_ne ho hb ht
theorem IsS90.apartQ {w0 W : World} {g : Nat} {f0 : List Int} {f1 : Int} {α : Type} {d : Kd α} {e : Nat} {base : Nat} {ok : Nat → Prop} {v : Value} {xs : List α} (h : IsS90 w0 W g f0 f1) (ho : d.Q e W base ok v xs) (ht : ∀ q, q ∈ e :: d.E → q ≠ 90) : d.Q e W base (fun k => ok k ∧ k ≠ g) v xs := by
 obtain ⟨A0, c0, hb, hg, hr0⟩ := h
 exact Kd.Q_types ho hb ht
theorem IsS90.own_neQ {w0 W : World} {g : Nat} {f0 : List Int} {f1 : Int} {α : Type} {d : Kd α} {e : Nat} {base : Nat} {ok : Nat → Prop} {v : Value} {xs : List α} (h : IsS90 w0 W g f0 f1) (ho : d.Q e W base ok v xs) (ht : e ≠ 90) : some g ≠ v.ownBlock := by
 obtain ⟨A0, c0, hb, hg, hr0⟩ := h
 exact Kd.Q_ne ho hb ht
theorem IsS90.apartS {w0 W : World} {g : Nat} {f0 : List Int} {f1 : Int} {α : Type} {d : Kd α} {e : Nat} {base : Nat} {ok : Nat → Prop} {v : Value} {xs : List α} (h : IsS90 w0 W g f0 f1) (ho : d.S e W base ok v xs) (ht : ∀ q, q ∈ e :: d.E → q ≠ 90) : d.S e W base (fun k => ok k ∧ k ≠ g) v xs := by
 obtain ⟨A0, c0, hb, hg, hr0⟩ := h
 exact Kd.S_types ho hb ht
theorem IsS90.own_neS {w0 W : World} {g : Nat} {f0 : List Int} {f1 : Int} {α : Type} {d : Kd α} {e : Nat} {base : Nat} {ok : Nat → Prop} {v : Value} {xs : List α} (h : IsS90 w0 W g f0 f1) (ho : d.S e W base ok v xs) (ht : e ≠ 90) : some g ≠ v.ownBlock := by
 obtain ⟨A0, c0, hb, hg, hr0⟩ := h
 exact Kd.S_ne ho hb ht
theorem IsS90.lt {w0 W : World} {g : Nat} {f0 : List Int} {f1 : Int} (h : IsS90 w0 W g f0 f1) : g < W.heap.size := by
 obtain ⟨A0, c0, hb, hg, hr0⟩ := h
 exact blk_lt hb
theorem IsS90.ge {w0 W : World} {g : Nat} {f0 : List Int} {f1 : Int} (h : IsS90 w0 W g f0 f1) : w0.heap.size ≤ g := by
 obtain ⟨A0, c0, hb, hg, hr0⟩ := h
 exact hg
theorem IsS90.ne_blk {w0 W : World} {g : Nat} {f0 : List Int} {f1 : Int} {a : Nat} {cs : Array Value} {t : TypeId} {fr : Nat × Nat} (h : IsS90 w0 W g f0 f1) (hb2 : W.heap[a]? = some (.cells cs t fr)) (ht : t ≠ 90) : g ≠ a := by
 obtain ⟨A0, c0, hb, hg, hr0⟩ := h
 rintro rfl
 rw [hb] at hb2
 injection hb2 with hb2
 injection hb2 with _ ht2
 exact ht ht2.symm
theorem IsS90.far {w0 W : World} {g : Nat} {f0 : List Int} {f1 : Int} {p : Addr} (h : IsS90 w0 W g f0 f1) (hne : g ≠ p.block) (u : Value) : IsS90 w0 (W.setCell p u) g f0 f1 := by
 obtain ⟨A0, c0, hb, hg, hr0⟩ := h
 exact ⟨A0, c0, blk_far hb hne u, hg, hr0⟩
theorem cellS90_0 {W : World} {g : Nat} {A0 : Option Addr} {c0 : Nat} {f0 : List Int} {f1 : Int} (h : W.heap[g]? = some (.cells #[.slice A0 f0.length c0, .int .i64 f1] 90 (0, 0))) : W.cell? ⟨g, 0, none⟩ = some (.slice A0 f0.length c0) := (kCe h 0).trans rfl
theorem cellS90_1 {W : World} {g : Nat} {A0 : Option Addr} {c0 : Nat} {f0 : List Int} {f1 : Int} (h : W.heap[g]? = some (.cells #[.slice A0 f0.length c0, .int .i64 f1] 90 (0, 0))) : W.cell? ⟨g, 1, none⟩ = some (.int .i64 f1) := (kCe h 1).trans rfl
theorem IsS90.set_1 {w0 W : World} {g : Nat} {f0 : List Int} {f1 : Int} (h : IsS90 w0 W g f0 f1) (x : Int) : IsS90 w0 (W.setCell ⟨g, 1, none⟩ (.int .i64 x)) g f0 x := by
 obtain ⟨A0, c0, hb, hg, hr0⟩ := h
 exact ⟨A0, c0, by simpa using blk_set hb 1 (.int .i64 x), hg, hr0⟩
theorem IsS90.new (w0 W : World) (A0 : Option Addr) (c0 : Nat) (f0 : List Int) (f1 : Int) (hB : Below w0.heap.size w0 W) (hr0 : Kd.C (Kd.int .u8) w0 A0 f0.length f0) : IsS90 w0 (W.alloc (.cells #[.slice A0 f0.length c0, .int .i64 f1] 90)) W.heap.size f0 f1 := ⟨A0, c0, by simpa using heap_alloc_new W _, hB.size, hr0⟩

/-! ### spec_l6Open: function 40 -/
def spec_l6Open.f (l0 : List Int) : Option (List Int × Int) := if (l0.length : Int) > 2000 then (if 2000 ≤ (l0.length : Int) then (some (l0.take 2000, 0)) else (none)) else (some (l0, 0))
set_option maxHeartbeats 8000000 in
set_option maxRecDepth 100000 in
theorem spec_l6Open.calls (A0 : Option Addr) (c0 : Nat) (l0 : List Int) (r1 : List Int) (r2 : Int) (w0 w : World) (hB : Below w0.heap.size w0 w) (hr0 : Kd.C (Kd.int .u8) w0 A0 l0.length l0) (hc0 : l0.length ≤ c0) (h : spec_l6Open.f l0 = some (r1, r2)) :
  Calls Try.prog 40 #[.slice A0 l0.length c0] w fun e w' => ∃ g_ : Nat, e = .returned (.pointer (some ⟨g_, 0, none⟩)) ∧ IsS90 w0 w' g_ r1 r2 ∧ Below w0.heap.size w0 w' ∧ Below w.heap.size w w' := by
 have hu90 := Try.underlying90
 have HR0 := Zs.mk hr0
 have HC0 := Zs.mk hc0
 clear hr0 hc0
 have HBW := Zs.mk (Below.refl w.heap.size w)
 have HW0 := Zs.mk hB.size
 have HB := Zs.mk hB
 clear hB
 have H : (if (l0.length : Int) > 2000 then (if 2000 ≤ (l0.length : Int) then (some (l0.take 2000, 0)) else (none)) else (some (l0, 0))) = some (r1, r2) := h
 clear h
 by_cases c2 : (l0.length : Int) > 2000
 ·rw [if_pos c2] at H
  have c2b0 : decide (2000 < (l0.length : Int)) = true := decide_eq_true c2
  have c2b1 : decide (2000 < l0.length) = true := decide_eq_true zq37
  clear c2
  by_cases c3 : 2000 ≤ (l0.length : Int)
  ·rw [if_pos c3] at H
   have c3b0 := eq_true c3
   have c3b1 : decide (2000 ≤ (l0.length : Int)) = true := decide_eq_true c3
   clear c3
   simp only [Option.some.injEq, Prod.mk.injEq] at H
   obtain ⟨rfl, rfl⟩ := H
   obtain ⟨i04, hi04, _, hsz4, _⟩ := info_parts info5
   obtain ⟨hcut4, hA4, hC4⟩ := print_take_of (P := Try.prog) (Value.int .u8) 0 22 5 .i64 Try.underlying22 hi04 hsz4 A0 c0 l0 2000 zq37 (of_decide_eq_true zq8) HC0.out
   have HR143 := Zs.mk (Kd.C_of_reads (h1 := fun _ => rfl) (hA4 _ (Kd.reads_of_C HR0.out)))
   have HC143 := Zs.mk hC4
   clear hA4 hC4 hi04 hsz4
   go_enter Try.func40, Try.ntmps40
   go_wp2_with (first | ((with_reducible refine gate_dst (N := 10) rfl ?_); refine box_event ?hg (N := 10) ?hd (cs := #[.slice A0 (l0.take 2000).length c0, .int .i64 0]) (t := 90) ?hr ?_; (case hd => rfl); (case hg => rfl); (case hr => first | (go_simp; done) | (go_simp; rfl)); intro gb144 hg w5 hbox hb; have n0_ := Zs.mk (bSp HBW.out hb); have n1_ := Zs.mk (bSp zq2 hb); have n2_ := Zs.mk (hbox); have n3_ := Zs.mk ((by rw [hg]; exact (bSz zq78) : w.heap.size ≤ gb144)); have n4_ := Zs.mk ((Nat.le_trans HW0.out (by rw [hg]; exact (bSz zq78) : w.heap.size ≤ gb144) : w0.heap.size ≤ gb144)); clear HBW; clear HB; have HBW := n0_; have HB := n1_; have BK144 := n2_; have GW144 := n3_; have GE144 := n4_; clear n0_ n1_ n2_ n3_ n4_; clear hb hbox hg))
   go_ret
   exact ⟨_, rfl, (show IsS90 w0 _ gb144 (l0.take 2000) 0 from ⟨_, _, by (with_reducible repeat (first | refine kDN ?_ _ | refine kDr ?_ | refine kAl ?_ _)); exact BK144.out, GE144.out, HR143.out⟩), by repeat (first | (with_reducible first | exact HB.out | apply bAl | apply bDN | apply bD1 | refine bSt ?_ GE144.out) | exact HB.out), by repeat (first | (with_reducible first | exact HBW.out | apply bAl | apply bDN | apply bD1 | refine bSt ?_ GW144.out) | exact HBW.out)⟩
  ·rw [if_neg c3] at H
   exact absurd H zq58
 ·rw [if_neg c2] at H
  have c2b0 : decide (2000 < (l0.length : Int)) = false := decide_eq_false c2
  have c2b1 : decide (2000 < l0.length) = false := decide_eq_false zq37
  clear c2
  simp only [Option.some.injEq, Prod.mk.injEq] at H
  obtain ⟨rfl, rfl⟩ := H
  go_enter Try.func40, Try.ntmps40
  go_wp2_with (first | ((with_reducible refine gate_dst (N := 10) rfl ?_); refine box_event ?hg (N := 10) ?hd (cs := #[.slice A0 l0.length c0, .int .i64 0]) (t := 90) ?hr ?_; (case hd => rfl); (case hg => rfl); (case hr => first | (go_simp; done) | (go_simp; rfl)); intro gb145 hg w6 hbox hb; have n0_ := Zs.mk (bSp HBW.out hb); have n1_ := Zs.mk (bSp zq2 hb); have n2_ := Zs.mk (hbox); have n3_ := Zs.mk ((by rw [hg]; exact (bSz zq78) : w.heap.size ≤ gb145)); have n4_ := Zs.mk ((Nat.le_trans HW0.out (by rw [hg]; exact (bSz zq78) : w.heap.size ≤ gb145) : w0.heap.size ≤ gb145)); clear HBW; clear HB; have HBW := n0_; have HB := n1_; have BK145 := n2_; have GW145 := n3_; have GE145 := n4_; clear n0_ n1_ n2_ n3_ n4_; clear hb hbox hg))
  go_ret
  exact ⟨_, rfl, (show IsS90 w0 _ gb145 l0 0 from ⟨_, _, by (with_reducible repeat (first | refine kDN ?_ _ | refine kDr ?_ | refine kAl ?_ _)); exact BK145.out, GE145.out, HR0.out⟩), by repeat (first | (with_reducible first | exact HB.out | apply bAl | apply bDN | apply bD1 | refine bSt ?_ GE145.out) | exact HB.out), by repeat (first | (with_reducible first | exact HBW.out | apply bAl | apply bDN | apply bD1 | refine bSt ?_ GW145.out) | exact HBW.out)⟩

end Go.Proofs.Ytejgohgmmndgbaa.PFnTrailTurn
--slim
