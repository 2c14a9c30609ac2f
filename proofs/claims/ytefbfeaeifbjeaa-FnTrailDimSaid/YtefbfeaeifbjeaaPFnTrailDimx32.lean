-- Written by a program of this session: the kit's print, with functions among it that were proved by hand.
import Derived.Test.YtefbfeaeifbjeaaPFnTrailDimx0
import Derived.Test.YtefbfeaeifbjeaaPFnTrailDimx26
import Derived.Test.YtefbfeaeifbjeaaPFnTrailDimx27
import Derived.Test.YtefbfeaeifbjeaaPFnTrailDimx30
import Derived.Test.YtefbfeaeifbjeaaPFnTrailDimx31
namespace Go.Proofs.Ytefbfeaeifbjeaa.PFnTrailDim
open Go.RowKit Go.Proofs.YtefbfeaeifbjeaaW.PrintWords Go.Proofs.YtefbfeaeifbjeaaW.PrintLast Go.Proofs.YtefbfeaeifbjeaaW.PrintMore
attribute [local go_sem] max2_int min2_int max_two min_two max_three min_three max_four min_four   -- for this text's walks alone
set_option linter.unusedVariables false
set_option linter.unusedSimpArgs false


open Go.Proofs.Ytefbfeaeifbjeaa.HandA
/-! ### spec's walk from a sight -/
set_option maxHeartbeats 8000000 in
set_option maxRecDepth 100000 in
theorem l11Go (k : Nat) (w : Int) (A : Option Addr) (c : Nat) (l : List S57) (a1 with_reducible_ y : Int) (r : List S65 × List S60) (W : World) (hr : Kd.C k57 W A l.length l) (hc : l.length ≤ c) (hx : spec_l3Ray.f w l a1 = some (with_reducible_, y)) (hq : comeF k w l k with_reducible_ y 64 [] [] = some r) :
  Calls Try.prog 56 #[.agg #[.int .i64 w, .slice A l.length c], .int .i64 a1] W fun e w' => ∃ (bt : Nat) (v0 v1 : Value), e = .returned (.pointer (some ⟨bt, 0, none⟩)) ∧ WalkSt W w' W.heap.size bt w A l.length c v0 v1 r.1 r.2 := by
 have HX : Zs (WalkSt W ((((W.alloc (.cells #[.int .i64 w, .slice A l.length c] 25 (0, 0))).alloc (.cells #[] 65 (0, 0))).alloc (.cells #[] 60 (0, 0))).alloc (.cells #[.int .i64 w, .slice A l.length c, .slice (some ⟨W.heap.size + 1, 0, none⟩) 0 0, .slice (some ⟨W.heap.size + 1 + 1, 0, none⟩) 0 0] 81 (0, 0))) W.heap.size (W.heap.size + 1 + 1 + 1) w A l.length c (.slice (some ⟨W.heap.size + 1, 0, none⟩) 0 0) (.slice (some ⟨W.heap.size + 1 + 1, 0, none⟩) 0 0) [] []) := by
  refine ⟨⟨four_new W _ _ _ _, R_lit0 (kAl (two_new W _ _ _) _) (by omega) (by omega), R_lit0 (kAl (three_new W _ _ _) _) (by omega) (by omega), ?_, by omega⟩⟩
  repeat (first | exact Below.refl _ _ | refine Below.alloc ?_ (by first | (simp; done) | (simp; omega)) _)
 have HC : Zs (∀ W', Below W.heap.size W W' → Kd.C k57 W' A l.length l) := ⟨fun _ hb => Kd.C_below hr hb⟩
 have HQ := Zs.mk hq
 clear hr hq
 go_enter Try.func56, Try.ntmps56
 go_wp2_with (first | (go_at_call 75; refine (come_all k W W.heap.size _ w A c l HC.out hc k with_reducible_ y 64 [] [] _ _ r _ HQ.out (H1.out.alloc _)).mono ?_; rintro e w2 ⟨rfl, va, vb, h2⟩; have H2 := Zs.mk h2; clear h2) | (go_at_call 74; refine (spec_l3Ray.calls w A c l a1 with_reducible_ y _ (HC.out _ HX.out.bl) hc hx).mono ?_; rintro e w1 ⟨rfl, hb1⟩; have H1 := Zs.mk (HX.out.below hb1); clear hb1))
 go_ret
 exact ⟨_, _, _, rfl, H2.out⟩

open Go.Proofs.Ytefbfeaeifbjeaa.HandA
/-! ### spec_TrailVisits: function 37 -/
def spec_TrailVisits.f (k : Nat) (a0_0 : Int) (l0_1 : List (S57)) (a1 : Int) : Option (List (S65)) :=
 (spec_l11Is.f k a0_0 l0_1 a1).bind fun t => if t = true then (spec_l3Ray.f a0_0 l0_1 a1).bind fun with_reducible_ => (comeF k a0_0 l0_1 k with_reducible_.1 with_reducible_.2 64 [] []).bind fun r => some r.1 else some []
theorem spec_TrailVisits.mono : ∀ a0 a1 a2 k, LeO (spec_TrailVisits.f k a0 a1 a2) (spec_TrailVisits.f (k + 1) a0 a1 a2) := by
 intro a0 a1 a2 k
 unfold spec_TrailVisits.f
 exact LeO.bind (spec_l11Is.mono _ _ _ _) fun _ => LeO.ite (LeO.bind (LeO.refl _) fun _ => LeO.bind (comeF_mono _ _ _ _ _ _ _ _ _) fun _ => LeO.refl _) (LeO.refl _)
set_option maxHeartbeats 8000000 in
set_option maxRecDepth 100000 in
theorem spec_TrailVisits_no (k : Nat) (w : Int) (A : Option Addr) (c : Nat) (l : List S57) (a1 : Int) (W : World) (hr : Kd.C k57 W A l.length l) (hc : l.length ≤ c) (ht : spec_l11Is.f k w l a1 = some false) :
  Calls Try.prog 37 #[.agg #[.int .i64 w, .slice A l.length c], .int .i64 a1] W fun e w' => ∃ v0_ : Value, e = .returned v0_ ∧ Kd.R k65 65 w' W.heap.size (fun _ => True) v0_ [] ∧ Below W.heap.size W w' := by
 go_enter Try.func37, Try.ntmps37
 go_wp2_with (go_at_call 55; refine (spec_l11Is.calls k w A c l a1 false _ (by with_reducible repeat (first | apply Kd.C_alloc | apply Kd.C_drewN | apply Kd.C_drew | exact hr)) hc ht).mono ?_; rintro e w' ⟨rfl, hbel⟩; have bb : Below W.heap.size W w' := Below.trans (by repeat (first | exact Below.refl _ _ | refine Below.alloc ?_ (by first | (simp; done) | (simp; omega)) _)) (hbel.mono (by first | (simp; done) | (simp; omega))))
 go_ret
 exact ⟨_, rfl, R_lit0 (blk_new _ _) bb.size trivial, bb.alloc bb.size _⟩
set_option maxHeartbeats 8000000 in
set_option maxRecDepth 100000 in
theorem spec_TrailVisits_yes (k : Nat) (w : Int) (A : Option Addr) (c : Nat) (l : List S57) (a1 with_reducible_ y : Int) (r : List S65 × List S60) (W : World) (hr : Kd.C k57 W A l.length l) (hc : l.length ≤ c) (ht : spec_l11Is.f k w l a1 = some true) (hx : spec_l3Ray.f w l a1 = some (with_reducible_, y)) (hq : comeF k w l k with_reducible_ y 64 [] [] = some r) :
  Calls Try.prog 37 #[.agg #[.int .i64 w, .slice A l.length c], .int .i64 a1] W fun e w' => ∃ v0_ : Value, e = .returned v0_ ∧ Kd.R k65 65 w' W.heap.size (fun _ => True) v0_ r.1 ∧ Below W.heap.size W w' := by
 go_enter Try.func37, Try.ntmps37
 go_wp2_with (first | (go_at_call 56; refine (l11Go k w A c l a1 with_reducible_ y r _ (Kd.C_below hr bb) hc hx hq).mono ?_; rintro e w2 ⟨bt, v0, v1, rfl, H2⟩; have bb2 : Below W.heap.size W w2 := Below.trans bb (H2.bl.mono bb.size); have HR2 : Kd.R k65 65 w2 W.heap.size (fun _ => True) v0 r.1 := Kd.R_mono (Kd.R_lower H2.rv bb.size) (fun _ _ => trivial); obtain ⟨A7, c7, e7⟩ := Kd.R_slice H2.rv; subst e7; have g2 : w2.cell? ⟨bt, 2, none⟩ = some (.slice A7 (r.1).length c7) := (kCe H2.hbt 2).trans rfl) | (go_at_call 55; refine (spec_l11Is.calls k w A c l a1 true _ (by with_reducible repeat (first | apply Kd.C_alloc | apply Kd.C_drewN | apply Kd.C_drew | exact hr)) hc ht).mono ?_; rintro e w' ⟨rfl, hbel⟩; have bk0 : w'.heap[W.heap.size]? = some (.cells #[.int .i64 w, .slice A l.length c] 25 (0, 0)) := kBe (by exact blk_new W _) hbel; have g0 : w'.cell? ⟨W.heap.size, 0, none⟩ = some (.int .i64 w) := (kCe bk0 0).trans rfl; have g1 : w'.cell? ⟨W.heap.size, 1, none⟩ = some (.slice A l.length c) := (kCe bk0 1).trans rfl; have bb : Below W.heap.size W w' := Below.trans (by repeat (first | exact Below.refl _ _ | refine Below.alloc ?_ (by first | (simp; done) | (simp; omega)) _)) (hbel.mono (by first | (simp; done) | (simp; omega)))))
 go_ret
 exact ⟨_, rfl, HR2, bb2⟩
theorem spec_TrailVisits.calls (k : Nat) (a0_0 : Int) (A0_1 : Option Addr) (c0_1 : Nat) (l0_1 : List (S57)) (a1 : Int) (r : List (S65)) (w : World) (hr0_1 : Kd.C k57 w A0_1 l0_1.length l0_1) (hc0_1 : l0_1.length ≤ c0_1) (h : spec_TrailVisits.f k a0_0 l0_1 a1 = some r) :
  Calls Try.prog 37 #[.agg #[.int .i64 a0_0, .slice A0_1 l0_1.length c0_1], .int .i64 a1] w fun e w' => ∃ v0_ : Value, e = .returned (v0_) ∧ Kd.R k65 65 w' w.heap.size (fun _ => True) v0_ r ∧ Below w.heap.size w w' := by
 unfold spec_TrailVisits.f at h
 obtain ⟨t, ht, h⟩ := Option.bind_eq_some_iff.1 h
 cases t with
 | false => cases (show some ([] : List (S65)) = some r from h); exact spec_TrailVisits_no k a0_0 A0_1 c0_1 l0_1 a1 w hr0_1 hc0_1 ht
 | true =>
  obtain ⟨⟨with_reducible_, y⟩, hx, h⟩ := Option.bind_eq_some_iff.1 (show ((spec_l3Ray.f a0_0 l0_1 a1).bind fun with_reducible_ => (comeF k a0_0 l0_1 k with_reducible_.1 with_reducible_.2 64 [] []).bind fun r => some r.1) = some r from h)
  obtain ⟨rr, hq, h⟩ := Option.bind_eq_some_iff.1 h
  cases h
  exact spec_TrailVisits_yes k a0_0 A0_1 c0_1 l0_1 a1 with_reducible_ y rr w hr0_1 hc0_1 ht hx hq

end Go.Proofs.Ytefbfeaeifbjeaa.PFnTrailDim
--slim
