-- Written by a program of this session: the kit's print, with functions among it that were proved by hand.
import Derived.Test.YtejgohgmmndgbaaPFnTrailTurnx0
import Derived.Test.YtejgohgmmndgbaaPFnTrailTurnx18
import Derived.Test.YtejgohgmmndgbaaPFnTrailTurnx19
import Derived.Test.YtejgohgmmndgbaaPFnTrailTurnx30
import Derived.Test.YtejgohgmmndgbaaPFnTrailTurnx31
import Derived.Test.YtejgohgmmndgbaaPFnTrailTurnx32
namespace Go.Proofs.Ytejgohgmmndgbaa.PFnTrailTurn
open Go.RowKit Go.Proofs.YtejgohgmmndgbaaW.PrintWords Go.Proofs.YtejgohgmmndgbaaW.PrintLast Go.Proofs.YtejgohgmmndgbaaW.PrintMore
attribute [local go_sem] max2_int min2_int max_two min_two max_three min_three max_four min_four   -- for this text's walks alone
set_option linter.unusedVariables false
set_option linter.unusedSimpArgs false

open Go.Proofs.Ytejgohgmmndgbaa.HandA
/-! ### impl_GridFlip: function 14 -/
/-- What the two that move a grid's cells are asked. -/
def impl_GridFlip.fit (w : Int) (l : List (S57)) : Prop := 1 ≤ w ∧ w ≤ 5 ∧ 1 ≤ (l.length : Int) / w ∧ (l.length : Int) / w ≤ 5 ∧ (l.length : Int) = w * ((l.length : Int) / w) ∧ l.length ≤ 25 ∧ l.all (fun c => CellA.ctOk c.f0 c.f1) = true
instance (w : Int) (l : List (S57)) : Decidable (impl_GridFlip.fit w l) := by unfold impl_GridFlip.fit; infer_instance
def impl_GridFlip.f (k : Nat) (a0_0 : Int) (l0_1 : List (S57)) : Option (Int × (List (S57))) :=
 (impl_GridOk.f k a0_0 l0_1).bind fun ok => if ok = true then (if impl_GridFlip.fit a0_0 l0_1 then some (a0_0, movedL l0_1 (fun i => ((i : Int) / a0_0 * a0_0 + a0_0 - 1 - (i : Int) % a0_0).toNat)) else none) else some (0, [])
theorem impl_GridFlip.mono : ∀ a0 a1 k, LeO (impl_GridFlip.f k a0 a1) (impl_GridFlip.f (k + 1) a0 a1) := by
 intro a0 a1 k
 unfold impl_GridFlip.f
 exact LeO.bind (impl_GridOk.mono _ _ _) fun _ => LeO.refl _
set_option maxHeartbeats 8000000 in
set_option maxRecDepth 100000 in
theorem impl_GridFlip_no (k : Nat) (w : Int) (A : Option Addr) (c : Nat) (l : List S57) (W : World) (hr : Kd.C k57 W A l.length l) (hc : l.length ≤ c) (hok : impl_GridOk.f k w l = some false) :
  Calls Try.prog 14 #[.agg #[.int .i64 w, .slice A l.length c]] W fun e w' => ∃ v1_ : Value, e = .returned (.agg #[.int .i64 0, v1_]) ∧ Kd.R k57 57 w' W.heap.size (fun _ => True) v1_ [] ∧ Below W.heap.size W w' := by
 have HC : Zs (∀ W', Below W.heap.size W W' → Kd.C k57 W' A l.length l) := ⟨fun _ hb => Kd.C_below hr hb⟩
 have HO := Zs.mk hok
 clear hr hok
 go_enter Try.func14, Try.ntmps14
 go_wp2_with (go_at_call 48; refine (impl_GridOk.calls k w A c l false _ (HC.out _ zq46) hc HO.out).mono ?_; rintro e w2 ⟨rfl, hb⟩; have bk0 := Zs.mk (kBe (one_new W _ _) hb); have bk1 := Zs.mk (kBe (last_new W _ _) hb); have m0 : w2.cell? ⟨W.heap.size + 1, 0, none⟩ = some (.int .i64 0) := (kCe bk1.out 0).trans rfl; have m1 : w2.cell? ⟨W.heap.size + 1, 1, none⟩ = some (.slice none 0 0) := (kCe bk1.out 1).trans rfl; have f0 := kFr bk1.out 0; have f1 := kFr bk1.out 1; have bb : Below W.heap.size W w2 := Below.trans zq46 (hb.mono zq5))
 refine bodyPost_ret (v := .agg #[.int .i64 0, .slice none 0 0]) (by simp [results, Try.results14, go_sem, m0, m1]) rfl ?_
 exact ⟨_, rfl, Kd.R_nil _ _ _ _ _, (bb.setCell (show W.heap.size ≤ W.heap.size + 1 by omega) _).setCell (show W.heap.size ≤ W.heap.size + 1 by omega) _⟩
set_option maxHeartbeats 8000000 in
set_option maxRecDepth 100000 in
theorem impl_GridFlip_yes (k : Nat) (w h : Int) (ad : Addr) (c : Nat) (l : List S57) (W : World) (hr : Kd.C k57 W (some ad) l.length l) (hc : l.length ≤ c) (hok : impl_GridOk.f k w l = some true) (hh : (l.length : Int) / w = h) (w1 : 1 ≤ w) (w5 : w ≤ 5) (g1 : 1 ≤ h) (g5 : h ≤ 5) (hlen : (l.length : Int) = w * h) (h25 : l.length ≤ 25) (h0 : 0 < l.length) (hk : ∀ x ∈ l, (x.f0 = 7 ∧ 1 ≤ x.f1 ∧ x.f1 ≤ 9) ∨ (0 ≤ x.f0 ∧ x.f0 ≤ 6 ∧ x.f1 = 0)) :
  Calls Try.prog 14 #[.agg #[.int .i64 w, .slice (some ad) l.length c]] W fun e w' => ∃ v1_ : Value, e = .returned (.agg #[.int .i64 w, v1_]) ∧ Kd.R k57 57 w' W.heap.size (fun _ => True) v1_ (movedL l (fun i => ((i : Int) / w * w + w - 1 - (i : Int) % w).toNat)) ∧ Below W.heap.size W w' := by
 have HC : Zs (∀ W', Below W.heap.size W W' → Kd.C k57 W' (some ad) l.length l) := ⟨fun _ hb => Kd.C_below hr hb⟩
 have HO := Zs.mk hok
 have HK := Zs.mk hk
 have HL := Zs.mk hlen
 clear hr hok hk hlen hh
 go_enter Try.func14, Try.ntmps14
 go_wp2_with (first | (go_at_call 50; refine (moved_F w h 0 _ ad c l _ (HC.out _ bb) hc h25 h0 w1 w5 g1 g5 HL.out ?e2 HK.out).mono ?_; (case e2 => exact x0); rintro e w4 ⟨v, rfl, ho, hb4⟩; have e1 := Zs.mk (kBe bk1.out hb4); have bb4 := Below.trans (bb) (hb4.mono (bb).size); have HR := Zs.mk (Kd.R_lower ho (bb).size); clear ho hb4; obtain ⟨A7, c7, e7⟩ := Kd.R_slice HR.out; subst e7; have m0 : w4.cell? ⟨W.heap.size + 1, 0, none⟩ = some (.int .i64 0) := (kCe e1.out 0).trans rfl; have m1 : w4.cell? ⟨W.heap.size + 1, 1, none⟩ = some (.slice none 0 0) := (kCe e1.out 1).trans rfl; have f0 := kFr e1.out 0; have f1 := kFr e1.out 1) | (go_at_call 48; refine (impl_GridOk.calls k w (some ad) c l true _ (HC.out _ zq46) hc HO.out).mono ?_; rintro e w2 ⟨rfl, hb⟩; have bk0 := Zs.mk (kBe (one_new W _ _) hb); have bk1 := Zs.mk (kBe (last_new W _ _) hb); have x0 : w2.cell? ⟨W.heap.size, 0, none⟩ = some (.int .i64 w) := (kCe bk0.out 0).trans rfl; have x1 : w2.cell? ⟨W.heap.size, 1, none⟩ = some (.slice (some ad) l.length c) := (kCe bk0.out 1).trans rfl; have bb : Below W.heap.size W w2 := Below.trans zq46 (hb.mono zq5)))
 have hn1 : (Value.slice A7 (movedL l (fun i => ((i : Int) / w * w + w - 1 - (i : Int) % w).toNat)).length c7).ownBlock ≠ some (W.heap.size + 1) := fun e => R_ne_blk HR.out e1.out zq31 e
 refine bodyPost_ret (v := .agg #[.int .i64 w, .slice A7 (movedL l (fun i => ((i : Int) / w * w + w - 1 - (i : Int) % w).toNat)).length c7]) (by simp [results, Try.results14, go_sem, m0, m1]) rfl ?_
 exact ⟨_, rfl, R_setne k57_flat (R_setne k57_flat HR.out hn1) hn1, (bb4.setCell (show W.heap.size ≤ W.heap.size + 1 by omega) _).setCell (show W.heap.size ≤ W.heap.size + 1 by omega) _⟩
theorem impl_GridFlip.calls (k : Nat) (a0_0 : Int) (A0_1 : Option Addr) (c0_1 : Nat) (l0_1 : List (S57)) (r1 : Int) (r2 : List (S57)) (w : World) (hr0_1 : Kd.C k57 w A0_1 l0_1.length l0_1) (hc0_1 : l0_1.length ≤ c0_1) (h : impl_GridFlip.f k a0_0 l0_1 = some (r1, r2)) :
  Calls Try.prog 14 #[.agg #[.int .i64 a0_0, .slice A0_1 l0_1.length c0_1]] w fun e w' => ∃ v1_ : Value, e = .returned (.agg #[.int .i64 r1, v1_]) ∧ Kd.R k57 57 w' w.heap.size (fun _ => True) v1_ r2 ∧ Below w.heap.size w w' := by
 unfold impl_GridFlip.f at h
 obtain ⟨ok, hok, h⟩ := Option.bind_eq_some_iff.1 h
 cases ok with
 | false =>
  rw [if_neg zq31] at h; cases h
  exact impl_GridFlip_no k a0_0 A0_1 c0_1 l0_1 w hr0_1 hc0_1 hok
 | true =>
  rw [if_pos rfl] at h
  by_cases hf : impl_GridFlip.fit a0_0 l0_1
  ·rw [if_pos hf] at h; cases h
   obtain ⟨w1, w5, g1, g5, hlen, h25, hall⟩ := hf
   have hpos : 0 < l0_1.length := by
    rcases Nat.eq_zero_or_pos l0_1.length with e | e
    ·rw [e] at g1; simp at g1
    ·exact e
   obtain ⟨ad, rfl, _, _⟩ := at_T57 hr0_1 0 zq37 zq37
   exact impl_GridFlip_yes k a0_0 _ ad c0_1 l0_1 w hr0_1 hc0_1 hok rfl w1 w5 g1 g5 hlen h25 hpos fun x hx => by
    have hx := List.all_eq_true.1 hall x hx
    unfold CellA.ctOk at hx
    by_cases e : x.f0 = 7
    ·rw [if_pos e] at hx; simp at hx; omega
    ·rw [if_neg e] at hx; simp at hx; omega
  ·rw [if_neg hf] at h; cases h

/-! ### impl_SightFlip: function 15 -/
def impl_SightFlip.f (k : Nat) (a0_0 : Int) (l0_1 : List (S57)) (a1 : Int) : Option (Int) := (impl_SightMany.f k a0_0 l0_1).bind fun t286 => (if a1 < 0 then (some (-1)) else (if a1 ≥ t286 then (some (-1)) else (if t286 = 0 then (none) else (some (Int.tmod (wrap64 ((wrap64 ((wrap64 (a0_0 - 1)) - a1)) + t286)) t286)))))
theorem impl_SightFlip.mono : ∀ a0 a1 a2 k, LeO (impl_SightFlip.f k a0 a1 a2) (impl_SightFlip.f (k + 1) a0 a1 a2) := by
 intro a0 a1 a2 k
 unfold impl_SightFlip.f
 repeat' first
   | (with_reducible exact impl_SightMany.mono _ _ _)
   | (with_reducible exact LeO.refl _)
   | (with_reducible exact LeO.none _)
   | (with_reducible refine LeO.ite ?_ ?_)
   | (with_reducible refine LeO.bind ?_ (fun _ => ?_))
   | exact impl_SightMany.mono _ _ _
   | exact LeO.none _
   | refine LeO.ite ?_ ?_
   | refine LeO.bind ?_ (fun _ => ?_)
set_option maxHeartbeats 8000000 in
set_option maxRecDepth 100000 in
theorem impl_SightFlip.calls (k : Nat) (a0_0 : Int) (A0_1 : Option Addr) (c0_1 : Nat) (l0_1 : List (S57)) (a1 : Int) (r : Int) (w : World) (hr0_1 : Kd.C k57 w A0_1 l0_1.length l0_1) (hc0_1 : l0_1.length ≤ c0_1) (h : impl_SightFlip.f k a0_0 l0_1 a1 = some r) :
  Calls Try.prog 15 #[.agg #[.int .i64 a0_0, .slice A0_1 l0_1.length c0_1], .int .i64 a1] w fun e w' => e = .returned (.int .i64 r) ∧ Below w.heap.size w w' := by
 have hu25 := Try.underlying25
 have HR0_1 := Zs.mk hr0_1
 have HC0_1 := Zs.mk hc0_1
 clear hr0_1 hc0_1
 have HB := Zs.mk (Below.refl w.heap.size w)
 have H : ((impl_SightMany.f k a0_0 l0_1).bind fun t286 => (if a1 < 0 then (some (-1)) else (if a1 ≥ t286 then (some (-1)) else (if t286 = 0 then (none) else (some (Int.tmod (wrap64 ((wrap64 ((wrap64 (a0_0 - 1)) - a1)) + t286)) t286)))))) = some r := h
 clear h
 replace H := Option.bind_eq_some_iff.mp H
 obtain ⟨t286, A30, H⟩ := H
 replace H : (if a1 < 0 then (some (-1)) else (if a1 ≥ t286 then (some (-1)) else (if t286 = 0 then (none) else (some (Int.tmod (wrap64 ((wrap64 ((wrap64 (a0_0 - 1)) - a1)) + t286)) t286))))) = some r := H
 have A3 := Zs.mk A30
 clear A30
 by_cases c4 : a1 < 0
 ·rw [if_pos c4] at H
  have c4b0 : decide (a1 < 0) = true := decide_eq_true c4
  clear c4
  obtain rfl := Option.some.inj H
  go_enter Try.func15, Try.ntmps15
  go_wp2_with (first | ((with_reducible refine gate_dst (N := 2) rfl ?_); refine box_event ?hg (N := 2) ?hd (cs := #[.int .i64 a0_0, .slice A0_1 l0_1.length c0_1]) (t := 25) ?hr ?_; (case hd => rfl); (case hg => rfl); (case hr => first | (go_simp; done) | (go_simp; rfl)); intro gb285 hg w5 hbox hb; have n0_ := Zs.mk (bSp zq2 hb); have n1_ := Zs.mk (hbox); have n2_ := Zs.mk ((by rw [hg]; exact (bSz zq2) : w.heap.size ≤ gb285)); have n3_ := Zs.mk ((by rw [hg]; exact (bSz zq2) : w.heap.size ≤ gb285)); clear HB; have HB := n0_; have BK285 := n1_; have GW285 := n2_; have GE285 := n3_; clear n0_ n1_ n2_ n3_; clear hb hbox hg; have hcz6_0 : w5.cell? ⟨gb285, 0, none⟩ = some (.int .i64 a0_0) := (kCe BK285.out 0).trans rfl; have hcz6_1 : w5.cell? ⟨gb285, 1, none⟩ = some (.slice A0_1 l0_1.length c0_1) := (kCe BK285.out 1).trans rfl; have hfz6_0 := kFr BK285.out 0; have hfz6_1 := kFr BK285.out 1) | ((with_reducible refine gate_callee (f := 52) rfl ?_); refine goesL_ (some 7) rfl rfl Try.func52 zq6 rfl #[.agg #[.int .i64 a0_0, .slice A0_1 l0_1.length c0_1]] rfl zq1 ?_; (with_reducible refine (impl_SightMany.calls k a0_0 _ _ l0_1 t286 _ ?side1 ?side2 A3.out).mono ?_); (case side1 => repeat (first | exact (Kd.C_below HR0_1.out HB.out) | (with_reducible refine Kd.C_alloc ?_ _) | (with_reducible refine Kd.C_drewN ?_ _) | (with_reducible refine Kd.C_drew ?_))); (case side2 => exact HC0_1.out); rintro e w7 ⟨rfl, hb⟩; refine ⟨_, rfl, ?_⟩; have n0_ := Zs.mk (kBe (g := gb285) (o := .cells #[.int .i64 a0_0, .slice A0_1 l0_1.length c0_1] 25 (0, 0)) zq99 hb); have n1_ := Zs.mk (bSp zq87 hb); clear BK285; clear HB; have BK285 := n0_; have HB := n1_; clear n0_ n1_; (try clear hb); (try clear hb2); (try clear hk); (try clear hi)))
  go_ret
  exact ⟨by first | rfl | (simp [errW_none, errW_some] <;> rfl) | (simp [*, errW_none, errW_some] <;> rfl), by repeat (first | (with_reducible first | exact HB.out | apply bAl | apply bDN | apply bD1 | refine bSt ?_ GE285.out) | exact HB.out)⟩
 ·rw [if_neg c4] at H
  have c4b0 : decide (a1 < 0) = false := decide_eq_false c4
  clear c4
  by_cases c8 : a1 ≥ t286
  ·rw [if_pos c8] at H
   have c8b0 : decide (t286 ≤ a1) = true := decide_eq_true c8
   clear c8
   obtain rfl := Option.some.inj H
   go_enter Try.func15, Try.ntmps15
   go_wp2_with (first | ((with_reducible refine gate_dst (N := 2) rfl ?_); refine box_event ?hg (N := 2) ?hd (cs := #[.int .i64 a0_0, .slice A0_1 l0_1.length c0_1]) (t := 25) ?hr ?_; (case hd => rfl); (case hg => rfl); (case hr => first | (go_simp; done) | (go_simp; rfl)); intro gb285 hg w9 hbox hb; have n0_ := Zs.mk (bSp zq2 hb); have n1_ := Zs.mk (hbox); have n2_ := Zs.mk ((by rw [hg]; exact (bSz zq2) : w.heap.size ≤ gb285)); have n3_ := Zs.mk ((by rw [hg]; exact (bSz zq2) : w.heap.size ≤ gb285)); clear HB; have HB := n0_; have BK285 := n1_; have GW285 := n2_; have GE285 := n3_; clear n0_ n1_ n2_ n3_; clear hb hbox hg; have hcz10_0 : w9.cell? ⟨gb285, 0, none⟩ = some (.int .i64 a0_0) := (kCe BK285.out 0).trans rfl; have hcz10_1 : w9.cell? ⟨gb285, 1, none⟩ = some (.slice A0_1 l0_1.length c0_1) := (kCe BK285.out 1).trans rfl; have hfz10_0 := kFr BK285.out 0; have hfz10_1 := kFr BK285.out 1) | ((with_reducible refine gate_callee (f := 52) rfl ?_); refine goesL_ (some 7) rfl rfl Try.func52 zq6 rfl #[.agg #[.int .i64 a0_0, .slice A0_1 l0_1.length c0_1]] rfl zq1 ?_; (with_reducible refine (impl_SightMany.calls k a0_0 _ _ l0_1 t286 _ ?side1 ?side2 A3.out).mono ?_); (case side1 => repeat (first | exact (Kd.C_below HR0_1.out HB.out) | (with_reducible refine Kd.C_alloc ?_ _) | (with_reducible refine Kd.C_drewN ?_ _) | (with_reducible refine Kd.C_drew ?_))); (case side2 => exact HC0_1.out); rintro e w11 ⟨rfl, hb⟩; refine ⟨_, rfl, ?_⟩; have n0_ := Zs.mk (kBe (g := gb285) (o := .cells #[.int .i64 a0_0, .slice A0_1 l0_1.length c0_1] 25 (0, 0)) zq99 hb); have n1_ := Zs.mk (bSp zq87 hb); clear BK285; clear HB; have BK285 := n0_; have HB := n1_; clear n0_ n1_; (try clear hb); (try clear hb2); (try clear hk); (try clear hi)))
   go_ret
   exact ⟨by first | rfl | (simp [errW_none, errW_some] <;> rfl) | (simp [*, errW_none, errW_some] <;> rfl), by repeat (first | (with_reducible first | exact HB.out | apply bAl | apply bDN | apply bD1 | refine bSt ?_ GE285.out) | exact HB.out)⟩
  ·rw [if_neg c8] at H
   have c8b0 : decide (t286 ≤ a1) = false := decide_eq_false c8
   clear c8
   by_cases c12 : t286 = 0
   ·rw [if_pos c12] at H
    exact absurd H zq58
   ·rw [if_neg c12] at H
    have c12b0 : (t286 == 0) = false := beq_eq_false_iff_ne.mpr c12
    have c12b1 : (t286 != 0) = true := bne_iff_ne.mpr c12
    obtain rfl := Option.some.inj H
    go_enter Try.func15, Try.ntmps15
    go_wp2_with (first | ((with_reducible refine gate_dst (N := 2) rfl ?_); refine box_event ?hg (N := 2) ?hd (cs := #[.int .i64 a0_0, .slice A0_1 l0_1.length c0_1]) (t := 25) ?hr ?_; (case hd => rfl); (case hg => rfl); (case hr => first | (go_simp; done) | (go_simp; rfl)); intro gb285 hg w13 hbox hb; have n0_ := Zs.mk (bSp zq2 hb); have n1_ := Zs.mk (hbox); have n2_ := Zs.mk ((by rw [hg]; exact (bSz zq2) : w.heap.size ≤ gb285)); have n3_ := Zs.mk ((by rw [hg]; exact (bSz zq2) : w.heap.size ≤ gb285)); clear HB; have HB := n0_; have BK285 := n1_; have GW285 := n2_; have GE285 := n3_; clear n0_ n1_ n2_ n3_; clear hb hbox hg; have hcz14_0 : w13.cell? ⟨gb285, 0, none⟩ = some (.int .i64 a0_0) := (kCe BK285.out 0).trans rfl; have hcz14_1 : w13.cell? ⟨gb285, 1, none⟩ = some (.slice A0_1 l0_1.length c0_1) := (kCe BK285.out 1).trans rfl; have hfz14_0 := kFr BK285.out 0; have hfz14_1 := kFr BK285.out 1) | ((with_reducible refine gate_callee (f := 52) rfl ?_); refine goesL_ (some 7) rfl rfl Try.func52 zq6 rfl #[.agg #[.int .i64 a0_0, .slice A0_1 l0_1.length c0_1]] rfl zq1 ?_; (with_reducible refine (impl_SightMany.calls k a0_0 _ _ l0_1 t286 _ ?side1 ?side2 A3.out).mono ?_); (case side1 => repeat (first | exact (Kd.C_below HR0_1.out HB.out) | (with_reducible refine Kd.C_alloc ?_ _) | (with_reducible refine Kd.C_drewN ?_ _) | (with_reducible refine Kd.C_drew ?_))); (case side2 => exact HC0_1.out); rintro e w15 ⟨rfl, hb⟩; refine ⟨_, rfl, ?_⟩; have n0_ := Zs.mk (kBe (g := gb285) (o := .cells #[.int .i64 a0_0, .slice A0_1 l0_1.length c0_1] 25 (0, 0)) zq99 hb); have n1_ := Zs.mk (bSp zq87 hb); clear BK285; clear HB; have BK285 := n0_; have HB := n1_; clear n0_ n1_; (try clear hb); (try clear hb2); (try clear hk); (try clear hi); have hcz16_0 : w15.cell? ⟨gb285, 0, none⟩ = some (.int .i64 a0_0) := (kCe BK285.out 0).trans rfl; have hcz16_1 : w15.cell? ⟨gb285, 1, none⟩ = some (.slice A0_1 l0_1.length c0_1) := (kCe BK285.out 1).trans rfl; have hfz16_0 := kFr BK285.out 0; have hfz16_1 := kFr BK285.out 1))
    go_ret
    exact ⟨by first | rfl | (simp [errW_none, errW_some] <;> rfl) | (simp [*, errW_none, errW_some] <;> rfl), by repeat (first | (with_reducible first | exact HB.out | apply bAl | apply bDN | apply bD1 | refine bSt ?_ GE285.out) | exact HB.out)⟩

end Go.Proofs.Ytejgohgmmndgbaa.PFnTrailTurn
--slim
