-- Written by a program of this session: the kit's print, with functions among it that were proved by hand.
import Derived.Test.YtejgohgmmndgbaaPFnTrailTurnx0
import Derived.Test.YtejgohgmmndgbaaPFnTrailTurnx17
import Derived.Test.YtejgohgmmndgbaaPFnTrailTurnx28
import Derived.Test.YtejgohgmmndgbaaPFnTrailTurnx29
import Derived.Test.YtejgohgmmndgbaaPFnTrailTurnx32
import Derived.Test.YtejgohgmmndgbaaPFnTrailTurnx33
namespace Go.Proofs.Ytejgohgmmndgbaa.PFnTrailTurn
open Go.RowKit Go.Proofs.YtejgohgmmndgbaaW.PrintWords Go.Proofs.YtejgohgmmndgbaaW.PrintLast Go.Proofs.YtejgohgmmndgbaaW.PrintMore
attribute [local go_sem] max2_int min2_int max_two min_two max_three min_three max_four min_four   -- for this text's walks alone
set_option linter.unusedVariables false
set_option linter.unusedSimpArgs false

/-! ### laws_FnTrailTurn: function 3 -/
def laws_FnTrailTurn.j0 : Nat → Int → Int → Int → Bool → Int → List (S57) → Option (Bool)
 | 0, _, _, _, _, _, _ => none
 | k + 1, x4, x5, x6, x39, x294000, x294001 => if x39 = true then ((spec_TrailTo.f k x294000 x294001 x4 x5).bind fun t298 => (some (x6 == t298))) else ((impl_GridTurn.f k x294000 x294001).bind fun bt299 => ((impl_SightTurn.f k x294000 x294001 x4).bind fun t303 => ((impl_SightTurn.f k x294000 x294001 x5).bind fun t304 => ((impl_TrailTo.f k bt299.1 bt299.2 t303 t304).bind fun t305 => ((impl_GridFlip.f k x294000 x294001).bind fun bt306 => ((impl_SightFlip.f k x294000 x294001 x4).bind fun t310 => ((impl_SightFlip.f k x294000 x294001 x5).bind fun t311 => ((impl_TrailTo.f k bt306.1 bt306.2 t310 t311).bind fun t312 => (if t305 = x6 then (some (t312 == x6)) else (some false))))))))))
def laws_FnTrailTurn.f (k : Nat) (l0 : List Int) : Option (Bool) := if (l0.length : Int) > 1048576 then (some true) else ((spec_DrawTrailTo.f k l0).bind fun bt287 => ((impl_TrailTo.f k bt287.1 bt287.2.1 bt287.2.2.1 bt287.2.2.2).bind fun t294 => ((spec_TrailTo.f k bt287.1 bt287.2.1 bt287.2.2.1 bt287.2.2.2).bind fun t295 => (if t294 = t295 then ((laws_llSight.f k bt287.1 bt287.2.1 bt287.2.2.1).bind fun t296 => (if t296 = true then ((laws_llSight.f k bt287.1 bt287.2.1 bt287.2.2.2).bind fun t297 => (laws_FnTrailTurn.j0 k bt287.2.2.1 bt287.2.2.2 t294 (!t297) bt287.1 bt287.2.1)) else (laws_FnTrailTurn.j0 k bt287.2.2.1 bt287.2.2.2 t294 true bt287.1 bt287.2.1))) else (laws_FnTrailTurn.j0 k bt287.2.2.1 bt287.2.2.2 t294 true bt287.1 bt287.2.1)))))
theorem laws_FnTrailTurn.mono_l : ∀ k, (∀ y0 y1 y2 y3 y4 y5, LeO (laws_FnTrailTurn.j0 k y0 y1 y2 y3 y4 y5) (laws_FnTrailTurn.j0 (k + 1) y0 y1 y2 y3 y4 y5))
 | 0 => fun _ _ _ _ _ _ r h => by simp [laws_FnTrailTurn.j0] at h
 | k + 1 => by
  have ih0 := laws_FnTrailTurn.mono_l k
  ·intro y0 y1 y2 y3 y4 y5
   unfold laws_FnTrailTurn.j0
   repeat' first
   | (with_reducible exact ih0 _ _ _ _ _ _)
   | (with_reducible exact impl_GridFlip.mono _ _ _)
   | (with_reducible exact impl_GridTurn.mono _ _ _)
   | (with_reducible exact impl_SightFlip.mono _ _ _ _)
   | (with_reducible exact impl_SightTurn.mono _ _ _ _)
   | (with_reducible exact impl_TrailTo.mono _ _ _ _ _)
   | (with_reducible exact laws_llSight.mono _ _ _ _)
   | (with_reducible exact spec_DrawTrailTo.mono _ _)
   | (with_reducible exact spec_TrailTo.mono _ _ _ _ _)
   | (with_reducible exact LeO.refl _)
   | (with_reducible exact LeO.none _)
   | (with_reducible refine LeO.ite ?_ ?_)
   | (with_reducible refine LeO.bind ?_ (fun _ => ?_))
   | exact ih0 _ _ _ _ _ _
   | exact impl_GridFlip.mono _ _ _
   | exact impl_GridTurn.mono _ _ _
   | exact impl_SightFlip.mono _ _ _ _
   | exact impl_SightTurn.mono _ _ _ _
   | exact impl_TrailTo.mono _ _ _ _ _
   | exact laws_llSight.mono _ _ _ _
   | exact spec_DrawTrailTo.mono _ _
   | exact spec_TrailTo.mono _ _ _ _ _
   | exact LeO.none _
   | refine LeO.ite ?_ ?_
   | refine LeO.bind ?_ (fun _ => ?_)
theorem laws_FnTrailTurn.mono : ∀ a0 k, LeO (laws_FnTrailTurn.f k a0) (laws_FnTrailTurn.f (k + 1) a0) := by
 intro a0 k
 have ih0 := laws_FnTrailTurn.mono_l k
 unfold laws_FnTrailTurn.f
 repeat' first
   | (with_reducible exact ih0 _ _ _ _ _ _)
   | (with_reducible exact impl_GridFlip.mono _ _ _)
   | (with_reducible exact impl_GridTurn.mono _ _ _)
   | (with_reducible exact impl_SightFlip.mono _ _ _ _)
   | (with_reducible exact impl_SightTurn.mono _ _ _ _)
   | (with_reducible exact impl_TrailTo.mono _ _ _ _ _)
   | (with_reducible exact laws_llSight.mono _ _ _ _)
   | (with_reducible exact spec_DrawTrailTo.mono _ _)
   | (with_reducible exact spec_TrailTo.mono _ _ _ _ _)
   | (with_reducible exact LeO.refl _)
   | (with_reducible exact LeO.none _)
   | (with_reducible refine LeO.ite ?_ ?_)
   | (with_reducible refine LeO.bind ?_ (fun _ => ?_))
   | exact ih0 _ _ _ _ _ _
   | exact impl_GridFlip.mono _ _ _
   | exact impl_GridTurn.mono _ _ _
   | exact impl_SightFlip.mono _ _ _ _
   | exact impl_SightTurn.mono _ _ _ _
   | exact impl_TrailTo.mono _ _ _ _ _
   | exact laws_llSight.mono _ _ _ _
   | exact spec_DrawTrailTo.mono _ _
   | exact spec_TrailTo.mono _ _ _ _ _
   | exact LeO.none _
   | refine LeO.ite ?_ ?_
   | refine LeO.bind ?_ (fun _ => ?_)
def laws_FnTrailTurn.T7 : Bool × List (List Nat × List Nat) := (true, [([], []), ([0], [0]), ([], []), ([], []), ([2, 3, 1], [2, 3]), ([], []), ([], []), ([5, 6, 4], [5, 6]), ([1, 4, 7, 7], [1, 4, 7]), ([8, 8, 0, 1, 2, 3, 4, 5, 6, 7, 8], [8])])
def laws_FnTrailTurn.B7 : List Nat := [0, 1, 0, 0, 15, 0, 0, 127, 255, 511]
theorem laws_FnTrailTurn.tab7 : rtab .any (opsOf Try.f3 7) = laws_FnTrailTurn.T7 := by kernel_rfl
theorem laws_FnTrailTurn.bits7 : waitsOk laws_FnTrailTurn.T7.2 laws_FnTrailTurn.B7 = true := by kernel_rfl
def laws_FnTrailTurn.T8 : Bool × List (List Nat × List Nat) := (true, [([], []), ([0], [0]), ([], []), ([], []), ([2, 3, 1], [2, 3]), ([], []), ([], []), ([5, 6, 4], [5, 6]), ([1, 4, 7, 7], [1, 4, 7]), ([8, 8, 0, 1, 2, 3, 4, 5, 6, 7, 8], [8])])
def laws_FnTrailTurn.B8 : List Nat := [0, 1, 0, 0, 15, 0, 0, 127, 255, 511]
theorem laws_FnTrailTurn.tab8 : rtab .any (opsOf Try.f3 8) = laws_FnTrailTurn.T8 := by kernel_rfl
theorem laws_FnTrailTurn.bits8 : waitsOk laws_FnTrailTurn.T8.2 laws_FnTrailTurn.B8 = true := by kernel_rfl
set_option maxHeartbeats 8000000 in
set_option maxRecDepth 100000 in
theorem laws_FnTrailTurn.calls (k : Nat) (A0 : Option Addr) (c0 : Nat) (l0 : List Int) (r : Bool) (w : World) (hr0 : Kd.C (Kd.int .u8) w A0 l0.length l0) (hc0 : l0.length ≤ c0) (h : laws_FnTrailTurn.f k l0 = some r) :
  Calls Try.prog 3 #[.slice A0 l0.length c0] w fun e w' => e = .returned (.bool r) ∧ Below w.heap.size w w' := by
 have hu25 := Try.underlying25
 have HR0 := Zs.mk hr0
 have HC0 := Zs.mk hc0
 clear hr0 hc0
 have HB := Zs.mk (Below.refl w.heap.size w)
 have H : (if (l0.length : Int) > 1048576 then (some true) else ((spec_DrawTrailTo.f k l0).bind fun bt287 => ((impl_TrailTo.f k bt287.1 bt287.2.1 bt287.2.2.1 bt287.2.2.2).bind fun t294 => ((spec_TrailTo.f k bt287.1 bt287.2.1 bt287.2.2.1 bt287.2.2.2).bind fun t295 => (if t294 = t295 then ((laws_llSight.f k bt287.1 bt287.2.1 bt287.2.2.1).bind fun t296 => (if t296 = true then ((laws_llSight.f k bt287.1 bt287.2.1 bt287.2.2.2).bind fun t297 => (laws_FnTrailTurn.j0 k bt287.2.2.1 bt287.2.2.2 t294 (!t297) bt287.1 bt287.2.1)) else (laws_FnTrailTurn.j0 k bt287.2.2.1 bt287.2.2.2 t294 true bt287.1 bt287.2.1))) else (laws_FnTrailTurn.j0 k bt287.2.2.1 bt287.2.2.2 t294 true bt287.1 bt287.2.1)))))) = some r := h
 clear h
 by_cases c2 : (l0.length : Int) > 1048576
 ·rw [if_pos c2] at H
  have c2b0 : decide (1048576 < (l0.length : Int)) = true := decide_eq_true c2
  have c2b1 : decide (1048576 < l0.length) = true := decide_eq_true zq37
  clear c2
  obtain rfl := Option.some.inj H
  go_enter Try.func3, Try.ntmps3
  go_wp2
  go_ret
  exact ⟨by first | rfl | (simp [errW_none, errW_some] <;> rfl) | (simp [*, errW_none, errW_some] <;> rfl), by repeat (first | (with_reducible first | exact HB.out | apply bAl | apply bDN | apply bD1) | exact HB.out)⟩
 ·rw [if_neg c2] at H
  have c2b0 : decide (1048576 < (l0.length : Int)) = false := decide_eq_false c2
  have c2b1 : decide (1048576 < l0.length) = false := decide_eq_false zq37
  clear c2
  replace H := Option.bind_eq_some_iff.mp H
  obtain ⟨⟨t287, t288, t291, t292⟩, A30, H⟩ := H
  replace H : ((impl_TrailTo.f k t287 t288 t291 t292).bind fun t294 => ((spec_TrailTo.f k t287 t288 t291 t292).bind fun t295 => (if t294 = t295 then ((laws_llSight.f k t287 t288 t291).bind fun t296 => (if t296 = true then ((laws_llSight.f k t287 t288 t292).bind fun t297 => (laws_FnTrailTurn.j0 k t291 t292 t294 (!t297) t287 t288)) else (laws_FnTrailTurn.j0 k t291 t292 t294 true t287 t288))) else (laws_FnTrailTurn.j0 k t291 t292 t294 true t287 t288)))) = some r := H
  have A3 := Zs.mk A30
  clear A30
  replace H := Option.bind_eq_some_iff.mp H
  obtain ⟨t294, A40, H⟩ := H
  replace H : ((spec_TrailTo.f k t287 t288 t291 t292).bind fun t295 => (if t294 = t295 then ((laws_llSight.f k t287 t288 t291).bind fun t296 => (if t296 = true then ((laws_llSight.f k t287 t288 t292).bind fun t297 => (laws_FnTrailTurn.j0 k t291 t292 t294 (!t297) t287 t288)) else (laws_FnTrailTurn.j0 k t291 t292 t294 true t287 t288))) else (laws_FnTrailTurn.j0 k t291 t292 t294 true t287 t288))) = some r := H
  have A4 := Zs.mk A40
  clear A40
  have HC5 := Zs.mk H
  clear H
  go_enter Try.func3, Try.ntmps3
  go_upto_region 5 with (first | ((with_reducible refine gate_callee (f := 8) rfl ?_); refine goesL_ (some 14) rfl rfl Try.func8 zq6 rfl #[.slice A0 l0.length c0] rfl zq1 ?_; (with_reducible refine (spec_DrawTrailTo.calls k _ _ l0 t287 t288 t291 t292 _ ?side1 ?side2 A3.out).mono ?_); (case side1 => repeat (first | exact HR0.out | (with_reducible refine Kd.C_alloc ?_ _) | (with_reducible refine Kd.C_drewN ?_ _) | (with_reducible refine Kd.C_drew ?_))); (case side2 => exact HC0.out); rintro e w6 ⟨v289, rfl, ho0, hb⟩; refine ⟨_, rfl, ?_⟩; have n0_ := Zs.mk (Kd.Q_lower ho0 (bSz zq2)); have n1_ := Zs.mk (bSp zq2 hb); clear HB; have HO290 := n0_; have HB := n1_; clear n0_ n1_; (try clear hb); (try clear hb2); (try clear hk); (try clear hi); (try clear ho0)) | ((with_reducible refine gate_dst (N := 3) rfl ?_); refine box_event ?hg (N := 3) ?hd (cs := #[.int .i64 0, .slice none 0 0]) (t := 25) ?hr ?_; (case hd => rfl); (case hg => rfl); (case hr => first | (go_simp; done) | (go_simp; rfl)); intro gb293 hg w7 hbox hb; have n0_ := Zs.mk (Kd.Q_below zq56 hb); have n1_ := Zs.mk (bSp zq2 hb); have n2_ := Zs.mk (hbox); have n3_ := Zs.mk ((by rw [hg]; exact (bSz zq2) : w.heap.size ≤ gb293)); have n4_ := Zs.mk ((by rw [hg]; exact (bSz zq2) : w.heap.size ≤ gb293)); clear HO290; clear HB; have HO290 := n0_; have HB := n1_; have BK293 := n2_; have GW293 := n3_; have GE293 := n4_; clear n0_ n1_ n2_ n3_ n4_; clear hb hbox hg; have hcz8_0 : w7.cell? ⟨gb293, 0, none⟩ = some (.int .i64 0) := (kCe BK293.out 0).trans rfl; have hcz8_1 : w7.cell? ⟨gb293, 1, none⟩ = some (.slice none 0 0) := (kCe BK293.out 1).trans rfl; have hfz8_0 := kFr BK293.out 0; have hfz8_1 := kFr BK293.out 1; obtain ⟨Ao9, co9, eo9, _⟩ := Kd.Q_slice HO290.out; subst eo9) | ((with_reducible refine gate_callee (f := 9) rfl ?_); refine goesL_ (some 21) rfl rfl Try.func9 zq6 rfl #[.agg #[.int .i64 t287, .slice Ao9 t288.length co9], .int .i64 t291, .int .i64 t292] rfl zq1 ?_; (with_reducible refine (impl_TrailTo.calls k t287 _ _ t288 t291 t292 t294 _ ?side1 ?side2 A4.out).mono ?_); (case side1 => refine (Kd.Q_reads' (e := 57) (base := w.heap.size) (ok := fun k_ => True) (n := t288.length) (c := co9) ?_).2.2; exact zq77); (case side2 => exact (Kd.Q_reads' HO290.out).2.1); rintro e w10 ⟨rfl, hb⟩; refine ⟨_, rfl, ?_⟩; have n0_ := Zs.mk (Kd.Q_below zq77 hb); have n1_ := Zs.mk (kBe (g := gb293) (o := .cells #[.int .i64 t287, .slice Ao9 t288.length co9] 25 (0, 0)) (by (with_reducible repeat (first | refine kDN ?_ _ | refine kDr ?_ | refine kAl ?_ _)); refine blk_put (cs := #[.int .i64 t287, .slice none 0 0]) ?_ 1 _ rfl; (with_reducible repeat (first | refine kDN ?_ _ | refine kDr ?_ | refine kAl ?_ _)); refine blk_put (cs := #[.int .i64 0, .slice none 0 0]) ?_ 0 _ rfl; (with_reducible repeat (first | refine kDN ?_ _ | refine kDr ?_ | refine kAl ?_ _)); exact BK293.out) hb); have n2_ := Zs.mk (bSp zq9 hb); clear HO290; clear BK293; clear HB; have HO290 := n0_; have BK293 := n1_; have HB := n2_; clear n0_ n1_ n2_; (try clear hb); (try clear hb2); (try clear hk); (try clear hi)))
  (try simp only [Act.put, List.setIfInBounds_toArray, List.set_cons_zero, List.set_cons_succ])
  go_cut [39] (fun v39 wc => ∃ (kq : Nat) (x39_4 : Bool), v39 = .bool x39_4 ∧ Zs (laws_FnTrailTurn.j0 kq t291 t292 t294 x39_4 t287 t288 = some r) ∧ Zs (kq ≤ k) ∧ Zs (Kd.Q k57 57 wc w.heap.size (fun _ => True) (.slice Ao9 t288.length co9) t288) ∧ Zs (wc.heap[gb293]? = some (.cells #[.int .i64 t287, (.slice Ao9 t288.length co9)] 25 (0, 0))) ∧ Zs (Below w.heap.size w wc))
  case first =>
   have H := HC5.out
   clear HC5
   replace H := Option.bind_eq_some_iff.mp H
   obtain ⟨t295, A110, H⟩ := H
   replace H : (if t294 = t295 then ((laws_llSight.f k t287 t288 t291).bind fun t296 => (if t296 = true then ((laws_llSight.f k t287 t288 t292).bind fun t297 => (laws_FnTrailTurn.j0 k t291 t292 t294 (!t297) t287 t288)) else (laws_FnTrailTurn.j0 k t291 t292 t294 true t287 t288))) else (laws_FnTrailTurn.j0 k t291 t292 t294 true t287 t288)) = some r := H
   have A11 := Zs.mk A110
   clear A110
   by_cases c12 : t294 = t295
   ·rw [if_pos c12] at H
    have c12b0 : (t294 == t295) = true := beq_iff_eq.mpr c12
    have c12b1 : (t294 != t295) = false := bne_eq_false_iff_eq.mpr c12
    clear c12
    (first | rw [c12b0] | (simp only [i64_w, i32_w]; rw [c12b0]) | skip)
    replace H := Option.bind_eq_some_iff.mp H
    obtain ⟨t296, A130, H⟩ := H
    replace H : (if t296 = true then ((laws_llSight.f k t287 t288 t292).bind fun t297 => (laws_FnTrailTurn.j0 k t291 t292 t294 (!t297) t287 t288)) else (laws_FnTrailTurn.j0 k t291 t292 t294 true t287 t288)) = some r := H
    have A13 := Zs.mk A130
    clear A130
    by_cases c14 : t296 = true
    ·subst c14
     have H1 : ((laws_llSight.f k t287 t288 t292).bind fun t297 => (laws_FnTrailTurn.j0 k t291 t292 t294 (!t297) t287 t288)) = some r := by rw [if_pos rfl] at H; exact H
     clear H
     have H := H1
     clear H1
     replace H := Option.bind_eq_some_iff.mp H
     obtain ⟨t297, A150, H⟩ := H
     replace H : (laws_FnTrailTurn.j0 k t291 t292 t294 (!t297) t287 t288) = some r := H
     have A15 := Zs.mk A150
     clear A150
     have H' := Zs.mk H
     clear H
     have hcz16_0 : w10.cell? ⟨gb293, 0, none⟩ = some (.int .i64 t287) := (kCe BK293.out 0).trans rfl
     have hcz16_1 : w10.cell? ⟨gb293, 1, none⟩ = some (.slice Ao9 t288.length co9) := (kCe BK293.out 1).trans rfl
     have hfz16_0 := kFr BK293.out 0
     have hfz16_1 := kFr BK293.out 1
     go_wp2_with (first | ((with_reducible refine gate_callee (f := 10) rfl ?_); refine goesL_ (some 26) rfl rfl Try.func10 zq6 rfl #[.agg #[.int .i64 t287, .slice Ao9 t288.length co9], .int .i64 t291, .int .i64 t292] rfl zq1 ?_; (with_reducible refine (spec_TrailTo.calls k t287 _ _ t288 t291 t292 t295 _ ?side1 ?side2 A11.out).mono ?_); (case side1 => repeat (first | exact (Kd.Q_reads' HO290.out).2.2 | (with_reducible refine Kd.C_alloc ?_ _) | (with_reducible refine Kd.C_drewN ?_ _) | (with_reducible refine Kd.C_drew ?_))); (case side2 => exact (Kd.Q_reads' HO290.out).2.1); rintro e w17 ⟨rfl, hb⟩; refine ⟨_, rfl, ?_⟩; have n0_ := Zs.mk (Kd.Q_below zq56 hb); have n1_ := Zs.mk (kBe (g := gb293) (o := .cells #[.int .i64 t287, .slice Ao9 t288.length co9] 25 (0, 0)) zq14 hb); have n2_ := Zs.mk (bSp zq9 hb); clear HO290; clear BK293; clear HB; have HO290 := n0_; have BK293 := n1_; have HB := n2_; clear n0_ n1_ n2_; (try clear hb); (try clear hb2); (try clear hk); (try clear hi); have hcz18_0 : w17.cell? ⟨gb293, 0, none⟩ = some (.int .i64 t287) := (kCe BK293.out 0).trans rfl; have hcz18_1 : w17.cell? ⟨gb293, 1, none⟩ = some (.slice Ao9 t288.length co9) := (kCe BK293.out 1).trans rfl; have hfz18_0 := kFr BK293.out 0; have hfz18_1 := kFr BK293.out 1) | (go_at_call 11; (with_reducible refine (laws_llSight.calls k t287 _ _ t288 t291 true _ ?side1 ?side2 A13.out).mono ?_); (case side1 => repeat (first | exact (Kd.Q_reads' HO290.out).2.2 | (with_reducible refine Kd.C_alloc ?_ _) | (with_reducible refine Kd.C_drewN ?_ _) | (with_reducible refine Kd.C_drew ?_))); (case side2 => exact (Kd.Q_reads' HO290.out).2.1); rintro e w19 ⟨rfl, hb⟩; have n0_ := Zs.mk (Kd.Q_below zq56 hb); have n1_ := Zs.mk (kBe (g := gb293) (o := .cells #[.int .i64 t287, .slice Ao9 t288.length co9] 25 (0, 0)) zq14 hb); have n2_ := Zs.mk (bSp zq9 hb); clear HO290; clear BK293; clear HB; have HO290 := n0_; have BK293 := n1_; have HB := n2_; clear n0_ n1_ n2_; (try clear hb); (try clear hb2); (try clear hk); (try clear hi); have hcz20_0 : w19.cell? ⟨gb293, 0, none⟩ = some (.int .i64 t287) := (kCe BK293.out 0).trans rfl; have hcz20_1 : w19.cell? ⟨gb293, 1, none⟩ = some (.slice Ao9 t288.length co9) := (kCe BK293.out 1).trans rfl; have hfz20_0 := kFr BK293.out 0; have hfz20_1 := kFr BK293.out 1) | (go_at_call 11; (with_reducible refine (laws_llSight.calls k t287 _ _ t288 t292 t297 _ ?side1 ?side2 A15.out).mono ?_); (case side1 => repeat (first | exact (Kd.Q_reads' HO290.out).2.2 | (with_reducible refine Kd.C_alloc ?_ _) | (with_reducible refine Kd.C_drewN ?_ _) | (with_reducible refine Kd.C_drew ?_))); (case side2 => exact (Kd.Q_reads' HO290.out).2.1); rintro e w21 ⟨rfl, hb⟩; have n0_ := Zs.mk (Kd.Q_below zq56 hb); have n1_ := Zs.mk (kBe (g := gb293) (o := .cells #[.int .i64 t287, .slice Ao9 t288.length co9] 25 (0, 0)) zq14 hb); have n2_ := Zs.mk (bSp zq9 hb); clear HO290; clear BK293; clear HB; have HO290 := n0_; have BK293 := n1_; have HB := n2_; clear n0_ n1_ n2_; (try clear hb); (try clear hb2); (try clear hk); (try clear hi)))
     go_meet
     case rel => exact ⟨_, (!t297), zq13, H', ⟨by first | omega | exact Nat.le_refl _⟩, ⟨by (with_reducible repeat (first | apply Kd.Q_alloc | apply Kd.Q_drewN | apply Kd.Q_drew)); exact HO290.out⟩, ⟨by (with_reducible repeat (first | refine kDN ?_ _ | refine kDr ?_ | refine kAl ?_ _)); exact BK293.out⟩, ⟨by repeat (first | (with_reducible first | exact HB.out | apply bAl | apply bDN | apply bD1 | refine bSt ?_ GE293.out) | exact HB.out)⟩⟩
    ·replace c14 := Bool.eq_false_iff.mpr c14
     subst c14
     have H1 : (laws_FnTrailTurn.j0 k t291 t292 t294 true t287 t288) = some r := by rw [if_neg (show ¬ (false = true) by decide)] at H; exact H
     clear H
     have H := H1
     clear H1
     have H' := Zs.mk H
     clear H
     have hcz22_0 : w10.cell? ⟨gb293, 0, none⟩ = some (.int .i64 t287) := (kCe BK293.out 0).trans rfl
     have hcz22_1 : w10.cell? ⟨gb293, 1, none⟩ = some (.slice Ao9 t288.length co9) := (kCe BK293.out 1).trans rfl
     have hfz22_0 := kFr BK293.out 0
     have hfz22_1 := kFr BK293.out 1
     go_wp2_with (first | ((with_reducible refine gate_callee (f := 10) rfl ?_); refine goesL_ (some 26) rfl rfl Try.func10 zq6 rfl #[.agg #[.int .i64 t287, .slice Ao9 t288.length co9], .int .i64 t291, .int .i64 t292] rfl zq1 ?_; (with_reducible refine (spec_TrailTo.calls k t287 _ _ t288 t291 t292 t295 _ ?side1 ?side2 A11.out).mono ?_); (case side1 => repeat (first | exact (Kd.Q_reads' HO290.out).2.2 | (with_reducible refine Kd.C_alloc ?_ _) | (with_reducible refine Kd.C_drewN ?_ _) | (with_reducible refine Kd.C_drew ?_))); (case side2 => exact (Kd.Q_reads' HO290.out).2.1); rintro e w23 ⟨rfl, hb⟩; refine ⟨_, rfl, ?_⟩; have n0_ := Zs.mk (Kd.Q_below zq56 hb); have n1_ := Zs.mk (kBe (g := gb293) (o := .cells #[.int .i64 t287, .slice Ao9 t288.length co9] 25 (0, 0)) zq14 hb); have n2_ := Zs.mk (bSp zq9 hb); clear HO290; clear BK293; clear HB; have HO290 := n0_; have BK293 := n1_; have HB := n2_; clear n0_ n1_ n2_; (try clear hb); (try clear hb2); (try clear hk); (try clear hi); have hcz24_0 : w23.cell? ⟨gb293, 0, none⟩ = some (.int .i64 t287) := (kCe BK293.out 0).trans rfl; have hcz24_1 : w23.cell? ⟨gb293, 1, none⟩ = some (.slice Ao9 t288.length co9) := (kCe BK293.out 1).trans rfl; have hfz24_0 := kFr BK293.out 0; have hfz24_1 := kFr BK293.out 1) | (go_at_call 11; (with_reducible refine (laws_llSight.calls k t287 _ _ t288 t291 false _ ?side1 ?side2 A13.out).mono ?_); (case side1 => repeat (first | exact (Kd.Q_reads' HO290.out).2.2 | (with_reducible refine Kd.C_alloc ?_ _) | (with_reducible refine Kd.C_drewN ?_ _) | (with_reducible refine Kd.C_drew ?_))); (case side2 => exact (Kd.Q_reads' HO290.out).2.1); rintro e w25 ⟨rfl, hb⟩; have n0_ := Zs.mk (Kd.Q_below zq56 hb); have n1_ := Zs.mk (kBe (g := gb293) (o := .cells #[.int .i64 t287, .slice Ao9 t288.length co9] 25 (0, 0)) zq14 hb); have n2_ := Zs.mk (bSp zq9 hb); clear HO290; clear BK293; clear HB; have HO290 := n0_; have BK293 := n1_; have HB := n2_; clear n0_ n1_ n2_; (try clear hb); (try clear hb2); (try clear hk); (try clear hi)))
     go_meet
     case rel => exact ⟨_, (true), zq13, H', ⟨by first | omega | exact Nat.le_refl _⟩, ⟨by (with_reducible repeat (first | apply Kd.Q_alloc | apply Kd.Q_drewN | apply Kd.Q_drew)); exact HO290.out⟩, ⟨by (with_reducible repeat (first | refine kDN ?_ _ | refine kDr ?_ | refine kAl ?_ _)); exact BK293.out⟩, ⟨by repeat (first | (with_reducible first | exact HB.out | apply bAl | apply bDN | apply bD1 | refine bSt ?_ GE293.out) | exact HB.out)⟩⟩
   ·rw [if_neg c12] at H
    have c12b0 : (t294 == t295) = false := beq_eq_false_iff_ne.mpr c12
    have c12b1 : (t294 != t295) = true := bne_iff_ne.mpr c12
    (first | rw [c12b0] | (simp only [i64_w, i32_w]; rw [c12b0]) | skip)
    have H' := Zs.mk H
    clear H
    have hcz26_0 : w10.cell? ⟨gb293, 0, none⟩ = some (.int .i64 t287) := (kCe BK293.out 0).trans rfl
    have hcz26_1 : w10.cell? ⟨gb293, 1, none⟩ = some (.slice Ao9 t288.length co9) := (kCe BK293.out 1).trans rfl
    have hfz26_0 := kFr BK293.out 0
    have hfz26_1 := kFr BK293.out 1
    go_wp2_with (first | ((with_reducible refine gate_callee (f := 10) rfl ?_); refine goesL_ (some 26) rfl rfl Try.func10 zq6 rfl #[.agg #[.int .i64 t287, .slice Ao9 t288.length co9], .int .i64 t291, .int .i64 t292] rfl zq1 ?_; (with_reducible refine (spec_TrailTo.calls k t287 _ _ t288 t291 t292 t295 _ ?side1 ?side2 A11.out).mono ?_); (case side1 => repeat (first | exact (Kd.Q_reads' HO290.out).2.2 | (with_reducible refine Kd.C_alloc ?_ _) | (with_reducible refine Kd.C_drewN ?_ _) | (with_reducible refine Kd.C_drew ?_))); (case side2 => exact (Kd.Q_reads' HO290.out).2.1); rintro e w27 ⟨rfl, hb⟩; refine ⟨_, rfl, ?_⟩; have n0_ := Zs.mk (Kd.Q_below zq56 hb); have n1_ := Zs.mk (kBe (g := gb293) (o := .cells #[.int .i64 t287, .slice Ao9 t288.length co9] 25 (0, 0)) zq14 hb); have n2_ := Zs.mk (bSp zq9 hb); clear HO290; clear BK293; clear HB; have HO290 := n0_; have BK293 := n1_; have HB := n2_; clear n0_ n1_ n2_; (try clear hb); (try clear hb2); (try clear hk); (try clear hi)))
    go_meet
    case rel => exact ⟨_, (true), zq13, H', ⟨by first | omega | exact Nat.le_refl _⟩, ⟨by (with_reducible repeat (first | apply Kd.Q_alloc | apply Kd.Q_drewN | apply Kd.Q_drew)); exact HO290.out⟩, ⟨by (with_reducible repeat (first | refine kDN ?_ _ | refine kDr ?_ | refine kAl ?_ _)); exact BK293.out⟩, ⟨by repeat (first | (with_reducible first | exact HB.out | apply bAl | apply bDN | apply bD1 | refine bSt ?_ GE293.out) | exact HB.out)⟩⟩
  case rest =>
   clear HC5
   try clear c1
   try clear c2
   try clear c2b0
   try clear c2b1
   try clear p2
   try clear c3
   try clear c8
   try clear c9
   try clear c10
   try clear c12
   try clear c12b0
   try clear c12b1
   try clear c14
   try clear hcz16_0
   try clear hcz16_1
   try clear hcz18_0
   try clear hcz18_1
   try clear hcz20_0
   try clear hcz20_1
   try clear hcz22_0
   try clear hcz22_1
   try clear hcz24_0
   try clear hcz24_1
   try clear hcz26_0
   try clear hcz26_1
   try clear hcz8_0
   try clear hcz8_1
   try clear hfz16_0
   try clear hfz16_1
   try clear hfz18_0
   try clear hfz18_1
   try clear hfz20_0
   try clear hfz20_1
   try clear hfz22_0
   try clear hfz22_1
   try clear hfz24_0
   try clear hfz24_1
   try clear hfz26_0
   try clear hfz26_1
   try clear hfz8_0
   try clear hfz8_1
   obtain ⟨kq, x39_4, rfl, HA, HJ4, HO_294001, BK293, HB⟩ := hcut
   cases kq with
   | zero => exact absurd HA.out (by simp [laws_FnTrailTurn.j0])
   | succ kj4 =>
    have H := HA.out
    clear HA
    simp only [laws_FnTrailTurn.j0] at H
    by_cases c28 : x39_4 = true
    ·subst c28
     have H1 : ((spec_TrailTo.f kj4 t287 t288 t291 t292).bind fun t298 => (some (t294 == t298))) = some r := by rw [if_pos rfl] at H; exact H
     clear H
     have H := H1
     clear H1
     replace H := Option.bind_eq_some_iff.mp H
     obtain ⟨t298, A290, H⟩ := H
     replace H : (some (t294 == t298)) = some r := H
     have A29 := Zs.mk A290
     clear A290
     obtain rfl := Option.some.inj H
     have hcz30_0 : wc.cell? ⟨gb293, 0, none⟩ = some (.int .i64 t287) := (kCe BK293.out 0).trans rfl
     have hcz30_1 : wc.cell? ⟨gb293, 1, none⟩ = some (.slice Ao9 t288.length co9) := (kCe BK293.out 1).trans rfl
     have hfz30_0 := kFr BK293.out 0
     have hfz30_1 := kFr BK293.out 1
     go_wp2_with (first | ((with_reducible refine gate_callee (f := 10) rfl ?_); refine goesL_ (some 44) rfl rfl Try.func10 zq6 rfl #[.agg #[.int .i64 t287, .slice Ao9 t288.length co9], .int .i64 t291, .int .i64 t292] rfl zq1 ?_; (with_reducible refine (spec_TrailTo.calls kj4 t287 _ _ t288 t291 t292 t298 _ ?side1 ?side2 A29.out).mono ?_); (case side1 => repeat (first | exact (Kd.Q_reads' HO_294001.out).2.2 | (with_reducible refine Kd.C_alloc ?_ _) | (with_reducible refine Kd.C_drewN ?_ _) | (with_reducible refine Kd.C_drew ?_))); (case side2 => exact (Kd.Q_reads' HO_294001.out).2.1); rintro e w31 ⟨rfl, hb⟩; refine ⟨_, rfl, ?_⟩; have n0_ := Zs.mk (Kd.Q_below zq16 hb); have n1_ := Zs.mk (kBe (g := gb293) (o := .cells #[.int .i64 t287, .slice Ao9 t288.length co9] 25 (0, 0)) zq14 hb); have n2_ := Zs.mk (bSp zq9 hb); clear HO_294001; clear BK293; clear HB; have HO_294001 := n0_; have BK293 := n1_; have HB := n2_; clear n0_ n1_ n2_; (try clear hb); (try clear hb2); (try clear hk); (try clear hi)))
     go_ret
     exact ⟨by first | rfl | (simp [errW_none, errW_some] <;> rfl) | (simp [*, errW_none, errW_some] <;> rfl), by repeat (first | (with_reducible first | exact HB.out | apply bAl | apply bDN | apply bD1 | refine bSt ?_ GE293.out) | exact HB.out)⟩
    ·replace c28 := Bool.eq_false_iff.mpr c28
     subst c28
     have H1 : ((impl_GridTurn.f kj4 t287 t288).bind fun bt299 => ((impl_SightTurn.f kj4 t287 t288 t291).bind fun t303 => ((impl_SightTurn.f kj4 t287 t288 t292).bind fun t304 => ((impl_TrailTo.f kj4 bt299.1 bt299.2 t303 t304).bind fun t305 => ((impl_GridFlip.f kj4 t287 t288).bind fun bt306 => ((impl_SightFlip.f kj4 t287 t288 t291).bind fun t310 => ((impl_SightFlip.f kj4 t287 t288 t292).bind fun t311 => ((impl_TrailTo.f kj4 bt306.1 bt306.2 t310 t311).bind fun t312 => (if t305 = t294 then (some (t312 == t294)) else (some false)))))))))) = some r := by rw [if_neg (show ¬ (false = true) by decide)] at H; exact H
     clear H
     have H := H1
     clear H1
     replace H := Option.bind_eq_some_iff.mp H
     obtain ⟨⟨t299, t300⟩, A320, H⟩ := H
     replace H : ((impl_SightTurn.f kj4 t287 t288 t291).bind fun t303 => ((impl_SightTurn.f kj4 t287 t288 t292).bind fun t304 => ((impl_TrailTo.f kj4 t299 t300 t303 t304).bind fun t305 => ((impl_GridFlip.f kj4 t287 t288).bind fun bt306 => ((impl_SightFlip.f kj4 t287 t288 t291).bind fun t310 => ((impl_SightFlip.f kj4 t287 t288 t292).bind fun t311 => ((impl_TrailTo.f kj4 bt306.1 bt306.2 t310 t311).bind fun t312 => (if t305 = t294 then (some (t312 == t294)) else (some false))))))))) = some r := H
     have A32 := Zs.mk A320
     clear A320
     replace H := Option.bind_eq_some_iff.mp H
     obtain ⟨t303, A330, H⟩ := H
     replace H : ((impl_SightTurn.f kj4 t287 t288 t292).bind fun t304 => ((impl_TrailTo.f kj4 t299 t300 t303 t304).bind fun t305 => ((impl_GridFlip.f kj4 t287 t288).bind fun bt306 => ((impl_SightFlip.f kj4 t287 t288 t291).bind fun t310 => ((impl_SightFlip.f kj4 t287 t288 t292).bind fun t311 => ((impl_TrailTo.f kj4 bt306.1 bt306.2 t310 t311).bind fun t312 => (if t305 = t294 then (some (t312 == t294)) else (some false)))))))) = some r := H
     have A33 := Zs.mk A330
     clear A330
     replace H := Option.bind_eq_some_iff.mp H
     obtain ⟨t304, A340, H⟩ := H
     replace H : ((impl_TrailTo.f kj4 t299 t300 t303 t304).bind fun t305 => ((impl_GridFlip.f kj4 t287 t288).bind fun bt306 => ((impl_SightFlip.f kj4 t287 t288 t291).bind fun t310 => ((impl_SightFlip.f kj4 t287 t288 t292).bind fun t311 => ((impl_TrailTo.f kj4 bt306.1 bt306.2 t310 t311).bind fun t312 => (if t305 = t294 then (some (t312 == t294)) else (some false))))))) = some r := H
     have A34 := Zs.mk A340
     clear A340
     replace H := Option.bind_eq_some_iff.mp H
     obtain ⟨t305, A350, H⟩ := H
     replace H : ((impl_GridFlip.f kj4 t287 t288).bind fun bt306 => ((impl_SightFlip.f kj4 t287 t288 t291).bind fun t310 => ((impl_SightFlip.f kj4 t287 t288 t292).bind fun t311 => ((impl_TrailTo.f kj4 bt306.1 bt306.2 t310 t311).bind fun t312 => (if t305 = t294 then (some (t312 == t294)) else (some false)))))) = some r := H
     have A35 := Zs.mk A350
     clear A350
     replace H := Option.bind_eq_some_iff.mp H
     obtain ⟨⟨t306, t307⟩, A360, H⟩ := H
     replace H : ((impl_SightFlip.f kj4 t287 t288 t291).bind fun t310 => ((impl_SightFlip.f kj4 t287 t288 t292).bind fun t311 => ((impl_TrailTo.f kj4 t306 t307 t310 t311).bind fun t312 => (if t305 = t294 then (some (t312 == t294)) else (some false))))) = some r := H
     have A36 := Zs.mk A360
     clear A360
     replace H := Option.bind_eq_some_iff.mp H
     obtain ⟨t310, A370, H⟩ := H
     replace H : ((impl_SightFlip.f kj4 t287 t288 t292).bind fun t311 => ((impl_TrailTo.f kj4 t306 t307 t310 t311).bind fun t312 => (if t305 = t294 then (some (t312 == t294)) else (some false)))) = some r := H
     have A37 := Zs.mk A370
     clear A370
     replace H := Option.bind_eq_some_iff.mp H
     obtain ⟨t311, A380, H⟩ := H
     replace H : ((impl_TrailTo.f kj4 t306 t307 t310 t311).bind fun t312 => (if t305 = t294 then (some (t312 == t294)) else (some false))) = some r := H
     have A38 := Zs.mk A380
     clear A380
     replace H := Option.bind_eq_some_iff.mp H
     obtain ⟨t312, A390, H⟩ := H
     replace H : (if t305 = t294 then (some (t312 == t294)) else (some false)) = some r := H
     have A39 := Zs.mk A390
     clear A390
     by_cases c40 : t305 = t294
     ·rw [if_pos c40] at H
      have c40b0 : (t305 == t294) = true := beq_iff_eq.mpr c40
      have c40b1 : (t305 != t294) = false := bne_eq_false_iff_eq.mpr c40
      clear c40
      obtain rfl := Option.some.inj H
      try go_wp2
      have n0_ := Zs.mk (Kd.Q_drew HO_294001.out)
      have n1_ := Zs.mk (kDr BK293.out)
      have n2_ := Zs.mk (bD1 HB.out)
      clear HO_294001
      clear BK293
      clear HB
      have HO_294001 := n0_
      have BK293 := n1_
      have HB := n2_
      clear n0_ n1_ n2_
      refine start_ (n := 10) (S := fun w' => w'.cell? ⟨gb293, 0, none⟩ = some (.int .i64 t287) ∧ w'.cell? ⟨gb293, 1, none⟩ = some (.slice Ao9 t288.length co9)) (ds := []) #[false, false, false, false, false, false, false, false, false, false] zq6 rfl rfl ⟨(kCe BK293.out 0).trans rfl, (kCe BK293.out 1).trans rfl⟩ (fun hHeld => ?_); refine with_tabW laws_FnTrailTurn.tab7 laws_FnTrailTurn.bits7 (fun HT_ HW_ => ?_)
      generalize wc.drew = w41 at HO_294001 BK293 HB hHeld ⊢
      refine pure_ (i := 3) (N := some 49) (v := ?_) (a' := ?_) #[false, false, false, true, false, false, false, false, false, false] rfl rfl (any_of HT_.out zq6) (fun _ _ _ h => h) (Or.inl ⟨by rfl, ?_⟩) ?_ ?_
      rotate_left
      ·intro w'
       go_simp
       with_reducible rfl
      rotate_left
      ·simp only [Act.put, List.setIfInBounds_toArray, List.set_cons_zero, List.set_cons_succ, i64_w, i32_w]
       rfl
      refine pure_ (i := 6) (N := some 52) (v := ?_) (a' := ?_) #[false, false, false, true, false, false, true, false, false, false] rfl rfl (any_of HT_.out zq6) (fun _ _ _ h => h) (Or.inl ⟨by rfl, ?_⟩) ?_ ?_
      rotate_left
      ·intro w'
       go_simp
       with_reducible rfl
      rotate_left
      ·simp only [Act.put, List.setIfInBounds_toArray, List.set_cons_zero, List.set_cons_succ, i64_w, i32_w]
       rfl
      refine take_ (i := 0) (N := some 46) (v := ?_) (a' := ?_) #[true, false, false, true, false, false, true, false, false, false] rfl rfl (take_ofW HT_.out HW_.out zq6) (fun _ _ _ h => h) (Or.inl ⟨by rfl, ?_⟩) hHeld ?_ ?_
      rotate_left
      ·rintro w' ⟨s0, s1⟩
       go_simp
       with_reducible rfl
      rotate_left
      ·simp only [Act.put, List.setIfInBounds_toArray, List.set_cons_zero, List.set_cons_succ, i64_w, i32_w]
       rfl
      refine take_ (i := 2) (N := some 48) (v := ?_) (a' := ?_) #[true, false, true, true, false, false, true, false, false, false] rfl rfl (take_ofW HT_.out HW_.out zq6) (fun _ _ _ h => h) (Or.inl ⟨by rfl, ?_⟩) hHeld ?_ ?_
      rotate_left
      ·rintro w' ⟨s0, s1⟩
       go_simp
       with_reducible rfl
      rotate_left
      ·simp only [Act.put, List.setIfInBounds_toArray, List.set_cons_zero, List.set_cons_succ, i64_w, i32_w]
       rfl
      refine take_ (i := 5) (N := some 51) (v := ?_) (a' := ?_) #[true, false, true, true, false, true, true, false, false, false] rfl rfl (take_ofW HT_.out HW_.out zq6) (fun _ _ _ h => h) (Or.inl ⟨by rfl, ?_⟩) hHeld ?_ ?_
      rotate_left
      ·rintro w' ⟨s0, s1⟩
       go_simp
       with_reducible rfl
      rotate_left
      ·simp only [Act.put, List.setIfInBounds_toArray, List.set_cons_zero, List.set_cons_succ, i64_w, i32_w]
       rfl
      refine one_ (i := 1) (N := some 47) #[true, true, true, true, false, true, true, false, false, false] rfl rfl (one_of HT_.out zq6) zq31 (fun K hK => ?_)
      refine goes_ Try.func12 zq6 rfl #[.agg #[.int .i64 t287, .slice Ao9 t288.length co9]] (by rfl) rfl rfl zq1 ?_
      with_reducible refine (impl_GridTurn.calls kj4 t287 _ _ t288 t299 t300 _ ?side1 ?side2 A32.out).mono ?_
      (case side1 => repeat (first | exact (Kd.Q_reads' HO_294001.out).2.2 | (with_reducible refine Kd.C_alloc ?_ _) | (with_reducible refine Kd.C_drewN ?_ _) | (with_reducible refine Kd.C_drew ?_)))
      (case side2 => exact (Kd.Q_reads' HO_294001.out).2.1)
      rintro e w42 ⟨v301, rfl, ho0, hb⟩
      refine ⟨_, rfl, ?_⟩
      have n0_ := Zs.mk (Kd.Q_elder' zq16 (Kd.R_base ho0) hb)
      have n1_ := Zs.mk (Kd.R_lower (Kd.R_new' ho0 (Kd.Q_lt zq16)) (bSz zq9))
      have n2_ := Zs.mk (kBe (g := gb293) (o := .cells #[.int .i64 t287, .slice Ao9 t288.length co9] 25 (0, 0)) zq14 hb)
      have n3_ := Zs.mk (bSp zq9 hb)
      clear HO_294001
      clear BK293
      clear HB
      have HO_294001 := n0_
      have HO302 := n1_
      have BK293 := n2_
      have HB := n3_
      clear n0_ n1_ n2_ n3_
      (try clear hb)
      (try clear hb2)
      (try clear hk)
      (try clear hi)
      (try clear ho0)
      refine hK.out _ _ ⟨(kCe BK293.out 0).trans rfl, (kCe BK293.out 1).trans rfl⟩ (fun hHeld => ?_)
      clear hK K
      refine norm_ (a' := ?_) ?_ ?_
      rotate_left
      ·show Act.put _ (some 47) _ = _
       simp only [Act.put, List.setIfInBounds_toArray, List.set_cons_zero, List.set_cons_succ, i64_w, i32_w]
       rfl
      refine one_ (i := 4) (N := some 50) #[true, true, true, true, true, true, true, false, false, false] rfl rfl (one_of HT_.out zq6) zq31 (fun K hK => ?_)
      refine goes_ Try.func13 zq6 rfl #[.agg #[.int .i64 t287, .slice Ao9 t288.length co9], .int .i64 t291] (by rfl) rfl rfl zq1 ?_
      with_reducible refine (impl_SightTurn.calls kj4 t287 _ _ t288 t291 t303 _ ?side1 ?side2 A33.out).mono ?_
      (case side1 => repeat (first | exact (Kd.Q_reads' HO_294001.out).2.2 | (with_reducible refine Kd.C_alloc ?_ _) | (with_reducible refine Kd.C_drewN ?_ _) | (with_reducible refine Kd.C_drew ?_)))
      (case side2 => exact (Kd.Q_reads' HO_294001.out).2.1)
      rintro e w43 ⟨rfl, hb⟩
      refine ⟨_, rfl, ?_⟩
      have n0_ := Zs.mk (Kd.Q_below zq16 hb)
      have n1_ := Zs.mk (Kd.R_below zq22 hb)
      have n2_ := Zs.mk (kBe (g := gb293) (o := .cells #[.int .i64 t287, .slice Ao9 t288.length co9] 25 (0, 0)) zq14 hb)
      have n3_ := Zs.mk (bSp zq9 hb)
      clear HO_294001
      clear HO302
      clear BK293
      clear HB
      have HO_294001 := n0_
      have HO302 := n1_
      have BK293 := n2_
      have HB := n3_
      clear n0_ n1_ n2_ n3_
      (try clear hb)
      (try clear hb2)
      (try clear hk)
      (try clear hi)
      refine hK.out _ _ ⟨(kCe BK293.out 0).trans rfl, (kCe BK293.out 1).trans rfl⟩ (fun hHeld => ?_)
      clear hK K
      refine norm_ (a' := ?_) ?_ ?_
      rotate_left
      ·show Act.put _ (some 50) _ = _
       simp only [Act.put, List.setIfInBounds_toArray, List.set_cons_zero, List.set_cons_succ, i64_w, i32_w]
       rfl
      refine one_ (i := 7) (N := some 53) #[true, true, true, true, true, true, true, true, false, false] rfl rfl (one_of HT_.out zq6) zq31 (fun K hK => ?_)
      refine goes_ Try.func13 zq6 rfl #[.agg #[.int .i64 t287, .slice Ao9 t288.length co9], .int .i64 t292] (by rfl) rfl rfl zq1 ?_
      with_reducible refine (impl_SightTurn.calls kj4 t287 _ _ t288 t292 t304 _ ?side1 ?side2 A34.out).mono ?_
      (case side1 => repeat (first | exact (Kd.Q_reads' HO_294001.out).2.2 | (with_reducible refine Kd.C_alloc ?_ _) | (with_reducible refine Kd.C_drewN ?_ _) | (with_reducible refine Kd.C_drew ?_)))
      (case side2 => exact (Kd.Q_reads' HO_294001.out).2.1)
      rintro e w44 ⟨rfl, hb⟩
      refine ⟨_, rfl, ?_⟩
      have n0_ := Zs.mk (Kd.Q_below zq16 hb)
      have n1_ := Zs.mk (Kd.R_below zq22 hb)
      have n2_ := Zs.mk (kBe (g := gb293) (o := .cells #[.int .i64 t287, .slice Ao9 t288.length co9] 25 (0, 0)) zq14 hb)
      have n3_ := Zs.mk (bSp zq9 hb)
      clear HO_294001
      clear HO302
      clear BK293
      clear HB
      have HO_294001 := n0_
      have HO302 := n1_
      have BK293 := n2_
      have HB := n3_
      clear n0_ n1_ n2_ n3_
      (try clear hb)
      (try clear hb2)
      (try clear hk)
      (try clear hi)
      obtain ⟨Ao45, co45, eo45⟩ := Kd.R_slice HO302.out
      (first | subst eo45 | (injection eo45 with f1_ f2_ f3_; have f4_ := f1_.symm; have f5_ := f3_.symm; clear f1_ f2_ f3_; subst f4_; subst f5_))
      refine hK.out _ _ ⟨(kCe BK293.out 0).trans rfl, (kCe BK293.out 1).trans rfl⟩ (fun hHeld => ?_)
      clear hK K
      refine norm_ (a' := ?_) ?_ ?_
      rotate_left
      ·show Act.put _ (some 53) _ = _
       simp only [Act.put, List.setIfInBounds_toArray, List.set_cons_zero, List.set_cons_succ, i64_w, i32_w]
       rfl
      refine one_ (i := 8) (N := some 54) #[true, true, true, true, true, true, true, true, true, false] rfl rfl (one_of HT_.out zq6) zq31 (fun K hK => ?_)
      refine goes_ Try.func9 zq6 rfl #[.agg #[.int .i64 t299, .slice Ao45 t300.length co45], .int .i64 t303, .int .i64 t304] (by rfl) rfl rfl zq1 ?_
      with_reducible refine (impl_TrailTo.calls kj4 t299 _ _ t300 t303 t304 t305 _ ?side1 ?side2 A35.out).mono ?_
      (case side1 => repeat (first | exact (Kd.R_reads' HO302.out).2.2 | (with_reducible refine Kd.C_alloc ?_ _) | (with_reducible refine Kd.C_drewN ?_ _) | (with_reducible refine Kd.C_drew ?_)))
      (case side2 => exact (Kd.R_reads' HO302.out).2.1)
      rintro e w46 ⟨rfl, hb⟩
      refine ⟨_, rfl, ?_⟩
      have n0_ := Zs.mk (Kd.Q_below zq16 hb)
      have n1_ := Zs.mk (Kd.R_below zq22 hb)
      have n2_ := Zs.mk (kBe (g := gb293) (o := .cells #[.int .i64 t287, .slice Ao9 t288.length co9] 25 (0, 0)) zq14 hb)
      have n3_ := Zs.mk (bSp zq9 hb)
      clear HO_294001
      clear HO302
      clear BK293
      clear HB
      have HO_294001 := n0_
      have HO302 := n1_
      have BK293 := n2_
      have HB := n3_
      clear n0_ n1_ n2_ n3_
      (try clear hb)
      (try clear hb2)
      (try clear hk)
      (try clear hi)
      refine hK.out _ _ ⟨(kCe BK293.out 0).trans rfl, (kCe BK293.out 1).trans rfl⟩ (fun hHeld => ?_)
      clear hK K
      refine norm_ (a' := ?_) ?_ ?_
      rotate_left
      ·show Act.put _ (some 54) _ = _
       simp only [Act.put, List.setIfInBounds_toArray, List.set_cons_zero, List.set_cons_succ, i64_w, i32_w]
       rfl
      refine pure_ (i := 9) (N := some 7) (v := ?_) (a' := ?_) #[true, true, true, true, true, true, true, true, true, true] rfl rfl (any_of HT_.out zq6) (fun _ _ _ h => h) (Or.inl ⟨by rfl, ?_⟩) ?_ ?_
      rotate_left
      ·intro w'
       go_simp
       with_reducible rfl
      rotate_left
      ·simp only [Act.put, List.setIfInBounds_toArray, List.set_cons_zero, List.set_cons_succ, i64_w, i32_w]
       rfl
      refine done_ (done_of HT_.out zq6) ?_
      try go_wp2
      have n0_ := Zs.mk (Kd.Q_drew HO_294001.out)
      have n1_ := Zs.mk (Kd.R_drew HO302.out)
      have n2_ := Zs.mk (kDr BK293.out)
      have n3_ := Zs.mk (bD1 HB.out)
      clear HO_294001
      clear HO302
      clear BK293
      clear HB
      have HO_294001 := n0_
      have HO302 := n1_
      have BK293 := n2_
      have HB := n3_
      clear n0_ n1_ n2_ n3_
      refine start_ (n := 10) (S := fun w' => w'.cell? ⟨gb293, 0, none⟩ = some (.int .i64 t287) ∧ w'.cell? ⟨gb293, 1, none⟩ = some (.slice Ao9 t288.length co9)) (ds := []) #[false, false, false, false, false, false, false, false, false, false] zq6 rfl rfl ⟨(kCe BK293.out 0).trans rfl, (kCe BK293.out 1).trans rfl⟩ (fun hHeld => ?_); refine with_tabW laws_FnTrailTurn.tab8 laws_FnTrailTurn.bits8 (fun HT_ HW_ => ?_)
      generalize w46.drew = w47 at HO_294001 HO302 BK293 HB hHeld ⊢
      refine pure_ (i := 3) (N := some 58) (v := ?_) (a' := ?_) #[false, false, false, true, false, false, false, false, false, false] rfl rfl (any_of HT_.out zq6) (fun _ _ _ h => h) (Or.inl ⟨by rfl, ?_⟩) ?_ ?_
      rotate_left
      ·intro w'
       go_simp
       with_reducible rfl
      rotate_left
      ·simp only [Act.put, List.setIfInBounds_toArray, List.set_cons_zero, List.set_cons_succ, i64_w, i32_w]
       rfl
      refine pure_ (i := 6) (N := some 61) (v := ?_) (a' := ?_) #[false, false, false, true, false, false, true, false, false, false] rfl rfl (any_of HT_.out zq6) (fun _ _ _ h => h) (Or.inl ⟨by rfl, ?_⟩) ?_ ?_
      rotate_left
      ·intro w'
       go_simp
       with_reducible rfl
      rotate_left
      ·simp only [Act.put, List.setIfInBounds_toArray, List.set_cons_zero, List.set_cons_succ, i64_w, i32_w]
       rfl
      refine take_ (i := 0) (N := some 55) (v := ?_) (a' := ?_) #[true, false, false, true, false, false, true, false, false, false] rfl rfl (take_ofW HT_.out HW_.out zq6) (fun _ _ _ h => h) (Or.inl ⟨by rfl, ?_⟩) hHeld ?_ ?_
      rotate_left
      ·rintro w' ⟨s0, s1⟩
       go_simp
       with_reducible rfl
      rotate_left
      ·simp only [Act.put, List.setIfInBounds_toArray, List.set_cons_zero, List.set_cons_succ, i64_w, i32_w]
       rfl
      refine take_ (i := 2) (N := some 57) (v := ?_) (a' := ?_) #[true, false, true, true, false, false, true, false, false, false] rfl rfl (take_ofW HT_.out HW_.out zq6) (fun _ _ _ h => h) (Or.inl ⟨by rfl, ?_⟩) hHeld ?_ ?_
      rotate_left
      ·rintro w' ⟨s0, s1⟩
       go_simp
       with_reducible rfl
      rotate_left
      ·simp only [Act.put, List.setIfInBounds_toArray, List.set_cons_zero, List.set_cons_succ, i64_w, i32_w]
       rfl
      refine take_ (i := 5) (N := some 60) (v := ?_) (a' := ?_) #[true, false, true, true, false, true, true, false, false, false] rfl rfl (take_ofW HT_.out HW_.out zq6) (fun _ _ _ h => h) (Or.inl ⟨by rfl, ?_⟩) hHeld ?_ ?_
      rotate_left
      ·rintro w' ⟨s0, s1⟩
       go_simp
       with_reducible rfl
      rotate_left
      ·simp only [Act.put, List.setIfInBounds_toArray, List.set_cons_zero, List.set_cons_succ, i64_w, i32_w]
       rfl
      refine one_ (i := 1) (N := some 56) #[true, true, true, true, false, true, true, false, false, false] rfl rfl (one_of HT_.out zq6) zq31 (fun K hK => ?_)
      refine goes_ Try.func14 zq6 rfl #[.agg #[.int .i64 t287, .slice Ao9 t288.length co9]] (by rfl) rfl rfl zq1 ?_
      with_reducible refine (impl_GridFlip.calls kj4 t287 _ _ t288 t306 t307 _ ?side1 ?side2 A36.out).mono ?_
      (case side1 => repeat (first | exact (Kd.Q_reads' HO_294001.out).2.2 | (with_reducible refine Kd.C_alloc ?_ _) | (with_reducible refine Kd.C_drewN ?_ _) | (with_reducible refine Kd.C_drew ?_)))
      (case side2 => exact (Kd.Q_reads' HO_294001.out).2.1)
      rintro e w48 ⟨v308, rfl, ho0, hb⟩
      refine ⟨_, rfl, ?_⟩
      have n0_ := Zs.mk (Kd.Q_elder' zq16 (Kd.R_base ho0) hb)
      have n1_ := Zs.mk (Kd.R_elder' zq22 (Kd.R_base ho0) hb)
      have n2_ := Zs.mk (Kd.R_lower (Kd.R_new' (Kd.R_new' ho0 (Kd.Q_lt zq16)) (Kd.R_lt zq22)) (bSz zq9))
      have n3_ := Zs.mk (kBe (g := gb293) (o := .cells #[.int .i64 t287, .slice Ao9 t288.length co9] 25 (0, 0)) zq14 hb)
      have n4_ := Zs.mk (bSp zq9 hb)
      clear HO_294001
      clear HO302
      clear BK293
      clear HB
      have HO_294001 := n0_
      have HO302 := n1_
      have HO309 := n2_
      have BK293 := n3_
      have HB := n4_
      clear n0_ n1_ n2_ n3_ n4_
      (try clear hb)
      (try clear hb2)
      (try clear hk)
      (try clear hi)
      (try clear ho0)
      refine hK.out _ _ ⟨(kCe BK293.out 0).trans rfl, (kCe BK293.out 1).trans rfl⟩ (fun hHeld => ?_)
      clear hK K
      refine norm_ (a' := ?_) ?_ ?_
      rotate_left
      ·show Act.put _ (some 56) _ = _
       simp only [Act.put, List.setIfInBounds_toArray, List.set_cons_zero, List.set_cons_succ, i64_w, i32_w]
       rfl
      refine one_ (i := 4) (N := some 59) #[true, true, true, true, true, true, true, false, false, false] rfl rfl (one_of HT_.out zq6) zq31 (fun K hK => ?_)
      refine goes_ Try.func15 zq6 rfl #[.agg #[.int .i64 t287, .slice Ao9 t288.length co9], .int .i64 t291] (by rfl) rfl rfl zq1 ?_
      with_reducible refine (impl_SightFlip.calls kj4 t287 _ _ t288 t291 t310 _ ?side1 ?side2 A37.out).mono ?_
      (case side1 => repeat (first | exact (Kd.Q_reads' HO_294001.out).2.2 | (with_reducible refine Kd.C_alloc ?_ _) | (with_reducible refine Kd.C_drewN ?_ _) | (with_reducible refine Kd.C_drew ?_)))
      (case side2 => exact (Kd.Q_reads' HO_294001.out).2.1)
      rintro e w49 ⟨rfl, hb⟩
      refine ⟨_, rfl, ?_⟩
      have n0_ := Zs.mk (Kd.Q_below zq16 hb)
      have n1_ := Zs.mk (Kd.R_below zq22 hb)
      have n2_ := Zs.mk (Kd.R_below zq64 hb)
      have n3_ := Zs.mk (kBe (g := gb293) (o := .cells #[.int .i64 t287, .slice Ao9 t288.length co9] 25 (0, 0)) zq14 hb)
      have n4_ := Zs.mk (bSp zq9 hb)
      clear HO_294001
      clear HO302
      clear HO309
      clear BK293
      clear HB
      have HO_294001 := n0_
      have HO302 := n1_
      have HO309 := n2_
      have BK293 := n3_
      have HB := n4_
      clear n0_ n1_ n2_ n3_ n4_
      (try clear hb)
      (try clear hb2)
      (try clear hk)
      (try clear hi)
      refine hK.out _ _ ⟨(kCe BK293.out 0).trans rfl, (kCe BK293.out 1).trans rfl⟩ (fun hHeld => ?_)
      clear hK K
      refine norm_ (a' := ?_) ?_ ?_
      rotate_left
      ·show Act.put _ (some 59) _ = _
       simp only [Act.put, List.setIfInBounds_toArray, List.set_cons_zero, List.set_cons_succ, i64_w, i32_w]
       rfl
      refine one_ (i := 7) (N := some 62) #[true, true, true, true, true, true, true, true, false, false] rfl rfl (one_of HT_.out zq6) zq31 (fun K hK => ?_)
      refine goes_ Try.func15 zq6 rfl #[.agg #[.int .i64 t287, .slice Ao9 t288.length co9], .int .i64 t292] (by rfl) rfl rfl zq1 ?_
      with_reducible refine (impl_SightFlip.calls kj4 t287 _ _ t288 t292 t311 _ ?side1 ?side2 A38.out).mono ?_
      (case side1 => repeat (first | exact (Kd.Q_reads' HO_294001.out).2.2 | (with_reducible refine Kd.C_alloc ?_ _) | (with_reducible refine Kd.C_drewN ?_ _) | (with_reducible refine Kd.C_drew ?_)))
      (case side2 => exact (Kd.Q_reads' HO_294001.out).2.1)
      rintro e w50 ⟨rfl, hb⟩
      refine ⟨_, rfl, ?_⟩
      have n0_ := Zs.mk (Kd.Q_below zq16 hb)
      have n1_ := Zs.mk (Kd.R_below zq22 hb)
      have n2_ := Zs.mk (Kd.R_below zq64 hb)
      have n3_ := Zs.mk (kBe (g := gb293) (o := .cells #[.int .i64 t287, .slice Ao9 t288.length co9] 25 (0, 0)) zq14 hb)
      have n4_ := Zs.mk (bSp zq9 hb)
      clear HO_294001
      clear HO302
      clear HO309
      clear BK293
      clear HB
      have HO_294001 := n0_
      have HO302 := n1_
      have HO309 := n2_
      have BK293 := n3_
      have HB := n4_
      clear n0_ n1_ n2_ n3_ n4_
      (try clear hb)
      (try clear hb2)
      (try clear hk)
      (try clear hi)
      obtain ⟨Ao51, co51, eo51⟩ := Kd.R_slice HO309.out
      (first | subst eo51 | (injection eo51 with f1_ f2_ f3_; have f4_ := f1_.symm; have f5_ := f3_.symm; clear f1_ f2_ f3_; subst f4_; subst f5_))
      refine hK.out _ _ ⟨(kCe BK293.out 0).trans rfl, (kCe BK293.out 1).trans rfl⟩ (fun hHeld => ?_)
      clear hK K
      refine norm_ (a' := ?_) ?_ ?_
      rotate_left
      ·show Act.put _ (some 62) _ = _
       simp only [Act.put, List.setIfInBounds_toArray, List.set_cons_zero, List.set_cons_succ, i64_w, i32_w]
       rfl
      refine one_ (i := 8) (N := some 63) #[true, true, true, true, true, true, true, true, true, false] rfl rfl (one_of HT_.out zq6) zq31 (fun K hK => ?_)
      refine goes_ Try.func9 zq6 rfl #[.agg #[.int .i64 t306, .slice Ao51 t307.length co51], .int .i64 t310, .int .i64 t311] (by rfl) rfl rfl zq1 ?_
      with_reducible refine (impl_TrailTo.calls kj4 t306 _ _ t307 t310 t311 t312 _ ?side1 ?side2 A39.out).mono ?_
      (case side1 => repeat (first | exact (Kd.R_reads' HO309.out).2.2 | (with_reducible refine Kd.C_alloc ?_ _) | (with_reducible refine Kd.C_drewN ?_ _) | (with_reducible refine Kd.C_drew ?_)))
      (case side2 => exact (Kd.R_reads' HO309.out).2.1)
      rintro e w52 ⟨rfl, hb⟩
      refine ⟨_, rfl, ?_⟩
      have n0_ := Zs.mk (Kd.Q_below zq16 hb)
      have n1_ := Zs.mk (Kd.R_below zq22 hb)
      have n2_ := Zs.mk (Kd.R_below zq64 hb)
      have n3_ := Zs.mk (kBe (g := gb293) (o := .cells #[.int .i64 t287, .slice Ao9 t288.length co9] 25 (0, 0)) zq14 hb)
      have n4_ := Zs.mk (bSp zq9 hb)
      clear HO_294001
      clear HO302
      clear HO309
      clear BK293
      clear HB
      have HO_294001 := n0_
      have HO302 := n1_
      have HO309 := n2_
      have BK293 := n3_
      have HB := n4_
      clear n0_ n1_ n2_ n3_ n4_
      (try clear hb)
      (try clear hb2)
      (try clear hk)
      (try clear hi)
      refine hK.out _ _ ⟨(kCe BK293.out 0).trans rfl, (kCe BK293.out 1).trans rfl⟩ (fun hHeld => ?_)
      clear hK K
      refine norm_ (a' := ?_) ?_ ?_
      rotate_left
      ·show Act.put _ (some 63) _ = _
       simp only [Act.put, List.setIfInBounds_toArray, List.set_cons_zero, List.set_cons_succ, i64_w, i32_w]
       rfl
      refine pure_ (i := 9) (N := some 8) (v := ?_) (a' := ?_) #[true, true, true, true, true, true, true, true, true, true] rfl rfl (any_of HT_.out zq6) (fun _ _ _ h => h) (Or.inl ⟨by rfl, ?_⟩) ?_ ?_
      rotate_left
      ·intro w'
       go_simp
       with_reducible rfl
      rotate_left
      ·simp only [Act.put, List.setIfInBounds_toArray, List.set_cons_zero, List.set_cons_succ, i64_w, i32_w]
       rfl
      refine done_ (done_of HT_.out zq6) ?_
      try go_wp2
      go_ret
      exact ⟨by first | rfl | (simp [errW_none, errW_some] <;> rfl) | (simp [*, errW_none, errW_some] <;> rfl), by repeat (first | (with_reducible first | exact HB.out | apply bAl | apply bDN | apply bD1 | refine bSt ?_ GE293.out) | exact HB.out)⟩
     ·rw [if_neg c40] at H
      have c40b0 : (t305 == t294) = false := beq_eq_false_iff_ne.mpr c40
      have c40b1 : (t305 != t294) = true := bne_iff_ne.mpr c40
      obtain rfl := Option.some.inj H
      try go_wp2
      have n0_ := Zs.mk (Kd.Q_drew HO_294001.out)
      have n1_ := Zs.mk (kDr BK293.out)
      have n2_ := Zs.mk (bD1 HB.out)
      clear HO_294001
      clear BK293
      clear HB
      have HO_294001 := n0_
      have BK293 := n1_
      have HB := n2_
      clear n0_ n1_ n2_
      refine start_ (n := 10) (S := fun w' => w'.cell? ⟨gb293, 0, none⟩ = some (.int .i64 t287) ∧ w'.cell? ⟨gb293, 1, none⟩ = some (.slice Ao9 t288.length co9)) (ds := []) #[false, false, false, false, false, false, false, false, false, false] zq6 rfl rfl ⟨(kCe BK293.out 0).trans rfl, (kCe BK293.out 1).trans rfl⟩ (fun hHeld => ?_); refine with_tabW laws_FnTrailTurn.tab7 laws_FnTrailTurn.bits7 (fun HT_ HW_ => ?_)
      generalize wc.drew = w53 at HO_294001 BK293 HB hHeld ⊢
      refine pure_ (i := 3) (N := some 49) (v := ?_) (a' := ?_) #[false, false, false, true, false, false, false, false, false, false] rfl rfl (any_of HT_.out zq6) (fun _ _ _ h => h) (Or.inl ⟨by rfl, ?_⟩) ?_ ?_
      rotate_left
      ·intro w'
       go_simp
       with_reducible rfl
      rotate_left
      ·simp only [Act.put, List.setIfInBounds_toArray, List.set_cons_zero, List.set_cons_succ, i64_w, i32_w]
       rfl
      refine pure_ (i := 6) (N := some 52) (v := ?_) (a' := ?_) #[false, false, false, true, false, false, true, false, false, false] rfl rfl (any_of HT_.out zq6) (fun _ _ _ h => h) (Or.inl ⟨by rfl, ?_⟩) ?_ ?_
      rotate_left
      ·intro w'
       go_simp
       with_reducible rfl
      rotate_left
      ·simp only [Act.put, List.setIfInBounds_toArray, List.set_cons_zero, List.set_cons_succ, i64_w, i32_w]
       rfl
      refine take_ (i := 0) (N := some 46) (v := ?_) (a' := ?_) #[true, false, false, true, false, false, true, false, false, false] rfl rfl (take_ofW HT_.out HW_.out zq6) (fun _ _ _ h => h) (Or.inl ⟨by rfl, ?_⟩) hHeld ?_ ?_
      rotate_left
      ·rintro w' ⟨s0, s1⟩
       go_simp
       with_reducible rfl
      rotate_left
      ·simp only [Act.put, List.setIfInBounds_toArray, List.set_cons_zero, List.set_cons_succ, i64_w, i32_w]
       rfl
      refine take_ (i := 2) (N := some 48) (v := ?_) (a' := ?_) #[true, false, true, true, false, false, true, false, false, false] rfl rfl (take_ofW HT_.out HW_.out zq6) (fun _ _ _ h => h) (Or.inl ⟨by rfl, ?_⟩) hHeld ?_ ?_
      rotate_left
      ·rintro w' ⟨s0, s1⟩
       go_simp
       with_reducible rfl
      rotate_left
      ·simp only [Act.put, List.setIfInBounds_toArray, List.set_cons_zero, List.set_cons_succ, i64_w, i32_w]
       rfl
      refine take_ (i := 5) (N := some 51) (v := ?_) (a' := ?_) #[true, false, true, true, false, true, true, false, false, false] rfl rfl (take_ofW HT_.out HW_.out zq6) (fun _ _ _ h => h) (Or.inl ⟨by rfl, ?_⟩) hHeld ?_ ?_
      rotate_left
      ·rintro w' ⟨s0, s1⟩
       go_simp
       with_reducible rfl
      rotate_left
      ·simp only [Act.put, List.setIfInBounds_toArray, List.set_cons_zero, List.set_cons_succ, i64_w, i32_w]
       rfl
      refine one_ (i := 1) (N := some 47) #[true, true, true, true, false, true, true, false, false, false] rfl rfl (one_of HT_.out zq6) zq31 (fun K hK => ?_)
      refine goes_ Try.func12 zq6 rfl #[.agg #[.int .i64 t287, .slice Ao9 t288.length co9]] (by rfl) rfl rfl zq1 ?_
      with_reducible refine (impl_GridTurn.calls kj4 t287 _ _ t288 t299 t300 _ ?side1 ?side2 A32.out).mono ?_
      (case side1 => repeat (first | exact (Kd.Q_reads' HO_294001.out).2.2 | (with_reducible refine Kd.C_alloc ?_ _) | (with_reducible refine Kd.C_drewN ?_ _) | (with_reducible refine Kd.C_drew ?_)))
      (case side2 => exact (Kd.Q_reads' HO_294001.out).2.1)
      rintro e w54 ⟨v301, rfl, ho0, hb⟩
      refine ⟨_, rfl, ?_⟩
      have n0_ := Zs.mk (Kd.Q_elder' zq16 (Kd.R_base ho0) hb)
      have n1_ := Zs.mk (Kd.R_lower (Kd.R_new' ho0 (Kd.Q_lt zq16)) (bSz zq9))
      have n2_ := Zs.mk (kBe (g := gb293) (o := .cells #[.int .i64 t287, .slice Ao9 t288.length co9] 25 (0, 0)) zq14 hb)
      have n3_ := Zs.mk (bSp zq9 hb)
      clear HO_294001
      clear BK293
      clear HB
      have HO_294001 := n0_
      have HO302 := n1_
      have BK293 := n2_
      have HB := n3_
      clear n0_ n1_ n2_ n3_
      (try clear hb)
      (try clear hb2)
      (try clear hk)
      (try clear hi)
      (try clear ho0)
      refine hK.out _ _ ⟨(kCe BK293.out 0).trans rfl, (kCe BK293.out 1).trans rfl⟩ (fun hHeld => ?_)
      clear hK K
      refine norm_ (a' := ?_) ?_ ?_
      rotate_left
      ·show Act.put _ (some 47) _ = _
       simp only [Act.put, List.setIfInBounds_toArray, List.set_cons_zero, List.set_cons_succ, i64_w, i32_w]
       rfl
      refine one_ (i := 4) (N := some 50) #[true, true, true, true, true, true, true, false, false, false] rfl rfl (one_of HT_.out zq6) zq31 (fun K hK => ?_)
      refine goes_ Try.func13 zq6 rfl #[.agg #[.int .i64 t287, .slice Ao9 t288.length co9], .int .i64 t291] (by rfl) rfl rfl zq1 ?_
      with_reducible refine (impl_SightTurn.calls kj4 t287 _ _ t288 t291 t303 _ ?side1 ?side2 A33.out).mono ?_
      (case side1 => repeat (first | exact (Kd.Q_reads' HO_294001.out).2.2 | (with_reducible refine Kd.C_alloc ?_ _) | (with_reducible refine Kd.C_drewN ?_ _) | (with_reducible refine Kd.C_drew ?_)))
      (case side2 => exact (Kd.Q_reads' HO_294001.out).2.1)
      rintro e w55 ⟨rfl, hb⟩
      refine ⟨_, rfl, ?_⟩
      have n0_ := Zs.mk (Kd.Q_below zq16 hb)
      have n1_ := Zs.mk (Kd.R_below zq22 hb)
      have n2_ := Zs.mk (kBe (g := gb293) (o := .cells #[.int .i64 t287, .slice Ao9 t288.length co9] 25 (0, 0)) zq14 hb)
      have n3_ := Zs.mk (bSp zq9 hb)
      clear HO_294001
      clear HO302
      clear BK293
      clear HB
      have HO_294001 := n0_
      have HO302 := n1_
      have BK293 := n2_
      have HB := n3_
      clear n0_ n1_ n2_ n3_
      (try clear hb)
      (try clear hb2)
      (try clear hk)
      (try clear hi)
      refine hK.out _ _ ⟨(kCe BK293.out 0).trans rfl, (kCe BK293.out 1).trans rfl⟩ (fun hHeld => ?_)
      clear hK K
      refine norm_ (a' := ?_) ?_ ?_
      rotate_left
      ·show Act.put _ (some 50) _ = _
       simp only [Act.put, List.setIfInBounds_toArray, List.set_cons_zero, List.set_cons_succ, i64_w, i32_w]
       rfl
      refine one_ (i := 7) (N := some 53) #[true, true, true, true, true, true, true, true, false, false] rfl rfl (one_of HT_.out zq6) zq31 (fun K hK => ?_)
      refine goes_ Try.func13 zq6 rfl #[.agg #[.int .i64 t287, .slice Ao9 t288.length co9], .int .i64 t292] (by rfl) rfl rfl zq1 ?_
      with_reducible refine (impl_SightTurn.calls kj4 t287 _ _ t288 t292 t304 _ ?side1 ?side2 A34.out).mono ?_
      (case side1 => repeat (first | exact (Kd.Q_reads' HO_294001.out).2.2 | (with_reducible refine Kd.C_alloc ?_ _) | (with_reducible refine Kd.C_drewN ?_ _) | (with_reducible refine Kd.C_drew ?_)))
      (case side2 => exact (Kd.Q_reads' HO_294001.out).2.1)
      rintro e w56 ⟨rfl, hb⟩
      refine ⟨_, rfl, ?_⟩
      have n0_ := Zs.mk (Kd.Q_below zq16 hb)
      have n1_ := Zs.mk (Kd.R_below zq22 hb)
      have n2_ := Zs.mk (kBe (g := gb293) (o := .cells #[.int .i64 t287, .slice Ao9 t288.length co9] 25 (0, 0)) zq14 hb)
      have n3_ := Zs.mk (bSp zq9 hb)
      clear HO_294001
      clear HO302
      clear BK293
      clear HB
      have HO_294001 := n0_
      have HO302 := n1_
      have BK293 := n2_
      have HB := n3_
      clear n0_ n1_ n2_ n3_
      (try clear hb)
      (try clear hb2)
      (try clear hk)
      (try clear hi)
      obtain ⟨Ao57, co57, eo57⟩ := Kd.R_slice HO302.out
      (first | subst eo57 | (injection eo57 with f1_ f2_ f3_; have f4_ := f1_.symm; have f5_ := f3_.symm; clear f1_ f2_ f3_; subst f4_; subst f5_))
      refine hK.out _ _ ⟨(kCe BK293.out 0).trans rfl, (kCe BK293.out 1).trans rfl⟩ (fun hHeld => ?_)
      clear hK K
      refine norm_ (a' := ?_) ?_ ?_
      rotate_left
      ·show Act.put _ (some 53) _ = _
       simp only [Act.put, List.setIfInBounds_toArray, List.set_cons_zero, List.set_cons_succ, i64_w, i32_w]
       rfl
      refine one_ (i := 8) (N := some 54) #[true, true, true, true, true, true, true, true, true, false] rfl rfl (one_of HT_.out zq6) zq31 (fun K hK => ?_)
      refine goes_ Try.func9 zq6 rfl #[.agg #[.int .i64 t299, .slice Ao57 t300.length co57], .int .i64 t303, .int .i64 t304] (by rfl) rfl rfl zq1 ?_
      with_reducible refine (impl_TrailTo.calls kj4 t299 _ _ t300 t303 t304 t305 _ ?side1 ?side2 A35.out).mono ?_
      (case side1 => repeat (first | exact (Kd.R_reads' HO302.out).2.2 | (with_reducible refine Kd.C_alloc ?_ _) | (with_reducible refine Kd.C_drewN ?_ _) | (with_reducible refine Kd.C_drew ?_)))
      (case side2 => exact (Kd.R_reads' HO302.out).2.1)
      rintro e w58 ⟨rfl, hb⟩
      refine ⟨_, rfl, ?_⟩
      have n0_ := Zs.mk (Kd.Q_below zq16 hb)
      have n1_ := Zs.mk (Kd.R_below zq22 hb)
      have n2_ := Zs.mk (kBe (g := gb293) (o := .cells #[.int .i64 t287, .slice Ao9 t288.length co9] 25 (0, 0)) zq14 hb)
      have n3_ := Zs.mk (bSp zq9 hb)
      clear HO_294001
      clear HO302
      clear BK293
      clear HB
      have HO_294001 := n0_
      have HO302 := n1_
      have BK293 := n2_
      have HB := n3_
      clear n0_ n1_ n2_ n3_
      (try clear hb)
      (try clear hb2)
      (try clear hk)
      (try clear hi)
      refine hK.out _ _ ⟨(kCe BK293.out 0).trans rfl, (kCe BK293.out 1).trans rfl⟩ (fun hHeld => ?_)
      clear hK K
      refine norm_ (a' := ?_) ?_ ?_
      rotate_left
      ·show Act.put _ (some 54) _ = _
       simp only [Act.put, List.setIfInBounds_toArray, List.set_cons_zero, List.set_cons_succ, i64_w, i32_w]
       rfl
      refine pure_ (i := 9) (N := some 7) (v := ?_) (a' := ?_) #[true, true, true, true, true, true, true, true, true, true] rfl rfl (any_of HT_.out zq6) (fun _ _ _ h => h) (Or.inl ⟨by rfl, ?_⟩) ?_ ?_
      rotate_left
      ·intro w'
       go_simp
       with_reducible rfl
      rotate_left
      ·simp only [Act.put, List.setIfInBounds_toArray, List.set_cons_zero, List.set_cons_succ, i64_w, i32_w]
       rfl
      refine done_ (done_of HT_.out zq6) ?_
      try go_wp2
      have n0_ := Zs.mk (Kd.Q_drew HO_294001.out)
      have n1_ := Zs.mk (Kd.R_drew HO302.out)
      have n2_ := Zs.mk (kDr BK293.out)
      have n3_ := Zs.mk (bD1 HB.out)
      clear HO_294001
      clear HO302
      clear BK293
      clear HB
      have HO_294001 := n0_
      have HO302 := n1_
      have BK293 := n2_
      have HB := n3_
      clear n0_ n1_ n2_ n3_
      refine start_ (n := 10) (S := fun w' => w'.cell? ⟨gb293, 0, none⟩ = some (.int .i64 t287) ∧ w'.cell? ⟨gb293, 1, none⟩ = some (.slice Ao9 t288.length co9)) (ds := []) #[false, false, false, false, false, false, false, false, false, false] zq6 rfl rfl ⟨(kCe BK293.out 0).trans rfl, (kCe BK293.out 1).trans rfl⟩ (fun hHeld => ?_); refine with_tabW laws_FnTrailTurn.tab8 laws_FnTrailTurn.bits8 (fun HT_ HW_ => ?_)
      generalize w58.drew = w59 at HO_294001 HO302 BK293 HB hHeld ⊢
      refine pure_ (i := 3) (N := some 58) (v := ?_) (a' := ?_) #[false, false, false, true, false, false, false, false, false, false] rfl rfl (any_of HT_.out zq6) (fun _ _ _ h => h) (Or.inl ⟨by rfl, ?_⟩) ?_ ?_
      rotate_left
      ·intro w'
       go_simp
       with_reducible rfl
      rotate_left
      ·simp only [Act.put, List.setIfInBounds_toArray, List.set_cons_zero, List.set_cons_succ, i64_w, i32_w]
       rfl
      refine pure_ (i := 6) (N := some 61) (v := ?_) (a' := ?_) #[false, false, false, true, false, false, true, false, false, false] rfl rfl (any_of HT_.out zq6) (fun _ _ _ h => h) (Or.inl ⟨by rfl, ?_⟩) ?_ ?_
      rotate_left
      ·intro w'
       go_simp
       with_reducible rfl
      rotate_left
      ·simp only [Act.put, List.setIfInBounds_toArray, List.set_cons_zero, List.set_cons_succ, i64_w, i32_w]
       rfl
      refine take_ (i := 0) (N := some 55) (v := ?_) (a' := ?_) #[true, false, false, true, false, false, true, false, false, false] rfl rfl (take_ofW HT_.out HW_.out zq6) (fun _ _ _ h => h) (Or.inl ⟨by rfl, ?_⟩) hHeld ?_ ?_
      rotate_left
      ·rintro w' ⟨s0, s1⟩
       go_simp
       with_reducible rfl
      rotate_left
      ·simp only [Act.put, List.setIfInBounds_toArray, List.set_cons_zero, List.set_cons_succ, i64_w, i32_w]
       rfl
      refine take_ (i := 2) (N := some 57) (v := ?_) (a' := ?_) #[true, false, true, true, false, false, true, false, false, false] rfl rfl (take_ofW HT_.out HW_.out zq6) (fun _ _ _ h => h) (Or.inl ⟨by rfl, ?_⟩) hHeld ?_ ?_
      rotate_left
      ·rintro w' ⟨s0, s1⟩
       go_simp
       with_reducible rfl
      rotate_left
      ·simp only [Act.put, List.setIfInBounds_toArray, List.set_cons_zero, List.set_cons_succ, i64_w, i32_w]
       rfl
      refine take_ (i := 5) (N := some 60) (v := ?_) (a' := ?_) #[true, false, true, true, false, true, true, false, false, false] rfl rfl (take_ofW HT_.out HW_.out zq6) (fun _ _ _ h => h) (Or.inl ⟨by rfl, ?_⟩) hHeld ?_ ?_
      rotate_left
      ·rintro w' ⟨s0, s1⟩
       go_simp
       with_reducible rfl
      rotate_left
      ·simp only [Act.put, List.setIfInBounds_toArray, List.set_cons_zero, List.set_cons_succ, i64_w, i32_w]
       rfl
      refine one_ (i := 1) (N := some 56) #[true, true, true, true, false, true, true, false, false, false] rfl rfl (one_of HT_.out zq6) zq31 (fun K hK => ?_)
      refine goes_ Try.func14 zq6 rfl #[.agg #[.int .i64 t287, .slice Ao9 t288.length co9]] (by rfl) rfl rfl zq1 ?_
      with_reducible refine (impl_GridFlip.calls kj4 t287 _ _ t288 t306 t307 _ ?side1 ?side2 A36.out).mono ?_
      (case side1 => repeat (first | exact (Kd.Q_reads' HO_294001.out).2.2 | (with_reducible refine Kd.C_alloc ?_ _) | (with_reducible refine Kd.C_drewN ?_ _) | (with_reducible refine Kd.C_drew ?_)))
      (case side2 => exact (Kd.Q_reads' HO_294001.out).2.1)
      rintro e w60 ⟨v308, rfl, ho0, hb⟩
      refine ⟨_, rfl, ?_⟩
      have n0_ := Zs.mk (Kd.Q_elder' zq16 (Kd.R_base ho0) hb)
      have n1_ := Zs.mk (Kd.R_elder' zq22 (Kd.R_base ho0) hb)
      have n2_ := Zs.mk (Kd.R_lower (Kd.R_new' (Kd.R_new' ho0 (Kd.Q_lt zq16)) (Kd.R_lt zq22)) (bSz zq9))
      have n3_ := Zs.mk (kBe (g := gb293) (o := .cells #[.int .i64 t287, .slice Ao9 t288.length co9] 25 (0, 0)) zq14 hb)
      have n4_ := Zs.mk (bSp zq9 hb)
      clear HO_294001
      clear HO302
      clear BK293
      clear HB
      have HO_294001 := n0_
      have HO302 := n1_
      have HO309 := n2_
      have BK293 := n3_
      have HB := n4_
      clear n0_ n1_ n2_ n3_ n4_
      (try clear hb)
      (try clear hb2)
      (try clear hk)
      (try clear hi)
      (try clear ho0)
      refine hK.out _ _ ⟨(kCe BK293.out 0).trans rfl, (kCe BK293.out 1).trans rfl⟩ (fun hHeld => ?_)
      clear hK K
      refine norm_ (a' := ?_) ?_ ?_
      rotate_left
      ·show Act.put _ (some 56) _ = _
       simp only [Act.put, List.setIfInBounds_toArray, List.set_cons_zero, List.set_cons_succ, i64_w, i32_w]
       rfl
      refine one_ (i := 4) (N := some 59) #[true, true, true, true, true, true, true, false, false, false] rfl rfl (one_of HT_.out zq6) zq31 (fun K hK => ?_)
      refine goes_ Try.func15 zq6 rfl #[.agg #[.int .i64 t287, .slice Ao9 t288.length co9], .int .i64 t291] (by rfl) rfl rfl zq1 ?_
      with_reducible refine (impl_SightFlip.calls kj4 t287 _ _ t288 t291 t310 _ ?side1 ?side2 A37.out).mono ?_
      (case side1 => repeat (first | exact (Kd.Q_reads' HO_294001.out).2.2 | (with_reducible refine Kd.C_alloc ?_ _) | (with_reducible refine Kd.C_drewN ?_ _) | (with_reducible refine Kd.C_drew ?_)))
      (case side2 => exact (Kd.Q_reads' HO_294001.out).2.1)
      rintro e w61 ⟨rfl, hb⟩
      refine ⟨_, rfl, ?_⟩
      have n0_ := Zs.mk (Kd.Q_below zq16 hb)
      have n1_ := Zs.mk (Kd.R_below zq22 hb)
      have n2_ := Zs.mk (Kd.R_below zq64 hb)
      have n3_ := Zs.mk (kBe (g := gb293) (o := .cells #[.int .i64 t287, .slice Ao9 t288.length co9] 25 (0, 0)) zq14 hb)
      have n4_ := Zs.mk (bSp zq9 hb)
      clear HO_294001
      clear HO302
      clear HO309
      clear BK293
      clear HB
      have HO_294001 := n0_
      have HO302 := n1_
      have HO309 := n2_
      have BK293 := n3_
      have HB := n4_
      clear n0_ n1_ n2_ n3_ n4_
      (try clear hb)
      (try clear hb2)
      (try clear hk)
      (try clear hi)
      refine hK.out _ _ ⟨(kCe BK293.out 0).trans rfl, (kCe BK293.out 1).trans rfl⟩ (fun hHeld => ?_)
      clear hK K
      refine norm_ (a' := ?_) ?_ ?_
      rotate_left
      ·show Act.put _ (some 59) _ = _
       simp only [Act.put, List.setIfInBounds_toArray, List.set_cons_zero, List.set_cons_succ, i64_w, i32_w]
       rfl
      refine one_ (i := 7) (N := some 62) #[true, true, true, true, true, true, true, true, false, false] rfl rfl (one_of HT_.out zq6) zq31 (fun K hK => ?_)
      refine goes_ Try.func15 zq6 rfl #[.agg #[.int .i64 t287, .slice Ao9 t288.length co9], .int .i64 t292] (by rfl) rfl rfl zq1 ?_
      with_reducible refine (impl_SightFlip.calls kj4 t287 _ _ t288 t292 t311 _ ?side1 ?side2 A38.out).mono ?_
      (case side1 => repeat (first | exact (Kd.Q_reads' HO_294001.out).2.2 | (with_reducible refine Kd.C_alloc ?_ _) | (with_reducible refine Kd.C_drewN ?_ _) | (with_reducible refine Kd.C_drew ?_)))
      (case side2 => exact (Kd.Q_reads' HO_294001.out).2.1)
      rintro e w62 ⟨rfl, hb⟩
      refine ⟨_, rfl, ?_⟩
      have n0_ := Zs.mk (Kd.Q_below zq16 hb)
      have n1_ := Zs.mk (Kd.R_below zq22 hb)
      have n2_ := Zs.mk (Kd.R_below zq64 hb)
      have n3_ := Zs.mk (kBe (g := gb293) (o := .cells #[.int .i64 t287, .slice Ao9 t288.length co9] 25 (0, 0)) zq14 hb)
      have n4_ := Zs.mk (bSp zq9 hb)
      clear HO_294001
      clear HO302
      clear HO309
      clear BK293
      clear HB
      have HO_294001 := n0_
      have HO302 := n1_
      have HO309 := n2_
      have BK293 := n3_
      have HB := n4_
      clear n0_ n1_ n2_ n3_ n4_
      (try clear hb)
      (try clear hb2)
      (try clear hk)
      (try clear hi)
      obtain ⟨Ao63, co63, eo63⟩ := Kd.R_slice HO309.out
      (first | subst eo63 | (injection eo63 with f1_ f2_ f3_; have f4_ := f1_.symm; have f5_ := f3_.symm; clear f1_ f2_ f3_; subst f4_; subst f5_))
      refine hK.out _ _ ⟨(kCe BK293.out 0).trans rfl, (kCe BK293.out 1).trans rfl⟩ (fun hHeld => ?_)
      clear hK K
      refine norm_ (a' := ?_) ?_ ?_
      rotate_left
      ·show Act.put _ (some 62) _ = _
       simp only [Act.put, List.setIfInBounds_toArray, List.set_cons_zero, List.set_cons_succ, i64_w, i32_w]
       rfl
      refine one_ (i := 8) (N := some 63) #[true, true, true, true, true, true, true, true, true, false] rfl rfl (one_of HT_.out zq6) zq31 (fun K hK => ?_)
      refine goes_ Try.func9 zq6 rfl #[.agg #[.int .i64 t306, .slice Ao63 t307.length co63], .int .i64 t310, .int .i64 t311] (by rfl) rfl rfl zq1 ?_
      with_reducible refine (impl_TrailTo.calls kj4 t306 _ _ t307 t310 t311 t312 _ ?side1 ?side2 A39.out).mono ?_
      (case side1 => repeat (first | exact (Kd.R_reads' HO309.out).2.2 | (with_reducible refine Kd.C_alloc ?_ _) | (with_reducible refine Kd.C_drewN ?_ _) | (with_reducible refine Kd.C_drew ?_)))
      (case side2 => exact (Kd.R_reads' HO309.out).2.1)
      rintro e w64 ⟨rfl, hb⟩
      refine ⟨_, rfl, ?_⟩
      have n0_ := Zs.mk (Kd.Q_below zq16 hb)
      have n1_ := Zs.mk (Kd.R_below zq22 hb)
      have n2_ := Zs.mk (Kd.R_below zq64 hb)
      have n3_ := Zs.mk (kBe (g := gb293) (o := .cells #[.int .i64 t287, .slice Ao9 t288.length co9] 25 (0, 0)) zq14 hb)
      have n4_ := Zs.mk (bSp zq9 hb)
      clear HO_294001
      clear HO302
      clear HO309
      clear BK293
      clear HB
      have HO_294001 := n0_
      have HO302 := n1_
      have HO309 := n2_
      have BK293 := n3_
      have HB := n4_
      clear n0_ n1_ n2_ n3_ n4_
      (try clear hb)
      (try clear hb2)
      (try clear hk)
      (try clear hi)
      refine hK.out _ _ ⟨(kCe BK293.out 0).trans rfl, (kCe BK293.out 1).trans rfl⟩ (fun hHeld => ?_)
      clear hK K
      refine norm_ (a' := ?_) ?_ ?_
      rotate_left
      ·show Act.put _ (some 63) _ = _
       simp only [Act.put, List.setIfInBounds_toArray, List.set_cons_zero, List.set_cons_succ, i64_w, i32_w]
       rfl
      refine pure_ (i := 9) (N := some 8) (v := ?_) (a' := ?_) #[true, true, true, true, true, true, true, true, true, true] rfl rfl (any_of HT_.out zq6) (fun _ _ _ h => h) (Or.inl ⟨by rfl, ?_⟩) ?_ ?_
      rotate_left
      ·intro w'
       go_simp
       with_reducible rfl
      rotate_left
      ·simp only [Act.put, List.setIfInBounds_toArray, List.set_cons_zero, List.set_cons_succ, i64_w, i32_w]
       rfl
      refine done_ (done_of HT_.out zq6) ?_
      try go_wp2
      go_ret
      exact ⟨by first | rfl | (simp [errW_none, errW_some] <;> rfl) | (simp [*, errW_none, errW_some] <;> rfl), by repeat (first | (with_reducible first | exact HB.out | apply bAl | apply bDN | apply bD1 | refine bSt ?_ GE293.out) | exact HB.out)⟩

/-- THE ONE PURE STATEMENT of laws_FnTrailTurn: yours. -/
def laws_FnTrailTurn.Pure : Prop := ∀ (l0 : List Int), l0.length ≤ maxLen → l0.length * 1 ≤ 140737488351232 → (∀ x ∈ l0, (Lit.int .u8 x).wf = true) → ∃ k, laws_FnTrailTurn.f k l0 = some true
theorem laws_FnTrailTurn.walk (P : laws_FnTrailTurn.Pure) (a0 : Option Addr) (len0 cap0 : Nat) (z0 : List Int) (w : World) (w0 : (a0 = none ∧ len0 = 0 ∧ cap0 = 0 ∧ z0 = []) ∨ ∃ x, a0 = some x ∧ len0 ≤ cap0 ∧ cap0 ≤ maxLen ∧ z0.length = cap0 ∧ (∀ i, i < z0.length → w.cell? (x.add i) = some (.int .u8 (z0.getD i 0))) ∧ ∀ n ∈ z0, (Lit.int .u8 n).wf = true) (y0 : len0 * 1 ≤ 140737488351232) :
  Calls Try.prog 3 #[.slice a0 len0 cap0] w fun e w' => e = .returned (.bool true) ∧ Below w.heap.size w w' := by
 obtain ⟨l0, rfl, hr0, hm0, hw0, hc0⟩ := ReadsInt.ofRowC w0
 obtain ⟨k, h⟩ := P l0 hm0 y0 hw0
 refine (laws_FnTrailTurn.calls k _ _ l0 true w (Kd.C_of_reads (d := (0 : Int)) (h1 := fun _ => rfl) hr0) hc0 h).mono ?_
 rintro e w' ⟨rfl, hd⟩
 exact ⟨rfl, hd⟩

end Go.Proofs.Ytejgohgmmndgbaa.PFnTrailTurn
--slim
