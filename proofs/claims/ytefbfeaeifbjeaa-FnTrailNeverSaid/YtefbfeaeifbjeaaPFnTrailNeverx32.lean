--slim
-- Written by a program of this session: the kit's print, with functions among it that were proved by hand.
import Derived.Test.YtefbfeaeifbjeaaPFnTrailNeverx0
import Derived.Test.YtefbfeaeifbjeaaPFnTrailNeverx3
import Derived.Test.YtefbfeaeifbjeaaPFnTrailNeverx14
import Derived.Test.YtefbfeaeifbjeaaPFnTrailNeverx20
import Derived.Test.YtefbfeaeifbjeaaPFnTrailNeverx28
import Derived.Test.YtefbfeaeifbjeaaPFnTrailNeverx29
import Derived.Test.YtefbfeaeifbjeaaPFnTrailNeverx31
namespace Go.Proofs.Ytefbfeaeifbjeaa.PFnTrailNever
open Go.RowKit Go.Proofs.YtefbfeaeifbjeaaW.PrintWords Go.Proofs.YtefbfeaeifbjeaaW.PrintLast Go.Proofs.YtefbfeaeifbjeaaW.PrintMore
attribute [local go_sem] max2_int min2_int max_two min_two max_three min_three max_four min_four   -- for this text's walks alone
set_option linter.unusedVariables false
set_option linter.unusedSimpArgs false

/-! ### laws_FnTrailNever: function 8 -/
def laws_FnTrailNever.j0 : Nat → Int → Int → Bool → Int → List (S57) → Option (Bool)
 | 0, _, _, _, _, _ => none
 | k + 1, x4, x5, x32, x293000, x293001 => if x32 = true then ((spec_TrailLight.f k x293000 x293001 x4).bind fun t297 => (some (x5 == t297))) else ((impl_TrailTo.f k x293000 x293001 x4 x4).bind fun t298 => (some (t298 == 0)))
def laws_FnTrailNever.f (k : Nat) (l0 : List Int) : Option (Bool) := if (l0.length : Int) > 1048576 then (some true) else ((spec_DrawTrailLight.f k l0).bind fun bt287 => ((impl_TrailLight.f k bt287.1 bt287.2.1 bt287.2.2).bind fun t293 => ((spec_TrailLight.f k bt287.1 bt287.2.1 bt287.2.2).bind fun t294 => (if t293 = t294 then ((laws_llSight.f k bt287.1 bt287.2.1 bt287.2.2).bind fun t295 => (if t295 = true then ((laws_llClear.f k bt287.1 bt287.2.1).bind fun t296 => (laws_FnTrailNever.j0 k bt287.2.2 t293 (!t296) bt287.1 bt287.2.1)) else (laws_FnTrailNever.j0 k bt287.2.2 t293 true bt287.1 bt287.2.1))) else (laws_FnTrailNever.j0 k bt287.2.2 t293 true bt287.1 bt287.2.1)))))
theorem laws_FnTrailNever.mono_l : ∀ k, (∀ y0 y1 y2 y3 y4, LeO (laws_FnTrailNever.j0 k y0 y1 y2 y3 y4) (laws_FnTrailNever.j0 (k + 1) y0 y1 y2 y3 y4))
 | 0 => fun _ _ _ _ _ r h => by simp [laws_FnTrailNever.j0] at h
 | k + 1 => by
  have ih0 := laws_FnTrailNever.mono_l k
  ·intro y0 y1 y2 y3 y4
   unfold laws_FnTrailNever.j0
   repeat' first
   | (with_reducible exact ih0 _ _ _ _ _)
   | (with_reducible exact impl_TrailLight.mono _ _ _ _)
   | (with_reducible exact impl_TrailTo.mono _ _ _ _ _)
   | (with_reducible exact laws_llClear.mono _ _ _)
   | (with_reducible exact laws_llSight.mono _ _ _ _)
   | (with_reducible exact spec_DrawTrailLight.mono _ _)
   | (with_reducible exact spec_TrailLight.mono _ _ _ _)
   | (with_reducible exact LeO.refl _)
   | (with_reducible exact LeO.none _)
   | (with_reducible refine LeO.ite ?_ ?_)
   | (with_reducible refine LeO.bind ?_ (fun _ => ?_))
   | exact ih0 _ _ _ _ _
   | exact impl_TrailLight.mono _ _ _ _
   | exact impl_TrailTo.mono _ _ _ _ _
   | exact laws_llClear.mono _ _ _
   | exact laws_llSight.mono _ _ _ _
   | exact spec_DrawTrailLight.mono _ _
   | exact spec_TrailLight.mono _ _ _ _
   | exact LeO.none _
   | refine LeO.ite ?_ ?_
   | refine LeO.bind ?_ (fun _ => ?_)
theorem laws_FnTrailNever.mono : ∀ a0 k, LeO (laws_FnTrailNever.f k a0) (laws_FnTrailNever.f (k + 1) a0) := by
 intro a0 k
 have ih0 := laws_FnTrailNever.mono_l k
 unfold laws_FnTrailNever.f
 repeat' first
   | (with_reducible exact ih0 _ _ _ _ _)
   | (with_reducible exact impl_TrailLight.mono _ _ _ _)
   | (with_reducible exact impl_TrailTo.mono _ _ _ _ _)
   | (with_reducible exact laws_llClear.mono _ _ _)
   | (with_reducible exact laws_llSight.mono _ _ _ _)
   | (with_reducible exact spec_DrawTrailLight.mono _ _)
   | (with_reducible exact spec_TrailLight.mono _ _ _ _)
   | (with_reducible exact LeO.refl _)
   | (with_reducible exact LeO.none _)
   | (with_reducible refine LeO.ite ?_ ?_)
   | (with_reducible refine LeO.bind ?_ (fun _ => ?_))
   | exact ih0 _ _ _ _ _
   | exact impl_TrailLight.mono _ _ _ _
   | exact impl_TrailTo.mono _ _ _ _ _
   | exact laws_llClear.mono _ _ _
   | exact laws_llSight.mono _ _ _ _
   | exact spec_DrawTrailLight.mono _ _
   | exact spec_TrailLight.mono _ _ _ _
   | exact LeO.none _
   | refine LeO.ite ?_ ?_
   | refine LeO.bind ?_ (fun _ => ?_)
set_option maxHeartbeats 8000000 in
set_option maxRecDepth 100000 in
theorem laws_FnTrailNever.calls (k : Nat) (A0 : Option Addr) (c0 : Nat) (l0 : List Int) (r : Bool) (w : World) (hr0 : Kd.C (Kd.int .u8) w A0 l0.length l0) (hc0 : l0.length ≤ c0) (h : laws_FnTrailNever.f k l0 = some r) :
  Calls Try.prog 8 #[.slice A0 l0.length c0] w fun e w' => e = .returned (.bool r) ∧ Below w.heap.size w w' := by
 have hu25 := Try.underlying25
 have HR0 := Zs.mk hr0
 have HC0 := Zs.mk hc0
 clear hr0 hc0
 have HB := Zs.mk (Below.refl w.heap.size w)
 have H : (if (l0.length : Int) > 1048576 then (some true) else ((spec_DrawTrailLight.f k l0).bind fun bt287 => ((impl_TrailLight.f k bt287.1 bt287.2.1 bt287.2.2).bind fun t293 => ((spec_TrailLight.f k bt287.1 bt287.2.1 bt287.2.2).bind fun t294 => (if t293 = t294 then ((laws_llSight.f k bt287.1 bt287.2.1 bt287.2.2).bind fun t295 => (if t295 = true then ((laws_llClear.f k bt287.1 bt287.2.1).bind fun t296 => (laws_FnTrailNever.j0 k bt287.2.2 t293 (!t296) bt287.1 bt287.2.1)) else (laws_FnTrailNever.j0 k bt287.2.2 t293 true bt287.1 bt287.2.1))) else (laws_FnTrailNever.j0 k bt287.2.2 t293 true bt287.1 bt287.2.1)))))) = some r := h
 clear h
 by_cases c2 : (l0.length : Int) > 1048576
 ·rw [if_pos c2] at H
  have c2b0 : decide (1048576 < (l0.length : Int)) = true := decide_eq_true c2
  have c2b1 : decide (1048576 < l0.length) = true := decide_eq_true (by omega)
  clear c2
  obtain rfl := Option.some.inj H
  go_enter Try.func8, Try.ntmps8
  go_wp2
  go_ret
  exact ⟨by first | rfl | (simp [errW_none, errW_some] <;> rfl) | (simp [*, errW_none, errW_some] <;> rfl), by repeat (first | (with_reducible first | exact HB.out | apply bAl | apply bDN | apply bD1) | exact HB.out)⟩
 ·rw [if_neg c2] at H
  have c2b0 : decide (1048576 < (l0.length : Int)) = false := decide_eq_false c2
  have c2b1 : decide (1048576 < l0.length) = false := decide_eq_false (by omega)
  clear c2
  replace H := Option.bind_eq_some_iff.mp H
  obtain ⟨⟨t287, t288, t291⟩, A30, H⟩ := H
  replace H : ((impl_TrailLight.f k t287 t288 t291).bind fun t293 => ((spec_TrailLight.f k t287 t288 t291).bind fun t294 => (if t293 = t294 then ((laws_llSight.f k t287 t288 t291).bind fun t295 => (if t295 = true then ((laws_llClear.f k t287 t288).bind fun t296 => (laws_FnTrailNever.j0 k t291 t293 (!t296) t287 t288)) else (laws_FnTrailNever.j0 k t291 t293 true t287 t288))) else (laws_FnTrailNever.j0 k t291 t293 true t287 t288)))) = some r := H
  have A3 := Zs.mk A30
  clear A30
  replace H := Option.bind_eq_some_iff.mp H
  obtain ⟨t293, A40, H⟩ := H
  replace H : ((spec_TrailLight.f k t287 t288 t291).bind fun t294 => (if t293 = t294 then ((laws_llSight.f k t287 t288 t291).bind fun t295 => (if t295 = true then ((laws_llClear.f k t287 t288).bind fun t296 => (laws_FnTrailNever.j0 k t291 t293 (!t296) t287 t288)) else (laws_FnTrailNever.j0 k t291 t293 true t287 t288))) else (laws_FnTrailNever.j0 k t291 t293 true t287 t288))) = some r := H
  have A4 := Zs.mk A40
  clear A40
  have HC5 := Zs.mk H
  clear H
  go_enter Try.func8, Try.ntmps8
  go_upto_region 5 with (first | ((with_reducible refine gate_callee (f := 31) rfl ?_); refine goesL_ (some 11) rfl rfl Try.func31 (by kernel_rfl) rfl #[.slice A0 l0.length c0] rfl (by (try simp only [List.map_toArray, List.map_cons, List.map_nil]); first | done | rfl | (simp only [List.length_drop, List.length_take]; rfl)) ?_; (with_reducible refine (spec_DrawTrailLight.calls k _ _ l0 t287 t288 t291 _ ?side1 ?side2 A3.out).mono ?_); (case side1 => repeat (first | exact HR0.out | (with_reducible refine Kd.C_alloc ?_ _) | (with_reducible refine Kd.C_drewN ?_ _) | (with_reducible refine Kd.C_drew ?_))); (case side2 => exact HC0.out); rintro e w6 ⟨v289, rfl, ho0, hb⟩; refine ⟨_, rfl, ?_⟩; have n0_ := Zs.mk (Kd.Q_lower ho0 (bSz (by repeat (first | (with_reducible first | exact HB.out | apply bAl | apply bDN | apply bD1) | exact HB.out)))); have n1_ := Zs.mk (bSp (by repeat (first | (with_reducible first | exact HB.out | apply bAl | apply bDN | apply bD1) | exact HB.out)) hb); clear HB; have HO290 := n0_; have HB := n1_; clear n0_ n1_; (try clear hb); (try clear hb2); (try clear hk); (try clear hi); (try clear ho0)) | ((with_reducible refine gate_dst (N := 3) rfl ?_); refine box_event ?hg (N := 3) ?hd (cs := #[.int .i64 0, .slice none 0 0]) (t := 25) ?hr ?_; (case hd => rfl); (case hg => rfl); (case hr => first | (go_simp; done) | (go_simp; rfl)); intro gb292 hg w7 hbox hb; have n0_ := Zs.mk (Kd.Q_below (by (with_reducible repeat (first | apply Kd.Q_alloc | apply Kd.Q_drewN | apply Kd.Q_drew)); exact HO290.out) hb); have n1_ := Zs.mk (bSp (by repeat (first | (with_reducible first | exact HB.out | apply bAl | apply bDN | apply bD1) | exact HB.out)) hb); have n2_ := Zs.mk (hbox); have n3_ := Zs.mk ((by rw [hg]; exact (bSz (by repeat (first | (with_reducible first | exact HB.out | apply bAl | apply bDN | apply bD1) | exact HB.out))) : w.heap.size ≤ gb292)); have n4_ := Zs.mk ((by rw [hg]; exact (bSz (by repeat (first | (with_reducible first | exact HB.out | apply bAl | apply bDN | apply bD1) | exact HB.out))) : w.heap.size ≤ gb292)); clear HO290; clear HB; have HO290 := n0_; have HB := n1_; have BK292 := n2_; have GW292 := n3_; have GE292 := n4_; clear n0_ n1_ n2_ n3_ n4_; clear hb hbox hg; have hcz8_0 : w7.cell? ⟨gb292, 0, none⟩ = some (.int .i64 0) := (kCe BK292.out 0).trans rfl; have hcz8_1 : w7.cell? ⟨gb292, 1, none⟩ = some (.slice none 0 0) := (kCe BK292.out 1).trans rfl; have hfz8_0 := kFr BK292.out 0; have hfz8_1 := kFr BK292.out 1; obtain ⟨Ao9, co9, eo9, _⟩ := Kd.Q_slice HO290.out; subst eo9) | ((with_reducible refine gate_callee (f := 32) rfl ?_); refine goesL_ (some 16) rfl rfl Try.func32 (by kernel_rfl) rfl #[.agg #[.int .i64 t287, .slice Ao9 t288.length co9], .int .i64 t291] rfl (by (try simp only [List.map_toArray, List.map_cons, List.map_nil]); first | done | rfl | (simp only [List.length_drop, List.length_take]; rfl)) ?_; (with_reducible refine (impl_TrailLight.calls k t287 _ _ t288 t291 t293 _ ?side1 ?side2 A4.out).mono ?_); (case side1 => refine (Kd.Q_reads' (e := 57) (base := w.heap.size) (ok := fun k_ => True) (n := t288.length) (c := co9) ?_).2.2; exact (by (with_reducible repeat (first | apply Kd.Q_alloc | apply Kd.Q_drewN | apply Kd.Q_drew)); exact (Kd.Q_mono (Kd.Q_far (p := ⟨gb292, 1, none⟩) (Kd.Q_far (p := ⟨gb292, 0, none⟩) (Kd.Q_types HO290.out BK292.out (by decide)) (fun _ hk => hk.2) (.int .i64 t287)) (fun _ hk => hk.2) (.slice Ao9 t288.length co9)) (fun _ h_ => h_.1)))); (case side2 => exact (Kd.Q_reads' HO290.out).2.1); rintro e w10 ⟨rfl, hb⟩; refine ⟨_, rfl, ?_⟩; have n0_ := Zs.mk (Kd.Q_below (by (with_reducible repeat (first | apply Kd.Q_alloc | apply Kd.Q_drewN | apply Kd.Q_drew)); exact (Kd.Q_mono (Kd.Q_far (p := ⟨gb292, 1, none⟩) (Kd.Q_far (p := ⟨gb292, 0, none⟩) (Kd.Q_types HO290.out BK292.out (by decide)) (fun _ hk => hk.2) (.int .i64 t287)) (fun _ hk => hk.2) (.slice Ao9 t288.length co9)) (fun _ h_ => h_.1))) hb); have n1_ := Zs.mk (kBe (g := gb292) (o := .cells #[.int .i64 t287, .slice Ao9 t288.length co9] 25 (0, 0)) (by (with_reducible repeat (first | refine kDN ?_ _ | refine kDr ?_ | refine kAl ?_ _)); refine blk_put (cs := #[.int .i64 t287, .slice none 0 0]) ?_ 1 _ rfl; (with_reducible repeat (first | refine kDN ?_ _ | refine kDr ?_ | refine kAl ?_ _)); refine blk_put (cs := #[.int .i64 0, .slice none 0 0]) ?_ 0 _ rfl; (with_reducible repeat (first | refine kDN ?_ _ | refine kDr ?_ | refine kAl ?_ _)); exact BK292.out) hb); have n2_ := Zs.mk (bSp (by repeat (first | (with_reducible first | exact HB.out | apply bAl | apply bDN | apply bD1 | refine bSt ?_ GE292.out) | exact HB.out)) hb); clear HO290; clear BK292; clear HB; have HO290 := n0_; have BK292 := n1_; have HB := n2_; clear n0_ n1_ n2_; (try clear hb); (try clear hb2); (try clear hk); (try clear hi)))
  (try simp only [Act.put, List.setIfInBounds_toArray, List.set_cons_zero, List.set_cons_succ])
  go_cut [32] (fun v32 wc => ∃ (kq : Nat) (x32_4 : Bool), v32 = .bool x32_4 ∧ Zs (laws_FnTrailNever.j0 kq t291 t293 x32_4 t287 t288 = some r) ∧ Zs (kq ≤ k) ∧ Zs (Kd.Q k57 57 wc w.heap.size (fun _ => True) (.slice Ao9 t288.length co9) t288) ∧ Zs (wc.heap[gb292]? = some (.cells #[.int .i64 t287, (.slice Ao9 t288.length co9)] 25 (0, 0))) ∧ Zs (Below w.heap.size w wc))
  case first =>
   have H := HC5.out
   clear HC5
   replace H := Option.bind_eq_some_iff.mp H
   obtain ⟨t294, A110, H⟩ := H
   replace H : (if t293 = t294 then ((laws_llSight.f k t287 t288 t291).bind fun t295 => (if t295 = true then ((laws_llClear.f k t287 t288).bind fun t296 => (laws_FnTrailNever.j0 k t291 t293 (!t296) t287 t288)) else (laws_FnTrailNever.j0 k t291 t293 true t287 t288))) else (laws_FnTrailNever.j0 k t291 t293 true t287 t288)) = some r := H
   have A11 := Zs.mk A110
   clear A110
   by_cases c12 : t293 = t294
   ·rw [if_pos c12] at H
    have c12b0 : (t293 == t294) = true := beq_iff_eq.mpr c12
    have c12b1 : (t293 != t294) = false := bne_eq_false_iff_eq.mpr c12
    clear c12
    (first | rw [c12b0] | (simp only [i64_w, i32_w]; rw [c12b0]) | skip)
    replace H := Option.bind_eq_some_iff.mp H
    obtain ⟨t295, A130, H⟩ := H
    replace H : (if t295 = true then ((laws_llClear.f k t287 t288).bind fun t296 => (laws_FnTrailNever.j0 k t291 t293 (!t296) t287 t288)) else (laws_FnTrailNever.j0 k t291 t293 true t287 t288)) = some r := H
    have A13 := Zs.mk A130
    clear A130
    by_cases c14 : t295 = true
    ·subst c14
     have H1 : ((laws_llClear.f k t287 t288).bind fun t296 => (laws_FnTrailNever.j0 k t291 t293 (!t296) t287 t288)) = some r := by rw [if_pos rfl] at H; exact H
     clear H
     have H := H1
     clear H1
     replace H := Option.bind_eq_some_iff.mp H
     obtain ⟨t296, A150, H⟩ := H
     replace H : (laws_FnTrailNever.j0 k t291 t293 (!t296) t287 t288) = some r := H
     have A15 := Zs.mk A150
     clear A150
     have H' := Zs.mk H
     clear H
     have hcz16_0 : w10.cell? ⟨gb292, 0, none⟩ = some (.int .i64 t287) := (kCe BK292.out 0).trans rfl
     have hcz16_1 : w10.cell? ⟨gb292, 1, none⟩ = some (.slice Ao9 t288.length co9) := (kCe BK292.out 1).trans rfl
     have hfz16_0 := kFr BK292.out 0
     have hfz16_1 := kFr BK292.out 1
     go_wp2_with (first | ((with_reducible refine gate_callee (f := 33) rfl ?_); refine goesL_ (some 20) rfl rfl Try.func33 (by kernel_rfl) rfl #[.agg #[.int .i64 t287, .slice Ao9 t288.length co9], .int .i64 t291] rfl (by (try simp only [List.map_toArray, List.map_cons, List.map_nil]); first | done | rfl | (simp only [List.length_drop, List.length_take]; rfl)) ?_; (with_reducible refine (spec_TrailLight.calls k t287 _ _ t288 t291 t294 _ ?side1 ?side2 A11.out).mono ?_); (case side1 => repeat (first | exact (Kd.Q_reads' HO290.out).2.2 | (with_reducible refine Kd.C_alloc ?_ _) | (with_reducible refine Kd.C_drewN ?_ _) | (with_reducible refine Kd.C_drew ?_))); (case side2 => exact (Kd.Q_reads' HO290.out).2.1); rintro e w17 ⟨rfl, hb⟩; refine ⟨_, rfl, ?_⟩; have n0_ := Zs.mk (Kd.Q_below (by (with_reducible repeat (first | apply Kd.Q_alloc | apply Kd.Q_drewN | apply Kd.Q_drew)); exact HO290.out) hb); have n1_ := Zs.mk (kBe (g := gb292) (o := .cells #[.int .i64 t287, .slice Ao9 t288.length co9] 25 (0, 0)) (by (with_reducible repeat (first | refine kDN ?_ _ | refine kDr ?_ | refine kAl ?_ _)); exact BK292.out) hb); have n2_ := Zs.mk (bSp (by repeat (first | (with_reducible first | exact HB.out | apply bAl | apply bDN | apply bD1 | refine bSt ?_ GE292.out) | exact HB.out)) hb); clear HO290; clear BK292; clear HB; have HO290 := n0_; have BK292 := n1_; have HB := n2_; clear n0_ n1_ n2_; (try clear hb); (try clear hb2); (try clear hk); (try clear hi); have hcz18_0 : w17.cell? ⟨gb292, 0, none⟩ = some (.int .i64 t287) := (kCe BK292.out 0).trans rfl; have hcz18_1 : w17.cell? ⟨gb292, 1, none⟩ = some (.slice Ao9 t288.length co9) := (kCe BK292.out 1).trans rfl; have hfz18_0 := kFr BK292.out 0; have hfz18_1 := kFr BK292.out 1) | (go_at_call 27; (with_reducible refine (laws_llSight.calls k t287 _ _ t288 t291 true _ ?side1 ?side2 A13.out).mono ?_); (case side1 => repeat (first | exact (Kd.Q_reads' HO290.out).2.2 | (with_reducible refine Kd.C_alloc ?_ _) | (with_reducible refine Kd.C_drewN ?_ _) | (with_reducible refine Kd.C_drew ?_))); (case side2 => exact (Kd.Q_reads' HO290.out).2.1); rintro e w19 ⟨rfl, hb⟩; have n0_ := Zs.mk (Kd.Q_below (by (with_reducible repeat (first | apply Kd.Q_alloc | apply Kd.Q_drewN | apply Kd.Q_drew)); exact HO290.out) hb); have n1_ := Zs.mk (kBe (g := gb292) (o := .cells #[.int .i64 t287, .slice Ao9 t288.length co9] 25 (0, 0)) (by (with_reducible repeat (first | refine kDN ?_ _ | refine kDr ?_ | refine kAl ?_ _)); exact BK292.out) hb); have n2_ := Zs.mk (bSp (by repeat (first | (with_reducible first | exact HB.out | apply bAl | apply bDN | apply bD1 | refine bSt ?_ GE292.out) | exact HB.out)) hb); clear HO290; clear BK292; clear HB; have HO290 := n0_; have BK292 := n1_; have HB := n2_; clear n0_ n1_ n2_; (try clear hb); (try clear hb2); (try clear hk); (try clear hi); have hcz20_0 : w19.cell? ⟨gb292, 0, none⟩ = some (.int .i64 t287) := (kCe BK292.out 0).trans rfl; have hcz20_1 : w19.cell? ⟨gb292, 1, none⟩ = some (.slice Ao9 t288.length co9) := (kCe BK292.out 1).trans rfl; have hfz20_0 := kFr BK292.out 0; have hfz20_1 := kFr BK292.out 1) | (go_at_call 38; (with_reducible refine (laws_llClear.calls k t287 _ _ t288 t296 _ ?side1 ?side2 A15.out).mono ?_); (case side1 => repeat (first | exact (Kd.Q_reads' HO290.out).2.2 | (with_reducible refine Kd.C_alloc ?_ _) | (with_reducible refine Kd.C_drewN ?_ _) | (with_reducible refine Kd.C_drew ?_))); (case side2 => exact (Kd.Q_reads' HO290.out).2.1); rintro e w21 ⟨rfl, hb⟩; have n0_ := Zs.mk (Kd.Q_below (by (with_reducible repeat (first | apply Kd.Q_alloc | apply Kd.Q_drewN | apply Kd.Q_drew)); exact HO290.out) hb); have n1_ := Zs.mk (kBe (g := gb292) (o := .cells #[.int .i64 t287, .slice Ao9 t288.length co9] 25 (0, 0)) (by (with_reducible repeat (first | refine kDN ?_ _ | refine kDr ?_ | refine kAl ?_ _)); exact BK292.out) hb); have n2_ := Zs.mk (bSp (by repeat (first | (with_reducible first | exact HB.out | apply bAl | apply bDN | apply bD1 | refine bSt ?_ GE292.out) | exact HB.out)) hb); clear HO290; clear BK292; clear HB; have HO290 := n0_; have BK292 := n1_; have HB := n2_; clear n0_ n1_ n2_; (try clear hb); (try clear hb2); (try clear hk); (try clear hi)))
     go_meet
     case rel => exact ⟨_, (!t296), (by first | rfl | (simp; done) | (simp [*]; done)), H', ⟨by first | omega | exact Nat.le_refl _⟩, ⟨by (with_reducible repeat (first | apply Kd.Q_alloc | apply Kd.Q_drewN | apply Kd.Q_drew)); exact HO290.out⟩, ⟨by (with_reducible repeat (first | refine kDN ?_ _ | refine kDr ?_ | refine kAl ?_ _)); exact BK292.out⟩, ⟨by repeat (first | (with_reducible first | exact HB.out | apply bAl | apply bDN | apply bD1 | refine bSt ?_ GE292.out) | exact HB.out)⟩⟩
    ·replace c14 := Bool.eq_false_iff.mpr c14
     subst c14
     have H1 : (laws_FnTrailNever.j0 k t291 t293 true t287 t288) = some r := by rw [if_neg (show ¬ (false = true) by decide)] at H; exact H
     clear H
     have H := H1
     clear H1
     have H' := Zs.mk H
     clear H
     have hcz22_0 : w10.cell? ⟨gb292, 0, none⟩ = some (.int .i64 t287) := (kCe BK292.out 0).trans rfl
     have hcz22_1 : w10.cell? ⟨gb292, 1, none⟩ = some (.slice Ao9 t288.length co9) := (kCe BK292.out 1).trans rfl
     have hfz22_0 := kFr BK292.out 0
     have hfz22_1 := kFr BK292.out 1
     go_wp2_with (first | ((with_reducible refine gate_callee (f := 33) rfl ?_); refine goesL_ (some 20) rfl rfl Try.func33 (by kernel_rfl) rfl #[.agg #[.int .i64 t287, .slice Ao9 t288.length co9], .int .i64 t291] rfl (by (try simp only [List.map_toArray, List.map_cons, List.map_nil]); first | done | rfl | (simp only [List.length_drop, List.length_take]; rfl)) ?_; (with_reducible refine (spec_TrailLight.calls k t287 _ _ t288 t291 t294 _ ?side1 ?side2 A11.out).mono ?_); (case side1 => repeat (first | exact (Kd.Q_reads' HO290.out).2.2 | (with_reducible refine Kd.C_alloc ?_ _) | (with_reducible refine Kd.C_drewN ?_ _) | (with_reducible refine Kd.C_drew ?_))); (case side2 => exact (Kd.Q_reads' HO290.out).2.1); rintro e w23 ⟨rfl, hb⟩; refine ⟨_, rfl, ?_⟩; have n0_ := Zs.mk (Kd.Q_below (by (with_reducible repeat (first | apply Kd.Q_alloc | apply Kd.Q_drewN | apply Kd.Q_drew)); exact HO290.out) hb); have n1_ := Zs.mk (kBe (g := gb292) (o := .cells #[.int .i64 t287, .slice Ao9 t288.length co9] 25 (0, 0)) (by (with_reducible repeat (first | refine kDN ?_ _ | refine kDr ?_ | refine kAl ?_ _)); exact BK292.out) hb); have n2_ := Zs.mk (bSp (by repeat (first | (with_reducible first | exact HB.out | apply bAl | apply bDN | apply bD1 | refine bSt ?_ GE292.out) | exact HB.out)) hb); clear HO290; clear BK292; clear HB; have HO290 := n0_; have BK292 := n1_; have HB := n2_; clear n0_ n1_ n2_; (try clear hb); (try clear hb2); (try clear hk); (try clear hi); have hcz24_0 : w23.cell? ⟨gb292, 0, none⟩ = some (.int .i64 t287) := (kCe BK292.out 0).trans rfl; have hcz24_1 : w23.cell? ⟨gb292, 1, none⟩ = some (.slice Ao9 t288.length co9) := (kCe BK292.out 1).trans rfl; have hfz24_0 := kFr BK292.out 0; have hfz24_1 := kFr BK292.out 1) | (go_at_call 27; (with_reducible refine (laws_llSight.calls k t287 _ _ t288 t291 false _ ?side1 ?side2 A13.out).mono ?_); (case side1 => repeat (first | exact (Kd.Q_reads' HO290.out).2.2 | (with_reducible refine Kd.C_alloc ?_ _) | (with_reducible refine Kd.C_drewN ?_ _) | (with_reducible refine Kd.C_drew ?_))); (case side2 => exact (Kd.Q_reads' HO290.out).2.1); rintro e w25 ⟨rfl, hb⟩; have n0_ := Zs.mk (Kd.Q_below (by (with_reducible repeat (first | apply Kd.Q_alloc | apply Kd.Q_drewN | apply Kd.Q_drew)); exact HO290.out) hb); have n1_ := Zs.mk (kBe (g := gb292) (o := .cells #[.int .i64 t287, .slice Ao9 t288.length co9] 25 (0, 0)) (by (with_reducible repeat (first | refine kDN ?_ _ | refine kDr ?_ | refine kAl ?_ _)); exact BK292.out) hb); have n2_ := Zs.mk (bSp (by repeat (first | (with_reducible first | exact HB.out | apply bAl | apply bDN | apply bD1 | refine bSt ?_ GE292.out) | exact HB.out)) hb); clear HO290; clear BK292; clear HB; have HO290 := n0_; have BK292 := n1_; have HB := n2_; clear n0_ n1_ n2_; (try clear hb); (try clear hb2); (try clear hk); (try clear hi)))
     go_meet
     case rel => exact ⟨_, (true), (by first | rfl | (simp; done) | (simp [*]; done)), H', ⟨by first | omega | exact Nat.le_refl _⟩, ⟨by (with_reducible repeat (first | apply Kd.Q_alloc | apply Kd.Q_drewN | apply Kd.Q_drew)); exact HO290.out⟩, ⟨by (with_reducible repeat (first | refine kDN ?_ _ | refine kDr ?_ | refine kAl ?_ _)); exact BK292.out⟩, ⟨by repeat (first | (with_reducible first | exact HB.out | apply bAl | apply bDN | apply bD1 | refine bSt ?_ GE292.out) | exact HB.out)⟩⟩
   ·rw [if_neg c12] at H
    have c12b0 : (t293 == t294) = false := beq_eq_false_iff_ne.mpr c12
    have c12b1 : (t293 != t294) = true := bne_iff_ne.mpr c12
    (first | rw [c12b0] | (simp only [i64_w, i32_w]; rw [c12b0]) | skip)
    have H' := Zs.mk H
    clear H
    have hcz26_0 : w10.cell? ⟨gb292, 0, none⟩ = some (.int .i64 t287) := (kCe BK292.out 0).trans rfl
    have hcz26_1 : w10.cell? ⟨gb292, 1, none⟩ = some (.slice Ao9 t288.length co9) := (kCe BK292.out 1).trans rfl
    have hfz26_0 := kFr BK292.out 0
    have hfz26_1 := kFr BK292.out 1
    go_wp2_with (((with_reducible refine gate_callee (f := 33) rfl ?_); refine goesL_ (some 20) rfl rfl Try.func33 (by kernel_rfl) rfl #[.agg #[.int .i64 t287, .slice Ao9 t288.length co9], .int .i64 t291] rfl (by (try simp only [List.map_toArray, List.map_cons, List.map_nil]); first | done | rfl | (simp only [List.length_drop, List.length_take]; rfl)) ?_; (with_reducible refine (spec_TrailLight.calls k t287 _ _ t288 t291 t294 _ ?side1 ?side2 A11.out).mono ?_); (case side1 => repeat (first | exact (Kd.Q_reads' HO290.out).2.2 | (with_reducible refine Kd.C_alloc ?_ _) | (with_reducible refine Kd.C_drewN ?_ _) | (with_reducible refine Kd.C_drew ?_))); (case side2 => exact (Kd.Q_reads' HO290.out).2.1); rintro e w27 ⟨rfl, hb⟩; refine ⟨_, rfl, ?_⟩; have n0_ := Zs.mk (Kd.Q_below (by (with_reducible repeat (first | apply Kd.Q_alloc | apply Kd.Q_drewN | apply Kd.Q_drew)); exact HO290.out) hb); have n1_ := Zs.mk (kBe (g := gb292) (o := .cells #[.int .i64 t287, .slice Ao9 t288.length co9] 25 (0, 0)) (by (with_reducible repeat (first | refine kDN ?_ _ | refine kDr ?_ | refine kAl ?_ _)); exact BK292.out) hb); have n2_ := Zs.mk (bSp (by repeat (first | (with_reducible first | exact HB.out | apply bAl | apply bDN | apply bD1 | refine bSt ?_ GE292.out) | exact HB.out)) hb); clear HO290; clear BK292; clear HB; have HO290 := n0_; have BK292 := n1_; have HB := n2_; clear n0_ n1_ n2_; (try clear hb); (try clear hb2); (try clear hk); (try clear hi)))
    go_meet
    case rel => exact ⟨_, (true), (by first | rfl | (simp; done) | (simp [*]; done)), H', ⟨by first | omega | exact Nat.le_refl _⟩, ⟨by (with_reducible repeat (first | apply Kd.Q_alloc | apply Kd.Q_drewN | apply Kd.Q_drew)); exact HO290.out⟩, ⟨by (with_reducible repeat (first | refine kDN ?_ _ | refine kDr ?_ | refine kAl ?_ _)); exact BK292.out⟩, ⟨by repeat (first | (with_reducible first | exact HB.out | apply bAl | apply bDN | apply bD1 | refine bSt ?_ GE292.out) | exact HB.out)⟩⟩
  case rest =>
   clear HC5
   try clear c1
   try clear c2
   try clear c2b0
   try clear c2b1
   try clear p2
   try clear c3
   try clear c8
   try clear c12
   try clear c12b0
   try clear c12b1
   try clear c14
   try clear hcz16_0
   try clear hcz16_1
   try clear hcz18_0
   try clear hcz18_1
   try clear hcz20_0
   try clear hcz20_1
   try clear hcz22_0
   try clear hcz22_1
   try clear hcz24_0
   try clear hcz24_1
   try clear hcz26_0
   try clear hcz26_1
   try clear hcz8_0
   try clear hcz8_1
   try clear hfz16_0
   try clear hfz16_1
   try clear hfz18_0
   try clear hfz18_1
   try clear hfz20_0
   try clear hfz20_1
   try clear hfz22_0
   try clear hfz22_1
   try clear hfz24_0
   try clear hfz24_1
   try clear hfz26_0
   try clear hfz26_1
   try clear hfz8_0
   try clear hfz8_1
   obtain ⟨kq, x32_4, rfl, HA, HJ4, HO_293001, BK292, HB⟩ := hcut
   cases kq with
   | zero => exact absurd HA.out (by simp [laws_FnTrailNever.j0])
   | succ kj4 =>
    have H := HA.out
    clear HA
    simp only [laws_FnTrailNever.j0] at H
    by_cases c28 : x32_4 = true
    ·subst c28
     have H1 : ((spec_TrailLight.f kj4 t287 t288 t291).bind fun t297 => (some (t293 == t297))) = some r := by rw [if_pos rfl] at H; exact H
     clear H
     have H := H1
     clear H1
     replace H := Option.bind_eq_some_iff.mp H
     obtain ⟨t297, A290, H⟩ := H
     replace H : (some (t293 == t297)) = some r := H
     have A29 := Zs.mk A290
     clear A290
     obtain rfl := Option.some.inj H
     have hcz30_0 : wc.cell? ⟨gb292, 0, none⟩ = some (.int .i64 t287) := (kCe BK292.out 0).trans rfl
     have hcz30_1 : wc.cell? ⟨gb292, 1, none⟩ = some (.slice Ao9 t288.length co9) := (kCe BK292.out 1).trans rfl
     have hfz30_0 := kFr BK292.out 0
     have hfz30_1 := kFr BK292.out 1
     go_wp2_with (((with_reducible refine gate_callee (f := 33) rfl ?_); refine goesL_ (some 36) rfl rfl Try.func33 (by kernel_rfl) rfl #[.agg #[.int .i64 t287, .slice Ao9 t288.length co9], .int .i64 t291] rfl (by (try simp only [List.map_toArray, List.map_cons, List.map_nil]); first | done | rfl | (simp only [List.length_drop, List.length_take]; rfl)) ?_; (with_reducible refine (spec_TrailLight.calls kj4 t287 _ _ t288 t291 t297 _ ?side1 ?side2 A29.out).mono ?_); (case side1 => repeat (first | exact (Kd.Q_reads' HO_293001.out).2.2 | (with_reducible refine Kd.C_alloc ?_ _) | (with_reducible refine Kd.C_drewN ?_ _) | (with_reducible refine Kd.C_drew ?_))); (case side2 => exact (Kd.Q_reads' HO_293001.out).2.1); rintro e w31 ⟨rfl, hb⟩; refine ⟨_, rfl, ?_⟩; have n0_ := Zs.mk (Kd.Q_below (by (with_reducible repeat (first | apply Kd.Q_alloc | apply Kd.Q_drewN | apply Kd.Q_drew)); exact HO_293001.out) hb); have n1_ := Zs.mk (kBe (g := gb292) (o := .cells #[.int .i64 t287, .slice Ao9 t288.length co9] 25 (0, 0)) (by (with_reducible repeat (first | refine kDN ?_ _ | refine kDr ?_ | refine kAl ?_ _)); exact BK292.out) hb); have n2_ := Zs.mk (bSp (by repeat (first | (with_reducible first | exact HB.out | apply bAl | apply bDN | apply bD1 | refine bSt ?_ GE292.out) | exact HB.out)) hb); clear HO_293001; clear BK292; clear HB; have HO_293001 := n0_; have BK292 := n1_; have HB := n2_; clear n0_ n1_ n2_; (try clear hb); (try clear hb2); (try clear hk); (try clear hi)))
     go_ret
     exact ⟨by first | rfl | (simp [errW_none, errW_some] <;> rfl) | (simp [*, errW_none, errW_some] <;> rfl), by repeat (first | (with_reducible first | exact HB.out | apply bAl | apply bDN | apply bD1 | refine bSt ?_ GE292.out) | exact HB.out)⟩
    ·replace c28 := Bool.eq_false_iff.mpr c28
     subst c28
     have H1 : ((impl_TrailTo.f kj4 t287 t288 t291 t291).bind fun t298 => (some (t298 == 0))) = some r := by rw [if_neg (show ¬ (false = true) by decide)] at H; exact H
     clear H
     have H := H1
     clear H1
     replace H := Option.bind_eq_some_iff.mp H
     obtain ⟨t298, A320, H⟩ := H
     replace H : (some (t298 == 0)) = some r := H
     have A32 := Zs.mk A320
     clear A320
     obtain rfl := Option.some.inj H
     have hcz33_0 : wc.cell? ⟨gb292, 0, none⟩ = some (.int .i64 t287) := (kCe BK292.out 0).trans rfl
     have hcz33_1 : wc.cell? ⟨gb292, 1, none⟩ = some (.slice Ao9 t288.length co9) := (kCe BK292.out 1).trans rfl
     have hfz33_0 := kFr BK292.out 0
     have hfz33_1 := kFr BK292.out 1
     go_wp2_with (((with_reducible refine gate_callee (f := 30) rfl ?_); refine goesL_ (some 41) rfl rfl Try.func30 (by kernel_rfl) rfl #[.agg #[.int .i64 t287, .slice Ao9 t288.length co9], .int .i64 t291, .int .i64 t291] rfl (by (try simp only [List.map_toArray, List.map_cons, List.map_nil]); first | done | rfl | (simp only [List.length_drop, List.length_take]; rfl)) ?_; (with_reducible refine (impl_TrailTo.calls kj4 t287 _ _ t288 t291 t291 t298 _ ?side1 ?side2 A32.out).mono ?_); (case side1 => repeat (first | exact (Kd.Q_reads' HO_293001.out).2.2 | (with_reducible refine Kd.C_alloc ?_ _) | (with_reducible refine Kd.C_drewN ?_ _) | (with_reducible refine Kd.C_drew ?_))); (case side2 => exact (Kd.Q_reads' HO_293001.out).2.1); rintro e w34 ⟨rfl, hb⟩; refine ⟨_, rfl, ?_⟩; have n0_ := Zs.mk (Kd.Q_below (by (with_reducible repeat (first | apply Kd.Q_alloc | apply Kd.Q_drewN | apply Kd.Q_drew)); exact HO_293001.out) hb); have n1_ := Zs.mk (kBe (g := gb292) (o := .cells #[.int .i64 t287, .slice Ao9 t288.length co9] 25 (0, 0)) (by (with_reducible repeat (first | refine kDN ?_ _ | refine kDr ?_ | refine kAl ?_ _)); exact BK292.out) hb); have n2_ := Zs.mk (bSp (by repeat (first | (with_reducible first | exact HB.out | apply bAl | apply bDN | apply bD1 | refine bSt ?_ GE292.out) | exact HB.out)) hb); clear HO_293001; clear BK292; clear HB; have HO_293001 := n0_; have BK292 := n1_; have HB := n2_; clear n0_ n1_ n2_; (try clear hb); (try clear hb2); (try clear hk); (try clear hi)))
     go_ret
     exact ⟨by first | rfl | (simp [errW_none, errW_some] <;> rfl) | (simp [*, errW_none, errW_some] <;> rfl), by repeat (first | (with_reducible first | exact HB.out | apply bAl | apply bDN | apply bD1 | refine bSt ?_ GE292.out) | exact HB.out)⟩

/-- THE ONE PURE STATEMENT of laws_FnTrailNever: yours. -/
def laws_FnTrailNever.Pure : Prop := ∀ (l0 : List Int), l0.length ≤ maxLen → l0.length * 1 ≤ 140737488351232 → (∀ with_reducible_ ∈ l0, (Lit.int .u8 with_reducible_).wf = true) → ∃ k, laws_FnTrailNever.f k l0 = some true
theorem laws_FnTrailNever.walk (P : laws_FnTrailNever.Pure) (a0 : Option Addr) (len0 cap0 : Nat) (z0 : List Int) (w : World) (w0 : (a0 = none ∧ len0 = 0 ∧ cap0 = 0 ∧ z0 = []) ∨ ∃ with_reducible_, a0 = some with_reducible_ ∧ len0 ≤ cap0 ∧ cap0 ≤ maxLen ∧ z0.length = cap0 ∧ (∀ i, i < z0.length → w.cell? (with_reducible_.add i) = some (.int .u8 (z0.getD i 0))) ∧ ∀ n ∈ z0, (Lit.int .u8 n).wf = true) (y0 : len0 * 1 ≤ 140737488351232) :
  Calls Try.prog 8 #[.slice a0 len0 cap0] w fun e w' => e = .returned (.bool true) ∧ Below w.heap.size w w' := by
 obtain ⟨l0, rfl, hr0, hm0, hw0, hc0⟩ := ReadsInt.ofRowC w0
 obtain ⟨k, h⟩ := P l0 hm0 y0 hw0
 refine (laws_FnTrailNever.calls k _ _ l0 true w (Kd.C_of_reads (d := (0 : Int)) (h1 := fun _ => rfl) hr0) hc0 h).mono ?_
 rintro e w' ⟨rfl, hd⟩
 exact ⟨rfl, hd⟩

end Go.Proofs.Ytefbfeaeifbjeaa.PFnTrailNever
