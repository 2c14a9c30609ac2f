-- Written by a program of this session: the kit's print, with functions among it that were proved by hand.
import Derived.Test.YtefbfeaeifbjeaaPFnLightMorex0
import Derived.Test.YtefbfeaeifbjeaaPFnLightMorex11
import Derived.Test.YtefbfeaeifbjeaaPFnLightMorex14
import Derived.Test.YtefbfeaeifbjeaaPFnLightMorex15
import Derived.Test.YtefbfeaeifbjeaaPFnLightMorex20
import Derived.Test.YtefbfeaeifbjeaaPFnLightMorex28
import Derived.Test.YtefbfeaeifbjeaaPFnLightMorex29
namespace Go.Proofs.Ytefbfeaeifbjeaa.PFnLightMore
open Go.RowKit Go.Proofs.YtefbfeaeifbjeaaW.PrintWords Go.Proofs.YtefbfeaeifbjeaaW.PrintLast Go.Proofs.YtefbfeaeifbjeaaW.PrintMore
attribute [local go_sem] max2_int min2_int max_two min_two max_three min_three max_four min_four   -- for this text's walks alone
set_option linter.unusedVariables false
set_option linter.unusedSimpArgs false

/-! ### laws_FnLightMore: function 6 -/
mutual
def laws_FnLightMore.j0 : Nat → Int → Int → Bool → Int → List (S57) → Option (Bool)
 | 0, _, _, _, _, _ => none
 | k + 1, x4, x5, x34, x288000, x288001 => if x34 = true then ((spec_TrailLight.f k x288000 x288001 x4).bind fun t291 => (some (x5 == t291))) else ((impl_TrailEnds.f k x288000 x288001 x4).bind fun t292 => (laws_FnLightMore.l0 k x4 x5 t292 0 x288000 x288001))
def laws_FnLightMore.l0 : Nat → Int → Int → List (S60) → Int → Int → List (S57) → Option (Bool)
 | 0, _, _, _, _, _, _ => none
 | k + 1, x4, x5, x6, x7, x288000, x288001 => if x7 < (x288001.length : Int) then (if 0 ≤ x7 then (if ((rd_T57 x288001 x7).f0) = 7 then (laws_FnLightMore.j2 k x4 x5 x6 x7 (decide (((rd_T57 x288001 x7).f1) < 9)) x288000 x288001 ((rd_T57 x288001 x7).f0) ((rd_T57 x288001 x7).f1)) else (laws_FnLightMore.j2 k x4 x5 x6 x7 false x288000 x288001 ((rd_T57 x288001 x7).f0) ((rd_T57 x288001 x7).f1))) else (none)) else (some true)
def laws_FnLightMore.j2 : Nat → Int → Int → List (S60) → Int → Bool → Int → List (S57) → Int → Int → Option (Bool)
 | 0, _, _, _, _, _, _, _, _, _ => none
 | k + 1, x4, x5, x6, x7, x62, x288000, x288001, x297000, x297001 => if x62 = true then ((impl_GridPut.f k x288000 x288001 x7 7 (wrap64 (x297001 + 1))).bind fun bt297 => (laws_FnLightMore.l1 k x4 x5 x6 x7 0 0 x288000 x288001 bt297.1 bt297.2.1)) else (laws_FnLightMore.l0 k x4 x5 x6 (wrap64 (x7 + 1)) x288000 x288001)
def laws_FnLightMore.l1 : Nat → Int → Int → List (S60) → Int → Int → Int → Int → List (S57) → Int → List (S57) → Option (Bool)
 | 0, _, _, _, _, _, _, _, _, _, _ => none
 | k + 1, x4, x5, x6, x7, x11, x12, x288000, x288001, x303000, x303001 => if x12 < (x6.length : Int) then (if 0 ≤ x12 then (if ((rd_T60 x6 x12).f0) = 2 then (if ((rd_T60 x6 x12).f1) = x7 then (laws_FnLightMore.l1 k x4 x5 x6 x7 (wrap64 (x11 + ((rd_T60 x6 x12).f2))) (wrap64 (x12 + 1)) x288000 x288001 x303000 x303001) else (laws_FnLightMore.l1 k x4 x5 x6 x7 x11 (wrap64 (x12 + 1)) x288000 x288001 x303000 x303001)) else (laws_FnLightMore.l1 k x4 x5 x6 x7 x11 (wrap64 (x12 + 1)) x288000 x288001 x303000 x303001)) else (none)) else ((impl_TrailLight.f k x303000 x303001 x4).bind fun t306 => (if t306 = (wrap64 (x5 + x11)) then (laws_FnLightMore.l0 k x4 x5 x6 (wrap64 (x7 + 1)) x288000 x288001) else (some false)))
end
def laws_FnLightMore.f (k : Nat) (l0 : List Int) : Option (Bool) := if (l0.length : Int) > 1048576 then (some true) else ((spec_DrawTrailLight.f k l0).bind fun bt282 => ((impl_TrailLight.f k bt282.1 bt282.2.1 bt282.2.2).bind fun t288 => ((spec_TrailLight.f k bt282.1 bt282.2.1 bt282.2.2).bind fun t289 => (if t288 = t289 then ((laws_llSight.f k bt282.1 bt282.2.1 bt282.2.2).bind fun t290 => (laws_FnLightMore.j0 k bt282.2.2 t288 (!t290) bt282.1 bt282.2.1)) else (laws_FnLightMore.j0 k bt282.2.2 t288 true bt282.1 bt282.2.1)))))
theorem laws_FnLightMore.mono_l : ∀ k, (∀ y0 y1 y2 y3 y4, LeO (laws_FnLightMore.j0 k y0 y1 y2 y3 y4) (laws_FnLightMore.j0 (k + 1) y0 y1 y2 y3 y4)) ∧ (∀ y0 y1 y2 y3 y4 y5, LeO (laws_FnLightMore.l0 k y0 y1 y2 y3 y4 y5) (laws_FnLightMore.l0 (k + 1) y0 y1 y2 y3 y4 y5)) ∧ (∀ y0 y1 y2 y3 y4 y5 y6 y7 y8, LeO (laws_FnLightMore.j2 k y0 y1 y2 y3 y4 y5 y6 y7 y8) (laws_FnLightMore.j2 (k + 1) y0 y1 y2 y3 y4 y5 y6 y7 y8)) ∧ (∀ y0 y1 y2 y3 y4 y5 y6 y7 y8 y9, LeO (laws_FnLightMore.l1 k y0 y1 y2 y3 y4 y5 y6 y7 y8 y9) (laws_FnLightMore.l1 (k + 1) y0 y1 y2 y3 y4 y5 y6 y7 y8 y9))
 | 0 => ⟨fun _ _ _ _ _ r h => by simp [laws_FnLightMore.j0] at h, fun _ _ _ _ _ _ r h => by simp [laws_FnLightMore.l0] at h, fun _ _ _ _ _ _ _ _ _ r h => by simp [laws_FnLightMore.j2] at h, fun _ _ _ _ _ _ _ _ _ _ r h => by simp [laws_FnLightMore.l1] at h⟩
 | k + 1 => by
  obtain ⟨ih0, ih1, ih2, ih3⟩ := laws_FnLightMore.mono_l k
  refine ⟨?_, ?_, ?_, ?_⟩
  ·intro y0 y1 y2 y3 y4
   unfold laws_FnLightMore.j0
   repeat' first
   | (with_reducible exact ih0 _ _ _ _ _)
   | (with_reducible exact ih1 _ _ _ _ _ _)
   | (with_reducible exact ih2 _ _ _ _ _ _ _ _ _)
   | (with_reducible exact ih3 _ _ _ _ _ _ _ _ _ _)
   | (with_reducible exact impl_GridPut.mono _ _ _ _ _ _)
   | (with_reducible exact impl_TrailEnds.mono _ _ _ _)
   | (with_reducible exact impl_TrailLight.mono _ _ _ _)
   | (with_reducible exact laws_llSight.mono _ _ _ _)
   | (with_reducible exact spec_DrawTrailLight.mono _ _)
   | (with_reducible exact spec_TrailLight.mono _ _ _ _)
   | (with_reducible exact LeO.refl _)
   | (with_reducible exact LeO.none _)
   | (with_reducible refine LeO.ite ?_ ?_)
   | (with_reducible refine LeO.bind ?_ (fun _ => ?_))
   | exact ih0 _ _ _ _ _
   | exact ih1 _ _ _ _ _ _
   | exact ih2 _ _ _ _ _ _ _ _ _
   | exact ih3 _ _ _ _ _ _ _ _ _ _
   | exact impl_GridPut.mono _ _ _ _ _ _
   | exact impl_TrailEnds.mono _ _ _ _
   | exact impl_TrailLight.mono _ _ _ _
   | exact laws_llSight.mono _ _ _ _
   | exact spec_DrawTrailLight.mono _ _
   | exact spec_TrailLight.mono _ _ _ _
   | exact LeO.none _
   | refine LeO.ite ?_ ?_
   | refine LeO.bind ?_ (fun _ => ?_)
  ·intro y0 y1 y2 y3 y4 y5
   unfold laws_FnLightMore.l0
   repeat' first
   | (with_reducible exact ih0 _ _ _ _ _)
   | (with_reducible exact ih1 _ _ _ _ _ _)
   | (with_reducible exact ih2 _ _ _ _ _ _ _ _ _)
   | (with_reducible exact ih3 _ _ _ _ _ _ _ _ _ _)
   | (with_reducible exact impl_GridPut.mono _ _ _ _ _ _)
   | (with_reducible exact impl_TrailEnds.mono _ _ _ _)
   | (with_reducible exact impl_TrailLight.mono _ _ _ _)
   | (with_reducible exact laws_llSight.mono _ _ _ _)
   | (with_reducible exact spec_DrawTrailLight.mono _ _)
   | (with_reducible exact spec_TrailLight.mono _ _ _ _)
   | (with_reducible exact LeO.refl _)
   | (with_reducible exact LeO.none _)
   | (with_reducible refine LeO.ite ?_ ?_)
   | (with_reducible refine LeO.bind ?_ (fun _ => ?_))
   | exact ih0 _ _ _ _ _
   | exact ih1 _ _ _ _ _ _
   | exact ih2 _ _ _ _ _ _ _ _ _
   | exact ih3 _ _ _ _ _ _ _ _ _ _
   | exact impl_GridPut.mono _ _ _ _ _ _
   | exact impl_TrailEnds.mono _ _ _ _
   | exact impl_TrailLight.mono _ _ _ _
   | exact laws_llSight.mono _ _ _ _
   | exact spec_DrawTrailLight.mono _ _
   | exact spec_TrailLight.mono _ _ _ _
   | exact LeO.none _
   | refine LeO.ite ?_ ?_
   | refine LeO.bind ?_ (fun _ => ?_)
  ·intro y0 y1 y2 y3 y4 y5 y6 y7 y8
   unfold laws_FnLightMore.j2
   repeat' first
   | (with_reducible exact ih0 _ _ _ _ _)
   | (with_reducible exact ih1 _ _ _ _ _ _)
   | (with_reducible exact ih2 _ _ _ _ _ _ _ _ _)
   | (with_reducible exact ih3 _ _ _ _ _ _ _ _ _ _)
   | (with_reducible exact impl_GridPut.mono _ _ _ _ _ _)
   | (with_reducible exact impl_TrailEnds.mono _ _ _ _)
   | (with_reducible exact impl_TrailLight.mono _ _ _ _)
   | (with_reducible exact laws_llSight.mono _ _ _ _)
   | (with_reducible exact spec_DrawTrailLight.mono _ _)
   | (with_reducible exact spec_TrailLight.mono _ _ _ _)
   | (with_reducible exact LeO.refl _)
   | (with_reducible exact LeO.none _)
   | (with_reducible refine LeO.ite ?_ ?_)
   | (with_reducible refine LeO.bind ?_ (fun _ => ?_))
   | exact ih0 _ _ _ _ _
   | exact ih1 _ _ _ _ _ _
   | exact ih2 _ _ _ _ _ _ _ _ _
   | exact ih3 _ _ _ _ _ _ _ _ _ _
   | exact impl_GridPut.mono _ _ _ _ _ _
   | exact impl_TrailEnds.mono _ _ _ _
   | exact impl_TrailLight.mono _ _ _ _
   | exact laws_llSight.mono _ _ _ _
   | exact spec_DrawTrailLight.mono _ _
   | exact spec_TrailLight.mono _ _ _ _
   | exact LeO.none _
   | refine LeO.ite ?_ ?_
   | refine LeO.bind ?_ (fun _ => ?_)
  ·intro y0 y1 y2 y3 y4 y5 y6 y7 y8 y9
   unfold laws_FnLightMore.l1
   repeat' first
   | (with_reducible exact ih0 _ _ _ _ _)
   | (with_reducible exact ih1 _ _ _ _ _ _)
   | (with_reducible exact ih2 _ _ _ _ _ _ _ _ _)
   | (with_reducible exact ih3 _ _ _ _ _ _ _ _ _ _)
   | (with_reducible exact impl_GridPut.mono _ _ _ _ _ _)
   | (with_reducible exact impl_TrailEnds.mono _ _ _ _)
   | (with_reducible exact impl_TrailLight.mono _ _ _ _)
   | (with_reducible exact laws_llSight.mono _ _ _ _)
   | (with_reducible exact spec_DrawTrailLight.mono _ _)
   | (with_reducible exact spec_TrailLight.mono _ _ _ _)
   | (with_reducible exact LeO.refl _)
   | (with_reducible exact LeO.none _)
   | (with_reducible refine LeO.ite ?_ ?_)
   | (with_reducible refine LeO.bind ?_ (fun _ => ?_))
   | exact ih0 _ _ _ _ _
   | exact ih1 _ _ _ _ _ _
   | exact ih2 _ _ _ _ _ _ _ _ _
   | exact ih3 _ _ _ _ _ _ _ _ _ _
   | exact impl_GridPut.mono _ _ _ _ _ _
   | exact impl_TrailEnds.mono _ _ _ _
   | exact impl_TrailLight.mono _ _ _ _
   | exact laws_llSight.mono _ _ _ _
   | exact spec_DrawTrailLight.mono _ _
   | exact spec_TrailLight.mono _ _ _ _
   | exact LeO.none _
   | refine LeO.ite ?_ ?_
   | refine LeO.bind ?_ (fun _ => ?_)
theorem laws_FnLightMore.mono : ∀ a0 k, LeO (laws_FnLightMore.f k a0) (laws_FnLightMore.f (k + 1) a0) := by
 intro a0 k
 obtain ⟨ih0, ih1, ih2, ih3⟩ := laws_FnLightMore.mono_l k
 unfold laws_FnLightMore.f
 repeat' first
   | (with_reducible exact ih0 _ _ _ _ _)
   | (with_reducible exact ih1 _ _ _ _ _ _)
   | (with_reducible exact ih2 _ _ _ _ _ _ _ _ _)
   | (with_reducible exact ih3 _ _ _ _ _ _ _ _ _ _)
   | (with_reducible exact impl_GridPut.mono _ _ _ _ _ _)
   | (with_reducible exact impl_TrailEnds.mono _ _ _ _)
   | (with_reducible exact impl_TrailLight.mono _ _ _ _)
   | (with_reducible exact laws_llSight.mono _ _ _ _)
   | (with_reducible exact spec_DrawTrailLight.mono _ _)
   | (with_reducible exact spec_TrailLight.mono _ _ _ _)
   | (with_reducible exact LeO.refl _)
   | (with_reducible exact LeO.none _)
   | (with_reducible refine LeO.ite ?_ ?_)
   | (with_reducible refine LeO.bind ?_ (fun _ => ?_))
   | exact ih0 _ _ _ _ _
   | exact ih1 _ _ _ _ _ _
   | exact ih2 _ _ _ _ _ _ _ _ _
   | exact ih3 _ _ _ _ _ _ _ _ _ _
   | exact impl_GridPut.mono _ _ _ _ _ _
   | exact impl_TrailEnds.mono _ _ _ _
   | exact impl_TrailLight.mono _ _ _ _
   | exact laws_llSight.mono _ _ _ _
   | exact spec_DrawTrailLight.mono _ _
   | exact spec_TrailLight.mono _ _ _ _
   | exact LeO.none _
   | refine LeO.ite ?_ ?_
   | refine LeO.bind ?_ (fun _ => ?_)
set_option maxHeartbeats 8000000 in
set_option maxRecDepth 100000 in
theorem laws_FnLightMore.calls (k : Nat) (A0 : Option Addr) (c0 : Nat) (l0 : List Int) (r : Bool) (w : World) (hr0 : Kd.C (Kd.int .u8) w A0 l0.length l0) (hc0 : l0.length ≤ c0) (h : laws_FnLightMore.f k l0 = some r) :
  Calls Try.prog 6 #[.slice A0 l0.length c0] w fun e w' => e = .returned (.bool r) ∧ Below w.heap.size w w' := by
 have hu25 := Try.underlying25
 have hu57 := Try.underlying57
 have HR0 := Zs.mk hr0
 have HC0 := Zs.mk hc0
 clear hr0 hc0
 have HB := Zs.mk (Below.refl w.heap.size w)
 have H : (if (l0.length : Int) > 1048576 then (some true) else ((spec_DrawTrailLight.f k l0).bind fun bt282 => ((impl_TrailLight.f k bt282.1 bt282.2.1 bt282.2.2).bind fun t288 => ((spec_TrailLight.f k bt282.1 bt282.2.1 bt282.2.2).bind fun t289 => (if t288 = t289 then ((laws_llSight.f k bt282.1 bt282.2.1 bt282.2.2).bind fun t290 => (laws_FnLightMore.j0 k bt282.2.2 t288 (!t290) bt282.1 bt282.2.1)) else (laws_FnLightMore.j0 k bt282.2.2 t288 true bt282.1 bt282.2.1)))))) = some r := h
 clear h
 by_cases c2 : (l0.length : Int) > 1048576
 ·rw [if_pos c2] at H
  have c2b0 : decide (1048576 < (l0.length : Int)) = true := decide_eq_true c2
  have c2b1 : decide (1048576 < l0.length) = true := decide_eq_true (by omega)
  clear c2
  obtain rfl := Option.some.inj H
  go_enter Try.func6, Try.ntmps6
  go_wp2
  go_ret
  exact ⟨by first | rfl | (simp [errW_none, errW_some] <;> rfl) | (simp [*, errW_none, errW_some] <;> rfl), by repeat (first | (with_reducible first | exact HB.out | apply bAl | apply bDN | apply bD1) | exact HB.out)⟩
 ·rw [if_neg c2] at H
  have c2b0 : decide (1048576 < (l0.length : Int)) = false := decide_eq_false c2
  have c2b1 : decide (1048576 < l0.length) = false := decide_eq_false (by omega)
  clear c2
  replace H := Option.bind_eq_some_iff.mp H
  obtain ⟨⟨t282, t283, t286⟩, A30, H⟩ := H
  replace H : ((impl_TrailLight.f k t282 t283 t286).bind fun t288 => ((spec_TrailLight.f k t282 t283 t286).bind fun t289 => (if t288 = t289 then ((laws_llSight.f k t282 t283 t286).bind fun t290 => (laws_FnLightMore.j0 k t286 t288 (!t290) t282 t283)) else (laws_FnLightMore.j0 k t286 t288 true t282 t283)))) = some r := H
  have A3 := Zs.mk A30
  clear A30
  replace H := Option.bind_eq_some_iff.mp H
  obtain ⟨t288, A40, H⟩ := H
  replace H : ((spec_TrailLight.f k t282 t283 t286).bind fun t289 => (if t288 = t289 then ((laws_llSight.f k t282 t283 t286).bind fun t290 => (laws_FnLightMore.j0 k t286 t288 (!t290) t282 t283)) else (laws_FnLightMore.j0 k t286 t288 true t282 t283))) = some r := H
  have A4 := Zs.mk A40
  clear A40
  have HC5 := Zs.mk H
  clear H
  go_enter Try.func6, Try.ntmps6
  go_upto_region 5 with (first | ((with_reducible refine gate_callee (f := 31) rfl ?_); refine goesL_ (some 18) rfl rfl Try.func31 (by kernel_rfl) rfl #[.slice A0 l0.length c0] rfl (by (try simp only [List.map_toArray, List.map_cons, List.map_nil]); first | done | rfl | (simp only [List.length_drop, List.length_take]; rfl)) ?_; (with_reducible refine (spec_DrawTrailLight.calls k _ _ l0 t282 t283 t286 _ ?side1 ?side2 A3.out).mono ?_); (case side1 => repeat (first | exact HR0.out | (with_reducible refine Kd.C_alloc ?_ _) | (with_reducible refine Kd.C_drewN ?_ _) | (with_reducible refine Kd.C_drew ?_))); (case side2 => exact HC0.out); rintro e w6 ⟨v284, rfl, ho0, hb⟩; refine ⟨_, rfl, ?_⟩; have n0_ := Zs.mk (Kd.Q_lower ho0 (bSz (by repeat (first | (with_reducible first | exact HB.out | apply bAl | apply bDN | apply bD1) | exact HB.out)))); have n1_ := Zs.mk (bSp (by repeat (first | (with_reducible first | exact HB.out | apply bAl | apply bDN | apply bD1) | exact HB.out)) hb); clear HB; have HO285 := n0_; have HB := n1_; clear n0_ n1_; (try clear hb); (try clear hb2); (try clear hk); (try clear hi); (try clear ho0)) | ((with_reducible refine gate_dst (N := 3) rfl ?_); refine box_event ?hg (N := 3) ?hd (cs := #[.int .i64 0, .slice none 0 0]) (t := 25) ?hr ?_; (case hd => rfl); (case hg => rfl); (case hr => first | (go_simp; done) | (go_simp; rfl)); intro gb287 hg w7 hbox hb; have n0_ := Zs.mk (Kd.Q_below (by (with_reducible repeat (first | apply Kd.Q_alloc | apply Kd.Q_drewN | apply Kd.Q_drew)); exact HO285.out) hb); have n1_ := Zs.mk (bSp (by repeat (first | (with_reducible first | exact HB.out | apply bAl | apply bDN | apply bD1) | exact HB.out)) hb); have n2_ := Zs.mk (hbox); have n3_ := Zs.mk ((by rw [hg]; exact (bSz (by repeat (first | (with_reducible first | exact HB.out | apply bAl | apply bDN | apply bD1) | exact HB.out))) : w.heap.size ≤ gb287)); have n4_ := Zs.mk ((by rw [hg]; exact (bSz (by repeat (first | (with_reducible first | exact HB.out | apply bAl | apply bDN | apply bD1) | exact HB.out))) : w.heap.size ≤ gb287)); clear HO285; clear HB; have HO285 := n0_; have HB := n1_; have BK287 := n2_; have GW287 := n3_; have GE287 := n4_; clear n0_ n1_ n2_ n3_ n4_; clear hb hbox hg; have hcz8_0 : w7.cell? ⟨gb287, 0, none⟩ = some (.int .i64 0) := (kCe BK287.out 0).trans rfl; have hcz8_1 : w7.cell? ⟨gb287, 1, none⟩ = some (.slice none 0 0) := (kCe BK287.out 1).trans rfl; have hfz8_0 := kFr BK287.out 0; have hfz8_1 := kFr BK287.out 1; obtain ⟨Ao9, co9, eo9, _⟩ := Kd.Q_slice HO285.out; subst eo9) | ((with_reducible refine gate_callee (f := 32) rfl ?_); refine goesL_ (some 23) rfl rfl Try.func32 (by kernel_rfl) rfl #[.agg #[.int .i64 t282, .slice Ao9 t283.length co9], .int .i64 t286] rfl (by (try simp only [List.map_toArray, List.map_cons, List.map_nil]); first | done | rfl | (simp only [List.length_drop, List.length_take]; rfl)) ?_; (with_reducible refine (impl_TrailLight.calls k t282 _ _ t283 t286 t288 _ ?side1 ?side2 A4.out).mono ?_); (case side1 => refine (Kd.Q_reads' (e := 57) (base := w.heap.size) (ok := fun k_ => True) (n := t283.length) (c := co9) ?_).2.2; exact (by (with_reducible repeat (first | apply Kd.Q_alloc | apply Kd.Q_drewN | apply Kd.Q_drew)); exact (Kd.Q_mono (Kd.Q_far (p := ⟨gb287, 1, none⟩) (Kd.Q_far (p := ⟨gb287, 0, none⟩) (Kd.Q_types HO285.out BK287.out (by decide)) (fun _ hk => hk.2) (.int .i64 t282)) (fun _ hk => hk.2) (.slice Ao9 t283.length co9)) (fun _ h_ => h_.1)))); (case side2 => exact (Kd.Q_reads' HO285.out).2.1); rintro e w10 ⟨rfl, hb⟩; refine ⟨_, rfl, ?_⟩; have n0_ := Zs.mk (Kd.Q_below (by (with_reducible repeat (first | apply Kd.Q_alloc | apply Kd.Q_drewN | apply Kd.Q_drew)); exact (Kd.Q_mono (Kd.Q_far (p := ⟨gb287, 1, none⟩) (Kd.Q_far (p := ⟨gb287, 0, none⟩) (Kd.Q_types HO285.out BK287.out (by decide)) (fun _ hk => hk.2) (.int .i64 t282)) (fun _ hk => hk.2) (.slice Ao9 t283.length co9)) (fun _ h_ => h_.1))) hb); have n1_ := Zs.mk (kBe (g := gb287) (o := .cells #[.int .i64 t282, .slice Ao9 t283.length co9] 25 (0, 0)) (by (with_reducible repeat (first | refine kDN ?_ _ | refine kDr ?_ | refine kAl ?_ _)); refine blk_put (cs := #[.int .i64 t282, .slice none 0 0]) ?_ 1 _ rfl; (with_reducible repeat (first | refine kDN ?_ _ | refine kDr ?_ | refine kAl ?_ _)); refine blk_put (cs := #[.int .i64 0, .slice none 0 0]) ?_ 0 _ rfl; (with_reducible repeat (first | refine kDN ?_ _ | refine kDr ?_ | refine kAl ?_ _)); exact BK287.out) hb); have n2_ := Zs.mk (bSp (by repeat (first | (with_reducible first | exact HB.out | apply bAl | apply bDN | apply bD1 | refine bSt ?_ GE287.out) | exact HB.out)) hb); clear HO285; clear BK287; clear HB; have HO285 := n0_; have BK287 := n1_; have HB := n2_; clear n0_ n1_ n2_; (try clear hb); (try clear hb2); (try clear hk); (try clear hi)))
  (try simp only [Act.put, List.setIfInBounds_toArray, List.set_cons_zero, List.set_cons_succ])
  go_cut [34] (fun v34 wc => ∃ (kq : Nat) (x34_4 : Bool), v34 = .bool x34_4 ∧ Zs (laws_FnLightMore.j0 kq t286 t288 x34_4 t282 t283 = some r) ∧ Zs (kq ≤ k) ∧ Zs (Kd.Q k57 57 wc w.heap.size (fun _ => True) (.slice Ao9 t283.length co9) t283) ∧ Zs (wc.heap[gb287]? = some (.cells #[.int .i64 t282, (.slice Ao9 t283.length co9)] 25 (0, 0))) ∧ Zs (Below w.heap.size w wc))
  case first =>
   have H := HC5.out
   clear HC5
   replace H := Option.bind_eq_some_iff.mp H
   obtain ⟨t289, A110, H⟩ := H
   replace H : (if t288 = t289 then ((laws_llSight.f k t282 t283 t286).bind fun t290 => (laws_FnLightMore.j0 k t286 t288 (!t290) t282 t283)) else (laws_FnLightMore.j0 k t286 t288 true t282 t283)) = some r := H
   have A11 := Zs.mk A110
   clear A110
   by_cases c12 : t288 = t289
   ·rw [if_pos c12] at H
    have c12b0 : (t288 == t289) = true := beq_iff_eq.mpr c12
    have c12b1 : (t288 != t289) = false := bne_eq_false_iff_eq.mpr c12
    clear c12
    (first | rw [c12b0] | (simp only [i64_w, i32_w]; rw [c12b0]) | skip)
    replace H := Option.bind_eq_some_iff.mp H
    obtain ⟨t290, A130, H⟩ := H
    replace H : (laws_FnLightMore.j0 k t286 t288 (!t290) t282 t283) = some r := H
    have A13 := Zs.mk A130
    clear A130
    have H' := Zs.mk H
    clear H
    have hcz14_0 : w10.cell? ⟨gb287, 0, none⟩ = some (.int .i64 t282) := (kCe BK287.out 0).trans rfl
    have hcz14_1 : w10.cell? ⟨gb287, 1, none⟩ = some (.slice Ao9 t283.length co9) := (kCe BK287.out 1).trans rfl
    have hfz14_0 := kFr BK287.out 0
    have hfz14_1 := kFr BK287.out 1
    go_wp2_with (first | ((with_reducible refine gate_callee (f := 33) rfl ?_); refine goesL_ (some 27) rfl rfl Try.func33 (by kernel_rfl) rfl #[.agg #[.int .i64 t282, .slice Ao9 t283.length co9], .int .i64 t286] rfl (by (try simp only [List.map_toArray, List.map_cons, List.map_nil]); first | done | rfl | (simp only [List.length_drop, List.length_take]; rfl)) ?_; (with_reducible refine (spec_TrailLight.calls k t282 _ _ t283 t286 t289 _ ?side1 ?side2 A11.out).mono ?_); (case side1 => repeat (first | exact (Kd.Q_reads' HO285.out).2.2 | (with_reducible refine Kd.C_alloc ?_ _) | (with_reducible refine Kd.C_drewN ?_ _) | (with_reducible refine Kd.C_drew ?_))); (case side2 => exact (Kd.Q_reads' HO285.out).2.1); rintro e w15 ⟨rfl, hb⟩; refine ⟨_, rfl, ?_⟩; have n0_ := Zs.mk (Kd.Q_below (by (with_reducible repeat (first | apply Kd.Q_alloc | apply Kd.Q_drewN | apply Kd.Q_drew)); exact HO285.out) hb); have n1_ := Zs.mk (kBe (g := gb287) (o := .cells #[.int .i64 t282, .slice Ao9 t283.length co9] 25 (0, 0)) (by (with_reducible repeat (first | refine kDN ?_ _ | refine kDr ?_ | refine kAl ?_ _)); exact BK287.out) hb); have n2_ := Zs.mk (bSp (by repeat (first | (with_reducible first | exact HB.out | apply bAl | apply bDN | apply bD1 | refine bSt ?_ GE287.out) | exact HB.out)) hb); clear HO285; clear BK287; clear HB; have HO285 := n0_; have BK287 := n1_; have HB := n2_; clear n0_ n1_ n2_; (try clear hb); (try clear hb2); (try clear hk); (try clear hi); have hcz16_0 : w15.cell? ⟨gb287, 0, none⟩ = some (.int .i64 t282) := (kCe BK287.out 0).trans rfl; have hcz16_1 : w15.cell? ⟨gb287, 1, none⟩ = some (.slice Ao9 t283.length co9) := (kCe BK287.out 1).trans rfl; have hfz16_0 := kFr BK287.out 0; have hfz16_1 := kFr BK287.out 1) | (go_at_call 27; (with_reducible refine (laws_llSight.calls k t282 _ _ t283 t286 t290 _ ?side1 ?side2 A13.out).mono ?_); (case side1 => repeat (first | exact (Kd.Q_reads' HO285.out).2.2 | (with_reducible refine Kd.C_alloc ?_ _) | (with_reducible refine Kd.C_drewN ?_ _) | (with_reducible refine Kd.C_drew ?_))); (case side2 => exact (Kd.Q_reads' HO285.out).2.1); rintro e w17 ⟨rfl, hb⟩; have n0_ := Zs.mk (Kd.Q_below (by (with_reducible repeat (first | apply Kd.Q_alloc | apply Kd.Q_drewN | apply Kd.Q_drew)); exact HO285.out) hb); have n1_ := Zs.mk (kBe (g := gb287) (o := .cells #[.int .i64 t282, .slice Ao9 t283.length co9] 25 (0, 0)) (by (with_reducible repeat (first | refine kDN ?_ _ | refine kDr ?_ | refine kAl ?_ _)); exact BK287.out) hb); have n2_ := Zs.mk (bSp (by repeat (first | (with_reducible first | exact HB.out | apply bAl | apply bDN | apply bD1 | refine bSt ?_ GE287.out) | exact HB.out)) hb); clear HO285; clear BK287; clear HB; have HO285 := n0_; have BK287 := n1_; have HB := n2_; clear n0_ n1_ n2_; (try clear hb); (try clear hb2); (try clear hk); (try clear hi)))
    go_meet
    case rel => exact ⟨_, (!t290), (by first | rfl | (simp; done) | (simp [*]; done)), H', ⟨by first | omega | exact Nat.le_refl _⟩, ⟨by (with_reducible repeat (first | apply Kd.Q_alloc | apply Kd.Q_drewN | apply Kd.Q_drew)); exact HO285.out⟩, ⟨by (with_reducible repeat (first | refine kDN ?_ _ | refine kDr ?_ | refine kAl ?_ _)); exact BK287.out⟩, ⟨by repeat (first | (with_reducible first | exact HB.out | apply bAl | apply bDN | apply bD1 | refine bSt ?_ GE287.out) | exact HB.out)⟩⟩
   ·rw [if_neg c12] at H
    have c12b0 : (t288 == t289) = false := beq_eq_false_iff_ne.mpr c12
    have c12b1 : (t288 != t289) = true := bne_iff_ne.mpr c12
    (first | rw [c12b0] | (simp only [i64_w, i32_w]; rw [c12b0]) | skip)
    have H' := Zs.mk H
    clear H
    have hcz18_0 : w10.cell? ⟨gb287, 0, none⟩ = some (.int .i64 t282) := (kCe BK287.out 0).trans rfl
    have hcz18_1 : w10.cell? ⟨gb287, 1, none⟩ = some (.slice Ao9 t283.length co9) := (kCe BK287.out 1).trans rfl
    have hfz18_0 := kFr BK287.out 0
    have hfz18_1 := kFr BK287.out 1
    go_wp2_with (first | ((with_reducible refine gate_callee (f := 33) rfl ?_); refine goesL_ (some 27) rfl rfl Try.func33 (by kernel_rfl) rfl #[.agg #[.int .i64 t282, .slice Ao9 t283.length co9], .int .i64 t286] rfl (by (try simp only [List.map_toArray, List.map_cons, List.map_nil]); first | done | rfl | (simp only [List.length_drop, List.length_take]; rfl)) ?_; (with_reducible refine (spec_TrailLight.calls k t282 _ _ t283 t286 t289 _ ?side1 ?side2 A11.out).mono ?_); (case side1 => repeat (first | exact (Kd.Q_reads' HO285.out).2.2 | (with_reducible refine Kd.C_alloc ?_ _) | (with_reducible refine Kd.C_drewN ?_ _) | (with_reducible refine Kd.C_drew ?_))); (case side2 => exact (Kd.Q_reads' HO285.out).2.1); rintro e w19 ⟨rfl, hb⟩; refine ⟨_, rfl, ?_⟩; have n0_ := Zs.mk (Kd.Q_below (by (with_reducible repeat (first | apply Kd.Q_alloc | apply Kd.Q_drewN | apply Kd.Q_drew)); exact HO285.out) hb); have n1_ := Zs.mk (kBe (g := gb287) (o := .cells #[.int .i64 t282, .slice Ao9 t283.length co9] 25 (0, 0)) (by (with_reducible repeat (first | refine kDN ?_ _ | refine kDr ?_ | refine kAl ?_ _)); exact BK287.out) hb); have n2_ := Zs.mk (bSp (by repeat (first | (with_reducible first | exact HB.out | apply bAl | apply bDN | apply bD1 | refine bSt ?_ GE287.out) | exact HB.out)) hb); clear HO285; clear BK287; clear HB; have HO285 := n0_; have BK287 := n1_; have HB := n2_; clear n0_ n1_ n2_; (try clear hb); (try clear hb2); (try clear hk); (try clear hi)))
    go_meet
    case rel => exact ⟨_, (true), (by first | rfl | (simp; done) | (simp [*]; done)), H', ⟨by first | omega | exact Nat.le_refl _⟩, ⟨by (with_reducible repeat (first | apply Kd.Q_alloc | apply Kd.Q_drewN | apply Kd.Q_drew)); exact HO285.out⟩, ⟨by (with_reducible repeat (first | refine kDN ?_ _ | refine kDr ?_ | refine kAl ?_ _)); exact BK287.out⟩, ⟨by repeat (first | (with_reducible first | exact HB.out | apply bAl | apply bDN | apply bD1 | refine bSt ?_ GE287.out) | exact HB.out)⟩⟩
  case rest =>
   clear HC5
   try clear c1
   try clear c2
   try clear c2b0
   try clear c2b1
   try clear p2
   try clear c3
   try clear c6
   try clear c12
   try clear c12b0
   try clear c12b1
   try clear hcz14_0
   try clear hcz14_1
   try clear hcz16_0
   try clear hcz16_1
   try clear hcz18_0
   try clear hcz18_1
   try clear hcz8_0
   try clear hcz8_1
   try clear hfz14_0
   try clear hfz14_1
   try clear hfz16_0
   try clear hfz16_1
   try clear hfz18_0
   try clear hfz18_1
   try clear hfz8_0
   try clear hfz8_1
   obtain ⟨kq, x34_4, rfl, HA, HJ4, HO_288001, BK287, HB⟩ := hcut
   cases kq with
   | zero => exact absurd HA.out (by simp [laws_FnLightMore.j0])
   | succ kj4 =>
    have H := HA.out
    clear HA
    simp only [laws_FnLightMore.j0] at H
    by_cases c20 : x34_4 = true
    ·subst c20
     have H1 : ((spec_TrailLight.f kj4 t282 t283 t286).bind fun t291 => (some (t288 == t291))) = some r := by rw [if_pos rfl] at H; exact H
     clear H
     have H := H1
     clear H1
     replace H := Option.bind_eq_some_iff.mp H
     obtain ⟨t291, A210, H⟩ := H
     replace H : (some (t288 == t291)) = some r := H
     have A21 := Zs.mk A210
     clear A210
     obtain rfl := Option.some.inj H
     have hcz22_0 : wc.cell? ⟨gb287, 0, none⟩ = some (.int .i64 t282) := (kCe BK287.out 0).trans rfl
     have hcz22_1 : wc.cell? ⟨gb287, 1, none⟩ = some (.slice Ao9 t283.length co9) := (kCe BK287.out 1).trans rfl
     have hfz22_0 := kFr BK287.out 0
     have hfz22_1 := kFr BK287.out 1
     go_wp2_with (first | ((with_reducible refine gate_callee (f := 33) rfl ?_); refine goesL_ (some 38) rfl rfl Try.func33 (by kernel_rfl) rfl #[.agg #[.int .i64 t282, .slice Ao9 t283.length co9], .int .i64 t286] rfl (by (try simp only [List.map_toArray, List.map_cons, List.map_nil]); first | done | rfl | (simp only [List.length_drop, List.length_take]; rfl)) ?_; (with_reducible refine (spec_TrailLight.calls kj4 t282 _ _ t283 t286 t291 _ ?side1 ?side2 A21.out).mono ?_); (case side1 => repeat (first | exact (Kd.Q_reads' HO_288001.out).2.2 | (with_reducible refine Kd.C_alloc ?_ _) | (with_reducible refine Kd.C_drewN ?_ _) | (with_reducible refine Kd.C_drew ?_))); (case side2 => exact (Kd.Q_reads' HO_288001.out).2.1); rintro e w23 ⟨rfl, hb⟩; refine ⟨_, rfl, ?_⟩; have n0_ := Zs.mk (Kd.Q_below (by (with_reducible repeat (first | apply Kd.Q_alloc | apply Kd.Q_drewN | apply Kd.Q_drew)); exact HO_288001.out) hb); have n1_ := Zs.mk (kBe (g := gb287) (o := .cells #[.int .i64 t282, .slice Ao9 t283.length co9] 25 (0, 0)) (by (with_reducible repeat (first | refine kDN ?_ _ | refine kDr ?_ | refine kAl ?_ _)); exact BK287.out) hb); have n2_ := Zs.mk (bSp (by repeat (first | (with_reducible first | exact HB.out | apply bAl | apply bDN | apply bD1 | refine bSt ?_ GE287.out) | exact HB.out)) hb); clear HO_288001; clear BK287; clear HB; have HO_288001 := n0_; have BK287 := n1_; have HB := n2_; clear n0_ n1_ n2_; (try clear hb); (try clear hb2); (try clear hk); (try clear hi)))
     go_ret
     exact ⟨by first | rfl | (simp [errW_none, errW_some] <;> rfl) | (simp [*, errW_none, errW_some] <;> rfl), by repeat (first | (with_reducible first | exact HB.out | apply bAl | apply bDN | apply bD1 | refine bSt ?_ GE287.out) | exact HB.out)⟩
    ·replace c20 := Bool.eq_false_iff.mpr c20
     subst c20
     have H1 : ((impl_TrailEnds.f kj4 t282 t283 t286).bind fun t292 => (laws_FnLightMore.l0 kj4 t286 t288 t292 0 t282 t283)) = some r := by rw [if_neg (show ¬ (false = true) by decide)] at H; exact H
     clear H
     have H := H1
     clear H1
     replace H := Option.bind_eq_some_iff.mp H
     obtain ⟨t292, A240, H⟩ := H
     replace H : (laws_FnLightMore.l0 kj4 t286 t288 t292 0 t282 t283) = some r := H
     have A24 := Zs.mk A240
     clear A240
     have H' := Zs.mk H
     clear H
     have hcz25_0 : wc.cell? ⟨gb287, 0, none⟩ = some (.int .i64 t282) := (kCe BK287.out 0).trans rfl
     have hcz25_1 : wc.cell? ⟨gb287, 1, none⟩ = some (.slice Ao9 t283.length co9) := (kCe BK287.out 1).trans rfl
     have hfz25_0 := kFr BK287.out 0
     have hfz25_1 := kFr BK287.out 1
     go_wp2_with (first | ((with_reducible refine gate_callee (f := 24) rfl ?_); refine goesL_ (some 42) rfl rfl Try.func24 (by kernel_rfl) rfl #[.agg #[.int .i64 t282, .slice Ao9 t283.length co9], .int .i64 t286] rfl (by (try simp only [List.map_toArray, List.map_cons, List.map_nil]); first | done | rfl | (simp only [List.length_drop, List.length_take]; rfl)) ?_; (with_reducible refine (impl_TrailEnds.calls kj4 t282 _ _ t283 t286 t292 _ ?side1 ?side2 A24.out).mono ?_); (case side1 => repeat (first | exact (Kd.Q_reads' HO_288001.out).2.2 | (with_reducible refine Kd.C_alloc ?_ _) | (with_reducible refine Kd.C_drewN ?_ _) | (with_reducible refine Kd.C_drew ?_))); (case side2 => exact (Kd.Q_reads' HO_288001.out).2.1); rintro e w26 ⟨v293, rfl, ho0, hb⟩; refine ⟨_, rfl, ?_⟩; have n0_ := Zs.mk (Kd.Q_below (by (with_reducible repeat (first | apply Kd.Q_alloc | apply Kd.Q_drewN | apply Kd.Q_drew)); exact HO_288001.out) hb); have n1_ := Zs.mk (Kd.R_lower ho0 (bSz (by repeat (first | (with_reducible first | exact HB.out | apply bAl | apply bDN | apply bD1 | refine bSt ?_ GE287.out) | exact HB.out)))); have n2_ := Zs.mk (kBe (g := gb287) (o := .cells #[.int .i64 t282, .slice Ao9 t283.length co9] 25 (0, 0)) (by (with_reducible repeat (first | refine kDN ?_ _ | refine kDr ?_ | refine kAl ?_ _)); exact BK287.out) hb); have n3_ := Zs.mk (bSp (by repeat (first | (with_reducible first | exact HB.out | apply bAl | apply bDN | apply bD1 | refine bSt ?_ GE287.out) | exact HB.out)) hb); clear HO_288001; clear BK287; clear HB; have HO_288001 := n0_; have HO294 := n1_; have BK287 := n2_; have HB := n3_; clear n0_ n1_ n2_ n3_; (try clear hb); (try clear hb2); (try clear hk); (try clear hi); (try clear ho0)))
     go_loopg [7] kj4 (fun kq v7 w' => ∃ (x7_2 : Int), v7 = .int .i64 x7_2 ∧ Zs (laws_FnLightMore.l0 kq t286 t288 t292 x7_2 t282 t283 = some r) ∧ Zs (kq ≤ kj4) ∧ Zs (Kd.R k60 60 w' w.heap.size (fun _ => True) v293 t292) ∧ Zs (Kd.Q k57 57 w' w.heap.size (fun _ => True) (.slice Ao9 t283.length co9) t283) ∧ Zs (w'.heap[gb287]? = some (.cells #[.int .i64 t282, (.slice Ao9 t283.length co9)] 25 (0, 0))) ∧ Zs (Below w.heap.size w w'))
     case atStart => exact ⟨(0), (by first | rfl | (simp; done) | (simp [*]; done)), H', ⟨Nat.le_refl _⟩, ⟨by (with_reducible repeat (first | apply Kd.R_alloc | apply Kd.R_drewN | apply Kd.R_drew)); exact HO294.out⟩, ⟨by (with_reducible repeat (first | apply Kd.Q_alloc | apply Kd.Q_drewN | apply Kd.Q_drew)); exact HO_288001.out⟩, ⟨by (with_reducible repeat (first | refine kDN ?_ _ | refine kDr ?_ | refine kAl ?_ _)); exact BK287.out⟩, ⟨by repeat (first | (with_reducible first | exact HB.out | apply bAl | apply bDN | apply bD1 | refine bSt ?_ GE287.out) | exact HB.out)⟩⟩
     case round =>
      clear H'
      try clear c1
      try clear c2
      try clear c2b0
      try clear c2b1
      try clear p2
      try clear c3
      try clear c6
      try clear c12
      try clear c12b0
      try clear c12b1
      try clear c20
      try clear c24
      try clear hcz14_0
      try clear hcz14_1
      try clear hcz16_0
      try clear hcz16_1
      try clear hcz18_0
      try clear hcz18_1
      try clear hcz22_0
      try clear hcz22_1
      try clear hcz25_0
      try clear hcz25_1
      try clear hcz8_0
      try clear hcz8_1
      try clear hfz14_0
      try clear hfz14_1
      try clear hfz16_0
      try clear hfz16_1
      try clear hfz18_0
      try clear hfz18_1
      try clear hfz22_0
      try clear hfz22_1
      try clear hfz25_0
      try clear hfz25_1
      try clear hfz8_0
      try clear hfz8_1
      try clear p2
      obtain ⟨x7_2, rfl, HA, HK2, HO_6, HO_288001, BK287, HB⟩ := hrel
      cases gk with
      | zero => exact absurd HA.out (by simp [laws_FnLightMore.l0])
      | succ k2 =>
       have H := HA.out
       clear HA
       simp only [laws_FnLightMore.l0] at H
       by_cases c27 : x7_2 < (t283.length : Int)
       ·rw [if_pos c27] at H
        have c27b0 : decide (x7_2 < (t283.length : Int)) = true := decide_eq_true c27
        clear c27
        by_cases c28 : 0 ≤ x7_2
        ·rw [if_pos c28] at H
         have c28b0 : decide (0 ≤ x7_2) = true := decide_eq_true c28
         clear c28
         have HC29 := Zs.mk H
         clear H
         have hcz30_0 : wr.cell? ⟨gb287, 0, none⟩ = some (.int .i64 t282) := (kCe BK287.out 0).trans rfl
         have hcz30_1 : wr.cell? ⟨gb287, 1, none⟩ = some (.slice Ao9 t283.length co9) := (kCe BK287.out 1).trans rfl
         have hfz30_0 := kFr BK287.out 0
         have hfz30_1 := kFr BK287.out 1
         have p295 : 0 ≤ (x7_2 : Int) := of_decide_eq_true (by first | (with_reducible assumption) | assumption)
         have q295 : x7_2 < (t283.length : Int) := of_decide_eq_true (by first | (with_reducible assumption) | assumption)
         obtain ⟨ad295, e295, hx295_0, hx295_1⟩ := at_T57 (Kd.Q_reads' HO_288001.out).2.2 x7_2 p295 q295
         cases e295
         replace p295 := eq_true p295
         replace q295 := eq_true q295
         go_upto_region 12 with (first | ((with_reducible refine gate_dst (N := 8) rfl ?_); refine box_event ?hg (N := 8) ?hd (cs := #[.int .i64 0, .int .i64 0]) (t := 57) ?hr ?_; (case hd => rfl); (case hg => rfl); (case hr => first | (go_simp; done) | (go_simp; rfl)); intro gb296 hg w31 hbox hb; have n0_ := Zs.mk (Kd.R_below (by (with_reducible repeat (first | apply Kd.R_alloc | apply Kd.R_drewN | apply Kd.R_drew)); exact HO_6.out) hb); have n1_ := Zs.mk (Kd.Q_below (Kd.Q_elderB (by (with_reducible repeat (first | apply Kd.Q_alloc | apply Kd.Q_drewN | apply Kd.Q_drew)); exact HO_288001.out) gb296 (Nat.le_of_eq hg.symm)) hb); have n2_ := Zs.mk (kBe (g := gb287) (o := .cells #[.int .i64 t282, .slice (some ad295) t283.length co9] 25 (0, 0)) (by (with_reducible repeat (first | refine kDN ?_ _ | refine kDr ?_ | refine kAl ?_ _)); exact BK287.out) hb); have n3_ := Zs.mk (bSp (by repeat (first | (with_reducible first | exact HB.out | apply bAl | apply bDN | apply bD1 | refine bSt ?_ GE287.out) | exact HB.out)) hb); have n4_ := Zs.mk (hbox); have n5_ := Zs.mk ((by rw [hg]; exact (bSz (by repeat (first | (with_reducible first | exact HB.out | apply bAl | apply bDN | apply bD1 | refine bSt ?_ GE287.out) | exact HB.out))) : w.heap.size ≤ gb296)); have n6_ := Zs.mk ((by rw [hg]; exact (bSz (by repeat (first | (with_reducible first | exact HB.out | apply bAl | apply bDN | apply bD1 | refine bSt ?_ GE287.out) | exact HB.out))) : w.heap.size ≤ gb296)); have n7_ := Zs.mk ((by rw [hg]; exact Nat.ne_of_lt (blk_lt (g := gb287) (o := .cells #[.int .i64 t282, .slice (some ad295) t283.length co9] 25 (0, 0)) (by (with_reducible repeat (first | refine kDN ?_ _ | refine kDr ?_ | refine kAl ?_ _)); exact BK287.out)) : gb287 ≠ gb296)); have n8_ := Zs.mk ((by rw [hg]; exact Nat.ne_of_gt (blk_lt (g := gb287) (o := .cells #[.int .i64 t282, .slice (some ad295) t283.length co9] 25 (0, 0)) (by (with_reducible repeat (first | refine kDN ?_ _ | refine kDr ?_ | refine kAl ?_ _)); exact BK287.out)) : gb296 ≠ gb287)); clear HO_6; clear HO_288001; clear BK287; clear HB; have HO_6 := n0_; have HO_288001 := n1_; have BK287 := n2_; have HB := n3_; have BK296 := n4_; have GW296 := n5_; have GE296 := n6_; have NB287_296 := n7_; have NB296_287 := n8_; clear n0_ n1_ n2_ n3_ n4_ n5_ n6_ n7_ n8_; clear hb hbox hg; have hnb32 := NB296_287.out; have hnc32 := NB287_296.out; have hcz33_0 : w31.cell? ⟨gb296, 0, none⟩ = some (.int .i64 0) := (kCe BK296.out 0).trans rfl; have hcz33_1 : w31.cell? ⟨gb296, 1, none⟩ = some (.int .i64 0) := (kCe BK296.out 1).trans rfl; have hfz33_0 := kFr BK296.out 0; have hfz33_1 := kFr BK296.out 1))
         (try simp only [Act.put, List.setIfInBounds_toArray, List.set_cons_zero, List.set_cons_succ])
         go_cut [62] (fun v62 wc => ∃ (kq : Nat) (x62_28 : Bool), v62 = .bool x62_28 ∧ Zs (laws_FnLightMore.j2 kq t286 t288 t292 x7_2 x62_28 t282 t283 ((rd_T57 t283 x7_2).f0) ((rd_T57 t283 x7_2).f1) = some r) ∧ Zs (kq ≤ k2) ∧ Zs (Kd.R k60 60 wc w.heap.size (fun _ => True) v293 t292) ∧ Zs (Kd.Q k57 57 wc w.heap.size (fun k_ => k_ ≠ gb296) (.slice (some ad295) t283.length co9) t283) ∧ Zs (wc.heap[gb287]? = some (.cells #[.int .i64 t282, (.slice (some ad295) t283.length co9)] 25 (0, 0))) ∧ Zs (wc.heap[gb296]? = some (.cells #[.int .i64 ((rd_T57 t283 x7_2).f0), .int .i64 ((rd_T57 t283 x7_2).f1)] 57 (0, 0))) ∧ Zs (Below w.heap.size w wc))
         case first =>
          have H := HC29.out
          clear HC29
          by_cases c34 : ((rd_T57 t283 x7_2).f0) = 7
          ·rw [if_pos c34] at H
           have c34b0 : (((rd_T57 t283 x7_2).f0) == 7) = true := beq_iff_eq.mpr c34
           have c34b1 : (((rd_T57 t283 x7_2).f0) != 7) = false := bne_eq_false_iff_eq.mpr c34
           clear c34
           (first | rw [c34b0] | (simp only [i64_w, i32_w]; rw [c34b0]) | skip)
           have H' := Zs.mk H
           clear H
           have hnb35 := NB296_287.out
           have hnc35 := NB287_296.out
           have hcz36_0 : w31.cell? ⟨gb296, 0, none⟩ = some (.int .i64 0) := (kCe BK296.out 0).trans rfl
           have hcz36_1 : w31.cell? ⟨gb296, 1, none⟩ = some (.int .i64 0) := (kCe BK296.out 1).trans rfl
           have hfz36_0 := kFr BK296.out 0
           have hfz36_1 := kFr BK296.out 1
           go_wp2
           go_meet
           case rel => exact ⟨_, (decide (((rd_T57 t283 x7_2).f1) < 9)), (by first | rfl | (simp; done) | (simp [*]; done)), H', ⟨by have := HJ4.out; have := HK2.out; first | omega | exact Nat.le_refl _⟩, ⟨by (with_reducible repeat (first | apply Kd.R_alloc | apply Kd.R_drewN | apply Kd.R_drew)); exact Kd.R_mono (Kd.R_far (p := ⟨gb296, 1, none⟩) (Kd.R_far (p := ⟨gb296, 0, none⟩) (Kd.R_types HO_6.out BK296.out (by decide)) (fun _ hk => hk.2) (.int .i64 ((rd_T57 t283 x7_2).f0))) (fun _ hk => hk.2) (.int .i64 ((rd_T57 t283 x7_2).f1))) (fun _ hk => trivial)⟩, ⟨by (with_reducible repeat (first | apply Kd.Q_alloc | apply Kd.Q_drewN | apply Kd.Q_drew)); exact Kd.Q_mono (Kd.Q_far (p := ⟨gb296, 1, none⟩) (Kd.Q_far (p := ⟨gb296, 0, none⟩) (Kd.Q_mono HO_288001.out (fun k_ hk => (⟨hk, hk.2⟩ : _ ∧ k_ ≠ gb296))) (fun _ hk => hk.2) (.int .i64 ((rd_T57 t283 x7_2).f0))) (fun _ hk => hk.2) (.int .i64 ((rd_T57 t283 x7_2).f1))) (fun _ hk => hk.1.2)⟩, ⟨by (with_reducible repeat (first | refine kDN ?_ _ | refine kDr ?_ | refine kAl ?_ _)); refine blk_far ?_ NB287_296.out _; (with_reducible repeat (first | refine kDN ?_ _ | refine kDr ?_ | refine kAl ?_ _)); refine blk_far ?_ NB287_296.out _; (with_reducible repeat (first | refine kDN ?_ _ | refine kDr ?_ | refine kAl ?_ _)); exact BK287.out⟩, ⟨by (with_reducible repeat (first | refine kDN ?_ _ | refine kDr ?_ | refine kAl ?_ _)); refine blk_put (cs := #[.int .i64 ((rd_T57 t283 x7_2).f0), .int .i64 0]) ?_ 1 _ rfl; (with_reducible repeat (first | refine kDN ?_ _ | refine kDr ?_ | refine kAl ?_ _)); refine blk_put (cs := #[.int .i64 0, .int .i64 0]) ?_ 0 _ rfl; (with_reducible repeat (first | refine kDN ?_ _ | refine kDr ?_ | refine kAl ?_ _)); exact BK296.out⟩, ⟨by repeat (first | (with_reducible first | exact HB.out | apply bAl | apply bDN | apply bD1 | refine bSt ?_ GE287.out | refine bSt ?_ GE296.out) | exact HB.out)⟩⟩
          ·rw [if_neg c34] at H
           have c34b0 : (((rd_T57 t283 x7_2).f0) == 7) = false := beq_eq_false_iff_ne.mpr c34
           have c34b1 : (((rd_T57 t283 x7_2).f0) != 7) = true := bne_iff_ne.mpr c34
           (first | rw [c34b0] | (simp only [i64_w, i32_w]; rw [c34b0]) | skip)
           have H' := Zs.mk H
           clear H
           have hnb37 := NB296_287.out
           have hnc37 := NB287_296.out
           have hcz38_0 : w31.cell? ⟨gb296, 0, none⟩ = some (.int .i64 0) := (kCe BK296.out 0).trans rfl
           have hcz38_1 : w31.cell? ⟨gb296, 1, none⟩ = some (.int .i64 0) := (kCe BK296.out 1).trans rfl
           have hfz38_0 := kFr BK296.out 0
           have hfz38_1 := kFr BK296.out 1
           go_wp2
           go_meet
           case rel => exact ⟨_, (false), (by first | rfl | (simp; done) | (simp [*]; done)), H', ⟨by have := HJ4.out; have := HK2.out; first | omega | exact Nat.le_refl _⟩, ⟨by (with_reducible repeat (first | apply Kd.R_alloc | apply Kd.R_drewN | apply Kd.R_drew)); exact Kd.R_mono (Kd.R_far (p := ⟨gb296, 1, none⟩) (Kd.R_far (p := ⟨gb296, 0, none⟩) (Kd.R_types HO_6.out BK296.out (by decide)) (fun _ hk => hk.2) (.int .i64 ((rd_T57 t283 x7_2).f0))) (fun _ hk => hk.2) (.int .i64 ((rd_T57 t283 x7_2).f1))) (fun _ hk => trivial)⟩, ⟨by (with_reducible repeat (first | apply Kd.Q_alloc | apply Kd.Q_drewN | apply Kd.Q_drew)); exact Kd.Q_mono (Kd.Q_far (p := ⟨gb296, 1, none⟩) (Kd.Q_far (p := ⟨gb296, 0, none⟩) (Kd.Q_mono HO_288001.out (fun k_ hk => (⟨hk, hk.2⟩ : _ ∧ k_ ≠ gb296))) (fun _ hk => hk.2) (.int .i64 ((rd_T57 t283 x7_2).f0))) (fun _ hk => hk.2) (.int .i64 ((rd_T57 t283 x7_2).f1))) (fun _ hk => hk.1.2)⟩, ⟨by (with_reducible repeat (first | refine kDN ?_ _ | refine kDr ?_ | refine kAl ?_ _)); refine blk_far ?_ NB287_296.out _; (with_reducible repeat (first | refine kDN ?_ _ | refine kDr ?_ | refine kAl ?_ _)); refine blk_far ?_ NB287_296.out _; (with_reducible repeat (first | refine kDN ?_ _ | refine kDr ?_ | refine kAl ?_ _)); exact BK287.out⟩, ⟨by (with_reducible repeat (first | refine kDN ?_ _ | refine kDr ?_ | refine kAl ?_ _)); refine blk_put (cs := #[.int .i64 ((rd_T57 t283 x7_2).f0), .int .i64 0]) ?_ 1 _ rfl; (with_reducible repeat (first | refine kDN ?_ _ | refine kDr ?_ | refine kAl ?_ _)); refine blk_put (cs := #[.int .i64 0, .int .i64 0]) ?_ 0 _ rfl; (with_reducible repeat (first | refine kDN ?_ _ | refine kDr ?_ | refine kAl ?_ _)); exact BK296.out⟩, ⟨by repeat (first | (with_reducible first | exact HB.out | apply bAl | apply bDN | apply bD1 | refine bSt ?_ GE287.out | refine bSt ?_ GE296.out) | exact HB.out)⟩⟩
         case rest =>
          clear HC29
          try clear c1
          try clear c2
          try clear c2b0
          try clear c2b1
          try clear p2
          try clear q2
          try clear hx2
          try clear c3
          try clear c6
          try clear c12
          try clear c12b0
          try clear c12b1
          try clear c20
          try clear c24
          try clear c27
          try clear c27b0
          try clear c28
          try clear c28b0
          try clear p29
          try clear q29
          try clear hx29
          try clear c31
          try clear c32
          try clear c33
          try clear c34
          try clear c34b0
          try clear c34b1
          try clear c35
          try clear c37
          try clear hcz14_0
          try clear hcz14_1
          try clear hcz16_0
          try clear hcz16_1
          try clear hcz18_0
          try clear hcz18_1
          try clear hcz22_0
          try clear hcz22_1
          try clear hcz25_0
          try clear hcz25_1
          try clear hcz30_0
          try clear hcz30_1
          try clear hcz33_0
          try clear hcz33_1
          try clear hcz36_0
          try clear hcz36_1
          try clear hcz38_0
          try clear hcz38_1
          try clear hcz8_0
          try clear hcz8_1
          try clear hfz14_0
          try clear hfz14_1
          try clear hfz16_0
          try clear hfz16_1
          try clear hfz18_0
          try clear hfz18_1
          try clear hfz22_0
          try clear hfz22_1
          try clear hfz25_0
          try clear hfz25_1
          try clear hfz30_0
          try clear hfz30_1
          try clear hfz33_0
          try clear hfz33_1
          try clear hfz36_0
          try clear hfz36_1
          try clear hfz38_0
          try clear hfz38_1
          try clear hfz8_0
          try clear hfz8_1
          try clear hx295_0
          try clear hx295_1
          try clear p2
          try clear p295
          try clear q295
          obtain ⟨kq, x62_28, rfl, HA, HJ28, HO_6, HO_288001, BK287, BK296, HB⟩ := hcut
          cases kq with
          | zero => exact absurd HA.out (by simp [laws_FnLightMore.j2])
          | succ kj28 =>
           have H := HA.out
           clear HA
           simp only [laws_FnLightMore.j2] at H
           by_cases c39 : x62_28 = true
           ·subst c39
            have H1 : ((impl_GridPut.f kj28 t282 t283 x7_2 7 (wrap64 (((rd_T57 t283 x7_2).f1) + 1))).bind fun bt297 => (laws_FnLightMore.l1 kj28 t286 t288 t292 x7_2 0 0 t282 t283 bt297.1 bt297.2.1)) = some r := by rw [if_pos rfl] at H; exact H
            clear H
            have H := H1
            clear H1
            replace H := Option.bind_eq_some_iff.mp H
            obtain ⟨⟨t297, t298, t301⟩, A400, H⟩ := H
            replace H : (laws_FnLightMore.l1 kj28 t286 t288 t292 x7_2 0 0 t282 t283 t297 t298) = some r := H
            have A40 := Zs.mk A400
            clear A400
            have H' := Zs.mk H
            clear H
            have hnb41 := NB287_296.out
            have hnc41 := NB296_287.out
            have hcz42_0 : wc.cell? ⟨gb287, 0, none⟩ = some (.int .i64 t282) := (kCe BK287.out 0).trans rfl
            have hcz42_1 : wc.cell? ⟨gb287, 1, none⟩ = some (.slice (some ad295) t283.length co9) := (kCe BK287.out 1).trans rfl
            have hfz42_0 := kFr BK287.out 0
            have hfz42_1 := kFr BK287.out 1
            have hcz43_0 : wc.cell? ⟨gb296, 0, none⟩ = some (.int .i64 ((rd_T57 t283 x7_2).f0)) := (kCe BK296.out 0).trans rfl
            have hcz43_1 : wc.cell? ⟨gb296, 1, none⟩ = some (.int .i64 ((rd_T57 t283 x7_2).f1)) := (kCe BK296.out 1).trans rfl
            have hfz43_0 := kFr BK296.out 0
            have hfz43_1 := kFr BK296.out 1
            go_wp2_with (first | ((with_reducible refine gate_callee (f := 29) rfl ?_); refine goesL_ (some 70) rfl rfl Try.func29 (by kernel_rfl) rfl #[.agg #[.int .i64 t282, .slice (some ad295) t283.length co9], .int .i64 x7_2, .agg #[.int .i64 7, .int .i64 (wrap64 (((rd_T57 t283 x7_2).f1) + 1))]] rfl (by (try simp only [List.map_toArray, List.map_cons, List.map_nil]); first | done | rfl | (simp only [List.length_drop, List.length_take]; rfl)) ?_; (with_reducible refine (impl_GridPut.calls kj28 t282 _ _ t283 x7_2 7 (wrap64 (((rd_T57 t283 x7_2).f1) + 1)) t297 t298 t301 _ ?side1 ?side2 A40.out).mono ?_); (case side1 => repeat (first | exact (Kd.Q_reads' HO_288001.out).2.2 | (with_reducible refine Kd.C_alloc ?_ _) | (with_reducible refine Kd.C_drewN ?_ _) | (with_reducible refine Kd.C_drew ?_))); (case side2 => exact (Kd.Q_reads' HO_288001.out).2.1); rintro e w44 ⟨v299, rfl, ho0, hb⟩; refine ⟨_, rfl, ?_⟩; have n0_ := Zs.mk (Kd.R_below (by (with_reducible repeat (first | apply Kd.R_alloc | apply Kd.R_drewN | apply Kd.R_drew)); exact HO_6.out) hb); have n1_ := Zs.mk (Kd.Q_elder' (by (with_reducible repeat (first | apply Kd.Q_alloc | apply Kd.Q_drewN | apply Kd.Q_drew)); exact HO_288001.out) (Kd.R_base ho0) hb); have n2_ := Zs.mk (Kd.R_lower (Kd.R_newB (Kd.R_new' ho0 (Kd.Q_lt (by (with_reducible repeat (first | apply Kd.Q_alloc | apply Kd.Q_drewN | apply Kd.Q_drew)); exact HO_288001.out))) (g := gb296) (o := .cells #[.int .i64 ((rd_T57 t283 x7_2).f0), .int .i64 ((rd_T57 t283 x7_2).f1)] 57 (0, 0)) (by (with_reducible repeat (first | refine kDN ?_ _ | refine kDr ?_ | refine kAl ?_ _)); exact BK296.out)) (bSz (by repeat (first | (with_reducible first | exact HB.out | apply bAl | apply bDN | apply bD1 | refine bSt ?_ GE287.out | refine bSt ?_ GE296.out) | exact HB.out)))); have n3_ := Zs.mk (kBe (g := gb287) (o := .cells #[.int .i64 t282, .slice (some ad295) t283.length co9] 25 (0, 0)) (by (with_reducible repeat (first | refine kDN ?_ _ | refine kDr ?_ | refine kAl ?_ _)); exact BK287.out) hb); have n4_ := Zs.mk (kBe (g := gb296) (o := .cells #[.int .i64 ((rd_T57 t283 x7_2).f0), .int .i64 ((rd_T57 t283 x7_2).f1)] 57 (0, 0)) (by (with_reducible repeat (first | refine kDN ?_ _ | refine kDr ?_ | refine kAl ?_ _)); exact BK296.out) hb); have n5_ := Zs.mk (bSp (by repeat (first | (with_reducible first | exact HB.out | apply bAl | apply bDN | apply bD1 | refine bSt ?_ GE287.out | refine bSt ?_ GE296.out) | exact HB.out)) hb); clear HO_6; clear HO_288001; clear BK287; clear BK296; clear HB; have HO_6 := n0_; have HO_288001 := n1_; have HO300 := n2_; have BK287 := n3_; have BK296 := n4_; have HB := n5_; clear n0_ n1_ n2_ n3_ n4_ n5_; (try clear hb); (try clear hb2); (try clear hk); (try clear hi); (try clear ho0)) | ((with_reducible refine gate_dst (N := 9) rfl ?_); refine box_event ?hg (N := 9) ?hd (cs := #[.int .i64 0, .slice none 0 0]) (t := 25) ?hr ?_; (case hd => rfl); (case hg => rfl); (case hr => first | (go_simp; done) | (go_simp; rfl)); intro gb302 hg w45 hbox hb; have n0_ := Zs.mk (Kd.R_below (by (with_reducible repeat (first | apply Kd.R_alloc | apply Kd.R_drewN | apply Kd.R_drew)); exact HO_6.out) hb); have n1_ := Zs.mk (Kd.Q_below (by (with_reducible repeat (first | apply Kd.Q_alloc | apply Kd.Q_drewN | apply Kd.Q_drew)); exact HO_288001.out) hb); have n2_ := Zs.mk (Kd.R_below (by (with_reducible repeat (first | apply Kd.R_alloc | apply Kd.R_drewN | apply Kd.R_drew)); exact HO300.out) hb); have n3_ := Zs.mk (kBe (g := gb287) (o := .cells #[.int .i64 t282, .slice (some ad295) t283.length co9] 25 (0, 0)) (by (with_reducible repeat (first | refine kDN ?_ _ | refine kDr ?_ | refine kAl ?_ _)); exact BK287.out) hb); have n4_ := Zs.mk (kBe (g := gb296) (o := .cells #[.int .i64 ((rd_T57 t283 x7_2).f0), .int .i64 ((rd_T57 t283 x7_2).f1)] 57 (0, 0)) (by (with_reducible repeat (first | refine kDN ?_ _ | refine kDr ?_ | refine kAl ?_ _)); exact BK296.out) hb); have n5_ := Zs.mk (bSp (by repeat (first | (with_reducible first | exact HB.out | apply bAl | apply bDN | apply bD1 | refine bSt ?_ GE287.out | refine bSt ?_ GE296.out) | exact HB.out)) hb); have n6_ := Zs.mk (hbox); have n7_ := Zs.mk ((by rw [hg]; exact (bSz (by repeat (first | (with_reducible first | exact HB.out | apply bAl | apply bDN | apply bD1 | refine bSt ?_ GE287.out | refine bSt ?_ GE296.out) | exact HB.out))) : w.heap.size ≤ gb302)); have n8_ := Zs.mk ((by rw [hg]; exact (bSz (by repeat (first | (with_reducible first | exact HB.out | apply bAl | apply bDN | apply bD1 | refine bSt ?_ GE287.out | refine bSt ?_ GE296.out) | exact HB.out))) : w.heap.size ≤ gb302)); have n9_ := Zs.mk ((by rw [hg]; exact Nat.ne_of_lt (blk_lt (g := gb287) (o := .cells #[.int .i64 t282, .slice (some ad295) t283.length co9] 25 (0, 0)) (by (with_reducible repeat (first | refine kDN ?_ _ | refine kDr ?_ | refine kAl ?_ _)); exact BK287.out)) : gb287 ≠ gb302)); have n10_ := Zs.mk ((by rw [hg]; exact Nat.ne_of_gt (blk_lt (g := gb287) (o := .cells #[.int .i64 t282, .slice (some ad295) t283.length co9] 25 (0, 0)) (by (with_reducible repeat (first | refine kDN ?_ _ | refine kDr ?_ | refine kAl ?_ _)); exact BK287.out)) : gb302 ≠ gb287)); have n11_ := Zs.mk ((by rw [hg]; exact Nat.ne_of_lt (blk_lt (g := gb296) (o := .cells #[.int .i64 ((rd_T57 t283 x7_2).f0), .int .i64 ((rd_T57 t283 x7_2).f1)] 57 (0, 0)) (by (with_reducible repeat (first | refine kDN ?_ _ | refine kDr ?_ | refine kAl ?_ _)); exact BK296.out)) : gb296 ≠ gb302)); have n12_ := Zs.mk ((by rw [hg]; exact Nat.ne_of_gt (blk_lt (g := gb296) (o := .cells #[.int .i64 ((rd_T57 t283 x7_2).f0), .int .i64 ((rd_T57 t283 x7_2).f1)] 57 (0, 0)) (by (with_reducible repeat (first | refine kDN ?_ _ | refine kDr ?_ | refine kAl ?_ _)); exact BK296.out)) : gb302 ≠ gb296)); clear HO_6; clear HO_288001; clear HO300; clear BK287; clear BK296; clear HB; have HO_6 := n0_; have HO_288001 := n1_; have HO300 := n2_; have BK287 := n3_; have BK296 := n4_; have HB := n5_; have BK302 := n6_; have GW302 := n7_; have GE302 := n8_; have NB287_302 := n9_; have NB302_287 := n10_; have NB296_302 := n11_; have NB302_296 := n12_; clear n0_ n1_ n2_ n3_ n4_ n5_ n6_ n7_ n8_ n9_ n10_ n11_ n12_; clear hb hbox hg; have hnb46 := NB302_287.out; have hnc46 := NB287_302.out; have hnb47 := NB302_296.out; have hnc47 := NB296_302.out; have hcz48_0 : w45.cell? ⟨gb302, 0, none⟩ = some (.int .i64 0) := (kCe BK302.out 0).trans rfl; have hcz48_1 : w45.cell? ⟨gb302, 1, none⟩ = some (.slice none 0 0) := (kCe BK302.out 1).trans rfl; have hfz48_0 := kFr BK302.out 0; have hfz48_1 := kFr BK302.out 1; obtain ⟨Ao49, co49, eo49⟩ := Kd.R_slice HO300.out; subst eo49))
            go_loopg [11, 12] kj28 (fun kq v11 v12 w' => ∃ (x11_4 : Int) (x12_4 : Int), v11 = .int .i64 x11_4 ∧ v12 = .int .i64 x12_4 ∧ Zs (laws_FnLightMore.l1 kq t286 t288 t292 x7_2 x11_4 x12_4 t282 t283 t297 t298 = some r) ∧ Zs (kq ≤ kj28) ∧ Zs (Kd.R k60 60 w' w.heap.size (fun _ => True) v293 t292) ∧ Zs (Kd.Q k57 57 w' w.heap.size (fun k_ => some k_ ≠ ((.slice Ao49 t298.length co49) : Value).ownBlock ∧ k_ ≠ gb296) (.slice (some ad295) t283.length co9) t283) ∧ Zs (Kd.Q k57 57 w' w.heap.size (fun k_ => some k_ ≠ ((.slice (some ad295) t283.length co9) : Value).ownBlock ∧ k_ ≠ gb296) (.slice Ao49 t298.length co49) t298) ∧ Zs (w'.heap[gb287]? = some (.cells #[.int .i64 t282, (.slice (some ad295) t283.length co9)] 25 (0, 0))) ∧ Zs (w'.heap[gb296]? = some (.cells #[.int .i64 ((rd_T57 t283 x7_2).f0), .int .i64 ((rd_T57 t283 x7_2).f1)] 57 (0, 0))) ∧ Zs (w'.heap[gb302]? = some (.cells #[.int .i64 t297, (.slice Ao49 t298.length co49)] 25 (0, 0))) ∧ Zs (Below w.heap.size w w'))
            case atStart => exact ⟨(0), (0), (by first | rfl | (simp; done) | (simp [*]; done)), (by first | rfl | (simp; done) | (simp [*]; done)), H', ⟨Nat.le_refl _⟩, ⟨by (with_reducible repeat (first | apply Kd.R_alloc | apply Kd.R_drewN | apply Kd.R_drew)); exact Kd.R_mono (Kd.R_far (p := ⟨gb302, 1, none⟩) (Kd.R_far (p := ⟨gb302, 0, none⟩) (Kd.R_types HO_6.out BK302.out (by decide)) (fun _ hk => hk.2) (.int .i64 t297)) (fun _ hk => hk.2) (.slice Ao49 t298.length co49)) (fun _ hk => trivial)⟩, ⟨by (with_reducible repeat (first | apply Kd.Q_alloc | apply Kd.Q_drewN | apply Kd.Q_drew)); exact Kd.Q_mono (Kd.Q_far (p := ⟨gb302, 1, none⟩) (Kd.Q_far (p := ⟨gb302, 0, none⟩) (Kd.Q_types HO_288001.out BK302.out (by decide)) (fun _ hk => hk.2) (.int .i64 t297)) (fun _ hk => hk.2) (.slice Ao49 t298.length co49)) (fun _ hk => ⟨hk.1.2, hk.1.1⟩)⟩, ⟨Kd.Q_of_R (by (with_reducible repeat (first | apply Kd.R_alloc | apply Kd.R_drewN | apply Kd.R_drew)); exact Kd.R_mono (Kd.R_far (p := ⟨gb302, 1, none⟩) (Kd.R_far (p := ⟨gb302, 0, none⟩) (Kd.R_types HO300.out BK302.out (by decide)) (fun _ hk => hk.2) (.int .i64 t297)) (fun _ hk => hk.2) (.slice Ao49 t298.length co49)) (fun _ hk => ⟨hk.1.1.2, hk.1.2⟩))⟩, ⟨by (with_reducible repeat (first | refine kDN ?_ _ | refine kDr ?_ | refine kAl ?_ _)); refine blk_far ?_ NB287_302.out _; (with_reducible repeat (first | refine kDN ?_ _ | refine kDr ?_ | refine kAl ?_ _)); refine blk_far ?_ NB287_302.out _; (with_reducible repeat (first | refine kDN ?_ _ | refine kDr ?_ | refine kAl ?_ _)); exact BK287.out⟩, ⟨by (with_reducible repeat (first | refine kDN ?_ _ | refine kDr ?_ | refine kAl ?_ _)); refine blk_far ?_ NB296_302.out _; (with_reducible repeat (first | refine kDN ?_ _ | refine kDr ?_ | refine kAl ?_ _)); refine blk_far ?_ NB296_302.out _; (with_reducible repeat (first | refine kDN ?_ _ | refine kDr ?_ | refine kAl ?_ _)); exact BK296.out⟩, ⟨by (with_reducible repeat (first | refine kDN ?_ _ | refine kDr ?_ | refine kAl ?_ _)); refine blk_put (cs := #[.int .i64 t297, .slice none 0 0]) ?_ 1 _ rfl; (with_reducible repeat (first | refine kDN ?_ _ | refine kDr ?_ | refine kAl ?_ _)); refine blk_put (cs := #[.int .i64 0, .slice none 0 0]) ?_ 0 _ rfl; (with_reducible repeat (first | refine kDN ?_ _ | refine kDr ?_ | refine kAl ?_ _)); exact BK302.out⟩, ⟨by repeat (first | (with_reducible first | exact HB.out | apply bAl | apply bDN | apply bD1 | refine bSt ?_ GE287.out | refine bSt ?_ GE296.out | refine bSt ?_ GE302.out) | exact HB.out)⟩⟩
            case round =>
             clear H'
             try clear c1
             try clear c2
             try clear c2b0
             try clear c2b1
             try clear p2
             try clear q2
             try clear hx2
             try clear c3
             try clear c4
             try clear c6
             try clear p6
             try clear c12
             try clear c12b0
             try clear c12b1
             try clear c20
             try clear c24
             try clear c27
             try clear c27b0
             try clear c28
             try clear c28b0
             try clear c29
             try clear p29
             try clear q29
             try clear hx29
             try clear c31
             try clear c32
             try clear c33
             try clear c34
             try clear c34b0
             try clear c34b1
             try clear c35
             try clear c37
             try clear c39
             try clear c41
             try clear c46
             try clear c47
             try clear hcz14_0
             try clear hcz14_1
             try clear hcz16_0
             try clear hcz16_1
             try clear hcz18_0
             try clear hcz18_1
             try clear hcz22_0
             try clear hcz22_1
             try clear hcz25_0
             try clear hcz25_1
             try clear hcz30_0
             try clear hcz30_1
             try clear hcz33_0
             try clear hcz33_1
             try clear hcz36_0
             try clear hcz36_1
             try clear hcz38_0
             try clear hcz38_1
             try clear hcz42_0
             try clear hcz42_1
             try clear hcz43_0
             try clear hcz43_1
             try clear hcz48_0
             try clear hcz48_1
             try clear hcz8_0
             try clear hcz8_1
             try clear hfz14_0
             try clear hfz14_1
             try clear hfz16_0
             try clear hfz16_1
             try clear hfz18_0
             try clear hfz18_1
             try clear hfz22_0
             try clear hfz22_1
             try clear hfz25_0
             try clear hfz25_1
             try clear hfz30_0
             try clear hfz30_1
             try clear hfz33_0
             try clear hfz33_1
             try clear hfz36_0
             try clear hfz36_1
             try clear hfz38_0
             try clear hfz38_1
             try clear hfz42_0
             try clear hfz42_1
             try clear hfz43_0
             try clear hfz43_1
             try clear hfz48_0
             try clear hfz48_1
             try clear hfz8_0
             try clear hfz8_1
             try clear hx295_0
             try clear hx295_1
             try clear p2
             try clear p29
             try clear p295
             try clear q2
             try clear q29
             try clear q295
             obtain ⟨x11_4, x12_4, rfl, rfl, HA, HK4, HO_6, HO_288001, HO_303001, BK287, BK296, BK302, HB⟩ := hrel
             cases gk with
             | zero => exact absurd HA.out (by simp [laws_FnLightMore.l1])
             | succ k4 =>
              have H := HA.out
              clear HA
              simp only [laws_FnLightMore.l1] at H
              by_cases c50 : x12_4 < (t292.length : Int)
              ·rw [if_pos c50] at H
               have c50b0 : decide (x12_4 < (t292.length : Int)) = true := decide_eq_true c50
               clear c50
               by_cases c51 : 0 ≤ x12_4
               ·rw [if_pos c51] at H
                have c51b0 : decide (0 ≤ x12_4) = true := decide_eq_true c51
                clear c51
                by_cases c52 : ((rd_T60 t292 x12_4).f0) = 2
                ·rw [if_pos c52] at H
                 have c52b0 : (((rd_T60 t292 x12_4).f0) == 2) = true := beq_iff_eq.mpr c52
                 have c52b1 : (((rd_T60 t292 x12_4).f0) != 2) = false := bne_eq_false_iff_eq.mpr c52
                 clear c52
                 by_cases c53 : ((rd_T60 t292 x12_4).f1) = x7_2
                 ·rw [if_pos c53] at H
                  have c53b0 : (((rd_T60 t292 x12_4).f1) == x7_2) = true := beq_iff_eq.mpr c53
                  have c53b1 : (((rd_T60 t292 x12_4).f1) != x7_2) = false := bne_eq_false_iff_eq.mpr c53
                  clear c53
                  have H' := Zs.mk H
                  clear H
                  obtain ⟨Ao54, co54, eo54⟩ := Kd.R_slice HO_6.out
                  subst eo54
                  have p303 : 0 ≤ (x12_4 : Int) := of_decide_eq_true (by first | (with_reducible assumption) | assumption)
                  have q303 : x12_4 < (t292.length : Int) := of_decide_eq_true (by first | (with_reducible assumption) | assumption)
                  obtain ⟨ad303, e303, hx303_0, hx303_1, hx303_2⟩ := at_T60 (Kd.R_reads' HO_6.out).2.2 x12_4 p303 q303
                  cases e303
                  replace p303 := eq_true p303
                  replace q303 := eq_true q303
                  have p304 : 0 ≤ (x12_4 : Int) := of_decide_eq_true (by first | (with_reducible assumption) | assumption)
                  have q304 : x12_4 < (t292.length : Int) := of_decide_eq_true (by first | (with_reducible assumption) | assumption)
                  obtain ⟨ad304, e304, hx304_0, hx304_1, hx304_2⟩ := at_T60 (Kd.R_reads' HO_6.out).2.2 x12_4 p304 q304
                  obtain rfl : ad303 = ad304 := (by injection e304)
                  replace p304 := eq_true p304
                  replace q304 := eq_true q304
                  have p305 : 0 ≤ (x12_4 : Int) := of_decide_eq_true (by first | (with_reducible assumption) | assumption)
                  have q305 : x12_4 < (t292.length : Int) := of_decide_eq_true (by first | (with_reducible assumption) | assumption)
                  obtain ⟨ad305, e305, hx305_0, hx305_1, hx305_2⟩ := at_T60 (Kd.R_reads' HO_6.out).2.2 x12_4 p305 q305
                  obtain rfl : ad303 = ad305 := (by injection e305)
                  replace p305 := eq_true p305
                  replace q305 := eq_true q305
                  go_wp2
                  go_roundg k4
                  case measure => have := HJ4.out; have := HK2.out; have := HJ28.out; have := HK4.out; omega
                  case rel => exact ⟨(wrap64 (x11_4 + ((rd_T60 t292 x12_4).f2))), (wrap64 (x12_4 + 1)), (by first | rfl | (simp; done) | (simp [*]; done)), (by first | rfl | (simp; done) | (simp [*]; done)), H', ⟨by have := HJ4.out; have := HK2.out; have := HJ28.out; have := HK4.out; omega⟩, ⟨by (with_reducible repeat (first | apply Kd.R_alloc | apply Kd.R_drewN | apply Kd.R_drew)); exact HO_6.out⟩, ⟨by (with_reducible repeat (first | apply Kd.Q_alloc | apply Kd.Q_drewN | apply Kd.Q_drew)); exact HO_288001.out⟩, ⟨by (with_reducible repeat (first | apply Kd.Q_alloc | apply Kd.Q_drewN | apply Kd.Q_drew)); exact HO_303001.out⟩, ⟨by (with_reducible repeat (first | refine kDN ?_ _ | refine kDr ?_ | refine kAl ?_ _)); exact BK287.out⟩, ⟨by (with_reducible repeat (first | refine kDN ?_ _ | refine kDr ?_ | refine kAl ?_ _)); exact BK296.out⟩, ⟨by (with_reducible repeat (first | refine kDN ?_ _ | refine kDr ?_ | refine kAl ?_ _)); exact BK302.out⟩, ⟨by repeat (first | (with_reducible first | exact HB.out | apply bAl | apply bDN | apply bD1 | refine bSt ?_ GE287.out | refine bSt ?_ GE296.out | refine bSt ?_ GE302.out) | exact HB.out)⟩⟩
                 ·rw [if_neg c53] at H
                  have c53b0 : (((rd_T60 t292 x12_4).f1) == x7_2) = false := beq_eq_false_iff_ne.mpr c53
                  have c53b1 : (((rd_T60 t292 x12_4).f1) != x7_2) = true := bne_iff_ne.mpr c53
                  have H' := Zs.mk H
                  clear H
                  obtain ⟨Ao55, co55, eo55⟩ := Kd.R_slice HO_6.out
                  subst eo55
                  have p303 : 0 ≤ (x12_4 : Int) := of_decide_eq_true (by first | (with_reducible assumption) | assumption)
                  have q303 : x12_4 < (t292.length : Int) := of_decide_eq_true (by first | (with_reducible assumption) | assumption)
                  obtain ⟨ad303, e303, hx303_0, hx303_1, hx303_2⟩ := at_T60 (Kd.R_reads' HO_6.out).2.2 x12_4 p303 q303
                  cases e303
                  replace p303 := eq_true p303
                  replace q303 := eq_true q303
                  have p304 : 0 ≤ (x12_4 : Int) := of_decide_eq_true (by first | (with_reducible assumption) | assumption)
                  have q304 : x12_4 < (t292.length : Int) := of_decide_eq_true (by first | (with_reducible assumption) | assumption)
                  obtain ⟨ad304, e304, hx304_0, hx304_1, hx304_2⟩ := at_T60 (Kd.R_reads' HO_6.out).2.2 x12_4 p304 q304
                  obtain rfl : ad303 = ad304 := (by injection e304)
                  replace p304 := eq_true p304
                  replace q304 := eq_true q304
                  go_wp2
                  go_roundg k4
                  case measure => have := HJ4.out; have := HK2.out; have := HJ28.out; have := HK4.out; omega
                  case rel => exact ⟨(x11_4), (wrap64 (x12_4 + 1)), (by first | rfl | (simp; done) | (simp [*]; done)), (by first | rfl | (simp; done) | (simp [*]; done)), H', ⟨by have := HJ4.out; have := HK2.out; have := HJ28.out; have := HK4.out; omega⟩, ⟨by (with_reducible repeat (first | apply Kd.R_alloc | apply Kd.R_drewN | apply Kd.R_drew)); exact HO_6.out⟩, ⟨by (with_reducible repeat (first | apply Kd.Q_alloc | apply Kd.Q_drewN | apply Kd.Q_drew)); exact HO_288001.out⟩, ⟨by (with_reducible repeat (first | apply Kd.Q_alloc | apply Kd.Q_drewN | apply Kd.Q_drew)); exact HO_303001.out⟩, ⟨by (with_reducible repeat (first | refine kDN ?_ _ | refine kDr ?_ | refine kAl ?_ _)); exact BK287.out⟩, ⟨by (with_reducible repeat (first | refine kDN ?_ _ | refine kDr ?_ | refine kAl ?_ _)); exact BK296.out⟩, ⟨by (with_reducible repeat (first | refine kDN ?_ _ | refine kDr ?_ | refine kAl ?_ _)); exact BK302.out⟩, ⟨by repeat (first | (with_reducible first | exact HB.out | apply bAl | apply bDN | apply bD1 | refine bSt ?_ GE287.out | refine bSt ?_ GE296.out | refine bSt ?_ GE302.out) | exact HB.out)⟩⟩
                ·rw [if_neg c52] at H
                 have c52b0 : (((rd_T60 t292 x12_4).f0) == 2) = false := beq_eq_false_iff_ne.mpr c52
                 have c52b1 : (((rd_T60 t292 x12_4).f0) != 2) = true := bne_iff_ne.mpr c52
                 have H' := Zs.mk H
                 clear H
                 obtain ⟨Ao56, co56, eo56⟩ := Kd.R_slice HO_6.out
                 subst eo56
                 have p303 : 0 ≤ (x12_4 : Int) := of_decide_eq_true (by first | (with_reducible assumption) | assumption)
                 have q303 : x12_4 < (t292.length : Int) := of_decide_eq_true (by first | (with_reducible assumption) | assumption)
                 obtain ⟨ad303, e303, hx303_0, hx303_1, hx303_2⟩ := at_T60 (Kd.R_reads' HO_6.out).2.2 x12_4 p303 q303
                 cases e303
                 replace p303 := eq_true p303
                 replace q303 := eq_true q303
                 go_wp2
                 go_roundg k4
                 case measure => have := HJ4.out; have := HK2.out; have := HJ28.out; have := HK4.out; omega
                 case rel => exact ⟨(x11_4), (wrap64 (x12_4 + 1)), (by first | rfl | (simp; done) | (simp [*]; done)), (by first | rfl | (simp; done) | (simp [*]; done)), H', ⟨by have := HJ4.out; have := HK2.out; have := HJ28.out; have := HK4.out; omega⟩, ⟨by (with_reducible repeat (first | apply Kd.R_alloc | apply Kd.R_drewN | apply Kd.R_drew)); exact HO_6.out⟩, ⟨by (with_reducible repeat (first | apply Kd.Q_alloc | apply Kd.Q_drewN | apply Kd.Q_drew)); exact HO_288001.out⟩, ⟨by (with_reducible repeat (first | apply Kd.Q_alloc | apply Kd.Q_drewN | apply Kd.Q_drew)); exact HO_303001.out⟩, ⟨by (with_reducible repeat (first | refine kDN ?_ _ | refine kDr ?_ | refine kAl ?_ _)); exact BK287.out⟩, ⟨by (with_reducible repeat (first | refine kDN ?_ _ | refine kDr ?_ | refine kAl ?_ _)); exact BK296.out⟩, ⟨by (with_reducible repeat (first | refine kDN ?_ _ | refine kDr ?_ | refine kAl ?_ _)); exact BK302.out⟩, ⟨by repeat (first | (with_reducible first | exact HB.out | apply bAl | apply bDN | apply bD1 | refine bSt ?_ GE287.out | refine bSt ?_ GE296.out | refine bSt ?_ GE302.out) | exact HB.out)⟩⟩
               ·rw [if_neg c51] at H
                exact absurd H (by simp)
              ·rw [if_neg c50] at H
               have c50b0 : decide (x12_4 < (t292.length : Int)) = false := decide_eq_false c50
               clear c50
               replace H := Option.bind_eq_some_iff.mp H
               obtain ⟨t306, A570, H⟩ := H
               replace H : (if t306 = (wrap64 (t288 + x11_4)) then (laws_FnLightMore.l0 k4 t286 t288 t292 (wrap64 (x7_2 + 1)) t282 t283) else (some false)) = some r := H
               have A57 := Zs.mk A570
               clear A570
               by_cases c58 : t306 = (wrap64 (t288 + x11_4))
               ·rw [if_pos c58] at H
                have c58b0 : (t306 == (wrap64 (t288 + x11_4))) = true := beq_iff_eq.mpr c58
                have c58b1 : (t306 != (wrap64 (t288 + x11_4))) = false := bne_eq_false_iff_eq.mpr c58
                clear c58
                have H' := Zs.mk H
                clear H
                obtain ⟨Ao59, co59, eo59⟩ := Kd.R_slice HO_6.out
                subst eo59
                have hnb60 := NB302_287.out
                have hnc60 := NB287_302.out
                have hnb61 := NB302_296.out
                have hnc61 := NB296_302.out
                have hcz62_0 : wr.cell? ⟨gb302, 0, none⟩ = some (.int .i64 t297) := (kCe BK302.out 0).trans rfl
                have hcz62_1 : wr.cell? ⟨gb302, 1, none⟩ = some (.slice Ao49 t298.length co49) := (kCe BK302.out 1).trans rfl
                have hfz62_0 := kFr BK302.out 0
                have hfz62_1 := kFr BK302.out 1
                go_wp2_with (first | ((with_reducible refine gate_callee (f := 32) rfl ?_); refine goesL_ (some 103) rfl rfl Try.func32 (by kernel_rfl) rfl #[.agg #[.int .i64 t297, .slice Ao49 t298.length co49], .int .i64 t286] rfl (by (try simp only [List.map_toArray, List.map_cons, List.map_nil]); first | done | rfl | (simp only [List.length_drop, List.length_take]; rfl)) ?_; (with_reducible refine (impl_TrailLight.calls k4 t297 _ _ t298 t286 t306 _ ?side1 ?side2 A57.out).mono ?_); (case side1 => repeat (first | exact (Kd.Q_reads' HO_303001.out).2.2 | (with_reducible refine Kd.C_alloc ?_ _) | (with_reducible refine Kd.C_drewN ?_ _) | (with_reducible refine Kd.C_drew ?_))); (case side2 => exact (Kd.Q_reads' HO_303001.out).2.1); rintro e w63 ⟨rfl, hb⟩; refine ⟨_, rfl, ?_⟩; have n0_ := Zs.mk (Kd.R_below (by (with_reducible repeat (first | apply Kd.R_alloc | apply Kd.R_drewN | apply Kd.R_drew)); exact HO_6.out) hb); have n1_ := Zs.mk (Kd.Q_below (by (with_reducible repeat (first | apply Kd.Q_alloc | apply Kd.Q_drewN | apply Kd.Q_drew)); exact HO_288001.out) hb); have n2_ := Zs.mk (Kd.Q_below (by (with_reducible repeat (first | apply Kd.Q_alloc | apply Kd.Q_drewN | apply Kd.Q_drew)); exact HO_303001.out) hb); have n3_ := Zs.mk (kBe (g := gb287) (o := .cells #[.int .i64 t282, .slice (some ad295) t283.length co9] 25 (0, 0)) (by (with_reducible repeat (first | refine kDN ?_ _ | refine kDr ?_ | refine kAl ?_ _)); exact BK287.out) hb); have n4_ := Zs.mk (kBe (g := gb296) (o := .cells #[.int .i64 ((rd_T57 t283 x7_2).f0), .int .i64 ((rd_T57 t283 x7_2).f1)] 57 (0, 0)) (by (with_reducible repeat (first | refine kDN ?_ _ | refine kDr ?_ | refine kAl ?_ _)); exact BK296.out) hb); have n5_ := Zs.mk (kBe (g := gb302) (o := .cells #[.int .i64 t297, .slice Ao49 t298.length co49] 25 (0, 0)) (by (with_reducible repeat (first | refine kDN ?_ _ | refine kDr ?_ | refine kAl ?_ _)); exact BK302.out) hb); have n6_ := Zs.mk (bSp (by repeat (first | (with_reducible first | exact HB.out | apply bAl | apply bDN | apply bD1 | refine bSt ?_ GE287.out | refine bSt ?_ GE296.out | refine bSt ?_ GE302.out) | exact HB.out)) hb); clear HO_6; clear HO_288001; clear HO_303001; clear BK287; clear BK296; clear BK302; clear HB; have HO_6 := n0_; have HO_288001 := n1_; have HO_303001 := n2_; have BK287 := n3_; have BK296 := n4_; have BK302 := n5_; have HB := n6_; clear n0_ n1_ n2_ n3_ n4_ n5_ n6_; (try clear hb); (try clear hb2); (try clear hk); (try clear hi)))
                go_roundg k4
                case measure => have := HJ4.out; have := HK2.out; have := HJ28.out; have := HK4.out; omega
                case rel => exact ⟨(wrap64 (x7_2 + 1)), (by first | rfl | (simp; done) | (simp [*]; done)), H', ⟨by have := HJ4.out; have := HK2.out; have := HJ28.out; have := HK4.out; omega⟩, ⟨by (with_reducible repeat (first | apply Kd.R_alloc | apply Kd.R_drewN | apply Kd.R_drew)); exact HO_6.out⟩, ⟨by (with_reducible repeat (first | apply Kd.Q_alloc | apply Kd.Q_drewN | apply Kd.Q_drew)); exact Kd.Q_mono HO_288001.out (fun _ hk => trivial)⟩, ⟨by (with_reducible repeat (first | refine kDN ?_ _ | refine kDr ?_ | refine kAl ?_ _)); exact BK287.out⟩, ⟨by repeat (first | (with_reducible first | exact HB.out | apply bAl | apply bDN | apply bD1 | refine bSt ?_ GE287.out | refine bSt ?_ GE296.out | refine bSt ?_ GE302.out) | exact HB.out)⟩⟩
               ·rw [if_neg c58] at H
                have c58b0 : (t306 == (wrap64 (t288 + x11_4))) = false := beq_eq_false_iff_ne.mpr c58
                have c58b1 : (t306 != (wrap64 (t288 + x11_4))) = true := bne_iff_ne.mpr c58
                obtain rfl := Option.some.inj H
                obtain ⟨Ao64, co64, eo64⟩ := Kd.R_slice HO_6.out
                subst eo64
                have hnb65 := NB302_287.out
                have hnc65 := NB287_302.out
                have hnb66 := NB302_296.out
                have hnc66 := NB296_302.out
                have hcz67_0 : wr.cell? ⟨gb302, 0, none⟩ = some (.int .i64 t297) := (kCe BK302.out 0).trans rfl
                have hcz67_1 : wr.cell? ⟨gb302, 1, none⟩ = some (.slice Ao49 t298.length co49) := (kCe BK302.out 1).trans rfl
                have hfz67_0 := kFr BK302.out 0
                have hfz67_1 := kFr BK302.out 1
                go_wp2_with (first | ((with_reducible refine gate_callee (f := 32) rfl ?_); refine goesL_ (some 103) rfl rfl Try.func32 (by kernel_rfl) rfl #[.agg #[.int .i64 t297, .slice Ao49 t298.length co49], .int .i64 t286] rfl (by (try simp only [List.map_toArray, List.map_cons, List.map_nil]); first | done | rfl | (simp only [List.length_drop, List.length_take]; rfl)) ?_; (with_reducible refine (impl_TrailLight.calls k4 t297 _ _ t298 t286 t306 _ ?side1 ?side2 A57.out).mono ?_); (case side1 => repeat (first | exact (Kd.Q_reads' HO_303001.out).2.2 | (with_reducible refine Kd.C_alloc ?_ _) | (with_reducible refine Kd.C_drewN ?_ _) | (with_reducible refine Kd.C_drew ?_))); (case side2 => exact (Kd.Q_reads' HO_303001.out).2.1); rintro e w68 ⟨rfl, hb⟩; refine ⟨_, rfl, ?_⟩; have n0_ := Zs.mk (Kd.R_below (by (with_reducible repeat (first | apply Kd.R_alloc | apply Kd.R_drewN | apply Kd.R_drew)); exact HO_6.out) hb); have n1_ := Zs.mk (Kd.Q_below (by (with_reducible repeat (first | apply Kd.Q_alloc | apply Kd.Q_drewN | apply Kd.Q_drew)); exact HO_288001.out) hb); have n2_ := Zs.mk (Kd.Q_below (by (with_reducible repeat (first | apply Kd.Q_alloc | apply Kd.Q_drewN | apply Kd.Q_drew)); exact HO_303001.out) hb); have n3_ := Zs.mk (kBe (g := gb287) (o := .cells #[.int .i64 t282, .slice (some ad295) t283.length co9] 25 (0, 0)) (by (with_reducible repeat (first | refine kDN ?_ _ | refine kDr ?_ | refine kAl ?_ _)); exact BK287.out) hb); have n4_ := Zs.mk (kBe (g := gb296) (o := .cells #[.int .i64 ((rd_T57 t283 x7_2).f0), .int .i64 ((rd_T57 t283 x7_2).f1)] 57 (0, 0)) (by (with_reducible repeat (first | refine kDN ?_ _ | refine kDr ?_ | refine kAl ?_ _)); exact BK296.out) hb); have n5_ := Zs.mk (kBe (g := gb302) (o := .cells #[.int .i64 t297, .slice Ao49 t298.length co49] 25 (0, 0)) (by (with_reducible repeat (first | refine kDN ?_ _ | refine kDr ?_ | refine kAl ?_ _)); exact BK302.out) hb); have n6_ := Zs.mk (bSp (by repeat (first | (with_reducible first | exact HB.out | apply bAl | apply bDN | apply bD1 | refine bSt ?_ GE287.out | refine bSt ?_ GE296.out | refine bSt ?_ GE302.out) | exact HB.out)) hb); clear HO_6; clear HO_288001; clear HO_303001; clear BK287; clear BK296; clear BK302; clear HB; have HO_6 := n0_; have HO_288001 := n1_; have HO_303001 := n2_; have BK287 := n3_; have BK296 := n4_; have BK302 := n5_; have HB := n6_; clear n0_ n1_ n2_ n3_ n4_ n5_ n6_; (try clear hb); (try clear hb2); (try clear hk); (try clear hi)))
                go_ret
                exact ⟨by first | rfl | (simp [errW_none, errW_some] <;> rfl) | (simp [*, errW_none, errW_some] <;> rfl), by repeat (first | (with_reducible first | exact HB.out | apply bAl | apply bDN | apply bD1 | refine bSt ?_ GE287.out | refine bSt ?_ GE296.out | refine bSt ?_ GE302.out) | exact HB.out)⟩
           ·replace c39 := Bool.eq_false_iff.mpr c39
            subst c39
            have H1 : (laws_FnLightMore.l0 kj28 t286 t288 t292 (wrap64 (x7_2 + 1)) t282 t283) = some r := by rw [if_neg (show ¬ (false = true) by decide)] at H; exact H
            clear H
            have H := H1
            clear H1
            have H' := Zs.mk H
            clear H
            go_wp2
            go_roundg kj28
            case measure => have := HJ4.out; have := HK2.out; have := HJ28.out; omega
            case rel => exact ⟨(wrap64 (x7_2 + 1)), (by first | rfl | (simp; done) | (simp [*]; done)), H', ⟨by have := HJ4.out; have := HK2.out; have := HJ28.out; omega⟩, ⟨by (with_reducible repeat (first | apply Kd.R_alloc | apply Kd.R_drewN | apply Kd.R_drew)); exact HO_6.out⟩, ⟨by (with_reducible repeat (first | apply Kd.Q_alloc | apply Kd.Q_drewN | apply Kd.Q_drew)); exact Kd.Q_mono HO_288001.out (fun _ hk => trivial)⟩, ⟨by (with_reducible repeat (first | refine kDN ?_ _ | refine kDr ?_ | refine kAl ?_ _)); exact BK287.out⟩, ⟨by repeat (first | (with_reducible first | exact HB.out | apply bAl | apply bDN | apply bD1 | refine bSt ?_ GE287.out | refine bSt ?_ GE296.out) | exact HB.out)⟩⟩
        ·rw [if_neg c28] at H
         exact absurd H (by simp)
       ·rw [if_neg c27] at H
        have c27b0 : decide (x7_2 < (t283.length : Int)) = false := decide_eq_false c27
        clear c27
        obtain rfl := Option.some.inj H
        have hcz69_0 : wr.cell? ⟨gb287, 0, none⟩ = some (.int .i64 t282) := (kCe BK287.out 0).trans rfl
        have hcz69_1 : wr.cell? ⟨gb287, 1, none⟩ = some (.slice Ao9 t283.length co9) := (kCe BK287.out 1).trans rfl
        have hfz69_0 := kFr BK287.out 0
        have hfz69_1 := kFr BK287.out 1
        go_wp2
        go_ret
        exact ⟨by first | rfl | (simp [errW_none, errW_some] <;> rfl) | (simp [*, errW_none, errW_some] <;> rfl), by repeat (first | (with_reducible first | exact HB.out | apply bAl | apply bDN | apply bD1 | refine bSt ?_ GE287.out) | exact HB.out)⟩

/-- THE ONE PURE STATEMENT of laws_FnLightMore: yours. -/
def laws_FnLightMore.Pure : Prop := ∀ (l0 : List Int), l0.length ≤ maxLen → l0.length * 1 ≤ 140737488351232 → (∀ with_reducible_ ∈ l0, (Lit.int .u8 with_reducible_).wf = true) → ∃ k, laws_FnLightMore.f k l0 = some true
theorem laws_FnLightMore.walk (P : laws_FnLightMore.Pure) (a0 : Option Addr) (len0 cap0 : Nat) (z0 : List Int) (w : World) (w0 : (a0 = none ∧ len0 = 0 ∧ cap0 = 0 ∧ z0 = []) ∨ ∃ with_reducible_, a0 = some with_reducible_ ∧ len0 ≤ cap0 ∧ cap0 ≤ maxLen ∧ z0.length = cap0 ∧ (∀ i, i < z0.length → w.cell? (with_reducible_.add i) = some (.int .u8 (z0.getD i 0))) ∧ ∀ n ∈ z0, (Lit.int .u8 n).wf = true) (y0 : len0 * 1 ≤ 140737488351232) :
  Calls Try.prog 6 #[.slice a0 len0 cap0] w fun e w' => e = .returned (.bool true) ∧ Below w.heap.size w w' := by
 obtain ⟨l0, rfl, hr0, hm0, hw0, hc0⟩ := ReadsInt.ofRowC w0
 obtain ⟨k, h⟩ := P l0 hm0 y0 hw0
 refine (laws_FnLightMore.calls k _ _ l0 true w (Kd.C_of_reads (d := (0 : Int)) (h1 := fun _ => rfl) hr0) hc0 h).mono ?_
 rintro e w' ⟨rfl, hd⟩
 exact ⟨rfl, hd⟩

end Go.Proofs.Ytefbfeaeifbjeaa.PFnLightMore
--slim
