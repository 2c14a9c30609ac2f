-- Written by a program of this session: the kit's print, with functions among it that were proved by hand.
import Derived.Test.YtefbfeaeifbjeaaPFnLightMorex0
import Derived.Test.YtefbfeaeifbjeaaPFnLightMorex20
import Derived.Test.YtefbfeaeifbjeaaPFnLightMorex21
import Derived.Test.YtefbfeaeifbjeaaPFnLightMorex22
import Derived.Test.YtefbfeaeifbjeaaPFnLightMorex26
import Derived.Test.YtefbfeaeifbjeaaPFnLightMorex27
namespace Go.Proofs.Ytefbfeaeifbjeaa.PFnLightMore
open Go.RowKit Go.Proofs.YtefbfeaeifbjeaaW.PrintWords Go.Proofs.YtefbfeaeifbjeaaW.PrintLast Go.Proofs.YtefbfeaeifbjeaaW.PrintMore
attribute [local go_sem] max2_int min2_int max_two min_two max_three min_three max_four min_four   -- for this text's walks alone
set_option linter.unusedVariables false
set_option linter.unusedSimpArgs false

/-! ### spec_DrawTrailLight: function 31 -/
mutual
def spec_DrawTrailLight.l0 : Nat → Int → List Int → Int → Int → List (S57) → Option (Int × (List (S57)) × Int)
 | 0, _, _, _, _, _ => none
 | k + 1, x6, x252000, x252001, x258000, x258001 => if x6 > 0 then (spec_DrawTrailLight.j1 k x6 (decide ((x258001.length : Int) > 0)) x252000 x252001 x258000 x258001) else (spec_DrawTrailLight.j1 k x6 false x252000 x252001 x258000 x258001)
def spec_DrawTrailLight.j1 : Nat → Int → Bool → List Int → Int → Int → List (S57) → Option (Int × (List (S57)) × Int)
 | 0, _, _, _, _, _, _ => none
 | k + 1, x6, x22, x252000, x252001, x258000, x258001 => if x22 = true then ((spec_l6Rd_pick.f k x252000 x252001 (x258001.length : Int)).bind fun bt260 => ((spec_l6Rd_pick.f k x252000 bt260.2 9).bind fun bt262 => (if 0 ≤ bt260.1 then (if bt260.1 < (x258001.length : Int) then (spec_DrawTrailLight.l0 k (wrap64 (x6 - 1)) x252000 bt262.2 x258000 (x258001.set (bt260.1 : Int).toNat (⟨7, wrap64 (1 + bt262.1)⟩ : S57))) else (none)) else (none)))) else ((spec_l71Sight.f k x252000 x252001 x258000 x258001).bind fun bt265 => (spec_DrawTrailLight.l1 k bt265.1 0 x252000 bt265.2 x258000 x258001))
def spec_DrawTrailLight.l1 : Nat → Int → Int → List Int → Int → Int → List (S57) → Option (Int × (List (S57)) × Int)
 | 0, _, _, _, _, _, _ => none
 | k + 1, x7, x8, x252000, x252001, x258000, x258001 => if x8 < 8 then ((spec_l6Rd_pick.f k x252000 x252001 8).bind fun bt267 => (if bt267.1 > 0 then ((spec_TrailLight.f k x258000 x258001 x7).bind fun t269 => (if t269 = 0 then ((spec_l71Sight.f k x252000 bt267.2 x258000 x258001).bind fun bt270 => (spec_DrawTrailLight.l1 k bt270.1 (wrap64 (x8 + 1)) x252000 bt270.2 x258000 x258001)) else (some (x258000, x258001, x7)))) else (some (x258000, x258001, x7)))) else (some (x258000, x258001, x7))
end
def spec_DrawTrailLight.f (k : Nat) (l0 : List Int) : Option (Int × (List (S57)) × Int) := (spec_l6Open.f l0).bind fun bt249 => ((spec_l71Some.f k bt249.1 bt249.2).bind fun bt252 => ((spec_l6Rd_pick.f k bt249.1 bt252.2.2 3).bind fun bt258 => (spec_DrawTrailLight.l0 k bt258.1 bt249.1 bt258.2 bt252.1 bt252.2.1)))
theorem spec_DrawTrailLight.mono_l : ∀ k, (∀ y0 y1 y2 y3 y4, LeO (spec_DrawTrailLight.l0 k y0 y1 y2 y3 y4) (spec_DrawTrailLight.l0 (k + 1) y0 y1 y2 y3 y4)) ∧ (∀ y0 y1 y2 y3 y4 y5, LeO (spec_DrawTrailLight.j1 k y0 y1 y2 y3 y4 y5) (spec_DrawTrailLight.j1 (k + 1) y0 y1 y2 y3 y4 y5)) ∧ (∀ y0 y1 y2 y3 y4 y5, LeO (spec_DrawTrailLight.l1 k y0 y1 y2 y3 y4 y5) (spec_DrawTrailLight.l1 (k + 1) y0 y1 y2 y3 y4 y5))
 | 0 => ⟨fun _ _ _ _ _ r h => by simp [spec_DrawTrailLight.l0] at h, fun _ _ _ _ _ _ r h => by simp [spec_DrawTrailLight.j1] at h, fun _ _ _ _ _ _ r h => by simp [spec_DrawTrailLight.l1] at h⟩
 | k + 1 => by
  obtain ⟨ih0, ih1, ih2⟩ := spec_DrawTrailLight.mono_l k
  refine ⟨?_, ?_, ?_⟩
  ·intro y0 y1 y2 y3 y4
   unfold spec_DrawTrailLight.l0
   repeat' first
   | (with_reducible exact ih0 _ _ _ _ _)
   | (with_reducible exact ih1 _ _ _ _ _ _)
   | (with_reducible exact ih2 _ _ _ _ _ _)
   | (with_reducible exact spec_TrailLight.mono _ _ _ _)
   | (with_reducible exact spec_l6Rd_pick.mono _ _ _ _)
   | (with_reducible exact spec_l71Sight.mono _ _ _ _ _)
   | (with_reducible exact spec_l71Some.mono _ _ _)
   | (with_reducible exact LeO.refl _)
   | (with_reducible exact LeO.none _)
   | (with_reducible refine LeO.ite ?_ ?_)
   | (with_reducible refine LeO.bind ?_ (fun _ => ?_))
   | exact ih0 _ _ _ _ _
   | exact ih1 _ _ _ _ _ _
   | exact ih2 _ _ _ _ _ _
   | exact spec_TrailLight.mono _ _ _ _
   | exact spec_l6Rd_pick.mono _ _ _ _
   | exact spec_l71Sight.mono _ _ _ _ _
   | exact spec_l71Some.mono _ _ _
   | exact LeO.none _
   | refine LeO.ite ?_ ?_
   | refine LeO.bind ?_ (fun _ => ?_)
  ·intro y0 y1 y2 y3 y4 y5
   unfold spec_DrawTrailLight.j1
   repeat' first
   | (with_reducible exact ih0 _ _ _ _ _)
   | (with_reducible exact ih1 _ _ _ _ _ _)
   | (with_reducible exact ih2 _ _ _ _ _ _)
   | (with_reducible exact spec_TrailLight.mono _ _ _ _)
   | (with_reducible exact spec_l6Rd_pick.mono _ _ _ _)
   | (with_reducible exact spec_l71Sight.mono _ _ _ _ _)
   | (with_reducible exact spec_l71Some.mono _ _ _)
   | (with_reducible exact LeO.refl _)
   | (with_reducible exact LeO.none _)
   | (with_reducible refine LeO.ite ?_ ?_)
   | (with_reducible refine LeO.bind ?_ (fun _ => ?_))
   | exact ih0 _ _ _ _ _
   | exact ih1 _ _ _ _ _ _
   | exact ih2 _ _ _ _ _ _
   | exact spec_TrailLight.mono _ _ _ _
   | exact spec_l6Rd_pick.mono _ _ _ _
   | exact spec_l71Sight.mono _ _ _ _ _
   | exact spec_l71Some.mono _ _ _
   | exact LeO.none _
   | refine LeO.ite ?_ ?_
   | refine LeO.bind ?_ (fun _ => ?_)
  ·intro y0 y1 y2 y3 y4 y5
   unfold spec_DrawTrailLight.l1
   repeat' first
   | (with_reducible exact ih0 _ _ _ _ _)
   | (with_reducible exact ih1 _ _ _ _ _ _)
   | (with_reducible exact ih2 _ _ _ _ _ _)
   | (with_reducible exact spec_TrailLight.mono _ _ _ _)
   | (with_reducible exact spec_l6Rd_pick.mono _ _ _ _)
   | (with_reducible exact spec_l71Sight.mono _ _ _ _ _)
   | (with_reducible exact spec_l71Some.mono _ _ _)
   | (with_reducible exact LeO.refl _)
   | (with_reducible exact LeO.none _)
   | (with_reducible refine LeO.ite ?_ ?_)
   | (with_reducible refine LeO.bind ?_ (fun _ => ?_))
   | exact ih0 _ _ _ _ _
   | exact ih1 _ _ _ _ _ _
   | exact ih2 _ _ _ _ _ _
   | exact spec_TrailLight.mono _ _ _ _
   | exact spec_l6Rd_pick.mono _ _ _ _
   | exact spec_l71Sight.mono _ _ _ _ _
   | exact spec_l71Some.mono _ _ _
   | exact LeO.none _
   | refine LeO.ite ?_ ?_
   | refine LeO.bind ?_ (fun _ => ?_)
theorem spec_DrawTrailLight.mono : ∀ a0 k, LeO (spec_DrawTrailLight.f k a0) (spec_DrawTrailLight.f (k + 1) a0) := by
 intro a0 k
 obtain ⟨ih0, ih1, ih2⟩ := spec_DrawTrailLight.mono_l k
 unfold spec_DrawTrailLight.f
 repeat' first
   | (with_reducible exact ih0 _ _ _ _ _)
   | (with_reducible exact ih1 _ _ _ _ _ _)
   | (with_reducible exact ih2 _ _ _ _ _ _)
   | (with_reducible exact spec_TrailLight.mono _ _ _ _)
   | (with_reducible exact spec_l6Rd_pick.mono _ _ _ _)
   | (with_reducible exact spec_l71Sight.mono _ _ _ _ _)
   | (with_reducible exact spec_l71Some.mono _ _ _)
   | (with_reducible exact LeO.refl _)
   | (with_reducible exact LeO.none _)
   | (with_reducible refine LeO.ite ?_ ?_)
   | (with_reducible refine LeO.bind ?_ (fun _ => ?_))
   | exact ih0 _ _ _ _ _
   | exact ih1 _ _ _ _ _ _
   | exact ih2 _ _ _ _ _ _
   | exact spec_TrailLight.mono _ _ _ _
   | exact spec_l6Rd_pick.mono _ _ _ _
   | exact spec_l71Sight.mono _ _ _ _ _
   | exact spec_l71Some.mono _ _ _
   | exact LeO.none _
   | refine LeO.ite ?_ ?_
   | refine LeO.bind ?_ (fun _ => ?_)
def spec_DrawTrailLight.T6 : Bool × List (List Nat × List Nat) := (true, [([], []), ([0], [0]), ([], []), ([], []), ([3], [3]), ([4], [4]), ([2, 5], [2, 5]), ([], []), ([7, 6], [7]), ([8], [8]), ([9], [9]), ([1, 6, 0, 1, 2, 3, 4, 5, 6, 7, 8, 9, 10], [1, 6]), ([11, 10, 8, 0, 1, 2, 3, 4, 5, 6, 7, 8, 9, 10], [10, 11])])
def spec_DrawTrailLight.B6 : List Nat := [0, 1, 0, 0, 8, 24, 60, 0, 252, 508, 1020, 2047, 4095]
theorem spec_DrawTrailLight.tab6 : rtab .any (opsOf Try.f31 6) = spec_DrawTrailLight.T6 := by kernel_rfl
theorem spec_DrawTrailLight.bits6 : waitsOk spec_DrawTrailLight.T6.2 spec_DrawTrailLight.B6 = true := by kernel_rfl
set_option maxHeartbeats 8000000 in
set_option maxRecDepth 100000 in
theorem spec_DrawTrailLight.calls (k : Nat) (A0 : Option Addr) (c0 : Nat) (l0 : List Int) (r1 : Int) (r2 : List (S57)) (r3 : Int) (w : World) (hr0 : Kd.C (Kd.int .u8) w A0 l0.length l0) (hc0 : l0.length ≤ c0) (h : spec_DrawTrailLight.f k l0 = some (r1, r2, r3)) :
  Calls Try.prog 31 #[.slice A0 l0.length c0] w fun e w' => ∃ v1_ : Value, e = .returned (.tuple #[.agg #[.int .i64 r1, v1_], .int .i64 r3]) ∧ Kd.Q k57 57 w' w.heap.size (fun _ => True) v1_ r2 ∧ Below w.heap.size w w' := by
 have hu25 := Try.underlying25
 have hu57 := Try.underlying57
 have HR0 := Zs.mk hr0
 have HC0 := Zs.mk hc0
 clear hr0 hc0
 have HB := Zs.mk (Below.refl w.heap.size w)
 have H : ((spec_l6Open.f l0).bind fun bt249 => ((spec_l71Some.f k bt249.1 bt249.2).bind fun bt252 => ((spec_l6Rd_pick.f k bt249.1 bt252.2.2 3).bind fun bt258 => (spec_DrawTrailLight.l0 k bt258.1 bt249.1 bt258.2 bt252.1 bt252.2.1)))) = some (r1, r2, r3) := h
 clear h
 replace H := Option.bind_eq_some_iff.mp H
 obtain ⟨⟨t249, t250⟩, A20, H⟩ := H
 replace H : ((spec_l71Some.f k t249 t250).bind fun bt252 => ((spec_l6Rd_pick.f k t249 bt252.2.2 3).bind fun bt258 => (spec_DrawTrailLight.l0 k bt258.1 t249 bt258.2 bt252.1 bt252.2.1))) = some (r1, r2, r3) := H
 have A2 := Zs.mk A20
 clear A20
 replace H := Option.bind_eq_some_iff.mp H
 obtain ⟨⟨t252, t253, t256⟩, A30, H⟩ := H
 replace H : ((spec_l6Rd_pick.f k t249 t256 3).bind fun bt258 => (spec_DrawTrailLight.l0 k bt258.1 t249 bt258.2 t252 t253)) = some (r1, r2, r3) := H
 have A3 := Zs.mk A30
 clear A30
 replace H := Option.bind_eq_some_iff.mp H
 obtain ⟨⟨t258, t259⟩, A40, H⟩ := H
 replace H : (spec_DrawTrailLight.l0 k t258 t249 t259 t252 t253) = some (r1, r2, r3) := H
 have A4 := Zs.mk A40
 clear A40
 have H' := Zs.mk H
 clear H
 go_enter Try.func31, Try.ntmps31
 go_wp2_with (first | ((with_reducible refine gate_dst (N := 2) rfl ?_); (try (refine gate_guard (by rfl) ?_; dsimp only)); refine box_event ?hg (N := 2) ?hd (cs := #[.int .i64 0, .slice none 0 0]) (t := 25) ?hr ?_; (case hd => rfl); (case hg => rfl); (case hr => first | (go_simp; done) | (go_simp; rfl)); intro gb248 hg w5 hbox hb; have n0_ := Zs.mk (bSp (by repeat (first | (with_reducible first | exact HB.out | apply bAl | apply bDN | apply bD1) | exact HB.out)) hb); have n1_ := Zs.mk (hbox); have n2_ := Zs.mk ((by rw [hg]; exact (bSz (by repeat (first | (with_reducible first | exact HB.out | apply bAl | apply bDN | apply bD1) | exact HB.out))) : w.heap.size ≤ gb248)); have n3_ := Zs.mk ((by rw [hg]; exact (bSz (by repeat (first | (with_reducible first | exact HB.out | apply bAl | apply bDN | apply bD1) | exact HB.out))) : w.heap.size ≤ gb248)); clear HB; have HB := n0_; have BK248 := n1_; have GW248 := n2_; have GE248 := n3_; clear n0_ n1_ n2_ n3_; clear hb hbox hg) | ((with_reducible refine gate_callee (f := 39) rfl ?_); refine goesL_ (some 10) rfl rfl Try.func39 (by kernel_rfl) rfl #[.slice A0 l0.length c0] rfl (by (try simp only [List.map_toArray, List.map_cons, List.map_nil]); first | done | rfl | (simp only [List.length_drop, List.length_take]; rfl)) ?_; (with_reducible refine (spec_l6Open.calls _ _ l0 t249 t250 w _ ?side1 ?side2 ?side3 A2.out).mono ?_); (case side1 => repeat (first | (with_reducible first | exact HB.out | apply bAl | apply bDN | apply bD1 | refine bSt ?_ GE248.out) | exact HB.out)); (case side2 => exact HR0.out); (case side3 => exact HC0.out); rintro e w6 ⟨g251, rfl, hi, hb, hb2⟩; refine ⟨_, rfl, ?_⟩; have n0_ := Zs.mk (kBe (g := gb248) (o := .cells #[.int .i64 0, .slice none 0 0] 25 (0, 0)) (by (with_reducible repeat (first | refine kDN ?_ _ | refine kDr ?_ | refine kAl ?_ _)); exact BK248.out) hb2); have n1_ := Zs.mk (hb); have n2_ := Zs.mk (hi); have n3_ := Zs.mk (IsS91.ne_blk hi (kBe (g := gb248) (o := .cells #[.int .i64 0, .slice none 0 0] 25 (0, 0)) (by (with_reducible repeat (first | refine kDN ?_ _ | refine kDr ?_ | refine kAl ?_ _)); exact BK248.out) hb2) (by decide)); have n4_ := Zs.mk (Ne.symm (IsS91.ne_blk hi (kBe (g := gb248) (o := .cells #[.int .i64 0, .slice none 0 0] 25 (0, 0)) (by (with_reducible repeat (first | refine kDN ?_ _ | refine kDr ?_ | refine kAl ?_ _)); exact BK248.out) hb2) (by decide))); clear BK248; clear HB; have BK248 := n0_; have HB := n1_; have HI251 := n2_; have NB251_248 := n3_; have NB248_251 := n4_; clear n0_ n1_ n2_ n3_ n4_; (try clear hb); (try clear hb2); (try clear hk); (try clear hi)) | ((with_reducible refine gate_callee (f := 40) rfl ?_); refine goesL_ (some 12) rfl rfl Try.func40 (by kernel_rfl) rfl #[.pointer (some ⟨g251, 0, none⟩)] rfl (by (try simp only [List.map_toArray, List.map_cons, List.map_nil]); first | done | rfl | (simp only [List.length_drop, List.length_take]; rfl)) ?_; (with_reducible refine (spec_l71Some.calls k g251 t249 t250 t252 t253 t256 w _ ?side1 ?side2 A3.out).mono ?_); (case side1 => repeat (first | (with_reducible first | exact HI251.out | apply IsS91.alloc | apply IsS91.drewN | apply IsS91.drew | apply IsS91.set_1 | refine IsS91.far ?_ NB251_248.out _) | exact HI251.out)); (case side2 => repeat (first | (with_reducible first | exact HB.out | apply bAl | apply bDN | apply bD1 | refine bSt ?_ (IsS91.ge HI251.out) | refine bSt ?_ GE248.out) | exact HB.out)); rintro e w7 ⟨v254, rfl, ho0, hi, hb, hk⟩; refine ⟨_, rfl, ?_⟩; have n0_ := Zs.mk (KeepBut.blk hk (g' := gb248) (o := .cells #[.int .i64 0, .slice none 0 0] 25 (0, 0)) (by (with_reducible repeat (first | refine kDN ?_ _ | refine kDr ?_ | refine kAl ?_ _)); exact BK248.out) NB248_251.out (by simp)); have n1_ := Zs.mk (Kd.Q_lower ho0 (bSz (by repeat (first | (with_reducible first | exact HB.out | apply bAl | apply bDN | apply bD1 | refine bSt ?_ (IsS91.ge HI251.out) | refine bSt ?_ GE248.out) | exact HB.out)))); have n2_ := Zs.mk (hb); have n3_ := Zs.mk (hi); clear BK248; clear HB; clear HI251; have BK248 := n0_; have HO255 := n1_; have HB := n2_; have HI251 := n3_; clear n0_ n1_ n2_ n3_; (try clear hb); (try clear hb2); (try clear hk); (try clear hi); (try clear ho0)) | ((with_reducible refine gate_dst (N := 5) rfl ?_); (try (refine gate_guard (by rfl) ?_; dsimp only)); refine box_event ?hg (N := 5) ?hd (cs := #[.int .i64 0, .slice none 0 0]) (t := 25) ?hr ?_; (case hd => rfl); (case hg => rfl); (case hr => first | (go_simp; done) | (go_simp; rfl)); intro gb257 hg w8 hbox hb; have n0_ := Zs.mk (Kd.Q_below (by (with_reducible repeat (first | apply Kd.Q_alloc | apply Kd.Q_drewN | apply Kd.Q_drew)); exact HO255.out) hb); have n1_ := Zs.mk (kBe (g := gb248) (o := .cells #[.int .i64 0, .slice none 0 0] 25 (0, 0)) (by (with_reducible repeat (first | refine kDN ?_ _ | refine kDr ?_ | refine kAl ?_ _)); exact BK248.out) hb); have n2_ := Zs.mk (IsS91.below (by repeat (first | (with_reducible first | exact HI251.out | apply IsS91.alloc | apply IsS91.drewN | apply IsS91.drew | apply IsS91.set_1 | refine IsS91.far ?_ NB251_248.out _) | exact HI251.out)) hb); have n3_ := Zs.mk (bSp (by repeat (first | (with_reducible first | exact HB.out | apply bAl | apply bDN | apply bD1 | refine bSt ?_ (IsS91.ge HI251.out) | refine bSt ?_ GE248.out) | exact HB.out)) hb); have n4_ := Zs.mk (hbox); have n5_ := Zs.mk ((by rw [hg]; exact (bSz (by repeat (first | (with_reducible first | exact HB.out | apply bAl | apply bDN | apply bD1 | refine bSt ?_ (IsS91.ge HI251.out) | refine bSt ?_ GE248.out) | exact HB.out))) : w.heap.size ≤ gb257)); have n6_ := Zs.mk ((by rw [hg]; exact (bSz (by repeat (first | (with_reducible first | exact HB.out | apply bAl | apply bDN | apply bD1 | refine bSt ?_ (IsS91.ge HI251.out) | refine bSt ?_ GE248.out) | exact HB.out))) : w.heap.size ≤ gb257)); have n7_ := Zs.mk ((by rw [hg]; exact Nat.ne_of_lt (blk_lt (g := gb248) (o := .cells #[.int .i64 0, .slice none 0 0] 25 (0, 0)) (by (with_reducible repeat (first | refine kDN ?_ _ | refine kDr ?_ | refine kAl ?_ _)); exact BK248.out)) : gb248 ≠ gb257)); have n8_ := Zs.mk ((by rw [hg]; exact Nat.ne_of_gt (blk_lt (g := gb248) (o := .cells #[.int .i64 0, .slice none 0 0] 25 (0, 0)) (by (with_reducible repeat (first | refine kDN ?_ _ | refine kDr ?_ | refine kAl ?_ _)); exact BK248.out)) : gb257 ≠ gb248)); have n9_ := Zs.mk ((by rw [hg]; exact Nat.ne_of_lt (IsS91.lt (show IsS91 w _ g251 t249 t256 from by repeat (first | (with_reducible first | exact HI251.out | apply IsS91.alloc | apply IsS91.drewN | apply IsS91.drew | apply IsS91.set_1 | refine IsS91.far ?_ NB251_248.out _) | exact HI251.out))) : g251 ≠ gb257)); have n10_ := Zs.mk ((by rw [hg]; exact Nat.ne_of_gt (IsS91.lt (show IsS91 w _ g251 t249 t256 from by repeat (first | (with_reducible first | exact HI251.out | apply IsS91.alloc | apply IsS91.drewN | apply IsS91.drew | apply IsS91.set_1 | refine IsS91.far ?_ NB251_248.out _) | exact HI251.out))) : gb257 ≠ g251)); clear HO255; clear BK248; clear HI251; clear HB; have HO255 := n0_; have BK248 := n1_; have HI251 := n2_; have HB := n3_; have BK257 := n4_; have GW257 := n5_; have GE257 := n6_; have NB248_257 := n7_; have NB257_248 := n8_; have NB251_257 := n9_; have NB257_251 := n10_; clear n0_ n1_ n2_ n3_ n4_ n5_ n6_ n7_ n8_ n9_ n10_; clear hb hbox hg; have hnb9 := NB257_248.out; have hnc9 := NB248_257.out; have hnb10 := NB257_251.out; have hnc10 := NB251_257.out; have hcz11_0 : w8.cell? ⟨gb257, 0, none⟩ = some (.int .i64 0) := (kCe BK257.out 0).trans rfl; have hcz11_1 : w8.cell? ⟨gb257, 1, none⟩ = some (.slice none 0 0) := (kCe BK257.out 1).trans rfl; have hfz11_0 := kFr BK257.out 0; have hfz11_1 := kFr BK257.out 1; obtain ⟨Ao12, co12, eo12, _⟩ := Kd.Q_slice HO255.out; subst eo12) | ((with_reducible refine gate_callee (f := 41) rfl ?_); refine goesL_ (some 14) rfl rfl Try.func41 (by kernel_rfl) rfl #[.pointer (some ⟨g251, 0, none⟩), .int .i64 3] rfl (by (try simp only [List.map_toArray, List.map_cons, List.map_nil]); first | done | rfl | (simp only [List.length_drop, List.length_take]; rfl)) ?_; (with_reducible refine (spec_l6Rd_pick.calls k g251 t249 t256 3 t258 t259 w _ ?side1 ?side2 A4.out).mono ?_); (case side1 => repeat (first | (with_reducible first | exact HI251.out | apply IsS91.alloc | apply IsS91.drewN | apply IsS91.drew | apply IsS91.set_1 | refine IsS91.far ?_ NB251_248.out _ | refine IsS91.far ?_ NB251_257.out _) | exact HI251.out)); (case side2 => repeat (first | (with_reducible first | exact HB.out | apply bAl | apply bDN | apply bD1 | refine bSt ?_ (IsS91.ge HI251.out) | refine bSt ?_ GE248.out | refine bSt ?_ GE257.out) | exact HB.out)); rintro e w13 ⟨rfl, hi, hb, hk⟩; refine ⟨_, rfl, ?_⟩; have n0_ := Zs.mk (KeepBut.blk hk (g' := gb248) (o := .cells #[.int .i64 0, .slice none 0 0] 25 (0, 0)) (by (with_reducible repeat (first | refine kDN ?_ _ | refine kDr ?_ | refine kAl ?_ _)); refine blk_far ?_ NB248_257.out _; (with_reducible repeat (first | refine kDN ?_ _ | refine kDr ?_ | refine kAl ?_ _)); refine blk_far ?_ NB248_257.out _; (with_reducible repeat (first | refine kDN ?_ _ | refine kDr ?_ | refine kAl ?_ _)); exact BK248.out) NB248_251.out (by simp)); have n1_ := Zs.mk (Kd.Q_mono (Kd.Q_keep (IsS91.apartQ (show IsS91 w _ g251 t249 t256 from by repeat (first | (with_reducible first | exact HI251.out | apply IsS91.alloc | apply IsS91.drewN | apply IsS91.drew | apply IsS91.set_1 | refine IsS91.far ?_ NB251_248.out _ | refine IsS91.far ?_ NB251_257.out _) | exact HI251.out)) (by (with_reducible repeat (first | apply Kd.Q_alloc | apply Kd.Q_drewN | apply Kd.Q_drew)); exact (Kd.Q_mono (Kd.Q_far (p := ⟨gb257, 1, none⟩) (Kd.Q_far (p := ⟨gb257, 0, none⟩) (Kd.Q_types HO255.out BK257.out (by decide)) (fun _ hk => hk.2) (.int .i64 t252)) (fun _ hk => hk.2) (.slice Ao12 t253.length co12)) (fun _ h_ => h_.1))) (by decide)) hk (fun _ h => h.2)) (fun _ h => h.1)); have n2_ := Zs.mk (KeepBut.blk hk (g' := gb257) (o := .cells #[.int .i64 t252, .slice Ao12 t253.length co12] 25 (0, 0)) (by (with_reducible repeat (first | refine kDN ?_ _ | refine kDr ?_ | refine kAl ?_ _)); refine blk_put (cs := #[.int .i64 t252, .slice none 0 0]) ?_ 1 _ rfl; (with_reducible repeat (first | refine kDN ?_ _ | refine kDr ?_ | refine kAl ?_ _)); refine blk_put (cs := #[.int .i64 0, .slice none 0 0]) ?_ 0 _ rfl; (with_reducible repeat (first | refine kDN ?_ _ | refine kDr ?_ | refine kAl ?_ _)); exact BK257.out) NB257_251.out (by simp)); have n3_ := Zs.mk (hb); have n4_ := Zs.mk (hi); clear BK248; clear HO255; clear BK257; clear HB; clear HI251; have BK248 := n0_; have HO255 := n1_; have BK257 := n2_; have HB := n3_; have HI251 := n4_; clear n0_ n1_ n2_ n3_ n4_; (try clear hb); (try clear hb2); (try clear hk); (try clear hi)))
 go_loopg [6] k (fun kq v6 w' => ∃ (x6_1 : Int) (x252001_1 : Int) (x258001_1 : List (S57)) (u258001 : Value), v6 = .int .i64 x6_1 ∧ Zs (spec_DrawTrailLight.l0 kq x6_1 t249 x252001_1 t252 x258001_1 = some (r1, r2, r3)) ∧ Zs (kq ≤ k) ∧ Zs (Kd.Q k57 57 w' w.heap.size (fun _ => True) u258001 x258001_1) ∧ Zs (w'.heap[gb248]? = some (.cells #[.int .i64 0, (.slice none 0 0)] 25 (0, 0))) ∧ Zs (w'.heap[gb257]? = some (.cells #[.int .i64 t252, u258001] 25 (0, 0))) ∧ Zs (IsS91 w w' g251 t249 x252001_1) ∧ Zs (Below w.heap.size w w'))
 case atStart => exact ⟨(t258), (t259), (t253), (.slice Ao12 t253.length co12), (by first | rfl | (simp; done) | (simp [*]; done)), H', ⟨Nat.le_refl _⟩, ⟨by (with_reducible repeat (first | apply Kd.Q_alloc | apply Kd.Q_drewN | apply Kd.Q_drew)); exact HO255.out⟩, ⟨by (with_reducible repeat (first | refine kDN ?_ _ | refine kDr ?_ | refine kAl ?_ _)); exact BK248.out⟩, ⟨by (with_reducible repeat (first | refine kDN ?_ _ | refine kDr ?_ | refine kAl ?_ _)); exact BK257.out⟩, ⟨by repeat (first | (with_reducible first | exact HI251.out | apply IsS91.alloc | apply IsS91.drewN | apply IsS91.drew | apply IsS91.set_1 | refine IsS91.far ?_ NB251_248.out _ | refine IsS91.far ?_ NB251_257.out _) | exact HI251.out)⟩, ⟨by repeat (first | (with_reducible first | exact HB.out | apply bAl | apply bDN | apply bD1 | refine bSt ?_ (IsS91.ge HI251.out) | refine bSt ?_ GE248.out | refine bSt ?_ GE257.out) | exact HB.out)⟩⟩
 case round =>
  clear H'
  try clear c1
  try clear p2
  try clear c3
  try clear c4
  try clear c9
  try clear c10
  try clear hcz11_0
  try clear hcz11_1
  try clear hfz11_0
  try clear hfz11_1
  obtain ⟨x6_1, x252001_1, x258001_1, u258001, rfl, HA, HK1, HO_258001, BK248, BK257, HI251, HB⟩ := hrel
  cases gk with
  | zero => exact absurd HA.out (by simp [spec_DrawTrailLight.l0])
  | succ k1 =>
   have H := HA.out
   clear HA
   simp only [spec_DrawTrailLight.l0] at H
   have HC14 := Zs.mk H
   clear H
   go_upto_region 4 with (fail)
   go_cut [22] (fun v22 wc => ∃ (kq : Nat) (x22_13 : Bool), v22 = .bool x22_13 ∧ Zs (spec_DrawTrailLight.j1 kq x6_1 x22_13 t249 x252001_1 t252 x258001_1 = some (r1, r2, r3)) ∧ Zs (kq ≤ k1) ∧ Zs (Kd.Q k57 57 wc w.heap.size (fun _ => True) u258001 x258001_1) ∧ Zs (wc.heap[gb248]? = some (.cells #[.int .i64 0, (.slice none 0 0)] 25 (0, 0))) ∧ Zs (wc.heap[gb257]? = some (.cells #[.int .i64 t252, u258001] 25 (0, 0))) ∧ Zs (IsS91 w wc g251 t249 x252001_1) ∧ Zs (Below w.heap.size w wc))
   case first =>
    have H := HC14.out
    clear HC14
    by_cases c15 : x6_1 > 0
    ·rw [if_pos c15] at H
     have c15b0 : decide (0 < x6_1) = true := decide_eq_true c15
     clear c15
     (first | rw [c15b0] | (simp only [i64_w, i32_w]; rw [c15b0]) | skip)
     have H' := Zs.mk H
     clear H
     have hnb16 := NB257_248.out
     have hnc16 := NB248_257.out
     have hnb17 := NB257_251.out
     have hnc17 := NB251_257.out
     have hcz18_0 : wr.cell? ⟨gb257, 0, none⟩ = some (.int .i64 t252) := (kCe BK257.out 0).trans rfl
     have hcz18_1 : wr.cell? ⟨gb257, 1, none⟩ = some (u258001) := (kCe BK257.out 1).trans rfl
     have hfz18_0 := kFr BK257.out 0
     have hfz18_1 := kFr BK257.out 1
     obtain ⟨Ao19, co19, eo19, _⟩ := Kd.Q_slice HO_258001.out
     subst eo19
     go_wp2
     go_meet
     case rel => exact ⟨_, (decide ((x258001_1.length : Int) > 0)), (by first | rfl | (simp; done) | (simp [*]; done)), H', ⟨by have := HK1.out; first | omega | exact Nat.le_refl _⟩, ⟨by (with_reducible repeat (first | apply Kd.Q_alloc | apply Kd.Q_drewN | apply Kd.Q_drew)); exact HO_258001.out⟩, ⟨by (with_reducible repeat (first | refine kDN ?_ _ | refine kDr ?_ | refine kAl ?_ _)); exact BK248.out⟩, ⟨by (with_reducible repeat (first | refine kDN ?_ _ | refine kDr ?_ | refine kAl ?_ _)); exact BK257.out⟩, ⟨by repeat (first | (with_reducible first | exact HI251.out | apply IsS91.alloc | apply IsS91.drewN | apply IsS91.drew | apply IsS91.set_1 | refine IsS91.far ?_ NB251_248.out _ | refine IsS91.far ?_ NB251_257.out _) | exact HI251.out)⟩, ⟨by repeat (first | (with_reducible first | exact HB.out | apply bAl | apply bDN | apply bD1 | refine bSt ?_ (IsS91.ge HI251.out) | refine bSt ?_ GE248.out | refine bSt ?_ GE257.out) | exact HB.out)⟩⟩
    ·rw [if_neg c15] at H
     have c15b0 : decide (0 < x6_1) = false := decide_eq_false c15
     clear c15
     (first | rw [c15b0] | (simp only [i64_w, i32_w]; rw [c15b0]) | skip)
     have H' := Zs.mk H
     clear H
     go_wp2
     go_meet
     case rel => exact ⟨_, (false), (by first | rfl | (simp; done) | (simp [*]; done)), H', ⟨by have := HK1.out; first | omega | exact Nat.le_refl _⟩, ⟨by (with_reducible repeat (first | apply Kd.Q_alloc | apply Kd.Q_drewN | apply Kd.Q_drew)); exact HO_258001.out⟩, ⟨by (with_reducible repeat (first | refine kDN ?_ _ | refine kDr ?_ | refine kAl ?_ _)); exact BK248.out⟩, ⟨by (with_reducible repeat (first | refine kDN ?_ _ | refine kDr ?_ | refine kAl ?_ _)); exact BK257.out⟩, ⟨by repeat (first | (with_reducible first | exact HI251.out | apply IsS91.alloc | apply IsS91.drewN | apply IsS91.drew | apply IsS91.set_1 | refine IsS91.far ?_ NB251_248.out _ | refine IsS91.far ?_ NB251_257.out _) | exact HI251.out)⟩, ⟨by repeat (first | (with_reducible first | exact HB.out | apply bAl | apply bDN | apply bD1 | refine bSt ?_ (IsS91.ge HI251.out) | refine bSt ?_ GE248.out | refine bSt ?_ GE257.out) | exact HB.out)⟩⟩
   case rest =>
    clear HC14
    try clear c1
    try clear p2
    try clear c3
    try clear c4
    try clear c9
    try clear c10
    try clear c15
    try clear c15b0
    try clear c16
    try clear c17
    try clear hcz11_0
    try clear hcz11_1
    try clear hcz18_0
    try clear hcz18_1
    try clear hfz11_0
    try clear hfz11_1
    try clear hfz18_0
    try clear hfz18_1
    try clear p2
    obtain ⟨kq, x22_13, rfl, HA, HJ13, HO_258001, BK248, BK257, HI251, HB⟩ := hcut
    cases kq with
    | zero => exact absurd HA.out (by simp [spec_DrawTrailLight.j1])
    | succ kj13 =>
     have H := HA.out
     clear HA
     simp only [spec_DrawTrailLight.j1] at H
     by_cases c20 : x22_13 = true
     ·subst c20
      have H1 : ((spec_l6Rd_pick.f kj13 t249 x252001_1 (x258001_1.length : Int)).bind fun bt260 => ((spec_l6Rd_pick.f kj13 t249 bt260.2 9).bind fun bt262 => (if 0 ≤ bt260.1 then (if bt260.1 < (x258001_1.length : Int) then (spec_DrawTrailLight.l0 kj13 (wrap64 (x6_1 - 1)) t249 bt262.2 t252 (x258001_1.set (bt260.1 : Int).toNat (⟨7, wrap64 (1 + bt262.1)⟩ : S57))) else (none)) else (none)))) = some (r1, r2, r3) := by rw [if_pos rfl] at H; exact H
      clear H
      have H := H1
      clear H1
      replace H := Option.bind_eq_some_iff.mp H
      obtain ⟨⟨t260, t261⟩, A210, H⟩ := H
      replace H : ((spec_l6Rd_pick.f kj13 t249 t261 9).bind fun bt262 => (if 0 ≤ t260 then (if t260 < (x258001_1.length : Int) then (spec_DrawTrailLight.l0 kj13 (wrap64 (x6_1 - 1)) t249 bt262.2 t252 (x258001_1.set (t260 : Int).toNat (⟨7, wrap64 (1 + bt262.1)⟩ : S57))) else (none)) else (none))) = some (r1, r2, r3) := H
      have A21 := Zs.mk A210
      clear A210
      replace H := Option.bind_eq_some_iff.mp H
      obtain ⟨⟨t262, t263⟩, A220, H⟩ := H
      replace H : (if 0 ≤ t260 then (if t260 < (x258001_1.length : Int) then (spec_DrawTrailLight.l0 kj13 (wrap64 (x6_1 - 1)) t249 t263 t252 (x258001_1.set (t260 : Int).toNat (⟨7, wrap64 (1 + t262)⟩ : S57))) else (none)) else (none)) = some (r1, r2, r3) := H
      have A22 := Zs.mk A220
      clear A220
      by_cases c23 : 0 ≤ t260
      ·rw [if_pos c23] at H
       have c23b0 : decide (0 ≤ t260) = true := decide_eq_true c23
       clear c23
       by_cases c24 : t260 < (x258001_1.length : Int)
       ·rw [if_pos c24] at H
        have c24b0 : decide (t260 < (x258001_1.length : Int)) = true := decide_eq_true c24
        clear c24
        obtain ⟨y264, hy264⟩ : ∃ y_ : List (S57), y_ = (x258001_1.set (t260 : Int).toNat (⟨7, wrap64 (1 + t262)⟩ : S57)) := ⟨_, rfl⟩
        replace H : (spec_DrawTrailLight.l0 kj13 (wrap64 (x6_1 - 1)) t249 t263 t252 y264) = some (r1, r2, r3) := by first | (rw [hy264]; with_reducible exact H) | (have H2_ := (Option.bind_some _ _).symm.trans H; rw [hy264]; with_reducible exact H2_) | (have H2_ := (Option.bind_some _ _).symm.trans H; with_reducible exact H2_) | with_reducible exact H | (rw [hy264]; exact H) | exact H
        have Ny264 := Zs.mk hy264
        clear hy264
        have H' := Zs.mk H
        clear H
        try go_wp2
        have n0_ := Zs.mk (Kd.Q_drew HO_258001.out)
        have n1_ := Zs.mk (kDr BK248.out)
        have n2_ := Zs.mk (kDr BK257.out)
        have n3_ := Zs.mk (IsS91.drew HI251.out)
        have n4_ := Zs.mk (bD1 HB.out)
        clear HO_258001
        clear BK248
        clear BK257
        clear HI251
        clear HB
        have HO_258001 := n0_
        have BK248 := n1_
        have BK257 := n2_
        have HI251 := n3_
        have HB := n4_
        clear n0_ n1_ n2_ n3_ n4_
        obtain ⟨Ao27, co27, eo27, _⟩ := Kd.Q_slice HO_258001.out
        (first | subst eo27 | (injection eo27 with f1_ f2_ f3_; have f4_ := f1_.symm; have f5_ := f3_.symm; clear f1_ f2_ f3_; subst f4_; subst f5_))
        refine start_ (n := 13) (S := fun w' => w'.cell? ⟨gb257, 0, none⟩ = some (.int .i64 t252) ∧ w'.cell? ⟨gb257, 1, none⟩ = some (.slice Ao27 x258001_1.length co27)) (ds := [12]) #[false, false, false, false, false, false, false, false, false, false, false, false, false] (by kernel_rfl) rfl rfl ⟨(kCe BK257.out 0).trans rfl, (kCe BK257.out 1).trans rfl⟩ (fun hHeld => ?_); refine with_tabW spec_DrawTrailLight.tab6 spec_DrawTrailLight.bits6 (fun HT_ HW_ => ?_)
        generalize wc.drew = w26 at HO_258001 BK248 BK257 HI251 HB hHeld ⊢
        refine pure_ (i := 0) (N := some 25) (v := ?_) (a' := ?_) #[true, false, false, false, false, false, false, false, false, false, false, false, false] rfl rfl (any_of HT_.out (by kernel_rfl)) (fun _ _ _ h => h) (Or.inl ⟨by rfl, ?_⟩) ?_ ?_
        rotate_left
        ·intro w'
         go_simp
         with_reducible rfl
        rotate_left
        ·simp only [Act.put, List.setIfInBounds_toArray, List.set_cons_zero, List.set_cons_succ, i64_w, i32_w]
         rfl
        refine pure_ (i := 2) (N := some 27) (v := ?_) (a' := ?_) #[true, false, true, false, false, false, false, false, false, false, false, false, false] rfl rfl (any_of HT_.out (by kernel_rfl)) (fun _ _ _ h => h) (Or.inl ⟨by rfl, ?_⟩) ?_ ?_
        rotate_left
        ·intro w'
         go_simp
         with_reducible rfl
        rotate_left
        ·simp only [Act.put, List.setIfInBounds_toArray, List.set_cons_zero, List.set_cons_succ, i64_w, i32_w]
         rfl
        refine pure_ (i := 3) (N := some 28) (v := ?_) (a' := ?_) #[true, false, true, true, false, false, false, false, false, false, false, false, false] rfl rfl (any_of HT_.out (by kernel_rfl)) (fun _ _ _ h => h) (Or.inl ⟨by rfl, ?_⟩) ?_ ?_
        rotate_left
        ·intro w'
         go_simp
         with_reducible rfl
        rotate_left
        ·simp only [Act.put, List.setIfInBounds_toArray, List.set_cons_zero, List.set_cons_succ, i64_w, i32_w]
         rfl
        refine pure_ (i := 7) (N := some 32) (v := ?_) (a' := ?_) #[true, false, true, true, false, false, false, true, false, false, false, false, false] rfl rfl (any_of HT_.out (by kernel_rfl)) (fun _ _ _ h => h) (Or.inl ⟨by rfl, ?_⟩) ?_ ?_
        rotate_left
        ·intro w'
         go_simp
         with_reducible rfl
        rotate_left
        ·simp only [Act.put, List.setIfInBounds_toArray, List.set_cons_zero, List.set_cons_succ, i64_w, i32_w]
         rfl
        refine take_ (i := 1) (N := some 26) (v := ?_) (a' := ?_) #[true, true, true, true, false, false, false, true, false, false, false, false, false] rfl rfl (take_ofW HT_.out HW_.out (by kernel_rfl)) (fun _ _ _ h => h) (Or.inl ⟨by rfl, ?_⟩) hHeld ?_ ?_
        rotate_left
        ·rintro w' ⟨s0, s1⟩
         go_simp
         with_reducible rfl
        rotate_left
        ·simp only [Act.put, List.setIfInBounds_toArray, List.set_cons_zero, List.set_cons_succ, i64_w, i32_w]
         rfl
        refine take_ (i := 4) (N := some 29) (v := ?_) (a' := ?_) #[true, true, true, true, true, false, false, true, false, false, false, false, false] rfl rfl (take_ofW HT_.out HW_.out (by kernel_rfl)) (fun _ _ _ h => h) (Or.inl ⟨by rfl, ?_⟩) hHeld ?_ ?_
        rotate_left
        ·rintro w' ⟨s0, s1⟩
         go_simp
         with_reducible rfl
        rotate_left
        ·simp only [Act.put, List.setIfInBounds_toArray, List.set_cons_zero, List.set_cons_succ, i64_w, i32_w]
         rfl
        refine pure_ (i := 5) (N := some 30) (v := ?_) (a' := ?_) #[true, true, true, true, true, true, false, true, false, false, false, false, false] rfl rfl (any_of HT_.out (by kernel_rfl)) (fun _ _ _ h => h) (Or.inl ⟨by rfl, ?_⟩) ?_ ?_
        rotate_left
        ·intro w'
         go_simp
         with_reducible rfl
        rotate_left
        ·simp only [Act.put, List.setIfInBounds_toArray, List.set_cons_zero, List.set_cons_succ, i64_w, i32_w]
         rfl
        refine one_ (i := 6) (N := some 31) #[true, true, true, true, true, true, true, true, false, false, false, false, false] rfl rfl (one_of HT_.out (by kernel_rfl)) (by decide) (fun K hK => ?_)
        refine goes_ Try.func41 (by kernel_rfl) rfl #[.pointer (some ⟨g251, 0, none⟩), .int .i64 (x258001_1.length : Int)] (by rfl) rfl rfl (by (try simp only [List.map_toArray, List.map_cons, List.map_nil]); first | done | rfl | (simp only [List.length_drop, List.length_take]; rfl)) ?_
        with_reducible refine (spec_l6Rd_pick.calls kj13 g251 t249 x252001_1 (x258001_1.length : Int) t260 t261 w _ ?side1 ?side2 A21.out).mono ?_
        (case side1 => repeat (first | (with_reducible first | exact HI251.out | apply IsS91.alloc | apply IsS91.drewN | apply IsS91.drew | apply IsS91.set_1 | refine IsS91.far ?_ NB251_248.out _ | refine IsS91.far ?_ NB251_257.out _) | exact HI251.out))
        (case side2 => repeat (first | (with_reducible first | exact HB.out | apply bAl | apply bDN | apply bD1 | refine bSt ?_ (IsS91.ge HI251.out) | refine bSt ?_ GE248.out | refine bSt ?_ GE257.out) | exact HB.out))
        rintro e w28 ⟨rfl, hi, hb, hk⟩
        refine ⟨_, rfl, ?_⟩
        have n0_ := Zs.mk (Kd.Q_mono (Kd.Q_keep (IsS91.apartQ (show IsS91 w _ g251 t249 x252001_1 from by repeat (first | (with_reducible first | exact HI251.out | apply IsS91.alloc | apply IsS91.drewN | apply IsS91.drew | apply IsS91.set_1 | refine IsS91.far ?_ NB251_248.out _ | refine IsS91.far ?_ NB251_257.out _) | exact HI251.out)) (by (with_reducible repeat (first | apply Kd.Q_alloc | apply Kd.Q_drewN | apply Kd.Q_drew)); exact HO_258001.out) (by decide)) hk (fun _ h => h.2)) (fun _ h => h.1))
        have n1_ := Zs.mk (KeepBut.blk hk (g' := gb248) (o := .cells #[.int .i64 0, .slice none 0 0] 25 (0, 0)) (by (with_reducible repeat (first | refine kDN ?_ _ | refine kDr ?_ | refine kAl ?_ _)); exact BK248.out) NB248_251.out (by simp))
        have n2_ := Zs.mk (KeepBut.blk hk (g' := gb257) (o := .cells #[.int .i64 t252, .slice Ao27 x258001_1.length co27] 25 (0, 0)) (by (with_reducible repeat (first | refine kDN ?_ _ | refine kDr ?_ | refine kAl ?_ _)); exact BK257.out) NB257_251.out (by simp))
        have n3_ := Zs.mk (hb)
        have n4_ := Zs.mk (hi)
        clear HO_258001
        clear BK248
        clear BK257
        clear HB
        clear HI251
        have HO_258001 := n0_
        have BK248 := n1_
        have BK257 := n2_
        have HB := n3_
        have HI251 := n4_
        clear n0_ n1_ n2_ n3_ n4_
        (try clear hb)
        (try clear hb2)
        (try clear hk)
        (try clear hi)
        refine hK.out _ _ ⟨(kCe BK257.out 0).trans rfl, (kCe BK257.out 1).trans rfl⟩ (fun hHeld => ?_)
        clear hK K
        refine norm_ (a' := ?_) ?_ ?_
        rotate_left
        ·show Act.put _ (some 31) _ = _
         simp only [Act.put, List.setIfInBounds_toArray, List.set_cons_zero, List.set_cons_succ, i64_w, i32_w]
         rfl
        refine one_ (i := 8) (N := some 33) #[true, true, true, true, true, true, true, true, true, false, false, false, false] rfl rfl (one_of HT_.out (by kernel_rfl)) (by decide) (fun K hK => ?_)
        refine goes_ Try.func41 (by kernel_rfl) rfl #[.pointer (some ⟨g251, 0, none⟩), .int .i64 9] (by rfl) rfl rfl (by (try simp only [List.map_toArray, List.map_cons, List.map_nil]); first | done | rfl | (simp only [List.length_drop, List.length_take]; rfl)) ?_
        with_reducible refine (spec_l6Rd_pick.calls kj13 g251 t249 t261 9 t262 t263 w _ ?side1 ?side2 A22.out).mono ?_
        (case side1 => repeat (first | (with_reducible first | exact HI251.out | apply IsS91.alloc | apply IsS91.drewN | apply IsS91.drew | apply IsS91.set_1 | refine IsS91.far ?_ NB251_248.out _ | refine IsS91.far ?_ NB251_257.out _) | exact HI251.out))
        (case side2 => repeat (first | (with_reducible first | exact HB.out | apply bAl | apply bDN | apply bD1 | refine bSt ?_ (IsS91.ge HI251.out) | refine bSt ?_ GE248.out | refine bSt ?_ GE257.out) | exact HB.out))
        rintro e w29 ⟨rfl, hi, hb, hk⟩
        refine ⟨_, rfl, ?_⟩
        have n0_ := Zs.mk (Kd.Q_mono (Kd.Q_keep (IsS91.apartQ (show IsS91 w _ g251 t249 t261 from by repeat (first | (with_reducible first | exact HI251.out | apply IsS91.alloc | apply IsS91.drewN | apply IsS91.drew | apply IsS91.set_1 | refine IsS91.far ?_ NB251_248.out _ | refine IsS91.far ?_ NB251_257.out _) | exact HI251.out)) (by (with_reducible repeat (first | apply Kd.Q_alloc | apply Kd.Q_drewN | apply Kd.Q_drew)); exact HO_258001.out) (by decide)) hk (fun _ h => h.2)) (fun _ h => h.1))
        have n1_ := Zs.mk (KeepBut.blk hk (g' := gb248) (o := .cells #[.int .i64 0, .slice none 0 0] 25 (0, 0)) (by (with_reducible repeat (first | refine kDN ?_ _ | refine kDr ?_ | refine kAl ?_ _)); exact BK248.out) NB248_251.out (by simp))
        have n2_ := Zs.mk (KeepBut.blk hk (g' := gb257) (o := .cells #[.int .i64 t252, .slice Ao27 x258001_1.length co27] 25 (0, 0)) (by (with_reducible repeat (first | refine kDN ?_ _ | refine kDr ?_ | refine kAl ?_ _)); exact BK257.out) NB257_251.out (by simp))
        have n3_ := Zs.mk (hb)
        have n4_ := Zs.mk (hi)
        clear HO_258001
        clear BK248
        clear BK257
        clear HB
        clear HI251
        have HO_258001 := n0_
        have BK248 := n1_
        have BK257 := n2_
        have HB := n3_
        have HI251 := n4_
        clear n0_ n1_ n2_ n3_ n4_
        (try clear hb)
        (try clear hb2)
        (try clear hk)
        (try clear hi)
        have p25 : 0 ≤ (t260 : Int) := of_decide_eq_true (by first | (with_reducible assumption) | assumption)
        have q25 : (t260 : Int) < ((x258001_1.length : Int) : Int) := of_decide_eq_true (by first | (with_reducible assumption) | assumption)
        obtain ⟨go25, oo25, co25, eo25, gb25, gl25, cl25, HG25⟩ := Kd.Q_form HO_258001.out (by omega)
        (first | cases eo25 | (injection eo25 with ea_ en_ ec_; (first | subst ea_ | (injection ea_ with ea_; subst ea_)); subst ec_; clear en_))
        have GB25 := Zs.mk gb25
        have GG25 := Zs.mk HG25
        clear gb25 gl25 HG25
        obtain ⟨ce25, hcl25, hM25, hcc25, hfr25⟩ := Kd.Q_elem HO_258001.out z57 (t260 : Int) p25 q25
        obtain rfl := k57_openM hM25
        have hx25_0 : World.cell? _ ⟨go25, oo25 + (t260 : Int).toNat * 2, none⟩ = some (.int .i64 ((rd_T57 x258001_1 t260).f0)) := hcc25 0 _ rfl
        have hx25_1 : World.cell? _ ⟨go25, oo25 + (t260 : Int).toNat * 2 + 1, none⟩ = some (.int .i64 ((rd_T57 x258001_1 t260).f1)) := hcc25 1 _ rfl
        have hf25_0 : World.frozen? _ ⟨go25, oo25 + (t260 : Int).toNat * 2, none⟩ = false := hfr25 0
        have hf25_1 : World.frozen? _ ⟨go25, oo25 + (t260 : Int).toNat * 2 + 1, none⟩ = false := hfr25 1
        clear hcl25 hcc25 hfr25 hM25
        replace p25 := eq_true p25
        replace q25 := eq_true q25
        have HN251_go25 := Zs.mk (show g251 ≠ go25 from by have h_ := IsS91.own_neQ HI251.out HO_258001.out (by decide); intro e_; exact h_ (by rw [e_]; rfl))
        obtain ⟨ce30, hcl30, hM30, hcc30, hfr30⟩ := Kd.Q_elem HO_258001.out z57 (t260 : Int) (of_decide_eq_true (by first | (with_reducible assumption) | assumption)) (by have h_ : (t260 : Int) < ((x258001_1.length : Int) : Int) := of_decide_eq_true (by first | (with_reducible assumption) | assumption); first | exact h_ | (have e_ := (Kd.Q_reads' HO_258001.out).1; omega) | simpa using h_)
        obtain rfl := k57_openM hM30
        have HP30 := (Kd.Q_seg HO_258001.out (t260 : Int) (of_decide_eq_true (by first | (with_reducible assumption) | assumption)) (by have h_ : (t260 : Int) < ((x258001_1.length : Int) : Int) := of_decide_eq_true (by first | (with_reducible assumption) | assumption); first | exact h_ | (have e_ := (Kd.Q_reads' HO_258001.out).1; omega) | simpa using h_) (seg := [.int .i64 7, .int .i64 (wrap64 (1 + t262))]) (j := 0) hcl30 hcc30 (show 2 ≤ 2 from by decide) (x' := (⟨7, wrap64 (1 + t262)⟩ : S57)) (k57_mkM _ _ _ (⟨7, wrap64 (1 + t262)⟩ : S57) ) (fun _ hk => hk)).1
        rw [← Ny264.out] at HP30
        have HQ30 := Zs.mk HP30
        clear hcl30 hcc30 hfr30 hM30 HP30
        refine hK.out _ _ ⟨(kCe BK257.out 0).trans rfl, (kCe BK257.out 1).trans rfl⟩ (fun hHeld => ?_)
        clear hK K
        refine norm_ (a' := ?_) ?_ ?_
        rotate_left
        ·show Act.put _ (some 33) _ = _
         simp only [Act.put, List.setIfInBounds_toArray, List.set_cons_zero, List.set_cons_succ, i64_w, i32_w]
         rfl
        refine pure_ (i := 9) (N := some 34) (v := ?_) (a' := ?_) #[true, true, true, true, true, true, true, true, true, true, false, false, false] rfl rfl (any_of HT_.out (by kernel_rfl)) (fun _ _ _ h => h) (Or.inl ⟨by rfl, ?_⟩) ?_ ?_
        rotate_left
        ·intro w'
         go_simp
         with_reducible rfl
        rotate_left
        ·simp only [Act.put, List.setIfInBounds_toArray, List.set_cons_zero, List.set_cons_succ, i64_w, i32_w]
         rfl
        refine pure_ (i := 10) (N := some 35) (v := ?_) (a' := ?_) #[true, true, true, true, true, true, true, true, true, true, true, false, false] rfl rfl (any_of HT_.out (by kernel_rfl)) (fun _ _ _ h => h) (Or.inl ⟨by rfl, ?_⟩) ?_ ?_
        rotate_left
        ·intro w'
         go_simp
         with_reducible rfl
        rotate_left
        ·simp only [Act.put, List.setIfInBounds_toArray, List.set_cons_zero, List.set_cons_succ, i64_w, i32_w]
         rfl
        refine pure_ (i := 11) (N := some 36) (v := ?_) (a' := ?_) #[true, true, true, true, true, true, true, true, true, true, true, true, false] rfl rfl (any_of HT_.out (by kernel_rfl)) (fun _ _ _ h => h) (Or.inl ⟨by rfl, ?_⟩) ?_ ?_
        rotate_left
        ·intro w'
         go_simp
         with_reducible rfl
        rotate_left
        ·simp only [Act.put, List.setIfInBounds_toArray, List.set_cons_zero, List.set_cons_succ, i64_w, i32_w]
         rfl
        refine last_ (i := 12) (N := none) #[true, true, true, true, true, true, true, true, true, true, true, true, true] rfl rfl (one_of HT_.out (by kernel_rfl)) (by decide) (fun K hK => ?_)
        refine skip_ (w1 := ?_) (by rfl) rfl ?_ ?_
        rotate_left
        ·go_simp
         rfl
        refine hK.out _ _ ?_
        clear hK K
        refine done_ (done_of HT_.out (by kernel_rfl)) ?_
        try go_wp2
        go_roundg kj13
        case measure => have := HK1.out; have := HJ13.out; omega
        case rel => exact ⟨(wrap64 (x6_1 - 1)), (t263), (y264), (.slice (some ⟨go25, oo25, none⟩) x258001_1.length co27), (by first | rfl | (simp; done) | (simp [*]; done)), H', ⟨by have := HK1.out; have := HJ13.out; omega⟩, ⟨by (with_reducible repeat (first | apply Kd.Q_alloc | apply Kd.Q_drewN | apply Kd.Q_drew)); exact HQ30.out⟩, ⟨by (with_reducible repeat (first | refine kDN ?_ _ | refine kDr ?_ | refine kAl ?_ _)); refine blk_far ?_ (by have h_ := Kd.Q_ne HO_258001.out BK248.out (by decide); intro e_; exact h_ (by rw [e_]; rfl)) _; (with_reducible repeat (first | refine kDN ?_ _ | refine kDr ?_ | refine kAl ?_ _)); refine blk_far ?_ (by have h_ := Kd.Q_ne HO_258001.out BK248.out (by decide); intro e_; exact h_ (by rw [e_]; rfl)) _; (with_reducible repeat (first | refine kDN ?_ _ | refine kDr ?_ | refine kAl ?_ _)); exact BK248.out⟩, ⟨by (with_reducible repeat (first | refine kDN ?_ _ | refine kDr ?_ | refine kAl ?_ _)); refine blk_far ?_ (by have h_ := Kd.Q_ne HO_258001.out BK257.out (by decide); intro e_; exact h_ (by rw [e_]; rfl)) _; (with_reducible repeat (first | refine kDN ?_ _ | refine kDr ?_ | refine kAl ?_ _)); refine blk_far ?_ (by have h_ := Kd.Q_ne HO_258001.out BK257.out (by decide); intro e_; exact h_ (by rw [e_]; rfl)) _; (with_reducible repeat (first | refine kDN ?_ _ | refine kDr ?_ | refine kAl ?_ _)); exact BK257.out⟩, ⟨by repeat (first | (with_reducible first | exact HI251.out | apply IsS91.alloc | apply IsS91.drewN | apply IsS91.drew | apply IsS91.set_1 | refine IsS91.far ?_ HN251_go25.out _ | refine IsS91.far ?_ HN251_go25.out _ | refine IsS91.far ?_ NB251_248.out _ | refine IsS91.far ?_ NB251_257.out _) | exact HI251.out)⟩, ⟨by repeat (first | (with_reducible first | exact HB.out | apply bAl | apply bDN | apply bD1 | refine bSt ?_ GB25.out | refine bSt ?_ GB25.out | refine bSt ?_ (IsS91.ge HI251.out) | refine bSt ?_ GE248.out | refine bSt ?_ GE257.out) | exact HB.out)⟩⟩
       ·rw [if_neg c24] at H
        exact absurd H (by simp)
      ·rw [if_neg c23] at H
       exact absurd H (by simp)
     ·replace c20 := Bool.eq_false_iff.mpr c20
      subst c20
      have H1 : ((spec_l71Sight.f kj13 t249 x252001_1 t252 x258001_1).bind fun bt265 => (spec_DrawTrailLight.l1 kj13 bt265.1 0 t249 bt265.2 t252 x258001_1)) = some (r1, r2, r3) := by rw [if_neg (show ¬ (false = true) by decide)] at H; exact H
      clear H
      have H := H1
      clear H1
      replace H := Option.bind_eq_some_iff.mp H
      obtain ⟨⟨t265, t266⟩, A310, H⟩ := H
      replace H : (spec_DrawTrailLight.l1 kj13 t265 0 t249 t266 t252 x258001_1) = some (r1, r2, r3) := H
      have A31 := Zs.mk A310
      clear A310
      have H' := Zs.mk H
      clear H
      have hnb32 := NB257_248.out
      have hnc32 := NB248_257.out
      have hnb33 := NB257_251.out
      have hnc33 := NB251_257.out
      have hcz34_0 : wc.cell? ⟨gb257, 0, none⟩ = some (.int .i64 t252) := (kCe BK257.out 0).trans rfl
      have hcz34_1 : wc.cell? ⟨gb257, 1, none⟩ = some (u258001) := (kCe BK257.out 1).trans rfl
      have hfz34_0 := kFr BK257.out 0
      have hfz34_1 := kFr BK257.out 1
      obtain ⟨Ao35, co35, eo35, _⟩ := Kd.Q_slice HO_258001.out
      subst eo35
      go_wp2_with (first | ((with_reducible refine gate_callee (f := 62) rfl ?_); refine goesL_ (some 39) rfl rfl Try.func62 (by kernel_rfl) rfl #[.pointer (some ⟨g251, 0, none⟩), .agg #[.int .i64 t252, .slice Ao35 x258001_1.length co35]] rfl (by (try simp only [List.map_toArray, List.map_cons, List.map_nil]); first | done | rfl | (simp only [List.length_drop, List.length_take]; rfl)) ?_; (with_reducible refine (spec_l71Sight.calls kj13 g251 t249 x252001_1 t252 _ _ x258001_1 t265 t266 w _ ?side1 ?side2 ?side3 ?side4 A31.out).mono ?_); (case side1 => repeat (first | (with_reducible first | exact HI251.out | apply IsS91.alloc | apply IsS91.drewN | apply IsS91.drew | apply IsS91.set_1 | refine IsS91.far ?_ NB251_248.out _ | refine IsS91.far ?_ NB251_257.out _) | exact HI251.out)); (case side2 => repeat (first | (with_reducible first | exact HB.out | apply bAl | apply bDN | apply bD1 | refine bSt ?_ (IsS91.ge HI251.out) | refine bSt ?_ GE248.out | refine bSt ?_ GE257.out) | exact HB.out)); (case side3 => exact Kd.C_foot_ownQ (IsS91.apartQ (show IsS91 w _ g251 t249 x252001_1 from by repeat (first | (with_reducible first | exact HI251.out | apply IsS91.alloc | apply IsS91.drewN | apply IsS91.drew | apply IsS91.set_1 | refine IsS91.far ?_ NB251_248.out _ | refine IsS91.far ?_ NB251_257.out _) | exact HI251.out)) (by (with_reducible repeat (first | apply Kd.Q_alloc | apply Kd.Q_drewN | apply Kd.Q_drew)); exact HO_258001.out) (by decide)) (fun _ h_ => h_.2)); (case side4 => exact (Kd.Q_reads' HO_258001.out).2.1); rintro e w36 ⟨rfl, hi, hb, hk⟩; refine ⟨_, rfl, ?_⟩; have n0_ := Zs.mk (Kd.Q_mono (Kd.Q_keep (IsS91.apartQ (show IsS91 w _ g251 t249 x252001_1 from by repeat (first | (with_reducible first | exact HI251.out | apply IsS91.alloc | apply IsS91.drewN | apply IsS91.drew | apply IsS91.set_1 | refine IsS91.far ?_ NB251_248.out _ | refine IsS91.far ?_ NB251_257.out _) | exact HI251.out)) (by (with_reducible repeat (first | apply Kd.Q_alloc | apply Kd.Q_drewN | apply Kd.Q_drew)); exact HO_258001.out) (by decide)) hk (fun _ h => h.2)) (fun _ h => h.1)); have n1_ := Zs.mk (KeepBut.blk hk (g' := gb248) (o := .cells #[.int .i64 0, .slice none 0 0] 25 (0, 0)) (by (with_reducible repeat (first | refine kDN ?_ _ | refine kDr ?_ | refine kAl ?_ _)); exact BK248.out) NB248_251.out (by simp)); have n2_ := Zs.mk (KeepBut.blk hk (g' := gb257) (o := .cells #[.int .i64 t252, .slice Ao35 x258001_1.length co35] 25 (0, 0)) (by (with_reducible repeat (first | refine kDN ?_ _ | refine kDr ?_ | refine kAl ?_ _)); exact BK257.out) NB257_251.out (by simp)); have n3_ := Zs.mk (hb); have n4_ := Zs.mk (hi); clear HO_258001; clear BK248; clear BK257; clear HB; clear HI251; have HO_258001 := n0_; have BK248 := n1_; have BK257 := n2_; have HB := n3_; have HI251 := n4_; clear n0_ n1_ n2_ n3_ n4_; (try clear hb); (try clear hb2); (try clear hk); (try clear hi)))
      go_loopg [7, 8] kj13 (fun kq v7 v8 w' => ∃ (x7_3 : Int) (x8_3 : Int) (x252001_3 : Int), v7 = .int .i64 x7_3 ∧ v8 = .int .i64 x8_3 ∧ Zs (spec_DrawTrailLight.l1 kq x7_3 x8_3 t249 x252001_3 t252 x258001_1 = some (r1, r2, r3)) ∧ Zs (kq ≤ kj13) ∧ Zs (Kd.Q k57 57 w' w.heap.size (fun _ => True) (.slice Ao35 x258001_1.length co35) x258001_1) ∧ Zs (w'.heap[gb248]? = some (.cells #[.int .i64 0, (.slice none 0 0)] 25 (0, 0))) ∧ Zs (w'.heap[gb257]? = some (.cells #[.int .i64 t252, (.slice Ao35 x258001_1.length co35)] 25 (0, 0))) ∧ Zs (IsS91 w w' g251 t249 x252001_3) ∧ Zs (Below w.heap.size w w'))
      case atStart => exact ⟨(t265), (0), (t266), (by first | rfl | (simp; done) | (simp [*]; done)), (by first | rfl | (simp; done) | (simp [*]; done)), H', ⟨Nat.le_refl _⟩, ⟨by (with_reducible repeat (first | apply Kd.Q_alloc | apply Kd.Q_drewN | apply Kd.Q_drew)); exact HO_258001.out⟩, ⟨by (with_reducible repeat (first | refine kDN ?_ _ | refine kDr ?_ | refine kAl ?_ _)); exact BK248.out⟩, ⟨by (with_reducible repeat (first | refine kDN ?_ _ | refine kDr ?_ | refine kAl ?_ _)); exact BK257.out⟩, ⟨by repeat (first | (with_reducible first | exact HI251.out | apply IsS91.alloc | apply IsS91.drewN | apply IsS91.drew | apply IsS91.set_1 | refine IsS91.far ?_ NB251_248.out _ | refine IsS91.far ?_ NB251_257.out _) | exact HI251.out)⟩, ⟨by repeat (first | (with_reducible first | exact HB.out | apply bAl | apply bDN | apply bD1 | refine bSt ?_ (IsS91.ge HI251.out) | refine bSt ?_ GE248.out | refine bSt ?_ GE257.out) | exact HB.out)⟩⟩
      case round =>
       clear H'
       try clear c1
       try clear c2
       try clear p2
       try clear q2
       try clear hx2
       try clear hf2
       try clear c3
       try clear c4
       try clear c6
       try clear p6
       try clear c9
       try clear c10
       try clear c15
       try clear c15b0
       try clear c16
       try clear c17
       try clear c20
       try clear c23
       try clear c23b0
       try clear c24
       try clear c24b0
       try clear c25
       try clear p25
       try clear q25
       try clear hx25
       try clear hf25
       try clear c30
       try clear c31
       try clear c32
       try clear c33
       try clear hcz11_0
       try clear hcz11_1
       try clear hcz18_0
       try clear hcz18_1
       try clear hcz34_0
       try clear hcz34_1
       try clear hfz11_0
       try clear hfz11_1
       try clear hfz18_0
       try clear hfz18_1
       try clear hfz34_0
       try clear hfz34_1
       try clear hx25_0
       try clear hx25_1
       try clear p2
       try clear p25
       try clear q25
       obtain ⟨x7_3, x8_3, x252001_3, rfl, rfl, HA, HK3, HO_258001, BK248, BK257, HI251, HB⟩ := hrel
       cases gk with
       | zero => exact absurd HA.out (by simp [spec_DrawTrailLight.l1])
       | succ k3 =>
        have H := HA.out
        clear HA
        simp only [spec_DrawTrailLight.l1] at H
        by_cases c37 : x8_3 < 8
        ·rw [if_pos c37] at H
         have c37b0 : decide (x8_3 < 8) = true := decide_eq_true c37
         clear c37
         replace H := Option.bind_eq_some_iff.mp H
         obtain ⟨⟨t267, t268⟩, A380, H⟩ := H
         replace H : (if t267 > 0 then ((spec_TrailLight.f k3 t252 x258001_1 x7_3).bind fun t269 => (if t269 = 0 then ((spec_l71Sight.f k3 t249 t268 t252 x258001_1).bind fun bt270 => (spec_DrawTrailLight.l1 k3 bt270.1 (wrap64 (x8_3 + 1)) t249 bt270.2 t252 x258001_1)) else (some (t252, x258001_1, x7_3)))) else (some (t252, x258001_1, x7_3))) = some (r1, r2, r3) := H
         have A38 := Zs.mk A380
         clear A380
         by_cases c39 : t267 > 0
         ·rw [if_pos c39] at H
          have c39b0 : decide (0 < t267) = true := decide_eq_true c39
          clear c39
          replace H := Option.bind_eq_some_iff.mp H
          obtain ⟨t269, A400, H⟩ := H
          replace H : (if t269 = 0 then ((spec_l71Sight.f k3 t249 t268 t252 x258001_1).bind fun bt270 => (spec_DrawTrailLight.l1 k3 bt270.1 (wrap64 (x8_3 + 1)) t249 bt270.2 t252 x258001_1)) else (some (t252, x258001_1, x7_3))) = some (r1, r2, r3) := H
          have A40 := Zs.mk A400
          clear A400
          by_cases c41 : t269 = 0
          ·rw [if_pos c41] at H
           have c41b0 : (t269 == 0) = true := beq_iff_eq.mpr c41
           have c41b1 : (t269 != 0) = false := bne_eq_false_iff_eq.mpr c41
           clear c41
           replace H := Option.bind_eq_some_iff.mp H
           obtain ⟨⟨t270, t271⟩, A420, H⟩ := H
           replace H : (spec_DrawTrailLight.l1 k3 t270 (wrap64 (x8_3 + 1)) t249 t271 t252 x258001_1) = some (r1, r2, r3) := H
           have A42 := Zs.mk A420
           clear A420
           have H' := Zs.mk H
           clear H
           go_wp2_with (first | (go_at_call 41; (with_reducible refine (spec_l6Rd_pick.calls k3 g251 t249 x252001_3 8 t267 t268 w _ ?side1 ?side2 A38.out).mono ?_); (case side1 => repeat (first | (with_reducible first | exact HI251.out | apply IsS91.alloc | apply IsS91.drewN | apply IsS91.drew | apply IsS91.set_1 | refine IsS91.far ?_ NB251_248.out _ | refine IsS91.far ?_ NB251_257.out _) | exact HI251.out)); (case side2 => repeat (first | (with_reducible first | exact HB.out | apply bAl | apply bDN | apply bD1 | refine bSt ?_ (IsS91.ge HI251.out) | refine bSt ?_ GE248.out | refine bSt ?_ GE257.out) | exact HB.out)); rintro e w43 ⟨rfl, hi, hb, hk⟩; have n0_ := Zs.mk (Kd.Q_mono (Kd.Q_keep (IsS91.apartQ (show IsS91 w _ g251 t249 x252001_3 from by repeat (first | (with_reducible first | exact HI251.out | apply IsS91.alloc | apply IsS91.drewN | apply IsS91.drew | apply IsS91.set_1 | refine IsS91.far ?_ NB251_248.out _ | refine IsS91.far ?_ NB251_257.out _) | exact HI251.out)) (by (with_reducible repeat (first | apply Kd.Q_alloc | apply Kd.Q_drewN | apply Kd.Q_drew)); exact HO_258001.out) (by decide)) hk (fun _ h => h.2)) (fun _ h => h.1)); have n1_ := Zs.mk (KeepBut.blk hk (g' := gb248) (o := .cells #[.int .i64 0, .slice none 0 0] 25 (0, 0)) (by (with_reducible repeat (first | refine kDN ?_ _ | refine kDr ?_ | refine kAl ?_ _)); exact BK248.out) NB248_251.out (by simp)); have n2_ := Zs.mk (KeepBut.blk hk (g' := gb257) (o := .cells #[.int .i64 t252, .slice Ao35 x258001_1.length co35] 25 (0, 0)) (by (with_reducible repeat (first | refine kDN ?_ _ | refine kDr ?_ | refine kAl ?_ _)); exact BK257.out) NB257_251.out (by simp)); have n3_ := Zs.mk (hb); have n4_ := Zs.mk (hi); clear HO_258001; clear BK248; clear BK257; clear HB; clear HI251; have HO_258001 := n0_; have BK248 := n1_; have BK257 := n2_; have HB := n3_; have HI251 := n4_; clear n0_ n1_ n2_ n3_ n4_; (try clear hb); (try clear hb2); (try clear hk); (try clear hi); have hnb44 := NB257_248.out; have hnc44 := NB248_257.out; have hnb45 := NB257_251.out; have hnc45 := NB251_257.out; have hcz46_0 : w43.cell? ⟨gb257, 0, none⟩ = some (.int .i64 t252) := (kCe BK257.out 0).trans rfl; have hcz46_1 : w43.cell? ⟨gb257, 1, none⟩ = some (.slice Ao35 x258001_1.length co35) := (kCe BK257.out 1).trans rfl; have hfz46_0 := kFr BK257.out 0; have hfz46_1 := kFr BK257.out 1) | (go_at_call 33; (with_reducible refine (spec_TrailLight.calls k3 t252 _ _ x258001_1 x7_3 t269 _ ?side1 ?side2 A40.out).mono ?_); (case side1 => repeat (first | exact (Kd.Q_reads' HO_258001.out).2.2 | (with_reducible refine Kd.C_alloc ?_ _) | (with_reducible refine Kd.C_drewN ?_ _) | (with_reducible refine Kd.C_drew ?_))); (case side2 => exact (Kd.Q_reads' HO_258001.out).2.1); rintro e w47 ⟨rfl, hb⟩; have n0_ := Zs.mk (Kd.Q_below (by (with_reducible repeat (first | apply Kd.Q_alloc | apply Kd.Q_drewN | apply Kd.Q_drew)); exact HO_258001.out) hb); have n1_ := Zs.mk (kBe (g := gb248) (o := .cells #[.int .i64 0, .slice none 0 0] 25 (0, 0)) (by (with_reducible repeat (first | refine kDN ?_ _ | refine kDr ?_ | refine kAl ?_ _)); exact BK248.out) hb); have n2_ := Zs.mk (kBe (g := gb257) (o := .cells #[.int .i64 t252, .slice Ao35 x258001_1.length co35] 25 (0, 0)) (by (with_reducible repeat (first | refine kDN ?_ _ | refine kDr ?_ | refine kAl ?_ _)); exact BK257.out) hb); have n3_ := Zs.mk (IsS91.below (by repeat (first | (with_reducible first | exact HI251.out | apply IsS91.alloc | apply IsS91.drewN | apply IsS91.drew | apply IsS91.set_1 | refine IsS91.far ?_ NB251_248.out _ | refine IsS91.far ?_ NB251_257.out _) | exact HI251.out)) hb); have n4_ := Zs.mk (bSp (by repeat (first | (with_reducible first | exact HB.out | apply bAl | apply bDN | apply bD1 | refine bSt ?_ (IsS91.ge HI251.out) | refine bSt ?_ GE248.out | refine bSt ?_ GE257.out) | exact HB.out)) hb); clear HO_258001; clear BK248; clear BK257; clear HI251; clear HB; have HO_258001 := n0_; have BK248 := n1_; have BK257 := n2_; have HI251 := n3_; have HB := n4_; clear n0_ n1_ n2_ n3_ n4_; (try clear hb); (try clear hb2); (try clear hk); (try clear hi); have hcz48_0 : w47.cell? ⟨gb257, 0, none⟩ = some (.int .i64 t252) := (kCe BK257.out 0).trans rfl; have hcz48_1 : w47.cell? ⟨gb257, 1, none⟩ = some (.slice Ao35 x258001_1.length co35) := (kCe BK257.out 1).trans rfl; have hfz48_0 := kFr BK257.out 0; have hfz48_1 := kFr BK257.out 1) | ((with_reducible refine gate_callee (f := 62) rfl ?_); refine goesL_ (some 57) rfl rfl Try.func62 (by kernel_rfl) rfl #[.pointer (some ⟨g251, 0, none⟩), .agg #[.int .i64 t252, .slice Ao35 x258001_1.length co35]] rfl (by (try simp only [List.map_toArray, List.map_cons, List.map_nil]); first | done | rfl | (simp only [List.length_drop, List.length_take]; rfl)) ?_; (with_reducible refine (spec_l71Sight.calls k3 g251 t249 t268 t252 _ _ x258001_1 t270 t271 w _ ?side1 ?side2 ?side3 ?side4 A42.out).mono ?_); (case side1 => repeat (first | (with_reducible first | exact HI251.out | apply IsS91.alloc | apply IsS91.drewN | apply IsS91.drew | apply IsS91.set_1 | refine IsS91.far ?_ NB251_248.out _ | refine IsS91.far ?_ NB251_257.out _) | exact HI251.out)); (case side2 => repeat (first | (with_reducible first | exact HB.out | apply bAl | apply bDN | apply bD1 | refine bSt ?_ (IsS91.ge HI251.out) | refine bSt ?_ GE248.out | refine bSt ?_ GE257.out) | exact HB.out)); (case side3 => exact Kd.C_foot_ownQ (IsS91.apartQ (show IsS91 w _ g251 t249 t268 from by repeat (first | (with_reducible first | exact HI251.out | apply IsS91.alloc | apply IsS91.drewN | apply IsS91.drew | apply IsS91.set_1 | refine IsS91.far ?_ NB251_248.out _ | refine IsS91.far ?_ NB251_257.out _) | exact HI251.out)) (by (with_reducible repeat (first | apply Kd.Q_alloc | apply Kd.Q_drewN | apply Kd.Q_drew)); exact HO_258001.out) (by decide)) (fun _ h_ => h_.2)); (case side4 => exact (Kd.Q_reads' HO_258001.out).2.1); rintro e w49 ⟨rfl, hi, hb, hk⟩; refine ⟨_, rfl, ?_⟩; have n0_ := Zs.mk (Kd.Q_mono (Kd.Q_keep (IsS91.apartQ (show IsS91 w _ g251 t249 t268 from by repeat (first | (with_reducible first | exact HI251.out | apply IsS91.alloc | apply IsS91.drewN | apply IsS91.drew | apply IsS91.set_1 | refine IsS91.far ?_ NB251_248.out _ | refine IsS91.far ?_ NB251_257.out _) | exact HI251.out)) (by (with_reducible repeat (first | apply Kd.Q_alloc | apply Kd.Q_drewN | apply Kd.Q_drew)); exact HO_258001.out) (by decide)) hk (fun _ h => h.2)) (fun _ h => h.1)); have n1_ := Zs.mk (KeepBut.blk hk (g' := gb248) (o := .cells #[.int .i64 0, .slice none 0 0] 25 (0, 0)) (by (with_reducible repeat (first | refine kDN ?_ _ | refine kDr ?_ | refine kAl ?_ _)); exact BK248.out) NB248_251.out (by simp)); have n2_ := Zs.mk (KeepBut.blk hk (g' := gb257) (o := .cells #[.int .i64 t252, .slice Ao35 x258001_1.length co35] 25 (0, 0)) (by (with_reducible repeat (first | refine kDN ?_ _ | refine kDr ?_ | refine kAl ?_ _)); exact BK257.out) NB257_251.out (by simp)); have n3_ := Zs.mk (hb); have n4_ := Zs.mk (hi); clear HO_258001; clear BK248; clear BK257; clear HB; clear HI251; have HO_258001 := n0_; have BK248 := n1_; have BK257 := n2_; have HB := n3_; have HI251 := n4_; clear n0_ n1_ n2_ n3_ n4_; (try clear hb); (try clear hb2); (try clear hk); (try clear hi)))
           go_roundg k3
           case measure => have := HK1.out; have := HJ13.out; have := HK3.out; omega
           case rel => exact ⟨(t270), (wrap64 (x8_3 + 1)), (t271), (by first | rfl | (simp; done) | (simp [*]; done)), (by first | rfl | (simp; done) | (simp [*]; done)), H', ⟨by have := HK1.out; have := HJ13.out; have := HK3.out; omega⟩, ⟨by (with_reducible repeat (first | apply Kd.Q_alloc | apply Kd.Q_drewN | apply Kd.Q_drew)); exact HO_258001.out⟩, ⟨by (with_reducible repeat (first | refine kDN ?_ _ | refine kDr ?_ | refine kAl ?_ _)); exact BK248.out⟩, ⟨by (with_reducible repeat (first | refine kDN ?_ _ | refine kDr ?_ | refine kAl ?_ _)); exact BK257.out⟩, ⟨by repeat (first | (with_reducible first | exact HI251.out | apply IsS91.alloc | apply IsS91.drewN | apply IsS91.drew | apply IsS91.set_1 | refine IsS91.far ?_ NB251_248.out _ | refine IsS91.far ?_ NB251_257.out _) | exact HI251.out)⟩, ⟨by repeat (first | (with_reducible first | exact HB.out | apply bAl | apply bDN | apply bD1 | refine bSt ?_ (IsS91.ge HI251.out) | refine bSt ?_ GE248.out | refine bSt ?_ GE257.out) | exact HB.out)⟩⟩
          ·rw [if_neg c41] at H
           have c41b0 : (t269 == 0) = false := beq_eq_false_iff_ne.mpr c41
           have c41b1 : (t269 != 0) = true := bne_iff_ne.mpr c41
           simp only [Option.some.injEq, Prod.mk.injEq] at H
           obtain ⟨rfl, rfl, rfl⟩ := H
           go_wp2_with (first | (go_at_call 41; (with_reducible refine (spec_l6Rd_pick.calls k3 g251 t249 x252001_3 8 t267 t268 w _ ?side1 ?side2 A38.out).mono ?_); (case side1 => repeat (first | (with_reducible first | exact HI251.out | apply IsS91.alloc | apply IsS91.drewN | apply IsS91.drew | apply IsS91.set_1 | refine IsS91.far ?_ NB251_248.out _ | refine IsS91.far ?_ NB251_257.out _) | exact HI251.out)); (case side2 => repeat (first | (with_reducible first | exact HB.out | apply bAl | apply bDN | apply bD1 | refine bSt ?_ (IsS91.ge HI251.out) | refine bSt ?_ GE248.out | refine bSt ?_ GE257.out) | exact HB.out)); rintro e w50 ⟨rfl, hi, hb, hk⟩; have n0_ := Zs.mk (Kd.Q_mono (Kd.Q_keep (IsS91.apartQ (show IsS91 w _ g251 t249 x252001_3 from by repeat (first | (with_reducible first | exact HI251.out | apply IsS91.alloc | apply IsS91.drewN | apply IsS91.drew | apply IsS91.set_1 | refine IsS91.far ?_ NB251_248.out _ | refine IsS91.far ?_ NB251_257.out _) | exact HI251.out)) (by (with_reducible repeat (first | apply Kd.Q_alloc | apply Kd.Q_drewN | apply Kd.Q_drew)); exact HO_258001.out) (by decide)) hk (fun _ h => h.2)) (fun _ h => h.1)); have n1_ := Zs.mk (KeepBut.blk hk (g' := gb248) (o := .cells #[.int .i64 0, .slice none 0 0] 25 (0, 0)) (by (with_reducible repeat (first | refine kDN ?_ _ | refine kDr ?_ | refine kAl ?_ _)); exact BK248.out) NB248_251.out (by simp)); have n2_ := Zs.mk (KeepBut.blk hk (g' := gb257) (o := .cells #[.int .i64 t252, .slice Ao35 x258001_1.length co35] 25 (0, 0)) (by (with_reducible repeat (first | refine kDN ?_ _ | refine kDr ?_ | refine kAl ?_ _)); exact BK257.out) NB257_251.out (by simp)); have n3_ := Zs.mk (hb); have n4_ := Zs.mk (hi); clear HO_258001; clear BK248; clear BK257; clear HB; clear HI251; have HO_258001 := n0_; have BK248 := n1_; have BK257 := n2_; have HB := n3_; have HI251 := n4_; clear n0_ n1_ n2_ n3_ n4_; (try clear hb); (try clear hb2); (try clear hk); (try clear hi); have hnb51 := NB257_248.out; have hnc51 := NB248_257.out; have hnb52 := NB257_251.out; have hnc52 := NB251_257.out; have hcz53_0 : w50.cell? ⟨gb257, 0, none⟩ = some (.int .i64 t252) := (kCe BK257.out 0).trans rfl; have hcz53_1 : w50.cell? ⟨gb257, 1, none⟩ = some (.slice Ao35 x258001_1.length co35) := (kCe BK257.out 1).trans rfl; have hfz53_0 := kFr BK257.out 0; have hfz53_1 := kFr BK257.out 1) | (go_at_call 33; (with_reducible refine (spec_TrailLight.calls k3 t252 _ _ x258001_1 x7_3 t269 _ ?side1 ?side2 A40.out).mono ?_); (case side1 => repeat (first | exact (Kd.Q_reads' HO_258001.out).2.2 | (with_reducible refine Kd.C_alloc ?_ _) | (with_reducible refine Kd.C_drewN ?_ _) | (with_reducible refine Kd.C_drew ?_))); (case side2 => exact (Kd.Q_reads' HO_258001.out).2.1); rintro e w54 ⟨rfl, hb⟩; have n0_ := Zs.mk (Kd.Q_below (by (with_reducible repeat (first | apply Kd.Q_alloc | apply Kd.Q_drewN | apply Kd.Q_drew)); exact HO_258001.out) hb); have n1_ := Zs.mk (kBe (g := gb248) (o := .cells #[.int .i64 0, .slice none 0 0] 25 (0, 0)) (by (with_reducible repeat (first | refine kDN ?_ _ | refine kDr ?_ | refine kAl ?_ _)); exact BK248.out) hb); have n2_ := Zs.mk (kBe (g := gb257) (o := .cells #[.int .i64 t252, .slice Ao35 x258001_1.length co35] 25 (0, 0)) (by (with_reducible repeat (first | refine kDN ?_ _ | refine kDr ?_ | refine kAl ?_ _)); exact BK257.out) hb); have n3_ := Zs.mk (IsS91.below (by repeat (first | (with_reducible first | exact HI251.out | apply IsS91.alloc | apply IsS91.drewN | apply IsS91.drew | apply IsS91.set_1 | refine IsS91.far ?_ NB251_248.out _ | refine IsS91.far ?_ NB251_257.out _) | exact HI251.out)) hb); have n4_ := Zs.mk (bSp (by repeat (first | (with_reducible first | exact HB.out | apply bAl | apply bDN | apply bD1 | refine bSt ?_ (IsS91.ge HI251.out) | refine bSt ?_ GE248.out | refine bSt ?_ GE257.out) | exact HB.out)) hb); clear HO_258001; clear BK248; clear BK257; clear HI251; clear HB; have HO_258001 := n0_; have BK248 := n1_; have BK257 := n2_; have HI251 := n3_; have HB := n4_; clear n0_ n1_ n2_ n3_ n4_; (try clear hb); (try clear hb2); (try clear hk); (try clear hi); have hcz55_0 : w54.cell? ⟨gb257, 0, none⟩ = some (.int .i64 t252) := (kCe BK257.out 0).trans rfl; have hcz55_1 : w54.cell? ⟨gb257, 1, none⟩ = some (.slice Ao35 x258001_1.length co35) := (kCe BK257.out 1).trans rfl; have hfz55_0 := kFr BK257.out 0; have hfz55_1 := kFr BK257.out 1; have hnb56 := NB248_251.out; have hnc56 := NB251_248.out; have hcz57_0 : w54.cell? ⟨gb248, 0, none⟩ = some (.int .i64 0) := (kCe BK248.out 0).trans rfl; have hcz57_1 : w54.cell? ⟨gb248, 1, none⟩ = some (.slice none 0 0) := (kCe BK248.out 1).trans rfl; have hfz57_0 := kFr BK248.out 0; have hfz57_1 := kFr BK248.out 1))
           refine bodyPost_ret (results_ct rfl _ _ gb248 25 #[.int .i64 t252, .slice Ao35 x258001_1.length co35] (0, 0) _ rfl (by (with_reducible repeat (first | refine kDN ?_ _ | refine kDr ?_ | refine kAl ?_ _)); refine blk_put (cs := #[.int .i64 t252, .slice none 0 0]) ?_ 1 _ rfl; (with_reducible repeat (first | refine kDN ?_ _ | refine kDr ?_ | refine kAl ?_ _)); refine blk_put (cs := #[.int .i64 0, .slice none 0 0]) ?_ 0 _ rfl; (with_reducible repeat (first | refine kDN ?_ _ | refine kDr ?_ | refine kAl ?_ _)); exact BK248.out) Try.underlying25 rfl (by kernel_rfl)) rfl ?_
           exact ⟨_, by first | rfl | (simp [errW_none, errW_some] <;> rfl) | (simp [*, errW_none, errW_some] <;> rfl), by (with_reducible repeat (first | apply Kd.Q_alloc | apply Kd.Q_drewN | apply Kd.Q_drew)); exact Kd.Q_mono (Kd.Q_far (p := ⟨gb248, 1, none⟩) (Kd.Q_far (p := ⟨gb248, 0, none⟩) (Kd.Q_types HO_258001.out BK248.out (by decide)) (fun _ hk => hk.2) (.int .i64 t252)) (fun _ hk => hk.2) (.slice Ao35 x258001_1.length co35)) (fun _ hk => trivial), by repeat (first | (with_reducible first | exact HB.out | apply bAl | apply bDN | apply bD1 | refine bSt ?_ (IsS91.ge HI251.out) | refine bSt ?_ GE248.out | refine bSt ?_ GE257.out) | exact HB.out)⟩
         ·rw [if_neg c39] at H
          have c39b0 : decide (0 < t267) = false := decide_eq_false c39
          clear c39
          simp only [Option.some.injEq, Prod.mk.injEq] at H
          obtain ⟨rfl, rfl, rfl⟩ := H
          go_wp2_with (first | (go_at_call 41; (with_reducible refine (spec_l6Rd_pick.calls k3 g251 t249 x252001_3 8 t267 t268 w _ ?side1 ?side2 A38.out).mono ?_); (case side1 => repeat (first | (with_reducible first | exact HI251.out | apply IsS91.alloc | apply IsS91.drewN | apply IsS91.drew | apply IsS91.set_1 | refine IsS91.far ?_ NB251_248.out _ | refine IsS91.far ?_ NB251_257.out _) | exact HI251.out)); (case side2 => repeat (first | (with_reducible first | exact HB.out | apply bAl | apply bDN | apply bD1 | refine bSt ?_ (IsS91.ge HI251.out) | refine bSt ?_ GE248.out | refine bSt ?_ GE257.out) | exact HB.out)); rintro e w58 ⟨rfl, hi, hb, hk⟩; have n0_ := Zs.mk (Kd.Q_mono (Kd.Q_keep (IsS91.apartQ (show IsS91 w _ g251 t249 x252001_3 from by repeat (first | (with_reducible first | exact HI251.out | apply IsS91.alloc | apply IsS91.drewN | apply IsS91.drew | apply IsS91.set_1 | refine IsS91.far ?_ NB251_248.out _ | refine IsS91.far ?_ NB251_257.out _) | exact HI251.out)) (by (with_reducible repeat (first | apply Kd.Q_alloc | apply Kd.Q_drewN | apply Kd.Q_drew)); exact HO_258001.out) (by decide)) hk (fun _ h => h.2)) (fun _ h => h.1)); have n1_ := Zs.mk (KeepBut.blk hk (g' := gb248) (o := .cells #[.int .i64 0, .slice none 0 0] 25 (0, 0)) (by (with_reducible repeat (first | refine kDN ?_ _ | refine kDr ?_ | refine kAl ?_ _)); exact BK248.out) NB248_251.out (by simp)); have n2_ := Zs.mk (KeepBut.blk hk (g' := gb257) (o := .cells #[.int .i64 t252, .slice Ao35 x258001_1.length co35] 25 (0, 0)) (by (with_reducible repeat (first | refine kDN ?_ _ | refine kDr ?_ | refine kAl ?_ _)); exact BK257.out) NB257_251.out (by simp)); have n3_ := Zs.mk (hb); have n4_ := Zs.mk (hi); clear HO_258001; clear BK248; clear BK257; clear HB; clear HI251; have HO_258001 := n0_; have BK248 := n1_; have BK257 := n2_; have HB := n3_; have HI251 := n4_; clear n0_ n1_ n2_ n3_ n4_; (try clear hb); (try clear hb2); (try clear hk); (try clear hi); have hnb59 := NB257_248.out; have hnc59 := NB248_257.out; have hnb60 := NB257_251.out; have hnc60 := NB251_257.out; have hcz61_0 : w58.cell? ⟨gb257, 0, none⟩ = some (.int .i64 t252) := (kCe BK257.out 0).trans rfl; have hcz61_1 : w58.cell? ⟨gb257, 1, none⟩ = some (.slice Ao35 x258001_1.length co35) := (kCe BK257.out 1).trans rfl; have hfz61_0 := kFr BK257.out 0; have hfz61_1 := kFr BK257.out 1; have hnb62 := NB248_251.out; have hnc62 := NB251_248.out; have hcz63_0 : w58.cell? ⟨gb248, 0, none⟩ = some (.int .i64 0) := (kCe BK248.out 0).trans rfl; have hcz63_1 : w58.cell? ⟨gb248, 1, none⟩ = some (.slice none 0 0) := (kCe BK248.out 1).trans rfl; have hfz63_0 := kFr BK248.out 0; have hfz63_1 := kFr BK248.out 1))
          refine bodyPost_ret (results_ct rfl _ _ gb248 25 #[.int .i64 t252, .slice Ao35 x258001_1.length co35] (0, 0) _ rfl (by (with_reducible repeat (first | refine kDN ?_ _ | refine kDr ?_ | refine kAl ?_ _)); refine blk_put (cs := #[.int .i64 t252, .slice none 0 0]) ?_ 1 _ rfl; (with_reducible repeat (first | refine kDN ?_ _ | refine kDr ?_ | refine kAl ?_ _)); refine blk_put (cs := #[.int .i64 0, .slice none 0 0]) ?_ 0 _ rfl; (with_reducible repeat (first | refine kDN ?_ _ | refine kDr ?_ | refine kAl ?_ _)); exact BK248.out) Try.underlying25 rfl (by kernel_rfl)) rfl ?_
          exact ⟨_, by first | rfl | (simp [errW_none, errW_some] <;> rfl) | (simp [*, errW_none, errW_some] <;> rfl), by (with_reducible repeat (first | apply Kd.Q_alloc | apply Kd.Q_drewN | apply Kd.Q_drew)); exact Kd.Q_mono (Kd.Q_far (p := ⟨gb248, 1, none⟩) (Kd.Q_far (p := ⟨gb248, 0, none⟩) (Kd.Q_types HO_258001.out BK248.out (by decide)) (fun _ hk => hk.2) (.int .i64 t252)) (fun _ hk => hk.2) (.slice Ao35 x258001_1.length co35)) (fun _ hk => trivial), by repeat (first | (with_reducible first | exact HB.out | apply bAl | apply bDN | apply bD1 | refine bSt ?_ (IsS91.ge HI251.out) | refine bSt ?_ GE248.out | refine bSt ?_ GE257.out) | exact HB.out)⟩
        ·rw [if_neg c37] at H
         have c37b0 : decide (x8_3 < 8) = false := decide_eq_false c37
         clear c37
         simp only [Option.some.injEq, Prod.mk.injEq] at H
         obtain ⟨rfl, rfl, rfl⟩ := H
         have hnb64 := NB257_248.out
         have hnc64 := NB248_257.out
         have hnb65 := NB257_251.out
         have hnc65 := NB251_257.out
         have hcz66_0 : wr.cell? ⟨gb257, 0, none⟩ = some (.int .i64 t252) := (kCe BK257.out 0).trans rfl
         have hcz66_1 : wr.cell? ⟨gb257, 1, none⟩ = some (.slice Ao35 x258001_1.length co35) := (kCe BK257.out 1).trans rfl
         have hfz66_0 := kFr BK257.out 0
         have hfz66_1 := kFr BK257.out 1
         have hnb67 := NB248_251.out
         have hnc67 := NB251_248.out
         have hcz68_0 : wr.cell? ⟨gb248, 0, none⟩ = some (.int .i64 0) := (kCe BK248.out 0).trans rfl
         have hcz68_1 : wr.cell? ⟨gb248, 1, none⟩ = some (.slice none 0 0) := (kCe BK248.out 1).trans rfl
         have hfz68_0 := kFr BK248.out 0
         have hfz68_1 := kFr BK248.out 1
         go_wp2
         refine bodyPost_ret (results_ct rfl _ _ gb248 25 #[.int .i64 t252, .slice Ao35 x258001_1.length co35] (0, 0) _ rfl (by (with_reducible repeat (first | refine kDN ?_ _ | refine kDr ?_ | refine kAl ?_ _)); refine blk_put (cs := #[.int .i64 t252, .slice none 0 0]) ?_ 1 _ rfl; (with_reducible repeat (first | refine kDN ?_ _ | refine kDr ?_ | refine kAl ?_ _)); refine blk_put (cs := #[.int .i64 0, .slice none 0 0]) ?_ 0 _ rfl; (with_reducible repeat (first | refine kDN ?_ _ | refine kDr ?_ | refine kAl ?_ _)); exact BK248.out) Try.underlying25 rfl (by kernel_rfl)) rfl ?_
         exact ⟨_, by first | rfl | (simp [errW_none, errW_some] <;> rfl) | (simp [*, errW_none, errW_some] <;> rfl), by (with_reducible repeat (first | apply Kd.Q_alloc | apply Kd.Q_drewN | apply Kd.Q_drew)); exact Kd.Q_mono (Kd.Q_far (p := ⟨gb248, 1, none⟩) (Kd.Q_far (p := ⟨gb248, 0, none⟩) (Kd.Q_types HO_258001.out BK248.out (by decide)) (fun _ hk => hk.2) (.int .i64 t252)) (fun _ hk => hk.2) (.slice Ao35 x258001_1.length co35)) (fun _ hk => trivial), by repeat (first | (with_reducible first | exact HB.out | apply bAl | apply bDN | apply bD1 | refine bSt ?_ (IsS91.ge HI251.out) | refine bSt ?_ GE248.out | refine bSt ?_ GE257.out) | exact HB.out)⟩

end Go.Proofs.Ytefbfeaeifbjeaa.PFnLightMore
--slim
