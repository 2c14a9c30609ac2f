-- Written by a program of this session: the kit's print, with functions among it that were proved by hand.
import Derived.Test.YtejgohgmmndgbaaPFnTrailTurnx0
import Derived.Test.YtejgohgmmndgbaaPFnTrailTurnx9
import Derived.Test.YtejgohgmmndgbaaPFnTrailTurnx10
import Derived.Test.YtejgohgmmndgbaaPFnTrailTurnx15
import Derived.Test.YtejgohgmmndgbaaPFnTrailTurnx16
namespace Go.Proofs.Ytejgohgmmndgbaa.PFnTrailTurn
open Go.RowKit Go.Proofs.YtejgohgmmndgbaaW.PrintWords Go.Proofs.YtejgohgmmndgbaaW.PrintLast Go.Proofs.YtejgohgmmndgbaaW.PrintMore
attribute [local go_sem] max2_int min2_int max_two min_two max_three min_three max_four min_four   -- for this text's walks alone
set_option linter.unusedVariables false
set_option linter.unusedSimpArgs false

/-! ### spec_DrawTrailTo: function 8 -/
def spec_DrawTrailTo.l0 : Nat → Int → Int → List (S55) → Int → List Int → Int → Int → List (S57) → Option (Int × (List (S57)) × Int × Int)
 | 0, _, _, _, _, _, _, _, _ => none
 | k + 1, x7, x8, x9, x10, x239000, x239001, x245000, x245001 => if x10 < (x9.length : Int) then (if 0 ≤ x10 then (if ((rd_T55 x9 x10).f0) = 0 then ((spec_l6Rd_pick.f k x239000 x239001 3).bind fun bt253 => (if bt253.1 > 0 then (spec_DrawTrailTo.l0 k x7 ((rd_T55 x9 x10).f1) x9 (wrap64 (x10 + 1)) x239000 bt253.2 x245000 x245001) else (spec_DrawTrailTo.l0 k x7 x8 x9 (wrap64 (x10 + 1)) x239000 bt253.2 x245000 x245001))) else (spec_DrawTrailTo.l0 k x7 x8 x9 (wrap64 (x10 + 1)) x239000 x239001 x245000 x245001)) else (none)) else (some (x245000, x245001, x7, x8))
def spec_DrawTrailTo.f (k : Nat) (l0 : List Int) : Option (Int × (List (S57)) × Int × Int) := (spec_l6Open.f l0).bind fun bt236 => ((spec_l71Bright.f k bt236.1 bt236.2).bind fun bt239 => ((spec_l71Sight.f k bt236.1 bt239.2.2 bt239.1 bt239.2.1).bind fun bt245 => ((spec_l71Sight.f k bt236.1 bt245.2 bt239.1 bt239.2.1).bind fun bt247 => ((spec_TrailEnds.f k bt239.1 bt239.2.1 bt245.1).bind fun t249 => (spec_DrawTrailTo.l0 k bt245.1 bt247.1 t249 0 bt236.1 bt247.2 bt239.1 bt239.2.1)))))
theorem spec_DrawTrailTo.mono_l : ∀ k, (∀ y0 y1 y2 y3 y4 y5 y6 y7, LeO (spec_DrawTrailTo.l0 k y0 y1 y2 y3 y4 y5 y6 y7) (spec_DrawTrailTo.l0 (k + 1) y0 y1 y2 y3 y4 y5 y6 y7))
 | 0 => fun _ _ _ _ _ _ _ _ r h => by simp [spec_DrawTrailTo.l0] at h
 | k + 1 => by
  have ih0 := spec_DrawTrailTo.mono_l k
  ·intro y0 y1 y2 y3 y4 y5 y6 y7
   unfold spec_DrawTrailTo.l0
   repeat' first
   | (with_reducible exact ih0 _ _ _ _ _ _ _ _)
   | (with_reducible exact spec_TrailEnds.mono _ _ _ _)
   | (with_reducible exact spec_l6Rd_pick.mono _ _ _ _)
   | (with_reducible exact spec_l71Bright.mono _ _ _)
   | (with_reducible exact spec_l71Sight.mono _ _ _ _ _)
   | (with_reducible exact LeO.refl _)
   | (with_reducible exact LeO.none _)
   | (with_reducible refine LeO.ite ?_ ?_)
   | (with_reducible refine LeO.bind ?_ (fun _ => ?_))
   | exact ih0 _ _ _ _ _ _ _ _
   | exact spec_TrailEnds.mono _ _ _ _
   | exact spec_l6Rd_pick.mono _ _ _ _
   | exact spec_l71Bright.mono _ _ _
   | exact spec_l71Sight.mono _ _ _ _ _
   | exact LeO.none _
   | refine LeO.ite ?_ ?_
   | refine LeO.bind ?_ (fun _ => ?_)
theorem spec_DrawTrailTo.mono : ∀ a0 k, LeO (spec_DrawTrailTo.f k a0) (spec_DrawTrailTo.f (k + 1) a0) := by
 intro a0 k
 have ih0 := spec_DrawTrailTo.mono_l k
 unfold spec_DrawTrailTo.f
 repeat' first
   | (with_reducible exact ih0 _ _ _ _ _ _ _ _)
   | (with_reducible exact spec_TrailEnds.mono _ _ _ _)
   | (with_reducible exact spec_l6Rd_pick.mono _ _ _ _)
   | (with_reducible exact spec_l71Bright.mono _ _ _)
   | (with_reducible exact spec_l71Sight.mono _ _ _ _ _)
   | (with_reducible exact LeO.refl _)
   | (with_reducible exact LeO.none _)
   | (with_reducible refine LeO.ite ?_ ?_)
   | (with_reducible refine LeO.bind ?_ (fun _ => ?_))
   | exact ih0 _ _ _ _ _ _ _ _
   | exact spec_TrailEnds.mono _ _ _ _
   | exact spec_l6Rd_pick.mono _ _ _ _
   | exact spec_l71Bright.mono _ _ _
   | exact spec_l71Sight.mono _ _ _ _ _
   | exact LeO.none _
   | refine LeO.ite ?_ ?_
   | refine LeO.bind ?_ (fun _ => ?_)
set_option maxHeartbeats 8000000 in
set_option maxRecDepth 100000 in
theorem spec_DrawTrailTo.calls (k : Nat) (A0 : Option Addr) (c0 : Nat) (l0 : List Int) (r1 : Int) (r2 : List (S57)) (r3 : Int) (r4 : Int) (w : World) (hr0 : Kd.C (Kd.int .u8) w A0 l0.length l0) (hc0 : l0.length ≤ c0) (h : spec_DrawTrailTo.f k l0 = some (r1, r2, r3, r4)) :
  Calls Try.prog 8 #[.slice A0 l0.length c0] w fun e w' => ∃ v1_ : Value, e = .returned (.tuple #[.agg #[.int .i64 r1, v1_], .int .i64 r3, .int .i64 r4]) ∧ Kd.Q k57 57 w' w.heap.size (fun _ => True) v1_ r2 ∧ Below w.heap.size w w' := by
 have hu25 := Try.underlying25
 have HR0 := Zs.mk hr0
 have HC0 := Zs.mk hc0
 clear hr0 hc0
 have HB := Zs.mk (Below.refl w.heap.size w)
 have H : ((spec_l6Open.f l0).bind fun bt236 => ((spec_l71Bright.f k bt236.1 bt236.2).bind fun bt239 => ((spec_l71Sight.f k bt236.1 bt239.2.2 bt239.1 bt239.2.1).bind fun bt245 => ((spec_l71Sight.f k bt236.1 bt245.2 bt239.1 bt239.2.1).bind fun bt247 => ((spec_TrailEnds.f k bt239.1 bt239.2.1 bt245.1).bind fun t249 => (spec_DrawTrailTo.l0 k bt245.1 bt247.1 t249 0 bt236.1 bt247.2 bt239.1 bt239.2.1)))))) = some (r1, r2, r3, r4) := h
 clear h
 replace H := Option.bind_eq_some_iff.mp H
 obtain ⟨⟨t236, t237⟩, A20, H⟩ := H
 replace H : ((spec_l71Bright.f k t236 t237).bind fun bt239 => ((spec_l71Sight.f k t236 bt239.2.2 bt239.1 bt239.2.1).bind fun bt245 => ((spec_l71Sight.f k t236 bt245.2 bt239.1 bt239.2.1).bind fun bt247 => ((spec_TrailEnds.f k bt239.1 bt239.2.1 bt245.1).bind fun t249 => (spec_DrawTrailTo.l0 k bt245.1 bt247.1 t249 0 t236 bt247.2 bt239.1 bt239.2.1))))) = some (r1, r2, r3, r4) := H
 have A2 := Zs.mk A20
 clear A20
 replace H := Option.bind_eq_some_iff.mp H
 obtain ⟨⟨t239, t240, t243⟩, A30, H⟩ := H
 replace H : ((spec_l71Sight.f k t236 t243 t239 t240).bind fun bt245 => ((spec_l71Sight.f k t236 bt245.2 t239 t240).bind fun bt247 => ((spec_TrailEnds.f k t239 t240 bt245.1).bind fun t249 => (spec_DrawTrailTo.l0 k bt245.1 bt247.1 t249 0 t236 bt247.2 t239 t240)))) = some (r1, r2, r3, r4) := H
 have A3 := Zs.mk A30
 clear A30
 replace H := Option.bind_eq_some_iff.mp H
 obtain ⟨⟨t245, t246⟩, A40, H⟩ := H
 replace H : ((spec_l71Sight.f k t236 t246 t239 t240).bind fun bt247 => ((spec_TrailEnds.f k t239 t240 t245).bind fun t249 => (spec_DrawTrailTo.l0 k t245 bt247.1 t249 0 t236 bt247.2 t239 t240))) = some (r1, r2, r3, r4) := H
 have A4 := Zs.mk A40
 clear A40
 replace H := Option.bind_eq_some_iff.mp H
 obtain ⟨⟨t247, t248⟩, A50, H⟩ := H
 replace H : ((spec_TrailEnds.f k t239 t240 t245).bind fun t249 => (spec_DrawTrailTo.l0 k t245 t247 t249 0 t236 t248 t239 t240)) = some (r1, r2, r3, r4) := H
 have A5 := Zs.mk A50
 clear A50
 replace H := Option.bind_eq_some_iff.mp H
 obtain ⟨t249, A60, H⟩ := H
 replace H : (spec_DrawTrailTo.l0 k t245 t247 t249 0 t236 t248 t239 t240) = some (r1, r2, r3, r4) := H
 have A6 := Zs.mk A60
 clear A60
 have H' := Zs.mk H
 clear H
 go_enter Try.func8, Try.ntmps8
 go_wp2_with (first | ((with_reducible refine gate_dst (N := 2) rfl ?_); refine box_event ?hg (N := 2) ?hd (cs := #[.int .i64 0, .slice none 0 0]) (t := 25) ?hr ?_; (case hd => rfl); (case hg => rfl); (case hr => first | (go_simp; done) | (go_simp; rfl)); intro gb235 hg w7 hbox hb; have n0_ := Zs.mk (bSp zq2 hb); have n1_ := Zs.mk (hbox); have n2_ := Zs.mk ((by rw [hg]; exact (bSz zq2) : w.heap.size ≤ gb235)); have n3_ := Zs.mk ((by rw [hg]; exact (bSz zq2) : w.heap.size ≤ gb235)); clear HB; have HB := n0_; have BK235 := n1_; have GW235 := n2_; have GE235 := n3_; clear n0_ n1_ n2_ n3_; clear hb hbox hg) | ((with_reducible refine gate_callee (f := 40) rfl ?_); refine goesL_ (some 12) rfl rfl Try.func40 zq6 rfl #[.slice A0 l0.length c0] rfl zq1 ?_; (with_reducible refine (spec_l6Open.calls _ _ l0 t236 t237 w _ ?side1 ?side2 ?side3 A2.out).mono ?_); (case side1 => repeat (first | (with_reducible first | exact HB.out | apply bAl | apply bDN | apply bD1 | refine bSt ?_ GE235.out) | exact HB.out)); (case side2 => exact HR0.out); (case side3 => exact HC0.out); rintro e w8 ⟨g238, rfl, hi, hb, hb2⟩; refine ⟨_, rfl, ?_⟩; have n0_ := Zs.mk (kBe (g := gb235) (o := .cells #[.int .i64 0, .slice none 0 0] 25 (0, 0)) zq40 hb2); have n1_ := Zs.mk (hb); have n2_ := Zs.mk (hi); have n3_ := Zs.mk (IsS90.ne_blk hi (kBe (g := gb235) (o := .cells #[.int .i64 0, .slice none 0 0] 25 (0, 0)) zq40 hb2) zq31); have n4_ := Zs.mk (Ne.symm (IsS90.ne_blk hi (kBe (g := gb235) (o := .cells #[.int .i64 0, .slice none 0 0] 25 (0, 0)) zq40 hb2) zq31)); clear BK235; clear HB; have BK235 := n0_; have HB := n1_; have HI238 := n2_; have NB238_235 := n3_; have NB235_238 := n4_; clear n0_ n1_ n2_ n3_ n4_; (try clear hb); (try clear hb2); (try clear hk); (try clear hi)) | ((with_reducible refine gate_callee (f := 41) rfl ?_); refine goesL_ (some 14) rfl rfl Try.func41 zq6 rfl #[.pointer (some ⟨g238, 0, none⟩)] rfl zq1 ?_; (with_reducible refine (spec_l71Bright.calls k g238 t236 t237 t239 t240 t243 w _ ?side1 ?side2 A3.out).mono ?_); (case side1 => repeat (first | (with_reducible first | exact HI238.out | apply IsS90.alloc | apply IsS90.drewN | apply IsS90.drew | apply IsS90.set_1 | refine IsS90.far ?_ NB238_235.out _) | exact HI238.out)); (case side2 => repeat (first | (with_reducible first | exact HB.out | apply bAl | apply bDN | apply bD1 | refine bSt ?_ (IsS90.ge HI238.out) | refine bSt ?_ GE235.out) | exact HB.out)); rintro e w9 ⟨v241, rfl, ho0, hi, hb, hk⟩; refine ⟨_, rfl, ?_⟩; have n0_ := Zs.mk (KeepBut.blk hk (g' := gb235) (o := .cells #[.int .i64 0, .slice none 0 0] 25 (0, 0)) zq40 NB235_238.out zq58); have n1_ := Zs.mk (Kd.Q_lower ho0 (bSz zq65)); have n2_ := Zs.mk (hb); have n3_ := Zs.mk (hi); clear BK235; clear HB; clear HI238; have BK235 := n0_; have HO242 := n1_; have HB := n2_; have HI238 := n3_; clear n0_ n1_ n2_ n3_; (try clear hb); (try clear hb2); (try clear hk); (try clear hi); (try clear ho0)) | ((with_reducible refine gate_dst (N := 6) rfl ?_); refine box_event ?hg (N := 6) ?hd (cs := #[.int .i64 0, .slice none 0 0]) (t := 25) ?hr ?_; (case hd => rfl); (case hg => rfl); (case hr => first | (go_simp; done) | (go_simp; rfl)); intro gb244 hg w10 hbox hb; have n0_ := Zs.mk (Kd.Q_below zq80 hb); have n1_ := Zs.mk (kBe (g := gb235) (o := .cells #[.int .i64 0, .slice none 0 0] 25 (0, 0)) zq40 hb); have n2_ := Zs.mk (IsS90.below (by repeat (first | (with_reducible first | exact HI238.out | apply IsS90.alloc | apply IsS90.drewN | apply IsS90.drew | apply IsS90.set_1 | refine IsS90.far ?_ NB238_235.out _) | exact HI238.out)) hb); have n3_ := Zs.mk (bSp zq65 hb); have n4_ := Zs.mk (hbox); have n5_ := Zs.mk ((by rw [hg]; exact (bSz zq65) : w.heap.size ≤ gb244)); have n6_ := Zs.mk ((by rw [hg]; exact (bSz zq65) : w.heap.size ≤ gb244)); have n7_ := Zs.mk ((by rw [hg]; exact Nat.ne_of_lt (blk_lt (g := gb235) (o := .cells #[.int .i64 0, .slice none 0 0] 25 (0, 0)) zq40) : gb235 ≠ gb244)); have n8_ := Zs.mk ((by rw [hg]; exact Nat.ne_of_gt (blk_lt (g := gb235) (o := .cells #[.int .i64 0, .slice none 0 0] 25 (0, 0)) zq40) : gb244 ≠ gb235)); have n9_ := Zs.mk ((by rw [hg]; exact Nat.ne_of_lt (IsS90.lt (show IsS90 w _ g238 t236 t243 from by repeat (first | (with_reducible first | exact HI238.out | apply IsS90.alloc | apply IsS90.drewN | apply IsS90.drew | apply IsS90.set_1 | refine IsS90.far ?_ NB238_235.out _) | exact HI238.out))) : g238 ≠ gb244)); have n10_ := Zs.mk ((by rw [hg]; exact Nat.ne_of_gt (IsS90.lt (show IsS90 w _ g238 t236 t243 from by repeat (first | (with_reducible first | exact HI238.out | apply IsS90.alloc | apply IsS90.drewN | apply IsS90.drew | apply IsS90.set_1 | refine IsS90.far ?_ NB238_235.out _) | exact HI238.out))) : gb244 ≠ g238)); clear HO242; clear BK235; clear HI238; clear HB; have HO242 := n0_; have BK235 := n1_; have HI238 := n2_; have HB := n3_; have BK244 := n4_; have GW244 := n5_; have GE244 := n6_; have NB235_244 := n7_; have NB244_235 := n8_; have NB238_244 := n9_; have NB244_238 := n10_; clear n0_ n1_ n2_ n3_ n4_ n5_ n6_ n7_ n8_ n9_ n10_; clear hb hbox hg; have hnb11 := NB244_235.out; have hnc11 := NB235_244.out; have hnb12 := NB244_238.out; have hnc12 := NB238_244.out; have hcz13_0 : w10.cell? ⟨gb244, 0, none⟩ = some (.int .i64 0) := (kCe BK244.out 0).trans rfl; have hcz13_1 : w10.cell? ⟨gb244, 1, none⟩ = some (.slice none 0 0) := (kCe BK244.out 1).trans rfl; have hfz13_0 := kFr BK244.out 0; have hfz13_1 := kFr BK244.out 1; obtain ⟨Ao14, co14, eo14, _⟩ := Kd.Q_slice HO242.out; subst eo14) | ((with_reducible refine gate_callee (f := 42) rfl ?_); refine goesL_ (some 17) rfl rfl Try.func42 zq6 rfl #[.pointer (some ⟨g238, 0, none⟩), .agg #[.int .i64 t239, .slice Ao14 t240.length co14]] rfl zq1 ?_; (with_reducible refine (spec_l71Sight.calls k g238 t236 t243 t239 _ _ t240 t245 t246 w _ ?side1 ?side2 ?side3 ?side4 A4.out).mono ?_); (case side1 => repeat (first | (with_reducible first | exact HI238.out | apply IsS90.alloc | apply IsS90.drewN | apply IsS90.drew | apply IsS90.set_1 | refine IsS90.far ?_ NB238_235.out _ | refine IsS90.far ?_ NB238_244.out _) | exact HI238.out)); (case side2 => repeat (first | (with_reducible first | exact HB.out | apply bAl | apply bDN | apply bD1 | refine bSt ?_ (IsS90.ge HI238.out) | refine bSt ?_ GE235.out | refine bSt ?_ GE244.out) | exact HB.out)); (case side3 => exact Kd.C_foot_ownQ (IsS90.apartQ (show IsS90 w _ g238 t236 t243 from by repeat (first | (with_reducible first | exact HI238.out | apply IsS90.alloc | apply IsS90.drewN | apply IsS90.drew | apply IsS90.set_1 | refine IsS90.far ?_ NB238_235.out _ | refine IsS90.far ?_ NB238_244.out _) | exact HI238.out)) zq76 zq31) (fun _ h_ => h_.2)); (case side4 => exact (Kd.Q_reads' HO242.out).2.1); rintro e w15 ⟨rfl, hi, hb, hk⟩; refine ⟨_, rfl, ?_⟩; have n0_ := Zs.mk (KeepBut.blk hk (g' := gb235) (o := .cells #[.int .i64 0, .slice none 0 0] 25 (0, 0)) (by (with_reducible repeat (first | refine kDN ?_ _ | refine kDr ?_ | refine kAl ?_ _)); refine blk_far ?_ NB235_244.out _; (with_reducible repeat (first | refine kDN ?_ _ | refine kDr ?_ | refine kAl ?_ _)); refine blk_far ?_ NB235_244.out _; (with_reducible repeat (first | refine kDN ?_ _ | refine kDr ?_ | refine kAl ?_ _)); exact BK235.out) NB235_238.out zq58); have n1_ := Zs.mk (Kd.Q_mono (Kd.Q_keep (IsS90.apartQ (show IsS90 w _ g238 t236 t243 from by repeat (first | (with_reducible first | exact HI238.out | apply IsS90.alloc | apply IsS90.drewN | apply IsS90.drew | apply IsS90.set_1 | refine IsS90.far ?_ NB238_235.out _ | refine IsS90.far ?_ NB238_244.out _) | exact HI238.out)) zq76 zq31) hk (fun _ h => h.2)) (fun _ h => h.1)); have n2_ := Zs.mk (KeepBut.blk hk (g' := gb244) (o := .cells #[.int .i64 t239, .slice Ao14 t240.length co14] 25 (0, 0)) (by (with_reducible repeat (first | refine kDN ?_ _ | refine kDr ?_ | refine kAl ?_ _)); refine blk_put (cs := #[.int .i64 t239, .slice none 0 0]) ?_ 1 _ rfl; (with_reducible repeat (first | refine kDN ?_ _ | refine kDr ?_ | refine kAl ?_ _)); refine blk_put (cs := #[.int .i64 0, .slice none 0 0]) ?_ 0 _ rfl; (with_reducible repeat (first | refine kDN ?_ _ | refine kDr ?_ | refine kAl ?_ _)); exact BK244.out) NB244_238.out zq58); have n3_ := Zs.mk (hb); have n4_ := Zs.mk (hi); clear BK235; clear HO242; clear BK244; clear HB; clear HI238; have BK235 := n0_; have HO242 := n1_; have BK244 := n2_; have HB := n3_; have HI238 := n4_; clear n0_ n1_ n2_ n3_ n4_; (try clear hb); (try clear hb2); (try clear hk); (try clear hi); have hcz16_0 : w15.cell? ⟨gb244, 0, none⟩ = some (.int .i64 t239) := (kCe BK244.out 0).trans rfl; have hcz16_1 : w15.cell? ⟨gb244, 1, none⟩ = some (.slice Ao14 t240.length co14) := (kCe BK244.out 1).trans rfl; have hfz16_0 := kFr BK244.out 0; have hfz16_1 := kFr BK244.out 1) | ((with_reducible refine gate_callee (f := 42) rfl ?_); refine goesL_ (some 20) rfl rfl Try.func42 zq6 rfl #[.pointer (some ⟨g238, 0, none⟩), .agg #[.int .i64 t239, .slice Ao14 t240.length co14]] rfl zq1 ?_; (with_reducible refine (spec_l71Sight.calls k g238 t236 t246 t239 _ _ t240 t247 t248 w _ ?side1 ?side2 ?side3 ?side4 A5.out).mono ?_); (case side1 => repeat (first | (with_reducible first | exact HI238.out | apply IsS90.alloc | apply IsS90.drewN | apply IsS90.drew | apply IsS90.set_1 | refine IsS90.far ?_ NB238_235.out _ | refine IsS90.far ?_ NB238_244.out _) | exact HI238.out)); (case side2 => repeat (first | (with_reducible first | exact HB.out | apply bAl | apply bDN | apply bD1 | refine bSt ?_ (IsS90.ge HI238.out) | refine bSt ?_ GE235.out | refine bSt ?_ GE244.out) | exact HB.out)); (case side3 => exact Kd.C_foot_ownQ (IsS90.apartQ (show IsS90 w _ g238 t236 t246 from by repeat (first | (with_reducible first | exact HI238.out | apply IsS90.alloc | apply IsS90.drewN | apply IsS90.drew | apply IsS90.set_1 | refine IsS90.far ?_ NB238_235.out _ | refine IsS90.far ?_ NB238_244.out _) | exact HI238.out)) zq80 zq31) (fun _ h_ => h_.2)); (case side4 => exact (Kd.Q_reads' HO242.out).2.1); rintro e w17 ⟨rfl, hi, hb, hk⟩; refine ⟨_, rfl, ?_⟩; have n0_ := Zs.mk (KeepBut.blk hk (g' := gb235) (o := .cells #[.int .i64 0, .slice none 0 0] 25 (0, 0)) zq40 NB235_238.out zq58); have n1_ := Zs.mk (Kd.Q_mono (Kd.Q_keep (IsS90.apartQ (show IsS90 w _ g238 t236 t246 from by repeat (first | (with_reducible first | exact HI238.out | apply IsS90.alloc | apply IsS90.drewN | apply IsS90.drew | apply IsS90.set_1 | refine IsS90.far ?_ NB238_235.out _ | refine IsS90.far ?_ NB238_244.out _) | exact HI238.out)) zq80 zq31) hk (fun _ h => h.2)) (fun _ h => h.1)); have n2_ := Zs.mk (KeepBut.blk hk (g' := gb244) (o := .cells #[.int .i64 t239, .slice Ao14 t240.length co14] 25 (0, 0)) zq81 NB244_238.out zq58); have n3_ := Zs.mk (hb); have n4_ := Zs.mk (hi); clear BK235; clear HO242; clear BK244; clear HB; clear HI238; have BK235 := n0_; have HO242 := n1_; have BK244 := n2_; have HB := n3_; have HI238 := n4_; clear n0_ n1_ n2_ n3_ n4_; (try clear hb); (try clear hb2); (try clear hk); (try clear hi); have hcz18_0 : w17.cell? ⟨gb244, 0, none⟩ = some (.int .i64 t239) := (kCe BK244.out 0).trans rfl; have hcz18_1 : w17.cell? ⟨gb244, 1, none⟩ = some (.slice Ao14 t240.length co14) := (kCe BK244.out 1).trans rfl; have hfz18_0 := kFr BK244.out 0; have hfz18_1 := kFr BK244.out 1) | ((with_reducible refine gate_callee (f := 32) rfl ?_); refine goesL_ (some 23) rfl rfl Try.func32 zq6 rfl #[.agg #[.int .i64 t239, .slice Ao14 t240.length co14], .int .i64 t245] rfl zq1 ?_; (with_reducible refine (spec_TrailEnds.calls k t239 _ _ t240 t245 t249 _ ?side1 ?side2 A6.out).mono ?_); (case side1 => repeat (first | exact (Kd.Q_reads' HO242.out).2.2 | (with_reducible refine Kd.C_alloc ?_ _) | (with_reducible refine Kd.C_drewN ?_ _) | (with_reducible refine Kd.C_drew ?_))); (case side2 => exact (Kd.Q_reads' HO242.out).2.1); rintro e w19 ⟨v250, rfl, ho0, hb⟩; refine ⟨_, rfl, ?_⟩; have n0_ := Zs.mk (Kd.Q_below zq80 hb); have n1_ := Zs.mk (Kd.R_lower ho0 (bSz (by repeat (first | (with_reducible first | exact HB.out | apply bAl | apply bDN | apply bD1 | refine bSt ?_ (IsS90.ge HI238.out) | refine bSt ?_ GE235.out | refine bSt ?_ GE244.out) | exact HB.out)))); have n2_ := Zs.mk (kBe (g := gb235) (o := .cells #[.int .i64 0, .slice none 0 0] 25 (0, 0)) zq40 hb); have n3_ := Zs.mk (IsS90.below (by repeat (first | (with_reducible first | exact HI238.out | apply IsS90.alloc | apply IsS90.drewN | apply IsS90.drew | apply IsS90.set_1 | refine IsS90.far ?_ NB238_235.out _ | refine IsS90.far ?_ NB238_244.out _) | exact HI238.out)) hb); have n4_ := Zs.mk (kBe (g := gb244) (o := .cells #[.int .i64 t239, .slice Ao14 t240.length co14] 25 (0, 0)) zq81 hb); have n5_ := Zs.mk (bSp (by repeat (first | (with_reducible first | exact HB.out | apply bAl | apply bDN | apply bD1 | refine bSt ?_ (IsS90.ge HI238.out) | refine bSt ?_ GE235.out | refine bSt ?_ GE244.out) | exact HB.out)) hb); clear HO242; clear BK235; clear HI238; clear BK244; clear HB; have HO242 := n0_; have HO251 := n1_; have BK235 := n2_; have HI238 := n3_; have BK244 := n4_; have HB := n5_; clear n0_ n1_ n2_ n3_ n4_ n5_; (try clear hb); (try clear hb2); (try clear hk); (try clear hi); (try clear ho0)))
 go_loopg [8, 10] k (fun kq v8 v10 w' => ∃ (x8_1 : Int) (x10_1 : Int) (x239001_1 : Int), v8 = .int .i64 x8_1 ∧ v10 = .int .i64 x10_1 ∧ Zs (spec_DrawTrailTo.l0 kq t245 x8_1 t249 x10_1 t236 x239001_1 t239 t240 = some (r1, r2, r3, r4)) ∧ Zs (kq ≤ k) ∧ Zs (Kd.R k55 55 w' w.heap.size (fun _ => True) v250 t249) ∧ Zs (Kd.Q k57 57 w' w.heap.size (fun _ => True) (.slice Ao14 t240.length co14) t240) ∧ Zs (w'.heap[gb235]? = some (.cells #[.int .i64 0, (.slice none 0 0)] 25 (0, 0))) ∧ Zs (w'.heap[gb244]? = some (.cells #[.int .i64 t239, (.slice Ao14 t240.length co14)] 25 (0, 0))) ∧ Zs (IsS90 w w' g238 t236 x239001_1) ∧ Zs (Below w.heap.size w w'))
 case atStart => exact ⟨(t247), (0), (t248), zq13, zq13, H', ⟨Nat.le_refl _⟩, ⟨by (with_reducible repeat (first | apply Kd.R_alloc | apply Kd.R_drewN | apply Kd.R_drew)); exact HO251.out⟩, ⟨by (with_reducible repeat (first | apply Kd.Q_alloc | apply Kd.Q_drewN | apply Kd.Q_drew)); exact HO242.out⟩, ⟨by (with_reducible repeat (first | refine kDN ?_ _ | refine kDr ?_ | refine kAl ?_ _)); exact BK235.out⟩, ⟨by (with_reducible repeat (first | refine kDN ?_ _ | refine kDr ?_ | refine kAl ?_ _)); exact BK244.out⟩, ⟨by repeat (first | (with_reducible first | exact HI238.out | apply IsS90.alloc | apply IsS90.drewN | apply IsS90.drew | apply IsS90.set_1 | refine IsS90.far ?_ NB238_235.out _ | refine IsS90.far ?_ NB238_244.out _) | exact HI238.out)⟩, ⟨by repeat (first | (with_reducible first | exact HB.out | apply bAl | apply bDN | apply bD1 | refine bSt ?_ (IsS90.ge HI238.out) | refine bSt ?_ GE235.out | refine bSt ?_ GE244.out) | exact HB.out)⟩⟩
 case round =>
  clear H'
  try clear c1
  try clear p2
  try clear c3
  try clear c4
  try clear c8
  try clear c11
  try clear c12
  try clear hcz13_0
  try clear hcz13_1
  try clear hcz16_0
  try clear hcz16_1
  try clear hcz18_0
  try clear hcz18_1
  try clear hfz13_0
  try clear hfz13_1
  try clear hfz16_0
  try clear hfz16_1
  try clear hfz18_0
  try clear hfz18_1
  obtain ⟨x8_1, x10_1, x239001_1, rfl, rfl, HA, HK1, HO_9, HO_245001, BK235, BK244, HI238, HB⟩ := hrel
  cases gk with
  | zero => exact absurd HA.out (by simp [spec_DrawTrailTo.l0])
  | succ k1 =>
   have H := HA.out
   clear HA
   simp only [spec_DrawTrailTo.l0] at H
   by_cases c20 : x10_1 < (t249.length : Int)
   ·rw [if_pos c20] at H
    have c20b0 : decide (x10_1 < (t249.length : Int)) = true := decide_eq_true c20
    clear c20
    by_cases c21 : 0 ≤ x10_1
    ·rw [if_pos c21] at H
     have c21b0 : decide (0 ≤ x10_1) = true := decide_eq_true c21
     clear c21
     by_cases c22 : ((rd_T55 t249 x10_1).f0) = 0
     ·rw [if_pos c22] at H
      have c22b0 : (((rd_T55 t249 x10_1).f0) == 0) = true := beq_iff_eq.mpr c22
      have c22b1 : (((rd_T55 t249 x10_1).f0) != 0) = false := bne_eq_false_iff_eq.mpr c22
      clear c22
      replace H := Option.bind_eq_some_iff.mp H
      obtain ⟨⟨t253, t254⟩, A230, H⟩ := H
      replace H : (if t253 > 0 then (spec_DrawTrailTo.l0 k1 t245 ((rd_T55 t249 x10_1).f1) t249 (wrap64 (x10_1 + 1)) t236 t254 t239 t240) else (spec_DrawTrailTo.l0 k1 t245 x8_1 t249 (wrap64 (x10_1 + 1)) t236 t254 t239 t240)) = some (r1, r2, r3, r4) := H
      have A23 := Zs.mk A230
      clear A230
      by_cases c24 : t253 > 0
      ·rw [if_pos c24] at H
       have c24b0 : decide (0 < t253) = true := decide_eq_true c24
       clear c24
       have H' := Zs.mk H
       clear H
       obtain ⟨Ao25, co25, eo25⟩ := Kd.R_slice HO_9.out
       subst eo25
       have p252 : 0 ≤ (x10_1 : Int) := of_decide_eq_true zq8
       have q252 : x10_1 < (t249.length : Int) := of_decide_eq_true zq8
       obtain ⟨ad252, e252, hx252_0, hx252_1, hx252_2⟩ := at_T55 (Kd.R_reads' HO_9.out).2.2 x10_1 p252 q252
       cases e252
       replace p252 := eq_true p252
       replace q252 := eq_true q252
       go_wp2_with (first | (go_at_call 43; (with_reducible refine (spec_l6Rd_pick.calls k1 g238 t236 x239001_1 3 t253 t254 w _ ?side1 ?side2 A23.out).mono ?_); (case side1 => repeat (first | (with_reducible first | exact HI238.out | apply IsS90.alloc | apply IsS90.drewN | apply IsS90.drew | apply IsS90.set_1 | refine IsS90.far ?_ NB238_235.out _ | refine IsS90.far ?_ NB238_244.out _) | exact HI238.out)); (case side2 => repeat (first | (with_reducible first | exact HB.out | apply bAl | apply bDN | apply bD1 | refine bSt ?_ (IsS90.ge HI238.out) | refine bSt ?_ GE235.out | refine bSt ?_ GE244.out) | exact HB.out)); rintro e w26 ⟨rfl, hi, hb, hk⟩; have n0_ := Zs.mk (Kd.R_mono (Kd.R_keep (IsS90.apart (show IsS90 w _ g238 t236 x239001_1 from by repeat (first | (with_reducible first | exact HI238.out | apply IsS90.alloc | apply IsS90.drewN | apply IsS90.drew | apply IsS90.set_1 | refine IsS90.far ?_ NB238_235.out _ | refine IsS90.far ?_ NB238_244.out _) | exact HI238.out)) (by (with_reducible repeat (first | apply Kd.R_alloc | apply Kd.R_drewN | apply Kd.R_drew)); exact HO_9.out) zq31) hk (fun _ h => h.2)) (fun _ h => h.1)); have n1_ := Zs.mk (Kd.Q_mono (Kd.Q_keep (IsS90.apartQ (show IsS90 w _ g238 t236 x239001_1 from by repeat (first | (with_reducible first | exact HI238.out | apply IsS90.alloc | apply IsS90.drewN | apply IsS90.drew | apply IsS90.set_1 | refine IsS90.far ?_ NB238_235.out _ | refine IsS90.far ?_ NB238_244.out _) | exact HI238.out)) (by (with_reducible repeat (first | apply Kd.Q_alloc | apply Kd.Q_drewN | apply Kd.Q_drew)); exact HO_245001.out) zq31) hk (fun _ h => h.2)) (fun _ h => h.1)); have n2_ := Zs.mk (KeepBut.blk hk (g' := gb235) (o := .cells #[.int .i64 0, .slice none 0 0] 25 (0, 0)) zq40 NB235_238.out zq58); have n3_ := Zs.mk (KeepBut.blk hk (g' := gb244) (o := .cells #[.int .i64 t239, .slice Ao14 t240.length co14] 25 (0, 0)) zq81 NB244_238.out zq58); have n4_ := Zs.mk (hb); have n5_ := Zs.mk (hi); clear HO_9; clear HO_245001; clear BK235; clear BK244; clear HB; clear HI238; have HO_9 := n0_; have HO_245001 := n1_; have BK235 := n2_; have BK244 := n3_; have HB := n4_; have HI238 := n5_; clear n0_ n1_ n2_ n3_ n4_ n5_; (try clear hb); (try clear hb2); (try clear hk); (try clear hi); have p255 : 0 ≤ (x10_1 : Int) := of_decide_eq_true zq8; have q255 : x10_1 < (t249.length : Int) := of_decide_eq_true zq8; obtain ⟨ad255, e255, hx255_0, hx255_1, hx255_2⟩ := at_T55 (Kd.R_reads' HO_9.out).2.2 x10_1 p255 q255; obtain rfl : ad252 = ad255 := (by injection e255); replace p255 := eq_true p255; replace q255 := eq_true q255))
       go_roundg k1
       case measure => have := HK1.out; omega
       case rel => exact ⟨((rd_T55 t249 x10_1).f1), (wrap64 (x10_1 + 1)), (t254), zq13, zq13, H', ⟨by have := HK1.out; omega⟩, ⟨by (with_reducible repeat (first | apply Kd.R_alloc | apply Kd.R_drewN | apply Kd.R_drew)); exact HO_9.out⟩, ⟨by (with_reducible repeat (first | apply Kd.Q_alloc | apply Kd.Q_drewN | apply Kd.Q_drew)); exact HO_245001.out⟩, ⟨by (with_reducible repeat (first | refine kDN ?_ _ | refine kDr ?_ | refine kAl ?_ _)); exact BK235.out⟩, ⟨by (with_reducible repeat (first | refine kDN ?_ _ | refine kDr ?_ | refine kAl ?_ _)); exact BK244.out⟩, ⟨by repeat (first | (with_reducible first | exact HI238.out | apply IsS90.alloc | apply IsS90.drewN | apply IsS90.drew | apply IsS90.set_1 | refine IsS90.far ?_ NB238_235.out _ | refine IsS90.far ?_ NB238_244.out _) | exact HI238.out)⟩, ⟨by repeat (first | (with_reducible first | exact HB.out | apply bAl | apply bDN | apply bD1 | refine bSt ?_ (IsS90.ge HI238.out) | refine bSt ?_ GE235.out | refine bSt ?_ GE244.out) | exact HB.out)⟩⟩
      ·rw [if_neg c24] at H
       have c24b0 : decide (0 < t253) = false := decide_eq_false c24
       clear c24
       have H' := Zs.mk H
       clear H
       obtain ⟨Ao27, co27, eo27⟩ := Kd.R_slice HO_9.out
       subst eo27
       have p252 : 0 ≤ (x10_1 : Int) := of_decide_eq_true zq8
       have q252 : x10_1 < (t249.length : Int) := of_decide_eq_true zq8
       obtain ⟨ad252, e252, hx252_0, hx252_1, hx252_2⟩ := at_T55 (Kd.R_reads' HO_9.out).2.2 x10_1 p252 q252
       cases e252
       replace p252 := eq_true p252
       replace q252 := eq_true q252
       go_wp2_with (first | (go_at_call 43; (with_reducible refine (spec_l6Rd_pick.calls k1 g238 t236 x239001_1 3 t253 t254 w _ ?side1 ?side2 A23.out).mono ?_); (case side1 => repeat (first | (with_reducible first | exact HI238.out | apply IsS90.alloc | apply IsS90.drewN | apply IsS90.drew | apply IsS90.set_1 | refine IsS90.far ?_ NB238_235.out _ | refine IsS90.far ?_ NB238_244.out _) | exact HI238.out)); (case side2 => repeat (first | (with_reducible first | exact HB.out | apply bAl | apply bDN | apply bD1 | refine bSt ?_ (IsS90.ge HI238.out) | refine bSt ?_ GE235.out | refine bSt ?_ GE244.out) | exact HB.out)); rintro e w28 ⟨rfl, hi, hb, hk⟩; have n0_ := Zs.mk (Kd.R_mono (Kd.R_keep (IsS90.apart (show IsS90 w _ g238 t236 x239001_1 from by repeat (first | (with_reducible first | exact HI238.out | apply IsS90.alloc | apply IsS90.drewN | apply IsS90.drew | apply IsS90.set_1 | refine IsS90.far ?_ NB238_235.out _ | refine IsS90.far ?_ NB238_244.out _) | exact HI238.out)) (by (with_reducible repeat (first | apply Kd.R_alloc | apply Kd.R_drewN | apply Kd.R_drew)); exact HO_9.out) zq31) hk (fun _ h => h.2)) (fun _ h => h.1)); have n1_ := Zs.mk (Kd.Q_mono (Kd.Q_keep (IsS90.apartQ (show IsS90 w _ g238 t236 x239001_1 from by repeat (first | (with_reducible first | exact HI238.out | apply IsS90.alloc | apply IsS90.drewN | apply IsS90.drew | apply IsS90.set_1 | refine IsS90.far ?_ NB238_235.out _ | refine IsS90.far ?_ NB238_244.out _) | exact HI238.out)) (by (with_reducible repeat (first | apply Kd.Q_alloc | apply Kd.Q_drewN | apply Kd.Q_drew)); exact HO_245001.out) zq31) hk (fun _ h => h.2)) (fun _ h => h.1)); have n2_ := Zs.mk (KeepBut.blk hk (g' := gb235) (o := .cells #[.int .i64 0, .slice none 0 0] 25 (0, 0)) zq40 NB235_238.out zq58); have n3_ := Zs.mk (KeepBut.blk hk (g' := gb244) (o := .cells #[.int .i64 t239, .slice Ao14 t240.length co14] 25 (0, 0)) zq81 NB244_238.out zq58); have n4_ := Zs.mk (hb); have n5_ := Zs.mk (hi); clear HO_9; clear HO_245001; clear BK235; clear BK244; clear HB; clear HI238; have HO_9 := n0_; have HO_245001 := n1_; have BK235 := n2_; have BK244 := n3_; have HB := n4_; have HI238 := n5_; clear n0_ n1_ n2_ n3_ n4_ n5_; (try clear hb); (try clear hb2); (try clear hk); (try clear hi)))
       go_roundg k1
       case measure => have := HK1.out; omega
       case rel => exact ⟨(x8_1), (wrap64 (x10_1 + 1)), (t254), zq13, zq13, H', ⟨by have := HK1.out; omega⟩, ⟨by (with_reducible repeat (first | apply Kd.R_alloc | apply Kd.R_drewN | apply Kd.R_drew)); exact HO_9.out⟩, ⟨by (with_reducible repeat (first | apply Kd.Q_alloc | apply Kd.Q_drewN | apply Kd.Q_drew)); exact HO_245001.out⟩, ⟨by (with_reducible repeat (first | refine kDN ?_ _ | refine kDr ?_ | refine kAl ?_ _)); exact BK235.out⟩, ⟨by (with_reducible repeat (first | refine kDN ?_ _ | refine kDr ?_ | refine kAl ?_ _)); exact BK244.out⟩, ⟨by repeat (first | (with_reducible first | exact HI238.out | apply IsS90.alloc | apply IsS90.drewN | apply IsS90.drew | apply IsS90.set_1 | refine IsS90.far ?_ NB238_235.out _ | refine IsS90.far ?_ NB238_244.out _) | exact HI238.out)⟩, ⟨by repeat (first | (with_reducible first | exact HB.out | apply bAl | apply bDN | apply bD1 | refine bSt ?_ (IsS90.ge HI238.out) | refine bSt ?_ GE235.out | refine bSt ?_ GE244.out) | exact HB.out)⟩⟩
     ·rw [if_neg c22] at H
      have c22b0 : (((rd_T55 t249 x10_1).f0) == 0) = false := beq_eq_false_iff_ne.mpr c22
      have c22b1 : (((rd_T55 t249 x10_1).f0) != 0) = true := bne_iff_ne.mpr c22
      have H' := Zs.mk H
      clear H
      obtain ⟨Ao29, co29, eo29⟩ := Kd.R_slice HO_9.out
      subst eo29
      have p252 : 0 ≤ (x10_1 : Int) := of_decide_eq_true zq8
      have q252 : x10_1 < (t249.length : Int) := of_decide_eq_true zq8
      obtain ⟨ad252, e252, hx252_0, hx252_1, hx252_2⟩ := at_T55 (Kd.R_reads' HO_9.out).2.2 x10_1 p252 q252
      cases e252
      replace p252 := eq_true p252
      replace q252 := eq_true q252
      go_wp2
      go_roundg k1
      case measure => have := HK1.out; omega
      case rel => exact ⟨(x8_1), (wrap64 (x10_1 + 1)), (x239001_1), zq13, zq13, H', ⟨by have := HK1.out; omega⟩, ⟨by (with_reducible repeat (first | apply Kd.R_alloc | apply Kd.R_drewN | apply Kd.R_drew)); exact HO_9.out⟩, ⟨by (with_reducible repeat (first | apply Kd.Q_alloc | apply Kd.Q_drewN | apply Kd.Q_drew)); exact HO_245001.out⟩, ⟨by (with_reducible repeat (first | refine kDN ?_ _ | refine kDr ?_ | refine kAl ?_ _)); exact BK235.out⟩, ⟨by (with_reducible repeat (first | refine kDN ?_ _ | refine kDr ?_ | refine kAl ?_ _)); exact BK244.out⟩, ⟨by repeat (first | (with_reducible first | exact HI238.out | apply IsS90.alloc | apply IsS90.drewN | apply IsS90.drew | apply IsS90.set_1 | refine IsS90.far ?_ NB238_235.out _ | refine IsS90.far ?_ NB238_244.out _) | exact HI238.out)⟩, ⟨by repeat (first | (with_reducible first | exact HB.out | apply bAl | apply bDN | apply bD1 | refine bSt ?_ (IsS90.ge HI238.out) | refine bSt ?_ GE235.out | refine bSt ?_ GE244.out) | exact HB.out)⟩⟩
    ·rw [if_neg c21] at H
     exact absurd H zq58
   ·rw [if_neg c20] at H
    have c20b0 : decide (x10_1 < (t249.length : Int)) = false := decide_eq_false c20
    clear c20
    simp only [Option.some.injEq, Prod.mk.injEq] at H
    obtain ⟨rfl, rfl, rfl, rfl⟩ := H
    obtain ⟨Ao30, co30, eo30⟩ := Kd.R_slice HO_9.out
    subst eo30
    have hnb31 := NB244_235.out
    have hnc31 := NB235_244.out
    have hnb32 := NB244_238.out
    have hnc32 := NB238_244.out
    have hcz33_0 : wr.cell? ⟨gb244, 0, none⟩ = some (.int .i64 t239) := (kCe BK244.out 0).trans rfl
    have hcz33_1 : wr.cell? ⟨gb244, 1, none⟩ = some (.slice Ao14 t240.length co14) := (kCe BK244.out 1).trans rfl
    have hfz33_0 := kFr BK244.out 0
    have hfz33_1 := kFr BK244.out 1
    have hnb34 := NB235_238.out
    have hnc34 := NB238_235.out
    have hcz35_0 : wr.cell? ⟨gb235, 0, none⟩ = some (.int .i64 0) := (kCe BK235.out 0).trans rfl
    have hcz35_1 : wr.cell? ⟨gb235, 1, none⟩ = some (.slice none 0 0) := (kCe BK235.out 1).trans rfl
    have hfz35_0 := kFr BK235.out 0
    have hfz35_1 := kFr BK235.out 1
    go_wp2
    refine bodyPost_ret (results_ctt rfl _ _ gb235 25 #[.int .i64 t239, .slice Ao14 t240.length co14] (0, 0) _ rfl (by (with_reducible repeat (first | refine kDN ?_ _ | refine kDr ?_ | refine kAl ?_ _)); refine blk_put (cs := #[.int .i64 t239, .slice none 0 0]) ?_ 1 _ rfl; (with_reducible repeat (first | refine kDN ?_ _ | refine kDr ?_ | refine kAl ?_ _)); refine blk_put (cs := #[.int .i64 0, .slice none 0 0]) ?_ 0 _ rfl; (with_reducible repeat (first | refine kDN ?_ _ | refine kDr ?_ | refine kAl ?_ _)); exact BK235.out) Try.underlying25 rfl zq6) rfl ?_
    exact ⟨_, by first | rfl | (simp [errW_none, errW_some] <;> rfl) | (simp [*, errW_none, errW_some] <;> rfl), by (with_reducible repeat (first | apply Kd.Q_alloc | apply Kd.Q_drewN | apply Kd.Q_drew)); exact Kd.Q_mono (Kd.Q_far (p := ⟨gb235, 1, none⟩) (Kd.Q_far (p := ⟨gb235, 0, none⟩) (Kd.Q_types HO_245001.out BK235.out zq31) (fun _ hk => hk.2) (.int .i64 t239)) (fun _ hk => hk.2) (.slice Ao14 t240.length co14)) (fun _ hk => trivial), by repeat (first | (with_reducible first | exact HB.out | apply bAl | apply bDN | apply bD1 | refine bSt ?_ (IsS90.ge HI238.out) | refine bSt ?_ GE235.out | refine bSt ?_ GE244.out) | exact HB.out)⟩

-- NOT PRINTED: function 78 (impl_cellTyped)

open Go.Proofs.Ytejgohgmmndgbaa.HandA
/-! ### impl_CellOk: function 66 -/
def impl_CellOk.f (a0_0 : Int) (a0_1 : Int) : Option (Bool) := some (CellA.ctOk a0_0 a0_1)
theorem impl_CellOk.calls (a0_0 : Int) (a0_1 : Int) (r : Bool) (w : World) (h : impl_CellOk.f a0_0 a0_1 = some r) :
  Calls Try.prog 66 #[.agg #[.int .i64 a0_0, .int .i64 a0_1]] w fun e w' => e = .returned (.bool r) ∧ Below w.heap.size w w' := by
 obtain rfl := Option.some.inj h
 exact CellA.cellOk_any a0_0 a0_1 w

end Go.Proofs.Ytejgohgmmndgbaa.PFnTrailTurn
--slim
