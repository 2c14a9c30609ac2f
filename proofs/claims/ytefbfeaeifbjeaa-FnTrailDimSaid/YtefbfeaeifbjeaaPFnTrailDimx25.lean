-- Written by a program of this session: the kit's print, with functions among it that were proved by hand.
import Derived.Test.YtefbfeaeifbjeaaPFnTrailDimx0
import Derived.Test.YtefbfeaeifbjeaaPFnTrailDimx11
import Derived.Test.YtefbfeaeifbjeaaPFnTrailDimx12
import Derived.Test.YtefbfeaeifbjeaaPFnTrailDimx18
import Derived.Test.YtefbfeaeifbjeaaPFnTrailDimx23
import Derived.Test.YtefbfeaeifbjeaaPFnTrailDimx24
namespace Go.Proofs.Ytefbfeaeifbjeaa.PFnTrailDim
open Go.RowKit Go.Proofs.YtefbfeaeifbjeaaW.PrintWords Go.Proofs.YtefbfeaeifbjeaaW.PrintLast Go.Proofs.YtefbfeaeifbjeaaW.PrintMore
attribute [local go_sem] max2_int min2_int max_two min_two max_three min_three max_four min_four   -- for this text's walks alone
set_option linter.unusedVariables false
set_option linter.unusedSimpArgs false

/-! ### spec_DrawSightRay: function 53 -/
def spec_DrawSightRay.f (k : Nat) (l0 : List Int) : Option (Int × (List (S57)) × Int) := (spec_l6Open.f l0).bind fun bt222 => ((spec_l71Some.f k bt222.1 bt222.2).bind fun bt225 => ((spec_l71Sight.f k bt222.1 bt225.2.2 bt225.1 bt225.2.1).bind fun bt231 => (some (bt225.1, bt225.2.1, bt231.1))))
theorem spec_DrawSightRay.mono : ∀ a0 k, LeO (spec_DrawSightRay.f k a0) (spec_DrawSightRay.f (k + 1) a0) := by
 intro a0 k
 unfold spec_DrawSightRay.f
 repeat' first
   | (with_reducible exact spec_l71Sight.mono _ _ _ _ _)
   | (with_reducible exact spec_l71Some.mono _ _ _)
   | (with_reducible exact LeO.refl _)
   | (with_reducible exact LeO.none _)
   | (with_reducible refine LeO.ite ?_ ?_)
   | (with_reducible refine LeO.bind ?_ (fun _ => ?_))
   | exact spec_l71Sight.mono _ _ _ _ _
   | exact spec_l71Some.mono _ _ _
   | exact LeO.none _
   | refine LeO.ite ?_ ?_
   | refine LeO.bind ?_ (fun _ => ?_)
set_option maxHeartbeats 8000000 in
set_option maxRecDepth 100000 in
theorem spec_DrawSightRay.calls (k : Nat) (A0 : Option Addr) (c0 : Nat) (l0 : List Int) (r1 : Int) (r2 : List (S57)) (r3 : Int) (w : World) (hr0 : Kd.C (Kd.int .u8) w A0 l0.length l0) (hc0 : l0.length ≤ c0) (h : spec_DrawSightRay.f k l0 = some (r1, r2, r3)) :
  Calls Try.prog 53 #[.slice A0 l0.length c0] w fun e w' => ∃ v1_ : Value, e = .returned (.tuple #[.agg #[.int .i64 r1, v1_], .int .i64 r3]) ∧ Kd.Q k57 57 w' w.heap.size (fun _ => True) v1_ r2 ∧ Below w.heap.size w w' := by
 have hu25 := Try.underlying25
 have HR0 := Zs.mk hr0
 have HC0 := Zs.mk hc0
 clear hr0 hc0
 have HB := Zs.mk (Below.refl w.heap.size w)
 have H : ((spec_l6Open.f l0).bind fun bt222 => ((spec_l71Some.f k bt222.1 bt222.2).bind fun bt225 => ((spec_l71Sight.f k bt222.1 bt225.2.2 bt225.1 bt225.2.1).bind fun bt231 => (some (bt225.1, bt225.2.1, bt231.1))))) = some (r1, r2, r3) := h
 clear h
 replace H := Option.bind_eq_some_iff.mp H
 obtain ⟨⟨t222, t223⟩, A20, H⟩ := H
 replace H : ((spec_l71Some.f k t222 t223).bind fun bt225 => ((spec_l71Sight.f k t222 bt225.2.2 bt225.1 bt225.2.1).bind fun bt231 => (some (bt225.1, bt225.2.1, bt231.1)))) = some (r1, r2, r3) := H
 have A2 := Zs.mk A20
 clear A20
 replace H := Option.bind_eq_some_iff.mp H
 obtain ⟨⟨t225, t226, t229⟩, A30, H⟩ := H
 replace H : ((spec_l71Sight.f k t222 t229 t225 t226).bind fun bt231 => (some (t225, t226, bt231.1))) = some (r1, r2, r3) := H
 have A3 := Zs.mk A30
 clear A30
 replace H := Option.bind_eq_some_iff.mp H
 obtain ⟨⟨t231, t232⟩, A40, H⟩ := H
 replace H : (some (t225, t226, t231)) = some (r1, r2, r3) := H
 have A4 := Zs.mk A40
 clear A40
 simp only [Option.some.injEq, Prod.mk.injEq] at H
 obtain ⟨rfl, rfl, rfl⟩ := H
 go_enter Try.func53, Try.ntmps53
 try go_wp2_with (first | ((with_reducible refine gate_dst (N := 2) rfl ?_); refine box_event ?hg (N := 2) ?hd (cs := #[.int .i64 0, .slice none 0 0]) (t := 25) ?hr ?_; (case hd => rfl); (case hg => rfl); (case hr => first | (go_simp; done) | (go_simp; rfl)); intro gb221 hg w5 hbox hb; have n0_ := Zs.mk (bSp (by repeat (first | (with_reducible first | exact HB.out | apply bAl | apply bDN | apply bD1) | exact HB.out)) hb); have n1_ := Zs.mk (hbox); have n2_ := Zs.mk ((by rw [hg]; exact (bSz (by repeat (first | (with_reducible first | exact HB.out | apply bAl | apply bDN | apply bD1) | exact HB.out))) : w.heap.size ≤ gb221)); have n3_ := Zs.mk ((by rw [hg]; exact (bSz (by repeat (first | (with_reducible first | exact HB.out | apply bAl | apply bDN | apply bD1) | exact HB.out))) : w.heap.size ≤ gb221)); clear HB; have HB := n0_; have BK221 := n1_; have GW221 := n2_; have GE221 := n3_; clear n0_ n1_ n2_ n3_; clear hb hbox hg) | ((with_reducible refine gate_callee (f := 39) rfl ?_); refine goesL_ (some 7) rfl rfl Try.func39 (by kernel_rfl) rfl #[.slice A0 l0.length c0] rfl (by (try simp only [List.map_toArray, List.map_cons, List.map_nil]); first | done | rfl | (simp only [List.length_drop, List.length_take]; rfl)) ?_; (with_reducible refine (spec_l6Open.calls _ _ l0 t222 t223 w _ ?side1 ?side2 ?side3 A2.out).mono ?_); (case side1 => repeat (first | (with_reducible first | exact HB.out | apply bAl | apply bDN | apply bD1 | refine bSt ?_ GE221.out) | exact HB.out)); (case side2 => exact HR0.out); (case side3 => exact HC0.out); rintro e w6 ⟨g224, rfl, hi, hb, hb2⟩; refine ⟨_, rfl, ?_⟩; have n0_ := Zs.mk (kBe (g := gb221) (o := .cells #[.int .i64 0, .slice none 0 0] 25 (0, 0)) (by (with_reducible repeat (first | refine kDN ?_ _ | refine kDr ?_ | refine kAl ?_ _)); exact BK221.out) hb2); have n1_ := Zs.mk (hb); have n2_ := Zs.mk (hi); have n3_ := Zs.mk (IsS91.ne_blk hi (kBe (g := gb221) (o := .cells #[.int .i64 0, .slice none 0 0] 25 (0, 0)) (by (with_reducible repeat (first | refine kDN ?_ _ | refine kDr ?_ | refine kAl ?_ _)); exact BK221.out) hb2) (by decide)); have n4_ := Zs.mk (Ne.symm (IsS91.ne_blk hi (kBe (g := gb221) (o := .cells #[.int .i64 0, .slice none 0 0] 25 (0, 0)) (by (with_reducible repeat (first | refine kDN ?_ _ | refine kDr ?_ | refine kAl ?_ _)); exact BK221.out) hb2) (by decide))); clear BK221; clear HB; have BK221 := n0_; have HB := n1_; have HI224 := n2_; have NB224_221 := n3_; have NB221_224 := n4_; clear n0_ n1_ n2_ n3_ n4_; (try clear hb); (try clear hb2); (try clear hk); (try clear hi)) | ((with_reducible refine gate_callee (f := 40) rfl ?_); refine goesL_ (some 9) rfl rfl Try.func40 (by kernel_rfl) rfl #[.pointer (some ⟨g224, 0, none⟩)] rfl (by (try simp only [List.map_toArray, List.map_cons, List.map_nil]); first | done | rfl | (simp only [List.length_drop, List.length_take]; rfl)) ?_; (with_reducible refine (spec_l71Some.calls k g224 t222 t223 t225 t226 t229 w _ ?side1 ?side2 A3.out).mono ?_); (case side1 => repeat (first | (with_reducible first | exact HI224.out | apply IsS91.alloc | apply IsS91.drewN | apply IsS91.drew | apply IsS91.set_1 | refine IsS91.far ?_ NB224_221.out _) | exact HI224.out)); (case side2 => repeat (first | (with_reducible first | exact HB.out | apply bAl | apply bDN | apply bD1 | refine bSt ?_ (IsS91.ge HI224.out) | refine bSt ?_ GE221.out) | exact HB.out)); rintro e w7 ⟨v227, rfl, ho0, hi, hb, hk⟩; refine ⟨_, rfl, ?_⟩; have n0_ := Zs.mk (KeepBut.blk hk (g' := gb221) (o := .cells #[.int .i64 0, .slice none 0 0] 25 (0, 0)) (by (with_reducible repeat (first | refine kDN ?_ _ | refine kDr ?_ | refine kAl ?_ _)); exact BK221.out) NB221_224.out (by simp)); have n1_ := Zs.mk (Kd.Q_lower ho0 (bSz (by repeat (first | (with_reducible first | exact HB.out | apply bAl | apply bDN | apply bD1 | refine bSt ?_ (IsS91.ge HI224.out) | refine bSt ?_ GE221.out) | exact HB.out)))); have n2_ := Zs.mk (hb); have n3_ := Zs.mk (hi); clear BK221; clear HB; clear HI224; have BK221 := n0_; have HO228 := n1_; have HB := n2_; have HI224 := n3_; clear n0_ n1_ n2_ n3_; (try clear hb); (try clear hb2); (try clear hk); (try clear hi); (try clear ho0)) | ((with_reducible refine gate_dst (N := 5) rfl ?_); refine box_event ?hg (N := 5) ?hd (cs := #[.int .i64 0, .slice none 0 0]) (t := 25) ?hr ?_; (case hd => rfl); (case hg => rfl); (case hr => first | (go_simp; done) | (go_simp; rfl)); intro gb230 hg w8 hbox hb; have n0_ := Zs.mk (Kd.Q_below (by (with_reducible repeat (first | apply Kd.Q_alloc | apply Kd.Q_drewN | apply Kd.Q_drew)); exact HO228.out) hb); have n1_ := Zs.mk (kBe (g := gb221) (o := .cells #[.int .i64 0, .slice none 0 0] 25 (0, 0)) (by (with_reducible repeat (first | refine kDN ?_ _ | refine kDr ?_ | refine kAl ?_ _)); exact BK221.out) hb); have n2_ := Zs.mk (IsS91.below (by repeat (first | (with_reducible first | exact HI224.out | apply IsS91.alloc | apply IsS91.drewN | apply IsS91.drew | apply IsS91.set_1 | refine IsS91.far ?_ NB224_221.out _) | exact HI224.out)) hb); have n3_ := Zs.mk (bSp (by repeat (first | (with_reducible first | exact HB.out | apply bAl | apply bDN | apply bD1 | refine bSt ?_ (IsS91.ge HI224.out) | refine bSt ?_ GE221.out) | exact HB.out)) hb); have n4_ := Zs.mk (hbox); have n5_ := Zs.mk ((by rw [hg]; exact (bSz (by repeat (first | (with_reducible first | exact HB.out | apply bAl | apply bDN | apply bD1 | refine bSt ?_ (IsS91.ge HI224.out) | refine bSt ?_ GE221.out) | exact HB.out))) : w.heap.size ≤ gb230)); have n6_ := Zs.mk ((by rw [hg]; exact (bSz (by repeat (first | (with_reducible first | exact HB.out | apply bAl | apply bDN | apply bD1 | refine bSt ?_ (IsS91.ge HI224.out) | refine bSt ?_ GE221.out) | exact HB.out))) : w.heap.size ≤ gb230)); have n7_ := Zs.mk ((by rw [hg]; exact Nat.ne_of_lt (blk_lt (g := gb221) (o := .cells #[.int .i64 0, .slice none 0 0] 25 (0, 0)) (by (with_reducible repeat (first | refine kDN ?_ _ | refine kDr ?_ | refine kAl ?_ _)); exact BK221.out)) : gb221 ≠ gb230)); have n8_ := Zs.mk ((by rw [hg]; exact Nat.ne_of_gt (blk_lt (g := gb221) (o := .cells #[.int .i64 0, .slice none 0 0] 25 (0, 0)) (by (with_reducible repeat (first | refine kDN ?_ _ | refine kDr ?_ | refine kAl ?_ _)); exact BK221.out)) : gb230 ≠ gb221)); have n9_ := Zs.mk ((by rw [hg]; exact Nat.ne_of_lt (IsS91.lt (show IsS91 w _ g224 t222 t229 from by repeat (first | (with_reducible first | exact HI224.out | apply IsS91.alloc | apply IsS91.drewN | apply IsS91.drew | apply IsS91.set_1 | refine IsS91.far ?_ NB224_221.out _) | exact HI224.out))) : g224 ≠ gb230)); have n10_ := Zs.mk ((by rw [hg]; exact Nat.ne_of_gt (IsS91.lt (show IsS91 w _ g224 t222 t229 from by repeat (first | (with_reducible first | exact HI224.out | apply IsS91.alloc | apply IsS91.drewN | apply IsS91.drew | apply IsS91.set_1 | refine IsS91.far ?_ NB224_221.out _) | exact HI224.out))) : gb230 ≠ g224)); clear HO228; clear BK221; clear HI224; clear HB; have HO228 := n0_; have BK221 := n1_; have HI224 := n2_; have HB := n3_; have BK230 := n4_; have GW230 := n5_; have GE230 := n6_; have NB221_230 := n7_; have NB230_221 := n8_; have NB224_230 := n9_; have NB230_224 := n10_; clear n0_ n1_ n2_ n3_ n4_ n5_ n6_ n7_ n8_ n9_ n10_; clear hb hbox hg; have hnb9 := NB230_221.out; have hnc9 := NB221_230.out; have hnb10 := NB230_224.out; have hnc10 := NB224_230.out; have hcz11_0 : w8.cell? ⟨gb230, 0, none⟩ = some (.int .i64 0) := (kCe BK230.out 0).trans rfl; have hcz11_1 : w8.cell? ⟨gb230, 1, none⟩ = some (.slice none 0 0) := (kCe BK230.out 1).trans rfl; have hfz11_0 := kFr BK230.out 0; have hfz11_1 := kFr BK230.out 1; obtain ⟨Ao12, co12, eo12, _⟩ := Kd.Q_slice HO228.out; subst eo12))
 have n0_ : Zs (Kd.Q k57 57 ((w8.setCell ⟨gb230, 0, none⟩ (.int .i64 t225)).setCell ⟨gb230, 1, none⟩ (.slice Ao12 t226.length co12)) w.heap.size (fun _ => True) (.slice Ao12 t226.length co12) t226) := ⟨by (with_reducible repeat (first | apply Kd.Q_alloc | apply Kd.Q_drewN | apply Kd.Q_drew)); exact Kd.Q_mono (Kd.Q_far (p := ⟨gb230, 1, none⟩) (Kd.Q_far (p := ⟨gb230, 0, none⟩) (Kd.Q_types HO228.out BK230.out (by decide)) (fun _ hk => hk.2) (.int .i64 t225)) (fun _ hk => hk.2) (.slice Ao12 t226.length co12)) (fun _ hk => trivial)⟩
 have n1_ : Zs (((w8.setCell ⟨gb230, 0, none⟩ (.int .i64 t225)).setCell ⟨gb230, 1, none⟩ (.slice Ao12 t226.length co12)).heap[gb221]? = some (.cells #[.int .i64 0, .slice none 0 0] 25 (0, 0))) := ⟨by (with_reducible repeat (first | refine kDN ?_ _ | refine kDr ?_ | refine kAl ?_ _)); refine blk_far ?_ NB221_230.out _; (with_reducible repeat (first | refine kDN ?_ _ | refine kDr ?_ | refine kAl ?_ _)); refine blk_far ?_ NB221_230.out _; (with_reducible repeat (first | refine kDN ?_ _ | refine kDr ?_ | refine kAl ?_ _)); exact BK221.out⟩
 have n2_ : Zs (((w8.setCell ⟨gb230, 0, none⟩ (.int .i64 t225)).setCell ⟨gb230, 1, none⟩ (.slice Ao12 t226.length co12)).heap[gb230]? = some (.cells #[.int .i64 t225, .slice Ao12 t226.length co12] 25 (0, 0))) := ⟨by (with_reducible repeat (first | refine kDN ?_ _ | refine kDr ?_ | refine kAl ?_ _)); refine blk_put (cs := #[.int .i64 t225, .slice none 0 0]) ?_ 1 _ rfl; (with_reducible repeat (first | refine kDN ?_ _ | refine kDr ?_ | refine kAl ?_ _)); refine blk_put (cs := #[.int .i64 0, .slice none 0 0]) ?_ 0 _ rfl; (with_reducible repeat (first | refine kDN ?_ _ | refine kDr ?_ | refine kAl ?_ _)); exact BK230.out⟩
 have n3_ : Zs (IsS91 w ((w8.setCell ⟨gb230, 0, none⟩ (.int .i64 t225)).setCell ⟨gb230, 1, none⟩ (.slice Ao12 t226.length co12)) g224 t222 t229) := ⟨by repeat (first | (with_reducible first | exact HI224.out | apply IsS91.alloc | apply IsS91.drewN | apply IsS91.drew | apply IsS91.set_1 | refine IsS91.far ?_ NB224_221.out _ | refine IsS91.far ?_ NB224_230.out _) | exact HI224.out)⟩
 have n4_ : Zs (Below w.heap.size w ((w8.setCell ⟨gb230, 0, none⟩ (.int .i64 t225)).setCell ⟨gb230, 1, none⟩ (.slice Ao12 t226.length co12))) := ⟨by repeat (first | (with_reducible first | exact HB.out | apply bAl | apply bDN | apply bD1 | refine bSt ?_ (IsS91.ge HI224.out) | refine bSt ?_ GE221.out | refine bSt ?_ GE230.out) | exact HB.out)⟩
 (try clear HO228)
 (try clear BK221)
 (try clear BK230)
 (try clear HI224)
 (try clear HB)
 generalize ((w8.setCell ⟨gb230, 0, none⟩ (.int .i64 t225)).setCell ⟨gb230, 1, none⟩ (.slice Ao12 t226.length co12)) = w13 at n0_ n1_ n2_ n3_ n4_ ⊢
 have HO228 := n0_
 have BK221 := n1_
 have BK230 := n2_
 have HI224 := n3_
 have HB := n4_
 clear n0_ n1_ n2_ n3_ n4_
 have n0_ := Zs.mk (Kd.Q_drew HO228.out)
 have n1_ := Zs.mk (kDr BK221.out)
 have n2_ := Zs.mk (kDr BK230.out)
 have n3_ := Zs.mk (IsS91.drew HI224.out)
 have n4_ := Zs.mk (bD1 HB.out)
 clear HO228
 clear BK221
 clear BK230
 clear HI224
 clear HB
 have HO228 := n0_
 have BK221 := n1_
 have BK230 := n2_
 have HI224 := n3_
 have HB := n4_
 clear n0_ n1_ n2_ n3_ n4_
 refine start_ (n := 6) (S := fun w' => w'.cell? ⟨gb230, 0, none⟩ = some (.int .i64 t225) ∧ w'.cell? ⟨gb230, 1, none⟩ = some (.slice Ao12 t226.length co12)) (ds := []) #[false, false, false, false, false, false] (by kernel_rfl) rfl rfl ⟨(kCe BK230.out 0).trans rfl, (kCe BK230.out 1).trans rfl⟩ (fun hHeld => ?_)
 generalize w13.drew = w14 at HO228 BK221 BK230 HI224 HB hHeld ⊢
 refine pure_ (i := 1) (N := some 11) (v := ?_) (a' := ?_) #[false, true, false, false, false, false] rfl rfl (by kernel_rfl) (fun _ _ _ h => h) (Or.inl ⟨by rfl, ?_⟩) ?_ ?_
 rotate_left
 ·intro w'
  go_simp
  with_reducible rfl
 rotate_left
 ·simp only [Act.put, List.setIfInBounds_toArray, List.set_cons_zero, List.set_cons_succ, i64_w, i32_w]
  rfl
 refine take_ (i := 0) (N := some 10) (v := ?_) (a' := ?_) #[true, true, false, false, false, false] rfl rfl (by kernel_rfl) (fun _ _ _ h => h) (Or.inl ⟨by rfl, ?_⟩) hHeld ?_ ?_
 rotate_left
 ·rintro w' ⟨s0, s1⟩
  go_simp
  with_reducible rfl
 rotate_left
 ·simp only [Act.put, List.setIfInBounds_toArray, List.set_cons_zero, List.set_cons_succ, i64_w, i32_w]
  rfl
 refine take_ (i := 2) (N := some 12) (v := ?_) (a' := ?_) #[true, true, true, false, false, false] rfl rfl (by kernel_rfl) (fun _ _ _ h => h) (Or.inl ⟨by rfl, ?_⟩) hHeld ?_ ?_
 rotate_left
 ·rintro w' ⟨s0, s1⟩
  go_simp
  with_reducible rfl
 rotate_left
 ·simp only [Act.put, List.setIfInBounds_toArray, List.set_cons_zero, List.set_cons_succ, i64_w, i32_w]
  rfl
 refine one_ (i := 3) (N := some 13) #[true, true, true, true, false, false] rfl rfl (by kernel_rfl) (by decide) (fun K hK => ?_)
 refine goes_ Try.func62 (by kernel_rfl) rfl #[.pointer (some ⟨g224, 0, none⟩), .agg #[.int .i64 t225, .slice Ao12 t226.length co12]] (by rfl) rfl rfl (by (try simp only [List.map_toArray, List.map_cons, List.map_nil]); first | done | rfl | (simp only [List.length_drop, List.length_take]; rfl)) ?_
 with_reducible refine (spec_l71Sight.calls k g224 t222 t229 t225 _ _ t226 t231 t232 w _ ?side1 ?side2 ?side3 ?side4 A4.out).mono ?_
 (case side1 => repeat (first | (with_reducible first | exact HI224.out | apply IsS91.alloc | apply IsS91.drewN | apply IsS91.drew | apply IsS91.set_1 | refine IsS91.far ?_ NB224_221.out _ | refine IsS91.far ?_ NB224_230.out _) | exact HI224.out))
 (case side2 => repeat (first | (with_reducible first | exact HB.out | apply bAl | apply bDN | apply bD1 | refine bSt ?_ (IsS91.ge HI224.out) | refine bSt ?_ GE221.out | refine bSt ?_ GE230.out) | exact HB.out))
 (case side3 => exact Kd.C_foot_ownQ (IsS91.apartQ (show IsS91 w _ g224 t222 t229 from by repeat (first | (with_reducible first | exact HI224.out | apply IsS91.alloc | apply IsS91.drewN | apply IsS91.drew | apply IsS91.set_1 | refine IsS91.far ?_ NB224_221.out _ | refine IsS91.far ?_ NB224_230.out _) | exact HI224.out)) (by (with_reducible repeat (first | apply Kd.Q_alloc | apply Kd.Q_drewN | apply Kd.Q_drew)); exact HO228.out) (by decide)) (fun _ h_ => h_.2))
 (case side4 => exact (Kd.Q_reads' HO228.out).2.1)
 rintro e w15 ⟨rfl, hi, hb, hk⟩
 refine ⟨_, rfl, ?_⟩
 have n0_ := Zs.mk (KeepBut.blk hk (g' := gb221) (o := .cells #[.int .i64 0, .slice none 0 0] 25 (0, 0)) (by (with_reducible repeat (first | refine kDN ?_ _ | refine kDr ?_ | refine kAl ?_ _)); exact BK221.out) NB221_224.out (by simp))
 have n1_ := Zs.mk (Kd.Q_mono (Kd.Q_keep (IsS91.apartQ (show IsS91 w _ g224 t222 t229 from by repeat (first | (with_reducible first | exact HI224.out | apply IsS91.alloc | apply IsS91.drewN | apply IsS91.drew | apply IsS91.set_1 | refine IsS91.far ?_ NB224_221.out _ | refine IsS91.far ?_ NB224_230.out _) | exact HI224.out)) (by (with_reducible repeat (first | apply Kd.Q_alloc | apply Kd.Q_drewN | apply Kd.Q_drew)); exact HO228.out) (by decide)) hk (fun _ h => h.2)) (fun _ h => h.1))
 have n2_ := Zs.mk (KeepBut.blk hk (g' := gb230) (o := .cells #[.int .i64 t225, .slice Ao12 t226.length co12] 25 (0, 0)) (by (with_reducible repeat (first | refine kDN ?_ _ | refine kDr ?_ | refine kAl ?_ _)); exact BK230.out) NB230_224.out (by simp))
 have n3_ := Zs.mk (hb)
 have n4_ := Zs.mk (hi)
 clear BK221
 clear HO228
 clear BK230
 clear HB
 clear HI224
 have BK221 := n0_
 have HO228 := n1_
 have BK230 := n2_
 have HB := n3_
 have HI224 := n4_
 clear n0_ n1_ n2_ n3_ n4_
 (try clear hb)
 (try clear hb2)
 (try clear hk)
 (try clear hi)
 refine hK.out _ _ ⟨(kCe BK230.out 0).trans rfl, (kCe BK230.out 1).trans rfl⟩ (fun hHeld => ?_)
 clear hK K
 refine norm_ (a' := ?_) ?_ ?_
 rotate_left
 ·show Act.put _ (some 13) _ = _
  simp only [Act.put, List.setIfInBounds_toArray, List.set_cons_zero, List.set_cons_succ, i64_w, i32_w]
  rfl
 refine one_ (i := 4) (N := none) #[true, true, true, true, true, false] rfl rfl (by kernel_rfl) (by decide) (fun K hK => ?_)
 have hs16 : w15.cell? ⟨gb221, 0, none⟩ = some (.int .i64 0) := (kCe BK221.out 0).trans rfl
 have hfs16 := kFr BK221.out 0
 have hns16_1 := NB230_221.out
 have hms16_1 := NB221_230.out
 have hs17 : w15.cell? ⟨gb221, 1, none⟩ = some (.slice none 0 0) := (kCe BK221.out 1).trans rfl
 have hfs17 := kFr BK221.out 1
 have hns17_1 := NB230_221.out
 have hms17_1 := NB221_230.out
 refine skip_ (w1 := ?_) (by rfl) rfl ?_ ?_
 rotate_left
 ·go_simp
  rfl
 refine hK.out _ _ ⟨((cell_far (p := ⟨gb221, _, none⟩) NB230_221.out _).trans (((cell_far (p := ⟨gb221, _, none⟩) NB230_221.out _).trans (hHeld.1)))), ((cell_far (p := ⟨gb221, _, none⟩) NB230_221.out _).trans (((cell_far (p := ⟨gb221, _, none⟩) NB230_221.out _).trans (hHeld.2))))⟩ (fun hHeld => ?_)
 clear hK K
 refine pure_ (i := 5) (N := some 3) (v := ?_) (a' := ?_) #[true, true, true, true, true, true] rfl rfl (by kernel_rfl) (fun _ _ _ h => h) (Or.inl ⟨by rfl, ?_⟩) ?_ ?_
 rotate_left
 ·intro w'
  go_simp
  with_reducible rfl
 rotate_left
 ·simp only [Act.put, List.setIfInBounds_toArray, List.set_cons_zero, List.set_cons_succ, i64_w, i32_w]
  rfl
 refine done_ (by kernel_rfl) ?_
 try go_wp2
 refine bodyPost_ret (results_ct rfl _ _ gb221 25 #[.int .i64 t225, .slice Ao12 t226.length co12] (0, 0) _ rfl (by (with_reducible repeat (first | refine kDN ?_ _ | refine kDr ?_ | refine kAl ?_ _)); refine blk_put (cs := #[.int .i64 t225, .slice none 0 0]) ?_ 1 _ rfl; (with_reducible repeat (first | refine kDN ?_ _ | refine kDr ?_ | refine kAl ?_ _)); refine blk_put (cs := #[.int .i64 0, .slice none 0 0]) ?_ 0 _ rfl; (with_reducible repeat (first | refine kDN ?_ _ | refine kDr ?_ | refine kAl ?_ _)); exact BK221.out) Try.underlying25 rfl (by kernel_rfl)) rfl ?_
 exact ⟨_, by first | rfl | (simp [errW_none, errW_some] <;> rfl) | (simp [*, errW_none, errW_some] <;> rfl), by (with_reducible repeat (first | apply Kd.Q_alloc | apply Kd.Q_drewN | apply Kd.Q_drew)); exact Kd.Q_mono (Kd.Q_far (p := ⟨gb221, 1, none⟩) (Kd.Q_far (p := ⟨gb221, 0, none⟩) (Kd.Q_types HO228.out BK221.out (by decide)) (fun _ hk => hk.2) (.int .i64 t225)) (fun _ hk => hk.2) (.slice Ao12 t226.length co12)) (fun _ hk => trivial), by repeat (first | (with_reducible first | exact HB.out | apply bAl | apply bDN | apply bD1 | refine bSt ?_ (IsS91.ge HI224.out) | refine bSt ?_ GE221.out | refine bSt ?_ GE230.out) | exact HB.out)⟩

/-! ### spec_DrawTrailVisits: function 34 -/
def spec_DrawTrailVisits.f (k : Nat) (l0 : List Int) : Option (Int × (List (S57)) × Int) := (spec_DrawSightRay.f k l0).bind fun bt234 => (some (bt234.1, bt234.2.1, bt234.2.2))
theorem spec_DrawTrailVisits.mono : ∀ a0 k, LeO (spec_DrawTrailVisits.f k a0) (spec_DrawTrailVisits.f (k + 1) a0) := by
 intro a0 k
 unfold spec_DrawTrailVisits.f
 repeat' first
   | (with_reducible exact spec_DrawSightRay.mono _ _)
   | (with_reducible exact LeO.refl _)
   | (with_reducible exact LeO.none _)
   | (with_reducible refine LeO.ite ?_ ?_)
   | (with_reducible refine LeO.bind ?_ (fun _ => ?_))
   | exact spec_DrawSightRay.mono _ _
   | exact LeO.none _
   | refine LeO.ite ?_ ?_
   | refine LeO.bind ?_ (fun _ => ?_)
set_option maxHeartbeats 8000000 in
set_option maxRecDepth 100000 in
theorem spec_DrawTrailVisits.calls (k : Nat) (A0 : Option Addr) (c0 : Nat) (l0 : List Int) (r1 : Int) (r2 : List (S57)) (r3 : Int) (w : World) (hr0 : Kd.C (Kd.int .u8) w A0 l0.length l0) (hc0 : l0.length ≤ c0) (h : spec_DrawTrailVisits.f k l0 = some (r1, r2, r3)) :
  Calls Try.prog 34 #[.slice A0 l0.length c0] w fun e w' => ∃ v1_ : Value, e = .returned (.tuple #[.agg #[.int .i64 r1, v1_], .int .i64 r3]) ∧ Kd.Q k57 57 w' w.heap.size (fun _ => True) v1_ r2 ∧ Below w.heap.size w w' := by
 have hu25 := Try.underlying25
 have HR0 := Zs.mk hr0
 have HC0 := Zs.mk hc0
 clear hr0 hc0
 have HB := Zs.mk (Below.refl w.heap.size w)
 have H : ((spec_DrawSightRay.f k l0).bind fun bt234 => (some (bt234.1, bt234.2.1, bt234.2.2))) = some (r1, r2, r3) := h
 clear h
 replace H := Option.bind_eq_some_iff.mp H
 obtain ⟨⟨t234, t235, t238⟩, A20, H⟩ := H
 replace H : (some (t234, t235, t238)) = some (r1, r2, r3) := H
 have A2 := Zs.mk A20
 clear A20
 simp only [Option.some.injEq, Prod.mk.injEq] at H
 obtain ⟨rfl, rfl, rfl⟩ := H
 go_enter Try.func34, Try.ntmps34
 go_wp2_with (first | ((with_reducible refine gate_dst (N := 2) rfl ?_); refine box_event ?hg (N := 2) ?hd (cs := #[.int .i64 0, .slice none 0 0]) (t := 25) ?hr ?_; (case hd => rfl); (case hg => rfl); (case hr => first | (go_simp; done) | (go_simp; rfl)); intro gb233 hg w3 hbox hb; have n0_ := Zs.mk (bSp (by repeat (first | (with_reducible first | exact HB.out | apply bAl | apply bDN | apply bD1) | exact HB.out)) hb); have n1_ := Zs.mk (hbox); have n2_ := Zs.mk ((by rw [hg]; exact (bSz (by repeat (first | (with_reducible first | exact HB.out | apply bAl | apply bDN | apply bD1) | exact HB.out))) : w.heap.size ≤ gb233)); have n3_ := Zs.mk ((by rw [hg]; exact (bSz (by repeat (first | (with_reducible first | exact HB.out | apply bAl | apply bDN | apply bD1) | exact HB.out))) : w.heap.size ≤ gb233)); clear HB; have HB := n0_; have BK233 := n1_; have GW233 := n2_; have GE233 := n3_; clear n0_ n1_ n2_ n3_; clear hb hbox hg) | ((with_reducible refine gate_callee (f := 53) rfl ?_); refine goesL_ (some 5) rfl rfl Try.func53 (by kernel_rfl) rfl #[.slice A0 l0.length c0] rfl (by (try simp only [List.map_toArray, List.map_cons, List.map_nil]); first | done | rfl | (simp only [List.length_drop, List.length_take]; rfl)) ?_; (with_reducible refine (spec_DrawSightRay.calls k _ _ l0 t234 t235 t238 _ ?side1 ?side2 A2.out).mono ?_); (case side1 => repeat (first | exact (Kd.C_below HR0.out HB.out) | (with_reducible refine Kd.C_alloc ?_ _) | (with_reducible refine Kd.C_drewN ?_ _) | (with_reducible refine Kd.C_drew ?_))); (case side2 => exact HC0.out); rintro e w4 ⟨v236, rfl, ho0, hb⟩; refine ⟨_, rfl, ?_⟩; have n0_ := Zs.mk (Kd.Q_lower ho0 (bSz (by repeat (first | (with_reducible first | exact HB.out | apply bAl | apply bDN | apply bD1 | refine bSt ?_ GE233.out) | exact HB.out)))); have n1_ := Zs.mk (kBe (g := gb233) (o := .cells #[.int .i64 0, .slice none 0 0] 25 (0, 0)) (by (with_reducible repeat (first | refine kDN ?_ _ | refine kDr ?_ | refine kAl ?_ _)); exact BK233.out) hb); have n2_ := Zs.mk (bSp (by repeat (first | (with_reducible first | exact HB.out | apply bAl | apply bDN | apply bD1 | refine bSt ?_ GE233.out) | exact HB.out)) hb); clear BK233; clear HB; have HO237 := n0_; have BK233 := n1_; have HB := n2_; clear n0_ n1_ n2_; (try clear hb); (try clear hb2); (try clear hk); (try clear hi); (try clear ho0); have hcz5_0 : w4.cell? ⟨gb233, 0, none⟩ = some (.int .i64 0) := (kCe BK233.out 0).trans rfl; have hcz5_1 : w4.cell? ⟨gb233, 1, none⟩ = some (.slice none 0 0) := (kCe BK233.out 1).trans rfl; have hfz5_0 := kFr BK233.out 0; have hfz5_1 := kFr BK233.out 1; obtain ⟨Ao6, co6, eo6, _⟩ := Kd.Q_slice HO237.out; subst eo6))
 refine bodyPost_ret (results_ct rfl _ _ gb233 25 #[.int .i64 t234, .slice Ao6 t235.length co6] (0, 0) _ rfl (by (with_reducible repeat (first | refine kDN ?_ _ | refine kDr ?_ | refine kAl ?_ _)); refine blk_put (cs := #[.int .i64 t234, .slice none 0 0]) ?_ 1 _ rfl; (with_reducible repeat (first | refine kDN ?_ _ | refine kDr ?_ | refine kAl ?_ _)); refine blk_put (cs := #[.int .i64 0, .slice none 0 0]) ?_ 0 _ rfl; (with_reducible repeat (first | refine kDN ?_ _ | refine kDr ?_ | refine kAl ?_ _)); exact BK233.out) Try.underlying25 rfl (by kernel_rfl)) rfl ?_
 exact ⟨_, by first | rfl | (simp [errW_none, errW_some] <;> rfl) | (simp [*, errW_none, errW_some] <;> rfl), by (with_reducible repeat (first | apply Kd.Q_alloc | apply Kd.Q_drewN | apply Kd.Q_drew)); exact Kd.Q_mono (Kd.Q_far (p := ⟨gb233, 1, none⟩) (Kd.Q_far (p := ⟨gb233, 0, none⟩) (Kd.Q_types HO237.out BK233.out (by decide)) (fun _ hk => hk.2) (.int .i64 t234)) (fun _ hk => hk.2) (.slice Ao6 t235.length co6)) (fun _ hk => trivial), by repeat (first | (with_reducible first | exact HB.out | apply bAl | apply bDN | apply bD1 | refine bSt ?_ GE233.out) | exact HB.out)⟩

/-! ### impl_TrailVisits: function 35 -/
def impl_TrailVisits.f (k : Nat) (a0_0 : Int) (l0_1 : List (S57)) (a1 : Int) : Option ((List (S65))) := (impl_trailOf.f k a0_0 l0_1 a1).bind fun bt240 => (some bt240.1)
theorem impl_TrailVisits.mono : ∀ a0 a1 a2 k, LeO (impl_TrailVisits.f k a0 a1 a2) (impl_TrailVisits.f (k + 1) a0 a1 a2) := by
 intro a0 a1 a2 k
 unfold impl_TrailVisits.f
 repeat' first
   | (with_reducible exact impl_trailOf.mono _ _ _ _)
   | (with_reducible exact LeO.refl _)
   | (with_reducible exact LeO.none _)
   | (with_reducible refine LeO.ite ?_ ?_)
   | (with_reducible refine LeO.bind ?_ (fun _ => ?_))
   | exact impl_trailOf.mono _ _ _ _
   | exact LeO.none _
   | refine LeO.ite ?_ ?_
   | refine LeO.bind ?_ (fun _ => ?_)
set_option maxHeartbeats 8000000 in
set_option maxRecDepth 100000 in
theorem impl_TrailVisits.calls (k : Nat) (a0_0 : Int) (A0_1 : Option Addr) (c0_1 : Nat) (l0_1 : List (S57)) (a1 : Int) (r : List (S65)) (w : World) (hr0_1 : Kd.C k57 w A0_1 l0_1.length l0_1) (hc0_1 : l0_1.length ≤ c0_1) (h : impl_TrailVisits.f k a0_0 l0_1 a1 = some r) :
  Calls Try.prog 35 #[.agg #[.int .i64 a0_0, .slice A0_1 l0_1.length c0_1], .int .i64 a1] w fun e w' => ∃ v0_ : Value, e = .returned (v0_) ∧ Kd.R k65 65 w' w.heap.size (fun _ => True) v0_ r ∧ Below w.heap.size w w' := by
 have hu25 := Try.underlying25
 have HR0_1 := Zs.mk hr0_1
 have HC0_1 := Zs.mk hc0_1
 clear hr0_1 hc0_1
 have HB := Zs.mk (Below.refl w.heap.size w)
 have H : ((impl_trailOf.f k a0_0 l0_1 a1).bind fun bt240 => (some bt240.1)) = some r := h
 clear h
 replace H := Option.bind_eq_some_iff.mp H
 obtain ⟨⟨t240, t243⟩, A30, H⟩ := H
 replace H : (some t240) = some r := H
 have A3 := Zs.mk A30
 clear A30
 obtain rfl := Option.some.inj H
 go_enter Try.func35, Try.ntmps35
 go_wp2_with (first | ((with_reducible refine gate_dst (N := 2) rfl ?_); refine box_event ?hg (N := 2) ?hd (cs := #[.int .i64 a0_0, .slice A0_1 l0_1.length c0_1]) (t := 25) ?hr ?_; (case hd => rfl); (case hg => rfl); (case hr => first | (go_simp; done) | (go_simp; rfl)); intro gb239 hg w4 hbox hb; have n0_ := Zs.mk (bSp (by repeat (first | (with_reducible first | exact HB.out | apply bAl | apply bDN | apply bD1) | exact HB.out)) hb); have n1_ := Zs.mk (hbox); have n2_ := Zs.mk ((by rw [hg]; exact (bSz (by repeat (first | (with_reducible first | exact HB.out | apply bAl | apply bDN | apply bD1) | exact HB.out))) : w.heap.size ≤ gb239)); have n3_ := Zs.mk ((by rw [hg]; exact (bSz (by repeat (first | (with_reducible first | exact HB.out | apply bAl | apply bDN | apply bD1) | exact HB.out))) : w.heap.size ≤ gb239)); clear HB; have HB := n0_; have BK239 := n1_; have GW239 := n2_; have GE239 := n3_; clear n0_ n1_ n2_ n3_; clear hb hbox hg; have hcz5_0 : w4.cell? ⟨gb239, 0, none⟩ = some (.int .i64 a0_0) := (kCe BK239.out 0).trans rfl; have hcz5_1 : w4.cell? ⟨gb239, 1, none⟩ = some (.slice A0_1 l0_1.length c0_1) := (kCe BK239.out 1).trans rfl; have hfz5_0 := kFr BK239.out 0; have hfz5_1 := kFr BK239.out 1) | ((with_reducible refine gate_callee (f := 54) rfl ?_); refine goesL_ (some 7) rfl rfl Try.func54 (by kernel_rfl) rfl #[.agg #[.int .i64 a0_0, .slice A0_1 l0_1.length c0_1], .int .i64 a1] rfl (by (try simp only [List.map_toArray, List.map_cons, List.map_nil]); first | done | rfl | (simp only [List.length_drop, List.length_take]; rfl)) ?_; (with_reducible refine (impl_trailOf.calls k a0_0 _ _ l0_1 a1 t240 t243 _ ?side1 ?side2 A3.out).mono ?_); (case side1 => repeat (first | exact (Kd.C_below HR0_1.out HB.out) | (with_reducible refine Kd.C_alloc ?_ _) | (with_reducible refine Kd.C_drewN ?_ _) | (with_reducible refine Kd.C_drew ?_))); (case side2 => exact HC0_1.out); rintro e w6 ⟨v241, v244, rfl, ho0, ho1, hb⟩; obtain ⟨Av241, cv241, ev241⟩ := Kd.R_slice ho0; obtain ⟨Av244, cv244, ev244⟩ := Kd.R_slice ho1; subst ev241; subst ev244; have hfld0_ : ∀ w_, (Instr.field 78 (.agg #[.slice Av241 t240.length cv241, .slice Av244 t243.length cv244]) 0).run Try.prog w_ = .ok (.slice Av241 t240.length cv241) w_ := fun _ => (by kernel_rfl); have hfld1_ : ∀ w_, (Instr.field 78 (.agg #[.slice Av241 t240.length cv241, .slice Av244 t243.length cv244]) 1).run Try.prog w_ = .ok (.slice Av244 t243.length cv244) w_ := fun _ => (by kernel_rfl); refine ⟨_, rfl, ?_⟩; have n0_ := Zs.mk (Kd.R_lower ho0 (bSz (by repeat (first | (with_reducible first | exact HB.out | apply bAl | apply bDN | apply bD1 | refine bSt ?_ GE239.out) | exact HB.out)))); have n1_ := Zs.mk (Kd.R_lower ho1 (bSz (by repeat (first | (with_reducible first | exact HB.out | apply bAl | apply bDN | apply bD1 | refine bSt ?_ GE239.out) | exact HB.out)))); have n2_ := Zs.mk (kBe (g := gb239) (o := .cells #[.int .i64 a0_0, .slice A0_1 l0_1.length c0_1] 25 (0, 0)) (by (with_reducible repeat (first | refine kDN ?_ _ | refine kDr ?_ | refine kAl ?_ _)); exact BK239.out) hb); have n3_ := Zs.mk (bSp (by repeat (first | (with_reducible first | exact HB.out | apply bAl | apply bDN | apply bD1 | refine bSt ?_ GE239.out) | exact HB.out)) hb); clear BK239; clear HB; have HO242 := n0_; have HO245 := n1_; have BK239 := n2_; have HB := n3_; clear n0_ n1_ n2_ n3_; (try clear hb); (try clear hb2); (try clear hk); (try clear hi); (try clear ho0); (try clear ho1)))
 go_ret
 exact ⟨_, by first | rfl | (simp [errW_none, errW_some] <;> rfl) | (simp [*, errW_none, errW_some] <;> rfl), by (with_reducible repeat (first | apply Kd.R_alloc | apply Kd.R_drewN | apply Kd.R_drew)); exact HO242.out, by repeat (first | (with_reducible first | exact HB.out | apply bAl | apply bDN | apply bD1 | refine bSt ?_ GE239.out) | exact HB.out)⟩

end Go.Proofs.Ytefbfeaeifbjeaa.PFnTrailDim
--slim
