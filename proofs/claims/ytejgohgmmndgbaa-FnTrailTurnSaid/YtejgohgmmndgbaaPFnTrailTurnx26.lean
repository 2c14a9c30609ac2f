-- Written by a program of this session: the kit's print, with functions among it that were proved by hand.
import Derived.Test.YtejgohgmmndgbaaPFnTrailTurnx0
import Derived.Test.YtejgohgmmndgbaaPFnTrailTurnx1
import Derived.Test.YtejgohgmmndgbaaPFnTrailTurnx20
import Derived.Test.YtejgohgmmndgbaaPFnTrailTurnx21
import Derived.Test.YtejgohgmmndgbaaPFnTrailTurnx24
import Derived.Test.YtejgohgmmndgbaaPFnTrailTurnx25
namespace Go.Proofs.Ytejgohgmmndgbaa.PFnTrailTurn
open Go.RowKit Go.Proofs.YtejgohgmmndgbaaW.PrintWords Go.Proofs.YtejgohgmmndgbaaW.PrintLast Go.Proofs.YtejgohgmmndgbaaW.PrintMore
attribute [local go_sem] max2_int min2_int max_two min_two max_three min_three max_four min_four   -- for this text's walks alone
set_option linter.unusedVariables false
set_option linter.unusedSimpArgs false

open Go.Proofs.Ytejgohgmmndgbaa.HandA
/-! ### the end of light, at a trail -/
set_option maxHeartbeats 4000000 in
set_option maxRecDepth 100000 in
theorem trailEnd_pos (w0 : World) (B bt : Nat) (v0 v1 : Value) (es : List S55) (kind where_ weight : Int) (W : World) (hp : decide (0 < weight) = true) (ht : W.heap[bt]? = some (.cells #[v0, v1] 71 (0, 0))) (hr : Kd.R k55 55 W B (fun k => k ≠ bt) v1 es) (hB : Below B w0 W) (hb : B ≤ bt) (hl : es.length ≤ 1000000) :
  Calls Try.prog 70 #[.pointer (some ⟨bt, 0, none⟩), .int .i64 kind, .int .i64 where_, .int .i64 weight] W fun e w' => e = .returned (.tuple #[]) ∧ ∃ v1' : Value, w'.heap[bt]? = some (.cells #[v0, v1'] 71 (0, 0)) ∧ Kd.R k55 55 w' B (fun k => k ≠ bt) v1' (es ++ [⟨kind, where_, weight⟩]) ∧ Below B w0 w' ∧ Stay W w' bt v1 := by
 obtain ⟨A1, c1, rfl⟩ := Kd.R_slice hr
 have HT := Zs.mk ht
 have HR := Zs.mk hr
 have HB := Zs.mk hB
 have HL : Zs (bt < W.heap.size ∧ B ≤ bt ∧ es.length ≤ 1000000) := ⟨blk_lt ht, hb, hl⟩
 have t0 : W.cell? ⟨bt, 0, none⟩ = some v0 := (kCe ht 0).trans rfl
 have t1 : W.cell? ⟨bt, 1, none⟩ = some (.slice A1 es.length c1) := (kCe ht 1).trans rfl
 have X0 := kAl ht (.cells #[.int .i64 kind, .int .i64 where_, .int .i64 weight] 55 (0, 0))
 clear ht hr hB hb hl
 go_enter Try.func70, Try.ntmps70
 go_wp2_with (at_builtin; refine Kd.R_append k55 (w0 := w0) B rfl (.tmp 14) (.tmp 19) 51 55 (.agg #[.int .i64 0, .int .i64 0, .int .i64 0]) 24 rfl Try.underlying51 infoEnd rfl zq31 zq37 (.slice A1 es.length c1) es ⟨kind, where_, weight⟩ [.int .i64 kind, .int .i64 where_, .int .i64 weight] (fun k => k ≠ bt) (fun _ => False) rfl rfl ?aP (fun _ hk => hk.elim) ?aF ?aO ?aB ?aS ?aL ?_; (case aP => exact k55_mkM _ _ _ _); (case aF => exact (fun k hk => by have := HL.out; omega)); (case aO => exact HR.out); (case aB => exact HB.out); (case aS => have := HL.out; omega); (case aL => have := HL.out; omega); intro v1' w3 ho hb hg hat; obtain ⟨A2, c2, e2⟩ := Kd.R_slice ho; rw [List.length_append, List.length_singleton] at e2; subst e2; have bk := blk_grown HT.out hg (fun e => HR.out.1 bt e.symm rfl); have f1 := kFr bk 1; have d1 : w3.cell? ⟨bt, 1, none⟩ = some (.slice A1 es.length c1) := (kCe bk 1).trans rfl)
 go_end0
 have hne : ∀ k, (fun k => k ≠ bt) k → k ≠ bt := fun _ h => h
 refine ⟨rfl, .slice A2 (es.length + 1) c2, ?_, R_set (g := bt) (i := 1) (u := .slice A2 (es.length + 1) c2) k55_flat ho hne, hb.setCell HL.out.2.1 _, ?_⟩
 ·simpa using blk_set bk 1 (.slice A2 (es.length + 1) c2)
 ·refine ⟨by rw [World.size_setCell]; exact hg.size, fun k hk hkg hko => (heap_set_ne hkg).trans (hg.block k hk (fun e => hko e.symm))⟩
set_option maxHeartbeats 4000000 in
set_option maxRecDepth 100000 in
theorem trailEnd_no (p : Value) (kind where_ weight : Int) (W : World) (hp : decide (0 < weight) = false) :
  Calls Try.prog 70 #[p, .int .i64 kind, .int .i64 where_, .int .i64 weight] W fun e w' => e = .returned (.tuple #[]) ∧ w' = W := by
 go_enter Try.func70, Try.ntmps70
 go_wp2
 go_end0
 exact ⟨rfl, rfl⟩
theorem trailEnd (w0 : World) (B bt : Nat) (v0 v1 : Value) (es : List S55) (kind where_ weight : Int) (W : World) (ht : W.heap[bt]? = some (.cells #[v0, v1] 71 (0, 0))) (hr : Kd.R k55 55 W B (fun k => k ≠ bt) v1 es) (hB : Below B w0 W) (hb : B ≤ bt) (hl : es.length ≤ 1000000) :
  Calls Try.prog 70 #[.pointer (some ⟨bt, 0, none⟩), .int .i64 kind, .int .i64 where_, .int .i64 weight] W fun e w' => e = .returned (.tuple #[]) ∧ ∃ v1' : Value, w'.heap[bt]? = some (.cells #[v0, v1'] 71 (0, 0)) ∧ Kd.R k55 55 w' B (fun k => k ≠ bt) v1' (endV es kind where_ weight) ∧ Below B w0 w' ∧ Stay W w' bt v1 := by
 unfold endV
 by_cases hw : weight > 0
 ·rw [if_pos hw]
  exact trailEnd_pos w0 B bt v0 v1 es kind where_ weight W (by simpa using hw) ht hr hB hb hl
 ·rw [if_neg hw]
  refine (trailEnd_no _ kind where_ weight W (by simpa using hw)).mono ?_
  rintro e w' ⟨rfl, rfl⟩
  exact ⟨rfl, v1, ht, hr, hB, Nat.le_refl _, fun _ _ _ _ => rfl⟩


open Go.Proofs.Ytejgohgmmndgbaa.HandA
/-! ### impl_trailOf: function 44 -/
def kBeam : Kd (Int × Int × Int × Int) := Kd.pair (Kd.int .i64) (Kd.pair (Kd.int .i64) (Kd.pair (Kd.int .i64) (Kd.int .i64)))
theorem kBeam_open {w : World} {x : Int × Int × Int × Int} {cs : List Value} (h : kBeam.K w x cs) : cs = [.int .i64 x.1, .int .i64 x.2.1, .int .i64 x.2.2.1, .int .i64 x.2.2.2] := by
 obtain ⟨_, _, rfl, rfl, ⟨_, _, rfl, rfl, ⟨_, _, rfl, rfl, rfl⟩⟩⟩ := h
 exact rfl
theorem kBeam_openM {w : World} {base : Nat} {ok : Nat → Prop} {x : Int × Int × Int × Int} {cs : List Value} (h : kBeam.M w base ok x cs) : cs = [.int .i64 x.1, .int .i64 x.2.1, .int .i64 x.2.2.1, .int .i64 x.2.2.2] := by
 obtain ⟨_, _, rfl, rfl, ⟨_, _, rfl, rfl, ⟨_, _, rfl, rfl, rfl⟩⟩⟩ := h
 exact rfl
theorem kBeam_mkM (w : World) (base : Nat) (ok : Nat → Prop) (x : Int × Int × Int × Int) : kBeam.M w base ok x [.int .i64 x.1, .int .i64 x.2.1, .int .i64 x.2.2.1, .int .i64 x.2.2.2] := ⟨[.int .i64 x.1], [.int .i64 x.2.1, .int .i64 x.2.2.1, .int .i64 x.2.2.2], rfl, rfl, ⟨[.int .i64 x.2.1], [.int .i64 x.2.2.1, .int .i64 x.2.2.2], rfl, rfl, ⟨[.int .i64 x.2.2.1], [.int .i64 x.2.2.2], rfl, rfl, rfl⟩⟩⟩
theorem kBeam_flat : Flat kBeam := fun _ _ _ _ _ _ x cs h => by rw [kBeam_openM h]; exact kBeam_mkM _ _ _ x
theorem infoBeam : (Try.prog.info? 96).map (fun i => (i.zero, i.size, i.bytes)) = some (some (.agg #[.int .i64 0, .int .i64 0, .int .i64 0, .int .i64 0]), 4, 32) := by kernel_rfl
abbrev Beam := Int × Int × Int × Int
def topOf (st : List Beam) : Beam := st.getD (st.length - 1) (0, 0, 0, 0)
def impl_trailOf.l0 (k : Nat) (w : Int) (l : List S57) : Nat → List Beam → List S50 → List S55 → Option (List S50 × List S55)
 | 0, _, _, _ => none
 | q + 1, st, vs, es =>
  if st.length = 0 then some (vs, es)
  else if st.length ≤ 1000000 ∧ vs.length ≤ 1000000 ∧ es.length ≤ 999990 then
   if (topOf st).2.2.1 = 0 then impl_trailOf.l0 k w l q (st.take (st.length - 1)) vs es
   else if (topOf st).2.2.2 ≥ 0 then impl_trailOf.l0 k w l q (st.take (st.length - 1)) vs (endV es 0 (topOf st).2.2.2 (topOf st).2.2.1)
   else if 0 ≤ (topOf st).1 ∧ (topOf st).1 < (l.length : Int) then
    (impl_spreadOf.f (rd_T57 l (topOf st).1).f0 (topOf st).2.2.1).bind fun s =>
    (impl_DirTurn.f (rd_T57 l (topOf st).1).f0 (topOf st).2.1).bind fun d =>
    (impl_beamFrom.f k w l (topOf st).1 d s.2.1).bind fun b1 =>
    (impl_beamFrom.f k w l (topOf st).1 (topOf st).2.1 s.1).bind fun b2 =>
    impl_trailOf.l0 k w l q (st.take (st.length - 1) ++ [b1, b2]) (vs ++ [⟨(topOf st).1, (topOf st).2.1, (topOf st).2.2.1⟩])
     (endV (endV es (if (rd_T57 l (topOf st).1).f0 = 7 then 2 else 1) (topOf st).1 s.2.2.2) 3 (topOf st).1 s.2.2.1)
   else none
  else none
def impl_trailOf.f (k : Nat) (a0_0 : Int) (l0_1 : List (S57)) (a1 : Int) : Option ((List (S50)) × (List (S55))) :=
 (impl_SightRay.f k a0_0 l0_1 a1).bind fun r => if r.2.2 = true then impl_trailOf.l0 k a0_0 l0_1 k [(r.1, r.2.1, 64, -1)] [] [] else some ([], [])
theorem impl_trailOf.mono_l (k : Nat) (w : Int) (l : List S57) : ∀ q st vs es, LeO (impl_trailOf.l0 k w l q st vs es) (impl_trailOf.l0 (k + 1) w l (q + 1) st vs es)
 | 0, _, _, _ => fun r h => by simp [impl_trailOf.l0] at h
 | q + 1, st, vs, es => by
  have ih := impl_trailOf.mono_l k w l q
  rw [impl_trailOf.l0, impl_trailOf.l0.eq_2 (k + 1)]
  refine LeO.ite (LeO.refl _) (LeO.ite (LeO.ite (ih _ _ _) (LeO.ite (ih _ _ _) (LeO.ite ?_ (LeO.none _)))) (LeO.none _))
  exact LeO.bind (LeO.refl _) fun _ => LeO.bind (LeO.refl _) fun _ => LeO.bind (impl_beamFrom.mono _ _ _ _ _ _) fun _ => LeO.bind (impl_beamFrom.mono _ _ _ _ _ _) fun _ => ih _ _ _
theorem impl_trailOf.mono : ∀ a0 a1 a2 k, LeO (impl_trailOf.f k a0 a1 a2) (impl_trailOf.f (k + 1) a0 a1 a2) := by
 intro a0 a1 a2 k
 unfold impl_trailOf.f
 exact LeO.bind (impl_SightRay.mono _ _ _ _) fun _ => LeO.ite (impl_trailOf.mono_l _ _ _ _ _ _ _) (LeO.refl _)


open Go.Proofs.Ytejgohgmmndgbaa.HandA
section
variable {W wr w1 : World} {A : Option Addr} {n c : Nat} {w : Int} {v v0 v1 : Value} {st : List Beam} {vs : List S50} {es : List S55}
structure TrailSt (W wr : World) (A : Option Addr) (n c : Nat) (w : Int) (v v0 v1 : Value) (st : List Beam) (vs : List S50) (es : List S55) : Prop where
 bg : wr.heap[W.heap.size]? = some (.cells #[.int .i64 w, .slice A n c] 25 (0, 0))
 br : wr.heap[W.heap.size + 1]? = some (.cells #[.slice none 0 0, .slice none 0 0] 71 (0, 0))
 bt : wr.heap[W.heap.size + 2]? = some (.cells #[v0, v1] 71 (0, 0))
 rs : Kd.R kBeam 96 wr W.heap.size (fun k => k ≠ W.heap.size + 2) v st
 rv : Kd.R k50 50 wr W.heap.size (fun k => k ≠ W.heap.size + 2) v0 vs
 re : Kd.R k55 55 wr W.heap.size (fun k => k ≠ W.heap.size + 2) v1 es
 bl : Below W.heap.size W wr
theorem TrailSt.below (H : TrailSt W wr A n c w v v0 v1 st vs es) (hb : Below wr.heap.size wr w1) : TrailSt W w1 A n c w v v0 v1 st vs es :=
 ⟨kBe H.bg hb, kBe H.br hb, kBe H.bt hb, Kd.R_below H.rs hb, Kd.R_below H.rv hb, Kd.R_below H.re hb, bSp H.bl hb⟩
theorem TrailSt.alloc (H : TrailSt W wr A n c w v v0 v1 st vs es) (o : Obj) : TrailSt W (wr.alloc o) A n c w v v0 v1 st vs es := H.below ((Below.refl _ _).alloc (Nat.le_refl _) _)
theorem TrailSt.ended {v1' : Value} {es' : List S55} (H : TrailSt W wr A n c w v v0 v1 st vs es) (h1 : w1.heap[W.heap.size + 2]? = some (.cells #[v0, v1'] 71 (0, 0))) (h2 : Kd.R k55 55 w1 W.heap.size (fun k => k ≠ W.heap.size + 2) v1' es') (h3 : Below W.heap.size W w1) (h4 : Stay wr w1 (W.heap.size + 2) v1) : TrailSt W w1 A n c w v v0 v1' st vs es' :=
 ⟨(h4.2 _ (blk_lt H.bg) zq37 (R_ne_blk H.re H.bg zq31)).trans H.bg, (h4.2 _ (blk_lt H.br) zq37 (R_ne_blk H.re H.br zq31)).trans H.br, h1,
  R_flat kBeam_flat H.rs (fun k hk => h4.2 k (R_ty H.rs k hk).1 (R_ty H.rs k hk).2.2.1 (R_ne H.rs H.re zq31 k hk)) (fun _ _ h => h) (fun _ _ h => h),
  R_flat k50_flat H.rv (fun k hk => h4.2 k (R_ty H.rv k hk).1 (R_ty H.rv k hk).2.2.1 (R_ne H.rv H.re zq31 k hk)) (fun _ _ h => h) (fun _ _ h => h), h2, h3⟩
theorem TrailSt.visited {v0' : Value} {vs' : List S50} (H : TrailSt W wr A n c w v v0 v1 st vs es) (ho : Kd.R k50 50 w1 W.heap.size (fun k => k ≠ W.heap.size + 2) v0' vs') (hb : Below W.heap.size W w1) (hg : wr.grownBy w1 v0.ownBlock) : TrailSt W (w1.setCell ⟨W.heap.size + 2, 0, none⟩ v0') A n c w v v0' v1 st vs' es := by
 have hs : ∀ k, (fun k => k ≠ W.heap.size + 2) k → k ≠ W.heap.size + 2 := fun _ h => h
 refine ⟨(heap_set_ne zq37).trans (blk_grown H.bg hg (fun e => R_ne_blk H.rv H.bg zq31 e.symm)), (heap_set_ne zq37).trans (blk_grown H.br hg (fun e => R_ne_blk H.rv H.br zq31 e.symm)), ?_, R_set kBeam_flat (R_grown kBeam_flat H.rs H.rv zq31 hg) hs, R_set k50_flat ho hs, R_set k55_flat (R_grown k55_flat H.re H.rv zq31 hg) hs, hb.setCell (show W.heap.size ≤ W.heap.size + 2 by omega) _⟩
 simpa using blk_set (blk_grown H.bt hg (fun e => R_ne_blk H.rv H.bt zq31 e.symm)) 0 v0'
theorem TrailSt.pushed {v' : Value} {st' : List Beam} (H : TrailSt W wr A n c w v v0 v1 st vs es) (ho : Kd.R kBeam 96 w1 W.heap.size (fun k => k ≠ W.heap.size + 2) v' st') (hb : Below W.heap.size W w1) (hg : wr.grownBy w1 v.ownBlock) : TrailSt W w1 A n c w v' v0 v1 st' vs es :=
 ⟨blk_grown H.bg hg (fun e => R_ne_blk H.rs H.bg zq31 e.symm), blk_grown H.br hg (fun e => R_ne_blk H.rs H.br zq31 e.symm), blk_grown H.bt hg (fun e => R_ne_blk H.rs H.bt zq31 e.symm), ho, R_grown k50_flat H.rv H.rs zq31 hg, R_grown k55_flat H.re H.rs zq31 hg, hb⟩
theorem TrailSt.top {m : Nat} (H : TrailSt W wr A n c w v v0 v1 st vs es) (hm : st.length = m + 1) : ∃ (ad : Addr) (c' : Nat), v = .slice (some ad) (m + 1) c' ∧ m + 1 ≤ c' ∧ wr.cell? (ad.add (m * 4)) = some (.int .i64 (topOf st).1) ∧ wr.cell? ⟨(ad.add (m * 4)).block, (ad.add (m * 4)).off + 1, none⟩ = some (.int .i64 (topOf st).2.1)
  ∧ wr.cell? ⟨(ad.add (m * 4)).block, (ad.add (m * 4)).off + 2, none⟩ = some (.int .i64 (topOf st).2.2.1) ∧ wr.cell? ⟨(ad.add (m * 4)).block, (ad.add (m * 4)).off + 3, none⟩ = some (.int .i64 (topOf st).2.2.2)
  ∧ TrailSt W wr A n c w (.slice (some ad) m c') v0 v1 (st.take m) vs es := by
 obtain ⟨A', c', e⟩ := Kd.R_slice H.rs
 have hr := H.rs
 rw [e] at hr
 have hrd := Kd.R_reads' hr
 obtain ⟨ad, cs, rfl, _, hK, hcs0⟩ := Kd.C_get hrd.2.2 (0, 0, 0, 0) (m : Int) zq37 zq37
 have ht : st.getD ((m : Int)).toNat (0, 0, 0, 0) = topOf st := by unfold topOf; rw [hm]; rfl
 rw [ht] at hK
 have hcs : ∀ j u, cs[j]? = some u → wr.cell? (ad.add (m * 4 + j)) = some u := hcs0
 obtain rfl := kBeam_open hK
 refine ⟨ad, c', by rw [← hm]; exact e, by have := hrd.2.1; omega, hcs 0 _ rfl, ?_, ?_, ?_, ⟨H.bg, H.br, H.bt, Kd.R_take hr zq37, H.rv, H.re, H.bl⟩⟩
 ·rw [← add_field _ _ 1 zq37]; exact hcs 1 _ rfl
 ·rw [← add_field _ _ 2 zq37]; exact hcs 2 _ rfl
 ·rw [← add_field _ _ 3 zq37]; exact hcs 3 _ rfl
end

end Go.Proofs.Ytejgohgmmndgbaa.PFnTrailTurn
--slim
