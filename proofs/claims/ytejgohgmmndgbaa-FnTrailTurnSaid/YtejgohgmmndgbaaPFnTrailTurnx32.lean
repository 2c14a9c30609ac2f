-- Written by a program of this session: the kit's print, with functions among it that were proved by hand.
import Derived.Test.YtejgohgmmndgbaaPFnTrailTurnx0
import Derived.Test.YtejgohgmmndgbaaPFnTrailTurnx18
import Derived.Test.YtejgohgmmndgbaaPFnTrailTurnx19
import Derived.Test.YtejgohgmmndgbaaPFnTrailTurnx30
import Derived.Test.YtejgohgmmndgbaaPFnTrailTurnx31
namespace Go.Proofs.Ytejgohgmmndgbaa.PFnTrailTurn
open Go.RowKit Go.Proofs.YtejgohgmmndgbaaW.PrintWords Go.Proofs.YtejgohgmmndgbaaW.PrintLast Go.Proofs.YtejgohgmmndgbaaW.PrintMore
attribute [local go_sem] max2_int min2_int max_two min_two max_three min_three max_four min_four   -- for this text's walks alone
set_option linter.unusedVariables false
set_option linter.unusedSimpArgs false


open Go.Proofs.Ytejgohgmmndgbaa.HandA
set_option maxHeartbeats 8000000 in
set_option maxRecDepth 100000 in
theorem moved_F (w h : Int) (hb gb : Nat) (ad : Addr) (c : Nat) (l : List S57) (W : World) (hr : Kd.C k57 W (some ad) l.length l) (hc : l.length ≤ c) (h25 : l.length ≤ 25) (h0 : 0 < l.length) (w1 : 1 ≤ w) (w5 : w ≤ 5) (g1 : 1 ≤ h) (g5 : h ≤ 5) (hlen : (l.length : Int) = w * h)
  (e2 : W.cell? ⟨gb, 0, none⟩ = some (.int .i64 w)) (hok : ∀ x ∈ l, (x.f0 = 7 ∧ 1 ≤ x.f1 ∧ x.f1 ≤ 9) ∨ (0 ≤ x.f0 ∧ x.f0 ≤ 6 ∧ x.f1 = 0)) :
  Calls Try.prog 50 #[.agg #[.int .i64 w, .slice (some ad) l.length c], .int .i64 w, .func (.func 53) #[] #[.pointer (some ⟨gb, 0, none⟩)]] W fun e w' => ∃ v : Value, e = .returned (.agg #[.int .i64 w, v]) ∧ Kd.R k57 57 w' W.heap.size (fun _ => True) v (movedL l (fun i => ((i : Int) / w * w + w - 1 - (i : Int) % w).toNat)) ∧ Below W.heap.size W w' := by
 have HC : Zs (∀ W', Below W.heap.size W W' → Kd.C k57 W' (some ad) l.length l) := ⟨fun _ hb => Kd.C_below hr hb⟩
 have HK := Zs.mk hok
 have HL := Zs.mk hlen
 clear hr hok hlen
 go_enter Try.func50, Try.ntmps50
 go_wp2_with ((with_reducible refine gate_dst (N := 15) rfl ?_); refine Kd.R_make k57 (w0 := W) W.heap.size 57 rfl (N := 15) rfl 23 _ _ rfl (l.length : Int) rfl rfl Try.underlying23 (.agg #[.int .i64 0, .int .i64 0]) 16 infoCell rfl zq31 zq37 (⟨0, 0⟩ : S57) (ok := fun _ => True) (okp := fun _ => True) (k57_mkM _ _ _ (⟨0, 0⟩ : S57)) (fun _ hk => hk) trivial zq37 zq37 (by repeat (first | assumption | exact Below.refl _ _ | refine Below.drew ?_ | refine bDN ?_ _ | refine Below.setCell ?_ (by first | (simp; done) | (simp; omega) | omega) _ | refine Below.alloc ?_ zq5 _)) (by simp; omega) ?_; intro v4 w4 hR hB hg hob; rw [show ((l.length : Int)).toNat = l.length from by omega] at hR; have HO := Zs.mk hR; have hB4 := Zs.mk hB; have K0 := Zs.mk ((hg.block W.heap.size (by simp; omega) zq58).trans (one_new W _ _)); have K1 := Zs.mk ((hg.block (W.heap.size + 1) zq58 zq58).trans (last_new W _ _)); clear hg hob hB; obtain ⟨g, cap, ev, hgb, hgl, cl, hgc⟩ := Kd.R_form hR (by simp; omega); rw [List.length_replicate] at ev; clear hR hgl hgc; subst ev)
 have X0 := Zs.mk (kAl K0.out (.cells #[.int .i64 w, .slice (some ⟨g, 0, none⟩) l.length cap] 25 (0, 0)))
 have X1 := Zs.mk (kAl K1.out (.cells #[.int .i64 w, .slice (some ⟨g, 0, none⟩) l.length cap] 25 (0, 0)))
 have X2 := Zs.mk (blk_new w4 (.cells #[.int .i64 w, .slice (some ⟨g, 0, none⟩) l.length cap] 25 (0, 0)))
 have X3 := Zs.mk (Kd.R_alloc HO.out (.cells #[.int .i64 w, .slice (some ⟨g, 0, none⟩) l.length cap] 25 (0, 0)))
 have X4 := Zs.mk (hB4.out.alloc hB4.out.size (.cells #[.int .i64 w, .slice (some ⟨g, 0, none⟩) l.length cap] 25 (0, 0)))
 generalize w4.alloc (.cells #[.int .i64 w, .slice (some ⟨g, 0, none⟩) l.length cap] 25 (0, 0)) = wX at X0 X1 X2 X3 X4 ⊢
 generalize w4.heap.size = gp at X2 ⊢
 have HG := Zs.mk hgb
 clear K0 K1 HO hB4 hgb
 go_loopg [20] l.length (fun kq v20 w' => ∃ i : Nat, v20 = .int .i64 (i : Int) ∧ Zs (i + kq = l.length) ∧ Zs (w'.heap[W.heap.size]? = some (.cells #[.int .i64 w, .slice (some ad) l.length c] 25 (0, 0))) ∧ Zs (w'.heap[W.heap.size + 1]? = some (.cells #[.int .i64 0, .slice none 0 0] 25 (0, 0))) ∧ Zs (w'.heap[gp]? = some (.cells #[.int .i64 w, .slice (some ⟨g, 0, none⟩) l.length cap] 25 (0, 0))) ∧ Zs (Kd.R k57 57 w' W.heap.size (fun _ => True) (.slice (some ⟨g, 0, none⟩) l.length cap) (movedTo l (fun i => ((i : Int) / w * w + w - 1 - (i : Int) % w).toNat) i)) ∧ Zs (Below W.heap.size W w'))
 case atStart => exact ⟨0, rfl, ⟨by omega⟩, X0, X1, X2, ⟨by rw [movedTo_zero]; exact X3.out⟩, X4⟩
 case round =>
  clear X0 X1 X2 X3 X4
  obtain ⟨i, rfl, HI, X0, X1, X2, X3, X4⟩ := hrel
  cases gk with
  | zero =>
   have hi := HI.out
   have hd : decide ((i : Int) < (l.length : Int)) = false := decide_eq_false zq37
   have hd' : decide (i < l.length) = false := decide_eq_false zq37
   have y2 : wr.cell? ⟨gp, 0, none⟩ = some (.int .i64 w) := (kCe X2.out 0).trans rfl
   have y3 : wr.cell? ⟨gp, 1, none⟩ = some (.slice (some ⟨g, 0, none⟩) l.length cap) := (kCe X2.out 1).trans rfl
   have y4 : wr.cell? ⟨W.heap.size + 1, 0, none⟩ = some (.int .i64 0) := (kCe X1.out 0).trans rfl
   have y5 : wr.cell? ⟨W.heap.size + 1, 1, none⟩ = some (.slice none 0 0) := (kCe X1.out 1).trans rfl
   have y6 := kFr X1.out 0
   have y7 := kFr X1.out 1
   have hil : i = l.length := by omega
   have n1 : W.heap.size + 1 ≠ g := fun e => R_ne_blk X3.out X1.out zq31 (by rw [e]; rfl)
   have hn1 : (Value.slice (some ⟨g, 0, none⟩) l.length cap).ownBlock ≠ some (W.heap.size + 1) := fun e => by cases e; exact n1 rfl
   have HR := Zs.mk (show Kd.R k57 57 wr W.heap.size (fun _ => True) (.slice (some ⟨g, 0, none⟩) l.length cap) (movedL l (fun i => ((i : Int) / w * w + w - 1 - (i : Int) % w).toNat)) by have h := X3.out; rw [hil, movedTo_all] at h; exact h)
   clear hi hil
   go_wp2
   refine bodyPost_ret (v := .agg #[.int .i64 w, .slice (some ⟨g, 0, none⟩) l.length cap]) (by simp [results, Try.results50, go_sem, y4, y5]) rfl ?_
   exact ⟨_, rfl, R_setne k57_flat (R_setne k57_flat HR.out hn1) hn1, (X4.out.setCell (show W.heap.size ≤ W.heap.size + 1 by omega) _).setCell (show W.heap.size ≤ W.heap.size + 1 by omega) _⟩
  | succ k1 =>
   have hi := HI.out
   have hd : decide ((i : Int) < (l.length : Int)) = true := decide_eq_true zq37
   have hd' : decide (i < l.length) = true := decide_eq_true zq37
   have x1 : wr.cell? ⟨W.heap.size, 1, none⟩ = some (.slice (some ad) l.length c) := (kCe X0.out 1).trans rfl
   have hlen := HL.out
   have hil : (i : Int) < w * h := by rw [← hlen]; omega
   have r0 : 0 ≤ (i : Int) / w := Int.ediv_nonneg zq37 zq37
   have r1 : (i : Int) / w < h := Int.ediv_lt_of_lt_mul zq37 (by first | exact hil | (rw [Int.mul_comm]; exact hil))
   have c0 : 0 ≤ (i : Int) % w := Int.emod_nonneg _ zq37
   have c1 : (i : Int) % w < w := Int.emod_lt_of_pos _ zq37
   have p0 : 0 ≤ (i : Int) / w * w + w - 1 - (i : Int) % w := (mf_idx_F w1 w5 g5 r0 r1 c0 c1).1
   have p1 : (i : Int) / w * w + w - 1 - (i : Int) % w < (l.length : Int) := (by rw [hlen]; exact (mf_idx_F w1 w5 g5 r0 r1 c0 c1).2)
   obtain ⟨ad2, ea, hx0, hx1⟩ := at_T57 (HC.out _ X4.out) ((i : Int) / w * w + w - 1 - (i : Int) % w) p0 p1
   cases ea
   have HI0 := Zs.mk p0
   have HI1 := Zs.mk p1
   have HD := Zs.mk hd'
   have q0 := eq_true p0
   have hrow : IntKind.i64.wrap ((i : Int) / w) = (i : Int) / w := by rw [i64_w]; exact mf_w64 zq37 zq37
   have hcol : (i : Int).tmod w = (i : Int) % w := Int.tmod_eq_emod_of_nonneg zq37
   have hz : (w == 0) = false := by simp; omega
   have hz' : ¬ w = 0 := by omega
   have q1 := eq_true p1
   have q2 : wr.drew.cell? ⟨gb, 0, none⟩ = some (.int .i64 w) := cell_keep e2 (Below.drew X4.out)
   have hT := Zs.mk (from_F w h ((i : Int) / w) ((i : Int) % w) gb wr.drew q2 w1 w5 g5 r0 r1 c0 c1)
   generalize hix : (i : Int) / w * w + w - 1 - (i : Int) % w = ix at hT q0 q1 hx0 hx1 HI0 HI1
   clear hi hlen hil p0 p1
   go_wp2
   go_region_held3 (fun w' => w'.cell? ⟨W.heap.size, 1, none⟩ = some (.slice (some ad) l.length c) ∧ w'.cell? (ad.add (ix.toNat * 2)) = some (.int .i64 (rd_T57 l ix).f0) ∧ w'.cell? ⟨(ad.add (ix.toNat * 2)).block, (ad.add (ix.toNat * 2)).off + 1, none⟩ = some (.int .i64 (rd_T57 l ix).f1)) (first | exact ⟨x1, hx0, hx1⟩ | exact ⟨u1, u2, u3⟩ | go_keep) (first | (go_at_call 53; refine hT.out.mono ?_; rintro e w2 ⟨rfl, rfl⟩) | (go_at_call 78; refine (CellA.ct_any _ _ _).mono ?_; rintro e w3 ⟨rfl, hb3⟩; have u1 := pw_cell_below hb3 (by exact x1); have u2 := pw_cell_below hb3 (by exact hx0); have u3 := pw_cell_below hb3 (by exact hx1); have Z0 := Zs.mk (kBe (kDr X0.out) hb3); have Z1 := Zs.mk (kBe (kDr X1.out) hb3); have Z2 := Zs.mk (kBe (kDr X2.out) hb3); have Z3 := Zs.mk (Kd.R_below (Kd.R_drew X3.out) hb3); have Z4 := Zs.mk (bSp (Below.drew X4.out) hb3); clear hb3))
   obtain ⟨j, hj⟩ := Int.eq_ofNat_of_zero_le HI0.out
   have hjl : j < l.length := by have := HI1.out; omega
   have hk := HK.out _ (List.getElem_mem hjl)
   have he : rd_T57 l ix = l[j] := by rw [hj]; unfold rd_T57; rw [Int.toNat_natCast, List.getD_eq_getElem?_getD, List.getElem?_eq_getElem hjl, Option.getD_some]
   rw [← he] at hk
   have hd2 := HD.out
   generalize hxx : (rd_T57 l ix).f0 = xx at hk u2 ⊢
   generalize hyy : (rd_T57 l ix).f1 = yy at hk u3 ⊢
   have hct : CellA.ctOk xx yy = true := by
    unfold CellA.ctOk
    rcases hk with ⟨a, b, c⟩ | ⟨a, b, c⟩
    ·rw [if_pos a]; simp; omega
    ·rw [if_neg zq37]; simp; omega
   have t1 : w3.cell? ⟨gp, 1, none⟩ = some (.slice (some ⟨g, 0, none⟩) l.length cap) := (kCe Z2.out 1).trans rfl
   have p5' : (0 : Int) ≤ (i : Int) := by omega
   have q5' : (i : Int) < (l.length : Int) := by have := HI.out; omega
   have pp := eq_true p5'
   have qq := eq_true q5'
   have qn : (i < l.length) = True := eq_true zq37
   clear u1 u2 u3 x1 hx0 hx1 hj he
   rw [hct]
   go_wp2
   go_region_held3 (fun w' => w'.cell? ⟨gp, 1, none⟩ = some (.slice (some ⟨g, 0, none⟩) l.length cap)) (first | exact t1 | exact t2 | exact t3 | go_keep) (first | (go_at_call 79; refine (swapped_any hk _).mono ?_; rintro e w5 ⟨rfl, hb5⟩; have t2 := pw_cell_below hb5 (by exact t1); have Y0 := Zs.mk (kBe (kDr Z0.out) hb5); have Y1 := Zs.mk (kBe (kDr Z1.out) hb5); have Y2 := Zs.mk (kBe (kDr Z2.out) hb5); have Y3 := Zs.mk (Kd.R_below (Kd.R_drew Z3.out) hb5); have Y4 := Zs.mk (bSp (Below.drew Z4.out) hb5); clear hb5; obtain ⟨ce, hcl, hM, hcc, hfr⟩ := Kd.R_elem Y3.out z57 (i : Int) p5' q5'; obtain rfl := k57_openM hM; have h0' : w5.cell? ⟨g, i * 2, none⟩ = some _ := hcc 0 _ rfl; have h1' : w5.cell? ⟨g, i * 2 + 1, none⟩ = some _ := hcc 1 _ rfl; have f0' : w5.frozen? ⟨g, i * 2, none⟩ = false := hfr 0; have f1' : w5.frozen? ⟨g, i * 2 + 1, none⟩ = false := hfr 1; have ng : gp ≠ g := fun e => R_ne_blk Y3.out Y2.out zq31 (by rw [e]; rfl); have T2 := Zs.mk (blk_far (blk_far Y2.out (p := ⟨g, i * 2, none⟩) ng (.int .i64 (swpK xx))) (p := ⟨g, i * 2 + 1, none⟩) ng (.int .i64 yy)); have t3 : ((w5.setCell ⟨g, i * 2, none⟩ (.int .i64 (swpK xx))).setCell ⟨g, i * 2 + 1, none⟩ (.int .i64 yy)).cell? ⟨gp, 1, none⟩ = some (.slice (some ⟨g, 0, none⟩) l.length cap) := (kCe T2.out 1).trans rfl))
   have n0 : W.heap.size ≠ g := fun e => R_ne_blk Y3.out Y0.out zq31 (by rw [e]; rfl)
   have n1 : W.heap.size + 1 ≠ g := fun e => R_ne_blk Y3.out Y1.out zq31 (by rw [e]; rfl)
   have A0 := Zs.mk (blk_far (blk_far Y0.out (p := ⟨g, i * 2, none⟩) n0 (.int .i64 (swpK xx))) (p := ⟨g, i * 2 + 1, none⟩) n0 (.int .i64 yy))
   have A1 := Zs.mk (blk_far (blk_far Y1.out (p := ⟨g, i * 2, none⟩) n1 (.int .i64 (swpK xx))) (p := ⟨g, i * 2 + 1, none⟩) n1 (.int .i64 yy))
   have HP := (Kd.R_seg Y3.out (i : Int) p5' q5' (seg := [.int .i64 (swpK xx), .int .i64 yy]) (j := 0) hcl hcc (show 2 ≤ 2 from by decide) (x' := (⟨swpK xx, yy⟩ : S57)) (k57_mkM _ _ _ (⟨swpK xx, yy⟩ : S57)) (fun _ hk => hk)).1
   have hps : (((((i : Int) / w * w + w - 1 - (i : Int) % w).toNat : Nat)) : Int) = ix := by rw [hix]; exact Int.toNat_of_nonneg HI0.out
   have hst := movedTo_set l (fun i => ((i : Int) / w * w + w - 1 - (i : Int) % w).toNat) i zq37
   simp only [hps, hxx, hyy] at hst
   rw [Int.toNat_natCast, hst] at HP
   have A3 := Zs.mk (show Kd.R k57 57 ((w5.setCell ⟨g, i * 2, none⟩ (.int .i64 (swpK xx))).setCell ⟨g, i * 2 + 1, none⟩ (.int .i64 yy)) W.heap.size (fun _ => True) (.slice (some ⟨g, 0, none⟩) l.length cap) (movedTo l (fun i => ((i : Int) / w * w + w - 1 - (i : Int) % w).toNat) (i + 1)) from HP)
   have A4 := Zs.mk ((Y4.out.setCell HG.out (.int .i64 (swpK xx)) (p := ⟨g, i * 2, none⟩)).setCell HG.out (.int .i64 yy) (p := ⟨g, i * 2 + 1, none⟩))
   clear HP hst t3 h0' h1' f0' f1' hfr hcc hcl hM
   go_wp2
   go_roundg k1
   case measure => omega
   case rel => exact ⟨i + 1, (by first | rfl | (simp; done)), ⟨by have := HI.out; omega⟩, A0, A1, T2, A3, A4⟩


open Go.Proofs.Ytejgohgmmndgbaa.HandA
/-! ### impl_GridTurn: function 12 -/
/-- What the two that move a grid's cells are asked. -/
def impl_GridTurn.fit (w : Int) (l : List (S57)) : Prop := 1 ≤ w ∧ w ≤ 5 ∧ 1 ≤ (l.length : Int) / w ∧ (l.length : Int) / w ≤ 5 ∧ (l.length : Int) = w * ((l.length : Int) / w) ∧ l.length ≤ 25 ∧ l.all (fun c => CellA.ctOk c.f0 c.f1) = true
instance (w : Int) (l : List (S57)) : Decidable (impl_GridTurn.fit w l) := by unfold impl_GridTurn.fit; infer_instance
def impl_GridTurn.f (k : Nat) (a0_0 : Int) (l0_1 : List (S57)) : Option (Int × (List (S57))) :=
 (impl_GridOk.f k a0_0 l0_1).bind fun ok => if ok = true then (if impl_GridTurn.fit a0_0 l0_1 then some (((l0_1.length : Int) / a0_0), movedL l0_1 (fun i => ((((l0_1.length : Int) / a0_0) - 1 - (i : Int) % ((l0_1.length : Int) / a0_0)) * a0_0 + (i : Int) / ((l0_1.length : Int) / a0_0)).toNat)) else none) else some (0, [])
theorem impl_GridTurn.mono : ∀ a0 a1 k, LeO (impl_GridTurn.f k a0 a1) (impl_GridTurn.f (k + 1) a0 a1) := by
 intro a0 a1 k
 unfold impl_GridTurn.f
 exact LeO.bind (impl_GridOk.mono _ _ _) fun _ => LeO.refl _
set_option maxHeartbeats 8000000 in
set_option maxRecDepth 100000 in
theorem impl_GridTurn_no (k : Nat) (w : Int) (A : Option Addr) (c : Nat) (l : List S57) (W : World) (hr : Kd.C k57 W A l.length l) (hc : l.length ≤ c) (hok : impl_GridOk.f k w l = some false) :
  Calls Try.prog 12 #[.agg #[.int .i64 w, .slice A l.length c]] W fun e w' => ∃ v1_ : Value, e = .returned (.agg #[.int .i64 0, v1_]) ∧ Kd.R k57 57 w' W.heap.size (fun _ => True) v1_ [] ∧ Below W.heap.size W w' := by
 have HC : Zs (∀ W', Below W.heap.size W W' → Kd.C k57 W' A l.length l) := ⟨fun _ hb => Kd.C_below hr hb⟩
 have HO := Zs.mk hok
 clear hr hok
 go_enter Try.func12, Try.ntmps12
 go_wp2_with (go_at_call 48; refine (impl_GridOk.calls k w A c l false _ (HC.out _ zq46) hc HO.out).mono ?_; rintro e w2 ⟨rfl, hb⟩; have bk0 := Zs.mk (kBe (one_new W _ _) hb); have bk1 := Zs.mk (kBe (last_new W _ _) hb); have m0 : w2.cell? ⟨W.heap.size + 1, 0, none⟩ = some (.int .i64 0) := (kCe bk1.out 0).trans rfl; have m1 : w2.cell? ⟨W.heap.size + 1, 1, none⟩ = some (.slice none 0 0) := (kCe bk1.out 1).trans rfl; have f0 := kFr bk1.out 0; have f1 := kFr bk1.out 1; have bb : Below W.heap.size W w2 := Below.trans zq46 (hb.mono zq5))
 refine bodyPost_ret (v := .agg #[.int .i64 0, .slice none 0 0]) (by simp [results, Try.results12, go_sem, m0, m1]) rfl ?_
 exact ⟨_, rfl, Kd.R_nil _ _ _ _ _, (bb.setCell (show W.heap.size ≤ W.heap.size + 1 by omega) _).setCell (show W.heap.size ≤ W.heap.size + 1 by omega) _⟩
set_option maxHeartbeats 8000000 in
set_option maxRecDepth 100000 in
theorem impl_GridTurn_yes (k : Nat) (w h : Int) (ad : Addr) (c : Nat) (l : List S57) (W : World) (hr : Kd.C k57 W (some ad) l.length l) (hc : l.length ≤ c) (hok : impl_GridOk.f k w l = some true) (hh : (l.length : Int) / w = h) (w1 : 1 ≤ w) (w5 : w ≤ 5) (g1 : 1 ≤ h) (g5 : h ≤ 5) (hlen : (l.length : Int) = w * h) (h25 : l.length ≤ 25) (h0 : 0 < l.length) (hk : ∀ x ∈ l, (x.f0 = 7 ∧ 1 ≤ x.f1 ∧ x.f1 ≤ 9) ∨ (0 ≤ x.f0 ∧ x.f0 ≤ 6 ∧ x.f1 = 0)) :
  Calls Try.prog 12 #[.agg #[.int .i64 w, .slice (some ad) l.length c]] W fun e w' => ∃ v1_ : Value, e = .returned (.agg #[.int .i64 h, v1_]) ∧ Kd.R k57 57 w' W.heap.size (fun _ => True) v1_ (movedL l (fun i => ((h - 1 - (i : Int) % h) * w + (i : Int) / h).toNat)) ∧ Below W.heap.size W w' := by
 have HC : Zs (∀ W', Below W.heap.size W W' → Kd.C k57 W' (some ad) l.length l) := ⟨fun _ hb => Kd.C_below hr hb⟩
 have HO := Zs.mk hok
 have HK := Zs.mk hk
 have HL := Zs.mk hlen
 have HG : Zs (impl_gridRows.f w l = some h) := ⟨by unfold impl_gridRows.f; rw [if_neg zq37, hh, mf_w64 zq37 zq37]⟩
 clear hr hok hk hlen hh
 go_enter Try.func12, Try.ntmps12
 go_wp2_with (first | (go_at_call 50; refine (moved_T w h _ _ ad c l _ (HC.out _ (Below.alloc bb3 bb3.size _)) hc h25 h0 w1 w5 g1 g5 HL.out ?e1 ?e2 HK.out).mono ?_; (case e1 => exact (kCe (blk_new _ _) 0).trans rfl); (case e2 => exact (kCe (kAl D0.out _) 0).trans rfl); rintro e w4 ⟨v, rfl, ho, hb4⟩; have e1 := Zs.mk (kBe (kAl D1.out _) hb4); have bb4 := Below.trans (Below.alloc bb3 bb3.size _) (hb4.mono (Below.alloc bb3 bb3.size _).size); have HR := Zs.mk (Kd.R_lower ho (Below.alloc bb3 bb3.size _).size); clear ho hb4; obtain ⟨A7, c7, e7⟩ := Kd.R_slice HR.out; subst e7; have m0 : w4.cell? ⟨W.heap.size + 1, 0, none⟩ = some (.int .i64 0) := (kCe e1.out 0).trans rfl; have m1 : w4.cell? ⟨W.heap.size + 1, 1, none⟩ = some (.slice none 0 0) := (kCe e1.out 1).trans rfl; have f0 := kFr e1.out 0; have f1 := kFr e1.out 1) | (go_at_call 49; refine (impl_gridRows.calls w (some ad) c l h _ (HC.out _ bb) hc HG.out).mono ?_; rintro e w3 ⟨rfl, hb3⟩; have D0 := Zs.mk (kBe bk0.out hb3); have D1 := Zs.mk (kBe bk1.out hb3); have bb3 : Below W.heap.size W w3 := Below.trans bb (hb3.mono bb.size); clear hb3; have z0 : w3.cell? ⟨W.heap.size, 0, none⟩ = some (.int .i64 w) := (kCe D0.out 0).trans rfl; have z1 : w3.cell? ⟨W.heap.size, 1, none⟩ = some (.slice (some ad) l.length c) := (kCe D0.out 1).trans rfl; have y0 : (w3.alloc (.cells #[.int .i64 h] 3 (0, 0))).cell? ⟨W.heap.size, 0, none⟩ = some (.int .i64 w) := (kCe (kAl D0.out _) 0).trans rfl; have y1 : (w3.alloc (.cells #[.int .i64 h] 3 (0, 0))).cell? ⟨W.heap.size, 1, none⟩ = some (.slice (some ad) l.length c) := (kCe (kAl D0.out _) 1).trans rfl; have y2 : (w3.alloc (.cells #[.int .i64 h] 3 (0, 0))).cell? ⟨w3.heap.size, 0, none⟩ = some (.int .i64 h) := (kCe (blk_new _ _) 0).trans rfl) | (go_at_call 48; refine (impl_GridOk.calls k w (some ad) c l true _ (HC.out _ zq46) hc HO.out).mono ?_; rintro e w2 ⟨rfl, hb⟩; have bk0 := Zs.mk (kBe (one_new W _ _) hb); have bk1 := Zs.mk (kBe (last_new W _ _) hb); have x0 : w2.cell? ⟨W.heap.size, 0, none⟩ = some (.int .i64 w) := (kCe bk0.out 0).trans rfl; have x1 : w2.cell? ⟨W.heap.size, 1, none⟩ = some (.slice (some ad) l.length c) := (kCe bk0.out 1).trans rfl; have bb : Below W.heap.size W w2 := Below.trans zq46 (hb.mono zq5)))
 have hn1 : (Value.slice A7 (movedL l (fun i => ((h - 1 - (i : Int) % h) * w + (i : Int) / h).toNat)).length c7).ownBlock ≠ some (W.heap.size + 1) := fun e => R_ne_blk HR.out e1.out zq31 e
 refine bodyPost_ret (v := .agg #[.int .i64 h, .slice A7 (movedL l (fun i => ((h - 1 - (i : Int) % h) * w + (i : Int) / h).toNat)).length c7]) (by simp [results, Try.results12, go_sem, m0, m1]) rfl ?_
 exact ⟨_, rfl, R_setne k57_flat (R_setne k57_flat HR.out hn1) hn1, (bb4.setCell (show W.heap.size ≤ W.heap.size + 1 by omega) _).setCell (show W.heap.size ≤ W.heap.size + 1 by omega) _⟩
theorem impl_GridTurn.calls (k : Nat) (a0_0 : Int) (A0_1 : Option Addr) (c0_1 : Nat) (l0_1 : List (S57)) (r1 : Int) (r2 : List (S57)) (w : World) (hr0_1 : Kd.C k57 w A0_1 l0_1.length l0_1) (hc0_1 : l0_1.length ≤ c0_1) (h : impl_GridTurn.f k a0_0 l0_1 = some (r1, r2)) :
  Calls Try.prog 12 #[.agg #[.int .i64 a0_0, .slice A0_1 l0_1.length c0_1]] w fun e w' => ∃ v1_ : Value, e = .returned (.agg #[.int .i64 r1, v1_]) ∧ Kd.R k57 57 w' w.heap.size (fun _ => True) v1_ r2 ∧ Below w.heap.size w w' := by
 unfold impl_GridTurn.f at h
 obtain ⟨ok, hok, h⟩ := Option.bind_eq_some_iff.1 h
 cases ok with
 | false =>
  rw [if_neg zq31] at h; cases h
  exact impl_GridTurn_no k a0_0 A0_1 c0_1 l0_1 w hr0_1 hc0_1 hok
 | true =>
  rw [if_pos rfl] at h
  by_cases hf : impl_GridTurn.fit a0_0 l0_1
  ·rw [if_pos hf] at h; cases h
   obtain ⟨w1, w5, g1, g5, hlen, h25, hall⟩ := hf
   have hpos : 0 < l0_1.length := by
    rcases Nat.eq_zero_or_pos l0_1.length with e | e
    ·rw [e] at g1; simp at g1
    ·exact e
   obtain ⟨ad, rfl, _, _⟩ := at_T57 hr0_1 0 zq37 zq37
   exact impl_GridTurn_yes k a0_0 _ ad c0_1 l0_1 w hr0_1 hc0_1 hok rfl w1 w5 g1 g5 hlen h25 hpos fun x hx => by
    have hx := List.all_eq_true.1 hall x hx
    unfold CellA.ctOk at hx
    by_cases e : x.f0 = 7
    ·rw [if_pos e] at hx; simp at hx; omega
    ·rw [if_neg e] at hx; simp at hx; omega
  ·rw [if_neg hf] at h; cases h

/-! ### impl_SightTurn: function 13 -/
def impl_SightTurn.f (k : Nat) (a0_0 : Int) (l0_1 : List (S57)) (a1 : Int) : Option (Int) := (impl_SightMany.f k a0_0 l0_1).bind fun t283 => (if a1 < 0 then (some (-1)) else (if a1 ≥ t283 then (some (-1)) else ((impl_gridRows.f a0_0 l0_1).bind fun t284 => (if t283 = 0 then (none) else (some (Int.tmod (wrap64 (a1 + t284)) t283))))))
theorem impl_SightTurn.mono : ∀ a0 a1 a2 k, LeO (impl_SightTurn.f k a0 a1 a2) (impl_SightTurn.f (k + 1) a0 a1 a2) := by
 intro a0 a1 a2 k
 unfold impl_SightTurn.f
 repeat' first
   | (with_reducible exact impl_SightMany.mono _ _ _)
   | (with_reducible exact LeO.refl _)
   | (with_reducible exact LeO.none _)
   | (with_reducible refine LeO.ite ?_ ?_)
   | (with_reducible refine LeO.bind ?_ (fun _ => ?_))
   | exact impl_SightMany.mono _ _ _
   | exact LeO.none _
   | refine LeO.ite ?_ ?_
   | refine LeO.bind ?_ (fun _ => ?_)
set_option maxHeartbeats 8000000 in
set_option maxRecDepth 100000 in
theorem impl_SightTurn.calls (k : Nat) (a0_0 : Int) (A0_1 : Option Addr) (c0_1 : Nat) (l0_1 : List (S57)) (a1 : Int) (r : Int) (w : World) (hr0_1 : Kd.C k57 w A0_1 l0_1.length l0_1) (hc0_1 : l0_1.length ≤ c0_1) (h : impl_SightTurn.f k a0_0 l0_1 a1 = some r) :
  Calls Try.prog 13 #[.agg #[.int .i64 a0_0, .slice A0_1 l0_1.length c0_1], .int .i64 a1] w fun e w' => e = .returned (.int .i64 r) ∧ Below w.heap.size w w' := by
 have hu25 := Try.underlying25
 have HR0_1 := Zs.mk hr0_1
 have HC0_1 := Zs.mk hc0_1
 clear hr0_1 hc0_1
 have HB := Zs.mk (Below.refl w.heap.size w)
 have H : ((impl_SightMany.f k a0_0 l0_1).bind fun t283 => (if a1 < 0 then (some (-1)) else (if a1 ≥ t283 then (some (-1)) else ((impl_gridRows.f a0_0 l0_1).bind fun t284 => (if t283 = 0 then (none) else (some (Int.tmod (wrap64 (a1 + t284)) t283))))))) = some r := h
 clear h
 replace H := Option.bind_eq_some_iff.mp H
 obtain ⟨t283, A30, H⟩ := H
 replace H : (if a1 < 0 then (some (-1)) else (if a1 ≥ t283 then (some (-1)) else ((impl_gridRows.f a0_0 l0_1).bind fun t284 => (if t283 = 0 then (none) else (some (Int.tmod (wrap64 (a1 + t284)) t283)))))) = some r := H
 have A3 := Zs.mk A30
 clear A30
 by_cases c4 : a1 < 0
 ·rw [if_pos c4] at H
  have c4b0 : decide (a1 < 0) = true := decide_eq_true c4
  clear c4
  obtain rfl := Option.some.inj H
  go_enter Try.func13, Try.ntmps13
  go_wp2_with (first | ((with_reducible refine gate_dst (N := 2) rfl ?_); refine box_event ?hg (N := 2) ?hd (cs := #[.int .i64 a0_0, .slice A0_1 l0_1.length c0_1]) (t := 25) ?hr ?_; (case hd => rfl); (case hg => rfl); (case hr => first | (go_simp; done) | (go_simp; rfl)); intro gb282 hg w5 hbox hb; have n0_ := Zs.mk (bSp zq2 hb); have n1_ := Zs.mk (hbox); have n2_ := Zs.mk ((by rw [hg]; exact (bSz zq2) : w.heap.size ≤ gb282)); have n3_ := Zs.mk ((by rw [hg]; exact (bSz zq2) : w.heap.size ≤ gb282)); clear HB; have HB := n0_; have BK282 := n1_; have GW282 := n2_; have GE282 := n3_; clear n0_ n1_ n2_ n3_; clear hb hbox hg; have hcz6_0 : w5.cell? ⟨gb282, 0, none⟩ = some (.int .i64 a0_0) := (kCe BK282.out 0).trans rfl; have hcz6_1 : w5.cell? ⟨gb282, 1, none⟩ = some (.slice A0_1 l0_1.length c0_1) := (kCe BK282.out 1).trans rfl; have hfz6_0 := kFr BK282.out 0; have hfz6_1 := kFr BK282.out 1) | ((with_reducible refine gate_callee (f := 52) rfl ?_); refine goesL_ (some 7) rfl rfl Try.func52 zq6 rfl #[.agg #[.int .i64 a0_0, .slice A0_1 l0_1.length c0_1]] rfl zq1 ?_; (with_reducible refine (impl_SightMany.calls k a0_0 _ _ l0_1 t283 _ ?side1 ?side2 A3.out).mono ?_); (case side1 => repeat (first | exact (Kd.C_below HR0_1.out HB.out) | (with_reducible refine Kd.C_alloc ?_ _) | (with_reducible refine Kd.C_drewN ?_ _) | (with_reducible refine Kd.C_drew ?_))); (case side2 => exact HC0_1.out); rintro e w7 ⟨rfl, hb⟩; refine ⟨_, rfl, ?_⟩; have n0_ := Zs.mk (kBe (g := gb282) (o := .cells #[.int .i64 a0_0, .slice A0_1 l0_1.length c0_1] 25 (0, 0)) zq82 hb); have n1_ := Zs.mk (bSp zq71 hb); clear BK282; clear HB; have BK282 := n0_; have HB := n1_; clear n0_ n1_; (try clear hb); (try clear hb2); (try clear hk); (try clear hi)))
  go_ret
  exact ⟨by first | rfl | (simp [errW_none, errW_some] <;> rfl) | (simp [*, errW_none, errW_some] <;> rfl), by repeat (first | (with_reducible first | exact HB.out | apply bAl | apply bDN | apply bD1 | refine bSt ?_ GE282.out) | exact HB.out)⟩
 ·rw [if_neg c4] at H
  have c4b0 : decide (a1 < 0) = false := decide_eq_false c4
  clear c4
  by_cases c8 : a1 ≥ t283
  ·rw [if_pos c8] at H
   have c8b0 : decide (t283 ≤ a1) = true := decide_eq_true c8
   clear c8
   obtain rfl := Option.some.inj H
   go_enter Try.func13, Try.ntmps13
   go_wp2_with (first | ((with_reducible refine gate_dst (N := 2) rfl ?_); refine box_event ?hg (N := 2) ?hd (cs := #[.int .i64 a0_0, .slice A0_1 l0_1.length c0_1]) (t := 25) ?hr ?_; (case hd => rfl); (case hg => rfl); (case hr => first | (go_simp; done) | (go_simp; rfl)); intro gb282 hg w9 hbox hb; have n0_ := Zs.mk (bSp zq2 hb); have n1_ := Zs.mk (hbox); have n2_ := Zs.mk ((by rw [hg]; exact (bSz zq2) : w.heap.size ≤ gb282)); have n3_ := Zs.mk ((by rw [hg]; exact (bSz zq2) : w.heap.size ≤ gb282)); clear HB; have HB := n0_; have BK282 := n1_; have GW282 := n2_; have GE282 := n3_; clear n0_ n1_ n2_ n3_; clear hb hbox hg; have hcz10_0 : w9.cell? ⟨gb282, 0, none⟩ = some (.int .i64 a0_0) := (kCe BK282.out 0).trans rfl; have hcz10_1 : w9.cell? ⟨gb282, 1, none⟩ = some (.slice A0_1 l0_1.length c0_1) := (kCe BK282.out 1).trans rfl; have hfz10_0 := kFr BK282.out 0; have hfz10_1 := kFr BK282.out 1) | ((with_reducible refine gate_callee (f := 52) rfl ?_); refine goesL_ (some 7) rfl rfl Try.func52 zq6 rfl #[.agg #[.int .i64 a0_0, .slice A0_1 l0_1.length c0_1]] rfl zq1 ?_; (with_reducible refine (impl_SightMany.calls k a0_0 _ _ l0_1 t283 _ ?side1 ?side2 A3.out).mono ?_); (case side1 => repeat (first | exact (Kd.C_below HR0_1.out HB.out) | (with_reducible refine Kd.C_alloc ?_ _) | (with_reducible refine Kd.C_drewN ?_ _) | (with_reducible refine Kd.C_drew ?_))); (case side2 => exact HC0_1.out); rintro e w11 ⟨rfl, hb⟩; refine ⟨_, rfl, ?_⟩; have n0_ := Zs.mk (kBe (g := gb282) (o := .cells #[.int .i64 a0_0, .slice A0_1 l0_1.length c0_1] 25 (0, 0)) zq82 hb); have n1_ := Zs.mk (bSp zq71 hb); clear BK282; clear HB; have BK282 := n0_; have HB := n1_; clear n0_ n1_; (try clear hb); (try clear hb2); (try clear hk); (try clear hi)))
   go_ret
   exact ⟨by first | rfl | (simp [errW_none, errW_some] <;> rfl) | (simp [*, errW_none, errW_some] <;> rfl), by repeat (first | (with_reducible first | exact HB.out | apply bAl | apply bDN | apply bD1 | refine bSt ?_ GE282.out) | exact HB.out)⟩
  ·rw [if_neg c8] at H
   have c8b0 : decide (t283 ≤ a1) = false := decide_eq_false c8
   clear c8
   replace H := Option.bind_eq_some_iff.mp H
   obtain ⟨t284, A120, H⟩ := H
   replace H : (if t283 = 0 then (none) else (some (Int.tmod (wrap64 (a1 + t284)) t283))) = some r := H
   have A12 := Zs.mk A120
   clear A120
   by_cases c13 : t283 = 0
   ·rw [if_pos c13] at H
    exact absurd H zq58
   ·rw [if_neg c13] at H
    have c13b0 : (t283 == 0) = false := beq_eq_false_iff_ne.mpr c13
    have c13b1 : (t283 != 0) = true := bne_iff_ne.mpr c13
    obtain rfl := Option.some.inj H
    go_enter Try.func13, Try.ntmps13
    go_wp2_with (first | ((with_reducible refine gate_dst (N := 2) rfl ?_); refine box_event ?hg (N := 2) ?hd (cs := #[.int .i64 a0_0, .slice A0_1 l0_1.length c0_1]) (t := 25) ?hr ?_; (case hd => rfl); (case hg => rfl); (case hr => first | (go_simp; done) | (go_simp; rfl)); intro gb282 hg w14 hbox hb; have n0_ := Zs.mk (bSp zq2 hb); have n1_ := Zs.mk (hbox); have n2_ := Zs.mk ((by rw [hg]; exact (bSz zq2) : w.heap.size ≤ gb282)); have n3_ := Zs.mk ((by rw [hg]; exact (bSz zq2) : w.heap.size ≤ gb282)); clear HB; have HB := n0_; have BK282 := n1_; have GW282 := n2_; have GE282 := n3_; clear n0_ n1_ n2_ n3_; clear hb hbox hg; have hcz15_0 : w14.cell? ⟨gb282, 0, none⟩ = some (.int .i64 a0_0) := (kCe BK282.out 0).trans rfl; have hcz15_1 : w14.cell? ⟨gb282, 1, none⟩ = some (.slice A0_1 l0_1.length c0_1) := (kCe BK282.out 1).trans rfl; have hfz15_0 := kFr BK282.out 0; have hfz15_1 := kFr BK282.out 1) | ((with_reducible refine gate_callee (f := 52) rfl ?_); refine goesL_ (some 7) rfl rfl Try.func52 zq6 rfl #[.agg #[.int .i64 a0_0, .slice A0_1 l0_1.length c0_1]] rfl zq1 ?_; (with_reducible refine (impl_SightMany.calls k a0_0 _ _ l0_1 t283 _ ?side1 ?side2 A3.out).mono ?_); (case side1 => repeat (first | exact (Kd.C_below HR0_1.out HB.out) | (with_reducible refine Kd.C_alloc ?_ _) | (with_reducible refine Kd.C_drewN ?_ _) | (with_reducible refine Kd.C_drew ?_))); (case side2 => exact HC0_1.out); rintro e w16 ⟨rfl, hb⟩; refine ⟨_, rfl, ?_⟩; have n0_ := Zs.mk (kBe (g := gb282) (o := .cells #[.int .i64 a0_0, .slice A0_1 l0_1.length c0_1] 25 (0, 0)) zq82 hb); have n1_ := Zs.mk (bSp zq71 hb); clear BK282; clear HB; have BK282 := n0_; have HB := n1_; clear n0_ n1_; (try clear hb); (try clear hb2); (try clear hk); (try clear hi); have hcz17_0 : w16.cell? ⟨gb282, 0, none⟩ = some (.int .i64 a0_0) := (kCe BK282.out 0).trans rfl; have hcz17_1 : w16.cell? ⟨gb282, 1, none⟩ = some (.slice A0_1 l0_1.length c0_1) := (kCe BK282.out 1).trans rfl; have hfz17_0 := kFr BK282.out 0; have hfz17_1 := kFr BK282.out 1) | ((with_reducible refine gate_callee (f := 49) rfl ?_); refine goesL_ (some 17) rfl rfl Try.func49 zq6 rfl #[.agg #[.int .i64 a0_0, .slice A0_1 l0_1.length c0_1]] rfl zq1 ?_; (with_reducible refine (impl_gridRows.calls a0_0 _ _ l0_1 t284 _ ?side1 ?side2 A12.out).mono ?_); (case side1 => repeat (first | exact (Kd.C_below HR0_1.out HB.out) | (with_reducible refine Kd.C_alloc ?_ _) | (with_reducible refine Kd.C_drewN ?_ _) | (with_reducible refine Kd.C_drew ?_))); (case side2 => exact HC0_1.out); rintro e w18 ⟨rfl, hb⟩; refine ⟨_, rfl, ?_⟩; have n0_ := Zs.mk (kBe (g := gb282) (o := .cells #[.int .i64 a0_0, .slice A0_1 l0_1.length c0_1] 25 (0, 0)) zq82 hb); have n1_ := Zs.mk (bSp zq71 hb); clear BK282; clear HB; have BK282 := n0_; have HB := n1_; clear n0_ n1_; (try clear hb); (try clear hb2); (try clear hk); (try clear hi)))
    go_ret
    exact ⟨by first | rfl | (simp [errW_none, errW_some] <;> rfl) | (simp [*, errW_none, errW_some] <;> rfl), by repeat (first | (with_reducible first | exact HB.out | apply bAl | apply bDN | apply bD1 | refine bSt ?_ GE282.out) | exact HB.out)⟩

end Go.Proofs.Ytejgohgmmndgbaa.PFnTrailTurn
--slim
