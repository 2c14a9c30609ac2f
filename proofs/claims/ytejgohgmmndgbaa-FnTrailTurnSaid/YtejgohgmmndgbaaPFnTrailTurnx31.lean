-- Written by a program of this session: the kit's print, with functions among it that were proved by hand.
import Derived.Test.YtejgohgmmndgbaaPFnTrailTurnx0
import Derived.Test.YtejgohgmmndgbaaPFnTrailTurnx30
namespace Go.Proofs.Ytejgohgmmndgbaa.PFnTrailTurn
open Go.RowKit Go.Proofs.YtejgohgmmndgbaaW.PrintWords Go.Proofs.YtejgohgmmndgbaaW.PrintLast Go.Proofs.YtejgohgmmndgbaaW.PrintMore
attribute [local go_sem] max2_int min2_int max_two min_two max_three min_three max_four min_four   -- for this text's walks alone
set_option linter.unusedVariables false
set_option linter.unusedSimpArgs false


open Go.Proofs.Ytejgohgmmndgbaa.HandA
/-! ### gridMoved -/
def movedL (l : List (S57)) (p : Nat → Nat) : List (S57) := (List.range l.length).map fun i => ⟨swpK (rd_T57 l (p i : Int)).f0, (rd_T57 l (p i : Int)).f1⟩
/-- What stands there when i cells are moved. -/
def movedTo (l : List (S57)) (p : Nat → Nat) (i : Nat) : List (S57) := (movedL l p).take i ++ List.replicate (l.length - i) ⟨0, 0⟩
theorem movedL_len (l : List (S57)) (p : Nat → Nat) : (movedL l p).length = l.length := by unfold movedL; simp
theorem movedTo_len (l : List (S57)) (p : Nat → Nat) (i : Nat) (h : i ≤ l.length) : (movedTo l p i).length = l.length := by unfold movedTo; simp [movedL_len]; omega
theorem movedTo_zero (l : List (S57)) (p : Nat → Nat) : movedTo l p 0 = List.replicate l.length ⟨0, 0⟩ := by unfold movedTo; simp
theorem movedTo_all (l : List (S57)) (p : Nat → Nat) : movedTo l p l.length = movedL l p := by unfold movedTo; rw [Nat.sub_self, ← movedL_len l p, List.take_length]; simp
theorem movedTo_set (l : List (S57)) (p : Nat → Nat) (i : Nat) (h : i < l.length) : (movedTo l p i).set i ⟨swpK (rd_T57 l (p i : Int)).f0, (rd_T57 l (p i : Int)).f1⟩ = movedTo l p (i + 1) := by
 have hl := movedL_len l p
 unfold movedTo
 have e : l.length - i = (l.length - (i + 1)) + 1 := by omega
 rw [e, List.replicate_succ, List.set_append_right _ _ (by simp; omega)]
 have e2 : i - ((movedL l p).take i).length = 0 := by simp; omega
 rw [e2, List.set_cons_zero]
 have e3 : (movedL l p).take (i + 1) = (movedL l p).take i ++ [(movedL l p)[i]'zq37] := (List.take_append_getElem zq37).symm
 rw [e3, List.append_assoc]
 congr 1
 simp [movedL]
theorem cell_keep {W W' : World} {b o : Nat} {v : Value} (h : W.cell? ⟨b, o, none⟩ = some v) (hb : Below W.heap.size W W') : W'.cell? ⟨b, o, none⟩ = some v := by
 have hlt : b < W.heap.size := by
  rcases Nat.lt_or_ge b W.heap.size with c | c
  ·exact c
  ·unfold World.cell? at h; rw [Array.getElem?_eq_none c] at h; cases h
 unfold World.cell? at h ⊢
 rw [hb.block b hlt]; exact h
theorem mf_idx_T {w h r c : Int} (w1 : 1 ≤ w) (w5 : w ≤ 5) (g5 : h ≤ 5) (r0 : 0 ≤ r) (r1 : r < w) (c0 : 0 ≤ c) (c1 : c < h) : 0 ≤ (h - 1 - c) * w + r ∧ (h - 1 - c) * w + r < w * h := by
 have m0 : 0 ≤ (h - 1 - c) * w := Int.mul_nonneg zq37 zq37
 have m1 : (h - 1 - c + 1) * w ≤ h * w := Int.mul_le_mul_of_nonneg_right zq37 zq37
 rw [Int.add_mul, Int.one_mul] at m1
 rw [Int.mul_comm w h]; omega
theorem mf_idx_F {w h r c : Int} (w1 : 1 ≤ w) (w5 : w ≤ 5) (g5 : h ≤ 5) (r0 : 0 ≤ r) (r1 : r < h) (c0 : 0 ≤ c) (c1 : c < w) : 0 ≤ r * w + w - 1 - c ∧ r * w + w - 1 - c < w * h := by
 have m0 : 0 ≤ r * w := Int.mul_nonneg r0 zq37
 have m1 : (r + 1) * w ≤ h * w := Int.mul_le_mul_of_nonneg_right zq37 zq37
 rw [Int.add_mul, Int.one_mul] at m1
 rw [Int.mul_comm w h]; omega
set_option maxHeartbeats 8000000 in
set_option maxRecDepth 100000 in
theorem moved_T (w h : Int) (hb gb : Nat) (ad : Addr) (c : Nat) (l : List S57) (W : World) (hr : Kd.C k57 W (some ad) l.length l) (hc : l.length ≤ c) (h25 : l.length ≤ 25) (h0 : 0 < l.length) (w1 : 1 ≤ w) (w5 : w ≤ 5) (g1 : 1 ≤ h) (g5 : h ≤ 5) (hlen : (l.length : Int) = w * h)
  (e1 : W.cell? ⟨hb, 0, none⟩ = some (.int .i64 h)) (e2 : W.cell? ⟨gb, 0, none⟩ = some (.int .i64 w)) (hok : ∀ x ∈ l, (x.f0 = 7 ∧ 1 ≤ x.f1 ∧ x.f1 ≤ 9) ∨ (0 ≤ x.f0 ∧ x.f0 ≤ 6 ∧ x.f1 = 0)) :
  Calls Try.prog 50 #[.agg #[.int .i64 w, .slice (some ad) l.length c], .int .i64 h, .func (.func 51) #[] #[.pointer (some ⟨hb, 0, none⟩), .pointer (some ⟨gb, 0, none⟩)]] W fun e w' => ∃ v : Value, e = .returned (.agg #[.int .i64 h, v]) ∧ Kd.R k57 57 w' W.heap.size (fun _ => True) v (movedL l (fun i => ((h - 1 - (i : Int) % h) * w + (i : Int) / h).toNat)) ∧ Below W.heap.size W w' := by
 have HC : Zs (∀ W', Below W.heap.size W W' → Kd.C k57 W' (some ad) l.length l) := ⟨fun _ hb => Kd.C_below hr hb⟩
 have HK := Zs.mk hok
 have HL := Zs.mk hlen
 clear hr hok hlen
 go_enter Try.func50, Try.ntmps50
 go_wp2_with ((with_reducible refine gate_dst (N := 15) rfl ?_); refine Kd.R_make k57 (w0 := W) W.heap.size 57 rfl (N := 15) rfl 23 _ _ rfl (l.length : Int) rfl rfl Try.underlying23 (.agg #[.int .i64 0, .int .i64 0]) 16 infoCell rfl zq31 zq37 (⟨0, 0⟩ : S57) (ok := fun _ => True) (okp := fun _ => True) (k57_mkM _ _ _ (⟨0, 0⟩ : S57)) (fun _ hk => hk) trivial zq37 zq37 (by repeat (first | assumption | exact Below.refl _ _ | refine Below.drew ?_ | refine bDN ?_ _ | refine Below.setCell ?_ (by first | (simp; done) | (simp; omega) | omega) _ | refine Below.alloc ?_ zq5 _)) (by simp; omega) ?_; intro v4 w4 hR hB hg hob; rw [show ((l.length : Int)).toNat = l.length from by omega] at hR; have HO := Zs.mk hR; have hB4 := Zs.mk hB; have K0 := Zs.mk ((hg.block W.heap.size (by simp; omega) zq58).trans (one_new W _ _)); have K1 := Zs.mk ((hg.block (W.heap.size + 1) zq58 zq58).trans (last_new W _ _)); clear hg hob hB; obtain ⟨g, cap, ev, hgb, hgl, cl, hgc⟩ := Kd.R_form hR (by simp; omega); rw [List.length_replicate] at ev; clear hR hgl hgc; subst ev)
 have X0 := Zs.mk (kAl K0.out (.cells #[.int .i64 h, .slice (some ⟨g, 0, none⟩) l.length cap] 25 (0, 0)))
 have X1 := Zs.mk (kAl K1.out (.cells #[.int .i64 h, .slice (some ⟨g, 0, none⟩) l.length cap] 25 (0, 0)))
 have X2 := Zs.mk (blk_new w4 (.cells #[.int .i64 h, .slice (some ⟨g, 0, none⟩) l.length cap] 25 (0, 0)))
 have X3 := Zs.mk (Kd.R_alloc HO.out (.cells #[.int .i64 h, .slice (some ⟨g, 0, none⟩) l.length cap] 25 (0, 0)))
 have X4 := Zs.mk (hB4.out.alloc hB4.out.size (.cells #[.int .i64 h, .slice (some ⟨g, 0, none⟩) l.length cap] 25 (0, 0)))
 generalize w4.alloc (.cells #[.int .i64 h, .slice (some ⟨g, 0, none⟩) l.length cap] 25 (0, 0)) = wX at X0 X1 X2 X3 X4 ⊢
 generalize w4.heap.size = gp at X2 ⊢
 have HG := Zs.mk hgb
 clear K0 K1 HO hB4 hgb
 go_loopg [20] l.length (fun kq v20 w' => ∃ i : Nat, v20 = .int .i64 (i : Int) ∧ Zs (i + kq = l.length) ∧ Zs (w'.heap[W.heap.size]? = some (.cells #[.int .i64 w, .slice (some ad) l.length c] 25 (0, 0))) ∧ Zs (w'.heap[W.heap.size + 1]? = some (.cells #[.int .i64 0, .slice none 0 0] 25 (0, 0))) ∧ Zs (w'.heap[gp]? = some (.cells #[.int .i64 h, .slice (some ⟨g, 0, none⟩) l.length cap] 25 (0, 0))) ∧ Zs (Kd.R k57 57 w' W.heap.size (fun _ => True) (.slice (some ⟨g, 0, none⟩) l.length cap) (movedTo l (fun i => ((h - 1 - (i : Int) % h) * w + (i : Int) / h).toNat) i)) ∧ Zs (Below W.heap.size W w'))
 case atStart => exact ⟨0, rfl, ⟨by omega⟩, X0, X1, X2, ⟨by rw [movedTo_zero]; exact X3.out⟩, X4⟩
 case round =>
  clear X0 X1 X2 X3 X4
  obtain ⟨i, rfl, HI, X0, X1, X2, X3, X4⟩ := hrel
  cases gk with
  | zero =>
   have hi := HI.out
   have hd : decide ((i : Int) < (l.length : Int)) = false := decide_eq_false zq37
   have hd' : decide (i < l.length) = false := decide_eq_false zq37
   have y2 : wr.cell? ⟨gp, 0, none⟩ = some (.int .i64 h) := (kCe X2.out 0).trans rfl
   have y3 : wr.cell? ⟨gp, 1, none⟩ = some (.slice (some ⟨g, 0, none⟩) l.length cap) := (kCe X2.out 1).trans rfl
   have y4 : wr.cell? ⟨W.heap.size + 1, 0, none⟩ = some (.int .i64 0) := (kCe X1.out 0).trans rfl
   have y5 : wr.cell? ⟨W.heap.size + 1, 1, none⟩ = some (.slice none 0 0) := (kCe X1.out 1).trans rfl
   have y6 := kFr X1.out 0
   have y7 := kFr X1.out 1
   have hil : i = l.length := by omega
   have n1 : W.heap.size + 1 ≠ g := fun e => R_ne_blk X3.out X1.out zq31 (by rw [e]; rfl)
   have hn1 : (Value.slice (some ⟨g, 0, none⟩) l.length cap).ownBlock ≠ some (W.heap.size + 1) := fun e => by cases e; exact n1 rfl
   have HR := Zs.mk (show Kd.R k57 57 wr W.heap.size (fun _ => True) (.slice (some ⟨g, 0, none⟩) l.length cap) (movedL l (fun i => ((h - 1 - (i : Int) % h) * w + (i : Int) / h).toNat)) by have h := X3.out; rw [hil, movedTo_all] at h; exact h)
   clear hi hil
   go_wp2
   refine bodyPost_ret (v := .agg #[.int .i64 h, .slice (some ⟨g, 0, none⟩) l.length cap]) (by simp [results, Try.results50, go_sem, y4, y5]) rfl ?_
   exact ⟨_, rfl, R_setne k57_flat (R_setne k57_flat HR.out hn1) hn1, (X4.out.setCell (show W.heap.size ≤ W.heap.size + 1 by omega) _).setCell (show W.heap.size ≤ W.heap.size + 1 by omega) _⟩
  | succ k1 =>
   have hi := HI.out
   have hd : decide ((i : Int) < (l.length : Int)) = true := decide_eq_true zq37
   have hd' : decide (i < l.length) = true := decide_eq_true zq37
   have x1 : wr.cell? ⟨W.heap.size, 1, none⟩ = some (.slice (some ad) l.length c) := (kCe X0.out 1).trans rfl
   have hlen := HL.out
   have hil : (i : Int) < w * h := by rw [← hlen]; omega
   have r0 : 0 ≤ (i : Int) / h := Int.ediv_nonneg zq37 zq37
   have r1 : (i : Int) / h < w := Int.ediv_lt_of_lt_mul zq37 (by first | exact hil | (rw [Int.mul_comm]; exact hil))
   have c0 : 0 ≤ (i : Int) % h := Int.emod_nonneg _ zq37
   have c1 : (i : Int) % h < h := Int.emod_lt_of_pos _ zq37
   have p0 : 0 ≤ (h - 1 - (i : Int) % h) * w + (i : Int) / h := (mf_idx_T w1 w5 g5 r0 r1 c0 c1).1
   have p1 : (h - 1 - (i : Int) % h) * w + (i : Int) / h < (l.length : Int) := (by rw [hlen]; exact (mf_idx_T w1 w5 g5 r0 r1 c0 c1).2)
   obtain ⟨ad2, ea, hx0, hx1⟩ := at_T57 (HC.out _ X4.out) ((h - 1 - (i : Int) % h) * w + (i : Int) / h) p0 p1
   cases ea
   have HI0 := Zs.mk p0
   have HI1 := Zs.mk p1
   have HD := Zs.mk hd'
   have q0 := eq_true p0
   have hrow : IntKind.i64.wrap ((i : Int) / h) = (i : Int) / h := by rw [i64_w]; exact mf_w64 zq37 zq37
   have hcol : (i : Int).tmod h = (i : Int) % h := Int.tmod_eq_emod_of_nonneg zq37
   have hz : (h == 0) = false := by simp; omega
   have hz' : ¬ h = 0 := by omega
   have q1 := eq_true p1
   have q3 : wr.drew.cell? ⟨hb, 0, none⟩ = some (.int .i64 h) := cell_keep e1 (Below.drew X4.out)
   have q2 : wr.drew.cell? ⟨gb, 0, none⟩ = some (.int .i64 w) := cell_keep e2 (Below.drew X4.out)
   have hT := Zs.mk (from_T w h ((i : Int) / h) ((i : Int) % h) hb gb wr.drew q3 q2 w1 w5 g5 r0 r1 c0 c1)
   generalize hix : (h - 1 - (i : Int) % h) * w + (i : Int) / h = ix at hT q0 q1 hx0 hx1 HI0 HI1
   clear hi hlen hil p0 p1
   go_wp2
   go_region_held3 (fun w' => w'.cell? ⟨W.heap.size, 1, none⟩ = some (.slice (some ad) l.length c) ∧ w'.cell? (ad.add (ix.toNat * 2)) = some (.int .i64 (rd_T57 l ix).f0) ∧ w'.cell? ⟨(ad.add (ix.toNat * 2)).block, (ad.add (ix.toNat * 2)).off + 1, none⟩ = some (.int .i64 (rd_T57 l ix).f1)) (first | exact ⟨x1, hx0, hx1⟩ | exact ⟨u1, u2, u3⟩ | go_keep) (first | (go_at_call 51; refine hT.out.mono ?_; rintro e w2 ⟨rfl, rfl⟩) | (go_at_call 78; refine (CellA.ct_any _ _ _).mono ?_; rintro e w3 ⟨rfl, hb3⟩; have u1 := pw_cell_below hb3 (by exact x1); have u2 := pw_cell_below hb3 (by exact hx0); have u3 := pw_cell_below hb3 (by exact hx1); have Z0 := Zs.mk (kBe (kDr X0.out) hb3); have Z1 := Zs.mk (kBe (kDr X1.out) hb3); have Z2 := Zs.mk (kBe (kDr X2.out) hb3); have Z3 := Zs.mk (Kd.R_below (Kd.R_drew X3.out) hb3); have Z4 := Zs.mk (bSp (Below.drew X4.out) hb3); clear hb3))
   obtain ⟨j, hj⟩ := Int.eq_ofNat_of_zero_le HI0.out
   have hjl : j < l.length := by have := HI1.out; omega
   have hk := HK.out _ (List.getElem_mem hjl)
   have he : rd_T57 l ix = l[j] := by rw [hj]; unfold rd_T57; rw [Int.toNat_natCast, List.getD_eq_getElem?_getD, List.getElem?_eq_getElem hjl, Option.getD_some]
   rw [← he] at hk
   have hd2 := HD.out
   generalize hxx : (rd_T57 l ix).f0 = xx at hk u2 ⊢
   generalize hyy : (rd_T57 l ix).f1 = yy at hk u3 ⊢
   have hct : CellA.ctOk xx yy = true := by
    unfold CellA.ctOk
    rcases hk with ⟨a, b, c⟩ | ⟨a, b, c⟩
    ·rw [if_pos a]; simp; omega
    ·rw [if_neg zq37]; simp; omega
   have t1 : w3.cell? ⟨gp, 1, none⟩ = some (.slice (some ⟨g, 0, none⟩) l.length cap) := (kCe Z2.out 1).trans rfl
   have p5' : (0 : Int) ≤ (i : Int) := by omega
   have q5' : (i : Int) < (l.length : Int) := by have := HI.out; omega
   have pp := eq_true p5'
   have qq := eq_true q5'
   have qn : (i < l.length) = True := eq_true zq37
   clear u1 u2 u3 x1 hx0 hx1 hj he
   rw [hct]
   go_wp2
   go_region_held3 (fun w' => w'.cell? ⟨gp, 1, none⟩ = some (.slice (some ⟨g, 0, none⟩) l.length cap)) (first | exact t1 | exact t2 | exact t3 | go_keep) (first | (go_at_call 79; refine (swapped_any hk _).mono ?_; rintro e w5 ⟨rfl, hb5⟩; have t2 := pw_cell_below hb5 (by exact t1); have Y0 := Zs.mk (kBe (kDr Z0.out) hb5); have Y1 := Zs.mk (kBe (kDr Z1.out) hb5); have Y2 := Zs.mk (kBe (kDr Z2.out) hb5); have Y3 := Zs.mk (Kd.R_below (Kd.R_drew Z3.out) hb5); have Y4 := Zs.mk (bSp (Below.drew Z4.out) hb5); clear hb5; obtain ⟨ce, hcl, hM, hcc, hfr⟩ := Kd.R_elem Y3.out z57 (i : Int) p5' q5'; obtain rfl := k57_openM hM; have h0' : w5.cell? ⟨g, i * 2, none⟩ = some _ := hcc 0 _ rfl; have h1' : w5.cell? ⟨g, i * 2 + 1, none⟩ = some _ := hcc 1 _ rfl; have f0' : w5.frozen? ⟨g, i * 2, none⟩ = false := hfr 0; have f1' : w5.frozen? ⟨g, i * 2 + 1, none⟩ = false := hfr 1; have ng : gp ≠ g := fun e => R_ne_blk Y3.out Y2.out zq31 (by rw [e]; rfl); have T2 := Zs.mk (blk_far (blk_far Y2.out (p := ⟨g, i * 2, none⟩) ng (.int .i64 (swpK xx))) (p := ⟨g, i * 2 + 1, none⟩) ng (.int .i64 yy)); have t3 : ((w5.setCell ⟨g, i * 2, none⟩ (.int .i64 (swpK xx))).setCell ⟨g, i * 2 + 1, none⟩ (.int .i64 yy)).cell? ⟨gp, 1, none⟩ = some (.slice (some ⟨g, 0, none⟩) l.length cap) := (kCe T2.out 1).trans rfl))
   have n0 : W.heap.size ≠ g := fun e => R_ne_blk Y3.out Y0.out zq31 (by rw [e]; rfl)
   have n1 : W.heap.size + 1 ≠ g := fun e => R_ne_blk Y3.out Y1.out zq31 (by rw [e]; rfl)
   have A0 := Zs.mk (blk_far (blk_far Y0.out (p := ⟨g, i * 2, none⟩) n0 (.int .i64 (swpK xx))) (p := ⟨g, i * 2 + 1, none⟩) n0 (.int .i64 yy))
   have A1 := Zs.mk (blk_far (blk_far Y1.out (p := ⟨g, i * 2, none⟩) n1 (.int .i64 (swpK xx))) (p := ⟨g, i * 2 + 1, none⟩) n1 (.int .i64 yy))
   have HP := (Kd.R_seg Y3.out (i : Int) p5' q5' (seg := [.int .i64 (swpK xx), .int .i64 yy]) (j := 0) hcl hcc (show 2 ≤ 2 from by decide) (x' := (⟨swpK xx, yy⟩ : S57)) (k57_mkM _ _ _ (⟨swpK xx, yy⟩ : S57)) (fun _ hk => hk)).1
   have hps : (((((h - 1 - (i : Int) % h) * w + (i : Int) / h).toNat : Nat)) : Int) = ix := by rw [hix]; exact Int.toNat_of_nonneg HI0.out
   have hst := movedTo_set l (fun i => ((h - 1 - (i : Int) % h) * w + (i : Int) / h).toNat) i zq37
   simp only [hps, hxx, hyy] at hst
   rw [Int.toNat_natCast, hst] at HP
   have A3 := Zs.mk (show Kd.R k57 57 ((w5.setCell ⟨g, i * 2, none⟩ (.int .i64 (swpK xx))).setCell ⟨g, i * 2 + 1, none⟩ (.int .i64 yy)) W.heap.size (fun _ => True) (.slice (some ⟨g, 0, none⟩) l.length cap) (movedTo l (fun i => ((h - 1 - (i : Int) % h) * w + (i : Int) / h).toNat) (i + 1)) from HP)
   have A4 := Zs.mk ((Y4.out.setCell HG.out (.int .i64 (swpK xx)) (p := ⟨g, i * 2, none⟩)).setCell HG.out (.int .i64 yy) (p := ⟨g, i * 2 + 1, none⟩))
   clear HP hst t3 h0' h1' f0' f1' hfr hcc hcl hM
   go_wp2
   go_roundg k1
   case measure => omega
   case rel => exact ⟨i + 1, (by first | rfl | (simp; done)), ⟨by have := HI.out; omega⟩, A0, A1, T2, A3, A4⟩

end Go.Proofs.Ytejgohgmmndgbaa.PFnTrailTurn
--slim
