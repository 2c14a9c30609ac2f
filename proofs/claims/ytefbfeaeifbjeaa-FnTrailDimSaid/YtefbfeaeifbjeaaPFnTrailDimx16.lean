-- Written by a program of this session: the kit's print, with functions among it that were proved by hand.
import Derived.Test.YtefbfeaeifbjeaaPFnTrailDimx0
import Derived.Test.YtefbfeaeifbjeaaPFnTrailDimx2
import Derived.Test.YtefbfeaeifbjeaaPFnTrailDimx3
namespace Go.Proofs.Ytefbfeaeifbjeaa.PFnTrailDim
open Go.RowKit Go.Proofs.YtefbfeaeifbjeaaW.PrintWords Go.Proofs.YtefbfeaeifbjeaaW.PrintLast Go.Proofs.YtefbfeaeifbjeaaW.PrintMore
attribute [local go_sem] max2_int min2_int max_two min_two max_three min_three max_four min_four   -- for this text's walks alone
set_option linter.unusedVariables false
set_option linter.unusedSimpArgs false

open Go.Proofs.Ytefbfeaeifbjeaa.HandA
/-! ### gridCopy -/
theorem k57_flat : Flat k57 := fun _ _ _ _ _ _ with_reducible_ cs h => by rw [k57_openM h]; exact k57_mkM _ _ _ with_reducible_
theorem infoCell : (Try.prog.info? 57).map (fun i => (i.zero, i.size, i.bytes)) = some (some (.agg #[.int .i64 0, .int .i64 0]), 2, 16) := by kernel_rfl
set_option maxHeartbeats 4000000 in
set_option maxRecDepth 100000 in
theorem clone_some (ad : Addr) (c : Nat) (l : List S57) (W : World) (hr : Kd.C k57 W (some ad) l.length l) (hl : l.length ≤ 1000) :
  Calls Try.prog 77 #[.slice (some ad) l.length c] W fun e w' => ∃ v : Value, e = .returned v ∧ Kd.R k57 57 w' W.heap.size (fun _ => True) v l ∧ Below W.heap.size W w' := by
 have he : ∀ w : World, (binOp BinOp.eql 23 (.slice (some ad) l.length c) (.slice none 0 0)).run Try.prog w = .ok (.bool false) w := fun _ => by kernel_rfl
 go_enter Try.func77, Try.ntmps77
 go_wp2_with (at_builtin; refine Kd.R_append_rows k57 (Rr := k57.K (W.alloc (.cells #[] 57 (0, 0)))) (w0 := W) W.heap.size rfl (.tmp 5) (.tmp 6) 23 57 (.agg #[.int .i64 0, .int .i64 0]) 16 rfl Try.underlying23 infoCell rfl (by decide) (by omega) (.slice (some ⟨W.heap.size, 0, none⟩) 0 0) [] l (some ad) l.length c (fun _ => True) (fun _ => False) rfl rfl (R_lit0 (blk_new _ _) (Nat.le_refl _) trivial) (Kd.C_alloc hr _) (fun with_reducible_ cs hx => by rw [k57_open hx]; exact k57_mkM _ _ _ with_reducible_) (fun _ h => h.elim) (fun _ _ => trivial) ((Below.refl _ _).alloc (Nat.le_refl _) _) (by rw [World.size_alloc]; omega) (by simp; omega) ?_; intro v1 w1 ho hb hg hat)
 go_ret
 exact ⟨_, rfl, ho, hb⟩
set_option maxHeartbeats 4000000 in
set_option maxRecDepth 100000 in
theorem gridCopy_some (w : Int) (ad : Addr) (c : Nat) (l : List S57) (W : World) (hr : Kd.C k57 W (some ad) l.length l) (hl : l.length ≤ 1000) :
  Calls Try.prog 61 #[.agg #[.int .i64 w, .slice (some ad) l.length c]] W fun e w' => ∃ v : Value, e = .returned (.agg #[.int .i64 w, v]) ∧ Kd.R k57 57 w' W.heap.size (fun _ => True) v l ∧ Below W.heap.size W w' := by
 have HC : Zs (∀ W', Below W.heap.size W W' → Kd.C k57 W' (some ad) l.length l) := ⟨fun _ hb => Kd.C_below hr hb⟩
 clear hr
 go_enter Try.func61, Try.ntmps61
 go_wp2
 go_cut [] (fun wc => ∃ (A7 : Option Addr) (c7 : Nat), wc.heap[W.heap.size + 1]? = some (.cells #[.int .i64 w, .slice A7 l.length c7] 25 (0, 0)) ∧ Kd.R k57 57 wc W.heap.size (fun _ => True) (.slice A7 l.length c7) l ∧ Below W.heap.size W wc)
 case first =>
  go_region_with (go_at_call 77; refine (clone_some ad c l _ (HC.out _ (by repeat (first | exact Below.refl _ _ | refine Below.drew ?_ | refine bDN ?_ _ | refine Below.alloc ?_ (by first | (simp; done) | (simp; omega)) _))) hl).mono ?_; rintro e w' ⟨v, rfl, ho, hbel⟩; have bk0 : w'.heap[W.heap.size]? = some (.cells #[.int .i64 w, .slice (some ad) l.length c] 25 (0, 0)) := kBe (by exact one_new W _ _) hbel; have bk1 : w'.heap[W.heap.size + 1]? = some (.cells #[.int .i64 0, .slice none 0 0] 25 (0, 0)) := kBe (by exact last_new W _ _) hbel; have f0 := kFr bk1 0; have f1 := kFr bk1 1; have c0 : w'.cell? ⟨W.heap.size + 1, 0, none⟩ = some (.int .i64 0) := (kCe bk1 0).trans rfl; have c1 : w'.cell? ⟨W.heap.size + 1, 1, none⟩ = some (.slice none 0 0) := (kCe bk1 1).trans rfl; have g0 : w'.cell? ⟨W.heap.size, 0, none⟩ = some (.int .i64 w) := (kCe bk0 0).trans rfl; have bb : Below W.heap.size W w' := Below.trans (by repeat (first | exact Below.refl _ _ | refine Below.drew ?_ | refine bDN ?_ _ | refine Below.alloc ?_ (by first | (simp; done) | (simp; omega)) _)) (hbel.mono (by first | (simp; done) | (simp; omega))); have hne : v.ownBlock ≠ some (W.heap.size + 1) := R_ne_blk ho bk1 (by decide); have ho' : Kd.R k57 57 w' W.heap.size (fun _ => True) v l := Kd.R_lower ho (by first | (simp; done) | (simp; omega)); obtain ⟨A7, c7, rfl⟩ := Kd.R_slice ho)
  all_goals go_wp2
  all_goals go_meet
  all_goals exact ⟨A7, c7, by simpa using blk_set (blk_set bk1 0 (.int .i64 w)) 1 (.slice A7 l.length c7), R_setne k57_flat (R_setne k57_flat ho' hne) hne, (bb.setCell (show W.heap.size ≤ W.heap.size + 1 by omega) _).setCell (show W.heap.size ≤ W.heap.size + 1 by omega) _⟩
 case rest =>
  obtain ⟨A7, c7, bk, ho, hb⟩ := hcut
  have c0 := (kCe bk 0).trans rfl
  have c1 := (kCe bk 1).trans rfl
  go_wp2
  refine bodyPost_ret (v := .agg #[.int .i64 w, .slice A7 l.length c7]) (by simp [results, Try.results61, go_sem, c0, c1]) rfl ⟨_, rfl, ho, hb⟩


open Go.Proofs.Ytefbfeaeifbjeaa.HandA
/-! ### impl_GridPut: function 29 -/
def impl_GridPut.f (k : Nat) (a0_0 : Int) (l0_1 : List (S57)) (a1 : Int) (a2_0 : Int) (a2_1 : Int) : Option (Int × (List (S57)) × Bool) :=
 (impl_GridOk.f k a0_0 l0_1).bind fun ok => if ok = true ∧ impl_CellOk.f a2_0 a2_1 = some true ∧ 0 ≤ a1 ∧ a1 < (l0_1.length : Int) ∧ l0_1.length ≤ 1000 then some (a0_0, l0_1.set a1.toNat ⟨a2_0, a2_1⟩, true) else none
theorem impl_GridPut.mono : ∀ a0 a1 a2 a3 a4 k, LeO (impl_GridPut.f k a0 a1 a2 a3 a4) (impl_GridPut.f (k + 1) a0 a1 a2 a3 a4) := by
 intro a0 a1 a2 a3 a4 k
 unfold impl_GridPut.f
 exact LeO.bind (impl_GridOk.mono _ _ _) fun _ => LeO.refl _
set_option maxHeartbeats 8000000 in
set_option maxRecDepth 100000 in
theorem gridPut_in (k : Nat) (w : Int) (ad : Addr) (c : Nat) (l : List S57) (a1 with_reducible_ y : Int) (W : World) (hr : Kd.C k57 W (some ad) l.length l) (hc : l.length ≤ c) (hok : impl_GridOk.f k w l = some true) (hcell : impl_CellOk.f with_reducible_ y = some true) (p5 : decide (a1 < 0) = false) (q5 : decide ((l.length : Int) ≤ a1) = false) (hl : l.length ≤ 1000) (hpos : 0 < l.length) :
  Calls Try.prog 29 #[.agg #[.int .i64 w, .slice (some ad) l.length c], .int .i64 a1, .agg #[.int .i64 with_reducible_, .int .i64 y]] W fun e w' => ∃ v1_ : Value, e = .returned (.tuple #[.agg #[.int .i64 w, v1_], .bool true]) ∧ Kd.R k57 57 w' W.heap.size (fun _ => True) v1_ (l.set a1.toNat ⟨with_reducible_, y⟩) ∧ Below W.heap.size W w' := by
 have HC : Zs (∀ W', Below W.heap.size W W' → Kd.C k57 W' (some ad) l.length l) := ⟨fun _ hb => Kd.C_below hr hb⟩
 have HO := Zs.mk hok
 have HE := Zs.mk hcell
 clear hr hok hcell
 go_enter Try.func29, Try.ntmps29
 go_upto_region 4 with (first | (go_at_call 47; refine (impl_GridOk.calls k w (some ad) c l true _ (HC.out _ (by repeat (first | exact Below.refl _ _ | refine Below.alloc ?_ (by first | (simp; done) | (simp; omega)) _))) hc HO.out).mono ?_; rintro e w' ⟨rfl, hbel⟩; have bk0 : w'.heap[W.heap.size]? = some (.cells #[.int .i64 w, .slice (some ad) l.length c] 25 (0, 0)) := kBe (by exact one_new3 W _ _ _) hbel; have bk1 : w'.heap[W.heap.size + 1]? = some (.cells #[.int .i64 with_reducible_, .int .i64 y] 57 (0, 0)) := kBe (by exact two_new W _ _ _) hbel; have bk2 : w'.heap[W.heap.size + 1 + 1]? = some (.cells #[.int .i64 0, .slice none 0 0] 25 (0, 0)) := kBe (by exact three_new W _ _ _) hbel; have bb : Below W.heap.size W w' := Below.trans (by repeat (first | exact Below.refl _ _ | refine Below.alloc ?_ (by first | (simp; done) | (simp; omega)) _)) (hbel.mono (by first | (simp; done) | (simp; omega))); clear hbel; have c0 : w'.cell? ⟨W.heap.size + 1, 0, none⟩ = some (.int .i64 with_reducible_) := (kCe bk1 0).trans rfl; have c1 : w'.cell? ⟨W.heap.size + 1, 1, none⟩ = some (.int .i64 y) := (kCe bk1 1).trans rfl) | (go_at_call 60; refine (impl_CellOk.calls with_reducible_ y true _ HE.out).mono ?_; rintro e w1 ⟨rfl, hb1⟩; have B0 := Zs.mk (kBe bk0 hb1); have B1 := Zs.mk (kBe bk1 hb1); have B2 := Zs.mk (kBe bk2 hb1); have bb1 : Below W.heap.size W w1 := Below.trans bb (hb1.mono bb.size); clear hb1 c0 c1 bk0 bk1 bk2; have g0 : w1.cell? ⟨W.heap.size, 0, none⟩ = some (.int .i64 w) := (kCe B0.out 0).trans rfl; have g1 : w1.cell? ⟨W.heap.size, 1, none⟩ = some (.slice (some ad) l.length c) := (kCe B0.out 1).trans rfl) | (go_at_call 61; refine (gridCopy_some w ad c l _ (HC.out _ bb1) hl).mono ?_; rintro e w2 ⟨v, rfl, ho2, hb2⟩; have D0 := Zs.mk (kBe B0.out hb2); have D1 := Zs.mk (kBe B1.out hb2); have D2 := Zs.mk (kBe B2.out hb2); have bb2 : Below W.heap.size W w2 := Below.trans bb1 (hb2.mono bb1.size); have HO2 := Zs.mk (Kd.R_lower ho2 bb1.size); clear hb2 ho2 g0 g1; obtain ⟨g, cap, ev, hgb, hgl, cl, hgc⟩ := Kd.R_form HO2.out hpos; subst ev))
 have p5' : 0 ≤ a1 := by have := of_decide_eq_false p5; omega
 have q5' : a1 < (l.length : Int) := by have := of_decide_eq_false q5; omega
 have X0 := Zs.mk (kAl D1.out (.cells #[.int .i64 w, .slice (some ⟨g, 0, none⟩) l.length cap] 25 (0, 0)))
 have X1 := Zs.mk (kAl D2.out (.cells #[.int .i64 w, .slice (some ⟨g, 0, none⟩) l.length cap] 25 (0, 0)))
 have X2 := Zs.mk (blk_new w2 (.cells #[.int .i64 w, .slice (some ⟨g, 0, none⟩) l.length cap] 25 (0, 0)))
 have X3 := Zs.mk (Kd.R_alloc HO2.out (.cells #[.int .i64 w, .slice (some ⟨g, 0, none⟩) l.length cap] 25 (0, 0)))
 have X4 := Zs.mk (bb2.alloc bb2.size (.cells #[.int .i64 w, .slice (some ⟨g, 0, none⟩) l.length cap] 25 (0, 0)))
 generalize w2.alloc (.cells #[.int .i64 w, .slice (some ⟨g, 0, none⟩) l.length cap] 25 (0, 0)) = wX at X0 X1 X2 X3 X4 ⊢
 generalize w2.heap.size = gp at X2 ⊢
 have n2 : gp ≠ g := fun e => R_ne_blk X3.out X2.out (by decide) (by rw [e]; rfl)
 have n1 : W.heap.size + 1 + 1 ≠ g := fun e => R_ne_blk X3.out X1.out (by decide) (by rw [e]; rfl)
 have u0 : wX.cell? ⟨W.heap.size + 1, 0, none⟩ = some (.int .i64 with_reducible_) := (kCe X0.out 0).trans rfl
 have u1 : wX.cell? ⟨W.heap.size + 1, 1, none⟩ = some (.int .i64 y) := (kCe X0.out 1).trans rfl
 have u2 : wX.cell? ⟨gp, 0, none⟩ = some (.int .i64 w) := (kCe X2.out 0).trans rfl
 have u3 : wX.cell? ⟨gp, 1, none⟩ = some (.slice (some ⟨g, 0, none⟩) l.length cap) := (kCe X2.out 1).trans rfl
 obtain ⟨ce, hcl, hM, hcc, hfr⟩ := Kd.R_elem X3.out z57 a1 p5' q5'
 obtain rfl := k57_openM hM
 have HP := (Kd.R_seg X3.out a1 p5' q5' (seg := [.int .i64 with_reducible_, .int .i64 y]) (j := 0) hcl hcc (show 2 ≤ 2 from by decide) (x' := (⟨with_reducible_, y⟩ : S57)) (k57_mkM _ _ _ (⟨with_reducible_, y⟩ : S57)) (fun _ hk => hk)).1
 have h0 : wX.cell? ⟨g, a1.toNat * 2, none⟩ = some (.int .i64 (rd_T57 l a1).f0) := hcc 0 _ rfl
 have h1 : wX.cell? ⟨g, a1.toNat * 2 + 1, none⟩ = some (.int .i64 (rd_T57 l a1).f1) := hcc 1 _ rfl
 have f0 : wX.frozen? ⟨g, a1.toNat * 2, none⟩ = false := hfr 0
 have f1 : wX.frozen? ⟨g, a1.toNat * 2 + 1, none⟩ = false := hfr 1
 have HP := Zs.mk (show Kd.R k57 57 ((wX.setCell ⟨g, a1.toNat * 2, none⟩ (.int .i64 with_reducible_)).setCell ⟨g, a1.toNat * 2 + 1, none⟩ (.int .i64 y)) W.heap.size (fun _ => True) (.slice (some ⟨g, 0, none⟩) l.length cap) (l.set a1.toNat ⟨with_reducible_, y⟩) from HP)
 have Y2 := blk_far (blk_far X2.out (p := ⟨g, a1.toNat * 2, none⟩) n2 (.int .i64 with_reducible_)) (p := ⟨g, a1.toNat * 2 + 1, none⟩) n2 (.int .i64 y)
 have Y1 := blk_far (blk_far X1.out (p := ⟨g, a1.toNat * 2, none⟩) n1 (.int .i64 with_reducible_)) (p := ⟨g, a1.toNat * 2 + 1, none⟩) n1 (.int .i64 y)
 have y2 : ((wX.setCell ⟨g, a1.toNat * 2, none⟩ (.int .i64 with_reducible_)).setCell ⟨g, a1.toNat * 2 + 1, none⟩ (.int .i64 y)).cell? ⟨gp, 0, none⟩ = some (.int .i64 w) := (kCe Y2 0).trans rfl
 have y3 : ((wX.setCell ⟨g, a1.toNat * 2, none⟩ (.int .i64 with_reducible_)).setCell ⟨g, a1.toNat * 2 + 1, none⟩ (.int .i64 y)).cell? ⟨gp, 1, none⟩ = some (.slice (some ⟨g, 0, none⟩) l.length cap) := (kCe Y2 1).trans rfl
 have y4 : ((wX.setCell ⟨g, a1.toNat * 2, none⟩ (.int .i64 with_reducible_)).setCell ⟨g, a1.toNat * 2 + 1, none⟩ (.int .i64 y)).cell? ⟨W.heap.size + 1 + 1, 0, none⟩ = some (.int .i64 0) := (kCe Y1 0).trans rfl
 have y5 : ((wX.setCell ⟨g, a1.toNat * 2, none⟩ (.int .i64 with_reducible_)).setCell ⟨g, a1.toNat * 2 + 1, none⟩ (.int .i64 y)).cell? ⟨W.heap.size + 1 + 1, 1, none⟩ = some (.slice none 0 0) := (kCe Y1 1).trans rfl
 have y6 := kFr Y1 0
 have y7 := kFr Y1 1
 have HN : Zs (W.heap.size ≤ g) := ⟨hgb⟩
 have hn1 : (Value.slice (some ⟨g, 0, none⟩) l.length cap).ownBlock ≠ some (W.heap.size + 1 + 1) := fun e => by cases e; exact n1 rfl
 replace p5' := eq_true p5'
 replace q5' := eq_true q5'
 clear hcl hcc hfr hM p5 q5 Y2 Y1
 go_wp2
 refine bodyPost_ret (v := .tuple #[.agg #[.int .i64 w, .slice (some ⟨g, 0, none⟩) l.length cap], .bool true]) (by simp [results, Try.results29, go_sem, y4, y5]) rfl ?_
 exact ⟨_, rfl, R_setne k57_flat (R_setne k57_flat HP.out hn1) hn1, (((X4.out.setCell HN.out _).setCell HN.out _).setCell (show W.heap.size ≤ W.heap.size + 1 + 1 by omega) _).setCell (show W.heap.size ≤ W.heap.size + 1 + 1 by omega) _⟩
theorem impl_GridPut.calls (k : Nat) (a0_0 : Int) (A0_1 : Option Addr) (c0_1 : Nat) (l0_1 : List (S57)) (a1 : Int) (a2_0 : Int) (a2_1 : Int) (r1 : Int) (r2 : List (S57)) (r3 : Bool) (w : World) (hr0_1 : Kd.C k57 w A0_1 l0_1.length l0_1) (hc0_1 : l0_1.length ≤ c0_1) (h : impl_GridPut.f k a0_0 l0_1 a1 a2_0 a2_1 = some (r1, r2, r3)) :
  Calls Try.prog 29 #[.agg #[.int .i64 a0_0, .slice A0_1 l0_1.length c0_1], .int .i64 a1, .agg #[.int .i64 a2_0, .int .i64 a2_1]] w fun e w' => ∃ v1_ : Value, e = .returned (.tuple #[.agg #[.int .i64 r1, v1_], .bool r3]) ∧ Kd.R k57 57 w' w.heap.size (fun _ => True) v1_ r2 ∧ Below w.heap.size w w' := by
 unfold impl_GridPut.f at h
 obtain ⟨ok, hok, h⟩ := Option.bind_eq_some_iff.1 h
 by_cases h2 : ok = true ∧ impl_CellOk.f a2_0 a2_1 = some true ∧ 0 ≤ a1 ∧ a1 < (l0_1.length : Int) ∧ l0_1.length ≤ 1000
 ·rw [if_pos h2] at h; cases h
  obtain ⟨rfl, g1, g2, g3, g4⟩ := h2
  obtain ⟨ad, rfl, _, _⟩ := at_T57 hr0_1 a1 g2 g3
  exact gridPut_in k a0_0 ad c0_1 l0_1 a1 a2_0 a2_1 w hr0_1 hc0_1 hok g1 (by simpa using g2) (by simpa using g3) g4 (by omega)
 ·rw [if_neg h2] at h; cases h

end Go.Proofs.Ytefbfeaeifbjeaa.PFnTrailDim
--slim
