-- Written by a program of this session: the kit's print, with functions among it that were proved by hand.
import Derived.Test.YtejgohgmmndgbaaPFnTrailTurnx0
import Derived.Test.YtejgohgmmndgbaaPFnTrailTurnx20
namespace Go.Proofs.Ytejgohgmmndgbaa.PFnTrailTurn
open Go.RowKit Go.Proofs.YtejgohgmmndgbaaW.PrintWords Go.Proofs.YtejgohgmmndgbaaW.PrintLast Go.Proofs.YtejgohgmmndgbaaW.PrintMore
attribute [local go_sem] max2_int min2_int max_two min_two max_three min_three max_four min_four   -- for this text's walks alone
set_option linter.unusedVariables false
set_option linter.unusedSimpArgs false

open Go.Proofs.Ytejgohgmmndgbaa.HandA
/-! ### impl_sidesTold_bool -/
theorem infoBool : (Try.prog.info? 4).map (fun i => (i.zero, i.size, i.bytes)) = some (some (.bool false), 1, 1) := by kernel_rfl
theorem eqRay (d : Nat) (w : World) (x0 y0 : Int) (x1 y1 : Int) :
  (Op.equalIn (d + 2) 92 (.agg #[.int .i64 x0, .int .i64 x1]) (.agg #[.int .i64 y0, .int .i64 y1])).run Try.prog w = .ok (x0 == y0 && (x1 == y1)) w := by
 refine eqA_of Try.underlying92 zq6 ?_
 refine eqf_cons (by rfl) (by go_simp; rfl) (by go_simp; rfl) (by go_simp) ?_
 exact eqf_last (by rfl) (by go_simp; rfl) (by go_simp; rfl) (by go_simp)
def foundTo (wn hn : Nat) (a d : Int) : Nat → Int
 | 0 => -1
 | m + 1 => if ((rayAt wn hn m).1 == a && (rayAt wn hn m).2 == d) = true then (m : Int) else foundTo wn hn a d m
theorem found_step2 (wn hn j : Nat) (a d : Int) (h : j < wn) : foundTo wn hn a d (0 + (j + 1)) = if ((j : Int) == a && (2 : Int) == d) = true then ((0 + j : Nat) : Int) else foundTo wn hn a d (0 + j) := by
 rw [show 0 + (j + 1) = (0 + j) + 1 from by omega]; unfold foundTo; rw [show rayAt (wn : Int) (hn : Int) ((0 + j : Nat) : Int) = ((j : Int), 2) from by unfold rayAt; rw [if_pos zq37]; congr 1; omega]
 cases (0 + j) <;> rfl
theorem found_step3 (wn hn j : Nat) (a d : Int) (h : j < hn) : foundTo wn hn a d (wn + (j + 1)) = if ((j : Int) * (wn : Int) + (wn : Int) - 1 == a && (3 : Int) == d) = true then ((wn + j : Nat) : Int) else foundTo wn hn a d (wn + j) := by
 rw [show wn + (j + 1) = (wn + j) + 1 from by omega, foundTo]; rw [show rayAt (wn : Int) (hn : Int) ((wn + j : Nat) : Int) = ((j : Int) * (wn : Int) + (wn : Int) - 1, 3) from by unfold rayAt; rw [if_neg zq37, if_pos zq37, show (((wn + j : Nat) : Int) - (wn : Int)) = (j : Int) from by omega]]
theorem found_step0 (wn hn j : Nat) (a d : Int) (h : j < wn) : foundTo wn hn a d (wn + hn + (j + 1)) = if ((hn : Int) * (wn : Int) - 1 - (j : Int) == a && (0 : Int) == d) = true then ((wn + hn + j : Nat) : Int) else foundTo wn hn a d (wn + hn + j) := by
 rw [show wn + hn + (j + 1) = (wn + hn + j) + 1 from by omega, foundTo]; rw [show rayAt (wn : Int) (hn : Int) ((wn + hn + j : Nat) : Int) = ((hn : Int) * (wn : Int) - 1 - (j : Int), 0) from by unfold rayAt; rw [if_neg zq37, if_neg zq37, if_pos zq37, show (((wn + hn + j : Nat) : Int) - (wn : Int) - (hn : Int)) = (j : Int) from by omega]]
theorem found_step1 (wn hn j : Nat) (a d : Int) (h : j < hn) : foundTo wn hn a d (wn + hn + wn + (j + 1)) = if (((hn : Int) - 1 - (j : Int)) * (wn : Int) == a && (1 : Int) == d) = true then ((wn + hn + wn + j : Nat) : Int) else foundTo wn hn a d (wn + hn + wn + j) := by
 rw [show wn + hn + wn + (j + 1) = (wn + hn + wn + j) + 1 from by omega, foundTo]; rw [show rayAt (wn : Int) (hn : Int) ((wn + hn + wn + j : Nat) : Int) = (((hn : Int) - 1 - (j : Int)) * (wn : Int), 1) from by unfold rayAt; rw [if_neg zq37, if_neg zq37, if_neg zq37, show (((wn + hn + wn + j : Nat) : Int) - (wn : Int) - (hn : Int) - (wn : Int)) = (j : Int) from by omega]]
set_option maxHeartbeats 4000000 in
set_option maxRecDepth 100000 in
theorem tellOf_eq (bi bf : Nat) (k a d fv : Int) (W : World) (hi : W.heap[bi]? = some (.cells #[.int .i64 a, .int .i64 d] 92 (0, 0))) (hf : W.heap[bf]? = some (.cells #[.int .i64 fv] 3 (0, 0))) (hne : bi ≠ bf) :
  Calls Try.prog 118 #[.int .i64 k, .agg #[.int .i64 a, .int .i64 d], .pointer (some ⟨bi, 0, none⟩), .pointer (some ⟨bf, 0, none⟩)] W fun e w' => e = .returned (.bool true) ∧ w' = (W.setCell ⟨bf, 0, none⟩ (.int .i64 k)).alloc (.cells #[.int .i64 a, .int .i64 d] 92 (0, 0)) := by
 have q := fun w => eqRay (w := w) (d := 0) a a d d
 have B0 := kAl hi (.cells #[.int .i64 a, .int .i64 d] 92 (0, 0))
 have B1 := kAl hf (.cells #[.int .i64 a, .int .i64 d] 92 (0, 0))
 have B2 := blk_new W (.cells #[.int .i64 a, .int .i64 d] 92 (0, 0))
 have hlt : bf < W.heap.size := blk_lt hf
 have B3 := blk_far B0 (p := ⟨bf, 0, none⟩) hne (.int .i64 k)
 have B4 := blk_far B2 (p := ⟨bf, 0, none⟩) (show W.heap.size ≠ bf from by omega) (.int .i64 k)
 have c0 : (W.alloc (.cells #[.int .i64 a, .int .i64 d] 92 (0, 0))).cell? ⟨bi, 0, none⟩ = some (.int .i64 a) := (kCe B0 0).trans rfl
 have c1 : (W.alloc (.cells #[.int .i64 a, .int .i64 d] 92 (0, 0))).cell? ⟨bi, 1, none⟩ = some (.int .i64 d) := (kCe B0 1).trans rfl
 have c2 : (W.alloc (.cells #[.int .i64 a, .int .i64 d] 92 (0, 0))).cell? ⟨bf, 0, none⟩ = some (.int .i64 fv) := (kCe B1 0).trans rfl
 have f2 := kFr B1 0
 have f3 := kFr hf 0
 have d0 : W.cell? ⟨bi, 0, none⟩ = some (.int .i64 a) := (kCe hi 0).trans rfl
 have d1 : W.cell? ⟨bi, 1, none⟩ = some (.int .i64 d) := (kCe hi 1).trans rfl
 have d2 : W.cell? ⟨bf, 0, none⟩ = some (.int .i64 fv) := (kCe hf 0).trans rfl
 have E0 := blk_far hi (p := ⟨bf, 0, none⟩) hne (.int .i64 k)
 have E1 := kAl E0 (.cells #[.int .i64 a, .int .i64 d] 92 (0, 0))
 have c3 : ((W.setCell ⟨bf, 0, none⟩ (.int .i64 k)).alloc (.cells #[.int .i64 a, .int .i64 d] 92 (0, 0))).cell? ⟨bi, 0, none⟩ = some (.int .i64 a) := (kCe E1 0).trans rfl
 have c4 : ((W.setCell ⟨bf, 0, none⟩ (.int .i64 k)).alloc (.cells #[.int .i64 a, .int .i64 d] 92 (0, 0))).cell? ⟨bi, 1, none⟩ = some (.int .i64 d) := (kCe E1 1).trans rfl
 have c7 : (W.setCell ⟨bf, 0, none⟩ (.int .i64 k)).cell? ⟨bi, 0, none⟩ = some (.int .i64 a) := (kCe E0 0).trans rfl
 have c8 : (W.setCell ⟨bf, 0, none⟩ (.int .i64 k)).cell? ⟨bi, 1, none⟩ = some (.int .i64 d) := (kCe E0 1).trans rfl
 go_enter Try.func118, Try.ntmps118
 go_wp2
 go_ret
 exact ⟨rfl, rfl⟩
set_option maxHeartbeats 4000000 in
set_option maxRecDepth 100000 in
theorem tellOf_ne1 (bi bf : Nat) (k x y a d : Int) (W : World) (hi : W.heap[bi]? = some (.cells #[.int .i64 a, .int .i64 d] 92 (0, 0))) (hx : (x == a) = false) :
  Calls Try.prog 118 #[.int .i64 k, .agg #[.int .i64 x, .int .i64 y], .pointer (some ⟨bi, 0, none⟩), .pointer (some ⟨bf, 0, none⟩)] W fun e w' => e = .returned (.bool false) ∧ w' = W.alloc (.cells #[.int .i64 x, .int .i64 y] 92 (0, 0)) := by
 have B0 := kAl hi (.cells #[.int .i64 x, .int .i64 y] 92 (0, 0))
 have c0 : (W.alloc (.cells #[.int .i64 x, .int .i64 y] 92 (0, 0))).cell? ⟨bi, 0, none⟩ = some (.int .i64 a) := (kCe B0 0).trans rfl
 have c1 : (W.alloc (.cells #[.int .i64 x, .int .i64 y] 92 (0, 0))).cell? ⟨bi, 1, none⟩ = some (.int .i64 d) := (kCe B0 1).trans rfl
 go_enter Try.func118, Try.ntmps118
 go_wp2
 go_ret
 exact ⟨rfl, rfl⟩
set_option maxHeartbeats 4000000 in
set_option maxRecDepth 100000 in
theorem tellOf_ne2 (bi bf : Nat) (k y a d : Int) (W : World) (hi : W.heap[bi]? = some (.cells #[.int .i64 a, .int .i64 d] 92 (0, 0))) (hy : (y == d) = false) :
  Calls Try.prog 118 #[.int .i64 k, .agg #[.int .i64 a, .int .i64 y], .pointer (some ⟨bi, 0, none⟩), .pointer (some ⟨bf, 0, none⟩)] W fun e w' => e = .returned (.bool false) ∧ w' = W.alloc (.cells #[.int .i64 a, .int .i64 y] 92 (0, 0)) := by
 have B0 := kAl hi (.cells #[.int .i64 a, .int .i64 y] 92 (0, 0))
 have c0 : (W.alloc (.cells #[.int .i64 a, .int .i64 y] 92 (0, 0))).cell? ⟨bi, 0, none⟩ = some (.int .i64 a) := (kCe B0 0).trans rfl
 have c1 : (W.alloc (.cells #[.int .i64 a, .int .i64 y] 92 (0, 0))).cell? ⟨bi, 1, none⟩ = some (.int .i64 d) := (kCe B0 1).trans rfl
 go_enter Try.func118, Try.ntmps118
 go_wp2
 go_ret
 exact ⟨rfl, rfl⟩
theorem tellOf (B bi bf : Nat) (k x y a d fv : Int) (W : World) (hi : W.heap[bi]? = some (.cells #[.int .i64 a, .int .i64 d] 92 (0, 0))) (hf : W.heap[bf]? = some (.cells #[.int .i64 fv] 3 (0, 0))) (hne : bi ≠ bf) (hB : B ≤ bf) :
  Calls Try.prog 118 #[.int .i64 k, .agg #[.int .i64 x, .int .i64 y], .pointer (some ⟨bi, 0, none⟩), .pointer (some ⟨bf, 0, none⟩)] W fun e w' => e = .returned (.bool (x == a && y == d)) ∧ w'.heap[bf]? = some (.cells #[.int .i64 (if (x == a && y == d) = true then k else fv)] 3 (0, 0)) ∧ KeepBut W w' bf none ∧ Below B W w' := by
 have hlt : bf < W.heap.size := blk_lt hf
 cases hh : (x == a && y == d) with
 | true =>
  obtain ⟨rfl, rfl⟩ : x = a ∧ y = d := by simpa using hh
  refine (tellOf_eq bi bf k x y fv W hi hf hne).mono ?_
  rintro e w' ⟨rfl, rfl⟩
  exact ⟨rfl, by simpa using kAl (blk_set hf 0 (.int .i64 k)) _, (KeepBut.set_ (KeepBut.refl W bf none) 0 _).trans (KeepBut.of_below ((Below.refl _ _).alloc (Nat.le_refl _) _) bf none) (.inl rfl), ((Below.refl _ _).setCell hB _).alloc (by simp; omega) _⟩
 | false =>
  cases hx : (x == a) with
  | false =>
   refine (tellOf_ne1 bi bf k x y a d W hi hx).mono ?_
   rintro e w' ⟨rfl, rfl⟩
   exact ⟨rfl, by simpa using kAl hf _, KeepBut.of_below ((Below.refl _ _).alloc (Nat.le_refl _) _) bf none, (Below.refl _ _).alloc zq37 _⟩
  | true =>
   obtain rfl : x = a := by simpa using hx
   refine (tellOf_ne2 bi bf k y x d W hi (by simpa [hx] using hh)).mono ?_
   rintro e w' ⟨rfl, rfl⟩
   exact ⟨rfl, by simpa using kAl hf _, KeepBut.of_below ((Below.refl _ _).alloc (Nat.le_refl _) _) bf none, (Below.refl _ _).alloc zq37 _⟩
set_option maxHeartbeats 4000000 in
set_option maxRecDepth 100000 in
theorem sidesBool (B bi bf wn hn : Nat) (a d : Int) (A : Option Addr) (n c : Nat) (hw : 1 ≤ wn) (hw' : wn ≤ 5) (hh : 1 ≤ hn) (hh' : hn ≤ 5) (hn' : n ≤ 25) (hd : (n : Int) / (wn : Int) = (hn : Int)) (W : World) (hi : W.heap[bi]? = some (.cells #[.int .i64 a, .int .i64 d] 92 (0, 0))) (hf : W.heap[bf]? = some (.cells #[.int .i64 (foundTo wn hn a d (0))] 3 (0, 0))) (hne : bi ≠ bf) (hB : B ≤ bf) :
  Calls Try.prog 117 #[.agg #[.int .i64 (wn : Int), .slice A n c], .func (.func 118) #[] #[.pointer (some ⟨bi, 0, none⟩), .pointer (some ⟨bf, 0, none⟩)]] W fun e w' => ∃ v : Value, e = .returned v ∧ w'.heap[bf]? = some (.cells #[.int .i64 (foundTo wn hn a d (wn + hn + wn + hn))] 3 (0, 0)) ∧ KeepBut W w' bf none ∧ Below B W w' := by
 obtain ⟨i0, hi0, hz0, hz1, hz2⟩ := info_parts infoBool
 have hD := Zs.mk hd
 have HNE := Zs.mk hne
 have HLE := Zs.mk hB
 have HLT : Zs (bi < W.heap.size ∧ bf < W.heap.size) := ⟨blk_lt hi, blk_lt hf⟩
 have HI0 := Zs.mk hi
 have HF0 := Zs.mk hf
 clear hd hi hf hne hB
 go_enter Try.func117, Try.ntmps117
 go_wp2
 go_cut [5, 6] (fun v5 v6 wc => v5 = .int .i64 (wn : Int) ∧ v6 = .int .i64 (hn : Int) ∧ Below W.heap.size W wc)
 case first =>
  go_region_with (go_at_call 49; refine (gridRows_hand (wn : Int) A n c (hn : Int) zq37 zq37 hn' zq37 zq37 hD.out _).mono ?_; rintro e w' ⟨rfl, hbel⟩; have bk : w'.heap[W.heap.size]? = some (.cells #[.int .i64 (wn : Int), .slice A n c] 25 (0, 0)) := kBe (by exact blk_new W _) hbel; have c0 : w'.cell? ⟨W.heap.size, 0, none⟩ = some (.int .i64 (wn : Int)) := (kCe bk 0).trans rfl; have c1 : w'.cell? ⟨W.heap.size, 1, none⟩ = some (.slice A n c) := (kCe bk 1).trans rfl; have bb : Below W.heap.size W w' := Below.trans (by repeat (first | exact Below.refl _ _ | refine Below.drew ?_ | refine Below.alloc ?_ zq5 _)) (hbel.mono zq5))
  all_goals go_wp2
  all_goals go_meet
  all_goals exact ⟨rfl, rfl, bb⟩
 case rest =>
  obtain ⟨rfl, rfl, bb⟩ := hcut
  go_wp2_with (at_make; refine wpList_make_own _ rfl _ _ 109 rfl W.heap.size 4 i0 _ 1 Try.underlying109 hi0 hz0 hz1 .i64 .i64 _ (2 * (wn + hn)) rfl rfl (by push_cast; omega) (by rw [hz2]; omega) (by unfold maxLen; omega) bb.size ?_; intro w1 hown hgr; have b1 := Below.grown bb hgr bb.size (by intro k hk; cases hk))
  have HR : Zs (Kd.R Kd.bool 4 w1 B (fun k => W.heap.size ≤ k) _ []) := Zs.mk (Kd.R_lower ⟨fun k e => by cases e; exact bb.size, (R_of_own Kd.bool hown).2⟩ (by have := HLE.out; have := HLT.out; omega))
  have HB : Zs (Below B W w1) := Zs.mk (b1.mono (by have := HLE.out; have := HLT.out; omega))
  have HI : Zs (w1.heap[bi]? = some (.cells #[.int .i64 a, .int .i64 d] 92 (0, 0))) := Zs.mk (kBe HI0.out b1)
  have HF : Zs (w1.heap[bf]? = some (.cells #[.int .i64 (foundTo wn hn a d (0 + 0))] 3 (0, 0))) := Zs.mk (kBe HF0.out b1)
  have HX : Zs (([] : List Bool).length = 0 + 0) := ⟨rfl⟩
  have HK : Zs (KeepBut W w1 bf none) := Zs.mk (KeepBut.of_below b1 bf none)
  clear hown hgr b1 bb hi0 hz0 hz1 hz2 hD HI0 HF0
  go_loopg [7, 22] wn (fun kq v i wr => ∃ (j : Nat) (xs : List Bool), i = .int .i64 (j : Int) ∧ Zs (kq + j = wn) ∧ Zs (xs.length = 0 + j) ∧ Zs (Kd.R Kd.bool 4 wr B (fun k => W.heap.size ≤ k) v xs) ∧ Zs (Below B W wr) ∧ Zs (wr.heap[bi]? = some (.cells #[.int .i64 a, .int .i64 d] 92 (0, 0))) ∧ Zs (wr.heap[bf]? = some (.cells #[.int .i64 (foundTo wn hn a d (0 + j))] 3 (0, 0))) ∧ Zs (KeepBut W wr bf none))
  case atStart => exact ⟨0, [], rfl, ⟨by omega⟩, ⟨HX.out⟩, HR, HB, HI, ⟨HF.out⟩, HK⟩
  case round =>
   clear HX HR HB HI HF HK
   obtain ⟨j, xs, rfl, HM, HX, HR, HB, HI, HF, HK⟩ := hrel
   obtain ⟨A7, c7, rfl⟩ := Kd.R_slice HR.out
   by_cases hj : j < wn
   ·have hjj : Zs (j < wn) := ⟨hj⟩
    have p0 : 0 ≤ (j : Int) * (wn : Int) ∧ (j : Int) * (wn : Int) ≤ 25 := mul_small zq37 zq37
    have p1 : 0 ≤ (hn : Int) * (wn : Int) ∧ (hn : Int) * (wn : Int) ≤ 25 := mul_small zq37 zq37
    have q0 := p0.1
    have q0' := p0.2
    have q1 := p1.1
    have q1' := p1.2
    clear p0 p1
    go_wp2_with (first | (go_at_call 118; refine (tellOf B bi bf _ _ _ a d _ _ HI.out HF.out HNE.out HLE.out).mono ?_; rintro e w2 ⟨rfl, hf2, hk, hb⟩; have n0_ := Zs.mk (Kd.R_keep HR.out hk (fun k hk => by have := HLT.out; omega)); have n1_ := Zs.mk (Below.trans HB.out hb); have n2_ := Zs.mk (hk.blk HI.out HNE.out zq58); have n3_ := Zs.mk hf2; have n4_ := Zs.mk (HK.out.trans hk (.inl rfl)); clear HR HB HI HF HK; have HR := n0_; have HB := n1_; have HI := n2_; have HF := n3_; have HK := n4_; clear n0_ n1_ n2_ n3_ n4_ hb hk hf2) | (at_builtin; refine Kd.R_append Kd.bool (w0 := W) B rfl (.tmp 25) (.tmp 32) 109 4 (.bool false) 1 rfl Try.underlying109 infoBool rfl zq31 zq37 (.slice A7 xs.length c7) xs ((j : Int) == a && 2 == d) [.bool ((j : Int) == a && 2 == d)] (fun k => W.heap.size ≤ k) (fun _ => False) rfl rfl ?aP (fun _ hk => hk.elim) ?aF ?aO ?aB ?aS ?aL ?_; (case aP => exact rfl); (case aF => exact (fun k hk => Nat.le_trans HK.out.1 hk)); (case aO => exact HR.out); (case aB => exact HB.out); (case aS => exact Nat.le_trans (by have := HLT.out; have := HLE.out; omega) HK.out.1); (case aL => rw [HX.out]; have := hjj.out; omega); intro v1 w3 ho hb hg hat; have n0_ := Zs.mk ho; have n1_ := Zs.mk hb; have n2_ := Zs.mk (blk_grown HI.out hg (fun e => by have h1 := HR.out.1 bi e.symm; have h2 := HLT.out; omega)); have n3_ := Zs.mk (blk_grown HF.out hg (fun e => by have h1 := HR.out.1 bf e.symm; have h2 := HLT.out; omega)); have n4_ := Zs.mk (keep_grown HK.out hg (fun k e => HR.out.1 k e)); clear HR HB HI HF HK; have HR := n0_; have HB := n1_; have HI := n2_; have HF := n3_; have HK := n4_; clear n0_ n1_ n2_ n3_ n4_ ho hb hg hat))
    go_roundg (gk - 1)
    case measure => have := HM.out; have := hjj.out; omega
    case rel => exact ⟨j + 1, _, (by go_num), ⟨by have := HM.out; have := hjj.out; omega⟩, ⟨by rw [List.length_append, HX.out]; rfl⟩, HR, HB, HI, ⟨by have e := HF.out; rw [HX.out] at e; rw [found_step2 wn hn j a d hjj.out]; exact e⟩, HK⟩
   ·have hge : Zs (j = wn) := ⟨by have := HM.out; omega⟩
    go_wp2
    go_loopg [7, 36] hn (fun kq v i wr => ∃ (j : Nat) (xs : List Bool), i = .int .i64 (j : Int) ∧ Zs (kq + j = hn) ∧ Zs (xs.length = wn + j) ∧ Zs (Kd.R Kd.bool 4 wr B (fun k => W.heap.size ≤ k) v xs) ∧ Zs (Below B W wr) ∧ Zs (wr.heap[bi]? = some (.cells #[.int .i64 a, .int .i64 d] 92 (0, 0))) ∧ Zs (wr.heap[bf]? = some (.cells #[.int .i64 (foundTo wn hn a d (wn + j))] 3 (0, 0))) ∧ Zs (KeepBut W wr bf none))
    case atStart => exact ⟨0, xs, rfl, ⟨by omega⟩, ⟨by rw [HX.out]; have := HM.out; omega⟩, HR, HB, HI, ⟨by have e := HF.out; rw [show wn + 0 = 0 + j from by have := HM.out; omega]; exact e⟩, HK⟩
    case round =>
     clear HX HR HB HI HF HK HM
     obtain ⟨j, xs, rfl, HM, HX, HR, HB, HI, HF, HK⟩ := hrel
     obtain ⟨A7, c7, rfl⟩ := Kd.R_slice HR.out
     by_cases hj : j < hn
     ·have hjj : Zs (j < hn) := ⟨hj⟩
      have p0 : 0 ≤ (j : Int) * (wn : Int) ∧ (j : Int) * (wn : Int) ≤ 25 := mul_small zq37 zq37
      have p1 : 0 ≤ (hn : Int) * (wn : Int) ∧ (hn : Int) * (wn : Int) ≤ 25 := mul_small zq37 zq37
      have q0 := p0.1
      have q0' := p0.2
      have q1 := p1.1
      have q1' := p1.2
      clear p0 p1
      go_wp2_with (first | (go_at_call 118; refine (tellOf B bi bf _ _ _ a d _ _ HI.out HF.out HNE.out HLE.out).mono ?_; rintro e w2 ⟨rfl, hf2, hk, hb⟩; have n0_ := Zs.mk (Kd.R_keep HR.out hk (fun k hk => by have := HLT.out; omega)); have n1_ := Zs.mk (Below.trans HB.out hb); have n2_ := Zs.mk (hk.blk HI.out HNE.out zq58); have n3_ := Zs.mk hf2; have n4_ := Zs.mk (HK.out.trans hk (.inl rfl)); clear HR HB HI HF HK; have HR := n0_; have HB := n1_; have HI := n2_; have HF := n3_; have HK := n4_; clear n0_ n1_ n2_ n3_ n4_ hb hk hf2) | (at_builtin; refine Kd.R_append Kd.bool (w0 := W) B rfl (.tmp 39) (.tmp 51) 109 4 (.bool false) 1 rfl Try.underlying109 infoBool rfl zq31 zq37 (.slice A7 xs.length c7) xs (((j : Int) * (wn : Int) + (wn : Int) - 1) == a && 3 == d) [.bool (((j : Int) * (wn : Int) + (wn : Int) - 1) == a && 3 == d)] (fun k => W.heap.size ≤ k) (fun _ => False) rfl rfl ?aP (fun _ hk => hk.elim) ?aF ?aO ?aB ?aS ?aL ?_; (case aP => exact rfl); (case aF => exact (fun k hk => Nat.le_trans HK.out.1 hk)); (case aO => exact HR.out); (case aB => exact HB.out); (case aS => exact Nat.le_trans (by have := HLT.out; have := HLE.out; omega) HK.out.1); (case aL => rw [HX.out]; have := hjj.out; omega); intro v1 w3 ho hb hg hat; have n0_ := Zs.mk ho; have n1_ := Zs.mk hb; have n2_ := Zs.mk (blk_grown HI.out hg (fun e => by have h1 := HR.out.1 bi e.symm; have h2 := HLT.out; omega)); have n3_ := Zs.mk (blk_grown HF.out hg (fun e => by have h1 := HR.out.1 bf e.symm; have h2 := HLT.out; omega)); have n4_ := Zs.mk (keep_grown HK.out hg (fun k e => HR.out.1 k e)); clear HR HB HI HF HK; have HR := n0_; have HB := n1_; have HI := n2_; have HF := n3_; have HK := n4_; clear n0_ n1_ n2_ n3_ n4_ ho hb hg hat))
      go_roundg (gk - 1)
      case measure => have := HM.out; have := hjj.out; omega
      case rel => exact ⟨j + 1, _, (by go_num), ⟨by have := HM.out; have := hjj.out; omega⟩, ⟨by rw [List.length_append, HX.out]; rfl⟩, HR, HB, HI, ⟨by have e := HF.out; rw [HX.out] at e; rw [found_step3 wn hn j a d hjj.out]; exact e⟩, HK⟩
     ·have hge : Zs (j = hn) := ⟨by have := HM.out; omega⟩
      go_wp2
      go_loopg [7, 55] wn (fun kq v i wr => ∃ (j : Nat) (xs : List Bool), i = .int .i64 (j : Int) ∧ Zs (kq + j = wn) ∧ Zs (xs.length = (wn + hn) + j) ∧ Zs (Kd.R Kd.bool 4 wr B (fun k => W.heap.size ≤ k) v xs) ∧ Zs (Below B W wr) ∧ Zs (wr.heap[bi]? = some (.cells #[.int .i64 a, .int .i64 d] 92 (0, 0))) ∧ Zs (wr.heap[bf]? = some (.cells #[.int .i64 (foundTo wn hn a d ((wn + hn) + j))] 3 (0, 0))) ∧ Zs (KeepBut W wr bf none))
      case atStart => exact ⟨0, xs, rfl, ⟨by omega⟩, ⟨by rw [HX.out]; have := HM.out; omega⟩, HR, HB, HI, ⟨by have e := HF.out; rw [show (wn + hn) + 0 = wn + j from by have := HM.out; omega]; exact e⟩, HK⟩
      case round =>
       clear HX HR HB HI HF HK HM
       obtain ⟨j, xs, rfl, HM, HX, HR, HB, HI, HF, HK⟩ := hrel
       obtain ⟨A7, c7, rfl⟩ := Kd.R_slice HR.out
       by_cases hj : j < wn
       ·have hjj : Zs (j < wn) := ⟨hj⟩
        have p0 : 0 ≤ (j : Int) * (wn : Int) ∧ (j : Int) * (wn : Int) ≤ 25 := mul_small zq37 zq37
        have p1 : 0 ≤ (hn : Int) * (wn : Int) ∧ (hn : Int) * (wn : Int) ≤ 25 := mul_small zq37 zq37
        have q0 := p0.1
        have q0' := p0.2
        have q1 := p1.1
        have q1' := p1.2
        clear p0 p1
        go_wp2_with (first | (go_at_call 118; refine (tellOf B bi bf _ _ _ a d _ _ HI.out HF.out HNE.out HLE.out).mono ?_; rintro e w2 ⟨rfl, hf2, hk, hb⟩; have n0_ := Zs.mk (Kd.R_keep HR.out hk (fun k hk => by have := HLT.out; omega)); have n1_ := Zs.mk (Below.trans HB.out hb); have n2_ := Zs.mk (hk.blk HI.out HNE.out zq58); have n3_ := Zs.mk hf2; have n4_ := Zs.mk (HK.out.trans hk (.inl rfl)); clear HR HB HI HF HK; have HR := n0_; have HB := n1_; have HI := n2_; have HF := n3_; have HK := n4_; clear n0_ n1_ n2_ n3_ n4_ hb hk hf2) | (at_builtin; refine Kd.R_append Kd.bool (w0 := W) B rfl (.tmp 58) (.tmp 70) 109 4 (.bool false) 1 rfl Try.underlying109 infoBool rfl zq31 zq37 (.slice A7 xs.length c7) xs (((hn : Int) * (wn : Int) - 1 - (j : Int)) == a && 0 == d) [.bool (((hn : Int) * (wn : Int) - 1 - (j : Int)) == a && 0 == d)] (fun k => W.heap.size ≤ k) (fun _ => False) rfl rfl ?aP (fun _ hk => hk.elim) ?aF ?aO ?aB ?aS ?aL ?_; (case aP => exact rfl); (case aF => exact (fun k hk => Nat.le_trans HK.out.1 hk)); (case aO => exact HR.out); (case aB => exact HB.out); (case aS => exact Nat.le_trans (by have := HLT.out; have := HLE.out; omega) HK.out.1); (case aL => rw [HX.out]; have := hjj.out; omega); intro v1 w3 ho hb hg hat; have n0_ := Zs.mk ho; have n1_ := Zs.mk hb; have n2_ := Zs.mk (blk_grown HI.out hg (fun e => by have h1 := HR.out.1 bi e.symm; have h2 := HLT.out; omega)); have n3_ := Zs.mk (blk_grown HF.out hg (fun e => by have h1 := HR.out.1 bf e.symm; have h2 := HLT.out; omega)); have n4_ := Zs.mk (keep_grown HK.out hg (fun k e => HR.out.1 k e)); clear HR HB HI HF HK; have HR := n0_; have HB := n1_; have HI := n2_; have HF := n3_; have HK := n4_; clear n0_ n1_ n2_ n3_ n4_ ho hb hg hat))
        go_roundg (gk - 1)
        case measure => have := HM.out; have := hjj.out; omega
        case rel => exact ⟨j + 1, _, (by go_num), ⟨by have := HM.out; have := hjj.out; omega⟩, ⟨by rw [List.length_append, HX.out]; rfl⟩, HR, HB, HI, ⟨by have e := HF.out; rw [HX.out] at e; rw [found_step0 wn hn j a d hjj.out]; exact e⟩, HK⟩
       ·have hge : Zs (j = wn) := ⟨by have := HM.out; omega⟩
        go_wp2
        go_loopg [7, 74] hn (fun kq v i wr => ∃ (j : Nat) (xs : List Bool), i = .int .i64 (j : Int) ∧ Zs (kq + j = hn) ∧ Zs (xs.length = (wn + hn + wn) + j) ∧ Zs (Kd.R Kd.bool 4 wr B (fun k => W.heap.size ≤ k) v xs) ∧ Zs (Below B W wr) ∧ Zs (wr.heap[bi]? = some (.cells #[.int .i64 a, .int .i64 d] 92 (0, 0))) ∧ Zs (wr.heap[bf]? = some (.cells #[.int .i64 (foundTo wn hn a d ((wn + hn + wn) + j))] 3 (0, 0))) ∧ Zs (KeepBut W wr bf none))
        case atStart => exact ⟨0, xs, rfl, ⟨by omega⟩, ⟨by rw [HX.out]; have := HM.out; omega⟩, HR, HB, HI, ⟨by have e := HF.out; rw [show (wn + hn + wn) + 0 = (wn + hn) + j from by have := HM.out; omega]; exact e⟩, HK⟩
        case round =>
         clear HX HR HB HI HF HK HM
         obtain ⟨j, xs, rfl, HM, HX, HR, HB, HI, HF, HK⟩ := hrel
         obtain ⟨A7, c7, rfl⟩ := Kd.R_slice HR.out
         by_cases hj : j < hn
         ·have hjj : Zs (j < hn) := ⟨hj⟩
          have p0 : 0 ≤ (j : Int) * (wn : Int) ∧ (j : Int) * (wn : Int) ≤ 25 := mul_small zq37 zq37
          have p1 : 0 ≤ (hn : Int) * (wn : Int) ∧ (hn : Int) * (wn : Int) ≤ 25 := mul_small zq37 zq37
          have p2 : 0 ≤ ((hn : Int) - 1 - (j : Int)) * (wn : Int) ∧ ((hn : Int) - 1 - (j : Int)) * (wn : Int) ≤ 25 := mul_small' zq37 zq37 zq37 zq37
          have q2 := p2.1
          have q2' := p2.2
          have q0 := p0.1
          have q0' := p0.2
          have q1 := p1.1
          have q1' := p1.2
          clear p0 p1 p2
          go_wp2_with (first | (go_at_call 118; refine (tellOf B bi bf _ _ _ a d _ _ HI.out HF.out HNE.out HLE.out).mono ?_; rintro e w2 ⟨rfl, hf2, hk, hb⟩; have n0_ := Zs.mk (Kd.R_keep HR.out hk (fun k hk => by have := HLT.out; omega)); have n1_ := Zs.mk (Below.trans HB.out hb); have n2_ := Zs.mk (hk.blk HI.out HNE.out zq58); have n3_ := Zs.mk hf2; have n4_ := Zs.mk (HK.out.trans hk (.inl rfl)); clear HR HB HI HF HK; have HR := n0_; have HB := n1_; have HI := n2_; have HF := n3_; have HK := n4_; clear n0_ n1_ n2_ n3_ n4_ hb hk hf2) | (at_builtin; refine Kd.R_append Kd.bool (w0 := W) B rfl (.tmp 77) (.tmp 89) 109 4 (.bool false) 1 rfl Try.underlying109 infoBool rfl zq31 zq37 (.slice A7 xs.length c7) xs ((((hn : Int) - 1 - (j : Int)) * (wn : Int)) == a && 1 == d) [.bool ((((hn : Int) - 1 - (j : Int)) * (wn : Int)) == a && 1 == d)] (fun k => W.heap.size ≤ k) (fun _ => False) rfl rfl ?aP (fun _ hk => hk.elim) ?aF ?aO ?aB ?aS ?aL ?_; (case aP => exact rfl); (case aF => exact (fun k hk => Nat.le_trans HK.out.1 hk)); (case aO => exact HR.out); (case aB => exact HB.out); (case aS => exact Nat.le_trans (by have := HLT.out; have := HLE.out; omega) HK.out.1); (case aL => rw [HX.out]; have := hjj.out; omega); intro v1 w3 ho hb hg hat; have n0_ := Zs.mk ho; have n1_ := Zs.mk hb; have n2_ := Zs.mk (blk_grown HI.out hg (fun e => by have h1 := HR.out.1 bi e.symm; have h2 := HLT.out; omega)); have n3_ := Zs.mk (blk_grown HF.out hg (fun e => by have h1 := HR.out.1 bf e.symm; have h2 := HLT.out; omega)); have n4_ := Zs.mk (keep_grown HK.out hg (fun k e => HR.out.1 k e)); clear HR HB HI HF HK; have HR := n0_; have HB := n1_; have HI := n2_; have HF := n3_; have HK := n4_; clear n0_ n1_ n2_ n3_ n4_ ho hb hg hat))
          go_roundg (gk - 1)
          case measure => have := HM.out; have := hjj.out; omega
          case rel => exact ⟨j + 1, _, (by go_num), ⟨by have := HM.out; have := hjj.out; omega⟩, ⟨by rw [List.length_append, HX.out]; rfl⟩, HR, HB, HI, ⟨by have e := HF.out; rw [HX.out] at e; rw [found_step1 wn hn j a d hjj.out]; exact e⟩, HK⟩
         ·have hge : Zs (j = hn) := ⟨by have := HM.out; omega⟩
          go_wp2
          go_ret
          refine ⟨_, rfl, ?_, HK.out, HB.out⟩
          have e := HF.out; rw [hge.out] at e; exact e

end Go.Proofs.Ytejgohgmmndgbaa.PFnTrailTurn
--slim
