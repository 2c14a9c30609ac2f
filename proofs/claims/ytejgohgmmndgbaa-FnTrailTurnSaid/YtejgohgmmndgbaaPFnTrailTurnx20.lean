-- Written by a program of this session: the kit's print, with functions among it that were proved by hand.
import Derived.Test.YtejgohgmmndgbaaPFnTrailTurnx0
import Derived.Test.YtejgohgmmndgbaaPFnTrailTurnx19
namespace Go.Proofs.Ytejgohgmmndgbaa.PFnTrailTurn
open Go.RowKit Go.Proofs.YtejgohgmmndgbaaW.PrintWords Go.Proofs.YtejgohgmmndgbaaW.PrintLast Go.Proofs.YtejgohgmmndgbaaW.PrintMore
attribute [local go_sem] max2_int min2_int max_two min_two max_three min_three max_four min_four   -- for this text's walks alone
set_option linter.unusedVariables false
set_option linter.unusedSimpArgs false

open Go.Proofs.Ytejgohgmmndgbaa.HandA
/-! ### impl_sidesTold_Ray -/
theorem gridRows_hand (w : Int) (A : Option Addr) (n c : Nat) (h : Int) (hw : 1 ≤ w) (hw' : w ≤ 5) (hn' : n ≤ 25) (hh : h ≤ 5) (hh' : 1 ≤ h) (hd : (n : Int) / w = h) (W : World) :
  Calls Try.prog 49 #[.agg #[.int .i64 w, .slice A n c]] W fun e w' => e = .returned (.int .i64 h) ∧ Below W.heap.size W w' := by
 have hz : ¬ w = 0 := by omega
 have hq : Hid (wrap64 ((n : Int) / w) = h) := by
  rw [hd]; show wrap64 h = h
  unfold wrap64; omega
 clear hd
 go_enter Try.func49, Try.ntmps49
 go_wp2
 go_ret
 exact ⟨by rw [hq.out]; rfl, (Below.refl _ _).alloc (Nat.le_refl _) _⟩
theorem infoRay : (Try.prog.info? 92).map (fun i => (i.zero, i.size, i.bytes)) = some (some (.agg #[.int .i64 0, .int .i64 0]), 2, 16) := by kernel_rfl
def kRay : Kd (Int × Int) := Kd.pair (Kd.int .i64) (Kd.int .i64)
theorem kRay_mkM (w : World) (base : Nat) (ok : Nat → Prop) (x : Int × Int) : kRay.M w base ok x [.int .i64 x.1, .int .i64 x.2] := ⟨[.int .i64 x.1], [.int .i64 x.2], rfl, rfl, rfl⟩
theorem kRay_open {w : World} {x : Int × Int} {cs : List Value} (h : kRay.K w x cs) : cs = [.int .i64 x.1, .int .i64 x.2] := by
 obtain ⟨_, _, rfl, rfl, rfl⟩ := h
 exact rfl
def rayAt (w h m : Int) : Int × Int := if m < w then (m, 2) else if m < w + h then ((m - w) * w + w - 1, 3) else if m < w + h + w then (h * w - 1 - (m - w - h), 0) else ((h - 1 - (m - w - h - w)) * w, 1)
def raysTo (wn hn m : Nat) : List (Int × Int) := (List.range m).map fun (i : Nat) => rayAt wn hn i
theorem raysTo_succ (wn hn m : Nat) : raysTo wn hn (m + 1) = raysTo wn hn m ++ [rayAt wn hn m] := by unfold raysTo; rw [List.range_succ, List.map_append]; rfl
theorem raysTo_len (wn hn m : Nat) : (raysTo wn hn m).length = m := by unfold raysTo; simp
theorem mul_small {a b : Int} (ha : 0 ≤ a ∧ a ≤ 5) (hb : 0 ≤ b ∧ b ≤ 5) : 0 ≤ a * b ∧ a * b ≤ 25 :=
 ⟨Int.mul_nonneg ha.1 hb.1, by have h1 := Int.mul_le_mul ha.2 hb.2 hb.1 (by omega : (0 : Int) ≤ 5); omega⟩
theorem mul_small' {a b : Int} (h0 : 0 ≤ a) (h1 : a ≤ 5) (h2 : 0 ≤ b) (h3 : b ≤ 5) : 0 ≤ a * b ∧ a * b ≤ 25 := mul_small ⟨h0, h1⟩ ⟨h2, h3⟩
theorem ray_step2 (wn hn j : Nat) (h : j < wn) : raysTo wn hn (0 + j) ++ [((j : Int), 2)] = raysTo wn hn (0 + (j + 1)) := by
 rw [show 0 + (j + 1) = (0 + j) + 1 from by omega, raysTo_succ]; congr 2; unfold rayAt; rw [if_pos zq37]; congr 1; omega
theorem ray_step3 (wn hn j : Nat) (h : j < hn) : raysTo wn hn (wn + j) ++ [((j : Int) * (wn : Int) + (wn : Int) - 1, 3)] = raysTo wn hn (wn + (j + 1)) := by
 rw [show wn + (j + 1) = (wn + j) + 1 from by omega, raysTo_succ]; congr 2; unfold rayAt
 rw [if_neg zq37, if_pos zq37, show (((wn + j : Nat) : Int) - (wn : Int)) = (j : Int) from by omega]
theorem ray_step0 (wn hn j : Nat) (h : j < wn) : raysTo wn hn (wn + hn + j) ++ [((hn : Int) * (wn : Int) - 1 - (j : Int), 0)] = raysTo wn hn (wn + hn + (j + 1)) := by
 rw [show wn + hn + (j + 1) = (wn + hn + j) + 1 from by omega, raysTo_succ]; congr 2; unfold rayAt
 rw [if_neg zq37, if_neg zq37, if_pos zq37, show (((wn + hn + j : Nat) : Int) - (wn : Int) - (hn : Int)) = (j : Int) from by omega]
theorem ray_step1 (wn hn j : Nat) (h : j < hn) : raysTo wn hn (wn + hn + wn + j) ++ [(((hn : Int) - 1 - (j : Int)) * (wn : Int), 1)] = raysTo wn hn (wn + hn + wn + (j + 1)) := by
 rw [show wn + hn + wn + (j + 1) = (wn + hn + wn + j) + 1 from by omega, raysTo_succ]; congr 2; unfold rayAt
 rw [if_neg zq37, if_neg zq37, if_neg zq37, show (((wn + hn + wn + j : Nat) : Int) - (wn : Int) - (hn : Int) - (wn : Int)) = (j : Int) from by omega]
theorem R_of_own {α : Type} (d : Kd α) {e : Nat} {w : World} {base : Nat} {v : Value} (h : w.ownsRow base e d.sz v 0 []) : d.R e w base (fun _ => True) v [] :=
 ⟨fun _ _ => trivial, [], h, Reps.none _ _⟩
set_option maxHeartbeats 4000000 in
set_option maxRecDepth 100000 in
theorem tellRay (k a b : Int) (W : World) : Calls Try.prog 87 #[.int .i64 k, .agg #[.int .i64 a, .int .i64 b]] W fun e w' => e = .returned (.agg #[.int .i64 a, .int .i64 b]) ∧ Below W.heap.size W w' := by
 go_enter Try.func87, Try.ntmps87
 go_wp2
 refine bodyPost_ret (v := .agg #[.int .i64 a, .int .i64 b]) (by simp [results, Try.results87, go_sem]) rfl ⟨rfl, ?_⟩
 repeat (first | exact Below.refl _ _ | refine Below.setCell ?_ zq5 _ | refine Below.alloc ?_ zq5 _)
set_option maxHeartbeats 4000000 in
set_option maxRecDepth 100000 in
theorem sidesRay (wn hn : Nat) (A : Option Addr) (n c : Nat) (hw : 1 ≤ wn) (hw' : wn ≤ 5) (hh : 1 ≤ hn) (hh' : hn ≤ 5) (hn' : n ≤ 25) (hd : (n : Int) / (wn : Int) = (hn : Int)) (W : World) :
  Calls Try.prog 86 #[.agg #[.int .i64 (wn : Int), .slice A n c], .func (.func 87) #[] #[]] W fun e w' => ∃ v : Value, e = .returned v ∧ Kd.R kRay 92 w' W.heap.size (fun _ => True) v (raysTo wn hn (wn + hn + wn + hn)) ∧ Below W.heap.size W w' := by
 obtain ⟨i0, hi, hz0, hz1, hz2⟩ := info_parts infoRay
 have hD := Zs.mk hd
 clear hd
 go_enter Try.func86, Try.ntmps86
 go_wp2
 go_cut [5, 6] (fun v5 v6 wc => v5 = .int .i64 (wn : Int) ∧ v6 = .int .i64 (hn : Int) ∧ Below W.heap.size W wc)
 case first =>
  go_region_with (go_at_call 49; refine (gridRows_hand (wn : Int) A n c (hn : Int) zq37 zq37 hn' zq37 zq37 hD.out _).mono ?_; rintro e w' ⟨rfl, hbel⟩; have bk : w'.heap[W.heap.size]? = some (.cells #[.int .i64 (wn : Int), .slice A n c] 25 (0, 0)) := kBe (by exact blk_new W _) hbel; have c0 : w'.cell? ⟨W.heap.size, 0, none⟩ = some (.int .i64 (wn : Int)) := (kCe bk 0).trans rfl; have c1 : w'.cell? ⟨W.heap.size, 1, none⟩ = some (.slice A n c) := (kCe bk 1).trans rfl; have bb : Below W.heap.size W w' := Below.trans (by repeat (first | exact Below.refl _ _ | refine Below.drew ?_ | refine Below.alloc ?_ zq5 _)) (hbel.mono zq5))
  all_goals go_wp2
  all_goals go_meet
  all_goals exact ⟨rfl, rfl, bb⟩
 case rest =>
  obtain ⟨rfl, rfl, bb⟩ := hcut
  go_wp2_with (at_make; refine wpList_make_own _ rfl _ _ 117 rfl W.heap.size 92 i0 _ 2 Try.underlying117 hi hz0 hz1 .i64 .i64 _ (2 * (wn + hn)) rfl rfl (by push_cast; omega) (by rw [hz2]; omega) (by unfold maxLen; omega) bb.size ?_; intro w1 hown hgr; have b1 := Below.grown bb hgr bb.size (by intro k hk; cases hk))
  have HR := Zs.mk (R_of_own kRay hown)
  have HB := Zs.mk b1
  have HX : Zs (([] : List (Int × Int)) = raysTo wn hn (0 + 0)) := ⟨rfl⟩
  clear hown hgr b1 bb hi hz0 hz1 hz2 hD
  go_loopg [7, 22] wn (fun kq v i wr => ∃ (j : Nat) (xs : List (Int × Int)), i = .int .i64 (j : Int) ∧ Zs (kq + j = wn) ∧ Zs (xs = raysTo wn hn (0 + j)) ∧ Zs (Kd.R kRay 92 wr W.heap.size (fun _ => True) v xs) ∧ Zs (Below W.heap.size W wr))
  case atStart => exact ⟨0, [], rfl, ⟨by omega⟩, ⟨HX.out⟩, HR, HB⟩
  case round =>
   obtain ⟨j, xs, rfl, HM, HX, HR, HB⟩ := hrel
   obtain ⟨A7, c7, rfl⟩ := Kd.R_slice HR.out
   by_cases hj : j < wn
   ·have hjj : Zs (j < wn) := ⟨hj⟩
    have p0 : 0 ≤ (j : Int) * (wn : Int) ∧ (j : Int) * (wn : Int) ≤ 25 := mul_small zq37 zq37
    have p1 : 0 ≤ (hn : Int) * (wn : Int) ∧ (hn : Int) * (wn : Int) ≤ 25 := mul_small zq37 zq37
    have q0 := p0.1
    have q0' := p0.2
    have q1 := p1.1
    have q1' := p1.2
    clear p0 p1
    go_wp2_with (first | (go_at_call 87; refine (tellRay _ _ _ _).mono ?_; rintro e w2 ⟨rfl, hb⟩; have n0_ := Zs.mk (Kd.R_below HR.out hb); have n1_ := Zs.mk (bSp HB.out hb); clear HR HB; have HR := n0_; have HB := n1_; clear n0_ n1_ hb) | (at_builtin; refine Kd.R_append kRay (w0 := W) W.heap.size rfl (.tmp 25) (.tmp 32) 117 92 (.agg #[.int .i64 0, .int .i64 0]) 16 rfl Try.underlying117 infoRay rfl zq31 zq37 (.slice A7 xs.length c7) xs ((j : Int), 2) [.int .i64 (j : Int), .int .i64 2] (fun _ => True) (fun _ => False) rfl rfl ?aP (fun _ hk => hk.elim) ?aF ?aO ?aB ?aS ?aL ?_; (case aP => exact kRay_mkM _ _ _ _); (case aF => exact (fun _ _ => trivial)); (case aO => exact HR.out); (case aB => exact HB.out); (case aS => exact HB.out.size); (case aL => rw [HX.out, raysTo_len]; have := hjj.out; omega); intro v1 w3 ho hb hg hat; have n0_ := Zs.mk ho; have n1_ := Zs.mk hb; clear HR HB; have HR := n0_; have HB := n1_; clear n0_ n1_ ho hb hg hat))
    go_roundg (gk - 1)
    case measure => have := HM.out; have := hjj.out; omega
    case rel => exact ⟨j + 1, _, (by go_num), ⟨by have := HM.out; have := hjj.out; omega⟩, ⟨by rw [HX.out]; exact ray_step2 wn hn j hjj.out⟩, HR, HB⟩
   ·have hge : Zs (j = wn) := ⟨by have := HM.out; omega⟩
    go_wp2
    go_loopg [7, 36] hn (fun kq v i wr => ∃ (j : Nat) (xs : List (Int × Int)), i = .int .i64 (j : Int) ∧ Zs (kq + j = hn) ∧ Zs (xs = raysTo wn hn (wn + j)) ∧ Zs (Kd.R kRay 92 wr W.heap.size (fun _ => True) v xs) ∧ Zs (Below W.heap.size W wr))
    case atStart => exact ⟨0, xs, rfl, ⟨by omega⟩, ⟨by rw [HX.out]; congr 1; have := HM.out; omega⟩, HR, HB⟩
    case round =>
     clear HX HR HB HM
     obtain ⟨j, xs, rfl, HM, HX, HR, HB⟩ := hrel
     obtain ⟨A7, c7, rfl⟩ := Kd.R_slice HR.out
     by_cases hj : j < hn
     ·have hjj : Zs (j < hn) := ⟨hj⟩
      have p0 : 0 ≤ (j : Int) * (wn : Int) ∧ (j : Int) * (wn : Int) ≤ 25 := mul_small zq37 zq37
      have p1 : 0 ≤ (hn : Int) * (wn : Int) ∧ (hn : Int) * (wn : Int) ≤ 25 := mul_small zq37 zq37
      have q0 := p0.1
      have q0' := p0.2
      have q1 := p1.1
      have q1' := p1.2
      clear p0 p1
      go_wp2_with (first | (go_at_call 87; refine (tellRay _ _ _ _).mono ?_; rintro e w2 ⟨rfl, hb⟩; have n0_ := Zs.mk (Kd.R_below HR.out hb); have n1_ := Zs.mk (bSp HB.out hb); clear HR HB; have HR := n0_; have HB := n1_; clear n0_ n1_ hb) | (at_builtin; refine Kd.R_append kRay (w0 := W) W.heap.size rfl (.tmp 39) (.tmp 51) 117 92 (.agg #[.int .i64 0, .int .i64 0]) 16 rfl Try.underlying117 infoRay rfl zq31 zq37 (.slice A7 xs.length c7) xs (((j : Int) * (wn : Int) + (wn : Int) - 1), 3) [.int .i64 ((j : Int) * (wn : Int) + (wn : Int) - 1), .int .i64 3] (fun _ => True) (fun _ => False) rfl rfl ?aP (fun _ hk => hk.elim) ?aF ?aO ?aB ?aS ?aL ?_; (case aP => exact kRay_mkM _ _ _ _); (case aF => exact (fun _ _ => trivial)); (case aO => exact HR.out); (case aB => exact HB.out); (case aS => exact HB.out.size); (case aL => rw [HX.out, raysTo_len]; have := hjj.out; omega); intro v1 w3 ho hb hg hat; have n0_ := Zs.mk ho; have n1_ := Zs.mk hb; clear HR HB; have HR := n0_; have HB := n1_; clear n0_ n1_ ho hb hg hat))
      go_roundg (gk - 1)
      case measure => have := HM.out; have := hjj.out; omega
      case rel => exact ⟨j + 1, _, (by go_num), ⟨by have := HM.out; have := hjj.out; omega⟩, ⟨by rw [HX.out]; exact ray_step3 wn hn j hjj.out⟩, HR, HB⟩
     ·have hge : Zs (j = hn) := ⟨by have := HM.out; omega⟩
      go_wp2
      go_loopg [7, 55] wn (fun kq v i wr => ∃ (j : Nat) (xs : List (Int × Int)), i = .int .i64 (j : Int) ∧ Zs (kq + j = wn) ∧ Zs (xs = raysTo wn hn ((wn + hn) + j)) ∧ Zs (Kd.R kRay 92 wr W.heap.size (fun _ => True) v xs) ∧ Zs (Below W.heap.size W wr))
      case atStart => exact ⟨0, xs, rfl, ⟨by omega⟩, ⟨by rw [HX.out]; congr 1; have := HM.out; omega⟩, HR, HB⟩
      case round =>
       clear HX HR HB HM
       obtain ⟨j, xs, rfl, HM, HX, HR, HB⟩ := hrel
       obtain ⟨A7, c7, rfl⟩ := Kd.R_slice HR.out
       by_cases hj : j < wn
       ·have hjj : Zs (j < wn) := ⟨hj⟩
        have p0 : 0 ≤ (j : Int) * (wn : Int) ∧ (j : Int) * (wn : Int) ≤ 25 := mul_small zq37 zq37
        have p1 : 0 ≤ (hn : Int) * (wn : Int) ∧ (hn : Int) * (wn : Int) ≤ 25 := mul_small zq37 zq37
        have q0 := p0.1
        have q0' := p0.2
        have q1 := p1.1
        have q1' := p1.2
        clear p0 p1
        go_wp2_with (first | (go_at_call 87; refine (tellRay _ _ _ _).mono ?_; rintro e w2 ⟨rfl, hb⟩; have n0_ := Zs.mk (Kd.R_below HR.out hb); have n1_ := Zs.mk (bSp HB.out hb); clear HR HB; have HR := n0_; have HB := n1_; clear n0_ n1_ hb) | (at_builtin; refine Kd.R_append kRay (w0 := W) W.heap.size rfl (.tmp 58) (.tmp 70) 117 92 (.agg #[.int .i64 0, .int .i64 0]) 16 rfl Try.underlying117 infoRay rfl zq31 zq37 (.slice A7 xs.length c7) xs (((hn : Int) * (wn : Int) - 1 - (j : Int)), 0) [.int .i64 ((hn : Int) * (wn : Int) - 1 - (j : Int)), .int .i64 0] (fun _ => True) (fun _ => False) rfl rfl ?aP (fun _ hk => hk.elim) ?aF ?aO ?aB ?aS ?aL ?_; (case aP => exact kRay_mkM _ _ _ _); (case aF => exact (fun _ _ => trivial)); (case aO => exact HR.out); (case aB => exact HB.out); (case aS => exact HB.out.size); (case aL => rw [HX.out, raysTo_len]; have := hjj.out; omega); intro v1 w3 ho hb hg hat; have n0_ := Zs.mk ho; have n1_ := Zs.mk hb; clear HR HB; have HR := n0_; have HB := n1_; clear n0_ n1_ ho hb hg hat))
        go_roundg (gk - 1)
        case measure => have := HM.out; have := hjj.out; omega
        case rel => exact ⟨j + 1, _, (by go_num), ⟨by have := HM.out; have := hjj.out; omega⟩, ⟨by rw [HX.out]; exact ray_step0 wn hn j hjj.out⟩, HR, HB⟩
       ·have hge : Zs (j = wn) := ⟨by have := HM.out; omega⟩
        go_wp2
        go_loopg [7, 74] hn (fun kq v i wr => ∃ (j : Nat) (xs : List (Int × Int)), i = .int .i64 (j : Int) ∧ Zs (kq + j = hn) ∧ Zs (xs = raysTo wn hn ((wn + hn + wn) + j)) ∧ Zs (Kd.R kRay 92 wr W.heap.size (fun _ => True) v xs) ∧ Zs (Below W.heap.size W wr))
        case atStart => exact ⟨0, xs, rfl, ⟨by omega⟩, ⟨by rw [HX.out]; congr 1; have := HM.out; omega⟩, HR, HB⟩
        case round =>
         clear HX HR HB HM
         obtain ⟨j, xs, rfl, HM, HX, HR, HB⟩ := hrel
         obtain ⟨A7, c7, rfl⟩ := Kd.R_slice HR.out
         by_cases hj : j < hn
         ·have hjj : Zs (j < hn) := ⟨hj⟩
          have p0 : 0 ≤ (j : Int) * (wn : Int) ∧ (j : Int) * (wn : Int) ≤ 25 := mul_small zq37 zq37
          have p1 : 0 ≤ (hn : Int) * (wn : Int) ∧ (hn : Int) * (wn : Int) ≤ 25 := mul_small zq37 zq37
          have p2 : 0 ≤ ((hn : Int) - 1 - (j : Int)) * (wn : Int) ∧ ((hn : Int) - 1 - (j : Int)) * (wn : Int) ≤ 25 := mul_small' zq37 zq37 zq37 zq37
          have q2 := p2.1
          have q2' := p2.2
          have q0 := p0.1
          have q0' := p0.2
          have q1 := p1.1
          have q1' := p1.2
          clear p0 p1 p2
          go_wp2_with (first | (go_at_call 87; refine (tellRay _ _ _ _).mono ?_; rintro e w2 ⟨rfl, hb⟩; have n0_ := Zs.mk (Kd.R_below HR.out hb); have n1_ := Zs.mk (bSp HB.out hb); clear HR HB; have HR := n0_; have HB := n1_; clear n0_ n1_ hb) | (at_builtin; refine Kd.R_append kRay (w0 := W) W.heap.size rfl (.tmp 77) (.tmp 89) 117 92 (.agg #[.int .i64 0, .int .i64 0]) 16 rfl Try.underlying117 infoRay rfl zq31 zq37 (.slice A7 xs.length c7) xs ((((hn : Int) - 1 - (j : Int)) * (wn : Int)), 1) [.int .i64 (((hn : Int) - 1 - (j : Int)) * (wn : Int)), .int .i64 1] (fun _ => True) (fun _ => False) rfl rfl ?aP (fun _ hk => hk.elim) ?aF ?aO ?aB ?aS ?aL ?_; (case aP => exact kRay_mkM _ _ _ _); (case aF => exact (fun _ _ => trivial)); (case aO => exact HR.out); (case aB => exact HB.out); (case aS => exact HB.out.size); (case aL => rw [HX.out, raysTo_len]; have := hjj.out; omega); intro v1 w3 ho hb hg hat; have n0_ := Zs.mk ho; have n1_ := Zs.mk hb; clear HR HB; have HR := n0_; have HB := n1_; clear n0_ n1_ ho hb hg hat))
          go_roundg (gk - 1)
          case measure => have := HM.out; have := hjj.out; omega
          case rel => exact ⟨j + 1, _, (by go_num), ⟨by have := HM.out; have := hjj.out; omega⟩, ⟨by rw [HX.out]; exact ray_step1 wn hn j hjj.out⟩, HR, HB⟩
         ·have hge : Zs (j = hn) := ⟨by have := HM.out; omega⟩
          go_wp2
          go_ret
          refine ⟨_, rfl, ?_, HB.out⟩
          have e : xs = raysTo wn hn (wn + hn + wn + hn) := by rw [HX.out, hge.out]
          rw [← e]; exact HR.out


open Go.Proofs.Ytejgohgmmndgbaa.HandA
/-! ### impl_SightRay: function 69 -/
def impl_SightRay.f (k : Nat) (a0_0 : Int) (l0_1 : List (S57)) (a1 : Int) : Option (Int × Int × Bool) :=
 if a1 < 0 then some (0, 0, false) else (impl_SightMany.f k a0_0 l0_1).bind fun m => if a1 ≥ m then some (0, 0, false) else
  if 1 ≤ a0_0 ∧ a0_0 ≤ 5 ∧ 1 ≤ (l0_1.length : Int) / a0_0 ∧ (l0_1.length : Int) / a0_0 ≤ 5 ∧ l0_1.length ≤ 25 ∧ a1 < 2 * (a0_0 + (l0_1.length : Int) / a0_0) then
   some ((rayAt a0_0 ((l0_1.length : Int) / a0_0) a1).1, (rayAt a0_0 ((l0_1.length : Int) / a0_0) a1).2, true)
  else none
theorem impl_SightRay.mono : ∀ a0 a1 a2 k, LeO (impl_SightRay.f k a0 a1 a2) (impl_SightRay.f (k + 1) a0 a1 a2) := by
 intro a0 a1 a2 k
 unfold impl_SightRay.f
 exact LeO.ite (LeO.refl _) (LeO.bind (impl_SightMany.mono _ _ _) (fun _ => LeO.refl _))
theorem ray_read {w : World} {A : Option Addr} {wn hn m : Nat} (h : Kd.C kRay w A (raysTo wn hn m).length (raysTo wn hn m)) (i : Nat) (hi : i < (raysTo wn hn m).length) : ∃ ad, A = some ad ∧ w.cell? (ad.add (i * 2)) = some (.int .i64 (rayAt wn hn i).1) ∧ w.cell? ⟨(ad.add (i * 2)).block, (ad.add (i * 2)).off + 1, none⟩ = some (.int .i64 (rayAt wn hn i).2) := by
 obtain ⟨ad, cs, e, _, hK, hcs0⟩ := Kd.C_get h (0, 0) (i : Int) zq37 (by exact_mod_cast hi)
 have hg : (raysTo wn hn m).getD (i : Int).toNat (0, 0) = rayAt wn hn i := by
  rw [Int.toNat_natCast]; unfold List.getD; rw [List.getElem?_eq_getElem hi]; simp [raysTo]
 rw [hg] at hK
 have hcs : ∀ j u, cs[j]? = some u → w.cell? (ad.add (i * 2 + j)) = some u := hcs0
 obtain rfl := kRay_open hK
 exact ⟨ad, e, hcs 0 _ rfl, by rw [← add_field _ _ 1 zq37]; exact hcs 1 _ rfl⟩
theorem sidesRay_read (wn hn : Nat) (A : Option Addr) (n c : Nat) (i : Nat) (hw : 1 ≤ wn) (hw' : wn ≤ 5) (hh : 1 ≤ hn) (hh' : hn ≤ 5) (hn' : n ≤ 25) (hd : (n : Int) / (wn : Int) = (hn : Int)) (hi : i < wn + hn + wn + hn) (W : World) :
  Calls Try.prog 86 #[.agg #[.int .i64 (wn : Int), .slice A n c], .func (.func 87) #[] #[]] W fun e w' => ∃ (ad : Addr) (m c7 : Nat), e = .returned (.slice (some ad) m c7) ∧ i < m ∧ w'.cell? (ad.add (i * 2)) = some (.int .i64 (rayAt wn hn i).1) ∧ w'.cell? ⟨(ad.add (i * 2)).block, (ad.add (i * 2)).off + 1, none⟩ = some (.int .i64 (rayAt wn hn i).2) ∧ Below W.heap.size W w' := by
 refine (sidesRay wn hn A n c hw hw' hh hh' hn' hd W).mono ?_
 rintro e w2 ⟨v, rfl, hR, hbel⟩
 have q1 : i < (raysTo wn hn (wn + hn + wn + hn)).length := by rw [raysTo_len]; exact hi
 obtain ⟨A7, c7, rfl⟩ := Kd.R_slice hR
 obtain ⟨ad, rfl, r0, r1⟩ := ray_read (Kd.R_reads' hR).2.2 i q1
 exact ⟨ad, _, c7, rfl, q1, r0, r1, hbel⟩
set_option maxHeartbeats 4000000 in
set_option maxRecDepth 100000 in
theorem sightRay_neg (w : Int) (A : Option Addr) (n c : Nat) (a1 : Int) (h : decide (a1 < 0) = true) (W : World) : Calls Try.prog 69 #[.agg #[.int .i64 w, .slice A n c], .int .i64 a1] W fun e w' => e = .returned (.tuple #[.agg #[.int .i64 0, .int .i64 0], .bool false]) ∧ Below W.heap.size W w' := by
 go_enter Try.func69, Try.ntmps69
 go_wp2
 refine bodyPost_ret (v := .tuple #[.agg #[.int .i64 0, .int .i64 0], .bool false]) (by simp [results, Try.results69, go_sem]) rfl ⟨rfl, ?_⟩
 repeat (first | exact Below.refl _ _ | refine Below.drew ?_ | refine bDN ?_ _ | refine Below.setCell ?_ zq5 _ | refine Below.alloc ?_ zq5 _)
set_option maxHeartbeats 4000000 in
set_option maxRecDepth 100000 in
theorem sightRay_hi (k : Nat) (w : Int) (A : Option Addr) (c : Nat) (l : List (S57)) (a1 m : Int) (h : decide (a1 < 0) = false) (h' : decide (m ≤ a1) = true) (W : World) (hr : Kd.C k57 W A l.length l) (hc : l.length ≤ c) (hm : impl_SightMany.f k w l = some m) : Calls Try.prog 69 #[.agg #[.int .i64 w, .slice A l.length c], .int .i64 a1] W fun e w' => e = .returned (.tuple #[.agg #[.int .i64 0, .int .i64 0], .bool false]) ∧ Below W.heap.size W w' := by
 go_enter Try.func69, Try.ntmps69
 go_wp2_with (go_at_call 52; refine (impl_SightMany.calls k w A c l m _ zq50 hc hm).mono ?_; rintro e w' ⟨rfl, hbel⟩; have bk0 : w'.heap[W.heap.size]? = some (.cells #[.int .i64 w, .slice A l.length c] 25 (0, 0)) := kBe (by exact one_new W _ _) hbel; have bk1 : w'.heap[W.heap.size + 1]? = some (.cells #[.int .i64 0, .int .i64 0] 92 (0, 0)) := kBe (by exact last_new W _ _) hbel; have f0 := kFr bk1 0; have f1 := kFr bk1 1; have c0 : w'.cell? ⟨W.heap.size + 1, 0, none⟩ = some (.int .i64 0) := (kCe bk1 0).trans rfl; have c1 : w'.cell? ⟨W.heap.size + 1, 1, none⟩ = some (.int .i64 0) := (kCe bk1 1).trans rfl; have bb : Below W.heap.size W w' := Below.trans zq90 (hbel.mono zq5))
 all_goals go_wp2
 all_goals refine bodyPost_ret (v := .tuple #[.agg #[.int .i64 0, .int .i64 0], .bool false]) (by simp [results, Try.results69, go_sem, c0, c1]) rfl ⟨rfl, ?_⟩
 all_goals (repeat (first | exact bb | refine Below.drew ?_ | refine bDN ?_ _ | refine Below.setCell ?_ zq5 _))
set_option maxHeartbeats 4000000 in
set_option maxRecDepth 100000 in
theorem sightRay_in (k : Nat) (w : Int) (A : Option Addr) (c : Nat) (l : List (S57)) (a1 m h : Int) (h0 : decide (a1 < 0) = false) (h1 : decide (m ≤ a1) = false) (W : World) (hr : Kd.C k57 W A l.length l) (hc : l.length ≤ c) (hm : impl_SightMany.f k w l = some m)
  (hw : 1 ≤ w) (hw' : w ≤ 5) (hh : 1 ≤ h) (hh' : h ≤ 5) (hn : l.length ≤ 25) (hd : (l.length : Int) / w = h) (ha : a1 < 2 * (w + h)) : Calls Try.prog 69 #[.agg #[.int .i64 w, .slice A l.length c], .int .i64 a1] W fun e w' => e = .returned (.tuple #[.agg #[.int .i64 (rayAt w h a1).1, .int .i64 (rayAt w h a1).2], .bool true]) ∧ Below W.heap.size W w' := by
 obtain ⟨wn, rfl⟩ : ∃ wn : Nat, w = (wn : Int) := ⟨w.toNat, by omega⟩
 obtain ⟨hnn, rfl⟩ : ∃ hn : Nat, h = (hn : Int) := ⟨h.toNat, by omega⟩
 obtain ⟨an, rfl⟩ : ∃ an : Nat, a1 = (an : Int) := ⟨a1.toNat, by have := of_decide_eq_false h0; omega⟩
 have HD := Zs.mk hd
 clear hd
 go_enter Try.func69, Try.ntmps69
 go_wp2_with (first | (go_at_call 52; refine (impl_SightMany.calls k wn A c l m _ zq50 hc hm).mono ?_; rintro e w' ⟨rfl, hbel⟩; have bk0 : w'.heap[W.heap.size]? = some (.cells #[.int .i64 (wn : Int), .slice A l.length c] 25 (0, 0)) := kBe (by exact one_new W _ _) hbel; have bk1 : w'.heap[W.heap.size + 1]? = some (.cells #[.int .i64 0, .int .i64 0] 92 (0, 0)) := kBe (by exact last_new W _ _) hbel; have g0 : w'.cell? ⟨W.heap.size, 0, none⟩ = some (.int .i64 (wn : Int)) := (kCe bk0 0).trans rfl; have g1 : w'.cell? ⟨W.heap.size, 1, none⟩ = some (.slice A l.length c) := (kCe bk0 1).trans rfl; have bb : Below W.heap.size W w' := Below.trans zq90 (hbel.mono zq5)) | (go_at_call 86; refine (sidesRay_read wn hnn A l.length c an zq37 zq37 zq37 zq37 hn HD.out zq37 _).mono ?_; rintro e w2 ⟨ad, m7, c7, rfl, q1, r0, r1, hbel2⟩; have bk2 := kBe bk1 hbel2; have f0 := kFr bk2 0; have f1 := kFr bk2 1; have c0 : w2.cell? ⟨W.heap.size + 1, 0, none⟩ = some (.int .i64 0) := (kCe bk2 0).trans rfl; have c1 : w2.cell? ⟨W.heap.size + 1, 1, none⟩ = some (.int .i64 0) := (kCe bk2 1).trans rfl; have bb2 : Below W.heap.size W w2 := Below.trans bb (hbel2.mono (by first | (simp; done) | (simp; omega) | exact bb.size))))
 all_goals refine bodyPost_ret (v := .tuple #[.agg #[.int .i64 (rayAt (wn : Int) (hnn : Int) (an : Int)).1, .int .i64 (rayAt (wn : Int) (hnn : Int) (an : Int)).2], .bool true]) (by simp [results, Try.results69, go_sem, c0, c1]) rfl ⟨rfl, ?_⟩
 all_goals (repeat (first | exact bb2 | refine Below.drew ?_ | refine bDN ?_ _ | refine Below.setCell ?_ zq5 _))
theorem impl_SightRay.calls (k : Nat) (a0_0 : Int) (A0_1 : Option Addr) (c0_1 : Nat) (l0_1 : List (S57)) (a1 : Int) (r1 : Int) (r2 : Int) (r3 : Bool) (w : World) (hr0_1 : Kd.C k57 w A0_1 l0_1.length l0_1) (hc0_1 : l0_1.length ≤ c0_1) (h : impl_SightRay.f k a0_0 l0_1 a1 = some (r1, r2, r3)) :
  Calls Try.prog 69 #[.agg #[.int .i64 a0_0, .slice A0_1 l0_1.length c0_1], .int .i64 a1] w fun e w' => e = .returned (.tuple #[.agg #[.int .i64 r1, .int .i64 r2], .bool r3]) ∧ Below w.heap.size w w' := by
 unfold impl_SightRay.f at h
 by_cases h0 : a1 < 0
 ·rw [if_pos h0] at h; cases h
  exact sightRay_neg a0_0 A0_1 _ c0_1 a1 (by simpa using h0) w
 ·rw [if_neg h0] at h
  cases hm : impl_SightMany.f k a0_0 l0_1 with
  | none => rw [hm] at h; cases h
  | some m =>
   rw [hm] at h
   have h : (if a1 ≥ m then some (0, 0, false) else _) = some (r1, r2, r3) := h
   by_cases h1 : a1 ≥ m
   ·rw [if_pos h1] at h; cases h
    exact sightRay_hi k a0_0 A0_1 c0_1 l0_1 a1 m (by simpa using h0) (by simpa using h1) w hr0_1 hc0_1 hm
   ·rw [if_neg h1] at h
    by_cases h2 : 1 ≤ a0_0 ∧ a0_0 ≤ 5 ∧ 1 ≤ (l0_1.length : Int) / a0_0 ∧ (l0_1.length : Int) / a0_0 ≤ 5 ∧ l0_1.length ≤ 25 ∧ a1 < 2 * (a0_0 + (l0_1.length : Int) / a0_0)
    ·rw [if_pos h2] at h; cases h
     obtain ⟨g1, g2, g3, g4, g5, g6⟩ := h2
     exact sightRay_in k a0_0 A0_1 c0_1 l0_1 a1 m _ (by simpa using h0) (by simpa using h1) w hr0_1 hc0_1 hm g1 g2 g3 g4 g5 rfl g6
    ·rw [if_neg h2] at h; cases h

-- NOT PRINTED: function 70 (impl_trail_end)

end Go.Proofs.Ytejgohgmmndgbaa.PFnTrailTurn
--slim
