/- The plain statement behind FnTrailTurn: turned by a quarter, or seen in a mirror, as much light goes from sight to sight. No condition. -/
import Derived.Test.YtejgohgmmndgbaaDFnTrailTurn
namespace Go.Proofs.Ytejgohgmmndgbaa.Pure
open Go.RowKit Go.Proofs.Ytejgohgmmndgbaa.PFnTrailTurn Go.Proofs.YtejgohgmmndgbaaW.PrintWords Go.Proofs.YtejgohgmmndgbaaW.PrintLast Go.Proofs.Ytejgohgmmndgbaa.Pl Go.Proofs.Ytejgohgmmndgbaa.DFnTrailTurn
set_option linter.unusedVariables false

theorem swpK_eq (k : Int) : swpK k = Tr.swp k := rfl
theorem moved_at {l : List (S57)} {p : Nat → Nat} {i : Int} (i0 : 0 ≤ i) (i1 : i < (l.length : Int)) : kdOf (movedL l p) i = Tr.swp (kdOf l ((p i.toNat : Nat) : Int)) := by
 obtain ⟨j, rfl⟩ := Int.eq_ofNat_of_zero_le i0
 unfold kdOf
 rw [rdT (by rw [movedL_len]; omega)]
 unfold movedL
 simp only [List.getElem_map, List.getElem_range]
 rfl
theorem moved_okc {w : Int} {l : List (S57)} {hi : Int} (o : Ok w l hi) (p : Nat → Nat) (hp : ∀ i, i < l.length → p i < l.length) : ∀ c ∈ movedL l p, okc c.f0 c.f1 := by
 intro c hc
 unfold movedL at hc
 obtain ⟨i, hi, rfl⟩ := List.mem_map.1 hc
 have hlt := hp i (List.mem_range.1 hi)
 have hr : rd_T57 l ((p i : Nat) : Int) = l[p i] := rdT hlt
 have h := o.all _ (List.getElem_mem hlt)
 show okc (swpK (rd_T57 l ((p i : Nat) : Int)).f0) (rd_T57 l ((p i : Nat) : Int)).f1
 rw [hr]
 unfold okc at h ⊢
 unfold swpK
 repeat' split
 all_goals omega
section
variable {w : Int} {xs : List (S57)} {hi : Int} (o : Ok w xs hi)
include o
theorem ok_T : Ok hi (movedL xs (fun i => ((hi - 1 - (i : Int) % hi) * w + (i : Int) / hi).toNat)) w := by
 have w1 := o.w1; have w5 := o.w5; have h1 := o.h1; have h5 := o.h5; have len := o.len
 refine ⟨h1, h5, w1, w5, by rw [movedL_len, len, Int.mul_comm], by rw [movedL_len, len]; exact Int.mul_ediv_cancel _ (by omega), moved_okc o _ fun i hi' => ?_⟩
 have r0 : 0 ≤ (i : Int) / hi := Int.ediv_nonneg (by omega) (by omega)
 have r1 : (i : Int) / hi < w := Int.ediv_lt_of_lt_mul (by omega) (by omega)
 have h := mf_idx_T w1 w5 h5 r0 r1 (Int.emod_nonneg (i : Int) (show hi ≠ 0 by omega)) (Int.emod_lt_of_pos (i : Int) (show 0 < hi by omega))
 omega
theorem ok_F : Ok w (movedL xs (fun i => ((i : Int) / w * w + w - 1 - (i : Int) % w).toNat)) hi := by
 have w1 := o.w1; have w5 := o.w5; have h1 := o.h1; have h5 := o.h5; have len := o.len
 refine ⟨w1, w5, h1, h5, by rw [movedL_len, len], by rw [movedL_len]; exact o.div, moved_okc o _ fun i hi' => ?_⟩
 have r0 : 0 ≤ (i : Int) / w := Int.ediv_nonneg (by omega) (by omega)
 have r1 : (i : Int) / w < hi := Int.ediv_lt_of_lt_mul (by omega) (by rw [Int.mul_comm]; omega)
 have h := mf_idx_F w1 w5 h5 r0 r1 (Int.emod_nonneg (i : Int) (show w ≠ 0 by omega)) (Int.emod_lt_of_pos (i : Int) (show 0 < w by omega))
 omega
theorem kd_T (a : Int) (ha : 0 ≤ a ∧ a < (xs.length : Int)) : kdOf (movedL xs (fun i => ((hi - 1 - (i : Int) % hi) * w + (i : Int) / hi).toNat)) (Tr.piT w hi a) = Tr.swp (kdOf xs a) := by
 have w1 := o.w1; have h1 := o.h1
 have len := o.len
 have hin := Tr.piT_in w1 h1 (by rw [← len]; exact ha)
 rw [moved_at hin.1 (by rw [len]; exact hin.2)]
 obtain ⟨r, c, rfl, c0, c1, r0, r1, _, _⟩ := Tr.rc w1 ha.1 (by rw [← len]; exact ha.2)
 have e := Tr.piT_rc (w := w) (h := hi) (r := r) (c := c) c0 c1
 rw [e] at hin ⊢
 have hz : (((c * hi + (hi - 1 - r)).toNat : Nat) : Int) = c * hi + (hi - 1 - r) := Int.toNat_of_nonneg hin.1
 have hd := Tr.rc_div (w := hi) (r := c) (c := hi - 1 - r) (by omega) (by omega)
 have hv : (hi - 1 - (((c * hi + (hi - 1 - r)).toNat : Nat) : Int) % hi) * w + (((c * hi + (hi - 1 - r)).toNat : Nat) : Int) / hi = r * w + c := by
  rw [hz, hd.1, hd.2, show hi - 1 - (hi - 1 - r) = r from by omega]
 show Tr.swp (kdOf xs (((((hi - 1 - (((c * hi + (hi - 1 - r)).toNat : Nat) : Int) % hi) * w + (((c * hi + (hi - 1 - r)).toNat : Nat) : Int) / hi).toNat) : Nat) : Int)) = _
 rw [hv, Int.toNat_of_nonneg ha.1]
theorem kd_F (a : Int) (ha : 0 ≤ a ∧ a < (xs.length : Int)) : kdOf (movedL xs (fun i => ((i : Int) / w * w + w - 1 - (i : Int) % w).toNat)) (Tr.piF w a) = Tr.swp (kdOf xs a) := by
 have w1 := o.w1; have h1 := o.h1
 have len := o.len
 have hin := Tr.piF_in w1 (by rw [← len]; exact ha)
 rw [moved_at hin.1 (by rw [len]; exact hin.2)]
 obtain ⟨r, c, rfl, c0, c1, r0, r1, _, _⟩ := Tr.rc w1 ha.1 (by rw [← len]; exact ha.2)
 have e := Tr.piF_rc (w := w) (r := r) (c := c) c0 c1
 rw [e] at hin ⊢
 have hz : (((r * w + (w - 1 - c)).toNat : Nat) : Int) = r * w + (w - 1 - c) := Int.toNat_of_nonneg hin.1
 have hd := Tr.rc_div (w := w) (r := r) (c := w - 1 - c) (by omega) (by omega)
 have hv : (((r * w + (w - 1 - c)).toNat : Nat) : Int) / w * w + w - 1 - (((r * w + (w - 1 - c)).toNat : Nat) : Int) % w = r * w + c := by
  rw [hz, hd.1, hd.2]; omega
 show Tr.swp (kdOf xs ((((((r * w + (w - 1 - c)).toNat : Nat) : Int) / w * w + w - 1 - (((r * w + (w - 1 - c)).toNat : Nat) : Int) % w).toNat : Nat) : Int)) = _
 rw [hv, Int.toNat_of_nonneg ha.1]
theorem turn_ev : Ev (fun k => impl_GridTurn.f k w xs) (hi, movedL xs (fun i => ((hi - 1 - (i : Int) % hi) * w + (i : Int) / hi).toNat)) := by
 have hg := impl_ok w xs (by have := len25 o; unfold maxLen; omega)
 rw [ok_gok o] at hg
 refine Ev.bind hg (Ev.congr (f := fun _ => some (hi, movedL xs (fun i => ((hi - 1 - (i : Int) % hi) * w + (i : Int) / hi).toNat))) (fun k => ?_) (Ev.now _))
 rw [if_pos rfl, if_pos ⟨o.w1, o.w5, by rw [o.div]; exact o.h1, by rw [o.div]; exact o.h5, by rw [o.div]; exact o.len, len25 o, List.all_eq_true.2 fun c hc => (ctOk_iff _ _).2 (o.all c hc)⟩, o.div]
theorem flip_ev : Ev (fun k => impl_GridFlip.f k w xs) (w, movedL xs (fun i => ((i : Int) / w * w + w - 1 - (i : Int) % w).toNat)) := by
 have hg := impl_ok w xs (by have := len25 o; unfold maxLen; omega)
 rw [ok_gok o] at hg
 refine Ev.bind hg (Ev.congr (f := fun _ => some (w, movedL xs (fun i => ((i : Int) / w * w + w - 1 - (i : Int) % w).toNat))) (fun k => ?_) (Ev.now _))
 rw [if_pos rfl, if_pos ⟨o.w1, o.w5, by rw [o.div]; exact o.h1, by rw [o.div]; exact o.h5, by rw [o.div]; exact o.len, len25 o, List.all_eq_true.2 fun c hc => (ctOk_iff _ _).2 (o.all c hc)⟩]
theorem sturn_ev (v : Int) (v0 : 0 ≤ v) (v1 : v < 2 * (w + hi)) : Ev (fun k => impl_SightTurn.f k w xs v) (Tr.siT w hi v) := by
 have w1 := o.w1; have w5 := o.w5; have h1 := o.h1; have h5 := o.h5
 have hm := impl_many w xs (by have := len25 o; unfold maxLen; omega)
 rw [ok_gok o, if_pos rfl, o.div] at hm
 have hrows : impl_gridRows.f w xs = some hi := by unfold impl_gridRows.f; rw [if_neg (by omega), o.div, w64 (by omega) (by omega)]
 refine Ev.bind hm (Ev.congr (f := fun _ => some (Tr.siT w hi v)) (fun k => ?_) (Ev.now _))
 rw [if_neg (by omega), if_neg (by omega), hrows, Option.bind_some, if_neg (by omega), w64 (by omega) (by omega), Int.tmod_eq_emod_of_nonneg (by omega)]; rfl
theorem sflip_ev (v : Int) (v0 : 0 ≤ v) (v1 : v < 2 * (w + hi)) : Ev (fun k => impl_SightFlip.f k w xs v) (Tr.siF w hi v) := by
 have w1 := o.w1; have w5 := o.w5; have h1 := o.h1; have h5 := o.h5
 have hm := impl_many w xs (by have := len25 o; unfold maxLen; omega)
 rw [ok_gok o, if_pos rfl, o.div] at hm
 refine Ev.bind hm (Ev.congr (f := fun _ => some (Tr.siF w hi v)) (fun k => ?_) (Ev.now _))
 rw [if_neg (by omega), if_neg (by omega), if_neg (by omega), w64 (x := w - 1) (by omega) (by omega), w64 (x := w - 1 - v) (by omega) (by omega), w64 (by omega) (by omega), Int.tmod_eq_emod_of_nonneg (by omega)]; rfl
end
theorem FnTrailTurn : laws_FnTrailTurn.Pure := by
 intro l hl _ hw
 refine Ev.rounds (r := true) ?_
 by_cases hbig : (l.length : Int) > 1048576
 ·exact Ev.congr (f := fun _ => some true) (fun k => by unfold laws_FnTrailTurn.f; rw [if_pos hbig]) (Ev.now _)
 ·obtain ⟨w, xs, v, x, hdraw, hx31⟩ := drawto_ev hw hl
  have hx : xs.length ≤ maxLen := by unfold maxLen; omega
  have jt : ∀ n, Ev (fun k => spec_TrailTo.f k w xs v x) n → Ev (fun k => laws_FnTrailTurn.j0 k v x n true w xs) true := fun n hn =>
   Ev.step (f := fun k => (spec_TrailTo.f k w xs v x).bind fun t298 => (some (n == t298))) (fun k => by rw [laws_FnTrailTurn.j0, if_pos rfl]) (Ev.bind hn (Ev.congr (f := fun _ => some true) (fun k => by rw [beq_self_eq_true]) (Ev.now _)))
  refine Ev.congr (fun k => by unfold laws_FnTrailTurn.f; rw [if_neg hbig]) (Ev.bind hdraw ?_)
  by_cases h : gok w xs = true ∧ 0 ≤ v ∧ v < 2 * (w + (xs.length : Int) / w)
  ·obtain ⟨g, v0, v1⟩ := h
   have hls := llSight_ev w xs hx v
   have hlx := llSight_ev w xs hx x
   rw [g, decide_eq_true ⟨v0, v1⟩] at hls
   obtain ⟨hi, o⟩ := ok_of g
   rw [o.div] at v1 hlx
   obtain ⟨q, t, hq, h1, h2⟩ := trail_ex o v v0 v1
   refine Ev.bind (to_ev o v v0 v1 q t hq h1 h2 x) ?_
   refine Ev.bind (spec_to o hx v v0 v1 q t hq h1 h2 x) ?_
   refine Ev.congr (fun k => if_pos rfl) ?_
   refine Ev.bind hls ?_
   refine Ev.congr (fun k => by rw [Bool.and_self, if_pos rfl]) (Ev.bind hlx ?_)
   by_cases hb : 0 ≤ x ∧ x < 2 * (w + hi)
   ·rw [g, decide_eq_true hb]
    have pT := ok_T o
    have pF := ok_F o
    have sv := Tr.siT_in o.w1 o.h1 v0 v1
    have fv := Tr.siF_in o.w1 o.h1 v0 v1
    obtain ⟨qT, tT, hqT, hT1, hT2⟩ := trail_ex pT (Tr.siT w hi v) sv.1 (by omega)
    obtain ⟨qF, tF, hqF, hF1, hF2⟩ := trail_ex pF (Tr.siF w hi v) fv.1 fv.2
    have eT := to_ev pT (Tr.siT w hi v) sv.1 (by omega) qT tT hqT hT1 hT2 (Tr.siT w hi x)
    have eF := to_ev pF (Tr.siF w hi v) fv.1 fv.2 qF tF hqF hF1 hF2 (Tr.siF w hi x)
    rw [outs_T o pT (kd_T o) v x v0 v1 hb.1 hb.2 q qT t tT hq hqT] at eT
    rw [outs_F o pF (kd_F o) v x v0 v1 hb.1 hb.2 q qF t tF hq hqF] at eF
    refine Ev.step (fun k => by rw [laws_FnTrailTurn.j0, if_neg (by decide)]) (Ev.bind (turn_ev o) ?_)
    refine Ev.bind (sturn_ev o v v0 v1) ?_
    refine Ev.bind (sturn_ev o x hb.1 hb.2) ?_
    refine Ev.bind eT ?_
    refine Ev.bind (flip_ev o) ?_
    refine Ev.bind (sflip_ev o v v0 v1) ?_
    refine Ev.bind (sflip_ev o x hb.1 hb.2) ?_
    refine Ev.bind eF ?_
    exact Ev.congr (f := fun _ => some true) (fun k => by rw [if_pos rfl, beq_self_eq_true]) (Ev.now _)
   ·rw [decide_eq_false hb, Bool.and_false]
    exact jt _ (spec_to o hx v v0 v1 q t hq h1 h2 x)
  ·have hls := llSight_ev w xs hx v
   rw [not_sight h] at hls
   obtain ⟨n1, n2⟩ := to_no hx v x h
   refine Ev.bind n1 ?_
   refine Ev.bind n2 ?_
   refine Ev.congr (fun k => if_pos rfl) ?_
   refine Ev.bind hls ?_
   exact Ev.congr (fun k => by rw [if_neg (by decide)]) (jt 0 n2)

end Go.Proofs.Ytejgohgmmndgbaa.Pure
--slim
