/- The plain statement behind FnTrailWall: where the first cell becomes a wall, light ends there whole, and none comes out at that sight. No condition. -/
import Derived.Test.YtefbfeaeifbjeaaDFnTrailWall
namespace Go.Proofs.Ytefbfeaeifbjeaa.Pure
open Go.RowKit Go.Proofs.Ytefbfeaeifbjeaa.PFnTrailWall Go.Proofs.YtefbfeaeifbjeaaW.PrintWords Go.Proofs.YtefbfeaeifbjeaaW.PrintLast Go.Proofs.Ytefbfeaeifbjeaa.Pl Go.Proofs.Ytefbfeaeifbjeaa.DFnTrailWall

/-- Nothing leaves at a sight whose first cell is a wall. -/
theorem wall_to {w : Int} {xs : List (S57)} {hi : Int} (o : Ok w xs hi) (v : Int) (v0 : 0 ≤ v) (v1 : v < 2 * (w + hi)) (hk : kdOf xs (rayAt w hi v).1 = 1) (i : Int) (i0 : 0 ≤ i) (i1 : i < 2 * (w + hi)) :
    Ev (fun k => impl_TrailTo.f k w xs i v) 0 := by
  obtain ⟨q, t, hq, h1, h2⟩ := trail_ex o i i0 i1
  have h := to_ev o i i0 i1 q t hq h1 h2 v
  rw [Tr.outs_zero v t.2 ?_] at h
  · exact h
  intro x hx
  refine Tr.go_all o.w1 (mod_ok o) (fun y : Tr.V => ¬(y.1 = 0 ∧ y.2.1 = v)) (fun k a wt hk0 h => hk0 h.1) ?_ q _ _ _ t (ray_fresh o i i0 i1).1 hq x hx
  rintro a d wt ho k1 k7 hn ⟨_, hs⟩
  obtain ⟨m, m0, m1, hm⟩ := exit_sight o a d ho hn
  have e := sg_at o a d m m0 m1 hm
  have hs : sgOf w hi a d = v := hs
  rw [e] at hs
  subst hs
  rw [hm] at hk
  exact k1 hk
theorem wall_l0 {w : Int} {xs ys : List (S57)} {hi : Int} (o : Ok w xs hi) (p : Ok w ys hi) (v : Int) (v0 : 0 ≤ v) (v1 : v < 2 * (w + hi)) (hk : kdOf ys (rayAt w hi v).1 = 1) (n : Nat) : ∀ i : Int, 0 ≤ i → i + n = 2 * (w + hi) →
    Ev (fun k => laws_FnTrailWall.l0 k v true i w xs (rayAt w hi v).1 (rayAt w hi v).2 w ys) true := by
  have w1 := o.w1; have w5 := o.w5; have h1 := o.h1; have h5 := o.h5
  have lx := len25 o; have ly := len25 p
  have hm := impl_many w xs (by unfold maxLen; omega)
  rw [ok_gok o, if_pos rfl, o.div] at hm
  induction n with
  | zero =>
    intro i i0 hn
    refine Ev.step (f := fun k => (impl_SightMany.f k w xs).bind fun t300 => (if i < t300 then ((impl_TrailTo.f k w ys i v).bind fun t301 => (if t301 = 0 then (laws_FnTrailWall.l0 k v true (wrap64 (i + 1)) w xs (rayAt w hi v).1 (rayAt w hi v).2 w ys) else (some false))) else (if true = true then ((impl_TrailEnds.f k w ys v).bind fun t302 => ((laws_llEnds.f k t302 (([(⟨1, (rayAt w hi v).1, 64⟩ : S60)] : List (S60)))).bind fun t308 => (some t308))) else (some false)))) (fun k => by rw [laws_FnTrailWall.l0]) ?_
    refine Ev.bind hm (Ev.congr (f := fun k => (impl_TrailEnds.f k w ys v).bind fun t302 => ((laws_llEnds.f k t302 (([(⟨1, (rayAt w hi v).1, 64⟩ : S60)] : List (S60)))).bind fun t308 => (some t308))) (fun k => by rw [if_neg (by omega), if_pos rfl]) ?_)
    have hq : Tr.go w (ys.length : Int) (kdOf ys) (sgOf w hi) 1 (rayAt w hi v).1 (rayAt w hi v).2 64 = some ([((rayAt w hi v).1, (rayAt w hi v).2, 64)], [(1, (rayAt w hi v).1, 64)]) := by
      rw [Tr.go, if_neg (by decide), if_pos hk]
    have he : Ev (fun k => impl_TrailEnds.f k w ys v) [(⟨1, (rayAt w hi v).1, 64⟩ : S60)] := Ev.bind (impl_trail p v v0 v1 1 _ hq (by simp) (by simp)) (Ev.now _)
    exact Ev.bind he (Ev.bind (llEnds_same _ (by unfold maxLen; simp)) (Ev.now _))
  | succ n ih =>
    intro i i0 hn
    refine Ev.step (f := fun k => (impl_SightMany.f k w xs).bind fun t300 => (if i < t300 then ((impl_TrailTo.f k w ys i v).bind fun t301 => (if t301 = 0 then (laws_FnTrailWall.l0 k v true (wrap64 (i + 1)) w xs (rayAt w hi v).1 (rayAt w hi v).2 w ys) else (some false))) else (if true = true then ((impl_TrailEnds.f k w ys v).bind fun t302 => ((laws_llEnds.f k t302 (([(⟨1, (rayAt w hi v).1, 64⟩ : S60)] : List (S60)))).bind fun t308 => (some t308))) else (some false)))) (fun k => by rw [laws_FnTrailWall.l0]) ?_
    refine Ev.bind hm (Ev.congr (f := fun k => (impl_TrailTo.f k w ys i v).bind fun t301 => (if t301 = 0 then (laws_FnTrailWall.l0 k v true (wrap64 (i + 1)) w xs (rayAt w hi v).1 (rayAt w hi v).2 w ys) else (some false))) (fun k => by rw [if_pos (by omega)]) ?_)
    refine Ev.bind (wall_to p v v0 v1 hk i i0 (by omega)) (Ev.congr (f := fun k => laws_FnTrailWall.l0 k v true (i + 1) w xs (rayAt w hi v).1 (rayAt w hi v).2 w ys) (fun k => ?_) (ih (i + 1) (by omega) (by omega)))
    rw [if_pos rfl, w64 (by omega) (by omega)]

theorem FnTrailWall : laws_FnTrailWall.Pure := by
  intro l hl _ hw
  refine Ev.rounds (r := true) ?_
  by_cases hbig : (l.length : Int) > 1048576
  · exact Ev.congr (f := fun _ => some true) (fun k => by unfold laws_FnTrailWall.f; rw [if_pos hbig]) (Ev.now _)
  · obtain ⟨s, ho, hs⟩ := open_ev hw hl
    obtain ⟨w, xs, p, hsome, hsm, hp, hp'⟩ := some_ev hs 0 (by omega) (by omega)
    have hxl := hsm.len
    have hx : xs.length ≤ maxLen := by unfold maxLen; omega
    obtain ⟨v, p', hsi, _, _⟩ := sight_ev hs p hp (by omega) w xs hx
    have hdraw : Ev (fun k => spec_DrawTrailEnds.f k l) (w, xs, v) := by
      refine Ev.bind (a := (w, xs, v)) ?_ (Ev.now _)
      exact Ev.bind (Ev.congr (f := fun _ => some (s, 0)) (fun k => ho) (Ev.now _)) (Ev.bind hsome (Ev.bind hsi (Ev.now _)))
    obtain ⟨es, hes, hi, hsp⟩ := ends_ev w xs hx v
    have hsame := llEnds_same es (by unfold maxLen; omega)
    have jt : Ev (fun k => laws_FnTrailWall.j0 k v es true w xs) true := by
      refine Ev.step (f := fun k => (spec_TrailEnds.f k w xs v).bind fun t286 => ((laws_llEnds.f k es t286).bind fun t289 => (some t289))) (fun k => by rw [laws_FnTrailWall.j0, if_pos rfl]) ?_
      exact Ev.bind hsp (Ev.bind hsame (Ev.now _))
    refine Ev.congr (fun k => by unfold laws_FnTrailWall.f; rw [if_neg hbig]) (Ev.bind hdraw ?_)
    refine Ev.bind hi (Ev.bind hsp (Ev.bind hsame (Ev.congr (fun k => by rw [if_pos rfl]) (Ev.bind (llSight_ev w xs hx v) ?_))))
    by_cases h : gok w xs = true ∧ 0 ≤ v ∧ v < 2 * (w + (xs.length : Int) / w)
    · obtain ⟨g, v0, v1⟩ := h
      rw [g, decide_eq_true ⟨v0, v1⟩]
      obtain ⟨high, o⟩ := ok_of g
      rw [o.div] at v1
      have hok : Tr.Ok (xs.length : Int) (rayAt w high v) := (ray_fresh o v v0 v1).1
      have a01 : 0 ≤ (rayAt w high v).1 ∧ (rayAt w high v).1 < (xs.length : Int) := hok.1
      have w1 := o.w1; have w5 := o.w5; have h1 := o.h1; have h5 := o.h5
      refine Ev.step (f := fun k => (impl_SightRay.f k w xs v).bind fun bt290 => ((impl_GridPut.f k w xs bt290.1 1 0).bind fun bt294 => (laws_FnTrailWall.l0 k v bt294.2.2 0 w xs bt290.1 bt290.2.1 bt294.1 bt294.2.1))) (fun k => by rw [laws_FnTrailWall.j0, if_neg (by decide)]) ?_
      refine Ev.bind (impl_ray o v v0 v1) (Ev.bind (put_ev o _ 1 0 (by unfold okc; omega) a01.1 a01.2) ?_)
      exact wall_l0 o (ok_set o _ ⟨1, 0⟩ (by unfold okc; simp)) v v0 v1 (kd_set a01.1 a01.2 _) (2 * (w + high)).toNat 0 (by omega) (by omega)
    · rw [show (gok w xs && decide (0 ≤ v ∧ v < 2 * (w + (xs.length : Int) / w))) = false from by
        rw [Bool.and_eq_false_iff]
        by_cases g : gok w xs = true
        · right; exact decide_eq_false (fun e => h ⟨g, e⟩)
        · left; simpa using g]
      exact jt

end Go.Proofs.Ytefbfeaeifbjeaa.Pure
