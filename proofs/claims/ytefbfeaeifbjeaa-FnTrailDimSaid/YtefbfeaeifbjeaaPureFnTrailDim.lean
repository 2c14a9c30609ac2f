/- The plain statement behind FnTrailDim: where the first cell, free and not come into again, becomes one that dims, half as much of each end leaves. No condition. -/
import Derived.Test.YtefbfeaeifbjeaaDFnTrailDim
namespace Go.Proofs.Ytefbfeaeifbjeaa.Pure
open Go.RowKit Go.Proofs.Ytefbfeaeifbjeaa.PFnTrailDim Go.Proofs.YtefbfeaeifbjeaaW.PrintWords Go.Proofs.YtefbfeaeifbjeaaW.PrintLast Go.Proofs.Ytefbfeaeifbjeaa.Pl Go.Proofs.Ytefbfeaeifbjeaa.DFnTrailDim
set_option linter.unusedVariables false

/-- Half of what left leaves. -/
theorem dim_half {w : Int} {xs : List (S57)} {hi : Int} (o : Ok w xs hi) (v : Int) (v0 : 0 ≤ v) (v1 : v < 2 * (w + hi)) (q q2 : Nat) (t t2 : Tr.Tr)
    (hq : Tr.go w (xs.length : Int) (kdOf xs) (sgOf w hi) q (rayAt w hi v).1 (rayAt w hi v).2 64 = some t) (l : List Tr.V) (hl : t.1 = ((rayAt w hi v).1, (rayAt w hi v).2, 64) :: l) (hv : ∀ z ∈ l, z.1 ≠ (rayAt w hi v).1) (hfree : kdOf xs (rayAt w hi v).1 = 0)
    (hq2 : Tr.go w ((xs.set (rayAt w hi v).1.toNat ⟨6, 0⟩).length : Int) (kdOf (xs.set (rayAt w hi v).1.toNat ⟨6, 0⟩)) (sgOf w hi) q2 (rayAt w hi v).1 (rayAt w hi v).2 64 = some t2) (x : Int) : Tr.outs x t2.2 = Tr.halves x t.2 := by
  have hok : Tr.Ok (xs.length : Int) (rayAt w hi v) := (ray_fresh o v v0 v1).1
  rw [List.length_set] at hq2
  generalize ha : (rayAt w hi v).1 = a at *
  generalize hd : (rayAt w hi v).2 = d at *
  have a01 : 0 ≤ a ∧ a < (xs.length : Int) := by rw [← ha]; exact hok.1
  have d01 : 0 ≤ d ∧ d ≤ 3 := by rw [← hd]; exact hok.2
  have k6 : kdOf (xs.set a.toNat ⟨6, 0⟩) a = 6 := kd_set a01.1 a01.2 _
  cases q with
  | zero => cases hq
  | succ q =>
    rw [Tr.go, if_neg (by decide), hfree, if_neg (by decide), if_neg (by decide), if_neg (by decide), if_neg (by decide), show Tr.dirT 0 d = d from rfl] at hq
    obtain ⟨u, hu, hq⟩ := Tr.bind_some hq
    cases hq
    have hl : u.1 = l := (List.cons.inj hl).2
    cases q2 with
    | zero => cases hq2
    | succ q2 =>
      rw [Tr.go, if_neg (by decide), k6, if_neg (by decide), if_neg (by decide), if_pos rfl] at hq2
      obtain ⟨u2, hu2, hq2⟩ := Tr.bind_some hq2
      cases hq2
      show Tr.outs x (Tr.en 3 a (64 - 64 / 2) ++ u2.2) = Tr.halves x u.2
      rw [Tr.outs_app, Tr.outs_en x 3 a _ (by decide), Int.zero_add]
      unfold Tr.lv at hu hu2
      rw [if_neg (by decide)] at hu hu2
      cases hx : Tr.nxt w (xs.length : Int) a d with
      | none =>
        rw [hx] at hu hu2
        cases hu; cases hu2
        simp only [Tr.outs, Tr.halves]
      | some a' =>
        rw [hx] at hu hu2
        obtain ⟨q', t', ht', e⟩ := Tr.go_half o.w1 (mod_ok o) (kd' := kdOf (xs.set a.toNat ⟨6, 0⟩)) a x (fun b hb hne => kd_set_ne hb.1 hb.2 a01.1 hne _) q a' d 64 u ⟨Tr.nxt_in o.w1 (mod_ok o) a01 d01 hx, d01⟩ (by decide) (fun z hz => hv z (by rw [← hl]; exact hz)) hu
        rw [← e, Tr.go_det hu2 ht']
section
variable {w : Int} {xs ys : List (S57)} {hi : Int} {v : Int} {es : List Tr.V}
theorem dim_l2 (hE : Wts es) (x : Int) (x0 : 0 ≤ x) (x1 : x ≤ 100) (next : Ev (fun k => laws_FnTrailDim.l1 k v true (es.map fin) (x + 1) w xs w ys) true) (hto : Ev (fun r => impl_TrailTo.f r w ys v x) (Tr.halves x es)) (d : Nat) :
    ∀ (i : Nat) (acc : Int), i + d = es.length → 0 ≤ acc → acc ≤ 64 * (i : Int) → acc + Tr.halves x (es.drop i) = Tr.halves x es → Ev (fun k => laws_FnTrailDim.l2 k v true (es.map fin) x acc (i : Int) w xs w ys) true := by
  have hl := hE.1
  have hm : (es.map fin).length = es.length := List.length_map ..
  induction d with
  | zero =>
    intro i acc hi a0 a1 he
    rw [List.drop_eq_nil_of_le (by omega)] at he
    have he : acc = Tr.halves x es := by rw [← he]; exact (Int.add_zero _).symm
    refine Ev.step (f := fun k => (impl_TrailTo.f k w ys v x).bind fun t314 => (if t314 = acc then (laws_FnTrailDim.l1 k v true (es.map fin) (wrap64 (x + 1)) w xs w ys) else (some false))) (fun k => by rw [laws_FnTrailDim.l2, if_neg (by omega)]) ?_
    refine Ev.bind hto (Ev.congr (f := fun k => laws_FnTrailDim.l1 k v true (es.map fin) (x + 1) w xs w ys) (fun k => ?_) next)
    rw [if_pos he.symm, w64 (by omega) (by omega)]
  | succ d ih =>
    intro i acc hi a0 a1 he
    have hlt : i < es.length := by omega
    have hw := hE.2 es[i] (List.getElem_mem _)
    rw [drop_at hlt] at he
    simp only [Tr.halves] at he
    by_cases c : es[i].1 = 0 ∧ es[i].2.1 = x
    · rw [if_pos c] at he
      have r := ih (i + 1) (acc + es[i].2.2 / 2) (by omega) (by omega) (by omega) (by omega)
      refine Ev.step (f := fun k => laws_FnTrailDim.l2 k v true (es.map fin) x (acc + es[i].2.2 / 2) ((i + 1 : Nat) : Int) w xs w ys) (fun k => ?_) r
      have hh : wrap64 (Int.tdiv ((fin es[i]).f2) 2) = es[i].2.2 / 2 := by
        show wrap64 (Int.tdiv es[i].2.2 2) = _
        rw [Int.tdiv_eq_ediv_of_nonneg (by omega)]; exact w64 (by omega) (by omega)
      rw [laws_FnTrailDim.l2, if_pos (by omega), if_pos (by omega), rdF hlt, if_pos (by exact c.1), if_pos (by exact c.2), w64 (x := (i : Int) + 1) (by omega) (by omega), hh, w64 (x := acc + es[i].2.2 / 2) (by omega) (by omega)]
      rfl
    · rw [if_neg c, Int.zero_add] at he
      have r := ih (i + 1) acc (by omega) a0 (by omega) he
      refine Ev.step (f := fun k => laws_FnTrailDim.l2 k v true (es.map fin) x acc ((i + 1 : Nat) : Int) w xs w ys) (fun k => ?_) r
      rw [laws_FnTrailDim.l2, if_pos (by omega), if_pos (by omega), rdF hlt, w64 (x := (i : Int) + 1) (by omega) (by omega)]
      by_cases c0 : es[i].1 = 0
      · rw [if_pos (by exact c0), if_neg (show ¬ (fin es[i]).f1 = x from fun e => c ⟨c0, e⟩)]; rfl
      · rw [if_neg (by exact c0)]; rfl
theorem dim_l1 (o : Ok w xs hi) (hE : Wts es) (hto : ∀ x, Ev (fun r => impl_TrailTo.f r w ys v x) (Tr.halves x es)) (d : Nat) : ∀ x : Int, 0 ≤ x → x + d = 2 * (w + hi) → Ev (fun k => laws_FnTrailDim.l1 k v true (es.map fin) x w xs w ys) true := by
  have w1 := o.w1; have w5 := o.w5; have h1 := o.h1; have h5 := o.h5
  have lx := len25 o
  have hm := impl_many w xs (by unfold maxLen; omega)
  rw [ok_gok o, if_pos rfl, o.div] at hm
  induction d with
  | zero =>
    intro x x0 hd
    refine Ev.step (f := fun k => (impl_SightMany.f k w xs).bind fun t310 => (if x < t310 then (laws_FnTrailDim.l2 k v true (es.map fin) x 0 0 w xs w ys) else (some true))) (fun k => by rw [laws_FnTrailDim.l1]) ?_
    exact Ev.bind hm (Ev.congr (f := fun _ => some true) (fun k => by rw [if_neg (by omega)]) (Ev.now _))
  | succ d ih =>
    intro x x0 hd
    refine Ev.step (f := fun k => (impl_SightMany.f k w xs).bind fun t310 => (if x < t310 then (laws_FnTrailDim.l2 k v true (es.map fin) x 0 0 w xs w ys) else (some true))) (fun k => by rw [laws_FnTrailDim.l1]) ?_
    refine Ev.bind hm (Ev.congr (f := fun k => laws_FnTrailDim.l2 k v true (es.map fin) x 0 ((0 : Nat) : Int) w xs w ys) (fun k => by rw [if_pos (by omega)]; rfl) ?_)
    exact dim_l2 hE x x0 (by omega) (ih (x + 1) (by omega) (by omega)) (hto x) es.length 0 0 (by omega) (by omega) (by omega) (by rw [Int.zero_add, List.drop_zero])
end
theorem dim_l0 {w : Int} {xs : List (S57)} {hi : Int} (o : Ok w xs hi) (v : Int) (v0 : 0 ≤ v) (v1 : v < 2 * (w + hi)) (q : Nat) (t : Tr.Tr) (hq : Tr.go w (xs.length : Int) (kdOf xs) (sgOf w hi) q (rayAt w hi v).1 (rayAt w hi v).2 64 = some t) (h1 : t.1.length ≤ 20000) (h2 : t.2.length ≤ 60000)
    (l : List Tr.V) (hl : t.1 = ((rayAt w hi v).1, (rayAt w hi v).2, 64) :: l) (hfree : kdOf xs (rayAt w hi v).1 = 0) (d : Nat) : ∀ i : Nat, 1 ≤ i → i + d = t.1.length → 
    (∀ z ∈ l.take (i - 1), z.1 ≠ (rayAt w hi v).1) → Ev (fun k => laws_FnTrailDim.l0 k v (t.1.map vis) (rayAt w hi v).1 (i : Int) w xs) true := by
  have hok : Tr.Ok (xs.length : Int) (rayAt w hi v) := (ray_fresh o v v0 v1).1
  have a01 : 0 ≤ (rayAt w hi v).1 ∧ (rayAt w hi v).1 < (xs.length : Int) := hok.1
  have hm : (t.1.map vis).length = t.1.length := List.length_map ..
  have hll : t.1.length = l.length + 1 := by rw [hl]; rfl
  induction d with
  | zero =>
    intro i i1 hd hv
    rw [List.take_of_length_le (by omega)] at hv
    have p := ok_set o (rayAt w hi v).1.toNat ⟨6, 0⟩ (by unfold okc; simp)
    obtain ⟨q2, t2, hq2, g1, g2⟩ := trail_ex p v v0 v1
    have hto : ∀ x, Ev (fun r => impl_TrailTo.f r w (xs.set (rayAt w hi v).1.toNat ⟨6, 0⟩) v x) (Tr.halves x t.2) := fun x => by
      have h := to_ev p v v0 v1 q2 t2 hq2 g1 g2 x
      rw [dim_half o v v0 v1 q q2 t t2 hq l hl hv hfree hq2 x] at h
      exact h
    refine Ev.step (f := fun k => (impl_GridPut.f k w xs (rayAt w hi v).1 6 0).bind fun bt301 => ((impl_TrailEnds.f k w xs v).bind fun t307 => (laws_FnTrailDim.l1 k v bt301.2.2 t307 0 w xs bt301.1 bt301.2.1))) (fun k => by rw [laws_FnTrailDim.l0, if_neg (by omega)]) ?_
    have he : Ev (fun k => impl_TrailEnds.f k w xs v) (t.2.map fin) := Ev.bind (impl_trail o v v0 v1 q t hq h1 h2) (Ev.now _)
    have w1 := o.w1; have w5 := o.w5; have hh1 := o.h1; have hh5 := o.h5
    refine Ev.bind (put_ev o _ 6 0 (by unfold okc; omega) a01.1 a01.2) (Ev.bind he ?_)
    exact dim_l1 o (wts_of o v v0 v1 q t hq h2) hto (2 * (w + hi)).toNat 0 (by omega) (by omega)
  | succ d ih =>
    intro i i1 hd hv
    have hlt : i < t.1.length := by omega
    have hr : rd_T65 (t.1.map vis) (i : Int) = vis t.1[i] := by rw [rdV (by rw [List.length_map]; exact hlt), List.getElem_map]
    have hli : t.1[i] = l[i - 1]'(by omega) := by
      cases i with
      | zero => omega
      | succ j => simp only [hl]; rfl
    by_cases c : t.1[i].1 = (rayAt w hi v).1
    · refine Ev.step (f := fun _ => some true) (fun k => ?_) (Ev.now _)
      rw [laws_FnTrailDim.l0, if_pos (by omega), if_pos (by omega), hr, if_pos (by exact c)]
    · refine Ev.step (f := fun k => laws_FnTrailDim.l0 k v (t.1.map vis) (rayAt w hi v).1 ((i + 1 : Nat) : Int) w xs) (fun k => ?_) (ih (i + 1) (by omega) (by omega) ?_)
      · rw [laws_FnTrailDim.l0, if_pos (by omega), if_pos (by omega), hr, if_neg (by exact c), w64 (by omega) (by omega)]; rfl
      · intro z hz
        have e : l.take (i + 1 - 1) = l.take (i - 1) ++ [l[i - 1]'(by omega)] := by
          rw [show i + 1 - 1 = (i - 1) + 1 from by omega]; exact (List.take_append_getElem (by omega)).symm
        rw [e] at hz
        rcases List.mem_append.1 hz with hz | hz
        · exact hv z hz
        · rw [List.mem_singleton] at hz
          rw [hz, ← hli]; exact c
theorem FnTrailDim : laws_FnTrailDim.Pure := by
  intro l hl _ hw
  refine Ev.rounds (r := true) ?_
  by_cases hbig : (l.length : Int) > 1048576
  · exact Ev.congr (f := fun _ => some true) (fun k => by unfold laws_FnTrailDim.f; rw [if_pos hbig]) (Ev.now _)
  · obtain ⟨s, ho, hs⟩ := open_ev hw hl
    obtain ⟨w, xs, p, hsome, hsm, hp, hp'⟩ := some_ev hs 0 (by omega) (by omega)
    have hxl := hsm.len
    have hx : xs.length ≤ maxLen := by unfold maxLen; omega
    obtain ⟨v, p', hsi, _, _⟩ := sight_ev hs p hp (by omega) w xs hx
    have hdraw : Ev (fun k => spec_DrawTrailVisits.f k l) (w, xs, v) := by
      refine Ev.bind (a := (w, xs, v)) ?_ (Ev.now _)
      exact Ev.bind (Ev.congr (f := fun _ => some (s, 0)) (fun k => ho) (Ev.now _)) (Ev.bind hsome (Ev.bind hsi (Ev.now _)))
    have jt : ∀ vs : List (S65), vs.length ≤ 20000 → Ev (fun k => spec_TrailVisits.f k w xs v) vs → Ev (fun k => laws_FnTrailDim.j0 k v vs true w xs) true := by
      intro vs hvs hsp
      refine Ev.step (f := fun k => (spec_TrailVisits.f k w xs v).bind fun t286 => ((laws_llVisits.f k vs t286).bind fun t289 => (some t289))) (fun k => by rw [laws_FnTrailDim.j0, if_pos rfl]) ?_
      exact Ev.bind hsp (Ev.bind (llVisits_same vs (by unfold maxLen; omega)) (Ev.now _))
    refine Ev.congr (fun k => by unfold laws_FnTrailDim.f; rw [if_neg hbig]) (Ev.bind hdraw ?_)
    by_cases h : gok w xs = true ∧ 0 ≤ v ∧ v < 2 * (w + (xs.length : Int) / w)
    · obtain ⟨g, v0, v1⟩ := h
      have hls := llSight_ev w xs hx v
      rw [g, decide_eq_true ⟨v0, v1⟩] at hls
      obtain ⟨high, o⟩ := ok_of g
      rw [o.div] at v1
      obtain ⟨q, t, hq, h1, h2⟩ := trail_ex o v v0 v1
      have hi : Ev (fun k => impl_TrailVisits.f k w xs v) (t.1.map vis) := Ev.bind (impl_trail o v v0 v1 q t hq h1 h2) (Ev.now _)
      have hsp := spec_vis o hx v v0 v1 q t hq h1 h2
      have hvl : (t.1.map vis).length = t.1.length := List.length_map ..
      have hsame := llVisits_same (t.1.map vis) (by unfold maxLen; omega)
      obtain ⟨tl, htl⟩ := Tr.go_head (by decide) hq
      have hok : Tr.Ok (xs.length : Int) (rayAt w high v) := (ray_fresh o v v0 v1).1
      have a01 : 0 ≤ (rayAt w high v).1 ∧ (rayAt w high v).1 < (xs.length : Int) := hok.1
      have hlen : 0 < t.1.length := by rw [htl]; simp
      have hr0 : rd_T65 (t.1.map vis) 0 = vis ((rayAt w high v).1, (rayAt w high v).2, 64) := by
        have h := rdV (es := t.1.map vis) (i := 0) (by omega)
        rw [show ((0 : Nat) : Int) = 0 from rfl] at h
        rw [h, List.getElem_map]
        congr 1
        simp only [htl, List.getElem_cons_zero]
      refine Ev.bind hi (Ev.bind hsp (Ev.bind hsame (Ev.congr (fun k => by rw [if_pos rfl]) (Ev.bind hls ?_))))
      refine Ev.congr (f := fun k => laws_FnTrailDim.j0 k v (t.1.map vis) ((kdOf xs (rayAt w high v).1) != 0) w xs) (fun k => ?_) ?_
      · rw [Bool.and_self, if_pos rfl, if_pos (by omega), hr0, if_pos (by exact a01.1), if_pos (by exact a01.2)]; rfl
      · by_cases hf : kdOf xs (rayAt w high v).1 = 0
        · refine Ev.step (f := fun k => laws_FnTrailDim.l0 k v (t.1.map vis) (rayAt w high v).1 ((1 : Nat) : Int) w xs) (fun k => ?_) ?_
          · rw [laws_FnTrailDim.j0, if_neg (by rw [hf]; decide), if_pos (by omega), hr0]; rfl
          · exact dim_l0 o v v0 v1 q t hq h1 h2 tl htl hf (t.1.length - 1) 1 (by omega) (by omega) (by simp)
        · rw [show ((kdOf xs (rayAt w high v).1) != 0) = true from by simpa using hf]
          exact jt _ (by omega) hsp
    · obtain ⟨vs, hvs, hi, hsp⟩ := vis_ev w xs hx v
      have hls := llSight_ev w xs hx v
      rw [not_sight h] at hls
      refine Ev.bind hi (Ev.bind hsp (Ev.bind (llVisits_same vs (by unfold maxLen; omega)) (Ev.congr (fun k => by rw [if_pos rfl]) (Ev.bind hls ?_))))
      exact Ev.congr (fun k => by rw [if_neg (by decide)]) (jt vs hvs hsp)

end Go.Proofs.Ytefbfeaeifbjeaa.Pure
