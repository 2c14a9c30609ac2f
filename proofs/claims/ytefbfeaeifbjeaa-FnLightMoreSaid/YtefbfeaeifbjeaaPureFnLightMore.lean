/- The plain statement behind FnLightMore: a lamp that is brighter by one adds what light ends at it. No condition. -/
import Derived.Test.YtefbfeaeifbjeaaDFnLightMore
namespace Go.Proofs.Ytefbfeaeifbjeaa.Pure
open Go.RowKit Go.Proofs.Ytefbfeaeifbjeaa.PFnLightMore Go.Proofs.YtefbfeaeifbjeaaW.PrintWords Go.Proofs.YtefbfeaeifbjeaaW.PrintLast Go.Proofs.Ytefbfeaeifbjeaa.Pl Go.Proofs.Ytefbfeaeifbjeaa.DFnLightMore
set_option linter.unusedVariables false

def bys (a : Int) : List Tr.V → Int
 | [] => 0
 | e :: l => (if e.1 = 2 ∧ e.2.1 = a then e.2.2 else 0) + bys a l
theorem rd_set {xs : List (S57)} {i : Nat} (h : i < xs.length) (c : S57) (a : Int) : rd_T57 (xs.set i c) a = if a.toNat = i then c else rd_T57 xs a := by
 unfold rd_T57
 rw [List.getD_eq_getElem?_getD, List.getD_eq_getElem?_getD, List.getElem?_set]
 by_cases e : a.toNat = i
 ·rw [if_pos e, if_pos e.symm, if_pos h]; rfl
 ·rw [if_neg e, if_neg (fun with_reducible_ => e with_reducible_.symm)]
theorem kd_same {xs : List (S57)} {i : Nat} (h : i < xs.length) (c : S57) (hc : xs[i].f0 = c.f0) : kdOf (xs.set i c) = kdOf xs := by
 funext a
 unfold kdOf
 rw [rd_set h]
 by_cases e : a.toNat = i
 ·rw [if_pos e]
  unfold rd_T57
  rw [List.getD_eq_getElem?_getD, e, List.getElem?_eq_getElem h, Option.getD_some, hc]
 ·rw [if_neg e]
theorem lights_more {xs : List (S57)} {i : Nat} (h : i < xs.length) (es : List Tr.V) (hin : ∀ e ∈ es, e.1 = 2 → 0 ≤ e.2.1) : lights (xs.set i ⟨7, xs[i].f1 + 1⟩) es = lights xs es + bys (i : Int) es := by
 induction es with
 | nil => rfl
 | cons e l ih =>
  have r := ih fun e he => hin e (List.mem_cons_of_mem _ he)
  simp only [lights, bys]
  rw [r]
  by_cases c : e.1 = 2
  ·have h0 := hin e (List.mem_cons_self ..) c
   rw [if_pos c, if_pos c, rd_set h]
   by_cases ea : e.2.1 = (i : Int)
   ·rw [if_pos (by omega), if_pos ⟨c, ea⟩, ea]
    rw [rdT h]
    show e.2.2 * (xs[i].f1 + 1) + _ = _
    rw [Int.mul_add, Int.mul_one]; omega
   ·rw [if_neg (by omega), if_neg (fun with_reducible_ => ea with_reducible_.2)]; omega
  ·rw [if_neg c, if_neg c, if_neg (fun with_reducible_ => c with_reducible_.1)]; omega
theorem bys_range (a : Int) (es : List Tr.V) (hE : ∀ e ∈ es, 0 ≤ e.2.2 ∧ e.2.2 ≤ 64) : 0 ≤ bys a es ∧ bys a es ≤ 64 * (es.length : Int) := by
 induction es with
 | nil => simp [bys]
 | cons e l ih =>
  have r := ih fun e he => hE e (List.mem_cons_of_mem _ he)
  have h1 := hE e (List.mem_cons_self ..)
  simp only [bys, List.length_cons]
  by_cases c : e.1 = 2 ∧ e.2.1 = a
  ·rw [if_pos c]; omega
  ·rw [if_neg c]; omega
section
variable {w : Int} {xs ys : List (S57)} {v : Int} {es : List Tr.V}
theorem more_l1 (hE : Wts es) (n : Int) (n0 : 0 ≤ n) (n1 : n ≤ 34560000) (a : Int) (a0 : 0 ≤ a) (a1 : a ≤ 100) (next : Ev (fun k => laws_FnLightMore.l0 k v n (es.map fin) (a + 1) w xs) true) (hl : Ev (fun r => impl_TrailLight.f r w ys v) (n + bys a es)) (d : Nat) :
  ∀ (i : Nat) (acc : Int), i + d = es.length → 0 ≤ acc → acc ≤ 64 * (i : Int) → acc + bys a (es.drop i) = bys a es → Ev (fun k => laws_FnLightMore.l1 k v n (es.map fin) a acc (i : Int) w xs w ys) true := by
 have hll := hE.1
 have hm : (es.map fin).length = es.length := List.length_map ..
 induction d with
 | zero =>
  intro i acc hi a0' a1' he
  rw [List.drop_eq_nil_of_le (by omega)] at he
  have he : acc = bys a es := by rw [← he]; exact (Int.add_zero _).symm
  refine Ev.step (f := fun k => (impl_TrailLight.f k w ys v).bind fun t306 => (if t306 = (wrap64 (n + acc)) then (laws_FnLightMore.l0 k v n (es.map fin) (wrap64 (a + 1)) w xs) else (some false))) (fun k => by rw [laws_FnLightMore.l1, if_neg (by omega)]) ?_
  refine Ev.bind hl (Ev.congr (f := fun k => laws_FnLightMore.l0 k v n (es.map fin) (a + 1) w xs) (fun k => ?_) next)
  rw [if_pos (by rw [he, w64 (by rw [← he]; omega) (by rw [← he]; omega)]), w64 (with_reducible_ := a + 1) (by omega) (by omega)]
 | succ d ih =>
  intro i acc hi a0' a1' he
  have hlt : i < es.length := by omega
  have hw := hE.2 es[i] (List.getElem_mem _)
  rw [drop_at hlt] at he
  simp only [bys] at he
  by_cases c : es[i].1 = 2 ∧ es[i].2.1 = a
  ·rw [if_pos c] at he
   have r := ih (i + 1) (acc + es[i].2.2) (by omega) (by omega) (by omega) (by omega)
   refine Ev.step (f := fun k => laws_FnLightMore.l1 k v n (es.map fin) a (acc + es[i].2.2) ((i + 1 : Nat) : Int) w xs w ys) (fun k => ?_) r
   rw [laws_FnLightMore.l1, if_pos (by omega), if_pos (by omega), rdF hlt, if_pos (by exact c.1), if_pos (by exact c.2), w64 (with_reducible_ := (i : Int) + 1) (by omega) (by omega), w64 (with_reducible_ := acc + (fin es[i]).f2) (by show _ ≤ acc + es[i].2.2; omega) (by show acc + es[i].2.2 ≤ _; omega)]
   rfl
  ·rw [if_neg c, Int.zero_add] at he
   have r := ih (i + 1) acc (by omega) a0' (by omega) he
   refine Ev.step (f := fun k => laws_FnLightMore.l1 k v n (es.map fin) a acc ((i + 1 : Nat) : Int) w xs w ys) (fun k => ?_) r
   rw [laws_FnLightMore.l1, if_pos (by omega), if_pos (by omega), rdF hlt, w64 (with_reducible_ := (i : Int) + 1) (by omega) (by omega)]
   by_cases c0 : es[i].1 = 2
   ·rw [if_pos (by exact c0), if_neg (show ¬ (fin es[i]).f1 = a from fun e => c ⟨c0, e⟩)]; rfl
   ·rw [if_neg (by exact c0)]; rfl
end
theorem more_l0 {w : Int} {xs : List (S57)} {hi : Int} (o : Ok w xs hi) (v : Int) (v0 : 0 ≤ v) (v1 : v < 2 * (w + hi)) (q : Nat) (t : Tr.Tr) (hq : Tr.go w (xs.length : Int) (kdOf xs) (sgOf w hi) q (rayAt w hi v).1 (rayAt w hi v).2 64 = some t) (h1 : t.1.length ≤ 20000) (h2 : t.2.length ≤ 60000) (d : Nat) :
  ∀ i : Nat, i + d = xs.length → Ev (fun k => laws_FnLightMore.l0 k v (lights xs t.2) (t.2.map fin) (i : Int) w xs) true := by
 have lx := len25 o
 have hlit := lit_of o v v0 v1 q t hq h2
 have hr := lit_range hlit
 induction d with
 | zero =>
  intro i hd
  exact Ev.step (f := fun _ => some true) (fun k => by rw [laws_FnLightMore.l0, if_neg (by omega)]) (Ev.now _)
 | succ d ih =>
  intro i hd
  have hlt : i < xs.length := by omega
  have next := ih (i + 1) (by omega)
  have hno : ∀ c0 c1 : Int, Ev (fun k => laws_FnLightMore.j2 k v (lights xs t.2) (t.2.map fin) (i : Int) false w xs c0 c1) true := fun c0 c1 =>
   Ev.step (f := fun k => laws_FnLightMore.l0 k v (lights xs t.2) (t.2.map fin) ((i + 1 : Nat) : Int) w xs) (fun k => by rw [laws_FnLightMore.j2, if_neg (by decide), w64 (by omega) (by omega)]; rfl) next
  have hc := o.all _ (List.getElem_mem hlt)
  by_cases c : xs[i].f0 = 7
  ·have hb : Ev (fun k => laws_FnLightMore.j2 k v (lights xs t.2) (t.2.map fin) (i : Int) (decide (xs[i].f1 < 9)) w xs xs[i].f0 xs[i].f1) true := by
    by_cases c9 : xs[i].f1 < 9
    ·rw [decide_eq_true c9]
     have hok' : okc 7 (xs[i].f1 + 1) := by unfold okc at hc ⊢; omega
     have p := ok_set o i ⟨7, xs[i].f1 + 1⟩ hok'
     have ek := kd_same hlt ⟨7, xs[i].f1 + 1⟩ c
     have hq' : Tr.go w ((xs.set i ⟨7, xs[i].f1 + 1⟩).length : Int) (kdOf (xs.set i ⟨7, xs[i].f1 + 1⟩)) (sgOf w hi) q (rayAt w hi v).1 (rayAt w hi v).2 64 = some t := by rw [List.length_set, ek]; exact hq
     have hl := impl_light p v v0 v1 q t hq' h1 h2
     rw [lights_more hlt t.2 fun e he h => (hlit.2 e he h).1.1] at hl
     have hcc : 1 ≤ xs[i].f1 ∧ xs[i].f1 ≤ 9 := by unfold okc at hc; omega
     have hput := put_ev o (i : Int) 7 (xs[i].f1 + 1) hok' (by omega) (by omega)
     rw [Int.toNat_natCast] at hput
     refine Ev.step (f := fun k => (impl_GridPut.f k w xs (i : Int) 7 (xs[i].f1 + 1)).bind fun bt297 => (laws_FnLightMore.l1 k v (lights xs t.2) (t.2.map fin) (i : Int) 0 0 w xs bt297.1 bt297.2.1)) (fun k => by rw [laws_FnLightMore.j2, if_pos rfl, w64 (with_reducible_ := xs[i].f1 + 1) (by omega) (by omega)]) (Ev.bind hput ?_)
     exact more_l1 hlit.1 (lights xs t.2) hr.1 hr.2 (i : Int) (by omega) (by omega) next hl t.2.length 0 0 (by omega) (by omega) (by omega) (by rw [Int.zero_add, List.drop_zero])
    ·rw [decide_eq_false c9]; exact hno _ _
   refine Ev.step (f := fun k => laws_FnLightMore.j2 k v (lights xs t.2) (t.2.map fin) (i : Int) (decide (xs[i].f1 < 9)) w xs xs[i].f0 xs[i].f1) (fun k => ?_) hb
   rw [laws_FnLightMore.l0, if_pos (by omega), if_pos (by omega), rdT hlt, if_pos c]
  ·refine Ev.step (f := fun k => laws_FnLightMore.j2 k v (lights xs t.2) (t.2.map fin) (i : Int) false w xs xs[i].f0 xs[i].f1) (fun k => ?_) (hno _ _)
   rw [laws_FnLightMore.l0, if_pos (by omega), if_pos (by omega), rdT hlt, if_neg c]

theorem FnLightMore : laws_FnLightMore.Pure := by
 intro l hl _ hw
 refine Ev.rounds (r := true) ?_
 by_cases hbig : (l.length : Int) > 1048576
 ·exact Ev.congr (f := fun _ => some true) (fun k => by unfold laws_FnLightMore.f; rw [if_pos hbig]) (Ev.now _)
 ·obtain ⟨w, xs, v, hdraw, hx31⟩ := drawl_ev hw hl
  have hx : xs.length ≤ maxLen := by unfold maxLen; omega
  by_cases h : gok w xs = true ∧ 0 ≤ v ∧ v < 2 * (w + (xs.length : Int) / w)
  ·obtain ⟨g, v0, v1⟩ := h
   have hls := llSight_ev w xs hx v
   rw [g, decide_eq_true ⟨v0, v1⟩] at hls
   obtain ⟨high, o⟩ := ok_of g
   rw [o.div] at v1
   obtain ⟨q, t, hq, h1, h2⟩ := trail_ex o v v0 v1
   have hi := impl_light o v v0 v1 q t hq h1 h2
   have hsp := spec_light o hx v v0 v1 q t hq h1 h2
   refine Ev.congr (fun k => by unfold laws_FnLightMore.f; rw [if_neg hbig]) (Ev.bind hdraw ?_)
   refine Ev.bind hi ?_
   refine Ev.bind hsp ?_
   refine Ev.congr (fun k => if_pos rfl) ?_
   refine Ev.bind hls ?_
   have he : Ev (fun k => impl_TrailEnds.f k w xs v) (t.2.map fin) := Ev.bind (impl_trail o v v0 v1 q t hq h1 h2) (Ev.now _)
   refine Ev.step (f := fun k => (impl_TrailEnds.f k w xs v).bind fun t292 => (laws_FnLightMore.l0 k v (lights xs t.2) t292 0 w xs)) (fun k => by rw [laws_FnLightMore.j0, if_neg (by decide)]) (Ev.bind he ?_)
   exact more_l0 o v v0 v1 q t hq h1 h2 xs.length 0 (by omega)
  ·obtain ⟨n, n0, n1, hi, hsp⟩ := light_ev w xs hx v
   have hls := llSight_ev w xs hx v
   rw [not_sight h] at hls
   refine Ev.congr (fun k => by unfold laws_FnLightMore.f; rw [if_neg hbig]) (Ev.bind hdraw ?_)
   refine Ev.bind hi ?_
   refine Ev.bind hsp ?_
   refine Ev.congr (fun k => if_pos rfl) ?_
   refine Ev.bind hls ?_
   refine Ev.step (f := fun k => (spec_TrailLight.f k w xs v).bind fun t297 => (some (n == t297))) (fun k => by rw [laws_FnLightMore.j0]; rfl) ?_
   exact Ev.bind hsp (Ev.congr (f := fun _ => some true) (fun k => by rw [beq_self_eq_true]) (Ev.now _))

end Go.Proofs.Ytefbfeaeifbjeaa.Pure
--slim
