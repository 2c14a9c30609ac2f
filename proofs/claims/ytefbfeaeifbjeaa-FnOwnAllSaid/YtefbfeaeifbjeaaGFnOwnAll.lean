/- When a grid is ok, in the program's way and in the reference's, as one plain test; how many sights it has. -/
import Derived.Test.YtefbfeaeifbjeaaDFnOwnAll
namespace Go.Proofs.Ytefbfeaeifbjeaa.DFnOwnAll
open Go.RowKit Go.Proofs.Ytefbfeaeifbjeaa.PFnOwnAll Go.Proofs.YtefbfeaeifbjeaaW.PrintWords Go.Proofs.YtefbfeaeifbjeaaW.PrintLast Go.Proofs.Ytefbfeaeifbjeaa.Pl

theorem specCell (a b : Int) : spec_CellOk.f a b = some (CellA.ctOk a b) := by
  unfold spec_CellOk.f spec_l6In.f CellA.ctOk
  by_cases h : a = 7
  · rw [if_pos h, if_pos h]
    by_cases h1 : b ≥ 1
    · rw [if_pos h1]; simp; omega
    · rw [if_neg h1]; simp; omega
  · rw [if_neg h, if_neg h]
    by_cases h1 : a ≥ 0
    · rw [if_pos h1]
      simp only [Option.bind_some]
      by_cases h2 : a ≤ 6
      · rw [if_pos (by simpa using h2)]
        congr 1
        rw [Bool.eq_iff_iff]; simp; omega
      · rw [if_neg (by simpa using h2)]
        congr 1
        rw [Bool.eq_iff_iff]; simp; omega
    · rw [if_neg h1]; simp; omega

theorem ctOk_iff (a b : Int) : CellA.ctOk a b = true ↔ okc a b := by
  unfold CellA.ctOk okc
  by_cases h : a = 7
  · rw [if_pos h]; simp; omega
  · rw [if_neg h]; simp; omega

def allok (xs : List (S57)) : Bool := xs.all fun c => CellA.ctOk c.f0 c.f1
/-- The one test. -/
def gok (w : Int) (xs : List (S57)) : Bool := decide (1 ≤ w ∧ w ≤ 5 ∧ 1 ≤ xs.length ∧ (xs.length : Int) ≤ w * 5 ∧ (xs.length : Int) % w = 0) && allok xs

theorem rdT {xs : List (S57)} {i : Nat} (h : i < xs.length) : rd_T57 xs (i : Int) = xs[i] := by
  unfold rd_T57
  rw [Int.toNat_natCast, List.getD_eq_getElem?_getD, List.getElem?_eq_getElem h, Option.getD_some]

theorem impl_l0 (xs : List (S57)) (hx : xs.length ≤ maxLen) (d : Nat) : ∀ i : Nat, i + d = xs.length → Ev (fun k => impl_GridOk.l0 k xs (xs.length : Int) (i : Int)) (allok (xs.drop i)) := by
  unfold maxLen at hx
  induction d with
  | zero =>
    intro i hi
    have e : xs.drop i = [] := List.drop_eq_nil_of_le (by omega)
    rw [e]
    exact Ev.step (f := fun _ => some true) (fun k => by rw [impl_GridOk.l0, if_neg (by omega)]) (Ev.now _)
  | succ d ih =>
    intro i hi
    have hlt : i < xs.length := by omega
    have e : xs.drop i = xs[i] :: xs.drop (i + 1) := (List.getElem_cons_drop hlt).symm
    rw [e]
    unfold allok at ih ⊢
    rw [List.all_cons]
    have hr := rdT hlt
    by_cases hc : CellA.ctOk xs[i].f0 xs[i].f1 = true
    · rw [hc, Bool.true_and]
      refine Ev.step (f := fun k => impl_GridOk.l0 k xs (xs.length : Int) ((i + 1 : Nat) : Int)) (fun k => ?_) (ih (i + 1) (by omega))
      rw [impl_GridOk.l0, if_pos (by omega), if_pos (by omega), if_pos (by omega), hr]
      unfold impl_CellOk.f
      rw [Option.bind_some, if_pos hc, w64 (by omega) (by omega)]
      rfl
    · have hc' : CellA.ctOk xs[i].f0 xs[i].f1 = false := by simpa using hc
      rw [hc', Bool.false_and]
      refine Ev.step (f := fun _ => some false) (fun k => ?_) (Ev.now _)
      rw [impl_GridOk.l0, if_pos (by omega), if_pos (by omega), if_pos (by omega), hr]
      unfold impl_CellOk.f
      rw [Option.bind_some, if_neg hc]

theorem impl_ok (w : Int) (xs : List (S57)) (hx : xs.length ≤ maxLen) : Ev (fun k => impl_GridOk.f k w xs) (gok w xs) := by
  have hx' := hx
  unfold maxLen at hx'
  have no : ∀ {g : Nat → Option Bool}, ¬ (1 ≤ w ∧ w ≤ 5 ∧ 1 ≤ xs.length ∧ (xs.length : Int) ≤ w * 5 ∧ (xs.length : Int) % w = 0) → Ev g false → Ev g (gok w xs) := by
    intro g h hg
    have : gok w xs = false := by unfold gok; rw [decide_eq_false h, Bool.false_and]
    rw [this]; exact hg
  by_cases h1 : w < 1
  · refine no (by omega) (Ev.congr (f := fun k => impl_GridOk.j0 k true w xs) (fun k => by unfold impl_GridOk.f; rw [if_pos h1]) ?_)
    exact Ev.step (f := fun _ => some false) (fun k => by rw [impl_GridOk.j0, if_pos rfl]) (Ev.now _)
  · by_cases h2 : w > 5
    · refine no (by omega) (Ev.congr (f := fun k => impl_GridOk.j0 k true w xs) (fun k => by unfold impl_GridOk.f; rw [if_neg h1, decide_eq_true h2]) ?_)
      exact Ev.step (f := fun _ => some false) (fun k => by rw [impl_GridOk.j0, if_pos rfl]) (Ev.now _)
    · have e5 : wrap64 (w * 5) = w * 5 := w64 (by omega) (by omega)
      refine Ev.congr (f := fun k => impl_GridOk.j0 k false w xs) (fun k => by unfold impl_GridOk.f; rw [if_neg h1, decide_eq_false h2]) ?_
      by_cases h3 : (xs.length : Int) = 0
      · refine no (by omega) (Ev.step (f := fun k => impl_GridOk.j1 k true w xs) (fun k => by rw [impl_GridOk.j0, if_neg (by decide), if_pos h3]) ?_)
        exact Ev.step (f := fun _ => some false) (fun k => by rw [impl_GridOk.j1, if_pos rfl]) (Ev.now _)
      · by_cases h4 : (xs.length : Int) > w * 5
        · refine no (by omega) (Ev.step (f := fun k => impl_GridOk.j1 k true w xs) (fun k => by rw [impl_GridOk.j0, if_neg (by decide), if_neg h3, e5, if_pos h4]) ?_)
          exact Ev.step (f := fun _ => some false) (fun k => by rw [impl_GridOk.j1, if_pos rfl]) (Ev.now _)
        · refine Ev.step (f := fun k => impl_GridOk.j1 k (((xs.length : Int) % w) != 0) w xs) (fun k => by rw [impl_GridOk.j0, if_neg (by decide), if_neg h3, e5, if_neg h4, if_neg (by omega)]) ?_
          by_cases h5 : (xs.length : Int) % w = 0
          · have e : gok w xs = allok xs := by
              unfold gok; rw [decide_eq_true (by omega), Bool.true_and]
            rw [e, show (((xs.length : Int) % w) != 0) = false from by simpa using h5]
            refine Ev.step (f := fun k => impl_GridOk.l0 k xs (xs.length : Int) ((0 : Nat) : Int)) (fun k => by rw [impl_GridOk.j1, if_neg (by decide)]; rfl) ?_
            exact impl_l0 xs hx xs.length 0 (by omega)
          · refine no (by omega) ?_
            rw [show (((xs.length : Int) % w) != 0) = true from by simpa using h5]
            exact Ev.step (f := fun _ => some false) (fun k => by rw [impl_GridOk.j1, if_pos rfl]) (Ev.now _)

theorem spec_l0 (w : Int) (xs : List (S57)) (hx : xs.length ≤ maxLen) (d : Nat) : ∀ i : Nat, i + d = xs.length → Ev (fun k => spec_GridOk.l0 k (i : Int) w xs) (allok (xs.drop i)) := by
  unfold maxLen at hx
  induction d with
  | zero =>
    intro i hi
    have e : xs.drop i = [] := List.drop_eq_nil_of_le (by omega)
    rw [e]
    exact Ev.step (f := fun _ => some true) (fun k => by rw [spec_GridOk.l0, if_neg (by omega)]) (Ev.now _)
  | succ d ih =>
    intro i hi
    have hlt : i < xs.length := by omega
    have e : xs.drop i = xs[i] :: xs.drop (i + 1) := (List.getElem_cons_drop hlt).symm
    rw [e]
    unfold allok at ih ⊢
    rw [List.all_cons]
    have hr := rdT hlt
    by_cases hc : CellA.ctOk xs[i].f0 xs[i].f1 = true
    · rw [hc, Bool.true_and]
      refine Ev.step (f := fun k => spec_GridOk.l0 k ((i + 1 : Nat) : Int) w xs) (fun k => ?_) (ih (i + 1) (by omega))
      rw [spec_GridOk.l0, if_pos (by omega), if_pos (by omega), hr, specCell, Option.bind_some, if_pos hc, w64 (by omega) (by omega)]
      rfl
    · have hc' : CellA.ctOk xs[i].f0 xs[i].f1 = false := by simpa using hc
      rw [hc', Bool.false_and]
      refine Ev.step (f := fun _ => some false) (fun k => ?_) (Ev.now _)
      rw [spec_GridOk.l0, if_pos (by omega), if_pos (by omega), hr, specCell, Option.bind_some, if_neg hc]

theorem spec_ok (w : Int) (xs : List (S57)) (hx : xs.length ≤ maxLen) : Ev (fun k => spec_GridOk.f k w xs) (gok w xs) := by
  have hx' := hx
  unfold maxLen at hx'
  have no : ∀ {g : Nat → Option Bool}, ¬ (1 ≤ w ∧ w ≤ 5 ∧ 1 ≤ xs.length ∧ (xs.length : Int) ≤ w * 5 ∧ (xs.length : Int) % w = 0) → Ev g false → Ev g (gok w xs) := by
    intro g h hg
    have : gok w xs = false := by unfold gok; rw [decide_eq_false h, Bool.false_and]
    rw [this]; exact hg
  have jt : Ev (fun k => spec_GridOk.j0 k true w xs) false := Ev.step (f := fun _ => some false) (fun k => by rw [spec_GridOk.j0, if_pos rfl]) (Ev.now _)
  by_cases h1 : 1 ≤ w ∧ w ≤ 5
  · have e1 : spec_l6In.f w 1 5 = some true := by unfold spec_l6In.f; rw [if_pos h1.1, decide_eq_true h1.2]
    by_cases h2 : (xs.length : Int) % w = 0
    · have ew : wrap64 ((xs.length : Int) / w) = (xs.length : Int) / w := by
        have := Int.ediv_nonneg (a := (xs.length : Int)) (b := w) (by omega) (by omega)
        have := Int.ediv_le_self (a := (xs.length : Int)) w (by omega)
        exact w64 (by omega) (by omega)
      have hq : (1 ≤ (xs.length : Int) / w ∧ (xs.length : Int) / w ≤ 5) ↔ (1 ≤ xs.length ∧ (xs.length : Int) ≤ w * 5) := by
        obtain ⟨a, b⟩ := h1
        have : w = 1 ∨ w = 2 ∨ w = 3 ∨ w = 4 ∨ w = 5 := by omega
        rcases this with rfl | rfl | rfl | rfl | rfl <;> omega
      have e2 : spec_l6In.f ((xs.length : Int) / w) 1 5 = some (decide (1 ≤ (xs.length : Int) / w ∧ (xs.length : Int) / w ≤ 5)) := by
        unfold spec_l6In.f
        by_cases h : (xs.length : Int) / w ≥ 1
        · rw [if_pos h]; congr 1; rw [Bool.eq_iff_iff]; simp; omega
        · rw [if_neg h]; congr 1; rw [Bool.eq_iff_iff]; simp; omega
      refine Ev.congr (f := fun k => spec_GridOk.j0 k (!(decide (1 ≤ (xs.length : Int) / w ∧ (xs.length : Int) / w ≤ 5))) w xs) (fun k => by
        unfold spec_GridOk.f; rw [e1, Option.bind_some, if_pos rfl, if_neg (by omega), if_pos h2, ew, e2, Option.bind_some]) ?_
      by_cases h3 : 1 ≤ (xs.length : Int) / w ∧ (xs.length : Int) / w ≤ 5
      · rw [decide_eq_true h3]
        have e : gok w xs = allok xs := by unfold gok; rw [decide_eq_true ⟨h1.1, h1.2, (hq.1 h3).1, (hq.1 h3).2, h2⟩, Bool.true_and]
        rw [e]
        refine Ev.step (f := fun k => spec_GridOk.l0 k ((0 : Nat) : Int) w xs) (fun k => by rw [spec_GridOk.j0, if_neg (by decide)]; rfl) ?_
        exact spec_l0 w xs hx xs.length 0 (by omega)
      · rw [decide_eq_false h3]
        exact no (fun h => h3 (hq.2 ⟨h.2.2.1, h.2.2.2.1⟩)) jt
    · refine no (by omega) (Ev.congr (f := fun k => spec_GridOk.j0 k true w xs) (fun k => by unfold spec_GridOk.f; rw [e1, Option.bind_some, if_pos rfl, if_neg (by omega), if_neg h2]) jt)
  · have e1 : spec_l6In.f w 1 5 = some false := by
      unfold spec_l6In.f
      by_cases h : w ≥ 1
      · rw [if_pos h]; congr 1; simp; omega
      · rw [if_neg h]
    exact no (by omega) (Ev.congr (f := fun k => spec_GridOk.j0 k true w xs) (fun k => by unfold spec_GridOk.f; rw [e1, Option.bind_some, if_neg (by decide)]) jt)

/-- What the test says. -/
structure Ok (w : Int) (xs : List (S57)) (h : Int) : Prop where
  w1 : 1 ≤ w
  w5 : w ≤ 5
  h1 : 1 ≤ h
  h5 : h ≤ 5
  len : (xs.length : Int) = w * h
  div : (xs.length : Int) / w = h
  all : ∀ c ∈ xs, okc c.f0 c.f1

theorem ok_of {w : Int} {xs : List (S57)} (h : gok w xs = true) : ∃ hi, Ok w xs hi := by
  unfold gok at h
  rw [Bool.and_eq_true, decide_eq_true_eq] at h
  obtain ⟨⟨a, b, c, d, e⟩, f⟩ := h
  have hall : ∀ c ∈ xs, okc c.f0 c.f1 := fun c hc => (ctOk_iff _ _).1 (by unfold allok at f; exact List.all_eq_true.1 f c hc)
  have : w = 1 ∨ w = 2 ∨ w = 3 ∨ w = 4 ∨ w = 5 := by omega
  refine ⟨(xs.length : Int) / w, a, b, ?_, ?_, ?_, rfl, hall⟩ <;> (rcases this with rfl | rfl | rfl | rfl | rfl <;> omega)

theorem impl_many (w : Int) (xs : List (S57)) (hx : xs.length ≤ maxLen) : Ev (fun k => impl_SightMany.f k w xs) (if gok w xs = true then 2 * (w + (xs.length : Int) / w) else 0) := by
  refine Ev.bind (impl_ok w xs hx) ?_
  by_cases h : gok w xs = true
  · obtain ⟨hi, o⟩ := ok_of h
    have w1 := o.w1; have w5 := o.w5; have h1 := o.h1; have h5 := o.h5
    rw [show (if gok w xs = true then 2 * (w + (xs.length : Int) / w) else 0) = 2 * (w + (xs.length : Int) / w) from if_pos h]
    refine Ev.congr (f := fun _ => some (2 * (w + (xs.length : Int) / w))) (fun k => ?_) (Ev.now _)
    rw [if_pos h]
    unfold impl_gridRows.f
    rw [if_neg (by omega), Option.bind_some, o.div, w64 (x := hi) (by omega) (by omega), w64 (x := w + hi) (by omega) (by omega), w64 (by omega) (by omega)]
  · rw [show (if gok w xs = true then 2 * (w + (xs.length : Int) / w) else 0) = 0 from if_neg h]
    exact Ev.congr (f := fun _ => some 0) (fun k => by rw [if_neg h]) (Ev.now _)

theorem spec_high {w : Int} {xs : List (S57)} {hi : Int} (o : Ok w xs hi) : spec_l1High.f w xs = some hi := by
  have w1 := o.w1; have h1 := o.h1; have h5 := o.h5
  unfold spec_l1High.f
  rw [if_neg (by omega), o.div, w64 (by omega) (by omega)]

theorem spec_many {w : Int} {xs : List (S57)} {hi : Int} (o : Ok w xs hi) : spec_l3Many.f w xs = some (2 * (w + hi)) := by
  have w1 := o.w1; have w5 := o.w5; have h1 := o.h1; have h5 := o.h5
  unfold spec_l3Many.f
  rw [spec_high o, Option.bind_some, w64 (x := w + hi) (by omega) (by omega), w64 (by omega) (by omega)]

end Go.Proofs.Ytefbfeaeifbjeaa.DFnOwnAll
