/- Plain facts on the printed functions: what is drawn, when a grid is ok, lists, copies and marks. -/
import Derived.Test.YtefbfeaeifbjeaaPFnExactPaintOwnx
import Derived.Test.YtefbfeaeifbjeaaPl
namespace Go.Proofs.Ytefbfeaeifbjeaa.DFnExactPaintOwn
open Go.RowKit Go.Proofs.Ytefbfeaeifbjeaa.PFnExactPaintOwn Go.Proofs.YtefbfeaeifbjeaaW.PrintWords Go.Proofs.YtefbfeaeifbjeaaW.PrintLast Go.Proofs.Ytefbfeaeifbjeaa.Pl

/-- A cell that is ok, by its two numbers. -/
def okc (k l : Int) : Prop := (k = 7 ∧ 1 ≤ l ∧ l ≤ 9) ∨ (0 ≤ k ∧ k ≤ 6 ∧ l = 0)

/-- A cell of a drawn grid that is spoilt: its numbers are small. -/
def smc (k l : Int) : Prop := -1 ≤ k ∧ k ≤ 8 ∧ 0 ≤ l ∧ l ≤ 10

theorem okc_sm {k l : Int} (h : okc k l) : smc k l := by unfold okc at h; unfold smc; omega


theorem specCell (a b : Int) : spec_CellOk.f a b = some (CellA.ctOk a b) := by
  unfold spec_CellOk.f spec_l6In.f CellA.ctOk
  by_cases h : a = 7
  · rw [if_pos h, if_pos h]
    by_cases h1 : b ≥ 1
    · rw [if_pos h1]; simp; omega
    · rw [if_neg h1]; simp; omega
  · rw [if_neg h, if_neg h]
    by_cases h1 : a ≥ 0
    · rw [if_pos h1]
      simp only [Option.bind_some]
      by_cases h2 : a ≤ 6
      · rw [if_pos (by simpa using h2)]
        congr 1
        rw [Bool.eq_iff_iff]; simp; omega
      · rw [if_neg (by simpa using h2)]
        congr 1
        rw [Bool.eq_iff_iff]; simp; omega
    · rw [if_neg h1]; simp; omega

theorem ctOk_iff (a b : Int) : CellA.ctOk a b = true ↔ okc a b := by
  unfold CellA.ctOk okc
  by_cases h : a = 7
  · rw [if_pos h]; simp; omega
  · rw [if_neg h]; simp; omega

def allok (xs : List (S57)) : Bool := xs.all fun c => CellA.ctOk c.f0 c.f1
/-- The one test. -/
def gok (w : Int) (xs : List (S57)) : Bool := decide (1 ≤ w ∧ w ≤ 5 ∧ 1 ≤ xs.length ∧ (xs.length : Int) ≤ w * 5 ∧ (xs.length : Int) % w = 0) && allok xs

theorem rdT {xs : List (S57)} {i : Nat} (h : i < xs.length) : rd_T57 xs (i : Int) = xs[i] := by
  unfold rd_T57
  rw [Int.toNat_natCast, List.getD_eq_getElem?_getD, List.getElem?_eq_getElem h, Option.getD_some]

theorem impl_l0 (xs : List (S57)) (hx : xs.length ≤ maxLen) (d : Nat) : ∀ i : Nat, i + d = xs.length → Ev (fun k => impl_GridOk.l0 k xs (xs.length : Int) (i : Int)) (allok (xs.drop i)) := by
  unfold maxLen at hx
  induction d with
  | zero =>
    intro i hi
    have e : xs.drop i = [] := List.drop_eq_nil_of_le (by omega)
    rw [e]
    exact Ev.step (f := fun _ => some true) (fun k => by rw [impl_GridOk.l0, if_neg (by omega)]) (Ev.now _)
  | succ d ih =>
    intro i hi
    have hlt : i < xs.length := by omega
    have e : xs.drop i = xs[i] :: xs.drop (i + 1) := (List.getElem_cons_drop hlt).symm
    rw [e]
    unfold allok at ih ⊢
    rw [List.all_cons]
    have hr := rdT hlt
    by_cases hc : CellA.ctOk xs[i].f0 xs[i].f1 = true
    · rw [hc, Bool.true_and]
      refine Ev.step (f := fun k => impl_GridOk.l0 k xs (xs.length : Int) ((i + 1 : Nat) : Int)) (fun k => ?_) (ih (i + 1) (by omega))
      rw [impl_GridOk.l0, if_pos (by omega), if_pos (by omega), if_pos (by omega), hr]
      unfold impl_CellOk.f
      rw [Option.bind_some, if_pos hc, w64 (by omega) (by omega)]
      rfl
    · have hc' : CellA.ctOk xs[i].f0 xs[i].f1 = false := by simpa using hc
      rw [hc', Bool.false_and]
      refine Ev.step (f := fun _ => some false) (fun k => ?_) (Ev.now _)
      rw [impl_GridOk.l0, if_pos (by omega), if_pos (by omega), if_pos (by omega), hr]
      unfold impl_CellOk.f
      rw [Option.bind_some, if_neg hc]

theorem impl_ok (w : Int) (xs : List (S57)) (hx : xs.length ≤ maxLen) : Ev (fun k => impl_GridOk.f k w xs) (gok w xs) := by
  have hx' := hx
  unfold maxLen at hx'
  have no : ∀ {g : Nat → Option Bool}, ¬ (1 ≤ w ∧ w ≤ 5 ∧ 1 ≤ xs.length ∧ (xs.length : Int) ≤ w * 5 ∧ (xs.length : Int) % w = 0) → Ev g false → Ev g (gok w xs) := by
    intro g h hg
    have : gok w xs = false := by unfold gok; rw [decide_eq_false h, Bool.false_and]
    rw [this]; exact hg
  by_cases h1 : w < 1
  · refine no (by omega) (Ev.congr (f := fun k => impl_GridOk.j0 k true w xs) (fun k => by unfold impl_GridOk.f; rw [if_pos h1]) ?_)
    exact Ev.step (f := fun _ => some false) (fun k => by rw [impl_GridOk.j0, if_pos rfl]) (Ev.now _)
  · by_cases h2 : w > 5
    · refine no (by omega) (Ev.congr (f := fun k => impl_GridOk.j0 k true w xs) (fun k => by unfold impl_GridOk.f; rw [if_neg h1, decide_eq_true h2]) ?_)
      exact Ev.step (f := fun _ => some false) (fun k => by rw [impl_GridOk.j0, if_pos rfl]) (Ev.now _)
    · have e5 : wrap64 (w * 5) = w * 5 := w64 (by omega) (by omega)
      refine Ev.congr (f := fun k => impl_GridOk.j0 k false w xs) (fun k => by unfold impl_GridOk.f; rw [if_neg h1, decide_eq_false h2]) ?_
      by_cases h3 : (xs.length : Int) = 0
      · refine no (by omega) (Ev.step (f := fun k => impl_GridOk.j1 k true w xs) (fun k => by rw [impl_GridOk.j0, if_neg (by decide), if_pos h3]) ?_)
        exact Ev.step (f := fun _ => some false) (fun k => by rw [impl_GridOk.j1, if_pos rfl]) (Ev.now _)
      · by_cases h4 : (xs.length : Int) > w * 5
        · refine no (by omega) (Ev.step (f := fun k => impl_GridOk.j1 k true w xs) (fun k => by rw [impl_GridOk.j0, if_neg (by decide), if_neg h3, e5, if_pos h4]) ?_)
          exact Ev.step (f := fun _ => some false) (fun k => by rw [impl_GridOk.j1, if_pos rfl]) (Ev.now _)
        · refine Ev.step (f := fun k => impl_GridOk.j1 k (((xs.length : Int) % w) != 0) w xs) (fun k => by rw [impl_GridOk.j0, if_neg (by decide), if_neg h3, e5, if_neg h4, if_neg (by omega)]) ?_
          by_cases h5 : (xs.length : Int) % w = 0
          · have e : gok w xs = allok xs := by
              unfold gok; rw [decide_eq_true (by omega), Bool.true_and]
            rw [e, show (((xs.length : Int) % w) != 0) = false from by simpa using h5]
            refine Ev.step (f := fun k => impl_GridOk.l0 k xs (xs.length : Int) ((0 : Nat) : Int)) (fun k => by rw [impl_GridOk.j1, if_neg (by decide)]; rfl) ?_
            exact impl_l0 xs hx xs.length 0 (by omega)
          · refine no (by omega) ?_
            rw [show (((xs.length : Int) % w) != 0) = true from by simpa using h5]
            exact Ev.step (f := fun _ => some false) (fun k => by rw [impl_GridOk.j1, if_pos rfl]) (Ev.now _)

theorem spec_l0 (w : Int) (xs : List (S57)) (hx : xs.length ≤ maxLen) (d : Nat) : ∀ i : Nat, i + d = xs.length → Ev (fun k => spec_GridOk.l0 k (i : Int) w xs) (allok (xs.drop i)) := by
  unfold maxLen at hx
  induction d with
  | zero =>
    intro i hi
    have e : xs.drop i = [] := List.drop_eq_nil_of_le (by omega)
    rw [e]
    exact Ev.step (f := fun _ => some true) (fun k => by rw [spec_GridOk.l0, if_neg (by omega)]) (Ev.now _)
  | succ d ih =>
    intro i hi
    have hlt : i < xs.length := by omega
    have e : xs.drop i = xs[i] :: xs.drop (i + 1) := (List.getElem_cons_drop hlt).symm
    rw [e]
    unfold allok at ih ⊢
    rw [List.all_cons]
    have hr := rdT hlt
    by_cases hc : CellA.ctOk xs[i].f0 xs[i].f1 = true
    · rw [hc, Bool.true_and]
      refine Ev.step (f := fun k => spec_GridOk.l0 k ((i + 1 : Nat) : Int) w xs) (fun k => ?_) (ih (i + 1) (by omega))
      rw [spec_GridOk.l0, if_pos (by omega), if_pos (by omega), hr, specCell, Option.bind_some, if_pos hc, w64 (by omega) (by omega)]
      rfl
    · have hc' : CellA.ctOk xs[i].f0 xs[i].f1 = false := by simpa using hc
      rw [hc', Bool.false_and]
      refine Ev.step (f := fun _ => some false) (fun k => ?_) (Ev.now _)
      rw [spec_GridOk.l0, if_pos (by omega), if_pos (by omega), hr, specCell, Option.bind_some, if_neg hc]

theorem spec_ok (w : Int) (xs : List (S57)) (hx : xs.length ≤ maxLen) : Ev (fun k => spec_GridOk.f k w xs) (gok w xs) := by
  have hx' := hx
  unfold maxLen at hx'
  have no : ∀ {g : Nat → Option Bool}, ¬ (1 ≤ w ∧ w ≤ 5 ∧ 1 ≤ xs.length ∧ (xs.length : Int) ≤ w * 5 ∧ (xs.length : Int) % w = 0) → Ev g false → Ev g (gok w xs) := by
    intro g h hg
    have : gok w xs = false := by unfold gok; rw [decide_eq_false h, Bool.false_and]
    rw [this]; exact hg
  have jt : Ev (fun k => spec_GridOk.j0 k true w xs) false := Ev.step (f := fun _ => some false) (fun k => by rw [spec_GridOk.j0, if_pos rfl]) (Ev.now _)
  by_cases h1 : 1 ≤ w ∧ w ≤ 5
  · have e1 : spec_l6In.f w 1 5 = some true := by unfold spec_l6In.f; rw [if_pos h1.1, decide_eq_true h1.2]
    by_cases h2 : (xs.length : Int) % w = 0
    · have ew : wrap64 ((xs.length : Int) / w) = (xs.length : Int) / w := by
        have := Int.ediv_nonneg (a := (xs.length : Int)) (b := w) (by omega) (by omega)
        have := Int.ediv_le_self (a := (xs.length : Int)) w (by omega)
        exact w64 (by omega) (by omega)
      have hq : (1 ≤ (xs.length : Int) / w ∧ (xs.length : Int) / w ≤ 5) ↔ (1 ≤ xs.length ∧ (xs.length : Int) ≤ w * 5) := by
        obtain ⟨a, b⟩ := h1
        have : w = 1 ∨ w = 2 ∨ w = 3 ∨ w = 4 ∨ w = 5 := by omega
        rcases this with rfl | rfl | rfl | rfl | rfl <;> omega
      have e2 : spec_l6In.f ((xs.length : Int) / w) 1 5 = some (decide (1 ≤ (xs.length : Int) / w ∧ (xs.length : Int) / w ≤ 5)) := by
        unfold spec_l6In.f
        by_cases h : (xs.length : Int) / w ≥ 1
        · rw [if_pos h]; congr 1; rw [Bool.eq_iff_iff]; simp; omega
        · rw [if_neg h]; congr 1; rw [Bool.eq_iff_iff]; simp; omega
      refine Ev.congr (f := fun k => spec_GridOk.j0 k (!(decide (1 ≤ (xs.length : Int) / w ∧ (xs.length : Int) / w ≤ 5))) w xs) (fun k => by
        unfold spec_GridOk.f; rw [e1, Option.bind_some, if_pos rfl, if_neg (by omega), if_pos h2, ew, e2, Option.bind_some]) ?_
      by_cases h3 : 1 ≤ (xs.length : Int) / w ∧ (xs.length : Int) / w ≤ 5
      · rw [decide_eq_true h3]
        have e : gok w xs = allok xs := by unfold gok; rw [decide_eq_true ⟨h1.1, h1.2, (hq.1 h3).1, (hq.1 h3).2, h2⟩, Bool.true_and]
        rw [e]
        refine Ev.step (f := fun k => spec_GridOk.l0 k ((0 : Nat) : Int) w xs) (fun k => by rw [spec_GridOk.j0, if_neg (by decide)]; rfl) ?_
        exact spec_l0 w xs hx xs.length 0 (by omega)
      · rw [decide_eq_false h3]
        exact no (fun h => h3 (hq.2 ⟨h.2.2.1, h.2.2.2.1⟩)) jt
    · refine no (by omega) (Ev.congr (f := fun k => spec_GridOk.j0 k true w xs) (fun k => by unfold spec_GridOk.f; rw [e1, Option.bind_some, if_pos rfl, if_neg (by omega), if_neg h2]) jt)
  · have e1 : spec_l6In.f w 1 5 = some false := by
      unfold spec_l6In.f
      by_cases h : w ≥ 1
      · rw [if_pos h]; congr 1; simp; omega
      · rw [if_neg h]
    exact no (by omega) (Ev.congr (f := fun k => spec_GridOk.j0 k true w xs) (fun k => by unfold spec_GridOk.f; rw [e1, Option.bind_some, if_neg (by decide)]) jt)

/-- What the test says. -/
structure Ok (w : Int) (xs : List (S57)) (h : Int) : Prop where
  w1 : 1 ≤ w
  w5 : w ≤ 5
  h1 : 1 ≤ h
  h5 : h ≤ 5
  len : (xs.length : Int) = w * h
  div : (xs.length : Int) / w = h
  all : ∀ c ∈ xs, okc c.f0 c.f1

theorem ok_of {w : Int} {xs : List (S57)} (h : gok w xs = true) : ∃ hi, Ok w xs hi := by
  unfold gok at h
  rw [Bool.and_eq_true, decide_eq_true_eq] at h
  obtain ⟨⟨a, b, c, d, e⟩, f⟩ := h
  have hall : ∀ c ∈ xs, okc c.f0 c.f1 := fun c hc => (ctOk_iff _ _).1 (by unfold allok at f; exact List.all_eq_true.1 f c hc)
  have : w = 1 ∨ w = 2 ∨ w = 3 ∨ w = 4 ∨ w = 5 := by omega
  refine ⟨(xs.length : Int) / w, a, b, ?_, ?_, ?_, rfl, hall⟩ <;> (rcases this with rfl | rfl | rfl | rfl | rfl <;> omega)

theorem impl_many (w : Int) (xs : List (S57)) (hx : xs.length ≤ maxLen) : Ev (fun k => impl_SightMany.f k w xs) (if gok w xs = true then 2 * (w + (xs.length : Int) / w) else 0) := by
  refine Ev.bind (impl_ok w xs hx) ?_
  by_cases h : gok w xs = true
  · obtain ⟨hi, o⟩ := ok_of h
    have w1 := o.w1; have w5 := o.w5; have h1 := o.h1; have h5 := o.h5
    rw [show (if gok w xs = true then 2 * (w + (xs.length : Int) / w) else 0) = 2 * (w + (xs.length : Int) / w) from if_pos h]
    refine Ev.congr (f := fun _ => some (2 * (w + (xs.length : Int) / w))) (fun k => ?_) (Ev.now _)
    rw [if_pos h]
    unfold impl_gridRows.f
    rw [if_neg (by omega), Option.bind_some, o.div, w64 (x := hi) (by omega) (by omega), w64 (x := w + hi) (by omega) (by omega), w64 (by omega) (by omega)]
  · rw [show (if gok w xs = true then 2 * (w + (xs.length : Int) / w) else 0) = 0 from if_neg h]
    exact Ev.congr (f := fun _ => some 0) (fun k => by rw [if_neg h]) (Ev.now _)

theorem spec_high {w : Int} {xs : List (S57)} {hi : Int} (o : Ok w xs hi) : spec_l1High.f w xs = some hi := by
  have w1 := o.w1; have h1 := o.h1; have h5 := o.h5
  unfold spec_l1High.f
  rw [if_neg (by omega), o.div, w64 (by omega) (by omega)]

theorem spec_many {w : Int} {xs : List (S57)} {hi : Int} (o : Ok w xs hi) : spec_l3Many.f w xs = some (2 * (w + hi)) := by
  have w1 := o.w1; have w5 := o.w5; have h1 := o.h1; have h5 := o.h5
  unfold spec_l3Many.f
  rw [spec_high o, Option.bind_some, w64 (x := w + hi) (by omega) (by omega), w64 (by omega) (by omega)]


theorem dec_cons_eq {α : Type} [DecidableEq α] {a b : α} {A B : List α} (h : a = b) : decide (a :: A = b :: B) = decide (A = B) := by subst h; simp
theorem dec_cons_ne {α : Type} [DecidableEq α] {a b : α} {A B : List α} (h : ¬ a = b) : decide (a :: A = b :: B) = false := by simp [h]
theorem dec_mem_ne {a n : Int} {A : List Int} (h : ¬ a = n) : decide (n ∈ a :: A) = decide (n ∈ A) := by
  rw [Bool.eq_iff_iff]; simp; intro e; exact absurd e.symm h

theorem rd_at {xs : List Int} {i : Nat} (h : i < xs.length) : rd xs (i : Int) = xs[i] := by
  unfold rd
  rw [Int.toNat_natCast, List.getD_eq_getElem?_getD, List.getElem?_eq_getElem h, Option.getD_some]


/-- Each many-th number from i on, below n. -/
def own (i many n : Int) : List Int := if _h : i < n ∧ 1 ≤ many then i :: own (i + many) many n else []
termination_by (n - i).toNat
decreasing_by omega

theorem own_no {i many n : Int} (h : n ≤ i) : own i many n = [] := by rw [own, dif_neg (by omega)]
theorem own_yes {i many n : Int} (h : i < n) (hm : 1 ≤ many) : own i many n = i :: own (i + many) many n := by rw [own, dif_pos ⟨h, hm⟩]

theorem own_len (many n : Int) (hm : 1 ≤ many) (d : Nat) : ∀ i : Int, n - i ≤ d → (own i many n).length ≤ d := by
  induction d with
  | zero => intro i h; rw [own_no (by omega)]; simp
  | succ d ih =>
    intro i h
    by_cases hi : i < n
    · rw [own_yes hi hm]; have := ih (i + many) (by omega); simp; omega
    · rw [own_no (by omega)]; simp

theorem own_mem (many n : Int) (hm : 1 ≤ many) (d : Nat) : ∀ i k : Int, 0 ≤ i → n - i ≤ d → (k ∈ own i many n ↔ i ≤ k ∧ k < n ∧ k % many = i % many) := by
  induction d with
  | zero => intro i k h0 h; rw [own_no (by omega)]; simp; omega
  | succ d ih =>
    intro i k h0 h
    by_cases hi : i < n
    · rw [own_yes hi hm, List.mem_cons, ih (i + many) k (by omega) (by omega)]
      have em : (i + many) % many = i % many := by rw [Int.add_emod_right]
      rw [em]
      constructor
      · rintro (rfl | ⟨a, b, c⟩)
        · exact ⟨by omega, hi, rfl⟩
        · exact ⟨by omega, b, c⟩
      · rintro ⟨a, b, c⟩
        by_cases he : k = i
        · exact .inl he
        · refine .inr ⟨?_, b, c⟩
          have hd := Int.emod_emod_of_dvd
          have h1 : (k - i) % many = 0 := by rw [Int.sub_emod, c]; simp
          have h2 := Int.emod_add_mul_ediv (k - i) many
          rw [h1] at h2
          have h3 : 1 ≤ (k - i) / many := by
            rcases Int.lt_or_le 0 ((k - i) / many) with h4 | h4
            · omega
            · exfalso
              have : many * ((k - i) / many) ≤ 0 := Int.mul_nonpos_of_nonneg_of_nonpos (by omega) h4
              omega
          have h4 : many * 1 ≤ many * ((k - i) / many) := Int.mul_le_mul_of_nonneg_left h3 (by omega)
          omega
    · rw [own_no (by omega)]; simp; omega

/-- How many sights there are; none, if the grid isn't ok. -/
def manyOf (w : Int) (xs : List (S57)) : Int := if gok w xs = true then 2 * (w + (xs.length : Int) / w) else 0
theorem manyOf_range (w : Int) (xs : List (S57)) : 0 ≤ manyOf w xs ∧ manyOf w xs ≤ 20 := by
  unfold manyOf
  by_cases h : gok w xs = true
  · obtain ⟨hi, o⟩ := ok_of h
    have w1 := o.w1; have w5 := o.w5; have h1 := o.h1; have h5 := o.h5; have e := o.div
    rw [if_pos h]; omega
  · rw [if_neg h]; omega

theorem paintIdOk (id many : Int) : impl_paintIdOk.f id many = some (decide (1 ≤ many ∧ many ≤ 3 ∧ 1 ≤ id ∧ id ≤ many)) := by
  unfold impl_paintIdOk.f
  by_cases h1 : many ≥ 1
  · rw [if_pos h1]
    by_cases h2 : many ≤ 3
    · rw [if_pos h2]
      by_cases h3 : id ≥ 1
      · rw [if_pos h3]; congr 1; rw [Bool.eq_iff_iff]; simp; omega
      · rw [if_neg h3]; congr 1; rw [Bool.eq_iff_iff]; simp; omega
    · rw [if_neg h2]; congr 1; rw [Bool.eq_iff_iff]; simp; omega
  · rw [if_neg h1]; congr 1; rw [Bool.eq_iff_iff]; simp; omega

theorem l21Id (id many : Int) : spec_l21Id.f id many = some (decide (1 ≤ many ∧ many ≤ 3 ∧ 1 ≤ id ∧ id ≤ many)) := by
  unfold spec_l21Id.f spec_l6In.f
  by_cases h1 : many ≥ 1
  · rw [if_pos h1, Option.bind_some]
    by_cases h2 : many ≤ 3
    · rw [if_pos (by simpa using h2)]
      by_cases h3 : id ≥ 1
      · rw [if_pos h3, Option.bind_some]; congr 1; rw [Bool.eq_iff_iff]; simp; omega
      · rw [if_neg h3, Option.bind_some]; congr 1; rw [Bool.eq_iff_iff]; simp; omega
    · rw [if_neg (by simpa using h2)]; congr 1; rw [Bool.eq_iff_iff]; simp; omega
  · rw [if_neg h1, Option.bind_some, if_neg (by decide)]; congr 1; rw [Bool.eq_iff_iff]; simp; omega

theorem impl_own_l0 (w : Int) (xs : List (S57)) (hx : xs.length ≤ maxLen) (many : Int) (hm : 1 ≤ many) (hm' : many ≤ 3) (d : Nat) : ∀ (i : Int) (acc : List Int), 0 ≤ i → i ≤ 30 → manyOf w xs - i ≤ d → acc.length + d ≤ 100 →
    Ev (fun k => impl_PaintOwn.l0 k many acc i w xs) (acc ++ own i many (manyOf w xs)) := by
  have hr := manyOf_range w xs
  have hmany : Ev (fun k => impl_SightMany.f k w xs) (manyOf w xs) := impl_many w xs hx
  have stop : ∀ (i : Int) (acc : List Int), manyOf w xs ≤ i → Ev (fun k => impl_PaintOwn.l0 k many acc i w xs) (acc ++ own i many (manyOf w xs)) := by
    intro i acc hi
    rw [own_no hi, List.append_nil]
    refine Ev.step (f := fun k => (impl_SightMany.f k w xs).bind fun t185 => (if i < t185 then (if acc.length < 17592186044416 then (impl_PaintOwn.l0 k many (acc ++ [i]) (wrap64 (i + many)) w xs) else (none)) else (some acc))) (fun k => by rw [impl_PaintOwn.l0]) ?_
    exact Ev.bind hmany (Ev.congr (f := fun _ => some acc) (fun k => by rw [if_neg (by omega)]) (Ev.now _))
  induction d with
  | zero => intro i acc h0 h30 hd ha; exact stop i acc (by omega)
  | succ d ih =>
    intro i acc h0 h30 hd ha
    by_cases hi : i < manyOf w xs
    · rw [own_yes hi hm, show acc ++ i :: own (i + many) many (manyOf w xs) = (acc ++ [i]) ++ own (i + many) many (manyOf w xs) from by simp]
      refine Ev.step (f := fun k => (impl_SightMany.f k w xs).bind fun t185 => (if i < t185 then (if acc.length < 17592186044416 then (impl_PaintOwn.l0 k many (acc ++ [i]) (wrap64 (i + many)) w xs) else (none)) else (some acc))) (fun k => by rw [impl_PaintOwn.l0]) ?_
      refine Ev.bind hmany (Ev.congr (f := fun k => impl_PaintOwn.l0 k many (acc ++ [i]) (i + many) w xs) (fun k => by rw [if_pos hi, if_pos (by omega), w64 (by omega) (by omega)]) ?_)
      exact ih (i + many) (acc ++ [i]) (by omega) (by omega) (by omega) (by simp; omega)
    · exact stop i acc (by omega)

/-- What painter id of many has. -/
def ownOf (w : Int) (xs : List (S57)) (id many : Int) : List Int := if 1 ≤ many ∧ many ≤ 3 ∧ 1 ≤ id ∧ id ≤ many then own (id - 1) many (manyOf w xs) else []

theorem ownOf_len (w : Int) (xs : List (S57)) (id many : Int) : (ownOf w xs id many).length ≤ 20 := by
  have hr := manyOf_range w xs
  unfold ownOf
  split
  · rename_i h; exact own_len many _ h.1 20 (id - 1) (by omega)
  · simp

theorem impl_own (w : Int) (xs : List (S57)) (hx : xs.length ≤ maxLen) (id many : Int) : Ev (fun k => impl_PaintOwn.f k w xs id many) (ownOf w xs id many) := by
  have hr := manyOf_range w xs
  by_cases h : 1 ≤ many ∧ many ≤ 3 ∧ 1 ≤ id ∧ id ≤ many
  · refine Ev.congr (f := fun k => impl_PaintOwn.l0 k many [] (id - 1) w xs) (fun k => ?_) ?_
    · unfold impl_PaintOwn.f; rw [paintIdOk, decide_eq_true h, Option.bind_some, if_pos rfl, w64 (by omega) (by omega)]
    · have := impl_own_l0 w xs hx many h.1 h.2.1 20 (id - 1) [] (by omega) (by omega) (by omega) (by simp)
      unfold ownOf; rw [if_pos h]; exact this
  · unfold ownOf; rw [if_neg h]
    exact Ev.congr (f := fun _ => some []) (fun k => by unfold impl_PaintOwn.f; rw [paintIdOk, decide_eq_false h, Option.bind_some, if_neg (by decide)]) (Ev.now _)

theorem spec_own_l0 {w : Int} {xs : List (S57)} {hi : Int} (o : Ok w xs hi) (many : Int) (hm : 1 ≤ many) (hm' : many ≤ 3) (d : Nat) : ∀ (i : Int) (acc : List Int), 0 ≤ i → i ≤ 30 → 2 * (w + hi) - i ≤ d → acc.length + d ≤ 100 →
    Ev (fun k => spec_l21Own.l0 k many acc i w xs) (acc ++ own i many (2 * (w + hi))) := by
  have w5 := o.w5; have h5 := o.h5
  have stop : ∀ (i : Int) (acc : List Int), 2 * (w + hi) ≤ i → Ev (fun k => spec_l21Own.l0 k many acc i w xs) (acc ++ own i many (2 * (w + hi))) := by
    intro i acc h
    rw [own_no h, List.append_nil]
    exact Ev.step (f := fun _ => some acc) (fun k => by rw [spec_l21Own.l0, spec_many o, Option.bind_some, if_neg (by omega)]) (Ev.now _)
  induction d with
  | zero => intro i acc h0 h30 hd ha; exact stop i acc (by omega)
  | succ d ih =>
    intro i acc h0 h30 hd ha
    by_cases hi' : i < 2 * (w + hi)
    · rw [own_yes hi' hm, show acc ++ i :: own (i + many) many (2 * (w + hi)) = (acc ++ [i]) ++ own (i + many) many (2 * (w + hi)) from by simp]
      refine Ev.step (f := fun k => spec_l21Own.l0 k many (acc ++ [i]) (i + many) w xs) (fun k => by rw [spec_l21Own.l0, spec_many o, Option.bind_some, if_pos hi', if_pos (by omega), w64 (by omega) (by omega)]) ?_
      exact ih (i + many) (acc ++ [i]) (by omega) (by omega) (by omega) (by simp; omega)
    · exact stop i acc (by omega)

theorem spec_own (w : Int) (xs : List (S57)) (hx : xs.length ≤ maxLen) (id many : Int) : Ev (fun k => spec_PaintOwn.f k w xs id many) (ownOf w xs id many) := by
  refine Ev.bind (spec_ok w xs hx) ?_
  by_cases hg : gok w xs = true
  · obtain ⟨hi, o⟩ := ok_of hg
    by_cases h : 1 ≤ many ∧ many ≤ 3 ∧ 1 ≤ id ∧ id ≤ many
    · have e : ownOf w xs id many = own (id - 1) many (2 * (w + hi)) := by unfold ownOf manyOf; rw [if_pos h, if_pos hg, o.div]
      rw [e]
      refine Ev.congr (f := fun k => (spec_l21Own.f k w xs id many).bind fun t215 => (some t215)) (fun k => by rw [if_pos hg, l21Id, decide_eq_true h, Option.bind_some, if_pos rfl]) ?_
      refine Ev.bind (Ev.congr (f := fun k => spec_l21Own.l0 k many [] (id - 1) w xs) (fun k => by unfold spec_l21Own.f; rw [w64 (by omega) (by omega)]) ?_) (Ev.now _)
      have w5 := o.w5; have h5 := o.h5
      exact spec_own_l0 o many h.1 h.2.1 20 (id - 1) [] (by omega) (by omega) (by omega) (by simp)
    · unfold ownOf; rw [if_neg h]
      exact Ev.congr (f := fun _ => some []) (fun k => by rw [if_pos hg, l21Id, decide_eq_false h, Option.bind_some, if_neg (by decide)]) (Ev.now _)
  · have e : ownOf w xs id many = [] := by
      unfold ownOf manyOf; rw [if_neg hg]
      split
      · exact own_no (by omega)
      · rfl
    rw [e]
    exact Ev.congr (f := fun _ => some []) (fun k => by rw [if_neg hg]) (Ev.now _)
theorem rd_mid (pre rest : List Int) (r : Int) : rd (pre ++ r :: rest) (pre.length : Int) = r := by
  unfold rd
  rw [Int.toNat_natCast, List.getD_eq_getElem?_getD, List.getElem?_append_right (Nat.le_refl _), Nat.sub_self]
  rfl
theorem rdC_mid (pre rest : List (S57)) (r : S57) : rd_T57 (pre ++ r :: rest) (pre.length : Int) = r := by
  unfold rd_T57
  rw [Int.toNat_natCast, List.getD_eq_getElem?_getD, List.getElem?_append_right (Nat.le_refl _), Nat.sub_self]
  rfl
theorem rdL_mid (pre rest : List (S94)) (r : S94) : rd_T94 (pre ++ r :: rest) (pre.length : Int) = r := by
  unfold rd_T94
  rw [Int.toNat_natCast, List.getD_eq_getElem?_getD, List.getElem?_append_right (Nat.le_refl _), Nat.sub_self]
  rfl
theorem set_mid {α : Type} (pre rest : List α) (r x : α) : (pre ++ r :: rest).set ((pre.length : Int)).toNat x = pre ++ x :: rest := by
  rw [Int.toNat_natCast, List.set_append_right _ _ (Nat.le_refl _), Nat.sub_self]
  rfl
theorem app1 {α : Type} (pre rest : List α) (r : α) : pre ++ r :: rest = (pre ++ [r]) ++ rest := by simp
theorem len1 {α : Type} (pre : List α) (r : α) : (((pre ++ [r]).length : Nat) : Int) = (pre.length : Int) + 1 := by simp

/-- A cell of an argument, as the program's own. -/
def conv (c : S94) : S57 := ⟨c.f0, c.f1⟩

theorem toCellS_l0 (rest : List (S94)) : ∀ (pre : List (S94)) (pre' rest' : List (S57)), pre'.length = pre.length → rest'.length = rest.length → pre.length + rest.length ≤ 1048576 →
    Ev (fun k => laws_toCellS.l0 k (pre ++ rest) (pre' ++ rest') (pre.length : Int)) (pre' ++ rest.map conv) := by
  induction rest with
  | nil =>
    intro pre pre' rest' h1 h2 _
    obtain rfl : rest' = [] := List.length_eq_zero_iff.1 h2
    exact Ev.step (f := fun _ => some (pre' ++ [])) (fun k => by rw [laws_toCellS.l0, if_neg (by simp)]) (Ev.now _)
  | cons c rest ih =>
    intro pre pre' rest' h1 h2 h3
    obtain ⟨z, rest', rfl⟩ : ∃ z r, rest' = z :: r := List.exists_cons_of_length_eq_add_one (by simpa using h2)
    simp only [List.length_cons] at h2 h3
    have := ih (pre ++ [c]) (pre' ++ [conv c]) rest' (by simp [h1]) (by omega) (by simp; omega)
    rw [← app1, ← app1, len1, show pre' ++ [conv c] ++ rest.map conv = pre' ++ (c :: rest).map conv from by simp] at this
    refine Ev.step (f := fun k => laws_toCellS.l0 k (pre ++ c :: rest) (pre' ++ conv c :: rest') ((pre.length : Int) + 1)) (fun k => ?_) this
    rw [laws_toCellS.l0, if_pos (by simp; omega), if_pos (by omega), rdL_mid]
    unfold laws_toCell.f
    rw [Option.bind_some, if_pos (by simp; omega), w64 (by omega) (by omega)]
    dsimp only
    rw [← h1, set_mid]
    rfl

theorem toCellS_ev (xs : List (S94)) (hx : xs.length ≤ 1048576) : Ev (fun k => laws_toCellS.f k xs) (xs.map conv) := by
  refine Ev.congr (f := fun k => laws_toCellS.l0 k ([] ++ xs) ([] ++ List.replicate xs.length z57) (([] : List (S94)).length : Int)) (fun k => ?_) (toCellS_l0 xs [] [] _ rfl (by simp) (by simpa using hx))
  unfold laws_toCellS.f
  rw [if_pos (by omega), if_pos (by rw [Int.toNat_natCast]; omega), Int.toNat_natCast]
  rfl

theorem toGrid_ev (w : Int) (xs : List (S94)) (hx : xs.length ≤ 1048576) : Ev (fun k => laws_toGrid.f k w xs) (w, xs.map conv) :=
  Ev.bind (toCellS_ev xs hx) (Ev.now _)

theorem eqCellS_l0 (rest : List (S57)) : ∀ pre : List (S57), pre.length + rest.length ≤ 1048576 → Ev (fun k => laws_eqCellS.l0 k (pre ++ rest) (pre ++ rest) (pre.length : Int)) true := by
  induction rest with
  | nil => intro pre _; exact Ev.step (f := fun _ => some true) (fun k => by rw [laws_eqCellS.l0, if_neg (by simp)]) (Ev.now _)
  | cons c rest ih =>
    intro pre h
    simp only [List.length_cons] at h
    have := ih (pre ++ [c]) (by simp; omega)
    rw [← app1, len1] at this
    refine Ev.step (f := fun k => laws_eqCellS.l0 k (pre ++ c :: rest) (pre ++ c :: rest) ((pre.length : Int) + 1)) (fun k => ?_) this
    rw [laws_eqCellS.l0, if_pos (by simp; omega), if_pos (by omega), if_pos (by simp; omega), rdC_mid]
    unfold laws_eqCell.f
    rw [if_pos rfl, if_pos rfl, Option.bind_some, if_pos rfl, w64 (by omega) (by omega)]

theorem eqCellS_ev (xs : List (S57)) (hx : xs.length ≤ 1048576) : Ev (fun k => laws_eqCellS.f k xs xs) true :=
  Ev.congr (f := fun k => laws_eqCellS.l0 k ([] ++ xs) ([] ++ xs) (([] : List (S57)).length : Int)) (fun k => by unfold laws_eqCellS.f; rw [if_pos rfl]; rfl) (eqCellS_l0 xs [] (by simpa using hx))

theorem eqGrid_ev (w : Int) (xs : List (S57)) (hx : xs.length ≤ 1048576) : Ev (fun k => laws_eqGrid.f k w xs w xs) true :=
  Ev.congr (f := fun k => (laws_eqCellS.f k xs xs).bind fun t175 => (if t175 = true then (some true) else (some false))) (fun k => by unfold laws_eqGrid.f; rw [if_pos rfl]) (Ev.bind (eqCellS_ev xs hx) (Ev.congr (f := fun _ => some true) (fun k => by rw [if_pos rfl]) (Ev.now _)))

theorem markCellS_l0 (rest : List (S57)) : ∀ (pre : List (S57)) (m : Int), 0 ≤ m → m + 2 * rest.length ≤ 4000000000 → pre.length + rest.length ≤ 1048576 →
    ∃ ys, Ev (fun k => laws_markCellS.l0 k (pre ++ rest) m (pre.length : Int)) (m + 2 * rest.length, ys) ∧ ys.length = pre.length + rest.length := by
  induction rest with
  | nil => intro pre m _ _ _; exact ⟨pre ++ [], Ev.step (f := fun _ => some (m + 2 * (([] : List (S57)).length : Int), pre ++ [])) (fun k => by rw [laws_markCellS.l0, if_neg (by simp)]; simp) (Ev.now _), by simp⟩
  | cons c rest ih =>
    intro pre m h0 h1 h2
    simp only [List.length_cons] at h1 h2
    obtain ⟨ys, hy, hl⟩ := ih (pre ++ [⟨m, m + 1⟩]) (m + 2) (by omega) (by omega) (by simp; omega)
    rw [← app1, len1] at hy
    refine ⟨ys, ?_, by rw [hl]; simp; omega⟩
    rw [show m + 2 * (((c :: rest).length : Nat) : Int) = m + 2 + 2 * (rest.length : Int) from by simp; omega]
    refine Ev.step (f := fun k => laws_markCellS.l0 k (pre ++ (⟨m, m + 1⟩ : S57) :: rest) (m + 2) ((pre.length : Int) + 1)) (fun k => ?_) hy
    rw [laws_markCellS.l0, if_pos (by simp; omega), if_pos (by omega), set_mid, Option.bind_some, rdC_mid, set_mid, w64 (x := m + 1) (by omega) (by omega), w64 (x := m + 1 + 1) (by omega) (by omega), w64 (x := (pre.length : Int) + 1) (by omega) (by omega), show m + 1 + 1 = m + 2 from by omega, rdC_mid]

theorem markGrid_ev (w : Int) (xs : List (S57)) (m : Int) (h0 : 0 ≤ m) (h1 : m ≤ 1000000000) (hx : xs.length ≤ 1048576) : ∃ ys, Ev (fun k => laws_markGrid.f k w xs m) (m + 2 * xs.length, ys) ∧ ys.length = xs.length := by
  obtain ⟨ys, hy, hl⟩ := markCellS_l0 xs [] m h0 (by omega) (by simpa using hx)
  refine ⟨ys, Ev.bind (a := (m + 2 * (xs.length : Int), ys)) (Ev.congr (fun k => by unfold laws_markCellS.f; rfl) hy) (Ev.now _), by simpa using hl⟩

theorem sz_ev (w : Int) (xs : List (S94)) (hx : xs.length ≤ maxLen) : ∃ t, laws_szGrid.f w xs 1048576 = some t ∧ (¬ t < 0 → xs.length ≤ 1048576) := by
  unfold maxLen at hx
  unfold laws_szGrid.f laws_szCellS.f
  rw [w64 (by omega) (by omega)]
  by_cases h : (1048576 : Int) - (xs.length : Int) < 0
  · rw [if_pos h, Option.bind_some, if_pos (by decide)]
    exact ⟨-1, rfl, fun h => absurd (by decide) h⟩
  · rw [if_neg h, Option.bind_some, if_neg h]
    exact ⟨_, rfl, fun _ => by omega⟩

theorem eqIntS_l0 (rest : List Int) : ∀ pre : List Int, pre.length + rest.length ≤ 1048576 → Ev (fun k => laws_eqIntS.l0 k (pre ++ rest) (pre ++ rest) (pre.length : Int)) true := by
  induction rest with
  | nil => intro pre _; exact Ev.step (f := fun _ => some true) (fun k => by rw [laws_eqIntS.l0, if_neg (by simp)]) (Ev.now _)
  | cons c rest ih =>
    intro pre h
    simp only [List.length_cons] at h
    have := ih (pre ++ [c]) (by simp; omega)
    rw [← app1, len1] at this
    refine Ev.step (f := fun k => laws_eqIntS.l0 k (pre ++ c :: rest) (pre ++ c :: rest) ((pre.length : Int) + 1)) (fun k => ?_) this
    rw [laws_eqIntS.l0, if_pos (by simp; omega), if_pos (by omega), if_pos (by simp; omega), rd_mid, if_pos rfl, w64 (by omega) (by omega)]

theorem eqIntS_ev (xs : List Int) (hx : xs.length ≤ 1048576) : Ev (fun k => laws_eqIntS.f k xs xs) true :=
  Ev.congr (f := fun k => laws_eqIntS.l0 k ([] ++ xs) ([] ++ xs) (([] : List Int).length : Int)) (fun k => by unfold laws_eqIntS.f; rw [if_pos rfl]; rfl) (eqIntS_l0 xs [] (by simpa using hx))

/-- m, m + 1, .. -/
def iota (m : Int) : Nat → List Int
  | 0 => []
  | n + 1 => m :: iota (m + 1) n
theorem iota_len (n : Nat) : ∀ m, (iota m n).length = n := by
  induction n with
  | zero => intro m; rfl
  | succ n ih => intro m; simp [iota, ih]

theorem markIntS_l0 (rest : List Int) : ∀ (pre : List Int) (m : Int), 0 ≤ m → m + rest.length ≤ 4000000000 → pre.length + rest.length ≤ 1048576 →
    Ev (fun k => laws_markIntS.l0 k (pre ++ rest) m (pre.length : Int)) (m + rest.length, pre ++ iota m rest.length) := by
  induction rest with
  | nil => intro pre m _ _ _; exact Ev.step (f := fun _ => some (m + (([] : List Int).length : Int), pre ++ iota m ([] : List Int).length)) (fun k => by rw [laws_markIntS.l0, if_neg (by simp)]; simp [iota]) (Ev.now _)
  | cons c rest ih =>
    intro pre m h0 h1 h2
    simp only [List.length_cons] at h1 h2
    have hy := ih (pre ++ [m]) (m + 1) (by omega) (by omega) (by simp; omega)
    rw [← app1, len1, ← app1] at hy
    rw [show m + (((c :: rest).length : Nat) : Int) = m + 1 + (rest.length : Int) from by simp; omega, show pre ++ iota m (c :: rest).length = pre ++ m :: iota (m + 1) rest.length from rfl]
    refine Ev.step (f := fun k => laws_markIntS.l0 k (pre ++ m :: rest) (m + 1) ((pre.length : Int) + 1)) (fun k => ?_) hy
    rw [laws_markIntS.l0, if_pos (by simp; omega), if_pos (by omega), set_mid, w64 (x := m + 1) (by omega) (by omega), w64 (x := (pre.length : Int) + 1) (by omega) (by omega)]

theorem markIntS_ev (xs : List Int) (m : Int) (h0 : 0 ≤ m) (h1 : m ≤ 1000000000) (hx : xs.length ≤ 1048576) : Ev (fun k => laws_markIntS.f k xs m) (m + xs.length, iota m xs.length) :=
  Ev.congr (fun k => by unfold laws_markIntS.f; rfl) (markIntS_l0 xs [] m h0 (by omega) (by simpa using hx))

theorem heldIntS_l0 (n : Nat) : ∀ (pre : List Int) (m : Int), 0 ≤ m → m + n ≤ 4000000000 → pre.length + n ≤ 1048576 →
    Ev (fun k => laws_heldIntS.l0 k (pre ++ iota m n) m (pre.length : Int)) (m + n) := by
  induction n with
  | zero => intro pre m _ _ _; exact Ev.step (f := fun _ => some (m + ((0 : Nat) : Int))) (fun k => by rw [laws_heldIntS.l0, if_neg (by simp [iota])]; simp) (Ev.now _)
  | succ n ih =>
    intro pre m h0 h1 h2
    have hy := ih (pre ++ [m]) (m + 1) (by omega) (by omega) (by simp; omega)
    rw [← app1, len1] at hy
    rw [show m + ((n + 1 : Nat) : Int) = m + 1 + (n : Int) from by omega]
    refine Ev.step (f := fun k => laws_heldIntS.l0 k (pre ++ m :: iota (m + 1) n) (m + 1) ((pre.length : Int) + 1)) (fun k => ?_) hy
    show laws_heldIntS.l0 (k + 1) (pre ++ m :: iota (m + 1) n) m (pre.length : Int) = _
    rw [laws_heldIntS.l0, if_pos (by simp; omega), if_pos (by omega), rd_mid, if_pos rfl, w64 (x := m + 1) (by omega) (by omega), w64 (x := (pre.length : Int) + 1) (by omega) (by omega)]

theorem heldIntS_ev (n : Nat) (m : Int) (h0 : 0 ≤ m) (h1 : m ≤ 1000000000) (hn : n ≤ 1048576) : Ev (fun k => laws_heldIntS.f k (iota m n) m) (m + n) :=
  Ev.congr (fun k => by unfold laws_heldIntS.f; rfl) (heldIntS_l0 n [] m h0 (by omega) (by simpa using hn))

end Go.Proofs.Ytefbfeaeifbjeaa.DFnExactPaintOwn
