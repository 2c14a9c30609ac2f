/- Lists of numbers: whether they are the same; whether a number is among them. -/
import Derived.Test.YtefbfeaeifbjeaaGFnOwnAll
namespace Go.Proofs.Ytefbfeaeifbjeaa.DFnOwnAll
open Go.RowKit Go.Proofs.Ytefbfeaeifbjeaa.PFnOwnAll Go.Proofs.YtefbfeaeifbjeaaW.PrintWords Go.Proofs.YtefbfeaeifbjeaaW.PrintLast Go.Proofs.Ytefbfeaeifbjeaa.Pl

theorem dec_cons_eq {α : Type} [DecidableEq α] {a b : α} {A B : List α} (h : a = b) : decide (a :: A = b :: B) = decide (A = B) := by subst h; simp
theorem dec_cons_ne {α : Type} [DecidableEq α] {a b : α} {A B : List α} (h : ¬ a = b) : decide (a :: A = b :: B) = false := by simp [h]
theorem dec_mem_ne {a n : Int} {A : List Int} (h : ¬ a = n) : decide (n ∈ a :: A) = decide (n ∈ A) := by
  rw [Bool.eq_iff_iff]; simp; intro e; exact absurd e.symm h

theorem rd_at {xs : List Int} {i : Nat} (h : i < xs.length) : rd xs (i : Int) = xs[i] := by
  unfold rd
  rw [Int.toNat_natCast, List.getD_eq_getElem?_getD, List.getElem?_eq_getElem h, Option.getD_some]

theorem llInts_l0 (xs ys : List Int) (hx : xs.length ≤ maxLen) (hl : xs.length = ys.length) (d : Nat) : ∀ i : Nat, i + d = xs.length → Ev (fun k => laws_llInts.l0 k xs ys (i : Int)) (decide (xs.drop i = ys.drop i)) := by
  unfold maxLen at hx
  induction d with
  | zero =>
    intro i hi
    rw [List.drop_eq_nil_of_le (by omega), List.drop_eq_nil_of_le (by omega)]
    exact Ev.step (f := fun _ => some true) (fun k => by rw [laws_llInts.l0, if_neg (by omega)]) (Ev.now _)
  | succ d ih =>
    intro i hi
    have h1 : i < xs.length := by omega
    have h2 : i < ys.length := by omega
    have e1 : xs.drop i = xs[i] :: xs.drop (i + 1) := (List.getElem_cons_drop h1).symm
    have e2 : ys.drop i = ys[i] :: ys.drop (i + 1) := (List.getElem_cons_drop h2).symm
    by_cases hc : xs[i] = ys[i]
    · have : decide (xs.drop i = ys.drop i) = decide (xs.drop (i + 1) = ys.drop (i + 1)) := by rw [e1, e2]; exact dec_cons_eq hc
      rw [this]
      refine Ev.step (f := fun k => laws_llInts.l0 k xs ys ((i + 1 : Nat) : Int)) (fun k => ?_) (ih (i + 1) (by omega))
      rw [laws_llInts.l0, if_pos (by omega), if_pos (by omega), if_pos (by omega), rd_at h1, rd_at h2, if_pos hc, w64 (by omega) (by omega)]
      rfl
    · have : decide (xs.drop i = ys.drop i) = false := by rw [e1, e2]; exact dec_cons_ne hc
      rw [this]
      refine Ev.step (f := fun _ => some false) (fun k => ?_) (Ev.now _)
      rw [laws_llInts.l0, if_pos (by omega), if_pos (by omega), if_pos (by omega), rd_at h1, rd_at h2, if_neg hc]

theorem llInts_ev (xs ys : List Int) (hx : xs.length ≤ maxLen) : Ev (fun k => laws_llInts.f k xs ys) (decide (xs = ys)) := by
  by_cases h : xs.length = ys.length
  · refine Ev.congr (f := fun k => laws_llInts.l0 k xs ys ((0 : Nat) : Int)) (fun k => by unfold laws_llInts.f; rw [if_pos (by omega)]; rfl) ?_
    exact llInts_l0 xs ys hx h xs.length 0 (by omega)
  · rw [decide_eq_false (fun e => h (by rw [e]))]
    exact Ev.congr (f := fun _ => some false) (fun k => by unfold laws_llInts.f; rw [if_neg (by omega)]) (Ev.now _)

theorem llHas_l0 (xs : List Int) (n : Int) (hx : xs.length ≤ maxLen) (d : Nat) : ∀ i : Nat, i + d = xs.length → Ev (fun k => laws_llHas.l0 k xs n (i : Int)) (decide (n ∈ xs.drop i)) := by
  unfold maxLen at hx
  induction d with
  | zero =>
    intro i hi
    rw [List.drop_eq_nil_of_le (by omega), decide_eq_false (by simp)]
    exact Ev.step (f := fun _ => some false) (fun k => by rw [laws_llHas.l0, if_neg (by omega)]) (Ev.now _)
  | succ d ih =>
    intro i hi
    have h1 : i < xs.length := by omega
    have e1 : xs.drop i = xs[i] :: xs.drop (i + 1) := (List.getElem_cons_drop h1).symm
    by_cases hc : xs[i] = n
    · rw [decide_eq_true (by rw [e1, hc]; exact List.mem_cons_self)]
      refine Ev.step (f := fun _ => some true) (fun k => ?_) (Ev.now _)
      rw [laws_llHas.l0, if_pos (by omega), if_pos (by omega), rd_at h1, if_pos hc]
    · have : decide (n ∈ xs.drop i) = decide (n ∈ xs.drop (i + 1)) := by rw [e1]; exact dec_mem_ne hc
      rw [this]
      refine Ev.step (f := fun k => laws_llHas.l0 k xs n ((i + 1 : Nat) : Int)) (fun k => ?_) (ih (i + 1) (by omega))
      rw [laws_llHas.l0, if_pos (by omega), if_pos (by omega), rd_at h1, if_neg hc, w64 (by omega) (by omega)]
      rfl

theorem llHas_ev (xs : List Int) (n : Int) (hx : xs.length ≤ maxLen) : Ev (fun k => laws_llHas.f k xs n) (decide (n ∈ xs)) :=
  llHas_l0 xs n hx xs.length 0 (by omega)

/-- Each many-th number from i on, below n. -/
def own (i many n : Int) : List Int := if _h : i < n ∧ 1 ≤ many then i :: own (i + many) many n else []
termination_by (n - i).toNat
decreasing_by omega

theorem own_no {i many n : Int} (h : n ≤ i) : own i many n = [] := by rw [own, dif_neg (by omega)]
theorem own_yes {i many n : Int} (h : i < n) (hm : 1 ≤ many) : own i many n = i :: own (i + many) many n := by rw [own, dif_pos ⟨h, hm⟩]

theorem own_len (many n : Int) (hm : 1 ≤ many) (d : Nat) : ∀ i : Int, n - i ≤ d → (own i many n).length ≤ d := by
  induction d with
  | zero => intro i h; rw [own_no (by omega)]; simp
  | succ d ih =>
    intro i h
    by_cases hi : i < n
    · rw [own_yes hi hm]; have := ih (i + many) (by omega); simp; omega
    · rw [own_no (by omega)]; simp

theorem own_mem (many n : Int) (hm : 1 ≤ many) (d : Nat) : ∀ i k : Int, 0 ≤ i → n - i ≤ d → (k ∈ own i many n ↔ i ≤ k ∧ k < n ∧ k % many = i % many) := by
  induction d with
  | zero => intro i k h0 h; rw [own_no (by omega)]; simp; omega
  | succ d ih =>
    intro i k h0 h
    by_cases hi : i < n
    · rw [own_yes hi hm, List.mem_cons, ih (i + many) k (by omega) (by omega)]
      have em : (i + many) % many = i % many := by rw [Int.add_emod_right]
      rw [em]
      constructor
      · rintro (rfl | ⟨a, b, c⟩)
        · exact ⟨by omega, hi, rfl⟩
        · exact ⟨by omega, b, c⟩
      · rintro ⟨a, b, c⟩
        by_cases he : k = i
        · exact .inl he
        · refine .inr ⟨?_, b, c⟩
          have hd := Int.emod_emod_of_dvd
          have h1 : (k - i) % many = 0 := by rw [Int.sub_emod, c]; simp
          have h2 := Int.emod_add_mul_ediv (k - i) many
          rw [h1] at h2
          have h3 : 1 ≤ (k - i) / many := by
            rcases Int.lt_or_le 0 ((k - i) / many) with h4 | h4
            · omega
            · exfalso
              have : many * ((k - i) / many) ≤ 0 := Int.mul_nonpos_of_nonneg_of_nonpos (by omega) h4
              omega
          have h4 : many * 1 ≤ many * ((k - i) / many) := Int.mul_le_mul_of_nonneg_left h3 (by omega)
          omega
    · rw [own_no (by omega)]; simp; omega

/-- How many sights there are; none, if the grid isn't ok. -/
def manyOf (w : Int) (xs : List (S57)) : Int := if gok w xs = true then 2 * (w + (xs.length : Int) / w) else 0
theorem manyOf_range (w : Int) (xs : List (S57)) : 0 ≤ manyOf w xs ∧ manyOf w xs ≤ 20 := by
  unfold manyOf
  by_cases h : gok w xs = true
  · obtain ⟨hi, o⟩ := ok_of h
    have w1 := o.w1; have w5 := o.w5; have h1 := o.h1; have h5 := o.h5; have e := o.div
    rw [if_pos h]; omega
  · rw [if_neg h]; omega

theorem paintIdOk (id many : Int) : impl_paintIdOk.f id many = some (decide (1 ≤ many ∧ many ≤ 3 ∧ 1 ≤ id ∧ id ≤ many)) := by
  unfold impl_paintIdOk.f
  by_cases h1 : many ≥ 1
  · rw [if_pos h1]
    by_cases h2 : many ≤ 3
    · rw [if_pos h2]
      by_cases h3 : id ≥ 1
      · rw [if_pos h3]; congr 1; rw [Bool.eq_iff_iff]; simp; omega
      · rw [if_neg h3]; congr 1; rw [Bool.eq_iff_iff]; simp; omega
    · rw [if_neg h2]; congr 1; rw [Bool.eq_iff_iff]; simp; omega
  · rw [if_neg h1]; congr 1; rw [Bool.eq_iff_iff]; simp; omega

theorem l21Id (id many : Int) : spec_l21Id.f id many = some (decide (1 ≤ many ∧ many ≤ 3 ∧ 1 ≤ id ∧ id ≤ many)) := by
  unfold spec_l21Id.f spec_l6In.f
  by_cases h1 : many ≥ 1
  · rw [if_pos h1, Option.bind_some]
    by_cases h2 : many ≤ 3
    · rw [if_pos (by simpa using h2)]
      by_cases h3 : id ≥ 1
      · rw [if_pos h3, Option.bind_some]; congr 1; rw [Bool.eq_iff_iff]; simp; omega
      · rw [if_neg h3, Option.bind_some]; congr 1; rw [Bool.eq_iff_iff]; simp; omega
    · rw [if_neg (by simpa using h2)]; congr 1; rw [Bool.eq_iff_iff]; simp; omega
  · rw [if_neg h1, Option.bind_some, if_neg (by decide)]; congr 1; rw [Bool.eq_iff_iff]; simp; omega

theorem impl_own_l0 (w : Int) (xs : List (S57)) (hx : xs.length ≤ maxLen) (many : Int) (hm : 1 ≤ many) (hm' : many ≤ 3) (d : Nat) : ∀ (i : Int) (acc : List Int), 0 ≤ i → i ≤ 30 → manyOf w xs - i ≤ d → acc.length + d ≤ 100 →
    Ev (fun k => impl_PaintOwn.l0 k many acc i w xs) (acc ++ own i many (manyOf w xs)) := by
  have hr := manyOf_range w xs
  have hmany : Ev (fun k => impl_SightMany.f k w xs) (manyOf w xs) := impl_many w xs hx
  have stop : ∀ (i : Int) (acc : List Int), manyOf w xs ≤ i → Ev (fun k => impl_PaintOwn.l0 k many acc i w xs) (acc ++ own i many (manyOf w xs)) := by
    intro i acc hi
    rw [own_no hi, List.append_nil]
    refine Ev.step (f := fun k => (impl_SightMany.f k w xs).bind fun t185 => (if i < t185 then (if acc.length < 17592186044416 then (impl_PaintOwn.l0 k many (acc ++ [i]) (wrap64 (i + many)) w xs) else (none)) else (some acc))) (fun k => by rw [impl_PaintOwn.l0]) ?_
    exact Ev.bind hmany (Ev.congr (f := fun _ => some acc) (fun k => by rw [if_neg (by omega)]) (Ev.now _))
  induction d with
  | zero => intro i acc h0 h30 hd ha; exact stop i acc (by omega)
  | succ d ih =>
    intro i acc h0 h30 hd ha
    by_cases hi : i < manyOf w xs
    · rw [own_yes hi hm, show acc ++ i :: own (i + many) many (manyOf w xs) = (acc ++ [i]) ++ own (i + many) many (manyOf w xs) from by simp]
      refine Ev.step (f := fun k => (impl_SightMany.f k w xs).bind fun t185 => (if i < t185 then (if acc.length < 17592186044416 then (impl_PaintOwn.l0 k many (acc ++ [i]) (wrap64 (i + many)) w xs) else (none)) else (some acc))) (fun k => by rw [impl_PaintOwn.l0]) ?_
      refine Ev.bind hmany (Ev.congr (f := fun k => impl_PaintOwn.l0 k many (acc ++ [i]) (i + many) w xs) (fun k => by rw [if_pos hi, if_pos (by omega), w64 (by omega) (by omega)]) ?_)
      exact ih (i + many) (acc ++ [i]) (by omega) (by omega) (by omega) (by simp; omega)
    · exact stop i acc (by omega)

/-- What painter id of many has. -/
def ownOf (w : Int) (xs : List (S57)) (id many : Int) : List Int := if 1 ≤ many ∧ many ≤ 3 ∧ 1 ≤ id ∧ id ≤ many then own (id - 1) many (manyOf w xs) else []

theorem ownOf_len (w : Int) (xs : List (S57)) (id many : Int) : (ownOf w xs id many).length ≤ 20 := by
  have hr := manyOf_range w xs
  unfold ownOf
  split
  · rename_i h; exact own_len many _ h.1 20 (id - 1) (by omega)
  · simp

theorem impl_own (w : Int) (xs : List (S57)) (hx : xs.length ≤ maxLen) (id many : Int) : Ev (fun k => impl_PaintOwn.f k w xs id many) (ownOf w xs id many) := by
  have hr := manyOf_range w xs
  by_cases h : 1 ≤ many ∧ many ≤ 3 ∧ 1 ≤ id ∧ id ≤ many
  · refine Ev.congr (f := fun k => impl_PaintOwn.l0 k many [] (id - 1) w xs) (fun k => ?_) ?_
    · unfold impl_PaintOwn.f; rw [paintIdOk, decide_eq_true h, Option.bind_some, if_pos rfl, w64 (by omega) (by omega)]
    · have := impl_own_l0 w xs hx many h.1 h.2.1 20 (id - 1) [] (by omega) (by omega) (by omega) (by simp)
      unfold ownOf; rw [if_pos h]; exact this
  · unfold ownOf; rw [if_neg h]
    exact Ev.congr (f := fun _ => some []) (fun k => by unfold impl_PaintOwn.f; rw [paintIdOk, decide_eq_false h, Option.bind_some, if_neg (by decide)]) (Ev.now _)

theorem spec_own_l0 {w : Int} {xs : List (S57)} {hi : Int} (o : Ok w xs hi) (many : Int) (hm : 1 ≤ many) (hm' : many ≤ 3) (d : Nat) : ∀ (i : Int) (acc : List Int), 0 ≤ i → i ≤ 30 → 2 * (w + hi) - i ≤ d → acc.length + d ≤ 100 →
    Ev (fun k => spec_l21Own.l0 k many acc i w xs) (acc ++ own i many (2 * (w + hi))) := by
  have w5 := o.w5; have h5 := o.h5
  have stop : ∀ (i : Int) (acc : List Int), 2 * (w + hi) ≤ i → Ev (fun k => spec_l21Own.l0 k many acc i w xs) (acc ++ own i many (2 * (w + hi))) := by
    intro i acc h
    rw [own_no h, List.append_nil]
    exact Ev.step (f := fun _ => some acc) (fun k => by rw [spec_l21Own.l0, spec_many o, Option.bind_some, if_neg (by omega)]) (Ev.now _)
  induction d with
  | zero => intro i acc h0 h30 hd ha; exact stop i acc (by omega)
  | succ d ih =>
    intro i acc h0 h30 hd ha
    by_cases hi' : i < 2 * (w + hi)
    · rw [own_yes hi' hm, show acc ++ i :: own (i + many) many (2 * (w + hi)) = (acc ++ [i]) ++ own (i + many) many (2 * (w + hi)) from by simp]
      refine Ev.step (f := fun k => spec_l21Own.l0 k many (acc ++ [i]) (i + many) w xs) (fun k => by rw [spec_l21Own.l0, spec_many o, Option.bind_some, if_pos hi', if_pos (by omega), w64 (by omega) (by omega)]) ?_
      exact ih (i + many) (acc ++ [i]) (by omega) (by omega) (by omega) (by simp; omega)
    · exact stop i acc (by omega)

theorem spec_own (w : Int) (xs : List (S57)) (hx : xs.length ≤ maxLen) (id many : Int) : Ev (fun k => spec_PaintOwn.f k w xs id many) (ownOf w xs id many) := by
  refine Ev.bind (spec_ok w xs hx) ?_
  by_cases hg : gok w xs = true
  · obtain ⟨hi, o⟩ := ok_of hg
    by_cases h : 1 ≤ many ∧ many ≤ 3 ∧ 1 ≤ id ∧ id ≤ many
    · have e : ownOf w xs id many = own (id - 1) many (2 * (w + hi)) := by unfold ownOf manyOf; rw [if_pos h, if_pos hg, o.div]
      rw [e]
      refine Ev.congr (f := fun k => (spec_l21Own.f k w xs id many).bind fun t215 => (some t215)) (fun k => by rw [if_pos hg, l21Id, decide_eq_true h, Option.bind_some, if_pos rfl]) ?_
      refine Ev.bind (Ev.congr (f := fun k => spec_l21Own.l0 k many [] (id - 1) w xs) (fun k => by unfold spec_l21Own.f; rw [w64 (by omega) (by omega)]) ?_) (Ev.now _)
      have w5 := o.w5; have h5 := o.h5
      exact spec_own_l0 o many h.1 h.2.1 20 (id - 1) [] (by omega) (by omega) (by omega) (by simp)
    · unfold ownOf; rw [if_neg h]
      exact Ev.congr (f := fun _ => some []) (fun k => by rw [if_pos hg, l21Id, decide_eq_false h, Option.bind_some, if_neg (by decide)]) (Ev.now _)
  · have e : ownOf w xs id many = [] := by
      unfold ownOf manyOf; rw [if_neg hg]
      split
      · exact own_no (by omega)
      · rfl
    rw [e]
    exact Ev.congr (f := fun _ => some []) (fun k => by rw [if_neg hg]) (Ev.now _)

end Go.Proofs.Ytefbfeaeifbjeaa.DFnOwnAll
