/- The plain statement behind FnOwnAll: each sight of a drawn grid is one painter's. No condition. -/
import Derived.Test.YtefbfeaeifbjeaaOFnOwnAll
namespace Go.Proofs.Ytefbfeaeifbjeaa.Pure
open Go.RowKit Go.Proofs.Ytefbfeaeifbjeaa.PFnOwnAll Go.Proofs.YtefbfeaeifbjeaaW.PrintWords Go.Proofs.YtefbfeaeifbjeaaW.PrintLast Go.Proofs.Ytefbfeaeifbjeaa.Pl Go.Proofs.Ytefbfeaeifbjeaa.DFnOwnAll

theorem own_all (n : Int) (d : Nat) : ∀ i : Int, n - i = d → (own i 1 n).length = d := by
  induction d with
  | zero => intro i h; rw [own_no (by omega)]; rfl
  | succ d ih => intro i h; rw [own_yes (by omega) (by omega), List.length_cons, ih (i + 1) (by omega)]

theorem l1_ev {w : Int} {xs : List (S57)} (hx : xs.length ≤ maxLen) (many i : Int) (hm : 1 ≤ many) (hm' : many ≤ 3) (h0 : 0 ≤ i) (hi : i < manyOf w xs)
    (next : Ev (fun k => laws_FnOwnAll.l0 k many (i + 1) w xs) true) (d : Nat) : ∀ j c : Int, 1 ≤ j → j + d = many + 1 → c = (if i % many + 1 < j then 1 else 0) → Ev (fun k => laws_FnOwnAll.l1 k many i c j w xs) true := by
  have hr := manyOf_range w xs
  have mr : 0 ≤ i % many ∧ i % many < many := ⟨Int.emod_nonneg _ (by omega), Int.emod_lt_of_pos _ (by omega)⟩
  induction d with
  | zero =>
    intro j c hj hd hc
    rw [if_pos (by omega)] at hc
    exact Ev.step (f := fun k => laws_FnOwnAll.l0 k many (i + 1) w xs) (fun k => by rw [laws_FnOwnAll.l1, if_neg (by omega), if_pos hc, w64 (by omega) (by omega)]) next
  | succ d ih =>
    intro j c hj hd hc
    refine Ev.step (f := fun k => (impl_PaintOwn.f k w xs j many).bind fun t249 => ((laws_llHas.f k t249 i).bind fun t252 => (if t252 = true then (laws_FnOwnAll.l1 k many i (wrap64 (c + 1)) (wrap64 (j + 1)) w xs) else (laws_FnOwnAll.l1 k many i c (wrap64 (j + 1)) w xs)))) (fun k => by rw [laws_FnOwnAll.l1, if_pos (by omega)]) ?_
    have hlen := ownOf_len w xs j many
    refine Ev.bind (impl_own w xs hx j many) (Ev.bind (llHas_ev _ i (by unfold maxLen; omega)) ?_)
    have hmem : i ∈ ownOf w xs j many ↔ i % many + 1 = j := by
      unfold ownOf
      rw [if_pos ⟨hm, hm', hj, by omega⟩, own_mem many _ hm 20 (j - 1) i (by omega) (by omega)]
      have e : (j - 1) % many = j - 1 := Int.emod_eq_of_lt (by omega) (by omega)
      rw [e]
      constructor
      · rintro ⟨_, _, h⟩; omega
      · intro h
        have h2 := Int.emod_add_mul_ediv i many
        have h3 : 0 ≤ i / many := Int.ediv_nonneg h0 (by omega)
        have h4 : 0 ≤ many * (i / many) := Int.mul_nonneg (by omega) h3
        omega
    by_cases h : i % many + 1 = j
    · rw [if_neg (by omega)] at hc
      refine Ev.congr (f := fun k => laws_FnOwnAll.l1 k many i 1 (j + 1) w xs) (fun k => ?_) (ih (j + 1) 1 (by omega) (by omega) (by rw [if_pos (by omega)]))
      rw [decide_eq_true (hmem.2 h), if_pos rfl, hc, w64 (x := j + 1) (by omega) (by omega), w64 (x := 0 + 1) (by omega) (by omega)]
      rfl
    · refine Ev.congr (f := fun k => laws_FnOwnAll.l1 k many i c (j + 1) w xs) (fun k => ?_) (ih (j + 1) c (by omega) (by omega) ?_)
      · rw [decide_eq_false (fun e => h (hmem.1 e)), if_neg (by decide), w64 (x := j + 1) (by omega) (by omega)]
      · rw [hc]
        by_cases h' : i % many + 1 < j
        · rw [if_pos h', if_pos (by omega)]
        · rw [if_neg h', if_neg (by omega)]

theorem l0_ev {w : Int} {xs : List (S57)} (hx : xs.length ≤ maxLen) (many : Int) (hm : 1 ≤ many) (hm' : many ≤ 3) (d : Nat) : ∀ i : Int, 0 ≤ i → i + d = manyOf w xs → Ev (fun k => laws_FnOwnAll.l0 k many i w xs) true := by
  have hr := manyOf_range w xs
  have hmany : Ev (fun k => impl_SightMany.f k w xs) (manyOf w xs) := impl_many w xs hx
  induction d with
  | zero =>
    intro i h0 hd
    refine Ev.step (f := fun k => (impl_SightMany.f k w xs).bind fun t244 => (if i < t244 then (laws_FnOwnAll.l1 k many i 0 1 w xs) else ((impl_PaintOwn.f k w xs 1 1).bind fun t245 => ((impl_SightMany.f k w xs).bind fun t248 => (some ((t245.length : Int) == t248)))))) (fun k => by rw [laws_FnOwnAll.l0]) ?_
    refine Ev.bind hmany (Ev.congr (f := fun k => (impl_PaintOwn.f k w xs 1 1).bind fun t245 => ((impl_SightMany.f k w xs).bind fun t248 => (some ((t245.length : Int) == t248)))) (fun k => by rw [if_neg (by omega)]) ?_)
    refine Ev.bind (impl_own w xs hx 1 1) (Ev.bind hmany (Ev.congr (f := fun _ => some true) (fun k => ?_) (Ev.now _)))
    have e : ((ownOf w xs 1 1).length : Int) = manyOf w xs := by
      unfold ownOf
      rw [if_pos (by omega), own_all (manyOf w xs) (manyOf w xs).toNat (1 - 1) (by omega)]
      omega
    rw [e, beq_self_eq_true]
  | succ d ih =>
    intro i h0 hd
    refine Ev.step (f := fun k => (impl_SightMany.f k w xs).bind fun t244 => (if i < t244 then (laws_FnOwnAll.l1 k many i 0 1 w xs) else ((impl_PaintOwn.f k w xs 1 1).bind fun t245 => ((impl_SightMany.f k w xs).bind fun t248 => (some ((t245.length : Int) == t248)))))) (fun k => by rw [laws_FnOwnAll.l0]) ?_
    refine Ev.bind hmany (Ev.congr (f := fun k => laws_FnOwnAll.l1 k many i 0 1 w xs) (fun k => by rw [if_pos (by omega)]) ?_)
    have mr : 0 ≤ i % many := Int.emod_nonneg _ (by omega)
    exact l1_ev hx many i hm hm' h0 (by omega) (ih (i + 1) (by omega) (by omega)) many.toNat 1 0 (by omega) (by omega) (by rw [if_neg (by omega)])

theorem FnOwnAll : laws_FnOwnAll.Pure := by
  intro l hl _ hw
  refine Ev.rounds (r := true) ?_
  by_cases hbig : (l.length : Int) > 1048576
  · exact Ev.congr (f := fun _ => some true) (fun k => by unfold laws_FnOwnAll.f; rw [if_pos hbig]) (Ev.now _)
  · obtain ⟨s, ho, hs⟩ := open_ev hw hl
    obtain ⟨w, xs, p, hsome, hsm, hp, hp'⟩ := some_ev hs 0 (by omega) (by omega)
    obtain ⟨id, hid, i0, i1, _⟩ := pick_ev hs p 4 hp (by omega) (by omega)
    obtain ⟨m, hmm, m0, m1, _⟩ := pick_ev hs (p + 1) 5 (by omega) (by omega) (by omega)
    obtain ⟨q, hq, q0, q1, _⟩ := pick_ev hs (p + 1 + 1) 12 (by omega) (by omega) (by omega)
    have m1 := m1 (by omega)
    have q1 := q1 (by omega)
    have hxl := hsm.len
    have hx : xs.length ≤ maxLen := by unfold maxLen; omega
    have hdraw : ∃ many, Ev (fun k => spec_DrawPaintOwn.f k l) (w, xs, id, many) := by
      refine ⟨m - Int.tdiv q 11 + 1, ?_⟩
      have ht : 0 ≤ Int.tdiv q 11 ∧ Int.tdiv q 11 ≤ 1 := by rw [Int.tdiv_eq_ediv_of_nonneg q0]; omega
      refine Ev.bind (Ev.congr (f := fun _ => some (s, 0)) (fun k => ho) (Ev.now _)) (Ev.bind hsome (Ev.bind hid (Ev.bind hmm (Ev.bind hq (Ev.congr (f := fun _ => some (w, xs, id, m - Int.tdiv q 11 + 1)) (fun k => ?_) (Ev.now _))))))
      dsimp only
      rw [w64 (x := Int.tdiv q 11) (by omega) (by omega), w64 (x := m - Int.tdiv q 11) (by omega) (by omega), w64 (by omega) (by omega)]
    obtain ⟨many, hdraw⟩ := hdraw
    refine Ev.congr (fun k => by unfold laws_FnOwnAll.f; rw [if_neg hbig]) (Ev.bind hdraw ?_)
    have hlen := ownOf_len w xs id many
    refine Ev.bind (impl_own w xs hx id many) (Ev.bind (spec_own w xs hx id many) (Ev.bind (llInts_ev _ _ (by unfold maxLen; omega)) ?_))
    have jt : Ev (fun k => laws_FnOwnAll.j0 k id many (ownOf w xs id many) true w xs) true := by
      refine Ev.step (f := fun k => (spec_PaintOwn.f k w xs id many).bind fun t240 => ((laws_llInts.f k (ownOf w xs id many) t240).bind fun t243 => (some t243))) (fun k => by rw [laws_FnOwnAll.j0, if_pos rfl]) ?_
      refine Ev.bind (spec_own w xs hx id many) (Ev.bind (llInts_ev _ _ (by unfold maxLen; omega)) (Ev.congr (f := fun _ => some true) (fun k => by simp) (Ev.now _)))
    refine Ev.congr (fun k => by rw [decide_eq_true rfl, if_pos rfl]) (Ev.bind (spec_ok w xs hx) ?_)
    by_cases hg : gok w xs = true
    · by_cases h1 : many < 1
      · exact Ev.congr (fun k => by rw [if_pos hg, if_pos h1]) jt
      · by_cases h3 : many > 3
        · exact Ev.congr (fun k => by rw [if_pos hg, if_neg h1, decide_eq_true h3]) jt
        · refine Ev.congr (f := fun k => laws_FnOwnAll.j0 k id many (ownOf w xs id many) false w xs) (fun k => by rw [if_pos hg, if_neg h1, decide_eq_false h3]) ?_
          refine Ev.step (f := fun k => laws_FnOwnAll.l0 k many 0 w xs) (fun k => by rw [laws_FnOwnAll.j0, if_neg (by decide)]) ?_
          have hr := manyOf_range w xs
          exact l0_ev hx many (by omega) (by omega) (manyOf w xs).toNat 0 (by omega) (by omega)
    · exact Ev.congr (fun k => by rw [if_neg hg]) jt

end Go.Proofs.Ytefbfeaeifbjeaa.Pure
