/- How a grid among the arguments reads. -/
import Derived.Test.YtefbfeaeifbjeaaPFnExactPaintOwnx0
import Derived.ProofKit
import Derived.OpenShut
import Derived.Deep.SlicePairs
import Derived.Lib.SmallJoins
namespace Go.Proofs.Ytefbfeaeifbjeaa.LFnExactPaintOwn
open Go.ChangeShapes Go.WideShapes Go.ChangeAt Go.RowKit Go.Proofs.Ytefbfeaeifbjeaa.PFnExactPaintOwn Go.Proofs.YtefbfeaeifbjeaaW.PrintWords Go.Deep
set_option linter.unusedVariables false

theorem open_int1 {H : Type} {enc : TypeId × Value → H} {W : World} {base : Nat} {spare : Nat → Bool} {held : Bool} {fuel : Nat} {v : Value} {x : DataW H × List MemPlace}
    (h : DataW.trod enc Try.prog W base spare held fuel 3 [v] = some x) : ∃ n : Int, v = .int .i64 n ∧ (Lit.int .i64 n).wf = true := by
  obtain ⟨n, e, _, hw⟩ := DataW.trod_int Try.underlying3 h
  simp at e
  exact ⟨n, e, hw⟩

theorem open_cells {H : Type} {enc : TypeId × Value → H} {W : World} {base : Nat} {spare : Nat → Bool} {held : Bool} {fuel : Nat} {v : Value} {x : DataW H × List MemPlace}
    (h : DataW.trod enc Try.prog W base spare held fuel 35 [v] = some x) :
    ∃ (A : Option Addr) (cap : Nat) (xs : List (S94)), v = .slice A xs.length cap ∧ Kd.C k94 W A xs.length xs ∧ xs.length ≤ cap ∧ xs.length ≤ maxLen := by
  rcases open_slice_pairs Try.underlying35 Try.underlying94 (by kernel_rfl) rfl rfl (by kernel_rfl) (by kernel_rfl) h with ⟨hcs, _⟩ | ⟨a, len, cap, m, n, V0, V1, D0, D1, P0, P1, hcs, _, hl, hm, hmm, _, hx⟩
  · simp at hcs
    subst hcs
    exact ⟨none, 0, [], rfl, Kd.C_nil _ _, by simp, by simp⟩
  · simp at hcs
    subst hcs
    have hlm : len ≤ m := by rw [hmm]; split <;> omega
    have each : ∀ i, i < len → ∃ q : Int × Int, V0 i = .int .i64 q.1 ∧ V1 i = .int .i64 q.2 := by
      intro i hi
      obtain ⟨_, _, t0, t1⟩ := hx i (by omega)
      obtain ⟨a0, e0, _⟩ := open_int1 t0
      obtain ⟨a1, e1, _⟩ := open_int1 t1
      exact ⟨(a0, a1), e0, e1⟩
    obtain ⟨q, hq⟩ := choose_lt each
    have hlen : ((List.range len).map fun i => (⟨(q i).1, (q i).2⟩ : S94)).length = len := by simp
    refine ⟨some a, cap, (List.range len).map fun i => ⟨(q i).1, (q i).2⟩, by rw [hlen], ?_, by rw [hlen]; exact hl, by rw [hlen]; omega⟩
    refine ⟨rfl, by rw [hlen]; unfold maxLen at hm; omega, fun _ => ⟨a, rfl, fun j p hp => ?_⟩⟩
    have hj : j < len := by
      rcases Nat.lt_or_ge j len with h | h
      · exact h
      · rw [List.getElem?_eq_none (by rw [hlen]; exact h)] at hp; cases hp
    rw [List.getElem?_map, List.getElem?_range hj] at hp
    obtain rfl := Option.some.inj hp
    obtain ⟨c0, c1, _, _⟩ := hx j (by omega)
    obtain ⟨e0, e1⟩ := hq j hj
    refine ⟨[.int .i64 (q j).1, .int .i64 (q j).2], rfl, k94_mk _ _, fun i u hu => ?_⟩
    match i, hu with
    | 0, hu => simp at hu; subst hu; rw [← e0]; exact c0
    | 1, hu => simp at hu; subst hu; rw [← e1]; exact c1

theorem cells_grid : Try.prog.cellsOf 37 = 2 := by kernel_rfl
set_option maxRecDepth 100000 in
theorem open_grid {H : Type} {enc : TypeId × Value → H} {W : World} {base b0 : Nat} {spare : Nat → Bool} {held : Bool} {r : Reach} {v : Value} {d : DataW H} {p : List MemPlace}
    (hv : Value.okWide Try.prog W r b0 37 v) (h : DataW.Trod enc Try.prog W base spare held 37 v d p) :
    ∃ (w : Int) (A : Option Addr) (cap : Nat) (xs : List (S94)), v = .agg #[.int .i64 w, .slice A xs.length cap] ∧ Kd.C k94 W A xs.length xs ∧ xs.length ≤ cap ∧ xs.length ≤ maxLen ∧ (Lit.int .i64 w).wf = true := by
  obtain ⟨c0, c1, y0, y1, n, rfl, _, _, t0, t1⟩ := Joins.open_agg2 Try.underlying37 (by kernel_rfl) cells_grid hv h
  obtain ⟨w, rfl, hw⟩ := open_int1 t0
  obtain ⟨A, cap, xs, rfl, hc, hl, hm⟩ := open_cells t1
  exact ⟨w, A, cap, xs, rfl, hc, hl, hm, hw⟩

end Go.Proofs.Ytefbfeaeifbjeaa.LFnExactPaintOwn
