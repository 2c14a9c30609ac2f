/- The plain statement behind FnExactPaintOwn: the program's PaintOwn is the reference's, for every grid and every two numbers. -/
import Derived.Test.YtefbfeaeifbjeaaDFnExactPaintOwn
namespace Go.Proofs.Ytefbfeaeifbjeaa.Pure
open Go.RowKit Go.Proofs.Ytefbfeaeifbjeaa.PFnExactPaintOwn Go.Proofs.YtefbfeaeifbjeaaW.PrintWords Go.Proofs.YtefbfeaeifbjeaaW.PrintLast Go.Proofs.Ytefbfeaeifbjeaa.Pl Go.Proofs.Ytefbfeaeifbjeaa.DFnExactPaintOwn

theorem FnExactPaintOwn (w : Int) (xs : List (S94)) (id many : Int) (hx : xs.length ≤ maxLen) : ∃ k, laws_FnExactPaintOwn.f k w xs id many = some true := by
  refine Ev.rounds (r := true) ?_
  obtain ⟨t, ht, hsz⟩ := sz_ev w xs hx
  by_cases h0 : t < 0
  · exact Ev.congr (f := fun _ => some true) (fun k => by unfold laws_FnExactPaintOwn.f; rw [ht, Option.bind_some, if_pos h0]) (Ev.now _)
  · have hl := hsz h0
    have hm : (xs.map conv).length ≤ maxLen := by rw [List.length_map]; exact hx
    have hm' : (xs.map conv).length ≤ 1048576 := by rw [List.length_map]; exact hl
    have hlen := ownOf_len w (xs.map conv) id many
    have ho : (ownOf w (xs.map conv) id many).length ≤ 1048576 := by omega
    obtain ⟨ys, hmark, _⟩ := markGrid_ev w (xs.map conv) 1 (by omega) (by omega) hm'
    refine Ev.congr (fun k => by unfold laws_FnExactPaintOwn.f; rw [ht, Option.bind_some, if_neg h0]) ?_
    refine Ev.bind (toGrid_ev w xs hl) (Ev.bind (spec_own w _ hm id many) (Ev.bind (toGrid_ev w xs hl) (Ev.bind (impl_own w _ hm id many) (Ev.bind (eqIntS_ev _ ho) ?_))))
    refine Ev.congr (fun k => by rw [if_pos rfl]) (Ev.bind (toGrid_ev w xs hl) (Ev.bind (eqGrid_ev w _ hm') ?_))
    refine Ev.congr (fun k => by rw [if_pos rfl]) (Ev.bind hmark ?_)
    refine Ev.congr (fun k => by dsimp only; rw [if_neg (by omega)]) (Ev.bind (eqIntS_ev _ ho) ?_)
    refine Ev.step (fun k => by rw [laws_FnExactPaintOwn.j0, if_neg (by decide)]) ?_
    refine Ev.bind (markIntS_ev _ 1 (by omega) (by omega) ho) (Ev.bind (heldIntS_ev _ 1 (by omega) (by omega) ho) ?_)
    refine Ev.congr (fun k => by rw [if_neg (by omega), if_pos rfl]) ?_
    refine Ev.bind (toGrid_ev w xs hl) (Ev.bind (impl_own w _ hm id many) (Ev.bind (eqIntS_ev _ ho) ?_))
    refine Ev.congr (fun k => by rw [if_pos rfl]) (Ev.bind (heldIntS_ev _ 1 (by omega) (by omega) ho) ?_)
    exact Ev.congr (f := fun _ => some true) (fun k => by rw [if_neg (by omega), if_pos rfl]) (Ev.now _)

end Go.Proofs.Ytefbfeaeifbjeaa.Pure
