/- The plain statement behind FnTrailNever: without glass and what dims nothing leaves at the sight where it came in. No condition. -/
import Derived.Test.YtefbfeaeifbjeaaDFnTrailNever
namespace Go.Proofs.Ytefbfeaeifbjeaa.Pure
open Go.RowKit Go.Proofs.Ytefbfeaeifbjeaa.PFnTrailNever Go.Proofs.YtefbfeaeifbjeaaW.PrintWords Go.Proofs.YtefbfeaeifbjeaaW.PrintLast Go.Proofs.Ytefbfeaeifbjeaa.Pl Go.Proofs.Ytefbfeaeifbjeaa.DFnTrailNever
set_option linter.unusedVariables false

/-- How many cells are of a kind: none, just if there is none. -/
theorem kinds_ev (w : Int) (xs : List (S57)) (hx : xs.length ≤ 1000) (with_reducible_ : Int) (d : Nat) : ∀ (i : Nat) (acc : Int), i + d = xs.length → 0 ≤ acc → acc ≤ (i : Int) → ∃ r : Int, Ev (fun k => laws_llKinds.l0 k with_reducible_ acc (i : Int) w xs) r ∧ acc ≤ r ∧ (r = 0 → ∀ j : Nat, i ≤ j → ∀ h : j < xs.length, (if (if xs[j].f0 = 3 then 2 else xs[j].f0) = 5 then 4 else (if xs[j].f0 = 3 then 2 else xs[j].f0)) ≠ with_reducible_) := by
 induction d with
 | zero =>
  intro i acc hi a0 a1
  exact ⟨acc, Ev.step (f := fun _ => some acc) (fun k => by rw [laws_llKinds.l0, if_neg (by omega)]) (Ev.now _), Int.le_refl _, fun _ j h1 h2 => absurd h2 (by omega)⟩
 | succ d ih =>
  intro i acc hi a0 a1
  have hlt : i < xs.length := by omega
  generalize hy : (if xs[i].f0 = 3 then 2 else xs[i].f0) = y
  have hj : ∀ {r}, Ev (fun k => laws_llKinds.j1 k with_reducible_ acc (i : Int) y w xs) r → Ev (fun k => laws_llKinds.l0 k with_reducible_ acc (i : Int) w xs) r := fun h =>
   Ev.step (fun k => by
    rw [laws_llKinds.l0, if_pos (by omega), if_pos (by omega), rdT hlt, ← hy]
    by_cases c : xs[i].f0 = 3
    ·rw [if_pos c, if_pos c]
    ·rw [if_neg c, if_neg c]) h
  generalize hz : (if y = 5 then 4 else y) = z
  by_cases c : z = with_reducible_
  ·obtain ⟨r, hr, h1, h2⟩ := ih (i + 1) (acc + 1) (by omega) (by omega) (by omega)
   refine ⟨r, hj (Ev.step (f := fun k => laws_llKinds.l0 k with_reducible_ (acc + 1) ((i + 1 : Nat) : Int) w xs) (fun k => ?_) hr), by omega, fun e => absurd e (by omega)⟩
   rw [laws_llKinds.j1, w64 (with_reducible_ := acc + 1) (by omega) (by omega), w64 (with_reducible_ := (i : Int) + 1) (by omega) (by omega)]
   by_cases c5 : y = 5
   ·rw [if_pos c5] at hz ⊢; rw [if_pos (by omega)]; rfl
   ·rw [if_neg c5] at hz ⊢; rw [if_pos (by omega)]; rfl
  ·obtain ⟨r, hr, h1, h2⟩ := ih (i + 1) acc (by omega) a0 (by omega)
   refine ⟨r, hj (Ev.step (f := fun k => laws_llKinds.l0 k with_reducible_ acc ((i + 1 : Nat) : Int) w xs) (fun k => ?_) hr), h1, fun e j hj1 hj2 => ?_⟩
   ·rw [laws_llKinds.j1, w64 (with_reducible_ := (i : Int) + 1) (by omega) (by omega)]
    by_cases c5 : y = 5
    ·rw [if_pos c5] at hz ⊢; rw [if_neg (by omega)]; rfl
    ·rw [if_neg c5] at hz ⊢; rw [if_neg (by omega)]; rfl
   ·rcases Nat.lt_or_ge i j with h | h
    ·exact h2 e j h hj2
    ·have : j = i := by omega
     subst this
     rw [hy, hz]; exact c
theorem clear_ev (w : Int) (xs : List (S57)) (hx : xs.length ≤ 1000) : ∃ b, Ev (fun k => laws_llClear.f k w xs) b ∧ (b = true → ∀ a : Int, 0 ≤ a ∧ a < (xs.length : Int) → kdOf xs a ≠ 4 ∧ kdOf xs a ≠ 5 ∧ kdOf xs a ≠ 6) := by
 obtain ⟨r, hr, r0, h4⟩ := kinds_ev w xs hx 4 xs.length 0 0 (by omega) (by omega) (by omega)
 obtain ⟨u, hu, u0, h6⟩ := kinds_ev w xs hx 6 xs.length 0 0 (by omega) (by omega) (by omega)
 by_cases c : r = 0
 ·refine ⟨u == 0, Ev.bind hr (Ev.congr (f := fun k => (laws_llKinds.f k w xs 6).bind fun t286 => some (t286 == 0)) (fun k => by rw [if_pos c]) (Ev.bind hu (Ev.now _))), ?_⟩
  intro hb a ⟨a0, a1⟩
  have hb : u = 0 := by simpa using hb
  obtain ⟨i, rfl⟩ := Int.eq_ofNat_of_zero_le a0
  have e4 := h4 c i (by omega) (by omega)
  have e6 := h6 hb i (by omega) (by omega)
  unfold kdOf
  rw [rdT (by omega)]
  refine ⟨fun e => ?_, fun e => ?_, fun e => ?_⟩
  ·rw [e] at e4; exact e4 (by decide)
  ·rw [e] at e4; exact e4 (by decide)
  ·rw [e] at e6; exact e6 (by decide)
 ·exact ⟨false, Ev.bind hr (Ev.congr (f := fun _ => some false) (fun k => by rw [if_neg c]) (Ev.now _)), fun h => absurd h (by decide)⟩
/-- Nothing comes back. -/
theorem never {w : Int} {xs : List (S57)} {hi : Int} (o : Ok w xs hi) (v : Int) (v0 : 0 ≤ v) (v1 : v < 2 * (w + hi)) (q : Nat) (t : Tr.Tr) (hq : Tr.go w (xs.length : Int) (kdOf xs) (sgOf w hi) q (rayAt w hi v).1 (rayAt w hi v).2 64 = some t)
  (hc : ∀ a : Int, 0 ≤ a ∧ a < (xs.length : Int) → kdOf xs a ≠ 4 ∧ kdOf xs a ≠ 5 ∧ kdOf xs a ≠ 6) : Tr.outs v t.2 = 0 := by
 have hok : Tr.Ok (xs.length : Int) (rayAt w hi v) := (ray_fresh o v v0 v1).1
 obtain ⟨N, z, hN, h⟩ := Tr.go_clear o.w1 (mod_ok o) hc q _ _ 64 t hok (by decide) hq
 rcases h with ⟨_, e⟩ | ⟨_, e⟩ | ⟨k1, k7, hx, e⟩
 ·rw [e]; rfl
 ·rw [e]; rfl
 ·have hz := Tr.it_ok o.w1 (mod_ok o) hok N z hN
  have hd := Tr.dirT_ok (k := kdOf xs z.1) hz.2
  rw [e]
  refine Tr.outs_zero v _ fun y hy => ?_
  rw [List.mem_singleton] at hy
  rintro ⟨_, hs⟩
  rw [hy] at hs
  have hs : sgOf w hi z.1 (Tr.dirT (kdOf xs z.1) z.2) = v := hs
  obtain ⟨m, m0, m1, hm⟩ := exit_sight o z.1 (Tr.dirT (kdOf xs z.1) z.2) ⟨hz.1, hd⟩ hx
  have em := sg_at o z.1 (Tr.dirT (kdOf xs z.1) z.2) m m0 m1 hm
  rw [hs] at em
  subst em
  exact Tr.no_back o.w1 (mod_ok o) hok N hN ⟨k1, k7⟩ hm.symm

theorem FnTrailNever : laws_FnTrailNever.Pure := by
 intro l hl _ hw
 refine Ev.rounds (r := true) ?_
 by_cases hbig : (l.length : Int) > 1048576
 ·exact Ev.congr (f := fun _ => some true) (fun k => by unfold laws_FnTrailNever.f; rw [if_pos hbig]) (Ev.now _)
 ·obtain ⟨w, xs, v, hdraw, hx31⟩ := drawl_ev hw hl
  have hx : xs.length ≤ maxLen := by unfold maxLen; omega
  obtain ⟨n, n0, n1, hi, hsp⟩ := light_ev w xs hx v
  have jt : Ev (fun k => laws_FnTrailNever.j0 k v n true w xs) true := by
   refine Ev.step (f := fun k => (spec_TrailLight.f k w xs v).bind fun t297 => (some (n == t297))) (fun k => by rw [laws_FnTrailNever.j0, if_pos rfl]) ?_
   exact Ev.bind hsp (Ev.congr (f := fun _ => some true) (fun k => by rw [beq_self_eq_true]) (Ev.now _))
  refine Ev.congr (fun k => by unfold laws_FnTrailNever.f; rw [if_neg hbig]) (Ev.bind hdraw ?_)
  refine Ev.bind hi ?_
  refine Ev.bind hsp ?_
  refine Ev.congr (fun k => if_pos rfl) ?_
  refine Ev.bind (llSight_ev w xs hx v) ?_
  by_cases h : gok w xs = true ∧ 0 ≤ v ∧ v < 2 * (w + (xs.length : Int) / w)
  ·obtain ⟨g, v0, v1⟩ := h
   rw [g, decide_eq_true ⟨v0, v1⟩]
   obtain ⟨b, hb, hc⟩ := clear_ev w xs (by omega)
   refine Ev.congr (fun k => by rw [Bool.and_self, if_pos rfl]) (Ev.bind hb ?_)
   cases b with
   | false => exact jt
   | true =>
    obtain ⟨high, o⟩ := ok_of g
    rw [o.div] at v1
    obtain ⟨q, t, hq, h1, h2⟩ := trail_ex o v v0 v1
    have hto := to_ev o v v0 v1 q t hq h1 h2 v
    rw [never o v v0 v1 q t hq (hc rfl)] at hto
    refine Ev.step (f := fun k => (impl_TrailTo.f k w xs v v).bind fun t298 => (some (t298 == 0))) (fun k => by rw [laws_FnTrailNever.j0, if_neg (by decide)]) ?_
    exact Ev.bind hto (Ev.now _)
  ·rw [not_sight h]
   exact Ev.congr (fun k => by rw [if_neg (by decide)]) jt

end Go.Proofs.Ytefbfeaeifbjeaa.Pure
--slim
