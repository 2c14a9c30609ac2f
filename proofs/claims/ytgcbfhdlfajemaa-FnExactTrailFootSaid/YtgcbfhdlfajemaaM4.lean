/- For every input the law returns true, and what came in reads as it did (the row of Rt). No condition. Texts of this claim, joined: IdLo, Td, IdIn, Rt. -/
import Derived.Test.YtgcbfhdlfajemaaM3
import Derived.Calls
import Derived.Deep.Slices
import Derived.Below
import Derived.ChangeFn
import Derived.ChangeOld
import Derived.Test.YtgcbfhdlfajemaaRows
import Derived.Conc.LeavingOf
import Derived.WalkKit
import Derived.ProofKit
import Derived.OpenShut
import Derived.ShutString
import Derived.SizedLaws
import Derived.Lib.SmallJoins
/- A goroutine alone: what is walked there is the kit's own contract of a lone call. -/
namespace Go.Id
open Go.Conc
set_option linter.unusedVariables false
section
variable {P : Program} {fn : Func} {f : FuncId} {lo : Nat} {Post : Value → Hp → Prop} {h : Hp}
def loneG (g : Goroutine) (w : World) : Machine := { world := w, gs := #[g], rest := { timers := #[], alone := none, slice := none } }
theorem step_loneG {g g' : Goroutine} {w w' : World} {es : Array Event} (hr : g.status = .running) (h : stepG P true g w = .go g' w' es) : step P (loneG g w) = .next (loneG g' w') := by
  have hm : move P (loneG g w) = .goroutine (loneG g w) 0 := by
    simp [move, ask, askOn, loneG, runnable_eq, due, ahead, Goroutine.canRun, List.range_succ, choose, pure, Sem.run, Question.forced, hr]
  rw [step, stepT, hm]
  simp [runT, loneG, Array.swapAt!, h]
def JL (P : Program) (N0 : Nat → Prop) (Stop : (Nat → Prop) → Goroutine → World → Prop) (O : Nat → Prop) (g : Goroutine) (w : World) : Prop :=
  ∀ w₁, Rly N0 O w w₁ → ∃ g' w' O', Steps P (loneG g w₁) (loneG g' w') ∧ Stop O' g' w'
def loneCtx (P : Program) (N0 : Nat → Prop) : Ctx P where
  main := true
  N0 := N0
  J := JL P N0
  rely := fun Stop O g w w₁ h r w₂ r₂ => h w₂ (r.trans r₂)
  step := fun Stop O g w hr h w₁ r => by
    obtain ⟨g', w₂, es, h1, h2, h3⟩ := h w₁ r
    obtain ⟨g'', w', O', h4, h5⟩ := h3 w₂ (Rly.refl _ _ _)
    exact ⟨g'', w', O', Steps.head (step_loneG hr h1) h4, h5⟩
theorem lone_run {c : Code} {args : List Value} (hf : P.funcs[f]? = some fn) (hb : fn.body = some c) (hlen : args.length ≤ fn.ntmps) {W : World} {argsr : Array Value} {s : Sim} (S : SimOk (lowOf W) lo s (fun _ => False) h W) (ha : VRs s args argsr.toList)
    (H : R (loneCtx P (lowOf W)) lo f fn (.ret Post) [.code c] (argsTm 0 args) [] h) :
    Calls P f argsr W fun e w' => ∃ vr, e = .returned vr ∧ Told (lowOf W) lo Post W s vr w' := by
  intro cs
  have hsz : args.length = argsr.size := by simpa using ha.1
  let Stop : (Nat → Prop) → Goroutine → World → Prop := fun O g w => ∃ (a' : Act) (todo : List Item) (vr : Value), g = G { (base f).at a' todo with mode := .returning } cs ∧ a'.defers = [] ∧ Reads P (lowOf W) O fn a'.tmps w vr ∧ Told (lowOf W) lo Post W s vr w
  have hJ : JL P (lowOf W) Stop (fun _ => False) (G (Frame.enter P f argsr .normal) cs) W := by
    rw [enter_at argsr hf hb]
    refine H s (fun _ => False) (fun _ => False) (fun _ => 0) W (base f) { tmps := argsr ++ Array.replicate (fn.ntmps - argsr.size) undef, defers := [] } cs Stop rfl (by simp [base]) rfl (by simp; omega) ⟨S, ⟨fun j cs hj => by simp at hj, fun j j' hj => by simp at hj⟩, fun b hb => hb.elim⟩ ?_ ?_
    · intro j x hx
      obtain ⟨v, rfl, _, h3⟩ := look_args _ _ _ _ hx
      have hj : j < argsr.size := by rw [← hsz]; exact (List.getElem?_eq_some_iff.1 (by simpa using h3)).1
      exact ⟨argsr[j], by simp [Array.getElem?_append, hj], ha.2 j v _ (by simpa using h3) (by simp [hj])⟩
    · intro v vr h' s' O' w' h1 h2 h3 h4 h5 h6 h7 a' todo hd hrd w₁ r
      refine ⟨_, w₁, O', Steps.refl _ _, a', todo, vr, rfl, hd, fun w'' hw => hrd w'' (r.trans hw), v, h', s', O', h1, h2, h3.rely r, h4, ?_⟩
      exact h7.trans ⟨fun _ h => h.elim, fun b hb => r.2.1 b (h3.base _ hb) (.inl hb), r.1, r.2.2.1, r.2.2.2⟩
  obtain ⟨g', w', O', hr, a', todo, vr, rfl, hd, hrd, htold⟩ := hJ W (Rly.refl _ _ _)
  obtain ⟨x, w₂, g1, ⟨rfl, rfl⟩, g3⟩ := hrd w' (Rly.refl _ _ _)
  exact ⟨.returned x, w₂, _, ⟨_, rfl, htold⟩, hr, rfl, rfl, hd, rfl, fn, hf, g1⟩
end
end Go.Id
/- The law FnExactTrailFoot over the ideal memory. -/
namespace Go.Proofs.Ytgcbfhdlfajemaa.Id
open Go.Id
open Go.Proofs
set_option linter.unusedVariables false
set_option maxRecDepth 100000
variable {X : Ctx Try.prog} {lo : Nat}
/-- A function's code. -/
def bodyO (fn : Func) : Code := match fn.body with | some c => c | none => .skip
theorem eqIntS_sl {o o' : Option (Nat × Nat)} {cs ds : List Int} {h : Hp} {lo' lo'' : Nat} (hs : GR lo' h o cs) (hs' : Gw lo'' h inE 1 o' ds) (hn : cs.length ≤ 1048576) : Tri X lo 11 [gv o cs.length, gv o' ds.length] h fun v h' => v = .bool (decide (cs = ds)) ∧ h' = h := by
  obtain ⟨a, fl, p1, p2⟩ := hs.sl
  obtain ⟨b, fl', p3, p4⟩ := gw_sls hs'
  rw [p1, p3]
  exact eqIntS_ok a b fl fl' cs ds h p2 p4 hn
theorem heldIntS_gr {o : Option (Nat × Nat)} {n : Nat} {k : Int} {h : Hp} {lo' : Nat} (hs : GR lo' h o (marks k n)) (hn : n ≤ 1048576) (hk : 0 ≤ k ∧ k ≤ 2 ^ 40) : Tri X lo 15 [gv o n, .int .i64 k] h fun v h' => v = .int .i64 (k + n) ∧ h' = h := by
  obtain ⟨a, fl, p1, p2⟩ := hs.sl
  rw [marks_len] at p1
  rw [p1]
  exact heldIntS_ok a fl n k h p2 hn hk
theorem markIntS_gr (o : Option (Nat × Nat)) (l : List Int) (k : Int) (h : Hp) (hg : GR lo h o l) (hn : l.length ≤ 1048576) (hk : 0 ≤ k ∧ k ≤ 2 ^ 40) : Tri X lo 14 [gv o l.length, .int .i64 k] h fun v h' => v = .int .i64 (k + l.length) ∧ GR lo h' o (marks k l.length) ∧ h'.n = h.n ∧ ∀ i, ¬isB o i → h'.g i = h.g i := by
  match o, hg with
  | none, hg =>
    have hg : l = [] := hg
    subst hg
    exact (markIntS_ok none [] k h rfl (by simp) hk).mono fun v h' ⟨a1, a2, a3, a4⟩ => ⟨a1, a2, a3, a4⟩
  | some (b, e), ⟨g1, r, g2⟩ =>
    refine enter tbOk mtOk ⟨[], []⟩ 400 Try.func14 rfl rfl rfl fun hlo => ?_
    refine loop (σ := Nat) tbOk mtOk ⟨[], []⟩ (fun i => [(5, .v (.int .i64 (i : Int))), (0, .v (.slice (some ⟨b, 0, some e⟩) l.length 1)), (1, .v (.int .i64 (k + i)))]) (fun _ => []) (fun i h' => i ≤ l.length ∧ Row h' b e iE 1 (marks k i ++ (l ++ r).drop i) ∧ h'.n = h.n ∧ ∀ j, ¬isB (some (b, e)) j → h'.g j = h.g j) (fun i => l.length - i) 400 0 (fun _ => rfl) ⟨rfl, rfl, ?_, trivial⟩ trivial ⟨Nat.zero_le _, g2, rfl, fun _ _ => rfl⟩ (fun i h' hI again => ?_)
    · show some (Sl.v (.int .i64 k)) = some (Sl.v (.int .i64 (k + ((0 : Nat) : Int))))
      simp
    obtain ⟨i1, i2, i3, i4⟩ := hI
    refine cnd (fun c1 => ?_) (fun c1 => ?_)
    · have c1 : i < l.length := by simp at c1; omega
      have c1' : i < (l ++ r).length := by rw [List.length_append]; omega
      refine And.intro ⟨by omega, by omega⟩ ?_
      refine ⟨_, i2.st (fun _ => rfl) g1 (j := i) (by simp [marks]; omega) (k + i), ?_⟩
      refine again (i + 1) _ _ _ (by omega) ⟨?_, rfl, ?_, trivial⟩ trivial ⟨by omega, ?_, i3, fun j hj => ?_⟩
      · show some (Sl.v (.int .i64 (IntKind.i64.wrap ((i : Int) + 1)))) = _
        rw [wr (by omega) (by omega)]; rfl
      · show some (Sl.v (.int .i64 (IntKind.i64.wrap (k + (i : Int) + 1)))) = some (Sl.v (.int .i64 (k + ((i + 1 : Nat) : Int))))
        rw [wr (by omega) (by omega), Int.add_assoc]; rfl
      · rw [← marks_set k c1']
        exact Row.set i2.lt
      · simp only [Hp.set]
        rw [if_neg (fun e => hj ⟨_, by rw [e]⟩)]
        exact i4 j hj
    · have c1 : l.length = i := by simp at c1; omega
      rw [← c1, List.drop_left] at i2
      refine ⟨by rw [c1], ⟨g1, r, i2⟩, i3, i4⟩
theorem footG_len (g : Gd) (k : Int) : (footG g k).length ≤ g.cs.length := by
  unfold footG footL; rw [List.length_map]; exact Nat.le_trans (List.length_filter_le _ _) (by simp)
theorem exactTrailFoot_R (g : Gd) (k : Int) (a : Option Addr) (fl : Nat) (h : Hp) (hs : Sls h cE 2 a g.cs) (hn : g.cs.length ≤ 9223372036854775807) (hlo : lo ≤ h.n) :
    R X lo 3 Try.f3 (.ret fun v _ => v = .bool true) [.code (bodyO Try.f3)] (argsTm 0 [.agg #[.int .i64 g.w, .slice a g.cs.length fl], .int .i64 k]) [] h := by
  refine more tbOk mtOk ⟨[], [(10, [0, 1, 2, 3, 4], [0, 0, 2, 7, 15])]⟩ 400 ?_
  refine callP (szGrid_ok g.w a g.cs.length fl 1048576 h ⟨by decide, by decide⟩ hn) ?_
  rintro v h1 ⟨rfl, rfl⟩
  refine cnd (fun c1 => rfl) (fun c1 => ?_)
  have hn1 : g.cs.length ≤ 1048576 := by
    by_cases q : (g.cs.length : Int) ≤ 1048576
    · omega
    · rw [if_neg q] at c1; simp at c1
  have hn2 : (g.cs.length : Int) < 2 ^ 31 := by omega
  have hpl : (footG g k).length ≤ 1048576 := by have := footG_len g k; omega
  refine callP (toGrid_ok g a fl _ hs hn1) ?_
  rintro v h2 ⟨b1, rfl, q1, q2, q3, q4⟩
  refine callP (sTrailFoot_ok g k _ _ h2 (q3.sls cE2) hn2) ?_
  rintro v h3 ⟨⟨bw, ew, rfl, w1, w3⟩, w4⟩
  refine callP (toGrid_ok g a fl _ (hs.ext (q4.trans w4)) hn1) ?_
  rintro v h4 ⟨b2, rfl, x1, x2, x3, x4⟩
  refine callP (TrailFoot_ok g k _ _ _ (x3.sls cE2) hn2) ?_
  rintro v h5 ⟨⟨o, rfl, p2⟩, p4⟩
  generalize hP : footG g k = L at *
  have p3 : ∀ b, isB o b → h4.n ≤ b := fun b hb => (p2.lt hb).2
  have gw : Gx 0 h5 inE 1 (some (bw, ew)) L := ⟨Nat.zero_le _, (w3.ext x4).ext p4⟩
  refine callP (eqIntS_sl p2 (o' := some (bw, ew)) (gw.w fun _ => rfl) hpl) ?_
  rintro v h5' ⟨rfl, rfl⟩
  refine cnd (fun c => by simp at c) (fun _ => ?_)
  refine And.intro (by kernel_rfl) ?_
  have e5 := ((q4.trans w4).trans x4).trans p4
  refine callP (toGrid_ok g a fl _ (hs.ext e5) hn1) ?_
  rintro v h6 ⟨b3, rfl, y1, y2, y3, y4⟩
  refine And.intro Is.r ?_
  have x6 : Row h6 b2 0 cE 2 g.cs := (x3.ext p4).ext y4
  refine callP (eqGrid_ok g g _ _ _ _ _ (x6.sls cE2) (y3.sls cE2) hn1) ?_
  rintro v h6' ⟨rfl, rfl⟩
  refine cnd (fun c => by simp at c) (fun _ => ?_)
  refine callP (markGrid_ok g.w b2 0 g.cs 1 _ x1 x6 hn1 (by decide)) ?_
  rintro v h7 ⟨rfl, m1, m2⟩
  have lb2 : b2 < h4.n := x3.lt
  have lbw : bw < h3.n := w3.lt
  have n34 := x4.n
  have n45 := p4.n
  have n56 := y4.n
  refine cnd (fun c => absurd (of_decide_eq_true c) (by omega)) (fun _ => ?_)
  have p7 : GR h4.n h7 o L := (p2.ext y4).keep (by omega) fun i hi hb => m2 i (by have := p3 i hb; omega)
  have g7 : Gx 0 h7 inE 1 (some (bw, ew)) L := (gw.ext y4).keep (by omega) fun i hi hb => m2 i (by have := isB_eq hb; omega)
  refine callP (eqIntS_sl p7 (o' := some (bw, ew)) (g7.w fun _ => rfl) hpl) ?_
  rintro v h7' ⟨rfl, rfl⟩
  refine cnd (fun c => by simp at c) (fun _ => ?_)
  have n14 : lo ≤ h4.n := by have := (q4.trans w4).n; omega
  refine callP (markIntS_gr o L 1 _ (p7.up fun i hb => by have := p3 i hb; omega) hpl (by decide)) ?_
  rintro v h8 ⟨rfl, p8, m3, m4⟩
  refine callP (heldIntS_gr p8 hpl (by decide)) ?_
  rintro v h8' ⟨rfl, rfl⟩
  refine cnd (fun c => absurd (of_decide_eq_true c) (by omega)) (fun _ => ?_)
  refine cnd (fun c => by simp at c) (fun _ => ?_)
  have g8 : Gx 0 h8' inE 1 (some (bw, ew)) L := g7.keep (by omega) fun i hi hb => m4 i fun q => by have := p3 i q; have := isB_eq hb; omega
  have e3 := q4.trans w4
  have n03 := e3.n
  have e8 : Ext h1 h8' := ⟨by have := (e5.trans y4).n; omega, fun i hi => (m4 i fun q => by have := p3 i q; omega).trans ((m2 i (by omega)).trans ((e5.trans y4).g i hi))⟩
  refine callP (toGrid_ok g a fl _ (hs.ext e8) hn1) ?_
  rintro v h9 ⟨b4, rfl, z1, z2, z3, z4⟩
  refine callP (TrailFoot_ok g k _ _ _ (z3.sls cE2) hn2) ?_
  rintro v h10 ⟨⟨o', rfl, r2⟩, r4⟩
  rw [hP] at r2 ⊢
  refine callP (eqIntS_sl r2 (o' := some (bw, ew)) (((g8.ext z4).ext r4).w fun _ => rfl) hpl) ?_
  rintro v h10' ⟨rfl, rfl⟩
  refine cnd (fun c => by simp at c) (fun _ => ?_)
  refine callP (heldIntS_gr ((p8.ext z4).ext r4) hpl (by decide)) ?_
  rintro v h11 ⟨rfl, rfl⟩
  refine cnd (fun c => absurd (of_decide_eq_true c) (by omega)) (fun _ => ?_)
  refine cnd (fun c => by simp at c) (fun _ => ?_)
  rfl
end Go.Proofs.Ytgcbfhdlfajemaa.Id
/- What comes in, as ideal memory that nobody writes; what is left of it at the run's end. -/
namespace Go.Id
open Go.Conc Go.ChangeShapes Go.WideShapes
set_option linter.unusedVariables false
theorem cell_spot {w : World} {a : Addr} {v : Value} (h : w.cell? a = some v) : a.spot = none ∧ a.block < w.heap.size := by
  unfold World.cell? at h
  split at h
  · rename_i c _ _ hb
    split at h
    · cases h
    · rename_i hs
      refine ⟨?_, (Array.getElem?_eq_some_iff.1 hb).1⟩
      cases hsp : a.spot with
      | none => rfl
      | some _ => rw [hsp] at hs; exact absurd rfl hs
  · cases h
def InOk (W : World) (s : Sim) (h : Hp) : Prop := SimOk (lowOf W) h.n s (fun _ => False) h W
theorem InOk.nil (W : World) : InOk W ⟨fun _ => none, fun _ => 0, fun _ => none⟩ ⟨0, fun _ => .cells [] 0 0⟩ :=
  ⟨fun id c h => (by cases h), fun id c h => (by cases h), fun id c id' c' h => (by cases h), fun id b h => (by cases h), fun b h => h.elim, fun b h => h.elim, fun b h => h, Nat.le_refl _⟩
section
variable {W : World} {s : Sim} {h : Hp} {α : Type} {enc : α → List Value} {sz : Nat} {l : List α} {ys : List Value}
/-- A slice that came in. -/
theorem InOk.slice (I : InOk W s h) (he : ∀ x, (enc x).length = sz) (hz : sz ≠ 0) (A : Option Addr) (cap : Nat) (hl : l.length ≤ cap) (hv : VRm s (l.flatMap enc) ys) (hc : ∀ a, A = some a → ∀ (i : Nat) (v : Value), ys[i]? = some v → W.cell? (a.add i) = some v)
    (hn : A = none → l = [] ∧ cap = 0) (hb : ∀ a, A = some a → l = [] → ∃ b0, b0 < W.heap.size) :
    ∃ s' h' A' fl, InOk W s' h' ∧ s.le s' ∧ Ext h h' ∧ VR s' (.slice A' l.length fl) (.slice A l.length cap) ∧ Sls h' enc sz A' l := by
  cases A with
  | none =>
    obtain ⟨rfl, rfl⟩ := hn rfl
    exact ⟨s, h, none, 0, I, s.le_refl, Ext.refl h, .sl0, rfl⟩
  | some a =>
    have hnone : s.adr h.n = none := by
      cases hx : s.adr h.n with
      | none => rfl
      | some c => exact absurd (I.cells _ c hx).1 (Nat.lt_irrefl _)
    obtain ⟨c, hcap, hcb, hH, hne⟩ : ∃ c : Cel, c.cap = cap ∧ c.b < W.heap.size ∧ Holds W c.b c.o ys ∧ (l.length ≠ 0 → a = ⟨c.b, c.o + 0, none⟩) := by
      by_cases hl0 : l = []
      · obtain ⟨b0, hb0⟩ := hb a rfl hl0
        refine ⟨⟨b0, 0, cap⟩, rfl, hb0, fun i v hv' => ?_, fun h => absurd (by rw [hl0]; rfl) h⟩
        have := hv.1.1
        rw [hl0] at this
        have := (List.getElem?_eq_some_iff.1 hv').1
        simp at *; omega
      · have hy : 0 < ys.length := by
          rw [← hv.1.1, flat_len he]
          exact Nat.mul_pos (List.length_pos_iff.2 hl0) (Nat.pos_of_ne_zero hz)
        have h0 := hc a rfl 0 ys[0] (List.getElem?_eq_getElem hy)
        rw [show a.add 0 = a from rfl] at h0
        obtain ⟨e1, e2⟩ := cell_spot h0
        have ea : a = ⟨a.block, a.off, none⟩ := by cases a; simp only at e1; rw [e1]
        refine ⟨⟨a.block, a.off, cap⟩, rfl, e2, fun i v hv' => ?_, fun _ => ea⟩
        have := hc a rfl i v hv'
        rw [ea, add_none] at this
        exact this
    refine ⟨s.up h.n c 0, h.push (.cells (l.flatMap enc) sz 0), some ⟨h.n, 0, some 0⟩, 2, ?_, ?_, Ext.push _ _, ?_, ?_⟩
    · have hle : s.le (s.up h.n c 0) := Sim.up_le fun c₀ hc₀ => by rw [hnone] at hc₀; cases hc₀
      refine ⟨fun id c' hc' => ?_, fun id c' hc' hlo => ?_, fun id c' id' c'' h1 h2 hlo => ?_, fun id b hb' => ?_, fun b h => h.elim, fun b h => h.elim, fun b h => h, Nat.le_refl _⟩
      · simp only [Sim.up] at hc'
        by_cases hid : id = h.n
        · subst hid
          rw [if_pos rfl] at hc'; cases hc'
          exact ⟨by simp [Hp.push], fun _ => hcb, l.flatMap enc, sz, by simp [Hp.push, Sim.up], ys, hv.mono hle, hH⟩
        · rw [if_neg hid] at hc'
          obtain ⟨g1, g2, cs, sz', g3, ys', g4, g5⟩ := I.cells id c' hc'
          refine ⟨by simp [Hp.push]; omega, fun _ => g2 g1, cs, sz', ?_, ys', g4.mono hle, g5⟩
          simp [Hp.push, Sim.up, hid, g3]
      · simp only [Sim.up] at hc'
        by_cases hid : id = h.n
        · subst hid; exact absurd (show h.n + 1 ≤ h.n from hlo) (by omega)
        · rw [if_neg hid] at hc'; have := (I.cells id c' hc').1; exact absurd (show h.n + 1 ≤ id from hlo) (by omega)
      · simp only [Sim.up] at h1
        by_cases hid : id = h.n
        · subst hid; exact absurd (show h.n + 1 ≤ h.n from hlo) (by omega)
        · rw [if_neg hid] at h1; have := (I.cells id c' h1).1; exact absurd (show h.n + 1 ≤ id from hlo) (by omega)
      · have hb'' : s.mp id = some b := hb'
        have := (I.maps id b hb'').1
        exact ⟨by simp [Hp.push]; omega, fun hlo => absurd (show h.n + 1 ≤ id from hlo) (by omega)⟩
    · exact Sim.up_le fun c₀ hc₀ => by rw [hnone] at hc₀; cases hc₀
    · refine .sl h.n 0 (some 0) l.length 2 a cap c (by simp [Sim.up]) (by simp [Sim.up, epOf]) (fun _ => ⟨fun hx => ?_, fun hx => by cases hx⟩) (fun hx => by cases hx) hl
      rcases hx with hx | hx
      · exact hne hx
      · cases hx
    · exact (Row.push (h := h) (e := 0) (enc := enc) (sz := sz) (l := l)).sls he
end
section
variable {H : Type} {enc : TypeId × Value → H} {P : Program} {W : World} {base : Nat} {spare : Nat → Bool} {held : Bool} {α : Type} {en : α → List Value} {sz : Nat}
theorem cells_get {a : Addr} {n : Nat} {cs : List Value} (h : W.cells? base a n = some cs) : cs.length = n ∧ ∀ i, i < n → W.cell? (a.add i) = cs[i]? := by
  obtain ⟨_, h1, h2⟩ := World.cells?_some h
  exact ⟨h1, h2⟩
/-- A slice of plain data, read. -/
theorem open_plain {t e : TypeId} {v : Value} {x : DataW H × List MemPlace} (ht : P.underlying t = some (.slice e)) (hsz : P.cellsOf e = sz) (hz : sz ≠ 0) (hen : ∀ x, (en x).length = sz)
    (dec : ∀ n cs y, DataW.trod enc P W base spare held n e cs = some y → ∃ q, cs = en q) {fuel : Nat} (h : DataW.trod enc P W base spare held fuel t [v] = some x) :
    ∃ (A : Option Addr) (cap : Nat) (l : List α), v = .slice A l.length cap ∧ l.length ≤ cap ∧ cap ≤ Go.maxLen ∧ (A = none → l = [] ∧ cap = 0) ∧ ∀ a, A = some a → ∀ (i : Nat) (u : Value), (l.flatMap en)[i]? = some u → W.cell? (a.add i) = some u := by
  rcases Go.Deep.open_slice ht h with ⟨hcs, _⟩ | ⟨a, len, cap, m, n, D, Pl, hcs, _, hl, hm, hmm, _, hx⟩
  · simp at hcs; subst hcs
    exact ⟨none, 0, [], rfl, Nat.le_refl _, by unfold Go.maxLen; omega, fun _ => ⟨rfl, rfl⟩, fun a h => by cases h⟩
  · simp at hcs; subst hcs
    have hlm : len ≤ m := by rw [hmm]; split <;> omega
    have each : ∀ i, i < len → ∃ q : α, ∀ k, k < sz → W.cell? ((a.add (i * sz)).add k) = (en q)[k]? := by
      intro i hi
      obtain ⟨cs', h1, h2⟩ := hx i (by omega)
      obtain ⟨q, rfl⟩ := dec _ _ _ h2
      rw [hsz] at h1
      exact ⟨q, (cells_get h1).2⟩
    by_cases h0 : len = 0
    · subst h0
      exact ⟨some a, cap, [], rfl, Nat.zero_le _, hm, fun h => (by cases h), fun a _ i u hu => by simp at hu⟩
    · obtain ⟨q0, hq0⟩ := each 0 (by omega)
      have hs : a.spot = none := by
        have h1 := hq0 0 (by omega)
        have hlt : 0 < (en q0).length := by rw [hen]; omega
        rw [List.getElem?_eq_getElem hlt] at h1
        have : (a.add (0 * sz)).add 0 = a := by simp [Addr.add]
        rw [this] at h1
        exact (cell_spot h1).1
      have ea : a = ⟨a.block, a.off, none⟩ := by cases a; simp only at hs; rw [hs]
      obtain ⟨q, hq⟩ : ∃ q : Nat → α, ∀ i, i < len → ∀ k, k < sz → W.cell? ((a.add (i * sz)).add k) = (en (q i))[k]? := by
        classical
        exact ⟨fun i => if hi : i < len then (each i hi).choose else q0, fun i hi => by simp only [dif_pos hi]; exact (each i hi).choose_spec⟩
      have hlen : ((List.range len).map q).length = len := by simp
      refine ⟨some a, cap, (List.range len).map q, by rw [hlen], by rw [hlen]; exact hl, hm, fun h => (by cases h), fun b hb i u hu => ?_⟩
      cases hb
      have hi : i < len * sz := by
        have := (List.getElem?_eq_some_iff.1 hu).1
        rw [flat_len hen, hlen] at this; exact this
      have hdiv : i / sz < len := Nat.div_lt_of_lt_mul (by rw [Nat.mul_comm]; exact hi)
      have hmod : i % sz < sz := Nat.mod_lt _ (Nat.pos_of_ne_zero hz)
      have hsum : i / sz * sz + i % sz = i := by rw [Nat.mul_comm]; exact Nat.div_add_mod i sz
      have h1 := hq (i / sz) hdiv (i % sz) hmod
      rw [ea, add_none, add_none, Nat.add_assoc, hsum] at h1
      rw [ea, add_none, h1]
      have h2 := flat_get hen ((List.range len).map q) (i / sz) (by rw [hlen]; exact hdiv)
      have h3 : (((List.range len).map q).flatMap en)[i]? = (((((List.range len).map q).flatMap en).drop (i / sz * sz)).take sz)[i % sz]? := by
        rw [List.getElem?_take, if_pos hmod, List.getElem?_drop, hsum]
      rw [h3, h2] at hu
      simp at hu
      rw [← hu]
end
section
variable {P : Program} {W : World} {r : Reach} {b0 : Nat}
theorem block_cell {t : TypeId} {a : Addr} {len cap : Nat} (h : Cell.okWide P W r b0 t (.slice (some a) len cap)) : a.block < W.heap.size := by
  have h' : Cell.ok P W r b0 t (.slice (some a) len cap) := by
    unfold Cell.okWide at h
    split at h <;> first | exact h | (rename_i e; cases e)
  unfold Cell.ok at h'
  split at h' <;> first | exact h'.elim | skip
  all_goals first
    | (rename_i e; cases e; done)
    | (rename_i e _ _ _ _ he; cases he
       obtain ⟨_, _, _, _, row, cells, hs, _⟩ := h'
       unfold World.shape? at hs
       cases hb : W.heap[a.block]? with
       | none => rw [hb] at hs; cases hs
       | some o => exact (Array.getElem?_eq_some_iff.1 hb).1)
theorem block_agg {t : TypeId} {fs : Array Field} {cs : Array Value} (ht : P.underlying t = some (.struct fs)) (h : Value.okWide P W r b0 t (.agg cs)) {i : Nat} {a : Addr} {len cap : Nat} (hi : cs[i]? = some (.slice (some a) len cap)) : a.block < W.heap.size := by
  simp only [Value.okWide, ht] at h
  obtain ⟨cs', he, _, ts, _, _, hx⟩ := h
  cases he
  obtain ⟨u, _, hu⟩ := hx i _ hi
  exact block_cell hu
end
/-! ### at the end -/
open Go.RowKit
theorem below_of {W w' : World} (K : Kept (lowOf W) (fun _ => False) W w') : Below W.heap.size W { w' with tape := W.tape } := ⟨K.os, rfl, K.out, K.size, fun k hk => K.low k hk⟩
theorem kept_frame {W w' : World} (K : Kept (lowOf W) (fun _ => False) W w') (may : MemPlace → Prop) : W.keptBut w' may := by
  obtain ⟨a, b, c⟩ := (below_of K).frame may
  exact ⟨a, b, c⟩
theorem Trod_tape {H : Type} {enc : TypeId × Value → H} {P : Program} {w : World} {tp : Tape} {base : Nat} {spare : Nat → Bool} {held : Bool} {t : TypeId} {v : Value} {d : DataW H} {ps : List MemPlace} (h : DataW.Trod enc P { w with tape := tp } base spare held t v d ps) : DataW.Trod enc P w base spare held t v d ps :=
  DataW.Trod.of_heap (w := { w with tape := tp }) (w' := w) rfl h
end Go.Id
/- The row of FnExactTrailFoot: for every grid and every number that come in, the law returns true, and the grid reads as it did. No condition. -/
namespace Go.Proofs.Ytgcbfhdlfajemaa.fnExactTrailFoot
open Go.ChangeShapes Go.WideShapes Go.ChangeAt Go.RowKit Go.Id Go.Conc Go.Proofs.Ytgcbfhdlfajemaa.Id
set_option linter.unusedVariables false
theorem own : ownKnob Try.prog.godebug = none := by kernel_rfl
theorem laidOut : laidOutB Try.prog = true := by kernel_rfl
section
variable {H : Type} {enc : TypeId × Value → H} {W : World} {base : Nat} {spare : Nat → Bool} {held : Bool}
theorem dec_int (n : Nat) (cs : List Value) (y : DataW H × List MemPlace) (h : DataW.trod enc Try.prog W base spare held n 3 cs = some y) : ∃ q : Int, cs = iE q := by
  obtain ⟨q, e, _⟩ := DataW.trod_int Try.underlying3 h
  exact ⟨q, e⟩
theorem cells_int : Try.prog.cellsOf 3 = 1 := by kernel_rfl
theorem cells_cell : Try.prog.cellsOf 88 = 2 := by kernel_rfl
theorem cells_grid : Try.prog.cellsOf 24 = 2 := by kernel_rfl
set_option maxRecDepth 100000 in
theorem dec_cell (n : Nat) (cs : List Value) (y : DataW H × List MemPlace) (h : DataW.trod enc Try.prog W base spare held n 88 cs = some y) : ∃ q : Cl, cs = cE q := by
  obtain ⟨y0, y1, m, _, hl, h0, h1⟩ := trod_struct2 Try.underlying88 h
  obtain ⟨a, ea⟩ := dec_int _ _ _ h0
  obtain ⟨b, eb⟩ := dec_int _ _ _ h1
  rw [cells_cell] at hl
  match cs, hl with
  | [c0, c1], _ =>
    have fa : [c0] = iE a := by simpa [cells_int] using ea
    have fb : [c1] = iE b := by simpa [cells_int] using eb
    simp only [iE, List.cons.injEq, and_true] at fa fb
    subst fa; subst fb
    exact ⟨(a, b), rfl⟩
set_option maxRecDepth 100000 in
theorem in_grid {b0 : Nat} {r : Reach} {v : Value} {d : DataW H} {p : List MemPlace} {s : Sim} {h : Hp} (I : InOk W s h) (hv : Value.okWide Try.prog W r b0 24 v) (ht : DataW.Trod enc Try.prog W base spare held 24 v d p) :
    ∃ (s' : Sim) (h' : Hp) (g : Gd) (a : Option Addr) (fl : Nat), InOk W s' h' ∧ s.le s' ∧ Ext h h' ∧ VR s' (.agg #[.int .i64 g.w, .slice a g.cs.length fl]) v ∧ Sls h' cE 2 a g.cs ∧ g.cs.length ≤ Go.maxLen := by
  have hv0 := hv
  obtain ⟨c0, c1, y0, y1, n, rfl, _, _, t0, t1⟩ := Joins.open_agg2 Try.underlying24 (by kernel_rfl) cells_grid hv ht
  obtain ⟨w, e0⟩ := dec_int _ _ _ t0
  obtain ⟨A, cap, l, rfl, hl, hm, hn, hc⟩ := open_plain (en := cE) (sz := 2) Try.underlying22 cells_cell (by decide) cE2 dec_cell t1
  simp only [iE, List.cons.injEq, and_true] at e0
  subst e0
  have hpl : ∀ v ∈ l.flatMap cE, plainV v = true ∧ v.oneCell' = true := by
    intro v hv
    obtain ⟨q, _, hq⟩ := List.mem_flatMap.1 hv
    simp only [cE, List.mem_cons, List.not_mem_nil, or_false] at hq
    rcases hq with rfl | rfl <;> exact ⟨rfl, rfl⟩
  have hblk : ∀ a, A = some a → l = [] → ∃ b0, b0 < W.heap.size := by
    intro a ha hl0
    subst ha
    exact ⟨a.block, block_agg Try.underlying24 hv0 (i := 1) rfl⟩
  obtain ⟨s', h', A', fl, I', l1, e1, v1, s1⟩ := I.slice (enc := cE) cE2 (by decide) A cap hl (VRm.of_plain s hpl) hc hn hblk
  · refine ⟨s', h', ⟨w, l⟩, A', fl, I', l1, e1, .agg _ _ rfl (fun i x y hx hy => ?_) (fun y hy => ?_), s1, Nat.le_trans hl hm⟩
    · rcases i with _ | _ | i
      · simp at hx hy; subst hx; subst hy; exact .int _ _
      · simp at hx hy; subst hx; subst hy; exact v1
      · simp at hx
    · simp at hy
      rcases hy with rfl | rfl <;> rfl
end
set_option maxRecDepth 100000 in
theorem lifted (os : Os) (started : os.Started) (H : Type) (enc : TypeId × Value → H) :
    ReturnsInHanded {} Try.checked os 3 .any (Rows.fnExactTrailFootSpec.pre6 enc Try.prog Try.f3 Rows.fnExactTrailFootRow.domain false) (Rows.fnExactTrailFootSpec.post enc Try.prog Try.f3 false true false false) := by
  refine returnsInHanded_of_change_sized (C := Try.checked) own started (by kernel_rfl) Try.func3
    (ChangeSpec.witness6 (enc := enc) (C := Try.checked) false ⟨#[], #[.agg #[.int .i64 0, .slice none 0 0], .int .i64 0], []⟩ 8 (by kernel_rfl) (by kernel_rfl) (by kernel_rfl) (by kernel_rfl)) ?_
  intro W base args ds gs before hval0 hW hcnd hsz0 _
  have hval : ∀ (j : Nat) t v, Try.f3.params[j]? = some t → args[j]? = some v → Value.okWide Try.prog W .any base t v := hval0
  have hW' := hW
  obtain ⟨p, q, hA0, hV, rfl, hfz, hnd⟩ := hW
  have hA : DataW.TrodAll enc Try.prog W 0 (fun _ => true) true Try.f3.params.toList args.toList ds p := hA0
  rw [Try.params3] at hA hval
  obtain ⟨v0, vs0, d0, ds0, p0, q0, hargs, rfl, rfl, h0, r0⟩ := trodAll_cons hA
  obtain ⟨v1, vs1, d1, ds1, p1, q1, rfl, rfl, rfl, h1, r1⟩ := trodAll_cons r0
  obtain ⟨rfl, rfl, rfl⟩ := trodAll_nil r1
  obtain rfl : args = #[v0, v1] := by cases args; simp_all
  obtain ⟨rfl, rfl⟩ := trodVars_none hV
  have k0 := h0
  have lt0 : ∀ x ∈ p0, x.block < W.heap.size := by obtain ⟨m, hm⟩ := k0; exact DataW.trod_lt m _ _ _ hm
  obtain ⟨s, h, g, a, fl, I, _, _, V, S, hn⟩ := in_grid (InOk.nil W) (hval 0 24 v0 rfl rfl) h0
  obtain ⟨n1, rfl, rfl, rfl, hw1⟩ := open_int Try.underlying3 (hval 1 3 v1 rfl rfl) h1
  clear hA0 hval0 hsz0
  refine (lone_run (lo := h.n) (Post := fun v _ => v = .bool true) (argsr := #[v0, .int .i64 n1]) (args := [.agg #[.int .i64 g.w, .slice a g.cs.length fl], .int .i64 n1]) Try.func3 rfl (Nat.le_of_ble_eq_true rfl) I (VRs.cons V (VRs.cons (.int _ _) (VRs.nil s))) (exactTrailFoot_R g n1 a fl h S (Nat.le_trans hn (by unfold Go.maxLen; exact Nat.le_refl _)) (Nat.le_refl _))).mono fun e W' he => ?_
  obtain ⟨vr, rfl, v, h', s', O', rfl, _, _, hv, K⟩ := he
  obtain rfl : vr = .bool true := VR.bool_inv hv
  have bel := below_of K
  exact ⟨_, rfl, _, _, _, [], _, [], hW', trodAll_mk1 (shut_bool Try.underlying4 _), (trodAll_cons_mk (Trod_tape (Below.trod laidOut (by kernel_rfl) (of_decide_eq_true (by kernel_rfl)) k0 bel lt0)) (trodAll_cons_mk (shut_int Try.underlying3 hw1) trodAll_mk0)), rfl, kept_frame K _, fun h => by cases h⟩
theorem over : Rows.fnExactTrailFootRow.holds Try.pinned (OpenSpec.ofChange Rows.fnExactTrailFootSpec) :=
  OpenClaim.holds_of_wide 3 Try.f3 rfl rfl rfl rfl rfl rfl rfl ⟨rfl, rfl, rfl, rfl, rfl⟩ rfl rfl rfl rfl rfl (by kernel_rfl) Try.func3 (by kernel_rfl)
    (of_decide_eq_true (by kernel_rfl)) (by unfold Func.isWrapper; first | (rw [if_pos (by decide +kernel)]; kernel_rfl) | (rw [if_neg (by decide +kernel)]; exact ⟨rfl, rfl⟩))
    (fun os started H enc _ => lifted os started H enc)
theorem proved : Rows.FnExactTrailFootSaid := over
#print axioms proved
end Go.Proofs.Ytgcbfhdlfajemaa.fnExactTrailFoot
namespace Go.Proofs.Ytgcbfhdlfajemaa
/-- The row, under a short name, for the claim. -/
theorem fnExactTrailFoot_holds : Rows.FnExactTrailFootSaid := fnExactTrailFoot.proved
end Go.Proofs.Ytgcbfhdlfajemaa
