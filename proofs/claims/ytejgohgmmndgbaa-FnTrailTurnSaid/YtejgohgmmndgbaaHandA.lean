/- What the hand-proved walks of this session lean on: rows of one's own whose elements are plain cells, through worlds that leave their block alone. -/
import Derived.Test.YtejgohgmmndgbaaProg
import Derived.Test.YtejgohgmmndgbaaWAll
namespace Go.Proofs.Ytejgohgmmndgbaa.HandA
open Go.RowKit Go.Proofs.YtejgohgmmndgbaaW.PrintWords
set_option linter.unusedVariables false

/-- A goal that the walk's words let stand. -/
def Wrapped (p : Prop) : Prop := p
theorem wrap {p : Prop} (h : Wrapped p) : p := h
theorem unwrap {p : Prop} (h : p) : Wrapped p := h
section
variable {α : Type} {β : Type} {d : Kd α} {d' : Kd β} {e e' : Nat} {w w1 : World} {base base' : Nat} {ok ok' : Nat → Prop} {v v' : Value} {xs : List α} {ys : List β}
def Flat {α : Type} (d : Kd α) : Prop := ∀ (w w' : World) (b b' : Nat) (ok ok' : Nat → Prop) (x : α) (cs : List Value), d.M w b ok x cs → d.M w' b' ok' x cs
theorem R_flat (hd : Flat d) (h : d.R e w base ok v xs) (hk : ∀ k, v.ownBlock = some k → w1.heap[k]? = w.heap[k]?) (hok : ∀ k, v.ownBlock = some k → ok k → ok' k) (hb : ∀ k, v.ownBlock = some k → base ≤ k → base' ≤ k) : d.R e w1 base' ok' v xs := by
 obtain ⟨h0, inner, ⟨hl, ho⟩, hr⟩ := h
 refine ⟨fun k e => hok k e (h0 k e), inner, ⟨hl, ?_⟩, hr.1, fun j p hp => hd _ _ _ _ _ _ _ _ (hr.2 j p hp)⟩
 rcases ho with ⟨rfl, hn⟩ | ⟨g, cap, cur, rfl, hg, hh, r⟩
 ·exact .inl ⟨rfl, hn⟩
 ·exact .inr ⟨g, cap, cur, rfl, hb g rfl hg, (hk g rfl).trans hh, r⟩
theorem R_ty (h : d.R e w base ok v xs) (k : Nat) (hk : v.ownBlock = some k) : k < w.heap.size ∧ base ≤ k ∧ ok k ∧ ∃ cells, w.heap[k]? = some (.cells cells e (0, 0)) := by
 obtain ⟨h0, inner, ⟨hl, ho⟩, hr⟩ := h
 rcases ho with ⟨rfl, hn⟩ | ⟨g, cap, cur, rfl, hg, hh, r⟩
 ·cases hk
 ·cases hk
  exact ⟨blk_lt hh, hg, h0 g rfl, cur, hh⟩
theorem R_ne (h : d.R e w base ok v xs) (h' : d'.R e' w base' ok' v' ys) (hne : e ≠ e') (k : Nat) (hk : v.ownBlock = some k) : v'.ownBlock ≠ some k := by
 intro hk'
 obtain ⟨_, _, _, c1, h1⟩ := R_ty h k hk
 obtain ⟨_, _, _, c2, h2⟩ := R_ty h' k hk'
 rw [h1] at h2
 cases h2
 exact hne rfl
/-- A row stays, where another row of another type grows. -/
theorem R_grown (hd : Flat d) (h : d.R e w base ok v xs) (h' : d'.R e' w base' ok' v' ys) (hne : e ≠ e') (hg : w.grownBy w1 v'.ownBlock) : d.R e w1 base ok v xs :=
 R_flat hd h (fun k hk => hg.block k (R_ty h k hk).1 (fun e => R_ne h h' hne k hk e.symm)) (fun _ _ h => h) (fun _ _ h => h)
theorem heap_set_ne {w : World} {g i k : Nat} {u : Value} (h : k ≠ g) : (w.setCell ⟨g, i, none⟩ u).heap[k]? = w.heap[k]? := by
 have := (KeepBut.set_ (KeepBut.refl w g none) i u).2 k
 by_cases hk : k < w.heap.size
 ·exact this hk h (by simp)
 ·have hs : (w.setCell ⟨g, i, none⟩ u).heap.size = w.heap.size := World.size_setCell _ _ _
  rw [Array.getElem?_eq_none (by omega), Array.getElem?_eq_none (by omega)]
theorem R_set (hd : Flat d) (h : d.R e w base ok v xs) {g i : Nat} {u : Value} (hg : ∀ k, ok k → k ≠ g) : d.R e (w.setCell ⟨g, i, none⟩ u) base ok v xs :=
 R_flat hd h (fun k hk => heap_set_ne (hg k (R_ty h k hk).2.2.1)) (fun _ _ h => h) (fun _ _ h => h)
theorem R_setne (hd : Flat d) (h : d.R e w base ok v xs) {g i : Nat} {u : Value} (hg : v.ownBlock ≠ some g) : d.R e (w.setCell ⟨g, i, none⟩ u) base ok v xs :=
 R_flat hd h (fun k hk => heap_set_ne (fun e => hg (by rw [hk, e]))) (fun _ _ h => h) (fun _ _ h => h)
theorem drawn_below {w w2 : World} {n : Nat} (h : Drawn0 (w.drewN n) w2) : Below w.heap.size w w2 := by
 obtain ⟨m, rfl⟩ := h
 exact bDN (bDN (Below.refl _ _) _) _
theorem drawn_below0 {w w2 : World} (h : Drawn0 w w2) : Below w.heap.size w w2 := by
 obtain ⟨m, rfl⟩ := h
 exact bDN (Below.refl _ _) _
theorem drawn_below1 {w w2 : World} (h : Drawn0 w.drew w2) : Below w.heap.size w w2 := by
 obtain ⟨m, rfl⟩ := h
 exact bDN (Below.drew (Below.refl _ _)) _
theorem two_new (W : World) (a b c : Obj) : (((W.alloc a).alloc b).alloc c).heap[W.heap.size + 1]? = some b := by
 have h := blk_new (W.alloc a) b
 rw [World.size_alloc] at h
 exact kAl h c
theorem three_new (W : World) (a b c : Obj) : (((W.alloc a).alloc b).alloc c).heap[W.heap.size + 2]? = some c := by
 have h := blk_new ((W.alloc a).alloc b) c
 rw [World.size_alloc, World.size_alloc] at h
 exact h
theorem one_new (W : World) (a b : Obj) : ((W.alloc a).alloc b).heap[W.heap.size]? = some a := kAl (blk_new W a) b
theorem one_new3 (W : World) (a b c : Obj) : (((W.alloc a).alloc b).alloc c).heap[W.heap.size]? = some a := kAl (one_new W a b) c
theorem four_new (W : World) (a b c d : Obj) : ((((W.alloc a).alloc b).alloc c).alloc d).heap[W.heap.size + 3]? = some d := by
 have h := blk_new (((W.alloc a).alloc b).alloc c) d
 rw [World.size_alloc, World.size_alloc, World.size_alloc] at h
 exact h
theorem last_new (W : World) (a b : Obj) : ((W.alloc a).alloc b).heap[W.heap.size + 1]? = some b := by
 have h := blk_new (W.alloc a) b
 rw [World.size_alloc] at h
 exact h
theorem keep_grown {W w w1 : World} {g : Nat} {o : Option Nat} (h : KeepBut W w g none) (hg : w.grownBy w1 o) (ho : ∀ k, o = some k → W.heap.size ≤ k) : KeepBut W w1 g none := by
 cases o with
 | none => exact h.trans (KeepBut.of_grown hg g) (.inl rfl)
 | some k => exact h.trans (KeepBut.of_grown hg g) (.inr ⟨k, rfl, ho k rfl⟩)
/-- What stays, where one row of a block grows, and the block is told of it. -/
def Stay (W w' : World) (g : Nat) (v : Value) : Prop := W.heap.size ≤ w'.heap.size ∧ ∀ k, k < W.heap.size → k ≠ g → v.ownBlock ≠ some k → w'.heap[k]? = W.heap[k]?
end
theorem R_ne_blk {α : Type} {d : Kd α} {e t g base : Nat} {ok : Nat → Prop} {wr : World} {v : Value} {xs : List α} {cs : Array Value} (h : d.R e wr base ok v xs) (hb : wr.heap[g]? = some (.cells cs t (0, 0))) (hne : e ≠ t) : v.ownBlock ≠ some g := by
 intro hk
 obtain ⟨_, _, _, c1, h1⟩ := R_ty h g hk
 rw [hb] at h1
 cases h1
 exact hne rfl
theorem R_lit0 {α : Type} {d : Kd α} {e g base : Nat} {ok : Nat → Prop} {w : World} (hb : w.heap[g]? = some (.cells #[] e (0, 0))) (hg : base ≤ g) (hok : ok g) : d.R e w base ok (.slice (some ⟨g, 0, none⟩) 0 0) [] :=
 ⟨fun k h => by cases h; exact hok, [], ⟨by simp, .inr ⟨g, 0, #[], rfl, hg, hb, Nat.le_refl _, by unfold maxLen; omega, by simp, by simp⟩⟩, Reps.none _ _⟩
theorem R_lit1 {α : Type} {d : Kd α} {e g base : Nat} {ok : Nat → Prop} {w : World} {p : α} {cs : List Value} (hd : Flat d) (hb : w.heap[g]? = some (.cells cs.toArray e (0, 0))) (hp : d.M w base ok p cs) (hl : cs.length = d.sz) (hg : base ≤ g) (hok : ok g) : d.R e w base ok (.slice (some ⟨g, 0, none⟩) 1 1) [p] :=
 ⟨fun k h => by cases h; exact hok, cs, ⟨by simp [hl], .inr ⟨g, 1, cs.toArray, rfl, hg, hb, Nat.le_refl _, by unfold maxLen; omega, by simp [hl], by simp [← hl]⟩⟩,
  by simpa using (Reps.none (d.M w base fun k => ok k ∧ some k ≠ (Value.slice (some ⟨g, 0, none⟩) 1 1).ownBlock) d.sz).snoc (hd _ _ _ _ _ _ _ _ hp) hl⟩
theorem R_lit2 {α : Type} {d : Kd α} {e g base : Nat} {ok : Nat → Prop} {w : World} {p q : α} {cs ds : List Value} (hd : Flat d) (hb : w.heap[g]? = some (.cells (cs ++ ds).toArray e (0, 0))) (hp : d.M w base ok p cs) (hq : d.M w base ok q ds) (hl : cs.length = d.sz) (hl' : ds.length = d.sz) (hg : base ≤ g) (hok : ok g) : d.R e w base ok (.slice (some ⟨g, 0, none⟩) 2 2) [p, q] :=
 ⟨fun k h => by cases h; exact hok, cs ++ ds, ⟨by simp [hl, hl']; omega, .inr ⟨g, 2, (cs ++ ds).toArray, rfl, hg, hb, Nat.le_refl _, by unfold maxLen; omega, by simp [hl, hl']; omega, by rw [List.take_of_length_le]; simp [hl, hl']; omega⟩⟩,
  by simpa using ((Reps.none (d.M w base fun k => ok k ∧ some k ≠ (Value.slice (some ⟨g, 0, none⟩) 2 2).ownBlock) d.sz).snoc (hd _ _ _ _ _ _ _ _ hp) hl).snoc (hd _ _ _ _ _ _ _ _ hq) hl'⟩
end Go.Proofs.Ytejgohgmmndgbaa.HandA
--slim
