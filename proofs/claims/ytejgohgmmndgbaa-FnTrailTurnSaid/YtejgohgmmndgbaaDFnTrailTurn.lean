/- Plain facts on the printed functions: what is drawn, when a grid is ok, lists, copies and marks. -/
import Derived.Test.YtejgohgmmndgbaaPFnTrailTurnx
import Derived.Test.YtejgohgmmndgbaaPl
import Derived.Test.YtejgohgmmndgbaaTr3
namespace Go.Proofs.Ytejgohgmmndgbaa.DFnTrailTurn
open Go.RowKit Go.Proofs.Ytejgohgmmndgbaa.PFnTrailTurn Go.Proofs.YtejgohgmmndgbaaW.PrintWords Go.Proofs.YtejgohgmmndgbaaW.PrintLast Go.Proofs.Ytejgohgmmndgbaa.Pl
set_option linter.unusedVariables false
/-- A cell that is ok, by its two numbers. -/
def okc (k l : Int) : Prop := (k = 7 ∧ 1 ≤ l ∧ l ≤ 9) ∨ (0 ≤ k ∧ k ≤ 6 ∧ l = 0)

/-- A cell of a drawn grid that is spoilt: its numbers are small. -/
def smc (k l : Int) : Prop := -1 ≤ k ∧ k ≤ 8 ∧ 0 ≤ l ∧ l ≤ 10

theorem okc_sm {k l : Int} (h : okc k l) : smc k l := by unfold okc at h; unfold smc; omega


/-- A reader's bytes. -/
structure Rdr (s : List Int) : Prop where
 len : s.length ≤ 2000
 byte : ∀ i : Int, 0 ≤ rd s i ∧ rd s i ≤ 255

theorem rdr_of {l : List Int} (h : ∀ x ∈ l, (Lit.int .u8 x).wf = true) (s : List Int) (hs : ∀ x ∈ s, x ∈ l) (hl : s.length ≤ 2000) : Rdr s := by
 refine ⟨hl, fun i => ?_⟩
 unfold rd
 by_cases hi : i.toNat < s.length
 ·have hm := hs _ (List.getElem_mem hi)
  have hw := h _ hm
  rw [List.getD_eq_getElem?_getD, List.getElem?_eq_getElem hi, Option.getD_some]
  have := (byte_wf hw)
  omega
 ·rw [List.getD_eq_getElem?_getD, List.getElem?_eq_none (by omega), Option.getD_none]
  omega

theorem open_ev {l : List Int} (h : ∀ x ∈ l, (Lit.int .u8 x).wf = true) (hn : l.length ≤ maxLen) : ∃ s, spec_l6Open.f l = some (s, 0) ∧ Rdr s := by
 unfold maxLen at hn
 unfold spec_l6Open.f
 by_cases hl : (l.length : Int) > 2000
 ·rw [if_pos hl, if_pos (by omega)]
  exact ⟨_, rfl, rdr_of h _ (fun x hx => List.mem_of_mem_take hx) (by rw [List.length_take]; omega)⟩
 ·rw [if_neg hl]
  exact ⟨_, rfl, rdr_of h _ (fun x hx => hx) (by omega)⟩

theorem pick_ev {s : List Int} (hs : Rdr s) (p n : Int) (hp : 0 ≤ p) (hp' : p ≤ 1000000) (hn : n ≤ 1000000) :
  ∃ r, Ev (fun k => spec_l6Rd_pick.f k s p n) (r, p + 1) ∧ 0 ≤ r ∧ (1 ≤ n → r < n) ∧ (n < 1 → r = 0) := by
 have hlen := hs.len
 have e0 : wrap64 (p + 1) = p + 1 := w64 (by omega) (by omega)
 have e1 : wrap64 (p + 1 - 1) = p := by rw [show p + 1 - 1 = p from by omega]; exact w64 (by omega) (by omega)
 by_cases h1 : n < 1
 ·refine ⟨0, ?_, by omega, by omega, fun _ => rfl⟩
  refine Ev.congr (f := fun k => spec_l6Rd_pick.j0 k n true s (p + 1)) (fun k => by unfold spec_l6Rd_pick.f; rw [if_pos h1, e0]) ?_
  exact Ev.step (f := fun _ => some (0, p + 1)) (fun k => by rw [spec_l6Rd_pick.j0]; rw [if_pos rfl]) (Ev.now _)
 ·by_cases h2 : (s.length : Int) = 0
  ·refine ⟨0, ?_, by omega, by omega, fun _ => rfl⟩
   refine Ev.congr (f := fun k => spec_l6Rd_pick.j0 k n true s (p + 1)) (fun k => by unfold spec_l6Rd_pick.f; rw [if_neg h1, e0, show ((s.length : Int) == 0) = true from by simpa using h2]) ?_
   exact Ev.step (f := fun _ => some (0, p + 1)) (fun k => by rw [spec_l6Rd_pick.j0]; rw [if_pos rfl]) (Ev.now _)
  ·have hb := hs.byte
   by_cases h3 : p < (s.length : Int)
   ·refine ⟨Int.tmod (rd s p) n, ?_, (tmod_range (hb p).1 (by omega)).1, fun _ => (tmod_range (hb p).1 (by omega)).2, fun h => absurd h h1⟩
    refine Ev.congr (f := fun k => spec_l6Rd_pick.j0 k n false s (p + 1)) (fun k => by unfold spec_l6Rd_pick.f; rw [if_neg h1, e0, show ((s.length : Int) == 0) = false from by simpa using h2]) ?_
    refine Ev.step (f := fun _ => some (Int.tmod (rd s p) n, p + 1)) (fun k => ?_) (Ev.now _)
    rw [spec_l6Rd_pick.j0]
    have e2 : wrap64 (rd s p) = rd s p := w64 (by have := hb p; omega) (by have := hb p; omega)
    rw [if_neg (by decide), e1, if_pos h3, if_pos hp, if_neg (by omega), e2]
   ·have hL : 1 ≤ (s.length : Int) := by omega
    generalize hi1 : Int.tmod p (s.length : Int) = i1
    have r1 : 0 ≤ i1 ∧ i1 < (s.length : Int) := by rw [← hi1]; exact tmod_range hp hL
    have e3 : wrap64 (wrap64 (p * 7) + 3) = p * 7 + 3 := by rw [w64 (x := p * 7) (by omega) (by omega)]; exact w64 (by omega) (by omega)
    generalize hi2 : Int.tmod (p * 7 + 3) (s.length : Int) = i2
    have r2 : 0 ≤ i2 ∧ i2 < (s.length : Int) := by rw [← hi2]; exact tmod_range (by omega) hL
    have b1 := hb i1
    have b2 := hb i2
    have q0 : 0 ≤ Int.tdiv p (s.length : Int) ∧ Int.tdiv p (s.length : Int) ≤ p := by
     rw [Int.tdiv_eq_ediv_of_nonneg hp]
     exact ⟨Int.ediv_nonneg hp (by omega), Int.ediv_le_self _ hp⟩
    generalize hq : Int.tdiv p (s.length : Int) = q at q0
    generalize hX : rd s i1 * 131 + rd s i2 * 1117 + p * 29 + q * 53 = X
    have hX0 : 0 ≤ X ∧ X < 2 ^ 62 := by omega
    have f1 : wrap64 (wrap64 (wrap64 (wrap64 (wrap64 (rd s i1) * 131) + wrap64 (wrap64 (rd s i2) * 1117)) + wrap64 (p * 29)) + wrap64 (wrap64 q * 53)) = X := by
     rw [w64 (x := rd s i1) (by omega) (by omega), w64 (x := rd s i2) (by omega) (by omega), w64 (x := rd s i1 * 131) (by omega) (by omega), w64 (x := rd s i2 * 1117) (by omega) (by omega),
      w64 (x := rd s i1 * 131 + rd s i2 * 1117) (by omega) (by omega), w64 (x := p * 29) (by omega) (by omega), w64 (x := q) (by omega) (by omega), w64 (x := q * 53) (by omega) (by omega),
      w64 (x := rd s i1 * 131 + rd s i2 * 1117 + p * 29) (by omega) (by omega), hX]
     exact w64 (by omega) (by omega)
    have hd : 0 ≤ Int.tdiv X 64 ∧ Int.tdiv X 64 < 2 ^ 62 := by
     rw [Int.tdiv_eq_ediv_of_nonneg hX0.1]
     omega
    have f2 : wrap64 (Int.tdiv X 64) = Int.tdiv X 64 := w64 (by omega) (by omega)
    have hxr := xor_range hX0.1 hX0.2 hd.1 hd.2
    refine ⟨Int.tmod (bits .xor .i64 X (Int.tdiv X 64)) n, ?_, (tmod_range hxr.1 (by omega)).1, fun _ => (tmod_range hxr.1 (by omega)).2, fun h => absurd h h1⟩
    refine Ev.congr (f := fun k => spec_l6Rd_pick.j0 k n false s (p + 1)) (fun k => by unfold spec_l6Rd_pick.f; rw [if_neg h1, e0, show ((s.length : Int) == 0) = false from by simpa using h2]) ?_
    refine Ev.step (f := fun _ => some (Int.tmod (bits .xor .i64 X (Int.tdiv X 64)) n, p + 1)) (fun k => ?_) (Ev.now _)
    rw [spec_l6Rd_pick.j0]
    rw [if_neg (by decide), e1, if_neg h3, if_neg h2, hi1, if_pos r1.1, if_pos r1.2, e3, hi2, if_pos r2.1, if_pos r2.2, if_neg (by omega), hq, f1, f2]

theorem cell_ev {s : List Int} (hs : Rdr s) (p : Int) (hp : 0 ≤ p) (hp' : p ≤ 900000) :
  ∃ a b p', Ev (fun k => spec_l71Cell.f k s p) (a, b, p') ∧ p ≤ p' ∧ p' ≤ p + 2 ∧ okc a b := by
 obtain ⟨r, hr, h0, h1, _⟩ := pick_ev hs p 12 hp (by omega) (by omega)
 have h1 := h1 (by omega)
 obtain ⟨t, ht, t0, t1, _⟩ := pick_ev hs (p + 1) 9 (by omega) (by omega) (by omega)
 have t1 := t1 (by omega)
 have c : r = 0 ∨ r = 1 ∨ r = 2 ∨ r = 3 ∨ r = 4 ∨ r = 5 ∨ r = 6 ∨ r = 7 ∨ r = 8 ∨ r = 9 ∨ r = 10 ∨ r = 11 := by omega
 have go : ∀ {x : Int × Int × Int}, Ev (fun k => spec_l71Cell.j0 k r (r == 2) s (p + 1)) x → r ≠ 0 → r ≠ 1 → Ev (fun k => spec_l71Cell.f k s p) x := fun h e0 e1 =>
  Ev.congr (f := fun k => (spec_l6Rd_pick.f k s p 12).bind fun bt108 => (if bt108.1 = 0 then (some (1, 0, bt108.2)) else (if bt108.1 = 1 then (spec_l71Cell.j0 k bt108.1 (bt108.1 == 1) s bt108.2) else (spec_l71Cell.j0 k bt108.1 (bt108.1 == 2) s bt108.2))))
   (fun k => rfl) (Ev.bind hr (Ev.congr (f := fun k => spec_l71Cell.j0 k r (r == 2) s (p + 1)) (fun k => by dsimp only; rw [if_neg e0, if_neg e1]) h))
 have last : ∀ {x : Int × Int × Int}, Ev (fun k => if r = 5 then (some (4, 0, p + 1)) else (if r = 6 then (some (5, 0, p + 1)) else (if r = 7 then (some (6, 0, p + 1)) else (if r = 8 then ((spec_l6Rd_pick.f k s (p + 1) 9).bind fun bt110 => (some (7, wrap64 (1 + bt110.1), bt110.2))) else (some (0, 0, p + 1)))))) x →
   r ≠ 0 → r ≠ 1 → r ≠ 2 → r ≠ 3 → r ≠ 4 → Ev (fun k => spec_l71Cell.f k s p) x := fun h e0 e1 e2 e3 e4 =>
  go (Ev.step (f := fun k => spec_l71Cell.j1 k r (r == 4) s (p + 1)) (fun k => by rw [spec_l71Cell.j0, if_neg (by simpa using e2), if_neg e3])
   (Ev.step (f := fun k => if r = 5 then (some (4, 0, p + 1)) else (if r = 6 then (some (5, 0, p + 1)) else (if r = 7 then (some (6, 0, p + 1)) else (if r = 8 then ((spec_l6Rd_pick.f k s (p + 1) 9).bind fun bt110 => (some (7, wrap64 (1 + bt110.1), bt110.2))) else (some (0, 0, p + 1)))))) (fun k => by rw [spec_l71Cell.j1, if_neg (by simpa using e4)]) h)) e0 e1
 rcases c with rfl | rfl | rfl | rfl | rfl | rfl | rfl | rfl | rfl | rfl | rfl | rfl
 ·exact ⟨1, 0, p + 1, Ev.bind hr (Ev.congr (f := fun _ => some (1, 0, p + 1)) (fun k => rfl) (Ev.now _)), by omega, by omega, by unfold okc; omega⟩
 ·exact ⟨2, 0, p + 1, Ev.bind hr (Ev.congr (f := fun k => spec_l71Cell.j0 k 1 true s (p + 1)) (fun k => rfl) (Ev.step (f := fun _ => some (2, 0, p + 1)) (fun k => by rw [spec_l71Cell.j0]; rfl) (Ev.now _))), by omega, by omega, by unfold okc; omega⟩
 ·exact ⟨2, 0, p + 1, go (Ev.step (f := fun _ => some (2, 0, p + 1)) (fun k => by rw [spec_l71Cell.j0]; rfl) (Ev.now _)) (by omega) (by omega), by omega, by omega, by unfold okc; omega⟩
 ·exact ⟨3, 0, p + 1, go (Ev.step (f := fun k => spec_l71Cell.j1 k 3 true s (p + 1)) (fun k => by rw [spec_l71Cell.j0]; rfl) (Ev.step (f := fun _ => some (3, 0, p + 1)) (fun k => by rw [spec_l71Cell.j1]; rfl) (Ev.now _))) (by omega) (by omega), by omega, by omega, by unfold okc; omega⟩
 ·exact ⟨3, 0, p + 1, go (Ev.step (f := fun k => spec_l71Cell.j1 k 4 true s (p + 1)) (fun k => by rw [spec_l71Cell.j0]; rfl) (Ev.step (f := fun _ => some (3, 0, p + 1)) (fun k => by rw [spec_l71Cell.j1]; rfl) (Ev.now _))) (by omega) (by omega), by omega, by omega, by unfold okc; omega⟩
 ·exact ⟨4, 0, p + 1, last (Ev.congr (f := fun _ => some (4, 0, p + 1)) (fun k => rfl) (Ev.now _)) (by omega) (by omega) (by omega) (by omega) (by omega), by omega, by omega, by unfold okc; omega⟩
 ·exact ⟨5, 0, p + 1, last (Ev.congr (f := fun _ => some (5, 0, p + 1)) (fun k => rfl) (Ev.now _)) (by omega) (by omega) (by omega) (by omega) (by omega), by omega, by omega, by unfold okc; omega⟩
 ·exact ⟨6, 0, p + 1, last (Ev.congr (f := fun _ => some (6, 0, p + 1)) (fun k => rfl) (Ev.now _)) (by omega) (by omega) (by omega) (by omega) (by omega), by omega, by omega, by unfold okc; omega⟩
 ·refine ⟨7, 1 + t, p + 1 + 1, last (Ev.congr (f := fun k => (spec_l6Rd_pick.f k s (p + 1) 9).bind fun bt110 => (some (7, wrap64 (1 + bt110.1), bt110.2))) (fun k => rfl) (Ev.bind ht ?_)) (by omega) (by omega) (by omega) (by omega) (by omega), by omega, by omega, by unfold okc; omega⟩
  exact Ev.congr (f := fun _ => some (7, 1 + t, p + 1 + 1)) (fun k => by dsimp only; rw [w64 (by omega) (by omega)]) (Ev.now _)
 all_goals exact ⟨0, 0, p + 1, last (Ev.congr (f := fun _ => some (0, 0, p + 1)) (fun k => rfl) (Ev.now _)) (by omega) (by omega) (by omega) (by omega) (by omega), by omega, by omega, by unfold okc; omega⟩

theorem off_ev {s : List Int} (hs : Rdr s) (p : Int) (hp : 0 ≤ p) (hp' : p ≤ 900000) :
  ∃ a b, Ev (fun k => spec_l71Off.f k s p) (a, b, p + 1) ∧ smc a b := by
 obtain ⟨r, hr, h0, h1, _⟩ := pick_ev hs p 6 hp (by omega) (by omega)
 have h1 := h1 (by omega)
 have c : r = 0 ∨ r = 1 ∨ r = 2 ∨ r = 3 ∨ r = 4 ∨ r = 5 := by omega
 have go : ∀ (a b : Int), (∀ k : Nat, ((if 0 ≤ r then (if r < (([(⟨(-1), 0⟩ : S57), (⟨8, 0⟩ : S57), (⟨7, 0⟩ : S57), (⟨7, 10⟩ : S57), (⟨1, 1⟩ : S57), (⟨0, 0⟩ : S57)] : List (S57)).length : Int) then (some ((rd_T57 [(⟨(-1), 0⟩ : S57), (⟨8, 0⟩ : S57), (⟨7, 0⟩ : S57), (⟨7, 10⟩ : S57), (⟨1, 1⟩ : S57), (⟨0, 0⟩ : S57)] r).f0, (rd_T57 [(⟨(-1), 0⟩ : S57), (⟨8, 0⟩ : S57), (⟨7, 0⟩ : S57), (⟨7, 10⟩ : S57), (⟨1, 1⟩ : S57), (⟨0, 0⟩ : S57)] r).f1, p + 1)) else (none)) else (none)) : Option (Int × Int × Int)) = some (a, b, p + 1)) →
   Ev (fun k => spec_l71Off.f k s p) (a, b, p + 1) := fun a b h => Ev.bind (Ev.now _) (Ev.bind hr (Ev.congr (f := fun _ => some (a, b, p + 1)) h (Ev.now _)))
 rcases c with rfl | rfl | rfl | rfl | rfl | rfl
 ·exact ⟨-1, 0, go _ _ (fun k => rfl), by unfold smc; omega⟩
 ·exact ⟨8, 0, go _ _ (fun k => rfl), by unfold smc; omega⟩
 ·exact ⟨7, 0, go _ _ (fun k => rfl), by unfold smc; omega⟩
 ·exact ⟨7, 10, go _ _ (fun k => rfl), by unfold smc; omega⟩
 ·exact ⟨1, 1, go _ _ (fun k => rfl), by unfold smc; omega⟩
 ·exact ⟨0, 0, go _ _ (fun k => rfl), by unfold smc; omega⟩

theorem grid_l0_ev {s : List Int} (hs : Rdr s) (wide : Int) (n : Nat) : ∀ (cells : List (S57)) (p : Int), 0 ≤ p → p + 2 * n ≤ 900000 → cells.length + n ≤ 1000 → (∀ c ∈ cells, okc c.f0 c.f1) →
  ∃ cells' p', Ev (fun k => spec_l71Grid.l0 k (n : Int) s p wide cells) (wide, cells', p') ∧ cells'.length = cells.length + n ∧ p ≤ p' ∧ p' ≤ p + 2 * n ∧ ∀ c ∈ cells', okc c.f0 c.f1 := by
 induction n with
 | zero =>
  intro cells p hp hp' hl hc
  exact ⟨cells, p, Ev.step (f := fun _ => some (wide, cells, p)) (fun k => by rw [spec_l71Grid.l0, if_neg (by omega)]) (Ev.now _), by simp, by omega, by omega, hc⟩
 | succ n ih =>
  intro cells p hp hp' hl hc
  obtain ⟨a, b, p1, hev, h1, h2, hok⟩ := cell_ev hs p hp (by omega)
  obtain ⟨cells', p', hev', hl', h1', h2', hc'⟩ := ih (cells ++ [(⟨a, b⟩ : S57)]) p1 (by omega) (by omega) (by simp; omega) (by
   intro c hm
   rcases List.mem_append.1 hm with h | h
   ·exact hc c h
   ·simp at h; subst h; exact hok)
  refine ⟨cells', p', ?_, by rw [hl']; simp; omega, by omega, by omega, hc'⟩
  refine Ev.step (f := fun k => (spec_l71Cell.f k s p).bind fun bt118 => (if cells.length < 8796093022208 then (spec_l71Grid.l0 k (wrap64 (((n + 1 : Nat) : Int) - 1)) s bt118.2.2 wide (cells ++ [(⟨bt118.1, bt118.2.1⟩ : S57)])) else (none))) (fun k => by rw [spec_l71Grid.l0, if_pos (by omega)]) ?_
  refine Ev.bind hev (Ev.congr (f := fun k => spec_l71Grid.l0 k (n : Int) s p1 wide (cells ++ [(⟨a, b⟩ : S57)])) (fun k => ?_) hev')
  dsimp only
  rw [if_pos (by omega), w64 (by omega) (by omega), show ((n + 1 : Nat) : Int) - 1 = (n : Int) from by omega]

theorem grid_ev {s : List Int} (hs : Rdr s) (p : Int) (hp : 0 ≤ p) (hp' : p ≤ 800000) :
  ∃ wide cells p', Ev (fun k => spec_l71Grid.f k s p) (wide, cells, p') ∧ 1 ≤ wide ∧ wide ≤ 5 ∧ (∃ high : Int, 1 ≤ high ∧ high ≤ 5 ∧ (cells.length : Int) = wide * high) ∧ p ≤ p' ∧ p' ≤ p + 52 ∧ ∀ c ∈ cells, okc c.f0 c.f1 := by
 obtain ⟨a, ha, a0, a1, _⟩ := pick_ev hs p 5 hp (by omega) (by omega)
 have a1 := a1 (by omega)
 obtain ⟨b, hb, b0, b1, _⟩ := pick_ev hs (p + 1) 5 (by omega) (by omega) (by omega)
 have b1 := b1 (by omega)
 have hm : 1 ≤ (1 + a) * (1 + b) ∧ (1 + a) * (1 + b) ≤ 25 := by
  have : a = 0 ∨ a = 1 ∨ a = 2 ∨ a = 3 ∨ a = 4 := by omega
  rcases this with rfl | rfl | rfl | rfl | rfl <;> omega
 obtain ⟨n, hn⟩ := Int.eq_ofNat_of_zero_le (a := (1 + a) * (1 + b)) (by omega)
 obtain ⟨cells, p', hev, hl, h1, h2, hc⟩ := grid_l0_ev hs (1 + a) n [] (p + 1 + 1) (by omega) (by omega) (by simp; omega) (by simp)
 refine ⟨1 + a, cells, p', ?_, by omega, by omega, ⟨1 + b, by omega, by omega, by rw [hn, hl]; simp⟩, by omega, by omega, hc⟩
 refine Ev.bind ha (Ev.bind hb (Ev.congr (f := fun k => spec_l71Grid.l0 k (n : Int) s (p + 1 + 1) (1 + a) []) (fun k => ?_) hev))
 dsimp only
 rw [w64 (x := 1 + a) (by omega) (by omega), w64 (x := 1 + b) (by omega) (by omega), w64 (x := (1 + a) * (1 + b)) (by omega) (by omega), hn]

theorem fill_ev {s : List Int} (p wide : Int) (hw : -1 ≤ wide) (hw' : wide ≤ 6) (d : Nat) : ∀ (cells : List (S57)), cells.length ≤ 31 → (cells.length : Int) + d = max (wide * 5 + 1) cells.length → (∀ c ∈ cells, smc c.f0 c.f1) →
  ∃ cells', Ev (fun k => spec_l71Some.l0 k s p wide cells) (wide, cells', p) ∧ cells'.length ≤ 31 ∧ ∀ c ∈ cells', smc c.f0 c.f1 := by
 have e : wrap64 (wide * 5) = wide * 5 := w64 (by omega) (by omega)
 induction d with
 | zero =>
  intro cells hl hd hc
  exact ⟨cells, Ev.step (f := fun _ => some (wide, cells, p)) (fun k => by rw [spec_l71Some.l0, e, if_neg (by omega)]) (Ev.now _), hl, hc⟩
 | succ d ih =>
  intro cells hl hd hc
  obtain ⟨cells', hev, hl', hc'⟩ := ih (cells ++ [(⟨0, 0⟩ : S57)]) (by simp; omega) (by simp; omega) (by
   intro c hm
   rcases List.mem_append.1 hm with h | h
   ·exact hc c h
   ·simp at h; subst h; show smc 0 0; unfold smc; omega)
  exact ⟨cells', Ev.step (f := fun k => spec_l71Some.l0 k s p wide (cells ++ [(⟨0, 0⟩ : S57)])) (fun k => by rw [spec_l71Some.l0, e, if_pos (by omega), if_pos (by omega)]) hev, hl', hc'⟩

/-- What a drawn grid is at the most. -/
structure Small (wide : Int) (cells : List (S57)) : Prop where
 lo : -1 ≤ wide
 hi : wide ≤ 6
 len : cells.length ≤ 31
 all : ∀ c ∈ cells, smc c.f0 c.f1

theorem some_ev {s : List Int} (hs : Rdr s) (p : Int) (hp : 0 ≤ p) (hp' : p ≤ 700000) :
  ∃ wide cells p', Ev (fun k => spec_l71Some.f k s p) (wide, cells, p') ∧ Small wide cells ∧ p ≤ p' ∧ p' ≤ p + 60 := by
 obtain ⟨wide, cells, p1, hg, w0, w1, ⟨high, z0, z1, hl⟩, h1, h2, hok⟩ := grid_ev hs p hp (by omega)
 have hsm : ∀ c ∈ cells, smc c.f0 c.f1 := fun c hc => okc_sm (hok c hc)
 have hlen : 1 ≤ cells.length ∧ cells.length ≤ 25 := by
  have : wide = 1 ∨ wide = 2 ∨ wide = 3 ∨ wide = 4 ∨ wide = 5 := by omega
  rcases this with rfl | rfl | rfl | rfl | rfl <;> omega
 obtain ⟨r, hr, r0, r1, _⟩ := pick_ev hs p1 24 (by omega) (by omega) (by omega)
 by_cases hr0 : r > 0
 ·exact ⟨wide, cells, p1 + 1, Ev.bind hg (Ev.bind hr (Ev.congr (f := fun _ => some (wide, cells, p1 + 1)) (fun k => by dsimp only; rw [if_pos hr0]) (Ev.now _))), ⟨by omega, by omega, by omega, hsm⟩, by omega, by omega⟩
 ·obtain ⟨t, ht, t0, t1, _⟩ := pick_ev hs (p1 + 1) 5 (by omega) (by omega) (by omega)
  have t1 := t1 (by omega)
  have c : t = 0 ∨ t = 1 ∨ t = 2 ∨ t = 3 ∨ t = 4 := by omega
  rcases c with rfl | rfl | rfl | rfl | rfl
  ·obtain ⟨u, hu, u0, u1, _⟩ := pick_ev hs (p1 + 1 + 1) 3 (by omega) (by omega) (by omega)
   have u1 := u1 (by omega)
   have hv : -1 ≤ rd [0, (-1), 6] u ∧ rd [0, (-1), 6] u ≤ 6 := by
    have : u = 0 ∨ u = 1 ∨ u = 2 := by omega
    rcases this with rfl | rfl | rfl <;> decide
   refine ⟨rd [0, (-1), 6] u, cells, p1 + 1 + 1 + 1, Ev.bind hg (Ev.bind hr (Ev.congr (fun k => by dsimp only; rw [if_neg hr0]) (Ev.bind ht (Ev.congr (f := fun k => (some ([0, (-1), 6] : List Int)).bind fun y142 => ((spec_l6Rd_pick.f k s (p1 + 1 + 1) 3).bind fun bt145 => (if 0 ≤ bt145.1 then (if bt145.1 < (y142.length : Int) then (some (rd y142 bt145.1, cells, bt145.2)) else (none)) else (none)))) (fun k => by dsimp only; rw [if_pos rfl]) (Ev.bind (Ev.now _) (Ev.bind hu (Ev.congr (f := fun _ => some (rd [0, (-1), 6] u, cells, p1 + 1 + 1 + 1)) (fun k => ?_) (Ev.now _)))))))), ⟨hv.1, hv.2, by omega, hsm⟩, by omega, by omega⟩
   dsimp only
   rw [if_pos u0, if_pos (by simp; omega)]
  ·refine ⟨wide, cells.drop 1, p1 + 1 + 1, Ev.bind hg (Ev.bind hr (Ev.congr (fun k => by dsimp only; rw [if_neg hr0]) (Ev.bind ht (Ev.congr (f := fun _ => some (wide, cells.drop 1, p1 + 1 + 1)) (fun k => ?_) (Ev.now _))))), ⟨by omega, by omega, by simp; omega, fun c hc => hsm c (List.mem_of_mem_drop hc)⟩, by omega, by omega⟩
   dsimp only
   rw [if_neg (by decide), if_pos rfl, if_pos (by omega)]
   rfl
  ·obtain ⟨u, hu, u0, u1, _⟩ := pick_ev hs (p1 + 1 + 1) (cells.length : Int) (by omega) (by omega) (by omega)
   have u1 := u1 (by omega)
   obtain ⟨a, b, ho, hab⟩ := off_ev hs (p1 + 1 + 1 + 1) (by omega) (by omega)
   refine ⟨wide, cells.set u.toNat ⟨a, b⟩, p1 + 1 + 1 + 1 + 1, Ev.bind hg (Ev.bind hr (Ev.congr (fun k => by dsimp only; rw [if_neg hr0]) (Ev.bind ht (Ev.congr (fun k => by dsimp only; rw [if_neg (by decide), if_neg (by decide), if_pos rfl]) (Ev.bind hu (Ev.bind ho (Ev.congr (f := fun _ => some (wide, cells.set u.toNat ⟨a, b⟩, p1 + 1 + 1 + 1 + 1)) (fun k => ?_) (Ev.now _)))))))), ⟨by omega, by omega, by simp; omega, fun c hc => ?_⟩, by omega, by omega⟩
   ·dsimp only
    rw [if_pos u0, if_pos u1]
   ·rcases List.mem_or_eq_of_mem_set hc with h | h
    ·exact hsm c h
    ·subst h; exact hab
  ·obtain ⟨cells', hev, hl', hc'⟩ := fill_ev (s := s) (p1 + 1 + 1) wide (by omega) (by omega) (max (wide * 5 + 1) cells.length - cells.length).toNat cells (by omega) (by omega) hsm
   exact ⟨wide, cells', p1 + 1 + 1, Ev.bind hg (Ev.bind hr (Ev.congr (fun k => by dsimp only; rw [if_neg hr0]) (Ev.bind ht (Ev.congr (f := fun k => spec_l71Some.l0 k s (p1 + 1 + 1) wide cells) (fun k => by dsimp only; rw [if_neg (by decide), if_neg (by decide), if_neg (by decide), if_pos rfl]) hev)))), ⟨by omega, by omega, hl', hc'⟩, by omega, by omega⟩
  ·refine ⟨wide, [], p1 + 1 + 1, Ev.bind hg (Ev.bind hr (Ev.congr (fun k => by dsimp only; rw [if_neg hr0]) (Ev.bind ht (Ev.congr (f := fun _ => some (wide, [], p1 + 1 + 1)) (fun k => ?_) (Ev.now _))))), ⟨by omega, by omega, by simp, by simp⟩, by omega, by omega⟩
   dsimp only
   rw [if_neg (by decide), if_neg (by decide), if_neg (by decide), if_neg (by decide)]


theorem specCell (a b : Int) : spec_CellOk.f a b = some (CellA.ctOk a b) := by
 unfold spec_CellOk.f spec_l6In.f CellA.ctOk
 by_cases h : a = 7
 ·rw [if_pos h, if_pos h]
  by_cases h1 : b ≥ 1
  ·rw [if_pos h1]; simp; omega
  ·rw [if_neg h1]; simp; omega
 ·rw [if_neg h, if_neg h]
  by_cases h1 : a ≥ 0
  ·rw [if_pos h1]
   simp only [Option.bind_some]
   by_cases h2 : a ≤ 6
   ·rw [if_pos (by simpa using h2)]
    congr 1
    rw [Bool.eq_iff_iff]; simp; omega
   ·rw [if_neg (by simpa using h2)]
    congr 1
    rw [Bool.eq_iff_iff]; simp; omega
  ·rw [if_neg h1]; simp; omega

theorem ctOk_iff (a b : Int) : CellA.ctOk a b = true ↔ okc a b := by
 unfold CellA.ctOk okc
 by_cases h : a = 7
 ·rw [if_pos h]; simp; omega
 ·rw [if_neg h]; simp; omega

def allok (xs : List (S57)) : Bool := xs.all fun c => CellA.ctOk c.f0 c.f1
/-- The one test. -/
def gok (w : Int) (xs : List (S57)) : Bool := decide (1 ≤ w ∧ w ≤ 5 ∧ 1 ≤ xs.length ∧ (xs.length : Int) ≤ w * 5 ∧ (xs.length : Int) % w = 0) && allok xs

theorem rdT {xs : List (S57)} {i : Nat} (h : i < xs.length) : rd_T57 xs (i : Int) = xs[i] := by
 unfold rd_T57
 rw [Int.toNat_natCast, List.getD_eq_getElem?_getD, List.getElem?_eq_getElem h, Option.getD_some]

theorem impl_l0 (xs : List (S57)) (hx : xs.length ≤ maxLen) (d : Nat) : ∀ i : Nat, i + d = xs.length → Ev (fun k => impl_GridOk.l0 k xs (xs.length : Int) (i : Int)) (allok (xs.drop i)) := by
 unfold maxLen at hx
 induction d with
 | zero =>
  intro i hi
  have e : xs.drop i = [] := List.drop_eq_nil_of_le (by omega)
  rw [e]
  exact Ev.step (f := fun _ => some true) (fun k => by rw [impl_GridOk.l0, if_neg (by omega)]) (Ev.now _)
 | succ d ih =>
  intro i hi
  have hlt : i < xs.length := by omega
  have e : xs.drop i = xs[i] :: xs.drop (i + 1) := (List.getElem_cons_drop hlt).symm
  rw [e]
  unfold allok at ih ⊢
  rw [List.all_cons]
  have hr := rdT hlt
  by_cases hc : CellA.ctOk xs[i].f0 xs[i].f1 = true
  ·rw [hc, Bool.true_and]
   refine Ev.step (f := fun k => impl_GridOk.l0 k xs (xs.length : Int) ((i + 1 : Nat) : Int)) (fun k => ?_) (ih (i + 1) (by omega))
   rw [impl_GridOk.l0, if_pos (by omega), if_pos (by omega), if_pos (by omega), hr]
   unfold impl_CellOk.f
   rw [Option.bind_some, if_pos hc, w64 (by omega) (by omega)]
   rfl
  ·have hc' : CellA.ctOk xs[i].f0 xs[i].f1 = false := by simpa using hc
   rw [hc', Bool.false_and]
   refine Ev.step (f := fun _ => some false) (fun k => ?_) (Ev.now _)
   rw [impl_GridOk.l0, if_pos (by omega), if_pos (by omega), if_pos (by omega), hr]
   unfold impl_CellOk.f
   rw [Option.bind_some, if_neg hc]

theorem impl_ok (w : Int) (xs : List (S57)) (hx : xs.length ≤ maxLen) : Ev (fun k => impl_GridOk.f k w xs) (gok w xs) := by
 have hx' := hx
 unfold maxLen at hx'
 have no : ∀ {g : Nat → Option Bool}, ¬ (1 ≤ w ∧ w ≤ 5 ∧ 1 ≤ xs.length ∧ (xs.length : Int) ≤ w * 5 ∧ (xs.length : Int) % w = 0) → Ev g false → Ev g (gok w xs) := by
  intro g h hg
  have : gok w xs = false := by unfold gok; rw [decide_eq_false h, Bool.false_and]
  rw [this]; exact hg
 by_cases h1 : w < 1
 ·refine no (by omega) (Ev.congr (f := fun k => impl_GridOk.j0 k true w xs) (fun k => by unfold impl_GridOk.f; rw [if_pos h1]) ?_)
  exact Ev.step (f := fun _ => some false) (fun k => by rw [impl_GridOk.j0, if_pos rfl]) (Ev.now _)
 ·by_cases h2 : w > 5
  ·refine no (by omega) (Ev.congr (f := fun k => impl_GridOk.j0 k true w xs) (fun k => by unfold impl_GridOk.f; rw [if_neg h1, decide_eq_true h2]) ?_)
   exact Ev.step (f := fun _ => some false) (fun k => by rw [impl_GridOk.j0, if_pos rfl]) (Ev.now _)
  ·have e5 : wrap64 (w * 5) = w * 5 := w64 (by omega) (by omega)
   refine Ev.congr (f := fun k => impl_GridOk.j0 k false w xs) (fun k => by unfold impl_GridOk.f; rw [if_neg h1, decide_eq_false h2]) ?_
   by_cases h3 : (xs.length : Int) = 0
   ·refine no (by omega) (Ev.step (f := fun k => impl_GridOk.j1 k true w xs) (fun k => by rw [impl_GridOk.j0, if_neg (by decide), if_pos h3]) ?_)
    exact Ev.step (f := fun _ => some false) (fun k => by rw [impl_GridOk.j1, if_pos rfl]) (Ev.now _)
   ·by_cases h4 : (xs.length : Int) > w * 5
    ·refine no (by omega) (Ev.step (f := fun k => impl_GridOk.j1 k true w xs) (fun k => by rw [impl_GridOk.j0, if_neg (by decide), if_neg h3, e5, if_pos h4]) ?_)
     exact Ev.step (f := fun _ => some false) (fun k => by rw [impl_GridOk.j1, if_pos rfl]) (Ev.now _)
    ·refine Ev.step (f := fun k => impl_GridOk.j1 k (((xs.length : Int) % w) != 0) w xs) (fun k => by rw [impl_GridOk.j0, if_neg (by decide), if_neg h3, e5, if_neg h4, if_neg (by omega)]) ?_
     by_cases h5 : (xs.length : Int) % w = 0
     ·have e : gok w xs = allok xs := by
       unfold gok; rw [decide_eq_true (by omega), Bool.true_and]
      rw [e, show (((xs.length : Int) % w) != 0) = false from by simpa using h5]
      refine Ev.step (f := fun k => impl_GridOk.l0 k xs (xs.length : Int) ((0 : Nat) : Int)) (fun k => by rw [impl_GridOk.j1, if_neg (by decide)]; rfl) ?_
      exact impl_l0 xs hx xs.length 0 (by omega)
     ·refine no (by omega) ?_
      rw [show (((xs.length : Int) % w) != 0) = true from by simpa using h5]
      exact Ev.step (f := fun _ => some false) (fun k => by rw [impl_GridOk.j1, if_pos rfl]) (Ev.now _)

theorem spec_l0 (w : Int) (xs : List (S57)) (hx : xs.length ≤ maxLen) (d : Nat) : ∀ i : Nat, i + d = xs.length → Ev (fun k => spec_GridOk.l0 k (i : Int) w xs) (allok (xs.drop i)) := by
 unfold maxLen at hx
 induction d with
 | zero =>
  intro i hi
  have e : xs.drop i = [] := List.drop_eq_nil_of_le (by omega)
  rw [e]
  exact Ev.step (f := fun _ => some true) (fun k => by rw [spec_GridOk.l0, if_neg (by omega)]) (Ev.now _)
 | succ d ih =>
  intro i hi
  have hlt : i < xs.length := by omega
  have e : xs.drop i = xs[i] :: xs.drop (i + 1) := (List.getElem_cons_drop hlt).symm
  rw [e]
  unfold allok at ih ⊢
  rw [List.all_cons]
  have hr := rdT hlt
  by_cases hc : CellA.ctOk xs[i].f0 xs[i].f1 = true
  ·rw [hc, Bool.true_and]
   refine Ev.step (f := fun k => spec_GridOk.l0 k ((i + 1 : Nat) : Int) w xs) (fun k => ?_) (ih (i + 1) (by omega))
   rw [spec_GridOk.l0, if_pos (by omega), if_pos (by omega), hr, specCell, Option.bind_some, if_pos hc, w64 (by omega) (by omega)]
   rfl
  ·have hc' : CellA.ctOk xs[i].f0 xs[i].f1 = false := by simpa using hc
   rw [hc', Bool.false_and]
   refine Ev.step (f := fun _ => some false) (fun k => ?_) (Ev.now _)
   rw [spec_GridOk.l0, if_pos (by omega), if_pos (by omega), hr, specCell, Option.bind_some, if_neg hc]

theorem spec_ok (w : Int) (xs : List (S57)) (hx : xs.length ≤ maxLen) : Ev (fun k => spec_GridOk.f k w xs) (gok w xs) := by
 have hx' := hx
 unfold maxLen at hx'
 have no : ∀ {g : Nat → Option Bool}, ¬ (1 ≤ w ∧ w ≤ 5 ∧ 1 ≤ xs.length ∧ (xs.length : Int) ≤ w * 5 ∧ (xs.length : Int) % w = 0) → Ev g false → Ev g (gok w xs) := by
  intro g h hg
  have : gok w xs = false := by unfold gok; rw [decide_eq_false h, Bool.false_and]
  rw [this]; exact hg
 have jt : Ev (fun k => spec_GridOk.j0 k true w xs) false := Ev.step (f := fun _ => some false) (fun k => by rw [spec_GridOk.j0, if_pos rfl]) (Ev.now _)
 by_cases h1 : 1 ≤ w ∧ w ≤ 5
 ·have e1 : spec_l6In.f w 1 5 = some true := by unfold spec_l6In.f; rw [if_pos h1.1, decide_eq_true h1.2]
  by_cases h2 : (xs.length : Int) % w = 0
  ·have ew : wrap64 ((xs.length : Int) / w) = (xs.length : Int) / w := by
    have := Int.ediv_nonneg (a := (xs.length : Int)) (b := w) (by omega) (by omega)
    have := Int.ediv_le_self (a := (xs.length : Int)) w (by omega)
    exact w64 (by omega) (by omega)
   have hq : (1 ≤ (xs.length : Int) / w ∧ (xs.length : Int) / w ≤ 5) ↔ (1 ≤ xs.length ∧ (xs.length : Int) ≤ w * 5) := by
    obtain ⟨a, b⟩ := h1
    have : w = 1 ∨ w = 2 ∨ w = 3 ∨ w = 4 ∨ w = 5 := by omega
    rcases this with rfl | rfl | rfl | rfl | rfl <;> omega
   have e2 : spec_l6In.f ((xs.length : Int) / w) 1 5 = some (decide (1 ≤ (xs.length : Int) / w ∧ (xs.length : Int) / w ≤ 5)) := by
    unfold spec_l6In.f
    by_cases h : (xs.length : Int) / w ≥ 1
    ·rw [if_pos h]; congr 1; rw [Bool.eq_iff_iff]; simp; omega
    ·rw [if_neg h]; congr 1; rw [Bool.eq_iff_iff]; simp; omega
   refine Ev.congr (f := fun k => spec_GridOk.j0 k (!(decide (1 ≤ (xs.length : Int) / w ∧ (xs.length : Int) / w ≤ 5))) w xs) (fun k => by
    unfold spec_GridOk.f; rw [e1, Option.bind_some, if_pos rfl, if_neg (by omega), if_pos h2, ew, e2, Option.bind_some]) ?_
   by_cases h3 : 1 ≤ (xs.length : Int) / w ∧ (xs.length : Int) / w ≤ 5
   ·rw [decide_eq_true h3]
    have e : gok w xs = allok xs := by unfold gok; rw [decide_eq_true ⟨h1.1, h1.2, (hq.1 h3).1, (hq.1 h3).2, h2⟩, Bool.true_and]
    rw [e]
    refine Ev.step (f := fun k => spec_GridOk.l0 k ((0 : Nat) : Int) w xs) (fun k => by rw [spec_GridOk.j0, if_neg (by decide)]; rfl) ?_
    exact spec_l0 w xs hx xs.length 0 (by omega)
   ·rw [decide_eq_false h3]
    exact no (fun h => h3 (hq.2 ⟨h.2.2.1, h.2.2.2.1⟩)) jt
  ·refine no (by omega) (Ev.congr (f := fun k => spec_GridOk.j0 k true w xs) (fun k => by unfold spec_GridOk.f; rw [e1, Option.bind_some, if_pos rfl, if_neg (by omega), if_neg h2]) jt)
 ·have e1 : spec_l6In.f w 1 5 = some false := by
   unfold spec_l6In.f
   by_cases h : w ≥ 1
   ·rw [if_pos h]; congr 1; simp; omega
   ·rw [if_neg h]
  exact no (by omega) (Ev.congr (f := fun k => spec_GridOk.j0 k true w xs) (fun k => by unfold spec_GridOk.f; rw [e1, Option.bind_some, if_neg (by decide)]) jt)

/-- What the test says. -/
structure Ok (w : Int) (xs : List (S57)) (h : Int) : Prop where
 w1 : 1 ≤ w
 w5 : w ≤ 5
 h1 : 1 ≤ h
 h5 : h ≤ 5
 len : (xs.length : Int) = w * h
 div : (xs.length : Int) / w = h
 all : ∀ c ∈ xs, okc c.f0 c.f1

theorem ok_of {w : Int} {xs : List (S57)} (h : gok w xs = true) : ∃ hi, Ok w xs hi := by
 unfold gok at h
 rw [Bool.and_eq_true, decide_eq_true_eq] at h
 obtain ⟨⟨a, b, c, d, e⟩, f⟩ := h
 have hall : ∀ c ∈ xs, okc c.f0 c.f1 := fun c hc => (ctOk_iff _ _).1 (by unfold allok at f; exact List.all_eq_true.1 f c hc)
 have : w = 1 ∨ w = 2 ∨ w = 3 ∨ w = 4 ∨ w = 5 := by omega
 refine ⟨(xs.length : Int) / w, a, b, ?_, ?_, ?_, rfl, hall⟩ <;> (rcases this with rfl | rfl | rfl | rfl | rfl <;> omega)

theorem impl_many (w : Int) (xs : List (S57)) (hx : xs.length ≤ maxLen) : Ev (fun k => impl_SightMany.f k w xs) (if gok w xs = true then 2 * (w + (xs.length : Int) / w) else 0) := by
 refine Ev.bind (impl_ok w xs hx) ?_
 by_cases h : gok w xs = true
 ·obtain ⟨hi, o⟩ := ok_of h
  have w1 := o.w1; have w5 := o.w5; have h1 := o.h1; have h5 := o.h5
  rw [show (if gok w xs = true then 2 * (w + (xs.length : Int) / w) else 0) = 2 * (w + (xs.length : Int) / w) from if_pos h]
  refine Ev.congr (f := fun _ => some (2 * (w + (xs.length : Int) / w))) (fun k => ?_) (Ev.now _)
  rw [if_pos h]
  unfold impl_gridRows.f
  rw [if_neg (by omega), Option.bind_some, o.div, w64 (x := hi) (by omega) (by omega), w64 (x := w + hi) (by omega) (by omega), w64 (by omega) (by omega)]
 ·rw [show (if gok w xs = true then 2 * (w + (xs.length : Int) / w) else 0) = 0 from if_neg h]
  exact Ev.congr (f := fun _ => some 0) (fun k => by rw [if_neg h]) (Ev.now _)

theorem spec_high {w : Int} {xs : List (S57)} {hi : Int} (o : Ok w xs hi) : spec_l1High.f w xs = some hi := by
 have w1 := o.w1; have h1 := o.h1; have h5 := o.h5
 unfold spec_l1High.f
 rw [if_neg (by omega), o.div, w64 (by omega) (by omega)]

theorem spec_many {w : Int} {xs : List (S57)} {hi : Int} (o : Ok w xs hi) : spec_l3Many.f w xs = some (2 * (w + hi)) := by
 have w1 := o.w1; have w5 := o.w5; have h1 := o.h1; have h5 := o.h5
 unfold spec_l3Many.f
 rw [spec_high o, Option.bind_some, w64 (x := w + hi) (by omega) (by omega), w64 (by omega) (by omega)]

theorem spec_manyS (w : Int) (xs : List (S57)) (hx : xs.length ≤ maxLen) : Ev (fun k => spec_SightMany.f k w xs) (if gok w xs = true then 2 * (w + (xs.length : Int) / w) else 0) := by
 refine Ev.bind (spec_ok w xs hx) ?_
 by_cases h : gok w xs = true
 ·obtain ⟨hi, o⟩ := ok_of h
  rw [show (if gok w xs = true then 2 * (w + (xs.length : Int) / w) else 0) = 2 * (w + (xs.length : Int) / w) from if_pos h]
  refine Ev.congr (f := fun _ => some (2 * (w + (xs.length : Int) / w))) (fun k => ?_) (Ev.now _)
  rw [if_pos h, spec_many o, Option.bind_some, o.div]
 ·rw [show (if gok w xs = true then 2 * (w + (xs.length : Int) / w) else 0) = 0 from if_neg h]
  exact Ev.congr (f := fun _ => some 0) (fun k => by rw [if_neg h]) (Ev.now _)
theorem sight_ev {s : List Int} (hs : Rdr s) (p : Int) (hp : 0 ≤ p) (hp' : p ≤ 600000) (w : Int) (xs : List (S57)) (hx : xs.length ≤ maxLen) : ∃ v p', Ev (fun k => spec_l71Sight.f k s p w xs) (v, p') ∧ p ≤ p' ∧ p' ≤ p + 2 := by
 have hm := spec_manyS w xs hx
 generalize hM : (if gok w xs = true then 2 * (w + (xs.length : Int) / w) else 0) = M at hm
 have hM2 : 0 ≤ M ∧ M ≤ 20 := by
  rw [← hM]
  by_cases h : gok w xs = true
  ·obtain ⟨hi, o⟩ := ok_of h
   have w1 := o.w1; have w5 := o.w5; have h1 := o.h1; have h5 := o.h5
   rw [if_pos h, o.div]; omega
  ·rw [if_neg h]; omega
 have jt : ∀ p, 0 ≤ p → p ≤ 700000 → ∃ v, Ev (fun k => spec_l71Sight.j0 k M true s p) (v, p + 1) := by
  intro p h0 h1
  obtain ⟨r, hr, r0, r1, _⟩ := pick_ev hs p 3 h0 (by omega) (by omega)
  have r1 := r1 (by omega)
  refine ⟨rd [(-1), M, 20] r, ?_⟩
  refine Ev.step (f := fun k => (spec_l6Rd_pick.f k s p 3).bind fun bt => (if 0 ≤ bt.1 then (if bt.1 < (([(-1), M, 20] : List Int).length : Int) then (some (rd [(-1), M, 20] bt.1, bt.2)) else (none)) else (none))) (fun k => by rw [spec_l71Sight.j0, if_pos rfl]; rfl) ?_
  exact Ev.bind hr (Ev.congr (f := fun _ => some (rd [(-1), M, 20] r, p + 1)) (fun k => by rw [if_pos r0, if_pos (by simp; omega)]) (Ev.now _))
 by_cases h0 : M = 0
 ·obtain ⟨v, hv⟩ := jt p hp (by omega)
  exact ⟨v, p + 1, Ev.bind hm (Ev.congr (fun k => by rw [if_pos h0]) hv), by omega, by omega⟩
 ·obtain ⟨r, hr, r0, r1, _⟩ := pick_ev hs p 24 hp (by omega) (by omega)
  by_cases hz : r = 0
  ·obtain ⟨v, hv⟩ := jt (p + 1) (by omega) (by omega)
   exact ⟨v, p + 1 + 1, Ev.bind hm (Ev.congr (fun k => by rw [if_neg h0]) (Ev.bind hr (Ev.congr (fun k => by rw [hz]; rfl) hv))), by omega, by omega⟩
  ·obtain ⟨v, hv, _⟩ := pick_ev hs (p + 1) M (by omega) (by omega) (by omega)
   refine ⟨v, p + 1 + 1, Ev.bind hm (Ev.congr (f := fun k => (spec_l6Rd_pick.f k s p 24).bind fun bt => spec_l71Sight.j0 k M (bt.1 == 0) s bt.2) (fun k => by rw [if_neg h0]) (Ev.bind hr ?_)), by omega, by omega⟩
   refine Ev.step (f := fun k => (spec_l6Rd_pick.f k s (p + 1) M).bind fun bt => some (bt.1, bt.2)) (fun k => by rw [spec_l71Sight.j0, if_neg (by simpa using hz)]) (Ev.bind hv (Ev.now _))
/-! ### light: spec's and impl's steps are Tr's -/
open Go.Proofs.Ytejgohgmmndgbaa
def kdOf (xs : List (S57)) : Int → Int := fun a => (rd_T57 xs a).f0
theorem l6In_eq (a b c : Int) : spec_l6In.f a b c = some (decide (b ≤ a ∧ a ≤ c)) := by
 unfold spec_l6In.f
 by_cases h : a ≥ b
 ·rw [if_pos h]; congr 1; simp; omega
 ·rw [if_neg h]; congr 1; symm; simp; omega
theorem pick_if (P Q : Prop) [Decidable P] [Decidable Q] (x y d : Int) (h : P ↔ Q) (e : Q → x = y) : (if P then (x, d, true) else ((0 : Int), (0 : Int), false)) = (match (if Q then some y else none) with | some a' => (a', d, true) | none => ((0 : Int), (0 : Int), false)) := by
 by_cases hq : Q
 ·rw [if_pos hq, if_pos (h.2 hq), e hq]
 ·rw [if_neg hq, if_neg (fun hp => hq (h.1 hp))]
def dr (d : Int) : Int := if d = 0 then -1 else if d = 2 then 1 else 0
def dc (d : Int) : Int := if d = 1 then 1 else if d = 3 then -1 else 0
theorem spec_next {w : Int} {xs : List (S57)} {hi : Int} (o : Ok w xs hi) (a d : Int) (a0 : 0 ≤ a) (a1 : a < (xs.length : Int)) (d0 : 0 ≤ d) (d3 : d ≤ 3) :
  spec_l2Next.f w xs a d = some (match Tr.nxt w (xs.length : Int) a d with | some a' => (a', d, true) | none => (0, 0, false)) := by
 have w1 := o.w1; have w5 := o.w5; have h1 := o.h1; have h5 := o.h5; have len := o.len
 have r0 : 0 ≤ a % w := Int.emod_nonneg _ (by omega)
 have r1 : a % w < w := Int.emod_lt_of_pos _ (by omega)
 have tq : Int.tdiv a w = a / w := Int.tdiv_eq_ediv_of_nonneg a0
 have tm : Int.tmod a w = a % w := Int.tmod_eq_emod_of_nonneg a0
 have hc : w = 1 ∨ w = 2 ∨ w = 3 ∨ w = 4 ∨ w = 5 := by omega
 have q0 : 0 ≤ a / w := by rcases hc with rfl | rfl | rfl | rfl | rfl <;> omega
 have q1 : a / w < hi := by rcases hc with rfl | rfl | rfl | rfl | rfl <;> omega
 have c : d = 0 ∨ d = 1 ∨ d = 2 ∨ d = 3 := by omega
 have e1 : rd ([(-1), 0, 1, 0] : List Int) d = dr d := by rcases c with rfl | rfl | rfl | rfl <;> rfl
 have e2 : rd ([0, 1, 0, (-1)] : List Int) d = dc d := by rcases c with rfl | rfl | rfl | rfl <;> rfl
 have b1 : -1 ≤ dr d ∧ dr d ≤ 1 := by unfold dr; split <;> (try split) <;> omega
 have b2 : -1 ≤ dc d ∧ dc d ≤ 1 := by unfold dc; split <;> (try split) <;> omega
 have key : spec_l2Next.f w xs a d = some (if 0 ≤ a / w + dr d ∧ a / w + dr d ≤ hi - 1 ∧ 0 ≤ a % w + dc d ∧ a % w + dc d ≤ w - 1 then ((a / w + dr d) * w + (a % w + dc d), d, true) else (0, 0, false)) := by
  unfold spec_l2Next.f
  rw [if_neg (by omega), Option.bind_some, if_pos d0, if_pos (by simp; omega), Option.bind_some, if_pos (by simp; omega), spec_high o, Option.bind_some, tq, tm, e1, e2, w64 (x := a / w) (by omega) (by omega), w64 (x := a / w + dr d) (by omega) (by omega), w64 (x := hi - 1) (by omega) (by omega), w64 (x := a % w + dc d) (by omega) (by omega), w64 (x := w - 1) (by omega) (by omega), l6In_eq, Option.bind_some, l6In_eq]
  by_cases g1 : 0 ≤ a / w + dr d ∧ a / w + dr d ≤ hi - 1
  ·rw [if_pos (by simpa using g1), Option.bind_some]
   by_cases g2 : 0 ≤ a % w + dc d ∧ a % w + dc d ≤ w - 1
   ·rw [if_pos (by simpa using g2), if_pos ⟨g1.1, g1.2, g2.1, g2.2⟩]
    have m1 : 0 ≤ (a / w + dr d) * w ∧ (a / w + dr d) * w ≤ 25 := by
     rcases hc with rfl | rfl | rfl | rfl | rfl <;> omega
    rw [w64 (x := (a / w + dr d) * w) (by omega) (by omega), w64 (by omega) (by omega)]
   ·rw [if_neg (by simpa using g2), if_neg (fun h => g2 ⟨h.2.2.1, h.2.2.2⟩)]
  ·rw [if_neg (by simpa using g1), if_neg (fun h => g1 ⟨h.1, h.2.1⟩)]
 clear tq tm e1 e2 b1 b2
 rw [key]
 clear key
 rcases c with rfl | rfl | rfl | rfl
 ·rw [show dr 0 = -1 from rfl, show dc 0 = 0 from rfl, show Tr.nxt w (xs.length : Int) a 0 = (if w ≤ a then some (a - w) else none) from rfl]
  exact congrArg some (pick_if _ _ _ _ _ (by rcases hc with rfl | rfl | rfl | rfl | rfl <;> omega) (fun _ => by rcases hc with rfl | rfl | rfl | rfl | rfl <;> omega))
 ·rw [show dr 1 = 0 from rfl, show dc 1 = 1 from rfl, show Tr.nxt w (xs.length : Int) a 1 = (if a % w ≠ w - 1 then some (a + 1) else none) from rfl]
  exact congrArg some (pick_if _ _ _ _ _ (by rcases hc with rfl | rfl | rfl | rfl | rfl <;> omega) (fun _ => by rcases hc with rfl | rfl | rfl | rfl | rfl <;> omega))
 ·rw [show dr 2 = 1 from rfl, show dc 2 = 0 from rfl, show Tr.nxt w (xs.length : Int) a 2 = (if a + w < (xs.length : Int) then some (a + w) else none) from rfl]
  exact congrArg some (pick_if _ _ _ _ _ (by rcases hc with rfl | rfl | rfl | rfl | rfl <;> omega) (fun _ => by rcases hc with rfl | rfl | rfl | rfl | rfl <;> omega))
 ·rw [show dr 3 = 0 from rfl, show dc 3 = -1 from rfl, show Tr.nxt w (xs.length : Int) a 3 = (if a % w ≠ 0 then some (a - 1) else none) from rfl]
  exact congrArg some (pick_if _ _ _ _ _ (by rcases hc with rfl | rfl | rfl | rfl | rfl <;> omega) (fun _ => by rcases hc with rfl | rfl | rfl | rfl | rfl <;> omega))
def vis (v : Tr.V) : S50 := ⟨v.1, v.2.1, v.2.2⟩
def fin (v : Tr.V) : S55 := ⟨v.1, v.2.1, v.2.2⟩
theorem endV_en (es : List S55) (k a wt : Int) : endV es k a wt = es ++ (Tr.en k a wt).map fin := by
 unfold endV Tr.en
 by_cases h : wt > 0
 ·rw [if_pos h, if_pos h]; rfl
 ·rw [if_neg h, if_neg h]; simp
theorem spec_turn (kd d : Int) (d0 : 0 ≤ d) (d3 : d ≤ 3) : Ev (fun k => spec_DirTurn.f k kd d) (Tr.dirT kd d) := by
 refine ⟨1, fun k hk => ?_⟩
 obtain ⟨k', rfl⟩ : ∃ k', k = k' + 1 := ⟨k - 1, by omega⟩
 have c : d = 0 ∨ d = 1 ∨ d = 2 ∨ d = 3 := by omega
 have x0 : Go.bits .xor .i64 0 1 = 1 := by kernel_rfl
 have x1 : Go.bits .xor .i64 1 1 = 0 := by kernel_rfl
 have x2 : Go.bits .xor .i64 2 1 = 3 := by kernel_rfl
 have x3 : Go.bits .xor .i64 3 1 = 2 := by kernel_rfl
 have w3 : wrap64 (3 - d) = 3 - d := w64 (by omega) (by omega)
 have hj : spec_DirTurn.f (k' + 1) kd d = some (if kd = 2 ∨ kd = 4 then Go.bits .xor .i64 d 1 else if kd = 3 ∨ kd = 5 then 3 - d else d) := by
  unfold spec_DirTurn.f
  rw [l6In_eq, Option.bind_some, if_pos (by simp; omega)]
  by_cases k2 : kd = 2
  ·rw [if_pos k2, if_pos (.inl k2), spec_DirTurn.j0, if_pos (by simpa using k2)]
  ·rw [if_neg k2]
   by_cases k4 : kd = 4
   ·rw [if_pos (.inr k4), spec_DirTurn.j0, if_pos (by simpa using k4)]
   ·rw [if_neg (by omega), spec_DirTurn.j0, if_neg (by simpa using k4)]
    by_cases k3 : kd = 3
    ·rw [if_pos k3, if_pos (.inl k3), w3]
    ·rw [if_neg k3]
     by_cases k5 : kd = 5
     ·rw [if_pos k5, if_pos (.inr k5), w3]
     ·rw [if_neg k5, if_neg (by omega)]
 refine hj.trans ?_
 congr 1
 unfold Tr.dirT
 by_cases k2 : kd = 2 ∨ kd = 4
 ·rw [if_pos k2, if_pos k2]
  rcases c with rfl | rfl | rfl | rfl
  ·rw [x0]; rfl
  ·rw [x1]; rfl
  ·rw [x2]; rfl
  ·rw [x3]; rfl
 ·rw [if_neg k2, if_neg k2]
theorem spec_ray {w : Int} {xs : List (S57)} {hi : Int} (o : Ok w xs hi) (k : Int) (k0 : 0 ≤ k) (k1 : k < 2 * (w + hi)) : spec_l3Ray.f w xs k = some (rayAt w hi k) := by
 have w1 := o.w1; have w5 := o.w5; have h1 := o.h1; have h5 := o.h5
 have hc : w = 1 ∨ w = 2 ∨ w = 3 ∨ w = 4 ∨ w = 5 := by omega
 have m0 : 1 ≤ w * hi ∧ w * hi ≤ 25 := by rcases hc with rfl | rfl | rfl | rfl | rfl <;> omega
 unfold spec_l3Ray.f rayAt
 rw [spec_high o, Option.bind_some, o.len, w64 (x := k - w) (by omega) (by omega)]
 by_cases g1 : k < w
 ·rw [if_pos g1, if_pos g1]
 rw [if_neg g1, if_neg g1]
 by_cases g2 : k - w < hi
 ·have m1 : 0 ≤ (k - w) * w ∧ (k - w) * w ≤ 25 := by rcases hc with rfl | rfl | rfl | rfl | rfl <;> omega
  rw [if_pos g2, if_pos (show k < w + hi by omega), w64 (x := (k - w) * w) (by omega) (by omega), w64 (x := (k - w) * w + w) (by omega) (by omega), w64 (by omega) (by omega)]
 rw [if_neg g2, w64 (x := k - w - hi) (by omega) (by omega), if_neg (show ¬ k < w + hi by omega)]
 by_cases g3 : k - w - hi < w
 ·rw [if_pos g3, if_pos (show k < w + hi + w by omega), w64 (x := w * hi - 1) (by omega) (by omega), w64 (by omega) (by omega), Int.mul_comm w hi]
 ·have m2 : 0 ≤ (k - w - hi - w) * w ∧ (k - w - hi - w) * w ≤ 25 := by rcases hc with rfl | rfl | rfl | rfl | rfl <;> omega
  rw [if_neg g3, if_neg (show ¬ k < w + hi + w by omega), w64 (x := w * hi - 1) (by omega) (by omega), w64 (x := w * hi - 1 - w) (by omega) (by omega), w64 (x := w * hi - 1 - w + 1) (by omega) (by omega), w64 (x := k - w - hi - w) (by omega) (by omega), w64 (x := (k - w - hi - w) * w) (by omega) (by omega), w64 (by rcases hc with rfl | rfl | rfl | rfl | rfl <;> omega) (by rcases hc with rfl | rfl | rfl | rfl | rfl <;> omega)]
  congr 2
  rcases hc with rfl | rfl | rfl | rfl | rfl <;> omega
theorem ray_inj {w hi : Int} (w1 : 1 ≤ w) (w5 : w ≤ 5) (h1 : 1 ≤ hi) (h5 : hi ≤ 5) (m m' : Int) (m0 : 0 ≤ m) (m1 : m < 2 * (w + hi)) (n0 : 0 ≤ m') (n1 : m' < 2 * (w + hi)) (h : rayAt w hi m = rayAt w hi m') : m = m' := by
 have hc : w = 1 ∨ w = 2 ∨ w = 3 ∨ w = 4 ∨ w = 5 := by omega
 unfold rayAt at h
 by_cases a1 : m < w
 ·rw [if_pos a1] at h
  by_cases b1 : m' < w
  ·rw [if_pos b1] at h; injection h
  ·rw [if_neg b1] at h
   by_cases b2 : m' < w + hi
   ·rw [if_pos b2] at h; injection h with _ h; omega
   ·rw [if_neg b2] at h
    by_cases b3 : m' < w + hi + w
    ·rw [if_pos b3] at h; injection h with _ h; omega
    ·rw [if_neg b3] at h; injection h with _ h; omega
 rw [if_neg a1] at h
 by_cases a2 : m < w + hi
 ·rw [if_pos a2] at h
  by_cases b1 : m' < w
  ·rw [if_pos b1] at h; injection h with _ h; omega
  ·rw [if_neg b1] at h
   by_cases b2 : m' < w + hi
   ·rw [if_pos b2] at h; injection h with h _
    rcases hc with rfl | rfl | rfl | rfl | rfl <;> omega
   ·rw [if_neg b2] at h
    by_cases b3 : m' < w + hi + w
    ·rw [if_pos b3] at h; injection h with _ h; omega
    ·rw [if_neg b3] at h; injection h with _ h; omega
 rw [if_neg a2] at h
 by_cases a3 : m < w + hi + w
 ·rw [if_pos a3] at h
  by_cases b1 : m' < w
  ·rw [if_pos b1] at h; injection h with _ h; omega
  ·rw [if_neg b1] at h
   by_cases b2 : m' < w + hi
   ·rw [if_pos b2] at h; injection h with _ h; omega
   ·rw [if_neg b2] at h
    by_cases b3 : m' < w + hi + w
    ·rw [if_pos b3] at h; injection h with h _; omega
    ·rw [if_neg b3] at h; injection h with _ h; omega
 rw [if_neg a3] at h
 by_cases b1 : m' < w
 ·rw [if_pos b1] at h; injection h with _ h; omega
 ·rw [if_neg b1] at h
  by_cases b2 : m' < w + hi
  ·rw [if_pos b2] at h; injection h with _ h; omega
  ·rw [if_neg b2] at h
   by_cases b3 : m' < w + hi + w
   ·rw [if_pos b3] at h; injection h with _ h; omega
   ·rw [if_neg b3] at h; injection h with h _
    rcases hc with rfl | rfl | rfl | rfl | rfl <;> omega
theorem found_none {wn hn : Nat} {a d : Int} : ∀ m : Nat, (∀ i : Nat, i < m → rayAt wn hn i ≠ (a, d)) → foundTo wn hn a d m = -1
 | 0, _ => rfl
 | m + 1, h => by
  rw [foundTo, if_neg ?_]
  ·exact found_none m (fun i hi => h i (by omega))
  ·intro e
   refine h m (by omega) ?_
   rw [Bool.and_eq_true, beq_iff_eq, beq_iff_eq] at e
   exact Prod.ext e.1 e.2
theorem found_at {wn hn : Nat} {a d : Int} (w1 : 1 ≤ wn) (w5 : wn ≤ 5) (h1 : 1 ≤ hn) (h5 : hn ≤ 5) (k : Nat) (hk : rayAt wn hn k = (a, d)) : ∀ m : Nat, k < m → m ≤ 2 * (wn + hn) → foundTo wn hn a d m = k
 | 0, h, _ => by omega
 | m + 1, h, hm => by
  rw [foundTo]
  by_cases e : m = k
  ·subst e
   rw [if_pos (by rw [hk]; simp)]
  ·rw [if_neg ?_]
   ·exact found_at w1 w5 h1 h5 k hk m (by omega) (by omega)
   ·intro c
    rw [Bool.and_eq_true, beq_iff_eq, beq_iff_eq] at c
    have := ray_inj (w := wn) (hi := hn) (by omega) (by omega) (by omega) (by omega) (m : Int) (k : Int) (by omega) (by omega) (by omega) (by omega) (by rw [hk]; exact Prod.ext c.1 c.2)
    omega
theorem back_eq (d : Int) (d0 : 0 ≤ d) (d3 : d ≤ 3) : spec_l2Back.f d = some ((d + 2) % 4) := by
 unfold spec_l2Back.f
 rw [w64 (x := d + 2) (by omega) (by omega), Int.tmod_eq_emod_of_nonneg (by omega)]
theorem rayAt_dir (w h m : Int) : 0 ≤ (rayAt w h m).2 ∧ (rayAt w h m).2 ≤ 3 := by
 unfold rayAt
 by_cases a1 : m < w
 ·rw [if_pos a1]; exact ⟨by show (0 : Int) ≤ 2; omega, by show (2 : Int) ≤ 3; omega⟩
 rw [if_neg a1]
 by_cases a2 : m < w + h
 ·rw [if_pos a2]; exact ⟨by show (0 : Int) ≤ 3; omega, by show (3 : Int) ≤ 3; omega⟩
 rw [if_neg a2]
 by_cases a3 : m < w + h + w
 ·rw [if_pos a3]; exact ⟨by show (0 : Int) ≤ 0; omega, by show (0 : Int) ≤ 3; omega⟩
 ·rw [if_neg a3]; exact ⟨by show (0 : Int) ≤ 1; omega, by show (1 : Int) ≤ 3; omega⟩
theorem spec_of_l0 {w : Int} {xs : List (S57)} {hi : Int} (o : Ok w xs hi) (wn hn : Nat) (hw : w = (wn : Int)) (hh : hi = (hn : Int)) (a d : Int) (d0 : 0 ≤ d) (d3 : d ≤ 3) (n : Nat) : ∀ i : Nat, i + n = wn + hn + wn + hn → (∀ j : Nat, j < i → rayAt wn hn j ≠ (a, (d + 2) % 4)) →
  Ev (fun k => spec_l3Of.l0 k a d (i : Int) w xs) (foundTo wn hn a ((d + 2) % 4) (wn + hn + wn + hn)) := by
 have w1 := o.w1; have w5 := o.w5; have h1 := o.h1; have h5 := o.h5
 induction n with
 | zero =>
  intro i hin hno
  rw [found_none _ (fun j hj => hno j (by omega))]
  exact Ev.step (f := fun _ => some (-1)) (fun k => by rw [spec_l3Of.l0, spec_many o, Option.bind_some, if_neg (by omega)]) (Ev.now _)
 | succ n ih =>
  intro i hin hno
  have hr := spec_ray o (i : Int) (by omega) (by omega)
  have hdir := rayAt_dir w hi i
  by_cases hm : rayAt wn hn i = (a, (d + 2) % 4)
  ·rw [found_at (by omega) (by omega) (by omega) (by omega) i hm _ (by omega) (by omega)]
   have e1 : (rayAt w hi i).1 = a := by rw [hw, hh, hm]
   have e2 : (rayAt w hi i).2 = (d + 2) % 4 := by rw [hw, hh, hm]
   exact Ev.step (f := fun _ => some (i : Int)) (fun k => by rw [spec_l3Of.l0, spec_many o, Option.bind_some, if_pos (by omega), hr, Option.bind_some, if_pos e1, back_eq _ hdir.1 hdir.2, Option.bind_some, if_pos (by rw [e2]; omega)]) (Ev.now _)
  ·refine Ev.step (f := fun k => spec_l3Of.l0 k a d ((i + 1 : Nat) : Int) w xs) (fun k => ?_) (ih (i + 1) (by omega) (fun j hj => by
    by_cases e : j = i
    ·subst e; exact hm
    ·exact hno j (by omega)))
   rw [spec_l3Of.l0, spec_many o, Option.bind_some, if_pos (by omega), hr, Option.bind_some, w64 (x := (i : Int) + 1) (by omega) (by omega)]
   by_cases e1 : (rayAt w hi i).1 = a
   ·rw [if_pos e1, back_eq _ hdir.1 hdir.2, Option.bind_some, if_neg ?_]
    ·rfl
    ·intro e2
     apply hm
     rw [← hw, ← hh]
     exact Prod.ext e1 (by show (rayAt w hi i).2 = (d + 2) % 4; omega)
   ·rw [if_neg e1]; rfl
theorem spec_of {w : Int} {xs : List (S57)} {hi : Int} (o : Ok w xs hi) (a d : Int) (d0 : 0 ≤ d) (d3 : d ≤ 3) :
  Ev (fun k => spec_l3Of.f k w xs a d) (foundTo w.toNat hi.toNat a ((d + 2) % 4) (w.toNat + hi.toNat + w.toNat + hi.toNat)) := by
 have w1 := o.w1; have h1 := o.h1
 exact spec_of_l0 o w.toNat hi.toNat (by omega) (by omega) a d d0 d3 (w.toNat + hi.toNat + w.toNat + hi.toNat) 0 (by omega) (fun j hj => absurd hj (by omega))
def sgOf (w hi : Int) (a d : Int) : Int := foundTo w.toNat hi.toNat a ((d + 2) % 4) (w.toNat + hi.toNat + w.toNat + hi.toNat)
theorem mod_ok {w : Int} {xs : List (S57)} {hi : Int} (o : Ok w xs hi) : (xs.length : Int) % w = 0 := by rw [o.len]; exact Int.mul_emod_right _ _
/-- spec's come, in rounds enough, adds what Tr.go tells. -/
def Comes (w : Int) (xs : List (S57)) (hi : Int) (q : Nat) : Prop := ∀ (a d wt : Int) (t : Tr.Tr), Tr.Ok (xs.length : Int) (a, d) → 0 ≤ wt → wt ≤ 1000 → Tr.go w (xs.length : Int) (kdOf xs) (sgOf w hi) q a d wt = some t →
 ∀ (vs : List (S50)) (es : List (S55)), vs.length + t.1.length ≤ 900000 → es.length + t.2.length ≤ 900000 → ∃ K, ∀ k, K ≤ k → ∀ q', q ≤ q' → comeF k w xs q' a d wt vs es = some (vs ++ t.1.map vis, es ++ t.2.map fin)
theorem leave_ev {w : Int} {xs : List (S57)} {hi : Int} (o : Ok w xs hi) (q : Nat) (IH : Comes w xs hi q) (a d wt : Int) (t : Tr.Tr) (ho : Tr.Ok (xs.length : Int) (a, d)) (w0 : 0 < wt) (w1 : wt ≤ 1000) (h : Tr.lv w (xs.length : Int) (sgOf w hi) (Tr.go w (xs.length : Int) (kdOf xs) (sgOf w hi) q) a d wt = some t)
  (vs : List (S50)) (es : List (S55)) (hv : vs.length + t.1.length ≤ 900000) (he : es.length + t.2.length ≤ 900000) : ∃ K, ∀ k, K ≤ k → ∀ q', q ≤ q' → leaveF k w xs (comeF k w xs q') a d wt vs es = some (vs ++ t.1.map vis, es ++ t.2.map fin) := by
 have ha : 0 ≤ a ∧ a < (xs.length : Int) := ho.1
 have hd : 0 ≤ d ∧ d ≤ 3 := ho.2
 have hn := spec_next o a d ha.1 ha.2 hd.1 hd.2
 unfold Tr.lv at h
 rw [if_neg (by omega)] at h
 cases hx : Tr.nxt w (xs.length : Int) a d with
 | none =>
  rw [hx] at h hn
  cases h
  obtain ⟨K, hK⟩ := spec_of o a d hd.1 hd.2
  refine ⟨K, fun k hk q' hq => ?_⟩
  have h2 : spec_l3Of.f k w xs a d = some (sgOf w hi a d) := hK k hk
  unfold leaveF
  rw [if_pos (by omega), hn, Option.bind_some, if_neg (by simp), h2, Option.bind_some, endV_en]
  unfold Tr.en
  rw [if_pos w0]
  simp
 | some a' =>
  rw [hx] at h hn
  obtain ⟨K, hK⟩ := IH a' d wt t ⟨Tr.nxt_in o.w1 (mod_ok o) ha hd hx, hd⟩ (by omega) w1 h vs es hv he
  refine ⟨K, fun k hk q' hq => ?_⟩
  unfold leaveF
  rw [if_pos (by omega), hn, Option.bind_some, if_pos rfl]
  exact hK k hk q' hq
theorem half_ev {w : Int} {xs : List (S57)} {hi : Int} (o : Ok w xs hi) (q : Nat) (IH : Comes w xs hi q) (a d wt : Int) (t : Tr.Tr) (ho : Tr.Ok (xs.length : Int) (a, d)) (w0 : 0 ≤ wt) (w1 : wt ≤ 1000) (h : Tr.lv w (xs.length : Int) (sgOf w hi) (Tr.go w (xs.length : Int) (kdOf xs) (sgOf w hi) q) a d wt = some t)
  (vs : List (S50)) (es : List (S55)) (hv : vs.length + t.1.length ≤ 900000) (he : es.length + t.2.length ≤ 900000) : ∃ K, ∀ k, K ≤ k → ∀ q', q ≤ q' → halfF k w xs (comeF k w xs q') a d wt vs es = some (vs ++ t.1.map vis, es ++ t.2.map fin) := by
 by_cases hz : wt > 0
 ·obtain ⟨K, hK⟩ := leave_ev o q IH a d wt t ho hz w1 h vs es hv he
  exact ⟨K, fun k hk q' hq => by unfold halfF; rw [if_pos hz]; exact hK k hk q' hq⟩
 ·unfold Tr.lv at h
  rw [if_pos (by omega)] at h
  cases h
  exact ⟨0, fun k hk q' hq => by unfold halfF; rw [if_neg hz]; simp⟩
theorem come_ev {w : Int} {xs : List (S57)} {hi : Int} (o : Ok w xs hi) : ∀ q : Nat, Comes w xs hi q
 | 0 => fun _ _ _ _ _ _ _ h => by cases h
 | q + 1 => by
  intro a d wt t ho w0 w1 h vs es hv he
  have IH := come_ev o q
  have ha : 0 ≤ a ∧ a < (xs.length : Int) := ho.1
  have hd : 0 ≤ d ∧ d ≤ 3 := ho.2
  have hT := Tr.dirT_ok (k := kdOf xs a) hd
  rw [Tr.go] at h
  by_cases hz : wt = 0
  ·rw [if_pos hz] at h
   cases h
   refine ⟨0, fun k hk q' hq => ?_⟩
   obtain ⟨q2, rfl⟩ : ∃ q2, q' = q2 + 1 := ⟨q' - 1, by omega⟩
   rw [comeF, if_pos hz]; simp
  rw [if_neg hz] at h
  have hcond : ∀ k q2, comeF k w xs (q2 + 1) a d wt vs es = (if kdOf xs a = 1 then some (vs ++ [⟨a, d, wt⟩], endV es 1 a wt)
   else if kdOf xs a = 7 then some (vs ++ [⟨a, d, wt⟩], endV es 2 a wt)
   else if kdOf xs a = 6 then halfF k w xs (comeF k w xs q2) a d (wt / 2) (vs ++ [⟨a, d, wt⟩]) (endV es 3 a (wt - wt / 2))
   else if kdOf xs a = 4 ∨ kdOf xs a = 5 then
    (halfF k w xs (comeF k w xs q2) a d (wt / 2) (vs ++ [⟨a, d, wt⟩]) (endV es 3 a (wt - 2 * (wt / 2)))).bind fun r =>
    (spec_DirTurn.f k (kdOf xs a) d).bind fun dd => halfF k w xs (comeF k w xs q2) a dd (wt / 2) r.1 r.2
   else (spec_DirTurn.f k (kdOf xs a) d).bind fun dd => leaveF k w xs (comeF k w xs q2) a dd wt (vs ++ [⟨a, d, wt⟩]) es) := by
   intro k q2
   rw [comeF, if_neg hz, if_pos ⟨ha.1, ha.2, w0, w1, by omega, by omega⟩]
   rfl
  have hvs : vs ++ [(⟨a, d, wt⟩ : S50)] = vs ++ [vis (a, d, wt)] := rfl
  have hen : ∀ k a wt, (Tr.en k a wt).length ≤ 1 := by intro k a wt; unfold Tr.en; split <;> simp
  by_cases k1 : kdOf xs a = 1
  ·rw [if_pos k1] at h
   cases h
   refine ⟨0, fun k hk q' hq => ?_⟩
   obtain ⟨q2, rfl⟩ : ∃ q2, q' = q2 + 1 := ⟨q' - 1, by omega⟩
   rw [hcond, if_pos k1, endV_en, Tr.en, if_pos (by omega)]; rfl
  rw [if_neg k1] at h
  by_cases k7 : kdOf xs a = 7
  ·rw [if_pos k7] at h
   cases h
   refine ⟨0, fun k hk q' hq => ?_⟩
   obtain ⟨q2, rfl⟩ : ∃ q2, q' = q2 + 1 := ⟨q' - 1, by omega⟩
   rw [hcond, if_neg k1, if_pos k7, endV_en, Tr.en, if_pos (by omega)]; rfl
  rw [if_neg k7] at h
  by_cases k6 : kdOf xs a = 6
  ·rw [if_pos k6] at h
   obtain ⟨u, hu, h⟩ := Tr.bind_some h
   cases h
   simp only [List.length_cons, List.length_append] at hv he
   obtain ⟨K, hK⟩ := half_ev o q IH a d (wt / 2) u ho (by omega) (by omega) hu (vs ++ [⟨a, d, wt⟩]) (endV es 3 a (wt - wt / 2)) (by simp; omega) (by rw [endV_en]; simp; omega)
   refine ⟨K, fun k hk q' hq => ?_⟩
   obtain ⟨q2, rfl⟩ : ∃ q2, q' = q2 + 1 := ⟨q' - 1, by omega⟩
   rw [hcond, if_neg k1, if_neg k7, if_pos k6, hK k hk q2 (by omega), endV_en]
   simp [vis]
  rw [if_neg k6] at h
  obtain ⟨KT, hKT⟩ := spec_turn (kdOf xs a) d hd.1 hd.2
  by_cases k4 : kdOf xs a = 4 ∨ kdOf xs a = 5
  ·rw [if_pos k4] at h
   obtain ⟨u, hu, h⟩ := Tr.bind_some h
   obtain ⟨v, hv', h⟩ := Tr.bind_some h
   cases h
   simp only [List.length_cons, List.length_append] at hv he
   obtain ⟨K, hK⟩ := half_ev o q IH a d (wt / 2) u ho (by omega) (by omega) hu (vs ++ [⟨a, d, wt⟩]) (endV es 3 a (wt - 2 * (wt / 2))) (by simp; omega) (by rw [endV_en]; simp; omega)
   obtain ⟨K', hK'⟩ := half_ev o q IH a (Tr.dirT (kdOf xs a) d) (wt / 2) v ⟨ha, hT⟩ (by omega) (by omega) hv' ((vs ++ [⟨a, d, wt⟩]) ++ u.1.map vis) (endV es 3 a (wt - 2 * (wt / 2)) ++ u.2.map fin) (by simp; omega) (by rw [endV_en]; simp; omega)
   refine ⟨max (max K K') KT, fun k hk q' hq => ?_⟩
   obtain ⟨q2, rfl⟩ : ∃ q2, q' = q2 + 1 := ⟨q' - 1, by omega⟩
   have e3 : spec_DirTurn.f k (kdOf xs a) d = some (Tr.dirT (kdOf xs a) d) := hKT k (by omega)
   rw [hcond, if_neg k1, if_neg k7, if_neg k6, if_pos k4, hK k (by omega) q2 (by omega), Option.bind_some, e3, Option.bind_some, hK' k (by omega) q2 (by omega), endV_en]
   simp [vis]
  ·rw [if_neg k4] at h
   obtain ⟨u, hu, h⟩ := Tr.bind_some h
   cases h
   simp only [List.length_cons] at hv he
   obtain ⟨K, hK⟩ := leave_ev o q IH a (Tr.dirT (kdOf xs a) d) wt u ⟨ha, hT⟩ (by omega) (by omega) hu (vs ++ [⟨a, d, wt⟩]) es (by simp; omega) (by omega)
   refine ⟨max K KT, fun k hk q' hq => ?_⟩
   obtain ⟨q2, rfl⟩ : ∃ q2, q' = q2 + 1 := ⟨q' - 1, by omega⟩
   have e3 : spec_DirTurn.f k (kdOf xs a) d = some (Tr.dirT (kdOf xs a) d) := hKT k (by omega)
   rw [hcond, if_neg k1, if_neg k7, if_neg k6, if_neg k4, e3, Option.bind_some, hK k (by omega) q2 (by omega)]
   simp [vis]
/-- Light that leaves the grid leaves at a sight. -/
theorem exit_sight {w : Int} {xs : List (S57)} {hi : Int} (o : Ok w xs hi) (a d : Int) (ho : Tr.Ok (xs.length : Int) (a, d)) (h : Tr.nxt w (xs.length : Int) a d = none) : ∃ k : Int, 0 ≤ k ∧ k < 2 * (w + hi) ∧ rayAt w hi k = (a, (d + 2) % 4) := by
 have w1 := o.w1; have w5 := o.w5; have h1 := o.h1; have h5 := o.h5; have len := o.len
 have ha : 0 ≤ a ∧ a < (xs.length : Int) := ho.1
 have hd : 0 ≤ d ∧ d ≤ 3 := ho.2
 have hc : w = 1 ∨ w = 2 ∨ w = 3 ∨ w = 4 ∨ w = 5 := by omega
 have c : d = 0 ∨ d = 1 ∨ d = 2 ∨ d = 3 := by omega
 unfold Tr.nxt at h
 rcases c with rfl | rfl | rfl | rfl
 ·simp at h
  refine ⟨a, by omega, by omega, ?_⟩
  unfold rayAt; rw [if_pos (by omega)]; rfl
 ·simp at h
  refine ⟨w + a / w, by rcases hc with rfl | rfl | rfl | rfl | rfl <;> omega, by rcases hc with rfl | rfl | rfl | rfl | rfl <;> omega, ?_⟩
  unfold rayAt
  rw [if_neg (by rcases hc with rfl | rfl | rfl | rfl | rfl <;> omega), if_pos (by rcases hc with rfl | rfl | rfl | rfl | rfl <;> omega)]
  refine Prod.ext ?_ rfl
  show (w + a / w - w) * w + w - 1 = a
  rcases hc with rfl | rfl | rfl | rfl | rfl <;> omega
 ·simp at h
  refine ⟨w + hi + ((xs.length : Int) - 1 - a), by omega, by omega, ?_⟩
  unfold rayAt
  rw [if_neg (by omega), if_neg (by omega), if_pos (by omega)]
  refine Prod.ext ?_ rfl
  show hi * w - 1 - (w + hi + ((xs.length : Int) - 1 - a) - w - hi) = a
  rcases hc with rfl | rfl | rfl | rfl | rfl <;> omega
 ·simp at h
  refine ⟨w + hi + w + (hi - 1 - a / w), by rcases hc with rfl | rfl | rfl | rfl | rfl <;> omega, by rcases hc with rfl | rfl | rfl | rfl | rfl <;> omega, ?_⟩
  unfold rayAt
  rw [if_neg (by rcases hc with rfl | rfl | rfl | rfl | rfl <;> omega), if_neg (by rcases hc with rfl | rfl | rfl | rfl | rfl <;> omega), if_neg (by rcases hc with rfl | rfl | rfl | rfl | rfl <;> omega)]
  refine Prod.ext ?_ rfl
  show (hi - 1 - (w + hi + w + (hi - 1 - a / w) - w - hi - w)) * w = a
  rcases hc with rfl | rfl | rfl | rfl | rfl <;> omega
theorem sg_at {w : Int} {xs : List (S57)} {hi : Int} (o : Ok w xs hi) (a d k : Int) (k0 : 0 ≤ k) (k1 : k < 2 * (w + hi)) (h : rayAt w hi k = (a, (d + 2) % 4)) : sgOf w hi a d = k := by
 have w1 := o.w1; have w5 := o.w5; have h1 := o.h1; have h5 := o.h5
 unfold sgOf
 have e := found_at (wn := w.toNat) (hn := hi.toNat) (a := a) (d := (d + 2) % 4) (by omega) (by omega) (by omega) (by omega) k.toNat (by rw [show ((w.toNat : Nat) : Int) = w from by omega, show ((hi.toNat : Nat) : Int) = hi from by omega, show ((k.toNat : Nat) : Int) = k from by omega]; exact h) (w.toNat + hi.toNat + w.toNat + hi.toNat) (by omega) (by omega)
 rw [e]; omega
theorem impl_turn (kd d : Int) (d0 : 0 ≤ d) (d3 : d ≤ 3) : impl_DirTurn.f kd d = some (Tr.dirT kd d) := by
 unfold impl_DirTurn.f dirV Tr.dirT
 rw [if_neg (by omega)]
theorem impl_next {w : Int} {xs : List (S57)} {hi : Int} (o : Ok w xs hi) (a d : Int) (a0 : 0 ≤ a) (a1 : a < (xs.length : Int)) (d0 : 0 ≤ d) (d3 : d ≤ 3) :
  impl_rayStep.f w xs a d = some (match Tr.nxt w (xs.length : Int) a d with | some a' => (a', d, true) | none => (0, 0, false)) := by
 have w1 := o.w1; have w5 := o.w5; have h1 := o.h1; have h5 := o.h5; have len := o.len
 have hl : (xs.length : Int) ≤ 25 := by
  have hc : w = 1 ∨ w = 2 ∨ w = 3 ∨ w = 4 ∨ w = 5 := by omega
  rcases hc with rfl | rfl | rfl | rfl | rfl <;> omega
 have c : d = 0 ∨ d = 1 ∨ d = 2 ∨ d = 3 := by omega
 unfold impl_rayStep.f Tr.nxt
 rw [if_pos ⟨w1, by omega, by omega, a0, by omega⟩]
 rcases c with rfl | rfl | rfl | rfl
 ·by_cases h : w ≤ a <;> simp [h]
 ·by_cases h : a % w = w - 1 <;> simp [h]
 ·by_cases h : a + w < (xs.length : Int) <;> simp [h]
 ·by_cases h : a % w = 0 <;> simp [h]
theorem ok_gok {w : Int} {xs : List (S57)} {hi : Int} (o : Ok w xs hi) : gok w xs = true := by
 have w1 := o.w1; have w5 := o.w5; have h1 := o.h1; have h5 := o.h5; have len := o.len
 have hc : w = 1 ∨ w = 2 ∨ w = 3 ∨ w = 4 ∨ w = 5 := by omega
 unfold gok
 rw [Bool.and_eq_true, decide_eq_true_eq]
 refine ⟨⟨w1, w5, ?_, ?_, mod_ok o⟩, ?_⟩
 ·rcases hc with rfl | rfl | rfl | rfl | rfl <;> omega
 ·rcases hc with rfl | rfl | rfl | rfl | rfl <;> omega
 ·unfold allok; exact List.all_eq_true.2 fun c hc => (ctOk_iff _ _).2 (o.all c hc)
theorem impl_of {w : Int} {xs : List (S57)} {hi : Int} (o : Ok w xs hi) (a d : Int) (d0 : 0 ≤ d) (d3 : d ≤ 3) : Ev (fun k => impl_SightOf.f k w xs a d) (sgOf w hi a d) := by
 have w1 := o.w1; have w5 := o.w5; have h1 := o.h1; have h5 := o.h5; have len := o.len
 have hl : (xs.length : Int) ≤ 25 := by
  have hc : w = 1 ∨ w = 2 ∨ w = 3 ∨ w = 4 ∨ w = 5 := by omega
  rcases hc with rfl | rfl | rfl | rfl | rfl <;> omega
 have hg := impl_ok w xs (by unfold maxLen; omega)
 rw [ok_gok o] at hg
 refine Ev.bind hg (Ev.congr (f := fun _ => some (sgOf w hi a d)) (fun k => ?_) (Ev.now _))
 rw [if_pos ⟨rfl, d0, d3, w1, w5, by rw [o.div]; exact h1, by rw [o.div]; exact h5, by omega⟩, o.div]
 rfl
def beamT (w hi : Int) (n : Int) (a d wt : Int) : Beam := match Tr.nxt w n a d with | some a' => (a', d, wt, -1) | none => (0, 0, wt, sgOf w hi a d)
theorem beam_ev {w : Int} {xs : List (S57)} {hi : Int} (o : Ok w xs hi) (a d wt : Int) (ho : Tr.Ok (xs.length : Int) (a, d)) : Ev (fun k => impl_beamFrom.f k w xs a d wt) (beamT w hi (xs.length : Int) a d wt) := by
 have ha : 0 ≤ a ∧ a < (xs.length : Int) := ho.1
 have hd : 0 ≤ d ∧ d ≤ 3 := ho.2
 have hn := impl_next o a d ha.1 ha.2 hd.1 hd.2
 unfold beamT
 cases hx : Tr.nxt w (xs.length : Int) a d with
 | none =>
  rw [hx] at hn
  refine Ev.congr (f := fun k => (impl_SightOf.f k w xs a d).bind fun t => some (0, 0, wt, t)) (fun k => by unfold impl_beamFrom.f; rw [hn]; rfl) ?_
  exact Ev.bind (impl_of o a d hd.1 hd.2) (Ev.now _)
 | some a' =>
  rw [hx] at hn
  exact Ev.congr (f := fun _ => some (a', d, wt, -1)) (fun k => by unfold impl_beamFrom.f; rw [hn]; rfl) (Ev.now _)
theorem top_app (st : List Beam) (b : Beam) : topOf (st ++ [b]) = b := by
 unfold topOf List.getD
 rw [List.length_append, List.length_singleton, Nat.add_sub_cancel, List.getElem?_append_right (Nat.le_refl _), Nat.sub_self]
 rfl
theorem pop_app (st : List Beam) (b : Beam) : (st ++ [b]).take ((st ++ [b]).length - 1) = st := by
 rw [List.length_append, List.length_singleton, Nat.add_sub_cancel, List.take_left]
theorem pop_app' (st : List Beam) (b : Beam) : (st ++ [b]).length ≠ 0 := by simp
/-- One round, at a light that is spent. -/
theorem l0_zero (k : Nat) (w : Int) (xs : List (S57)) (q : Nat) (st : List Beam) (x y z : Int) (vs : List (S50)) (es : List (S55)) (h1 : st.length ≤ 900000) (h2 : vs.length ≤ 900000) (h3 : es.length ≤ 900000) :
  impl_trailOf.l0 k w xs (q + 1) (st ++ [(x, y, 0, z)]) vs es = impl_trailOf.l0 k w xs q st vs es := by
 rw [impl_trailOf.l0, if_neg (pop_app' _ _), if_pos ⟨by simp; omega, by omega, by omega⟩, top_app, pop_app, if_pos rfl]
theorem l0_out (k : Nat) (w : Int) (xs : List (S57)) (q : Nat) (st : List Beam) (x y wt s : Int) (hw : wt ≠ 0) (hs : 0 ≤ s) (vs : List (S50)) (es : List (S55)) (h1 : st.length ≤ 900000) (h2 : vs.length ≤ 900000) (h3 : es.length ≤ 900000) :
  impl_trailOf.l0 k w xs (q + 1) (st ++ [(x, y, wt, s)]) vs es = impl_trailOf.l0 k w xs q st vs (endV es 0 s wt) := by
 rw [impl_trailOf.l0, if_neg (pop_app' _ _), if_pos ⟨by simp; omega, by omega, by omega⟩, top_app, pop_app, if_neg hw, if_pos hs]
theorem l0_in (k : Nat) (w : Int) (xs : List (S57)) (q : Nat) (st : List Beam) (a d wt : Int) (hw : wt ≠ 0) (a0 : 0 ≤ a) (a1 : a < (xs.length : Int)) (vs : List (S50)) (es : List (S55)) (h1 : st.length ≤ 900000) (h2 : vs.length ≤ 900000) (h3 : es.length ≤ 900000)
  (s : Int × Int × Int × Int) (dd : Int) (b1 b2 : Beam) (hsp : impl_spreadOf.f (kdOf xs a) wt = some s) (hdd : impl_DirTurn.f (kdOf xs a) d = some dd) (hb1 : impl_beamFrom.f k w xs a dd s.2.1 = some b1) (hb2 : impl_beamFrom.f k w xs a d s.1 = some b2) :
  impl_trailOf.l0 k w xs (q + 1) (st ++ [(a, d, wt, -1)]) vs es = impl_trailOf.l0 k w xs q (st ++ [b1] ++ [b2]) (vs ++ [⟨a, d, wt⟩]) (endV (endV es (if kdOf xs a = 7 then 2 else 1) a s.2.2.2) 3 a s.2.2.1) := by
 have e1 : impl_spreadOf.f (rd_T57 xs a).f0 wt = some s := hsp
 have e2 : impl_DirTurn.f (rd_T57 xs a).f0 d = some dd := hdd
 rw [impl_trailOf.l0, if_neg (pop_app' _ _), if_pos ⟨by simp; omega, by omega, by omega⟩, top_app, pop_app, if_neg hw, if_neg (by show ¬ ((-1 : Int) ≥ 0); omega), if_pos ⟨a0, a1⟩]
 simp only [e1, e2, hb1, hb2, Option.bind_some, List.append_assoc, List.cons_append, List.nil_append]
 rfl
def Runs (w : Int) (xs : List (S57)) (b : Beam) (t : Tr.Tr) : Prop := ∃ K s : Nat, ∀ k, K ≤ k → ∀ (q' : Nat) (st : List Beam) (vs : List (S50)) (es : List (S55)), st.length + t.1.length ≤ 800000 → vs.length + t.1.length ≤ 800000 → es.length + t.2.length ≤ 800000 →
 impl_trailOf.l0 k w xs (q' + s) (st ++ [b]) vs es = impl_trailOf.l0 k w xs q' st (vs ++ t.1.map vis) (es ++ t.2.map fin)
theorem beam_runs {w : Int} {xs : List (S57)} {hi : Int} (o : Ok w xs hi) (q : Nat) (IH : ∀ a d wt t, Tr.Ok (xs.length : Int) (a, d) → 0 < wt → wt ≤ 1000 → Tr.go w (xs.length : Int) (kdOf xs) (sgOf w hi) q a d wt = some t → Runs w xs (a, d, wt, -1) t)
  (a d wt : Int) (t : Tr.Tr) (ho : Tr.Ok (xs.length : Int) (a, d)) (w0 : 0 ≤ wt) (w1 : wt ≤ 1000) (h : Tr.lv w (xs.length : Int) (sgOf w hi) (Tr.go w (xs.length : Int) (kdOf xs) (sgOf w hi) q) a d wt = some t) : Runs w xs (beamT w hi (xs.length : Int) a d wt) t := by
 have ha : 0 ≤ a ∧ a < (xs.length : Int) := ho.1
 have hd : 0 ≤ d ∧ d ≤ 3 := ho.2
 unfold Tr.lv at h
 by_cases hz : wt = 0
 ·rw [if_pos hz] at h
  cases h
  subst hz
  refine ⟨0, 1, fun k _ q' st vs es h1 h2 h3 => ?_⟩
  simp only [List.length_nil, Nat.add_zero] at h1 h2 h3
  have : ∃ x y z, beamT w hi (xs.length : Int) a d 0 = (x, y, 0, z) := by
   unfold beamT; split <;> exact ⟨_, _, _, rfl⟩
  obtain ⟨x, y, z, e⟩ := this
  rw [e, l0_zero k w xs q' st x y z vs es (by omega) (by omega) (by omega)]
  simp
 ·rw [if_neg hz] at h
  unfold beamT
  cases hx : Tr.nxt w (xs.length : Int) a d with
  | none =>
   rw [hx] at h
   cases h
   obtain ⟨kk, k0, k1, hk⟩ := exit_sight o a d ho hx
   have hs := sg_at o a d kk k0 k1 hk
   refine ⟨0, 1, fun k _ q' st vs es h1 h2 h3 => ?_⟩
   simp only [List.length_nil, List.length_cons, Nat.add_zero] at h1 h2 h3
   show impl_trailOf.l0 k w xs (q' + 1) (st ++ [(0, 0, wt, sgOf w hi a d)]) vs es = _
   rw [l0_out k w xs q' st 0 0 wt (sgOf w hi a d) hz (by omega) vs es (by omega) (by omega) (by omega), endV_en, Tr.en, if_pos (by omega)]
   simp
  | some a' =>
   rw [hx] at h
   exact IH a' d wt t ⟨Tr.nxt_in o.w1 (mod_ok o) ha hd hx, hd⟩ (by omega) w1 h
theorem in_runs {w : Int} {xs : List (S57)} {hi : Int} (o : Ok w xs hi) (a d wt : Int) (ho : Tr.Ok (xs.length : Int) (a, d)) (hz : wt ≠ 0) (s : Int × Int × Int × Int) (hsp : impl_spreadOf.f (kdOf xs a) wt = some s) (u v : Tr.Tr)
  (hu : Runs w xs (beamT w hi (xs.length : Int) a d s.1) u) (hv : Runs w xs (beamT w hi (xs.length : Int) a (Tr.dirT (kdOf xs a) d) s.2.1) v) :
  Runs w xs (a, d, wt, -1) ((a, d, wt) :: (u.1 ++ v.1), (Tr.en (if kdOf xs a = 7 then 2 else 1) a s.2.2.2 ++ Tr.en 3 a s.2.2.1) ++ (u.2 ++ v.2)) := by
 have ha : 0 ≤ a ∧ a < (xs.length : Int) := ho.1
 have hd : 0 ≤ d ∧ d ≤ 3 := ho.2
 have hT := Tr.dirT_ok (k := kdOf xs a) hd
 obtain ⟨K1, s1, h1⟩ := hu
 obtain ⟨K2, s2, h2⟩ := hv
 obtain ⟨K3, h3⟩ := beam_ev o a (Tr.dirT (kdOf xs a) d) s.2.1 ⟨ha, hT⟩
 obtain ⟨K4, h4⟩ := beam_ev o a d s.1 ho
 refine ⟨max (max K1 K2) (max K3 K4), s2 + s1 + 1, fun k hk q' st vs es g1 g2 g3 => ?_⟩
 simp only [List.length_cons, List.length_append] at g1 g2 g3
 have e := l0_in k w xs (q' + (s2 + s1)) st a d wt hz ha.1 ha.2 vs es (by omega) (by omega) (by omega) s _ _ _ hsp (impl_turn (kdOf xs a) d hd.1 hd.2) (h3 k (by omega)) (h4 k (by omega))
 rw [show q' + (s2 + s1 + 1) = q' + (s2 + s1) + 1 from by omega, e, show q' + (s2 + s1) = (q' + s2) + s1 from by omega, endV_en, endV_en]
 rw [h1 k (by omega) (q' + s2) (st ++ [beamT w hi (xs.length : Int) a (Tr.dirT (kdOf xs a) d) s.2.1]) _ _ (by simp; omega) (by simp; omega) (by simp; omega)]
 rw [h2 k (by omega) q' st _ _ (by omega) (by simp; omega) (by simp; omega)]
 simp [vis]
theorem kd_range {w : Int} {xs : List (S57)} {hi : Int} (o : Ok w xs hi) (a : Int) (a0 : 0 ≤ a) (a1 : a < (xs.length : Int)) : 0 ≤ kdOf xs a ∧ kdOf xs a ≤ 7 := by
 obtain ⟨i, rfl⟩ : ∃ i : Nat, a = (i : Int) := ⟨a.toNat, by omega⟩
 have hi' : i < xs.length := by omega
 unfold kdOf
 rw [rdT hi']
 have := o.all xs[i] (List.getElem_mem _)
 unfold okc at this
 omega
theorem spread_eq (kd x : Int) (k0 : 0 ≤ kd) (k7 : kd ≤ 7) (x0 : 0 ≤ x) (x1 : x ≤ 1000) : impl_spreadOf.f kd x = some (spreadV kd x) := by
 unfold impl_spreadOf.f; rw [if_pos ⟨k0, k7, x0, x1⟩]
theorem runs {w : Int} {xs : List (S57)} {hi : Int} (o : Ok w xs hi) : ∀ (q : Nat) (a d wt : Int) (t : Tr.Tr), Tr.Ok (xs.length : Int) (a, d) → 0 < wt → wt ≤ 1000 → Tr.go w (xs.length : Int) (kdOf xs) (sgOf w hi) q a d wt = some t → Runs w xs (a, d, wt, -1) t
 | 0, _, _, _, _, _, _, _, h => by cases h
 | q + 1, a, d, wt, t, ho, w0, w1, h => by
  have IH := runs o q
  have ha : 0 ≤ a ∧ a < (xs.length : Int) := ho.1
  have hd : 0 ≤ d ∧ d ≤ 3 := ho.2
  have hT := Tr.dirT_ok (k := kdOf xs a) hd
  have hr := kd_range o a ha.1 ha.2
  have hsp := spread_eq (kdOf xs a) wt hr.1 hr.2 (by omega) w1
  have zero : ∀ d, 0 ≤ d ∧ d ≤ 3 → Runs w xs (beamT w hi (xs.length : Int) a d 0) ([], []) := fun d hd => beam_runs o q IH a d 0 ([], []) ⟨ha, hd⟩ (by omega) (by omega) (by unfold Tr.lv; rw [if_pos rfl])
  have e0 : ∀ k, Tr.en k a 0 = [] := fun k => by unfold Tr.en; rw [if_neg (by omega)]
  have ew : ∀ k, Tr.en k a wt = [(k, a, wt)] := fun k => by unfold Tr.en; rw [if_pos w0]
  rw [Tr.go, if_neg (by omega)] at h
  by_cases k1 : kdOf xs a = 1
  ·rw [if_pos k1] at h
   cases h
   rw [show spreadV (kdOf xs a) wt = (0, 0, 0, wt) from by rw [k1]; rfl] at hsp
   have := in_runs o a d wt ho (by omega) _ hsp ([], []) ([], []) (zero d hd) (zero _ hT)
   simpa [k1, e0, ew] using this
  rw [if_neg k1] at h
  by_cases k7 : kdOf xs a = 7
  ·rw [if_pos k7] at h
   cases h
   rw [show spreadV (kdOf xs a) wt = (0, 0, 0, wt) from by rw [k7]; rfl] at hsp
   have := in_runs o a d wt ho (by omega) _ hsp ([], []) ([], []) (zero d hd) (zero _ hT)
   simpa [k7, e0, ew] using this
  rw [if_neg k7] at h
  by_cases k6 : kdOf xs a = 6
  ·rw [if_pos k6] at h
   obtain ⟨u, hu, h⟩ := Tr.bind_some h
   cases h
   rw [show spreadV (kdOf xs a) wt = (wt / 2, 0, wt - wt / 2, 0) from by rw [k6]; rfl] at hsp
   have := in_runs o a d wt ho (by omega) _ hsp u ([], []) (beam_runs o q IH a d (wt / 2) u ho (by omega) (by omega) hu) (zero _ hT)
   simpa [k6, e0] using this
  rw [if_neg k6] at h
  by_cases k4 : kdOf xs a = 4 ∨ kdOf xs a = 5
  ·rw [if_pos k4] at h
   obtain ⟨u, hu, h⟩ := Tr.bind_some h
   obtain ⟨v, hv, h⟩ := Tr.bind_some h
   cases h
   rw [show spreadV (kdOf xs a) wt = (wt / 2, wt / 2, wt - 2 * (wt / 2), 0) from by
    rw [show wt - 2 * (wt / 2) = wt - wt / 2 - wt / 2 from by omega]
    rcases k4 with e | e <;> rw [e] <;> rfl] at hsp
   have := in_runs o a d wt ho (by omega) _ hsp u v (beam_runs o q IH a d (wt / 2) u ho (by omega) (by omega) hu) (beam_runs o q IH a _ (wt / 2) v ⟨ha, hT⟩ (by omega) (by omega) hv)
   simpa [k7, e0] using this
  ·rw [if_neg k4] at h
   obtain ⟨u, hu, h⟩ := Tr.bind_some h
   cases h
   by_cases k0 : kdOf xs a = 0
   ·rw [show spreadV (kdOf xs a) wt = (wt, 0, 0, 0) from by rw [k0]; rfl] at hsp
    rw [show Tr.dirT (kdOf xs a) d = d from by rw [k0]; rfl] at hu
    have := in_runs o a d wt ho (by omega) _ hsp u ([], []) (beam_runs o q IH a d wt u ho (by omega) (by omega) hu) (zero _ hT)
    simpa [k7, e0] using this
   ·have k23 : kdOf xs a = 2 ∨ kdOf xs a = 3 := by omega
    rw [show spreadV (kdOf xs a) wt = (0, wt, 0, 0) from by rcases k23 with e | e <;> rw [e] <;> rfl] at hsp
    have := in_runs o a d wt ho (by omega) _ hsp ([], []) u (zero d hd) (beam_runs o q IH a _ wt u ⟨ha, hT⟩ (by omega) (by omega) hu)
    simpa [k7, e0] using this
/-- Nothing in the grid leads to the ray of a sight. -/
theorem ray_fresh {w : Int} {xs : List (S57)} {hi : Int} (o : Ok w xs hi) (k : Int) (k0 : 0 ≤ k) (k1 : k < 2 * (w + hi)) : Tr.Ok (xs.length : Int) (rayAt w hi k) ∧ Tr.Fresh w (xs.length : Int) (kdOf xs) (rayAt w hi k) := by
 have w1 := o.w1; have w5 := o.w5; have h1 := o.h1; have h5 := o.h5; have len := o.len
 have hc : w = 1 ∨ w = 2 ∨ w = 3 ∨ w = 4 ∨ w = 5 := by omega
 unfold rayAt
 by_cases g1 : k < w
 ·rw [if_pos g1]
  refine ⟨⟨⟨k0, ?_⟩, ⟨by show (0 : Int) ≤ 2; omega, by show (2 : Int) ≤ 3; omega⟩⟩, ?_⟩
  ·show k < (xs.length : Int); rcases hc with rfl | rfl | rfl | rfl | rfl <;> omega
  ·rintro ⟨p1, p2⟩ hp ⟨_, _, hx⟩
   have hp1 : 0 ≤ p1 ∧ p1 < (xs.length : Int) := hp.1
   have hx : Tr.nxt w (xs.length : Int) p1 2 = some k := hx
   simp [Tr.nxt] at hx
   omega
 rw [if_neg g1]
 by_cases g2 : k < w + hi
 ·rw [if_pos g2]
  refine ⟨⟨⟨?_, ?_⟩, ⟨by show (0 : Int) ≤ 3; omega, by show (3 : Int) ≤ 3; omega⟩⟩, ?_⟩
  ·show 0 ≤ (k - w) * w + w - 1; rcases hc with rfl | rfl | rfl | rfl | rfl <;> omega
  ·show (k - w) * w + w - 1 < (xs.length : Int); rcases hc with rfl | rfl | rfl | rfl | rfl <;> omega
  ·rintro ⟨p1, p2⟩ hp ⟨_, _, hx⟩
   have hx : Tr.nxt w (xs.length : Int) p1 3 = some ((k - w) * w + w - 1) := hx
   simp [Tr.nxt] at hx
   rcases hc with rfl | rfl | rfl | rfl | rfl <;> omega
 rw [if_neg g2]
 by_cases g3 : k < w + hi + w
 ·rw [if_pos g3]
  refine ⟨⟨⟨?_, ?_⟩, ⟨by show (0 : Int) ≤ 0; omega, by show (0 : Int) ≤ 3; omega⟩⟩, ?_⟩
  ·show 0 ≤ hi * w - 1 - (k - w - hi); rcases hc with rfl | rfl | rfl | rfl | rfl <;> omega
  ·show hi * w - 1 - (k - w - hi) < (xs.length : Int); rcases hc with rfl | rfl | rfl | rfl | rfl <;> omega
  ·rintro ⟨p1, p2⟩ hp ⟨_, _, hx⟩
   have hp1 : 0 ≤ p1 ∧ p1 < (xs.length : Int) := hp.1
   have hx : Tr.nxt w (xs.length : Int) p1 0 = some (hi * w - 1 - (k - w - hi)) := hx
   simp [Tr.nxt] at hx
   rcases hc with rfl | rfl | rfl | rfl | rfl <;> omega
 ·rw [if_neg g3]
  refine ⟨⟨⟨?_, ?_⟩, ⟨by show (0 : Int) ≤ 1; omega, by show (1 : Int) ≤ 3; omega⟩⟩, ?_⟩
  ·show 0 ≤ (hi - 1 - (k - w - hi - w)) * w; rcases hc with rfl | rfl | rfl | rfl | rfl <;> omega
  ·show (hi - 1 - (k - w - hi - w)) * w < (xs.length : Int); rcases hc with rfl | rfl | rfl | rfl | rfl <;> omega
  ·rintro ⟨p1, p2⟩ hp ⟨_, _, hx⟩
   have hp1 : 0 ≤ p1 ∧ p1 < (xs.length : Int) := hp.1
   have hx : Tr.nxt w (xs.length : Int) p1 1 = some ((hi - 1 - (k - w - hi - w)) * w) := hx
   simp [Tr.nxt] at hx
   rcases hc with rfl | rfl | rfl | rfl | rfl <;> omega
theorem trail_ex {w : Int} {xs : List (S57)} {hi : Int} (o : Ok w xs hi) (k : Int) (k0 : 0 ≤ k) (k1 : k < 2 * (w + hi)) :
  ∃ q t, Tr.go w (xs.length : Int) (kdOf xs) (sgOf w hi) q (rayAt w hi k).1 (rayAt w hi k).2 64 = some t ∧ t.1.length ≤ 20000 ∧ t.2.length ≤ 60000 := by
 have w1 := o.w1; have w5 := o.w5; have h1 := o.h1; have h5 := o.h5; have len := o.len
 have hl : xs.length ≤ 25 := by
  have hc : w = 1 ∨ w = 2 ∨ w = 3 ∨ w = 4 ∨ w = 5 := by omega
  rcases hc with rfl | rfl | rfl | rfl | rfl <;> omega
 obtain ⟨hok, hf⟩ := ray_fresh o k k0 k1
 obtain ⟨q, t, hq, hb⟩ := Tr.ex (sg := sgOf w hi) w1 (mod_ok o) (N := xs.length) rfl 64 (by omega) (4 * xs.length) (rayAt w hi k) [] (Tr.Inv.start hok hf) (by simp)
 have he := Tr.ends_le q _ _ _ _ hq
 exact ⟨q, t, hq, by omega, by omega⟩
theorem impl_ray {w : Int} {xs : List (S57)} {hi : Int} (o : Ok w xs hi) (k : Int) (k0 : 0 ≤ k) (k1 : k < 2 * (w + hi)) : Ev (fun r => impl_SightRay.f r w xs k) ((rayAt w hi k).1, (rayAt w hi k).2, true) := by
 have w1 := o.w1; have w5 := o.w5; have h1 := o.h1; have h5 := o.h5; have len := o.len
 have hl : xs.length ≤ 25 := by
  have hc : w = 1 ∨ w = 2 ∨ w = 3 ∨ w = 4 ∨ w = 5 := by omega
  rcases hc with rfl | rfl | rfl | rfl | rfl <;> omega
 have hm := impl_many w xs (by unfold maxLen; omega)
 rw [ok_gok o, if_pos rfl, o.div] at hm
 refine Ev.congr (f := fun r => (impl_SightMany.f r w xs).bind fun m => if k ≥ m then some (0, 0, false) else if 1 ≤ w ∧ w ≤ 5 ∧ 1 ≤ (xs.length : Int) / w ∧ (xs.length : Int) / w ≤ 5 ∧ xs.length ≤ 25 ∧ k < 2 * (w + (xs.length : Int) / w) then some ((rayAt w ((xs.length : Int) / w) k).1, (rayAt w ((xs.length : Int) / w) k).2, true) else none) (fun r => by unfold impl_SightRay.f; rw [if_neg (by omega)]) ?_
 refine Ev.bind hm (Ev.congr (f := fun _ => some ((rayAt w hi k).1, (rayAt w hi k).2, true)) (fun r => ?_) (Ev.now _))
 rw [if_neg (by omega), o.div, if_pos ⟨w1, w5, h1, h5, hl, k1⟩]
theorem impl_trail {w : Int} {xs : List (S57)} {hi : Int} (o : Ok w xs hi) (k : Int) (k0 : 0 ≤ k) (k1 : k < 2 * (w + hi)) (q : Nat) (t : Tr.Tr) (hq : Tr.go w (xs.length : Int) (kdOf xs) (sgOf w hi) q (rayAt w hi k).1 (rayAt w hi k).2 64 = some t) (h1 : t.1.length ≤ 20000) (h2 : t.2.length ≤ 60000) :
  Ev (fun r => impl_trailOf.f r w xs k) (t.1.map vis, t.2.map fin) := by
 obtain ⟨hok, hf⟩ := ray_fresh o k k0 k1
 obtain ⟨K, s, hR⟩ := runs o q _ _ 64 t hok (by omega) (by omega) hq
 refine Ev.bind (impl_ray o k k0 k1) ⟨max K (s + 1), fun r hr => ?_⟩
 show (if true = true then impl_trailOf.l0 r w xs r [((rayAt w hi k).1, (rayAt w hi k).2, 64, -1)] [] [] else some ([], [])) = _
 rw [if_pos rfl]
 have e := hR r (by omega) (r - s) [] [] [] (by simp; omega) (by simp; omega) (by simp; omega)
 rw [show r - s + s = r from by omega] at e
 refine e.trans ?_
 obtain ⟨q2, hq2⟩ : ∃ q2, r - s = q2 + 1 := ⟨r - s - 1, by omega⟩
 rw [hq2, impl_trailOf.l0, if_pos (by simp)]
 simp
theorem spec_is {w : Int} {xs : List (S57)} (hx : xs.length ≤ maxLen) (k : Int) : Ev (fun r => spec_l11Is.f r w xs k) (gok w xs && decide (0 ≤ k ∧ k ≤ 2 * (w + (xs.length : Int) / w) - 1)) := by
 refine Ev.bind (spec_ok w xs hx) ?_
 by_cases h : gok w xs = true
 ·obtain ⟨hi, o⟩ := ok_of h
  have w1 := o.w1; have w5 := o.w5; have h1 := o.h1; have h5 := o.h5
  rw [h]
  refine Ev.congr (f := fun _ => some (decide (0 ≤ k ∧ k ≤ 2 * (w + hi) - 1))) (fun r => ?_) (by rw [o.div, Bool.true_and]; exact Ev.now _)
  rw [if_pos rfl, spec_many o, Option.bind_some, w64 (by omega) (by omega), l6In_eq, Option.bind_some]
 ·have h : gok w xs = false := by simpa using h
  rw [h]
  exact Ev.congr (f := fun _ => some false) (fun r => by rw [if_neg (by simp)]) (by rw [Bool.false_and]; exact Ev.now _)
theorem impl_trail_no {w : Int} {xs : List (S57)} (hx : xs.length ≤ maxLen) (k : Int) (h : ¬(gok w xs = true ∧ 0 ≤ k ∧ k < 2 * (w + (xs.length : Int) / w))) : Ev (fun r => impl_trailOf.f r w xs k) ([], []) := by
 have hs : Ev (fun r => impl_SightRay.f r w xs k) (0, 0, false) := by
  by_cases hk : k < 0
  ·exact Ev.congr (f := fun _ => some (0, 0, false)) (fun r => by unfold impl_SightRay.f; rw [if_pos hk]) (Ev.now _)
  ·refine Ev.congr (f := fun r => (impl_SightMany.f r w xs).bind fun m => if k ≥ m then some (0, 0, false) else if 1 ≤ w ∧ w ≤ 5 ∧ 1 ≤ (xs.length : Int) / w ∧ (xs.length : Int) / w ≤ 5 ∧ xs.length ≤ 25 ∧ k < 2 * (w + (xs.length : Int) / w) then some ((rayAt w ((xs.length : Int) / w) k).1, (rayAt w ((xs.length : Int) / w) k).2, true) else none) (fun r => by unfold impl_SightRay.f; rw [if_neg hk]) ?_
   refine Ev.bind (impl_many w xs hx) (Ev.congr (f := fun _ => some (0, 0, false)) (fun r => ?_) (Ev.now _))
   by_cases g : gok w xs = true
   ·rw [if_pos g, if_pos (by by_cases c : k < 2 * (w + (xs.length : Int) / w); exact absurd ⟨g, by omega, c⟩ h; omega)]
   ·rw [if_neg g, if_pos (by omega)]
 exact Ev.bind hs (Ev.now _)
theorem spec_ends {w : Int} {xs : List (S57)} {hi : Int} (o : Ok w xs hi) (hx : xs.length ≤ maxLen) (k : Int) (k0 : 0 ≤ k) (k1 : k < 2 * (w + hi)) (q : Nat) (t : Tr.Tr) (hq : Tr.go w (xs.length : Int) (kdOf xs) (sgOf w hi) q (rayAt w hi k).1 (rayAt w hi k).2 64 = some t) (h1 : t.1.length ≤ 20000) (h2 : t.2.length ≤ 60000) :
  Ev (fun r => spec_TrailEnds.f r w xs k) (t.2.map fin) := by
 obtain ⟨hok, hf⟩ := ray_fresh o k k0 k1
 have his := spec_is hx (w := w) k
 rw [ok_gok o, o.div, Bool.true_and, decide_eq_true (by omega)] at his
 obtain ⟨K, hK⟩ := come_ev o q _ _ 64 t hok (by omega) (by omega) hq [] [] (by simp; omega) (by simp; omega)
 refine Ev.bind his ⟨max K q, fun r hr => ?_⟩
 show (if true = true then (spec_l3Ray.f w xs k).bind fun x => (comeF r w xs r x.1 x.2 64 [] []).bind fun r => some r.2 else some []) = _
 rw [if_pos rfl, spec_ray o k k0 k1, Option.bind_some]
 refine Option.bind_eq_some_iff.2 ⟨_, hK r (by omega) r (by omega), ?_⟩
 simp
theorem spec_ends_no {w : Int} {xs : List (S57)} (hx : xs.length ≤ maxLen) (k : Int) (h : ¬(gok w xs = true ∧ 0 ≤ k ∧ k < 2 * (w + (xs.length : Int) / w))) : Ev (fun r => spec_TrailEnds.f r w xs k) [] := by
 have his := spec_is hx (w := w) k
 rw [show (gok w xs && decide (0 ≤ k ∧ k ≤ 2 * (w + (xs.length : Int) / w) - 1)) = false from by
  rw [Bool.and_eq_false_iff]
  by_cases g : gok w xs = true
  ·right; simp; intro h0; by_cases c : k < 2 * (w + (xs.length : Int) / w); exact absurd ⟨g, h0, c⟩ h; omega
  ·left; simpa using g] at his
 exact Ev.bind his (Ev.now _)
theorem rdE {es : List (S55)} {i : Nat} (h : i < es.length) : rd_T55 es (i : Int) = es[i] := by
 unfold rd_T55
 rw [Int.toNat_natCast]
 unfold List.getD
 rw [List.getElem?_eq_getElem h]; rfl
/-- Weights that are small. -/
def Wts (es : List Tr.V) : Prop := es.length ≤ 60000 ∧ ∀ e ∈ es, 0 ≤ e.2.2 ∧ e.2.2 ≤ 64
theorem rdF {es : List Tr.V} {i : Nat} (h : i < es.length) : rd_T55 (es.map fin) (i : Int) = fin es[i] := by
 rw [rdE (by rw [List.length_map]; exact h), List.getElem_map]
theorem drop_at {α : Type} {es : List α} {i : Nat} (h : i < es.length) : es.drop i = es[i] :: es.drop (i + 1) := (List.getElem_cons_drop h).symm
/-- The ends of light from a sight. -/
theorem ends_ok {w : Int} {xs : List (S57)} {hi : Int} (o : Ok w xs hi) (k : Int) (k0 : 0 ≤ k) (k1 : k < 2 * (w + hi)) (q : Nat) (t : Tr.Tr) (hq : Tr.go w (xs.length : Int) (kdOf xs) (sgOf w hi) q (rayAt w hi k).1 (rayAt w hi k).2 64 = some t) :
  (∀ e ∈ t.2, Tr.EndOk w (xs.length : Int) (kdOf xs) (sgOf w hi) t.1 64 e) ∧ (∀ v ∈ t.1, Tr.VisOk (xs.length : Int) 64 v) :=
 Tr.go_ends o.w1 (mod_ok o) q _ _ 64 t (ray_fresh o k k0 k1).1 (by decide) hq
theorem wts_of {w : Int} {xs : List (S57)} {hi : Int} (o : Ok w xs hi) (k : Int) (k0 : 0 ≤ k) (k1 : k < 2 * (w + hi)) (q : Nat) (t : Tr.Tr) (hq : Tr.go w (xs.length : Int) (kdOf xs) (sgOf w hi) q (rayAt w hi k).1 (rayAt w hi k).2 64 = some t) (h2 : t.2.length ≤ 60000) : Wts t.2 :=
 ⟨h2, fun e he => by have h := (ends_ok o k k0 k1 q t hq).1 e he; have a := h.1; have b := h.2.1; exact ⟨by omega, b⟩⟩
theorem to_sum (es : List Tr.V) (hE : Wts es) (x : Int) (d : Nat) : ∀ (i : Nat) (acc : Int), i + d = es.length → 0 ≤ acc → acc ≤ 64 * (i : Int) → Ev (fun k => impl_TrailTo.l0 k x acc (es.map fin) ((es.map fin).length : Int) (i : Int)) (acc + Tr.outs x (es.drop i)) := by
 have hl := hE.1
 have hm : (es.map fin).length = es.length := List.length_map ..
 induction d with
 | zero =>
  intro i acc hi a0 a1
  rw [List.drop_eq_nil_of_le (by omega)]
  exact Ev.step (f := fun _ => some (acc + 0)) (fun k => by rw [impl_TrailTo.l0, if_neg (by omega), Int.add_zero]) (Ev.now _)
 | succ d ih =>
  intro i acc hi a0 a1
  have hlt : i < es.length := by omega
  have hw := hE.2 es[i] (List.getElem_mem _)
  rw [drop_at hlt]
  simp only [Tr.outs]
  by_cases c : es[i].1 = 0 ∧ es[i].2.1 = x
  ·rw [if_pos c]
   have r := ih (i + 1) (acc + es[i].2.2) (by omega) (by omega) (by omega)
   rw [← Int.add_assoc]
   refine Ev.step (f := fun k => impl_TrailTo.l0 k x (acc + es[i].2.2) (es.map fin) ((es.map fin).length : Int) ((i + 1 : Nat) : Int)) (fun k => ?_) r
   rw [impl_TrailTo.l0, if_pos (by omega), if_pos (by omega), if_pos (by omega), rdF hlt, if_pos (by exact c.1), if_pos (by exact c.2), w64 (x := (i : Int) + 1) (by omega) (by omega), w64 (x := acc + (fin es[i]).f2) (by show _ ≤ acc + es[i].2.2; omega) (by show acc + es[i].2.2 ≤ _; omega)]
   rfl
  ·rw [if_neg c, Int.zero_add]
   have r := ih (i + 1) acc (by omega) a0 (by omega)
   refine Ev.step (f := fun k => impl_TrailTo.l0 k x acc (es.map fin) ((es.map fin).length : Int) ((i + 1 : Nat) : Int)) (fun k => ?_) r
   rw [impl_TrailTo.l0, if_pos (by omega), if_pos (by omega), if_pos (by omega), rdF hlt, w64 (x := (i : Int) + 1) (by omega) (by omega)]
   by_cases c0 : es[i].1 = 0
   ·rw [if_pos (by exact c0), if_neg (show ¬ (fin es[i]).f1 = x from fun e => c ⟨c0, e⟩)]; rfl
   ·rw [if_neg (by exact c0)]; rfl
/-- What leaves at a sight, of light from a sight. -/
theorem to_ev {w : Int} {xs : List (S57)} {hi : Int} (o : Ok w xs hi) (k : Int) (k0 : 0 ≤ k) (k1 : k < 2 * (w + hi)) (q : Nat) (t : Tr.Tr) (hq : Tr.go w (xs.length : Int) (kdOf xs) (sgOf w hi) q (rayAt w hi k).1 (rayAt w hi k).2 64 = some t) (h1 : t.1.length ≤ 20000) (h2 : t.2.length ≤ 60000) (x : Int) :
  Ev (fun r => impl_TrailTo.f r w xs k x) (Tr.outs x t.2) := by
 refine Ev.bind (impl_trail o k k0 k1 q t hq h1 h2) ?_
 have h := to_sum t.2 (wts_of o k k0 k1 q t hq h2) x t.2.length 0 0 (by omega) (by omega) (by omega)
 rw [Int.zero_add, List.drop_zero] at h
 exact h

/-- A grid with another cell is as good as it was. -/
theorem ok_set {w : Int} {xs : List (S57)} {hi : Int} (o : Ok w xs hi) (i : Nat) (c : S57) (hc : okc c.f0 c.f1) : Ok w (xs.set i c) hi := by
 refine ⟨o.w1, o.w5, o.h1, o.h5, by rw [List.length_set]; exact o.len, by rw [List.length_set]; exact o.div, fun x hx => ?_⟩
 rcases List.mem_or_eq_of_mem_set hx with h | h
 ·exact o.all x h
 ·rw [h]; exact hc
theorem kd_set {xs : List (S57)} {a : Int} (a0 : 0 ≤ a) (a1 : a < (xs.length : Int)) (c : S57) : kdOf (xs.set a.toNat c) a = c.f0 := by
 obtain ⟨i, rfl⟩ := Int.eq_ofNat_of_zero_le a0
 unfold kdOf
 rw [Int.toNat_natCast, rdT (by rw [List.length_set]; omega), List.getElem_set_self]
theorem kd_set_ne {xs : List (S57)} {a b : Int} (b0 : 0 ≤ b) (b1 : b < (xs.length : Int)) (a0 : 0 ≤ a) (h : b ≠ a) (c : S57) : kdOf (xs.set a.toNat c) b = kdOf xs b := by
 obtain ⟨i, rfl⟩ := Int.eq_ofNat_of_zero_le b0
 unfold kdOf
 rw [rdT (by rw [List.length_set]; omega), rdT (by omega), List.getElem_set_ne (by omega)]
theorem len25 {w : Int} {xs : List (S57)} {hi : Int} (o : Ok w xs hi) : xs.length ≤ 25 := by
 have w1 := o.w1; have w5 := o.w5; have h1 := o.h1; have h5 := o.h5; have len := o.len
 have hc : w = 1 ∨ w = 2 ∨ w = 3 ∨ w = 4 ∨ w = 5 := by omega
 rcases hc with rfl | rfl | rfl | rfl | rfl <;> omega
/-- Whether there is such a sight. -/
theorem llSight_ev (w : Int) (xs : List (S57)) (hx : xs.length ≤ maxLen) (v : Int) : Ev (fun k => laws_llSight.f k w xs v) (gok w xs && decide (0 ≤ v ∧ v < 2 * (w + (xs.length : Int) / w))) := by
 by_cases h : v ≥ 0
 ·refine Ev.congr (f := fun k => (spec_SightMany.f k w xs).bind fun t => some (decide (v < t))) (fun k => by unfold laws_llSight.f; rw [if_pos h]) ?_
  refine Ev.bind (spec_manyS w xs hx) (Ev.congr (f := fun _ => some (gok w xs && decide (0 ≤ v ∧ v < 2 * (w + (xs.length : Int) / w)))) (fun k => ?_) (Ev.now _))
  congr 1
  rw [Bool.eq_iff_iff]
  by_cases g : gok w xs = true
  ·rw [if_pos g, g]; simp; omega
  ·rw [if_neg g]; simp [g]; omega
 ·rw [decide_eq_false (fun e => h e.1), Bool.and_false]
  exact Ev.congr (f := fun _ => some false) (fun k => by unfold laws_llSight.f; rw [if_neg h]) (Ev.now _)
theorem not_sight {w : Int} {xs : List (S57)} {v : Int} (h : ¬(gok w xs = true ∧ 0 ≤ v ∧ v < 2 * (w + (xs.length : Int) / w))) : (gok w xs && decide (0 ≤ v ∧ v < 2 * (w + (xs.length : Int) / w))) = false := by
 rw [Bool.and_eq_false_iff]
 by_cases g : gok w xs = true
 ·right; exact decide_eq_false (fun e => h ⟨g, e⟩)
 ·left; simpa using g
theorem spec_to_l0 (es : List Tr.V) (hE : Wts es) (x : Int) (d : Nat) : ∀ (i : Nat) (acc : Int), i + d = es.length → 0 ≤ acc → acc ≤ 64 * (i : Int) → Ev (fun k => spec_TrailTo.l0 k x acc (es.map fin) (i : Int)) (acc + Tr.outs x (es.drop i)) := by
 have hl := hE.1
 have hm : (es.map fin).length = es.length := List.length_map ..
 induction d with
 | zero =>
  intro i acc hi a0 a1
  rw [List.drop_eq_nil_of_le (by omega)]
  exact Ev.step (f := fun _ => some (acc + 0)) (fun k => by rw [spec_TrailTo.l0, if_neg (by omega), Int.add_zero]) (Ev.now _)
 | succ d ih =>
  intro i acc hi a0 a1
  have hlt : i < es.length := by omega
  have hw := hE.2 es[i] (List.getElem_mem _)
  rw [drop_at hlt]
  simp only [Tr.outs]
  by_cases c : es[i].1 = 0 ∧ es[i].2.1 = x
  ·rw [if_pos c]
   have r := ih (i + 1) (acc + es[i].2.2) (by omega) (by omega) (by omega)
   rw [← Int.add_assoc]
   refine Ev.step (f := fun k => spec_TrailTo.l0 k x (acc + es[i].2.2) (es.map fin) ((i + 1 : Nat) : Int)) (fun k => ?_) r
   rw [spec_TrailTo.l0, if_pos (by omega), if_pos (by omega), rdF hlt, if_pos (by exact c.1), if_pos (by exact c.2), w64 (x := (i : Int) + 1) (by omega) (by omega), w64 (x := acc + (fin es[i]).f2) (by show _ ≤ acc + es[i].2.2; omega) (by show acc + es[i].2.2 ≤ _; omega)]
   rfl
  ·rw [if_neg c, Int.zero_add]
   have r := ih (i + 1) acc (by omega) a0 (by omega)
   refine Ev.step (f := fun k => spec_TrailTo.l0 k x acc (es.map fin) ((i + 1 : Nat) : Int)) (fun k => ?_) r
   rw [spec_TrailTo.l0, if_pos (by omega), if_pos (by omega), rdF hlt, w64 (x := (i : Int) + 1) (by omega) (by omega)]
   by_cases c0 : es[i].1 = 0
   ·rw [if_pos (by exact c0), if_neg (show ¬ (fin es[i]).f1 = x from fun e => c ⟨c0, e⟩)]; rfl
   ·rw [if_neg (by exact c0)]; rfl
theorem spec_to {w : Int} {xs : List (S57)} {hi : Int} (o : Ok w xs hi) (hx : xs.length ≤ maxLen) (k : Int) (k0 : 0 ≤ k) (k1 : k < 2 * (w + hi)) (q : Nat) (t : Tr.Tr) (hq : Tr.go w (xs.length : Int) (kdOf xs) (sgOf w hi) q (rayAt w hi k).1 (rayAt w hi k).2 64 = some t) (h1 : t.1.length ≤ 20000) (h2 : t.2.length ≤ 60000) (x : Int) :
  Ev (fun r => spec_TrailTo.f r w xs k x) (Tr.outs x t.2) := by
 obtain ⟨hok, hf⟩ := ray_fresh o k k0 k1
 have his := spec_is hx (w := w) k
 rw [ok_gok o, o.div, Bool.true_and, decide_eq_true (by omega)] at his
 obtain ⟨K, hK⟩ := come_ev o q _ _ 64 t hok (by omega) (by omega) hq [] [] (by simp; omega) (by simp; omega)
 obtain ⟨K2, hL⟩ := spec_to_l0 t.2 (wts_of o k k0 k1 q t hq h2) x t.2.length 0 0 (by omega) (by omega) (by omega)
 rw [Int.zero_add, List.drop_zero] at hL
 refine Ev.bind his ⟨max (max K q) K2, fun r hr => ?_⟩
 show (if true = true then (spec_l3Ray.f w xs k).bind fun y => (comeF r w xs r y.1 y.2 64 [] []).bind fun c => spec_TrailTo.l0 r x 0 c.2 0 else some 0) = _
 rw [if_pos rfl, spec_ray o k k0 k1, Option.bind_some]
 refine Option.bind_eq_some_iff.2 ⟨_, hK r (by omega) r (by omega), ?_⟩
 have h := hL r (by omega)
 simpa using h
theorem to_no {w : Int} {xs : List (S57)} (hx : xs.length ≤ maxLen) (k : Int) (x : Int) (h : ¬(gok w xs = true ∧ 0 ≤ k ∧ k < 2 * (w + (xs.length : Int) / w))) : Ev (fun r => impl_TrailTo.f r w xs k x) 0 ∧ Ev (fun r => spec_TrailTo.f r w xs k x) 0 := by
 constructor
 ·refine Ev.bind (impl_trail_no hx k h) ?_
  exact Ev.step (f := fun _ => some 0) (fun r => by rw [impl_TrailTo.l0, if_neg (by simp)]) (Ev.now _)
 ·have his := spec_is hx (w := w) k
  rw [show (gok w xs && decide (0 ≤ k ∧ k ≤ 2 * (w + (xs.length : Int) / w) - 1)) = false from by
   rw [Bool.and_eq_false_iff]
   by_cases g : gok w xs = true
   ·right; simp; intro h0; by_cases c : k < 2 * (w + (xs.length : Int) / w); exact absurd ⟨g, h0, c⟩ h; omega
   ·left; simpa using g] at his
  exact Ev.bind his (Ev.now _)
theorem to_both (w : Int) (xs : List (S57)) (hx : xs.length ≤ maxLen) (v x : Int) : ∃ n : Int, Ev (fun k => impl_TrailTo.f k w xs v x) n ∧ Ev (fun k => spec_TrailTo.f k w xs v x) n := by
 by_cases h : gok w xs = true ∧ 0 ≤ v ∧ v < 2 * (w + (xs.length : Int) / w)
 ·obtain ⟨g, v0, v1⟩ := h
  obtain ⟨hi, o⟩ := ok_of g
  rw [o.div] at v1
  obtain ⟨q, t, hq, h1, h2⟩ := trail_ex o v v0 v1
  exact ⟨_, to_ev o v v0 v1 q t hq h1 h2 x, spec_to o hx v v0 v1 q t hq h1 h2 x⟩
 ·exact ⟨0, (to_no hx v x h).1, (to_no hx v x h).2⟩
theorem sends_ev (w : Int) (xs : List (S57)) (hx : xs.length ≤ maxLen) (v : Int) : ∃ es : List (S55), es.length ≤ 60000 ∧ Ev (fun k => spec_TrailEnds.f k w xs v) es := by
 by_cases h : gok w xs = true ∧ 0 ≤ v ∧ v < 2 * (w + (xs.length : Int) / w)
 ·obtain ⟨g, v0, v1⟩ := h
  obtain ⟨hi, o⟩ := ok_of g
  rw [o.div] at v1
  obtain ⟨q, t, hq, h1, h2⟩ := trail_ex o v v0 v1
  exact ⟨t.2.map fin, by rw [List.length_map]; exact h2, spec_ends o hx v v0 v1 q t hq h1 h2⟩
 ·exact ⟨[], by simp, spec_ends_no hx v h⟩
theorem bright_l0 {s : List Int} (hs : Rdr s) (w : Int) (n : Nat) : ∀ (xs : List (S57)) (p : Int), 0 ≤ p → p + 2 * n ≤ 400000 → xs.length ≤ 31 → ∃ (xs' : List (S57)) (p' : Int), Ev (fun k => spec_l71Bright.l0 k (n : Int) s p w xs) (w, xs', p') ∧ xs'.length ≤ 31 ∧ p ≤ p' ∧ p' ≤ p + 2 * n := by
 induction n with
 | zero =>
  intro xs p p0 p1 hx
  exact ⟨xs, p, Ev.step (f := fun k => spec_l71Bright.j1 k ((0 : Nat) : Int) false s p w xs) (fun k => by rw [spec_l71Bright.l0, if_neg (by omega)]) (Ev.step (f := fun _ => some (w, xs, p)) (fun k => by rw [spec_l71Bright.j1, if_neg (by decide)]) (Ev.now _)), hx, by omega, by omega⟩
 | succ n ih =>
  intro xs p p0 p1 hx
  by_cases hz : (xs.length : Int) > 0
  ·obtain ⟨i, hi, i0, i1, _⟩ := pick_ev hs p (xs.length : Int) p0 (by omega) (by omega)
   have i1 := i1 (by omega)
   obtain ⟨l, hl, l0, l1, _⟩ := pick_ev hs (p + 1) 4 (by omega) (by omega) (by omega)
   have l1 := l1 (by omega)
   obtain ⟨xs', p', hr, hx', g1, g2⟩ := ih (xs.set i.toNat ⟨rd [2, 3, 4, 5] l, 0⟩) (p + 1 + 1) (by omega) (by omega) (by rw [List.length_set]; exact hx)
   refine ⟨xs', p', Ev.step (f := fun k => spec_l71Bright.j1 k ((n + 1 : Nat) : Int) true s p w xs) (fun k => by rw [spec_l71Bright.l0, if_pos (by omega), decide_eq_true hz]) ?_, hx', by omega, by omega⟩
   refine Ev.step (f := fun k => (spec_l6Rd_pick.f k s p (xs.length : Int)).bind fun bt211 => ((some (([2, 3, 4, 5] : List Int) : List Int)).bind fun y213 => ((spec_l6Rd_pick.f k s bt211.2 4).bind fun bt216 => (if 0 ≤ bt216.1 then (if bt216.1 < (y213.length : Int) then (if 0 ≤ bt211.1 then (if bt211.1 < (xs.length : Int) then (spec_l71Bright.l0 k (wrap64 (((n + 1 : Nat) : Int) - 1)) s bt216.2 w (xs.set (bt211.1 : Int).toNat (⟨rd y213 bt216.1, 0⟩ : S57))) else (none)) else (none)) else (none)) else (none))))) (fun k => by rw [spec_l71Bright.j1, if_pos rfl]) ?_
   refine Ev.bind hi (Ev.bind (Ev.now _) (Ev.bind hl (Ev.congr (fun k => ?_) hr)))
   rw [if_pos (by exact l0), if_pos (by simpa using l1), if_pos (by exact i0), if_pos (by exact i1), w64 (by omega) (by omega), show ((n + 1 : Nat) : Int) - 1 = (n : Int) from by omega]
  ·exact ⟨xs, p, Ev.step (f := fun k => spec_l71Bright.j1 k ((n + 1 : Nat) : Int) false s p w xs) (fun k => by rw [spec_l71Bright.l0, if_pos (by omega), decide_eq_false hz]) (Ev.step (f := fun _ => some (w, xs, p)) (fun k => by rw [spec_l71Bright.j1, if_neg (by decide)]) (Ev.now _)), hx, by omega, by omega⟩
theorem bright_ev {s : List Int} (hs : Rdr s) (p : Int) (hp : 0 ≤ p) (hp' : p ≤ 100000) : ∃ (w : Int) (xs : List (S57)) (p' : Int), Ev (fun k => spec_l71Bright.f k s p) (w, xs, p') ∧ xs.length ≤ 31 ∧ p ≤ p' ∧ p' ≤ p + 100 := by
 obtain ⟨w, xs, p1, hsome, hsm, q0, q1⟩ := some_ev hs p hp (by omega)
 obtain ⟨n, hn, n0, n1, _⟩ := pick_ev hs p1 8 (by omega) (by omega) (by omega)
 have n1 := n1 (by omega)
 obtain ⟨m, rfl⟩ := Int.eq_ofNat_of_zero_le n0
 obtain ⟨xs', p', hr, hx', g1, g2⟩ := bright_l0 hs w m xs (p1 + 1) (by omega) (by omega) hsm.len
 exact ⟨w, xs', p', Ev.bind hsome (Ev.bind hn hr), hx', by omega, by omega⟩
theorem drawto_l0 {s : List Int} (hs : Rdr s) (w : Int) (xs : List (S57)) (v : Int) (es : List (S55)) (he : es.length ≤ 60000) (d : Nat) : ∀ (i : Nat) (to_ p : Int), i + d = es.length → 0 ≤ p → p ≤ 1000 + (i : Int) → ∃ t', Ev (fun k => spec_DrawTrailTo.l0 k v to_ es (i : Int) s p w xs) (w, xs, v, t') := by
 induction d with
 | zero =>
  intro i to_ p hi p0 p1
  exact ⟨to_, Ev.step (f := fun _ => some (w, xs, v, to_)) (fun k => by rw [spec_DrawTrailTo.l0, if_neg (by omega)]) (Ev.now _)⟩
 | succ d ih =>
  intro i to_ p hi p0 p1
  by_cases c : (rd_T55 es (i : Int)).f0 = 0
  ·obtain ⟨r, hr, r0, _, _⟩ := pick_ev hs p 3 p0 (by omega) (by omega)
   have opened : ∀ {x}, Ev (fun k => (spec_l6Rd_pick.f k s p 3).bind fun bt253 => (if bt253.1 > 0 then (spec_DrawTrailTo.l0 k v ((rd_T55 es (i : Int)).f1) es (wrap64 ((i : Int) + 1)) s bt253.2 w xs) else (spec_DrawTrailTo.l0 k v to_ es (wrap64 ((i : Int) + 1)) s bt253.2 w xs))) x → Ev (fun k => spec_DrawTrailTo.l0 k v to_ es (i : Int) s p w xs) x :=
    fun h => Ev.step (fun k => by rw [spec_DrawTrailTo.l0, if_pos (by omega), if_pos (by omega), if_pos c]) h
   by_cases hz : r > 0
   ·obtain ⟨t', ht⟩ := ih (i + 1) ((rd_T55 es (i : Int)).f1) (p + 1) (by omega) (by omega) (by omega)
    refine ⟨t', opened (Ev.bind hr (Ev.congr (fun k => ?_) ht))⟩
    rw [if_pos (by exact hz), w64 (by omega) (by omega)]; rfl
   ·obtain ⟨t', ht⟩ := ih (i + 1) to_ (p + 1) (by omega) (by omega) (by omega)
    refine ⟨t', opened (Ev.bind hr (Ev.congr (fun k => ?_) ht))⟩
    rw [if_neg (by exact hz), w64 (by omega) (by omega)]; rfl
  ·obtain ⟨t', ht⟩ := ih (i + 1) to_ p (by omega) p0 (by omega)
   refine ⟨t', Ev.step (f := fun k => spec_DrawTrailTo.l0 k v to_ es ((i + 1 : Nat) : Int) s p w xs) (fun k => ?_) ht⟩
   rw [spec_DrawTrailTo.l0, if_pos (by omega), if_pos (by omega), if_neg c, w64 (by omega) (by omega)]; rfl
theorem drawto_ev {l : List Int} (hw : ∀ x ∈ l, (Lit.int .u8 x).wf = true) (hl : l.length ≤ maxLen) : ∃ (w : Int) (xs : List (S57)) (v to_ : Int), Ev (fun k => spec_DrawTrailTo.f k l) (w, xs, v, to_) ∧ xs.length ≤ 31 := by
 obtain ⟨s, ho, hs⟩ := open_ev hw hl
 obtain ⟨w, xs, p1, hb, hx, g1, g2⟩ := bright_ev hs 0 (by omega) (by omega)
 have hx' : xs.length ≤ maxLen := by unfold maxLen; omega
 obtain ⟨v, p2, hv, g3, g4⟩ := sight_ev hs p1 (by omega) (by omega) w xs hx'
 obtain ⟨u, p3, hu, g5, g6⟩ := sight_ev hs p2 (by omega) (by omega) w xs hx'
 obtain ⟨es, hes, hE⟩ := sends_ev w xs hx' v
 obtain ⟨t', ht⟩ := drawto_l0 hs w xs v es hes es.length 0 u p3 (by omega) (by omega) (by omega)
 exact ⟨w, xs, v, t', Ev.bind (Ev.congr (f := fun _ => some (s, 0)) (fun k => ho) (Ev.now _)) (Ev.bind hb (Ev.bind hv (Ev.bind hu (Ev.bind hE ht)))), hx⟩
theorem ray_1 {w h m : Int} (c : m < w) : rayAt w h m = (m, 2) := by unfold rayAt; rw [if_pos c]
theorem ray_2 {w h m : Int} (c : ¬ m < w) (d : m < w + h) : rayAt w h m = ((m - w) * w + w - 1, 3) := by unfold rayAt; rw [if_neg c, if_pos d]
theorem ray_3 {w h m : Int} (c : ¬ m < w) (d : ¬ m < w + h) (e : m < w + h + w) : rayAt w h m = (h * w - 1 - (m - w - h), 0) := by unfold rayAt; rw [if_neg c, if_neg d, if_pos e]
theorem ray_4 {w h m : Int} (c : ¬ m < w) (d : ¬ m < w + h) (e : ¬ m < w + h + w) : rayAt w h m = ((h - 1 - (m - w - h - w)) * w, 1) := by unfold rayAt; rw [if_neg c, if_neg d, if_neg e]
theorem ray_T {w h k : Int} (w1 : 1 ≤ w) (h1 : 1 ≤ h) (k0 : 0 ≤ k) (k1 : k < 2 * (w + h)) : rayAt h w (Tr.siT w h k) = (Tr.piT w h (rayAt w h k).1, Tr.deT (rayAt w h k).2) := by
 have hs := Tr.siT_eq w1 h1 k0 k1
 by_cases a1 : k < w
 ·rw [if_pos (by omega)] at hs
  rw [hs, ray_2 (by omega) (by omega), ray_1 a1]
  have e := Tr.piT_rc (w := w) (h := h) (r := 0) (c := k) k0 a1
  rw [Int.zero_mul, Int.zero_add] at e
  show _ = (Tr.piT w h k, Tr.deT 2)
  rw [e, show k + h - h = k from by omega]
  exact Prod.ext (by show k * h + h - 1 = k * h + (h - 1 - 0); omega) rfl
 by_cases a2 : k < w + h
 ·rw [if_pos (by omega)] at hs
  rw [hs, ray_3 (by omega) (by omega) (by omega), ray_2 a1 a2]
  have e := Tr.piT_rc (w := w) (h := h) (r := k - w) (c := w - 1) (by omega) (by omega)
  show _ = (Tr.piT w h ((k - w) * w + w - 1), Tr.deT 3)
  rw [show (k - w) * w + w - 1 = (k - w) * w + (w - 1) from by omega, e]
  refine Prod.ext ?_ rfl
  show w * h - 1 - (k + h - h - w) = (w - 1) * h + (h - 1 - (k - w))
  rw [Int.sub_mul, Int.one_mul]; omega
 by_cases a3 : k < w + h + w
 ·rw [if_pos (by omega)] at hs
  rw [hs, ray_4 (by omega) (by omega) (by omega), ray_3 a1 a2 a3]
  have e := Tr.piT_rc (w := w) (h := h) (r := h - 1) (c := w - 1 - (k - w - h)) (by omega) (by omega)
  show _ = (Tr.piT w h (h * w - 1 - (k - w - h)), Tr.deT 0)
  rw [show h * w - 1 - (k - w - h) = (h - 1) * w + (w - 1 - (k - w - h)) from by rw [Int.sub_mul, Int.one_mul]; omega, e]
  refine Prod.ext ?_ rfl
  show (w - 1 - (k + h - h - w - h)) * h = (w - 1 - (k - w - h)) * h + (h - 1 - (h - 1))
  rw [show k + h - h - w - h = k - w - h from by omega]; omega
 ·rw [if_neg (by omega)] at hs
  rw [hs, ray_1 (by omega), ray_4 a1 a2 a3]
  have e := Tr.piT_rc (w := w) (h := h) (r := h - 1 - (k - w - h - w)) (c := 0) (by omega) (by omega)
  rw [Int.add_zero, Int.zero_mul, Int.zero_add] at e
  show _ = (Tr.piT w h ((h - 1 - (k - w - h - w)) * w), Tr.deT 1)
  rw [e]
  exact Prod.ext (by show k + h - 2 * (w + h) = h - 1 - (h - 1 - (k - w - h - w)); omega) rfl
theorem ray_F {w h k : Int} (w1 : 1 ≤ w) (h1 : 1 ≤ h) (k0 : 0 ≤ k) (k1 : k < 2 * (w + h)) : rayAt w h (Tr.siF w h k) = (Tr.piF w (rayAt w h k).1, Tr.deF (rayAt w h k).2) := by
 have hs := Tr.siF_eq w1 h1 k0 k1
 by_cases a1 : k < w
 ·rw [if_pos (by omega)] at hs
  rw [hs, ray_1 (by omega), ray_1 a1]
  have e := Tr.piF_rc (w := w) (r := 0) (c := k) k0 a1
  rw [Int.zero_mul, Int.zero_add, Int.zero_add] at e
  show _ = (Tr.piF w k, Tr.deF 2)
  rw [e]; rfl
 by_cases a2 : k < w + h
 ·rw [if_neg (by omega)] at hs
  rw [hs, ray_4 (by omega) (by omega) (by omega), ray_2 a1 a2]
  have e := Tr.piF_rc (w := w) (r := k - w) (c := w - 1) (by omega) (by omega)
  show _ = (Tr.piF w ((k - w) * w + w - 1), Tr.deF 3)
  rw [show (k - w) * w + w - 1 = (k - w) * w + (w - 1) from by omega, e]
  refine Prod.ext ?_ rfl
  show (h - 1 - (w - 1 - k + 2 * (w + h) - w - h - w)) * w = (k - w) * w + (w - 1 - (w - 1))
  rw [show h - 1 - (w - 1 - k + 2 * (w + h) - w - h - w) = k - w from by omega]; omega
 by_cases a3 : k < w + h + w
 ·rw [if_neg (by omega)] at hs
  rw [hs, ray_3 (by omega) (by omega) (by omega), ray_3 a1 a2 a3]
  have e := Tr.piF_rc (w := w) (r := h - 1) (c := w - 1 - (k - w - h)) (by omega) (by omega)
  show _ = (Tr.piF w (h * w - 1 - (k - w - h)), Tr.deF 0)
  rw [show h * w - 1 - (k - w - h) = (h - 1) * w + (w - 1 - (k - w - h)) from by rw [Int.sub_mul, Int.one_mul]; omega, e]
  refine Prod.ext ?_ rfl
  show h * w - 1 - (w - 1 - k + 2 * (w + h) - w - h) = (h - 1) * w + (w - 1 - (w - 1 - (k - w - h)))
  rw [Int.sub_mul, Int.one_mul]; omega
 ·rw [if_neg (by omega)] at hs
  rw [hs, ray_2 (by omega) (by omega), ray_4 a1 a2 a3]
  have e := Tr.piF_rc (w := w) (r := h - 1 - (k - w - h - w)) (c := 0) (by omega) (by omega)
  rw [Int.add_zero] at e
  show _ = (Tr.piF w ((h - 1 - (k - w - h - w)) * w), Tr.deF 1)
  rw [e]
  refine Prod.ext ?_ rfl
  show (w - 1 - k + 2 * (w + h) - w) * w + w - 1 = (h - 1 - (k - w - h - w)) * w + (w - 1 - 0)
  rw [show w - 1 - k + 2 * (w + h) - w = h - 1 - (k - w - h - w) from by omega]; omega
section
variable {w : Int} {xs ys : List (S57)} {hi : Int}
theorem symT (o : Ok w xs hi) (p : Ok hi ys w) (hk : ∀ a, 0 ≤ a ∧ a < (xs.length : Int) → kdOf ys (Tr.piT w hi a) = Tr.swp (kdOf xs a)) :
  Tr.Sym w (xs.length : Int) (kdOf xs) (sgOf w hi) hi (ys.length : Int) (kdOf ys) (sgOf hi w) (Tr.piT w hi) Tr.deT (Tr.siT w hi) := by
 have w1 := o.w1; have h1 := o.h1
 have e1 := o.len
 have e2 : (ys.length : Int) = w * hi := by rw [p.len]; exact Int.mul_comm _ _
 refine ⟨fun a ha => ?_, fun d hd => by unfold Tr.deT; omega, hk, fun a d ho => ?_, Tr.deT_turn, fun a d ho hx => ?_⟩
 ·rw [e2]; exact Tr.piT_in w1 h1 (by rw [← e1]; exact ha)
 ·rw [e1, e2]; rw [e1] at ho; exact Tr.next_T w1 h1 ho
 ·obtain ⟨k, k0, k1, hr⟩ := exit_sight o a d ho hx
  rw [sg_at o a d k k0 k1 hr]
  have hi := Tr.siT_in w1 h1 k0 k1
  refine sg_at p _ _ _ hi.1 (by omega) ?_
  rw [ray_T w1 h1 k0 k1, hr, Tr.deT_back]
theorem symF (o : Ok w xs hi) (p : Ok w ys hi) (hk : ∀ a, 0 ≤ a ∧ a < (xs.length : Int) → kdOf ys (Tr.piF w a) = Tr.swp (kdOf xs a)) :
  Tr.Sym w (xs.length : Int) (kdOf xs) (sgOf w hi) w (ys.length : Int) (kdOf ys) (sgOf w hi) (Tr.piF w) Tr.deF (Tr.siF w hi) := by
 have w1 := o.w1; have h1 := o.h1
 have e1 := o.len
 have e2 := p.len
 refine ⟨fun a ha => ?_, fun d hd => by unfold Tr.deF; omega, hk, fun a d ho => ?_, Tr.deF_turn, fun a d ho hx => ?_⟩
 ·rw [e2]; exact Tr.piF_in w1 (by rw [← e1]; exact ha)
 ·rw [e1, e2]; rw [e1] at ho; exact Tr.next_F w1 ho
 ·obtain ⟨k, k0, k1, hr⟩ := exit_sight o a d ho hx
  rw [sg_at o a d k k0 k1 hr]
  have hi := Tr.siF_in w1 h1 k0 k1
  refine sg_at p _ _ _ hi.1 hi.2 ?_
  rw [ray_F w1 h1 k0 k1, hr, Tr.deF_back ho.2]
theorem end_sight (o : Ok w xs hi) {t : Tr.Tr} {e : Tr.V} (h : Tr.EndOk w (xs.length : Int) (kdOf xs) (sgOf w hi) t.1 64 e) (c : e.1 = 0) : 0 ≤ e.2.1 ∧ e.2.1 < 2 * (w + hi) := by
 obtain ⟨_, _, h3⟩ := h
 rcases h3 with ⟨_, a, d, ho, hx, _, _, hs⟩ | ⟨a, _⟩ | ⟨a, _⟩ | ⟨a, _⟩
 ·obtain ⟨k, k0, k1, hr⟩ := exit_sight o a d ho hx
  rw [hs, sg_at o a d k k0 k1 hr]; exact ⟨k0, k1⟩
 all_goals (rw [c] at a; exact absurd a (by decide))
/-- Turned, as much leaves. -/
theorem outs_T (o : Ok w xs hi) (p : Ok hi ys w) (hk : ∀ a, 0 ≤ a ∧ a < (xs.length : Int) → kdOf ys (Tr.piT w hi a) = Tr.swp (kdOf xs a)) (v x : Int) (v0 : 0 ≤ v) (v1 : v < 2 * (w + hi)) (x0 : 0 ≤ x) (x1 : x < 2 * (w + hi)) (q q2 : Nat) (t t2 : Tr.Tr)
  (hq : Tr.go w (xs.length : Int) (kdOf xs) (sgOf w hi) q (rayAt w hi v).1 (rayAt w hi v).2 64 = some t) (hq2 : Tr.go hi (ys.length : Int) (kdOf ys) (sgOf hi w) q2 (rayAt hi w (Tr.siT w hi v)).1 (rayAt hi w (Tr.siT w hi v)).2 64 = some t2) :
  Tr.outs (Tr.siT w hi x) t2.2 = Tr.outs x t.2 := by
 obtain ⟨q', t', ht', e⟩ := Tr.go_map o.w1 (mod_ok o) (symT o p hk) q _ _ 64 t (ray_fresh o v v0 v1).1 hq
 rw [ray_T o.w1 o.h1 v0 v1] at hq2
 rw [Tr.go_det hq2 ht', e]
 refine Tr.outs_map x t.2 fun e he c => ?_
 have hs := end_sight o ((ends_ok o v v0 v1 q t hq).1 e he) c
 exact Tr.siT_inj o.w1 o.h1 hs.1 hs.2 x0 x1
theorem outs_F (o : Ok w xs hi) (p : Ok w ys hi) (hk : ∀ a, 0 ≤ a ∧ a < (xs.length : Int) → kdOf ys (Tr.piF w a) = Tr.swp (kdOf xs a)) (v x : Int) (v0 : 0 ≤ v) (v1 : v < 2 * (w + hi)) (x0 : 0 ≤ x) (x1 : x < 2 * (w + hi)) (q q2 : Nat) (t t2 : Tr.Tr)
  (hq : Tr.go w (xs.length : Int) (kdOf xs) (sgOf w hi) q (rayAt w hi v).1 (rayAt w hi v).2 64 = some t) (hq2 : Tr.go w (ys.length : Int) (kdOf ys) (sgOf w hi) q2 (rayAt w hi (Tr.siF w hi v)).1 (rayAt w hi (Tr.siF w hi v)).2 64 = some t2) :
  Tr.outs (Tr.siF w hi x) t2.2 = Tr.outs x t.2 := by
 obtain ⟨q', t', ht', e⟩ := Tr.go_map o.w1 (mod_ok o) (symF o p hk) q _ _ 64 t (ray_fresh o v v0 v1).1 hq
 rw [ray_F o.w1 o.h1 v0 v1] at hq2
 rw [Tr.go_det hq2 ht', e]
 refine Tr.outs_map x t.2 fun e he c => ?_
 have hs := end_sight o ((ends_ok o v v0 v1 q t hq).1 e he) c
 exact Tr.siF_inj o.w1 o.h1 hs.1 hs.2 x0 x1
end

end Go.Proofs.Ytejgohgmmndgbaa.DFnTrailTurn
--slim
