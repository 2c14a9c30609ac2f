/- What the reader of draws hands back, and what a drawn grid is: plain facts on the printed functions. -/
import Derived.Test.YtefbfeaeifbjeaaPFnOwnAllx
import Derived.Test.YtefbfeaeifbjeaaPl
namespace Go.Proofs.Ytefbfeaeifbjeaa.DFnOwnAll
open Go.RowKit Go.Proofs.Ytefbfeaeifbjeaa.PFnOwnAll Go.Proofs.YtefbfeaeifbjeaaW.PrintWords Go.Proofs.YtefbfeaeifbjeaaW.PrintLast Go.Proofs.Ytefbfeaeifbjeaa.Pl

/-- A reader's bytes. -/
structure Rdr (s : List Int) : Prop where
  len : s.length ≤ 2000
  byte : ∀ i : Int, 0 ≤ rd s i ∧ rd s i ≤ 255

theorem rdr_of {l : List Int} (h : ∀ x ∈ l, (Lit.int .u8 x).wf = true) (s : List Int) (hs : ∀ x ∈ s, x ∈ l) (hl : s.length ≤ 2000) : Rdr s := by
  refine ⟨hl, fun i => ?_⟩
  unfold rd
  by_cases hi : i.toNat < s.length
  · have hm := hs _ (List.getElem_mem hi)
    have hw := h _ hm
    rw [List.getD_eq_getElem?_getD, List.getElem?_eq_getElem hi, Option.getD_some]
    have := (byte_wf hw)
    omega
  · rw [List.getD_eq_getElem?_getD, List.getElem?_eq_none (by omega), Option.getD_none]
    omega

theorem open_ev {l : List Int} (h : ∀ x ∈ l, (Lit.int .u8 x).wf = true) (hn : l.length ≤ maxLen) : ∃ s, spec_l6Open.f l = some (s, 0) ∧ Rdr s := by
  unfold maxLen at hn
  unfold spec_l6Open.f
  by_cases hl : (l.length : Int) > 2000
  · rw [if_pos hl, if_pos (by omega)]
    exact ⟨_, rfl, rdr_of h _ (fun x hx => List.mem_of_mem_take hx) (by rw [List.length_take]; omega)⟩
  · rw [if_neg hl]
    exact ⟨_, rfl, rdr_of h _ (fun x hx => hx) (by omega)⟩

theorem pick_ev {s : List Int} (hs : Rdr s) (p n : Int) (hp : 0 ≤ p) (hp' : p ≤ 1000000) (hn : n ≤ 1000000) :
    ∃ r, Ev (fun k => spec_l6Rd_pick.f k s p n) (r, p + 1) ∧ 0 ≤ r ∧ (1 ≤ n → r < n) ∧ (n < 1 → r = 0) := by
  have hlen := hs.len
  have e0 : wrap64 (p + 1) = p + 1 := w64 (by omega) (by omega)
  have e1 : wrap64 (p + 1 - 1) = p := by rw [show p + 1 - 1 = p from by omega]; exact w64 (by omega) (by omega)
  by_cases h1 : n < 1
  · refine ⟨0, ?_, by omega, by omega, fun _ => rfl⟩
    refine Ev.congr (f := fun k => spec_l6Rd_pick.j0 k n true s (p + 1)) (fun k => by unfold spec_l6Rd_pick.f; rw [if_pos h1, e0]) ?_
    exact Ev.step (f := fun _ => some (0, p + 1)) (fun k => by rw [spec_l6Rd_pick.j0]; rw [if_pos rfl]) (Ev.now _)
  · by_cases h2 : (s.length : Int) = 0
    · refine ⟨0, ?_, by omega, by omega, fun _ => rfl⟩
      refine Ev.congr (f := fun k => spec_l6Rd_pick.j0 k n true s (p + 1)) (fun k => by unfold spec_l6Rd_pick.f; rw [if_neg h1, e0, show ((s.length : Int) == 0) = true from by simpa using h2]) ?_
      exact Ev.step (f := fun _ => some (0, p + 1)) (fun k => by rw [spec_l6Rd_pick.j0]; rw [if_pos rfl]) (Ev.now _)
    · have hb := hs.byte
      by_cases h3 : p < (s.length : Int)
      · refine ⟨Int.tmod (rd s p) n, ?_, (tmod_range (hb p).1 (by omega)).1, fun _ => (tmod_range (hb p).1 (by omega)).2, fun h => absurd h h1⟩
        refine Ev.congr (f := fun k => spec_l6Rd_pick.j0 k n false s (p + 1)) (fun k => by unfold spec_l6Rd_pick.f; rw [if_neg h1, e0, show ((s.length : Int) == 0) = false from by simpa using h2]) ?_
        refine Ev.step (f := fun _ => some (Int.tmod (rd s p) n, p + 1)) (fun k => ?_) (Ev.now _)
        rw [spec_l6Rd_pick.j0]
        have e2 : wrap64 (rd s p) = rd s p := w64 (by have := hb p; omega) (by have := hb p; omega)
        rw [if_neg (by decide), e1, if_pos h3, if_pos hp, if_neg (by omega), e2]
      · have hL : 1 ≤ (s.length : Int) := by omega
        generalize hi1 : Int.tmod p (s.length : Int) = i1
        have r1 : 0 ≤ i1 ∧ i1 < (s.length : Int) := by rw [← hi1]; exact tmod_range hp hL
        have e3 : wrap64 (wrap64 (p * 7) + 3) = p * 7 + 3 := by rw [w64 (x := p * 7) (by omega) (by omega)]; exact w64 (by omega) (by omega)
        generalize hi2 : Int.tmod (p * 7 + 3) (s.length : Int) = i2
        have r2 : 0 ≤ i2 ∧ i2 < (s.length : Int) := by rw [← hi2]; exact tmod_range (by omega) hL
        have b1 := hb i1
        have b2 := hb i2
        have q0 : 0 ≤ Int.tdiv p (s.length : Int) ∧ Int.tdiv p (s.length : Int) ≤ p := by
          rw [Int.tdiv_eq_ediv_of_nonneg hp]
          exact ⟨Int.ediv_nonneg hp (by omega), Int.ediv_le_self _ hp⟩
        generalize hq : Int.tdiv p (s.length : Int) = q at q0
        generalize hX : rd s i1 * 131 + rd s i2 * 1117 + p * 29 + q * 53 = X
        have hX0 : 0 ≤ X ∧ X < 2 ^ 62 := by omega
        have f1 : wrap64 (wrap64 (wrap64 (wrap64 (wrap64 (rd s i1) * 131) + wrap64 (wrap64 (rd s i2) * 1117)) + wrap64 (p * 29)) + wrap64 (wrap64 q * 53)) = X := by
          rw [w64 (x := rd s i1) (by omega) (by omega), w64 (x := rd s i2) (by omega) (by omega), w64 (x := rd s i1 * 131) (by omega) (by omega), w64 (x := rd s i2 * 1117) (by omega) (by omega),
            w64 (x := rd s i1 * 131 + rd s i2 * 1117) (by omega) (by omega), w64 (x := p * 29) (by omega) (by omega), w64 (x := q) (by omega) (by omega), w64 (x := q * 53) (by omega) (by omega),
            w64 (x := rd s i1 * 131 + rd s i2 * 1117 + p * 29) (by omega) (by omega), hX]
          exact w64 (by omega) (by omega)
        have hd : 0 ≤ Int.tdiv X 64 ∧ Int.tdiv X 64 < 2 ^ 62 := by
          rw [Int.tdiv_eq_ediv_of_nonneg hX0.1]
          omega
        have f2 : wrap64 (Int.tdiv X 64) = Int.tdiv X 64 := w64 (by omega) (by omega)
        have hxr := xor_range hX0.1 hX0.2 hd.1 hd.2
        refine ⟨Int.tmod (bits .xor .i64 X (Int.tdiv X 64)) n, ?_, (tmod_range hxr.1 (by omega)).1, fun _ => (tmod_range hxr.1 (by omega)).2, fun h => absurd h h1⟩
        refine Ev.congr (f := fun k => spec_l6Rd_pick.j0 k n false s (p + 1)) (fun k => by unfold spec_l6Rd_pick.f; rw [if_neg h1, e0, show ((s.length : Int) == 0) = false from by simpa using h2]) ?_
        refine Ev.step (f := fun _ => some (Int.tmod (bits .xor .i64 X (Int.tdiv X 64)) n, p + 1)) (fun k => ?_) (Ev.now _)
        rw [spec_l6Rd_pick.j0]
        rw [if_neg (by decide), e1, if_neg h3, if_neg h2, hi1, if_pos r1.1, if_pos r1.2, e3, hi2, if_pos r2.1, if_pos r2.2, if_neg (by omega), hq, f1, f2]

/-- A cell that is ok, by its two numbers. -/
def okc (k l : Int) : Prop := (k = 7 ∧ 1 ≤ l ∧ l ≤ 9) ∨ (0 ≤ k ∧ k ≤ 6 ∧ l = 0)

theorem cell_ev {s : List Int} (hs : Rdr s) (p : Int) (hp : 0 ≤ p) (hp' : p ≤ 900000) :
    ∃ a b p', Ev (fun k => spec_l71Cell.f k s p) (a, b, p') ∧ p ≤ p' ∧ p' ≤ p + 2 ∧ okc a b := by
  obtain ⟨r, hr, h0, h1, _⟩ := pick_ev hs p 12 hp (by omega) (by omega)
  have h1 := h1 (by omega)
  obtain ⟨t, ht, t0, t1, _⟩ := pick_ev hs (p + 1) 9 (by omega) (by omega) (by omega)
  have t1 := t1 (by omega)
  have c : r = 0 ∨ r = 1 ∨ r = 2 ∨ r = 3 ∨ r = 4 ∨ r = 5 ∨ r = 6 ∨ r = 7 ∨ r = 8 ∨ r = 9 ∨ r = 10 ∨ r = 11 := by omega
  have go : ∀ {x : Int × Int × Int}, Ev (fun k => spec_l71Cell.j0 k r (r == 2) s (p + 1)) x → r ≠ 0 → r ≠ 1 → Ev (fun k => spec_l71Cell.f k s p) x := fun h e0 e1 =>
    Ev.congr (f := fun k => (spec_l6Rd_pick.f k s p 12).bind fun bt108 => (if bt108.1 = 0 then (some (1, 0, bt108.2)) else (if bt108.1 = 1 then (spec_l71Cell.j0 k bt108.1 (bt108.1 == 1) s bt108.2) else (spec_l71Cell.j0 k bt108.1 (bt108.1 == 2) s bt108.2))))
      (fun k => rfl) (Ev.bind hr (Ev.congr (f := fun k => spec_l71Cell.j0 k r (r == 2) s (p + 1)) (fun k => by dsimp only; rw [if_neg e0, if_neg e1]) h))
  have last : ∀ {x : Int × Int × Int}, Ev (fun k => if r = 5 then (some (4, 0, p + 1)) else (if r = 6 then (some (5, 0, p + 1)) else (if r = 7 then (some (6, 0, p + 1)) else (if r = 8 then ((spec_l6Rd_pick.f k s (p + 1) 9).bind fun bt110 => (some (7, wrap64 (1 + bt110.1), bt110.2))) else (some (0, 0, p + 1)))))) x →
      r ≠ 0 → r ≠ 1 → r ≠ 2 → r ≠ 3 → r ≠ 4 → Ev (fun k => spec_l71Cell.f k s p) x := fun h e0 e1 e2 e3 e4 =>
    go (Ev.step (f := fun k => spec_l71Cell.j1 k r (r == 4) s (p + 1)) (fun k => by rw [spec_l71Cell.j0, if_neg (by simpa using e2), if_neg e3])
      (Ev.step (f := fun k => if r = 5 then (some (4, 0, p + 1)) else (if r = 6 then (some (5, 0, p + 1)) else (if r = 7 then (some (6, 0, p + 1)) else (if r = 8 then ((spec_l6Rd_pick.f k s (p + 1) 9).bind fun bt110 => (some (7, wrap64 (1 + bt110.1), bt110.2))) else (some (0, 0, p + 1)))))) (fun k => by rw [spec_l71Cell.j1, if_neg (by simpa using e4)]) h)) e0 e1
  rcases c with rfl | rfl | rfl | rfl | rfl | rfl | rfl | rfl | rfl | rfl | rfl | rfl
  · exact ⟨1, 0, p + 1, Ev.bind hr (Ev.congr (f := fun _ => some (1, 0, p + 1)) (fun k => rfl) (Ev.now _)), by omega, by omega, by unfold okc; omega⟩
  · exact ⟨2, 0, p + 1, Ev.bind hr (Ev.congr (f := fun k => spec_l71Cell.j0 k 1 true s (p + 1)) (fun k => rfl) (Ev.step (f := fun _ => some (2, 0, p + 1)) (fun k => by rw [spec_l71Cell.j0]; rfl) (Ev.now _))), by omega, by omega, by unfold okc; omega⟩
  · exact ⟨2, 0, p + 1, go (Ev.step (f := fun _ => some (2, 0, p + 1)) (fun k => by rw [spec_l71Cell.j0]; rfl) (Ev.now _)) (by omega) (by omega), by omega, by omega, by unfold okc; omega⟩
  · exact ⟨3, 0, p + 1, go (Ev.step (f := fun k => spec_l71Cell.j1 k 3 true s (p + 1)) (fun k => by rw [spec_l71Cell.j0]; rfl) (Ev.step (f := fun _ => some (3, 0, p + 1)) (fun k => by rw [spec_l71Cell.j1]; rfl) (Ev.now _))) (by omega) (by omega), by omega, by omega, by unfold okc; omega⟩
  · exact ⟨3, 0, p + 1, go (Ev.step (f := fun k => spec_l71Cell.j1 k 4 true s (p + 1)) (fun k => by rw [spec_l71Cell.j0]; rfl) (Ev.step (f := fun _ => some (3, 0, p + 1)) (fun k => by rw [spec_l71Cell.j1]; rfl) (Ev.now _))) (by omega) (by omega), by omega, by omega, by unfold okc; omega⟩
  · exact ⟨4, 0, p + 1, last (Ev.congr (f := fun _ => some (4, 0, p + 1)) (fun k => rfl) (Ev.now _)) (by omega) (by omega) (by omega) (by omega) (by omega), by omega, by omega, by unfold okc; omega⟩
  · exact ⟨5, 0, p + 1, last (Ev.congr (f := fun _ => some (5, 0, p + 1)) (fun k => rfl) (Ev.now _)) (by omega) (by omega) (by omega) (by omega) (by omega), by omega, by omega, by unfold okc; omega⟩
  · exact ⟨6, 0, p + 1, last (Ev.congr (f := fun _ => some (6, 0, p + 1)) (fun k => rfl) (Ev.now _)) (by omega) (by omega) (by omega) (by omega) (by omega), by omega, by omega, by unfold okc; omega⟩
  · refine ⟨7, 1 + t, p + 1 + 1, last (Ev.congr (f := fun k => (spec_l6Rd_pick.f k s (p + 1) 9).bind fun bt110 => (some (7, wrap64 (1 + bt110.1), bt110.2))) (fun k => rfl) (Ev.bind ht ?_)) (by omega) (by omega) (by omega) (by omega) (by omega), by omega, by omega, by unfold okc; omega⟩
    exact Ev.congr (f := fun _ => some (7, 1 + t, p + 1 + 1)) (fun k => by dsimp only; rw [w64 (by omega) (by omega)]) (Ev.now _)
  all_goals exact ⟨0, 0, p + 1, last (Ev.congr (f := fun _ => some (0, 0, p + 1)) (fun k => rfl) (Ev.now _)) (by omega) (by omega) (by omega) (by omega) (by omega), by omega, by omega, by unfold okc; omega⟩

/-- A cell of a drawn grid that is spoilt: its numbers are small. -/
def smc (k l : Int) : Prop := -1 ≤ k ∧ k ≤ 8 ∧ 0 ≤ l ∧ l ≤ 10

theorem okc_sm {k l : Int} (h : okc k l) : smc k l := by unfold okc at h; unfold smc; omega

theorem off_ev {s : List Int} (hs : Rdr s) (p : Int) (hp : 0 ≤ p) (hp' : p ≤ 900000) :
    ∃ a b, Ev (fun k => spec_l71Off.f k s p) (a, b, p + 1) ∧ smc a b := by
  obtain ⟨r, hr, h0, h1, _⟩ := pick_ev hs p 6 hp (by omega) (by omega)
  have h1 := h1 (by omega)
  have c : r = 0 ∨ r = 1 ∨ r = 2 ∨ r = 3 ∨ r = 4 ∨ r = 5 := by omega
  have go : ∀ (a b : Int), (∀ k : Nat, ((if 0 ≤ r then (if r < (([(⟨(-1), 0⟩ : S57), (⟨8, 0⟩ : S57), (⟨7, 0⟩ : S57), (⟨7, 10⟩ : S57), (⟨1, 1⟩ : S57), (⟨0, 0⟩ : S57)] : List (S57)).length : Int) then (some ((rd_T57 [(⟨(-1), 0⟩ : S57), (⟨8, 0⟩ : S57), (⟨7, 0⟩ : S57), (⟨7, 10⟩ : S57), (⟨1, 1⟩ : S57), (⟨0, 0⟩ : S57)] r).f0, (rd_T57 [(⟨(-1), 0⟩ : S57), (⟨8, 0⟩ : S57), (⟨7, 0⟩ : S57), (⟨7, 10⟩ : S57), (⟨1, 1⟩ : S57), (⟨0, 0⟩ : S57)] r).f1, p + 1)) else (none)) else (none)) : Option (Int × Int × Int)) = some (a, b, p + 1)) →
      Ev (fun k => spec_l71Off.f k s p) (a, b, p + 1) := fun a b h => Ev.bind (Ev.now _) (Ev.bind hr (Ev.congr (f := fun _ => some (a, b, p + 1)) h (Ev.now _)))
  rcases c with rfl | rfl | rfl | rfl | rfl | rfl
  · exact ⟨-1, 0, go _ _ (fun k => rfl), by unfold smc; omega⟩
  · exact ⟨8, 0, go _ _ (fun k => rfl), by unfold smc; omega⟩
  · exact ⟨7, 0, go _ _ (fun k => rfl), by unfold smc; omega⟩
  · exact ⟨7, 10, go _ _ (fun k => rfl), by unfold smc; omega⟩
  · exact ⟨1, 1, go _ _ (fun k => rfl), by unfold smc; omega⟩
  · exact ⟨0, 0, go _ _ (fun k => rfl), by unfold smc; omega⟩

theorem grid_l0_ev {s : List Int} (hs : Rdr s) (wide : Int) (n : Nat) : ∀ (cells : List (S57)) (p : Int), 0 ≤ p → p + 2 * n ≤ 900000 → cells.length + n ≤ 1000 → (∀ c ∈ cells, okc c.f0 c.f1) →
    ∃ cells' p', Ev (fun k => spec_l71Grid.l0 k (n : Int) s p wide cells) (wide, cells', p') ∧ cells'.length = cells.length + n ∧ p ≤ p' ∧ p' ≤ p + 2 * n ∧ ∀ c ∈ cells', okc c.f0 c.f1 := by
  induction n with
  | zero =>
    intro cells p hp hp' hl hc
    exact ⟨cells, p, Ev.step (f := fun _ => some (wide, cells, p)) (fun k => by rw [spec_l71Grid.l0, if_neg (by omega)]) (Ev.now _), by simp, by omega, by omega, hc⟩
  | succ n ih =>
    intro cells p hp hp' hl hc
    obtain ⟨a, b, p1, hev, h1, h2, hok⟩ := cell_ev hs p hp (by omega)
    obtain ⟨cells', p', hev', hl', h1', h2', hc'⟩ := ih (cells ++ [(⟨a, b⟩ : S57)]) p1 (by omega) (by omega) (by simp; omega) (by
      intro c hm
      rcases List.mem_append.1 hm with h | h
      · exact hc c h
      · simp at h; subst h; exact hok)
    refine ⟨cells', p', ?_, by rw [hl']; simp; omega, by omega, by omega, hc'⟩
    refine Ev.step (f := fun k => (spec_l71Cell.f k s p).bind fun bt118 => (if cells.length < 8796093022208 then (spec_l71Grid.l0 k (wrap64 (((n + 1 : Nat) : Int) - 1)) s bt118.2.2 wide (cells ++ [(⟨bt118.1, bt118.2.1⟩ : S57)])) else (none))) (fun k => by rw [spec_l71Grid.l0, if_pos (by omega)]) ?_
    refine Ev.bind hev (Ev.congr (f := fun k => spec_l71Grid.l0 k (n : Int) s p1 wide (cells ++ [(⟨a, b⟩ : S57)])) (fun k => ?_) hev')
    dsimp only
    rw [if_pos (by omega), w64 (by omega) (by omega), show ((n + 1 : Nat) : Int) - 1 = (n : Int) from by omega]

theorem grid_ev {s : List Int} (hs : Rdr s) (p : Int) (hp : 0 ≤ p) (hp' : p ≤ 800000) :
    ∃ wide cells p', Ev (fun k => spec_l71Grid.f k s p) (wide, cells, p') ∧ 1 ≤ wide ∧ wide ≤ 5 ∧ (∃ high : Int, 1 ≤ high ∧ high ≤ 5 ∧ (cells.length : Int) = wide * high) ∧ p ≤ p' ∧ p' ≤ p + 52 ∧ ∀ c ∈ cells, okc c.f0 c.f1 := by
  obtain ⟨a, ha, a0, a1, _⟩ := pick_ev hs p 5 hp (by omega) (by omega)
  have a1 := a1 (by omega)
  obtain ⟨b, hb, b0, b1, _⟩ := pick_ev hs (p + 1) 5 (by omega) (by omega) (by omega)
  have b1 := b1 (by omega)
  have hm : 1 ≤ (1 + a) * (1 + b) ∧ (1 + a) * (1 + b) ≤ 25 := by
    have : a = 0 ∨ a = 1 ∨ a = 2 ∨ a = 3 ∨ a = 4 := by omega
    rcases this with rfl | rfl | rfl | rfl | rfl <;> omega
  obtain ⟨n, hn⟩ := Int.eq_ofNat_of_zero_le (a := (1 + a) * (1 + b)) (by omega)
  obtain ⟨cells, p', hev, hl, h1, h2, hc⟩ := grid_l0_ev hs (1 + a) n [] (p + 1 + 1) (by omega) (by omega) (by simp; omega) (by simp)
  refine ⟨1 + a, cells, p', ?_, by omega, by omega, ⟨1 + b, by omega, by omega, by rw [hn, hl]; simp⟩, by omega, by omega, hc⟩
  refine Ev.bind ha (Ev.bind hb (Ev.congr (f := fun k => spec_l71Grid.l0 k (n : Int) s (p + 1 + 1) (1 + a) []) (fun k => ?_) hev))
  dsimp only
  rw [w64 (x := 1 + a) (by omega) (by omega), w64 (x := 1 + b) (by omega) (by omega), w64 (x := (1 + a) * (1 + b)) (by omega) (by omega), hn]

theorem fill_ev {s : List Int} (p wide : Int) (hw : -1 ≤ wide) (hw' : wide ≤ 6) (d : Nat) : ∀ (cells : List (S57)), cells.length ≤ 31 → (cells.length : Int) + d = max (wide * 5 + 1) cells.length → (∀ c ∈ cells, smc c.f0 c.f1) →
    ∃ cells', Ev (fun k => spec_l71Some.l0 k s p wide cells) (wide, cells', p) ∧ cells'.length ≤ 31 ∧ ∀ c ∈ cells', smc c.f0 c.f1 := by
  have e : wrap64 (wide * 5) = wide * 5 := w64 (by omega) (by omega)
  induction d with
  | zero =>
    intro cells hl hd hc
    exact ⟨cells, Ev.step (f := fun _ => some (wide, cells, p)) (fun k => by rw [spec_l71Some.l0, e, if_neg (by omega)]) (Ev.now _), hl, hc⟩
  | succ d ih =>
    intro cells hl hd hc
    obtain ⟨cells', hev, hl', hc'⟩ := ih (cells ++ [(⟨0, 0⟩ : S57)]) (by simp; omega) (by simp; omega) (by
      intro c hm
      rcases List.mem_append.1 hm with h | h
      · exact hc c h
      · simp at h; subst h; show smc 0 0; unfold smc; omega)
    exact ⟨cells', Ev.step (f := fun k => spec_l71Some.l0 k s p wide (cells ++ [(⟨0, 0⟩ : S57)])) (fun k => by rw [spec_l71Some.l0, e, if_pos (by omega), if_pos (by omega)]) hev, hl', hc'⟩

/-- What a drawn grid is at the most. -/
structure Small (wide : Int) (cells : List (S57)) : Prop where
  lo : -1 ≤ wide
  hi : wide ≤ 6
  len : cells.length ≤ 31
  all : ∀ c ∈ cells, smc c.f0 c.f1

theorem some_ev {s : List Int} (hs : Rdr s) (p : Int) (hp : 0 ≤ p) (hp' : p ≤ 700000) :
    ∃ wide cells p', Ev (fun k => spec_l71Some.f k s p) (wide, cells, p') ∧ Small wide cells ∧ p ≤ p' ∧ p' ≤ p + 60 := by
  obtain ⟨wide, cells, p1, hg, w0, w1, ⟨high, z0, z1, hl⟩, h1, h2, hok⟩ := grid_ev hs p hp (by omega)
  have hsm : ∀ c ∈ cells, smc c.f0 c.f1 := fun c hc => okc_sm (hok c hc)
  have hlen : 1 ≤ cells.length ∧ cells.length ≤ 25 := by
    have : wide = 1 ∨ wide = 2 ∨ wide = 3 ∨ wide = 4 ∨ wide = 5 := by omega
    rcases this with rfl | rfl | rfl | rfl | rfl <;> omega
  obtain ⟨r, hr, r0, r1, _⟩ := pick_ev hs p1 24 (by omega) (by omega) (by omega)
  by_cases hr0 : r > 0
  · exact ⟨wide, cells, p1 + 1, Ev.bind hg (Ev.bind hr (Ev.congr (f := fun _ => some (wide, cells, p1 + 1)) (fun k => by dsimp only; rw [if_pos hr0]) (Ev.now _))), ⟨by omega, by omega, by omega, hsm⟩, by omega, by omega⟩
  · obtain ⟨t, ht, t0, t1, _⟩ := pick_ev hs (p1 + 1) 5 (by omega) (by omega) (by omega)
    have t1 := t1 (by omega)
    have c : t = 0 ∨ t = 1 ∨ t = 2 ∨ t = 3 ∨ t = 4 := by omega
    rcases c with rfl | rfl | rfl | rfl | rfl
    · obtain ⟨u, hu, u0, u1, _⟩ := pick_ev hs (p1 + 1 + 1) 3 (by omega) (by omega) (by omega)
      have u1 := u1 (by omega)
      have hv : -1 ≤ rd [0, (-1), 6] u ∧ rd [0, (-1), 6] u ≤ 6 := by
        have : u = 0 ∨ u = 1 ∨ u = 2 := by omega
        rcases this with rfl | rfl | rfl <;> decide
      refine ⟨rd [0, (-1), 6] u, cells, p1 + 1 + 1 + 1, Ev.bind hg (Ev.bind hr (Ev.congr (fun k => by dsimp only; rw [if_neg hr0]) (Ev.bind ht (Ev.congr (f := fun k => (some ([0, (-1), 6] : List Int)).bind fun y142 => ((spec_l6Rd_pick.f k s (p1 + 1 + 1) 3).bind fun bt145 => (if 0 ≤ bt145.1 then (if bt145.1 < (y142.length : Int) then (some (rd y142 bt145.1, cells, bt145.2)) else (none)) else (none)))) (fun k => by dsimp only; rw [if_pos rfl]) (Ev.bind (Ev.now _) (Ev.bind hu (Ev.congr (f := fun _ => some (rd [0, (-1), 6] u, cells, p1 + 1 + 1 + 1)) (fun k => ?_) (Ev.now _)))))))), ⟨hv.1, hv.2, by omega, hsm⟩, by omega, by omega⟩
      dsimp only
      rw [if_pos u0, if_pos (by simp; omega)]
    · refine ⟨wide, cells.drop 1, p1 + 1 + 1, Ev.bind hg (Ev.bind hr (Ev.congr (fun k => by dsimp only; rw [if_neg hr0]) (Ev.bind ht (Ev.congr (f := fun _ => some (wide, cells.drop 1, p1 + 1 + 1)) (fun k => ?_) (Ev.now _))))), ⟨by omega, by omega, by simp; omega, fun c hc => hsm c (List.mem_of_mem_drop hc)⟩, by omega, by omega⟩
      dsimp only
      rw [if_neg (by decide), if_pos rfl, if_pos (by omega)]
      rfl
    · obtain ⟨u, hu, u0, u1, _⟩ := pick_ev hs (p1 + 1 + 1) (cells.length : Int) (by omega) (by omega) (by omega)
      have u1 := u1 (by omega)
      obtain ⟨a, b, ho, hab⟩ := off_ev hs (p1 + 1 + 1 + 1) (by omega) (by omega)
      refine ⟨wide, cells.set u.toNat ⟨a, b⟩, p1 + 1 + 1 + 1 + 1, Ev.bind hg (Ev.bind hr (Ev.congr (fun k => by dsimp only; rw [if_neg hr0]) (Ev.bind ht (Ev.congr (fun k => by dsimp only; rw [if_neg (by decide), if_neg (by decide), if_pos rfl]) (Ev.bind hu (Ev.bind ho (Ev.congr (f := fun _ => some (wide, cells.set u.toNat ⟨a, b⟩, p1 + 1 + 1 + 1 + 1)) (fun k => ?_) (Ev.now _)))))))), ⟨by omega, by omega, by simp; omega, fun c hc => ?_⟩, by omega, by omega⟩
      · dsimp only
        rw [if_pos u0, if_pos u1]
      · rcases List.mem_or_eq_of_mem_set hc with h | h
        · exact hsm c h
        · subst h; exact hab
    · obtain ⟨cells', hev, hl', hc'⟩ := fill_ev (s := s) (p1 + 1 + 1) wide (by omega) (by omega) (max (wide * 5 + 1) cells.length - cells.length).toNat cells (by omega) (by omega) hsm
      exact ⟨wide, cells', p1 + 1 + 1, Ev.bind hg (Ev.bind hr (Ev.congr (fun k => by dsimp only; rw [if_neg hr0]) (Ev.bind ht (Ev.congr (f := fun k => spec_l71Some.l0 k s (p1 + 1 + 1) wide cells) (fun k => by dsimp only; rw [if_neg (by decide), if_neg (by decide), if_neg (by decide), if_pos rfl]) hev)))), ⟨by omega, by omega, hl', hc'⟩, by omega, by omega⟩
    · refine ⟨wide, [], p1 + 1 + 1, Ev.bind hg (Ev.bind hr (Ev.congr (fun k => by dsimp only; rw [if_neg hr0]) (Ev.bind ht (Ev.congr (f := fun _ => some (wide, [], p1 + 1 + 1)) (fun k => ?_) (Ev.now _))))), ⟨by omega, by omega, by simp, by simp⟩, by omega, by omega⟩
      dsimp only
      rw [if_neg (by decide), if_neg (by decide), if_neg (by decide), if_neg (by decide)]

end Go.Proofs.Ytefbfeaeifbjeaa.DFnOwnAll
