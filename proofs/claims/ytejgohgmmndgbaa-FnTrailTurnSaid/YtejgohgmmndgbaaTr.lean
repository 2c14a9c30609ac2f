/- Light's walk in plain Lean: what impl.trailOf and spec.l11Go both compute; that it ends, and how long it may be. No program in sight. -/
namespace Go.Proofs.Ytejgohgmmndgbaa.Tr
set_option linter.unusedVariables false

def dirT (k d : Int) : Int := if k = 2 ∨ k = 4 then (if d = 0 then 1 else if d = 1 then 0 else if d = 2 then 3 else 2) else if k = 3 ∨ k = 5 then 3 - d else d
def dl (w d : Int) : Int := if d = 0 then -w else if d = 1 then 1 else if d = 2 then w else -1
def nxt (w n a d : Int) : Option Int :=
 if d = 0 then (if w ≤ a then some (a - w) else none)
 else if d = 1 then (if a % w ≠ w - 1 then some (a + 1) else none)
 else if d = 2 then (if a + w < n then some (a + w) else none)
 else (if a % w ≠ 0 then some (a - 1) else none)
abbrev V := Int × Int × Int
abbrev Tr := List V × List V
def en (k a wt : Int) : List V := if wt > 0 then [(k, a, wt)] else []
section
variable (w n : Int) (kd : Int → Int) (sg : Int → Int → Int)
def lv (go : Int → Int → Int → Option Tr) (a d wt : Int) : Option Tr :=
 if wt = 0 then some ([], []) else match nxt w n a d with
  | some a' => go a' d wt
  | none => some ([], [(0, sg a d, wt)])
def go : Nat → Int → Int → Int → Option Tr
 | 0, _, _, _ => none
 | q + 1, a, d, wt =>
  if wt = 0 then some ([], [])
  else if kd a = 1 then some ([(a, d, wt)], [(1, a, wt)])
  else if kd a = 7 then some ([(a, d, wt)], [(2, a, wt)])
  else if kd a = 6 then (lv w n sg (go q) a d (wt / 2)).bind fun t => some ((a, d, wt) :: t.1, en 3 a (wt - wt / 2) ++ t.2)
  else if kd a = 4 ∨ kd a = 5 then (lv w n sg (go q) a d (wt / 2)).bind fun t => (lv w n sg (go q) a (dirT (kd a) d) (wt / 2)).bind fun u => some ((a, d, wt) :: (t.1 ++ u.1), en 3 a (wt - 2 * (wt / 2)) ++ (t.2 ++ u.2))
  else (lv w n sg (go q) a (dirT (kd a) d) wt).bind fun t => some ((a, d, wt) :: t.1, t.2)
end
/-! ### more rounds tell the same -/
theorem bind_some {α β : Type} {o : Option α} {f : α → Option β} {r : β} (h : o.bind f = some r) : ∃ a, o = some a ∧ f a = some r := by
 cases o with
 | none => cases h
 | some a => exact ⟨a, rfl, h⟩
theorem lv_mono {w n : Int} {sg : Int → Int → Int} {g g' : Int → Int → Int → Option Tr} (h : ∀ a d wt r, g a d wt = some r → g' a d wt = some r) : ∀ a d wt r, lv w n sg g a d wt = some r → lv w n sg g' a d wt = some r := by
 intro a d wt r hr
 unfold lv at hr ⊢
 split
 ·rename_i h0; rw [if_pos h0] at hr; exact hr
 ·rename_i h0; rw [if_neg h0] at hr
  split
  ·rename_i a' ha; rw [ha] at hr; exact h _ _ _ _ hr
  ·rename_i ha; rw [ha] at hr; exact hr
theorem go_mono {w n : Int} {kd : Int → Int} {sg : Int → Int → Int} : ∀ (q : Nat) a d wt r, go w n kd sg q a d wt = some r → go w n kd sg (q + 1) a d wt = some r
 | 0, _, _, _, _, h => by cases h
 | q + 1, a, d, wt, r, h => by
  have ih := go_mono (w := w) (n := n) (kd := kd) (sg := sg) q
  rw [go] at h ⊢
  by_cases h0 : wt = 0
  ·rw [if_pos h0] at h ⊢; exact h
  rw [if_neg h0] at h ⊢
  by_cases h1 : kd a = 1
  ·rw [if_pos h1] at h ⊢; exact h
  rw [if_neg h1] at h ⊢
  by_cases h7 : kd a = 7
  ·rw [if_pos h7] at h ⊢; exact h
  rw [if_neg h7] at h ⊢
  by_cases h6 : kd a = 6
  ·rw [if_pos h6] at h ⊢
   obtain ⟨t, ht, h⟩ := bind_some h
   rw [lv_mono ih _ _ _ _ ht]; exact h
  rw [if_neg h6] at h ⊢
  by_cases h4 : kd a = 4 ∨ kd a = 5
  ·rw [if_pos h4] at h ⊢
   obtain ⟨t, ht, h⟩ := bind_some h
   obtain ⟨u, hu, h⟩ := bind_some h
   rw [lv_mono ih _ _ _ _ ht, Option.bind_some, lv_mono ih _ _ _ _ hu]; exact h
  ·rw [if_neg h4] at h ⊢
   obtain ⟨t, ht, h⟩ := bind_some h
   rw [lv_mono ih _ _ _ _ ht]; exact h
theorem go_le {w n : Int} {kd : Int → Int} {sg : Int → Int → Int} {q q' : Nat} (hq : q ≤ q') {a d wt : Int} {r : Tr} (h : go w n kd sg q a d wt = some r) : go w n kd sg q' a d wt = some r := by
 induction hq with
 | refl => exact h
 | step _ ih => exact go_mono _ _ _ _ _ ih
theorem lv_le {w n : Int} {kd : Int → Int} {sg : Int → Int → Int} {q q' : Nat} (hq : q ≤ q') {a d wt : Int} {r : Tr} (h : lv w n sg (go w n kd sg q) a d wt = some r) : lv w n sg (go w n kd sg q') a d wt = some r :=
 lv_mono (fun _ _ _ _ h => go_le hq h) _ _ _ _ h
/-! ### the step leads back one way -/
theorem nxt_back {w n a d a' : Int} (hd : 0 ≤ d ∧ d ≤ 3) (h : nxt w n a d = some a') : a' = a + dl w d := by
 unfold nxt at h; unfold dl
 obtain ⟨h0, h3⟩ := hd
 have c : d = 0 ∨ d = 1 ∨ d = 2 ∨ d = 3 := by omega
 rcases c with rfl | rfl | rfl | rfl <;> simp at h ⊢ <;> omega
theorem dirT_ok {k d : Int} (hd : 0 ≤ d ∧ d ≤ 3) : 0 ≤ dirT k d ∧ dirT k d ≤ 3 := by
 unfold dirT; split
 ·split; · omega
  split; · omega
  split <;> omega
 ·split <;> omega
theorem dirT_inj {k d d' : Int} (hd : 0 ≤ d ∧ d ≤ 3) (hd' : 0 ≤ d' ∧ d' ≤ 3) (h : dirT k d = dirT k d') : d = d' := by
 have c : d = 0 ∨ d = 1 ∨ d = 2 ∨ d = 3 := by omega
 have c' : d' = 0 ∨ d' = 1 ∨ d' = 2 ∨ d' = 3 := by omega
 unfold dirT at h
 by_cases h1 : k = 2 ∨ k = 4
 ·rw [if_pos h1, if_pos h1] at h
  rcases c with rfl | rfl | rfl | rfl <;> rcases c' with rfl | rfl | rfl | rfl <;> simp at h <;> rfl
 ·rw [if_neg h1, if_neg h1] at h
  by_cases h2 : k = 3 ∨ k = 5
  ·rw [if_pos h2, if_pos h2] at h; omega
  ·rw [if_neg h2, if_neg h2] at h; exact h
/-! ### the walk stays within the grid -/
theorem nxt_in {w n a d a' : Int} (hw : 1 ≤ w) (hn : n % w = 0) (ha : 0 ≤ a ∧ a < n) (hd : 0 ≤ d ∧ d ≤ 3) (h : nxt w n a d = some a') : 0 ≤ a' ∧ a' < n := by
 obtain ⟨h0, h3⟩ := hd
 obtain ⟨a0, a1⟩ := ha
 have r0 : 0 ≤ a % w := Int.emod_nonneg _ (by omega)
 have r1 : a % w < w := Int.emod_lt_of_pos _ (by omega)
 have c : d = 0 ∨ d = 1 ∨ d = 2 ∨ d = 3 := by omega
 unfold nxt at h
 rcases c with rfl | rfl | rfl | rfl
 ·simp at h; omega
 ·simp at h
  obtain ⟨hc, rfl⟩ := h
  refine ⟨by omega, ?_⟩
  by_cases he : a + 1 = n
  ·exfalso
   have h1 : (a % w + 1) % w = 0 := by rw [Int.emod_add_emod, he]; exact hn
   by_cases h2 : a % w + 1 < w
   ·rw [Int.emod_eq_of_lt (by omega) h2] at h1; omega
   ·omega
  ·omega
 ·simp at h; omega
 ·simp at h
  obtain ⟨hc, rfl⟩ := h
  have : a ≠ 0 := by rintro rfl; exact hc (by simp)
  omega
theorem nodup_lt : ∀ (N : Nat) (L : List Nat), L.Nodup → (∀ x ∈ L, x < N) → L.length ≤ N
 | 0, L, _, h => by
  cases L with
  | nil => exact Nat.le_refl _
  | cons x L => exact absurd (h x (List.mem_cons_self ..)) (by omega)
 | N + 1, L, hn, h => by
  by_cases hm : N ∈ L
  ·have ih := nodup_lt N (L.erase N) (hn.erase N) (fun x hx => by
    have h1 := (hn.mem_erase_iff).1 hx
    have h2 := h x h1.2
    have h3 := h1.1
    omega)
   rw [List.length_erase_of_mem hm] at ih
   omega
  ·have ih := nodup_lt N L hn (fun x hx => by
    have h2 := h x hx
    have h3 : x ≠ N := fun e => hm (e ▸ hx)
    omega)
   omega
/-- A state: a cell of the grid, and a direction. -/
def Ok (n : Int) (s : Int × Int) : Prop := (0 ≤ s.1 ∧ s.1 < n) ∧ (0 ≤ s.2 ∧ s.2 ≤ 3)
theorem states_le {n : Int} {N : Nat} (hN : n = (N : Int)) (L : List (Int × Int)) (hd : L.Nodup) (ho : ∀ s ∈ L, Ok n s) : L.length ≤ 4 * N := by
 have h := nodup_lt (4 * N) (L.map fun s => (s.1 * 4 + s.2).toNat) ?_ ?_
 ·rwa [List.length_map] at h
 ·have h1 : L.Pairwise (fun a b => a ≠ b ∧ Ok n a ∧ Ok n b) := by
   refine List.Pairwise.imp_of_mem ?_ hd
   intro a b ha hb hab
   exact ⟨hab, ho a ha, ho b hb⟩
  refine List.Pairwise.map _ ?_ h1
  rintro ⟨a1, a2⟩ ⟨b1, b2⟩ ⟨hab, ⟨ha1, ha2⟩, hb1, hb2⟩ e
  apply hab
  simp at ha1 ha2 hb1 hb2 e
  have : a1 = b1 ∧ a2 = b2 := by omega
  rw [this.1, this.2]
 ·intro x hx
  obtain ⟨⟨s1, s2⟩, hs, rfl⟩ := List.mem_map.1 hx
  obtain ⟨h1, h2⟩ := ho _ hs
  simp at h1 h2
  omega
/-! ### it ends -/
def through (k : Int) : Prop := k ≠ 1 ∧ k ≠ 7 ∧ k ≠ 6 ∧ ¬(k = 4 ∨ k = 5)
/-- p leads to t without loss. -/
def leads (w n : Int) (kd : Int → Int) (p t : Int × Int) : Prop := through (kd p.1) ∧ t.2 = dirT (kd p.1) p.2 ∧ nxt w n p.1 t.2 = some t.1
theorem leads_inj {w n : Int} {kd : Int → Int} {p p' t : Int × Int} (hp : Ok n p) (hp' : Ok n p') (h : leads w n kd p t) (h' : leads w n kd p' t) : p = p' := by
 obtain ⟨_, e, hn⟩ := h
 obtain ⟨_, e', hn'⟩ := h'
 have o := dirT_ok (k := kd p.1) hp.2
 rw [← e] at o
 have b := nxt_back o hn
 have b' := nxt_back o hn'
 have h1 : p.1 = p'.1 := by omega
 have h2 : p.2 = p'.2 := dirT_inj (k := kd p.1) hp.2 hp'.2 (by rw [← e, e', h1])
 exact Prod.ext h1 h2
/-- s0 has no forerunner that leads to it without loss. -/
def Fresh (w n : Int) (kd : Int → Int) (s : Int × Int) : Prop := ∀ p, Ok n p → ¬ leads w n kd p s
structure Inv (w n : Int) (kd : Int → Int) (s : Int × Int) (L : List (Int × Int)) : Prop where
 nd : (s :: L).Nodup
 ok : ∀ t ∈ s :: L, Ok n t
 pre : ∀ t ∈ s :: L, Fresh w n kd t ∨ ∃ p ∈ L, leads w n kd p t
theorem Inv.start {w n : Int} {kd : Int → Int} {s : Int × Int} (h : Ok n s) (hf : Fresh w n kd s) : Inv w n kd s [] :=
 ⟨by simp, by simpa using h, by simp; exact hf⟩
theorem Inv.step {w n : Int} {kd : Int → Int} {s t : Int × Int} {L : List (Int × Int)} (h : Inv w n kd s L) (ht : Ok n t) (hl : leads w n kd s t) : Inv w n kd t (s :: L) := by
 have hs := h.ok s (List.mem_cons_self ..)
 refine ⟨List.nodup_cons.2 ⟨?_, h.nd⟩, ?_, ?_⟩
 ·intro hm
  rcases h.pre t hm with hf | ⟨p, hp, hpt⟩
  ·exact hf s hs hl
  ·have e := leads_inj (h.ok p (List.mem_cons_of_mem _ hp)) hs hpt hl
   subst e
   exact (List.nodup_cons.1 h.nd).1 hp
 ·intro u hu
  rcases List.mem_cons.1 hu with rfl | hu
  ·exact ht
  ·exact h.ok u hu
 ·intro u hu
  rcases List.mem_cons.1 hu with rfl | hu
  ·exact .inr ⟨s, List.mem_cons_self .., hl⟩
  ·rcases h.pre u hu with hf | ⟨p, hp, hpu⟩
   ·exact .inl hf
   ·exact .inr ⟨p, List.mem_cons_of_mem _ hp, hpu⟩
theorem fresh_of {w n : Int} {kd : Int → Int} {a d a' : Int} (hd : 0 ≤ d ∧ d ≤ 3) (hk : ¬ through (kd a)) (h : nxt w n a d = some a') : Fresh w n kd (a', d) := by
 rintro ⟨p1, p2⟩ hp ⟨ht, e, hx⟩
 have b := nxt_back hd h
 have o : 0 ≤ d ∧ d ≤ 3 := hd
 have b' := nxt_back (d := d) o hx
 have : p1 = a := by simp at b'; omega
 exact hk (this ▸ ht)
section
variable {w n : Int} {kd : Int → Int} {sg : Int → Int → Int} {N : Nat}
theorem lv_ex (hw : 1 ≤ w) (hn : n % w = 0) (a d : Int) (ha : 0 ≤ a ∧ a < n) (hd : 0 ≤ d ∧ d ≤ 3) (hk : ¬ through (kd a)) (m B : Nat)
  (h : 0 < m → ∀ s, Ok n s → Fresh w n kd s → ∃ q t, go w n kd sg q s.1 s.2 (m : Int) = some t ∧ t.1.length ≤ B) :
  ∃ q t, lv w n sg (go w n kd sg q) a d (m : Int) = some t ∧ t.1.length ≤ B := by
 unfold lv
 by_cases h0 : m = 0
 ·subst h0; exact ⟨0, ([], []), by simp, by simp⟩
 ·have hne : ¬ ((m : Int) = 0) := by omega
  cases hx : nxt w n a d with
  | none => exact ⟨0, ([], [(0, sg a d, (m : Int))]), by rw [if_neg hne], by simp⟩
  | some a' =>
   obtain ⟨q, t, hq, hl⟩ := h (by omega) (a', d) ⟨nxt_in hw hn ha hd hx, hd⟩ (fresh_of hd hk hx)
   exact ⟨q, t, by rw [if_neg hne]; exact hq, hl⟩
theorem ex (hw : 1 ≤ w) (hn : n % w = 0) (hN : n = (N : Int)) : ∀ (m : Nat), 0 < m → ∀ (j : Nat) (s : Int × Int) (L : List (Int × Int)), Inv w n kd s L → j + L.length = 4 * N → ∃ q t, go w n kd sg q s.1 s.2 (m : Int) = some t ∧ t.1.length ≤ j + 8 * N * (m - 1) := by
 intro m
 induction m using Nat.strongRecOn with
 | _ m ihm =>
 intro hm j
 induction j with
 | zero =>
  intro s L hI hj
  have := states_le hN (s :: L) hI.nd hI.ok
  simp at this; omega
 | succ j ihj =>
  intro s L hI hj
  obtain ⟨a, d⟩ := s
  have hok := hI.ok (a, d) (List.mem_cons_self ..)
  have ha : 0 ≤ a ∧ a < n := hok.1
  have hd : 0 ≤ d ∧ d ≤ 3 := hok.2
  have hne : ¬ ((m : Int) = 0) := by omega
  have hhalf : (m : Int) / 2 = ((m / 2 : Nat) : Int) := by omega
  have hsub : 0 < m / 2 → ∀ s, Ok n s → Fresh w n kd s → ∃ q t, go w n kd sg q s.1 s.2 ((m / 2 : Nat) : Int) = some t ∧ t.1.length ≤ 4 * N + 8 * N * (m / 2 - 1) := fun hp s hs hf => ihm (m / 2) (by omega) hp (4 * N) s [] (Inv.start hs hf) (by simp)
  have hmul : 2 * (8 * N * (m / 2 - 1)) ≤ 8 * N * (m - 2) := by
   rw [← Nat.mul_left_comm, ]
   exact Nat.mul_le_mul_left _ (by omega)
  have hstep : 2 ≤ m → 8 * N * (m - 1) = 8 * N * (m - 2) + 8 * N := by
   intro h2
   rw [show m - 1 = (m - 2) + 1 from by omega, Nat.mul_add, Nat.mul_one]
  have hB : (m / 2 = 0 → True) := fun _ => trivial
  by_cases k1 : kd a = 1
  ·exact ⟨1, _, by rw [go, if_neg hne, if_pos k1], by simp; omega⟩
  by_cases k7 : kd a = 7
  ·exact ⟨1, _, by rw [go, if_neg hne, if_neg k1, if_pos k7], by simp; omega⟩
  by_cases k6 : kd a = 6
  ·have hk : ¬ through (kd a) := fun h => h.2.2.1 k6
   by_cases h2 : 2 ≤ m
   ·obtain ⟨q, t, hq, hl⟩ := lv_ex (sg := sg) hw hn a d ha hd hk (m / 2) _ hsub
    refine ⟨q + 1, _, by rw [go, if_neg hne, if_neg k1, if_neg k7, if_pos k6, hhalf, hq]; rfl, ?_⟩
    have := hstep h2
    simp only [List.length_cons]; omega
   ·have hz : m / 2 = 0 := by omega
    refine ⟨1, ((a, d, (m : Int)) :: [], en 3 a ((m : Int) - (m : Int) / 2) ++ []), by rw [go, if_neg hne, if_neg k1, if_neg k7, if_pos k6, hhalf, hz]; rfl, ?_⟩
    simp; omega
  by_cases k4 : kd a = 4 ∨ kd a = 5
  ·have hk : ¬ through (kd a) := fun h => h.2.2.2 k4
   by_cases h2 : 2 ≤ m
   ·obtain ⟨q, t, hq, hl⟩ := lv_ex (sg := sg) hw hn a d ha hd hk (m / 2) _ hsub
    obtain ⟨q', u, hq', hl'⟩ := lv_ex (sg := sg) hw hn a (dirT (kd a) d) ha (dirT_ok hd) hk (m / 2) _ hsub
    have e1 := lv_le (Nat.le_max_left q q') hq
    have e2 := lv_le (Nat.le_max_right q q') hq'
    refine ⟨max q q' + 1, _, by rw [go, if_neg hne, if_neg k1, if_neg k7, if_neg k6, if_pos k4, hhalf, e1, Option.bind_some, e2]; rfl, ?_⟩
    have := hstep h2
    simp only [List.length_cons, List.length_append]; omega
   ·have hz : m / 2 = 0 := by omega
    refine ⟨1, ((a, d, (m : Int)) :: ([] ++ []), en 3 a ((m : Int) - 2 * ((m : Int) / 2)) ++ ([] ++ [])), by rw [go, if_neg hne, if_neg k1, if_neg k7, if_neg k6, if_pos k4, hhalf, hz]; rfl, ?_⟩
    simp; omega
  have hk : through (kd a) := ⟨k1, k7, k6, k4⟩
  cases hx : nxt w n a (dirT (kd a) d) with
  | none => exact ⟨1, _, by rw [go, if_neg hne, if_neg k1, if_neg k7, if_neg k6, if_neg k4, lv, if_neg hne, hx]; rfl, by simp; omega⟩
  | some a' =>
   have hx' := nxt_in hw hn ha (dirT_ok hd) hx
   obtain ⟨q, t, hq, hl⟩ := ihj (a', dirT (kd a) d) ((a, d) :: L) (hI.step ⟨hx', dirT_ok hd⟩ ⟨hk, rfl, hx⟩) (by simp; omega)
   have hq : go w n kd sg q a' (dirT (kd a) d) (m : Int) = some t := hq
   exact ⟨q + 1, ((a, d, (m : Int)) :: t.1, t.2), by rw [go, if_neg hne, if_neg k1, if_neg k7, if_neg k6, if_neg k4, lv, if_neg hne, hx]; simp only; rw [hq]; rfl, by simp only [List.length_cons]; omega⟩
end
/-! ### what holds of all ends -/
section
variable {w n : Int} {kd : Int → Int} {sg : Int → Int → Int}
theorem en_mem {k a wt : Int} {e : V} (h : e ∈ en k a wt) : e = (k, a, wt) ∧ 0 < wt := by
 unfold en at h
 by_cases hw : wt > 0
 ·rw [if_pos hw] at h; exact ⟨by simpa using h, hw⟩
 ·rw [if_neg hw] at h; simp at h
theorem go_all (hw : 1 ≤ w) (hn : n % w = 0) (P : V → Prop) (hen : ∀ k a wt, k ≠ 0 → P (k, a, wt)) (hout : ∀ a d wt, Ok n (a, d) → kd a ≠ 1 → kd a ≠ 7 → nxt w n a d = none → P (0, sg a d, wt)) :
  ∀ (q : Nat) (a d wt : Int) (t : Tr), Ok n (a, d) → go w n kd sg q a d wt = some t → ∀ e ∈ t.2, P e
 | 0, _, _, _, _, _, h => by cases h
 | q + 1, a, d, wt, t, ho, h => by
  have ih := go_all hw hn P hen hout q
  have hlv : kd a ≠ 1 → kd a ≠ 7 → ∀ d wt t, (0 ≤ d ∧ d ≤ 3) → lv w n sg (go w n kd sg q) a d wt = some t → ∀ e ∈ t.2, P e := by
   intro k1 k7 d wt t hd h e he
   unfold lv at h
   by_cases h0 : wt = 0
   ·rw [if_pos h0] at h; cases h; simp at he
   ·rw [if_neg h0] at h
    cases hx : nxt w n a d with
    | none => rw [hx] at h; cases h; simp at he; rw [he]; exact hout _ _ _ ⟨ho.1, hd⟩ k1 k7 hx
    | some a' => rw [hx] at h; exact ih a' d wt t ⟨nxt_in hw hn ho.1 hd hx, hd⟩ h e he
  have hdd : 0 ≤ d ∧ d ≤ 3 := ho.2
  rw [go] at h
  intro e he
  by_cases h0 : wt = 0
  ·rw [if_pos h0] at h; cases h; simp at he
  rw [if_neg h0] at h
  by_cases k1 : kd a = 1
  ·rw [if_pos k1] at h; cases h; simp at he; rw [he]; exact hen _ _ _ (by decide)
  rw [if_neg k1] at h
  by_cases k7 : kd a = 7
  ·rw [if_pos k7] at h; cases h; simp at he; rw [he]; exact hen _ _ _ (by decide)
  rw [if_neg k7] at h
  by_cases k6 : kd a = 6
  ·rw [if_pos k6] at h
   obtain ⟨u, hu, h⟩ := bind_some h
   cases h
   rcases List.mem_append.1 he with he | he
   ·rw [(en_mem he).1]; exact hen _ _ _ (by decide)
   ·exact hlv k1 k7 _ _ _ hdd hu e he
  rw [if_neg k6] at h
  by_cases k4 : kd a = 4 ∨ kd a = 5
  ·rw [if_pos k4] at h
   obtain ⟨u, hu, h⟩ := bind_some h
   obtain ⟨v, hv, h⟩ := bind_some h
   cases h
   rcases List.mem_append.1 he with he | he
   ·rw [(en_mem he).1]; exact hen _ _ _ (by decide)
   ·rcases List.mem_append.1 he with he | he
    ·exact hlv k1 k7 _ _ _ hdd hu e he
    ·exact hlv k1 k7 _ _ _ (dirT_ok hdd) hv e he
  ·rw [if_neg k4] at h
   obtain ⟨u, hu, h⟩ := bind_some h
   cases h
   exact hlv k1 k7 _ _ _ (dirT_ok hdd) hu e he
/-- There are at most three ends a visit. -/
theorem ends_le : ∀ (q : Nat) (a d wt : Int) (t : Tr), go w n kd sg q a d wt = some t → t.2.length ≤ 3 * t.1.length
 | 0, _, _, _, _, h => by cases h
 | q + 1, a, d, wt, t, h => by
  have ih := ends_le q
  have hlv : ∀ d wt t, lv w n sg (go w n kd sg q) a d wt = some t → t.2.length ≤ 3 * t.1.length + 1 := by
   intro d wt t h
   unfold lv at h
   by_cases h0 : wt = 0
   ·rw [if_pos h0] at h; cases h; simp
   ·rw [if_neg h0] at h
    cases hx : nxt w n a d with
    | none => rw [hx] at h; cases h; simp
    | some a' => rw [hx] at h; have := ih a' d wt t h; omega
  have hen : ∀ k a wt, (en k a wt).length ≤ 1 := by intro k a wt; unfold en; split <;> simp
  rw [go] at h
  by_cases h0 : wt = 0
  ·rw [if_pos h0] at h; cases h; simp
  rw [if_neg h0] at h
  by_cases k1 : kd a = 1
  ·rw [if_pos k1] at h; cases h; simp
  rw [if_neg k1] at h
  by_cases k7 : kd a = 7
  ·rw [if_pos k7] at h; cases h; simp
  rw [if_neg k7] at h
  by_cases k6 : kd a = 6
  ·rw [if_pos k6] at h
   obtain ⟨u, hu, h⟩ := bind_some h
   cases h
   have h1 := hlv _ _ _ hu; have h2 := hen 3 a (wt - wt / 2)
   simp only [List.length_append, List.length_cons]; omega
  rw [if_neg k6] at h
  by_cases k4 : kd a = 4 ∨ kd a = 5
  ·rw [if_pos k4] at h
   obtain ⟨u, hu, h⟩ := bind_some h
   obtain ⟨v, hv, h⟩ := bind_some h
   cases h
   have h1 := hlv _ _ _ hu; have h3 := hlv _ _ _ hv; have h2 := hen 3 a (wt - 2 * (wt / 2))
   simp only [List.length_append, List.length_cons]; omega
  ·rw [if_neg k4] at h
   obtain ⟨u, hu, h⟩ := bind_some h
   cases h
   have h1 := hlv _ _ _ hu
   simp only [List.length_cons]; omega
end
end Go.Proofs.Ytejgohgmmndgbaa.Tr
--slim
