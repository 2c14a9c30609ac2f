/- More on light's walk in plain Lean: what holds of its ends and visits, walks at half the weight, the way back. No program in sight. -/
import Derived.Test.YtejgohgmmndgbaaTr
namespace Go.Proofs.Ytejgohgmmndgbaa.Tr
set_option linter.unusedVariables false
section
variable {w n : Int} {kd : Int → Int} {sg : Int → Int → Int}
/-- Induction along a walk that ends. -/
theorem go_ind (hw : 1 ≤ w) (hn : n % w = 0) (M L : Int → Int → Int → Tr → Prop)
  (m0 : ∀ a d, M a d 0 ([], [])) (l0 : ∀ a d, L a d 0 ([], []))
  (lout : ∀ a d wt, Ok n (a, d) → wt ≠ 0 → kd a ≠ 1 → kd a ≠ 7 → nxt w n a d = none → L a d wt ([], [(0, sg a d, wt)]))
  (lin : ∀ a d wt a' t, Ok n (a, d) → wt ≠ 0 → nxt w n a d = some a' → Ok n (a', d) → M a' d wt t → L a d wt t)
  (mwall : ∀ a d wt, Ok n (a, d) → wt ≠ 0 → kd a = 1 → M a d wt ([(a, d, wt)], [(1, a, wt)]))
  (mlamp : ∀ a d wt, Ok n (a, d) → wt ≠ 0 → kd a = 7 → M a d wt ([(a, d, wt)], [(2, a, wt)]))
  (mdim : ∀ a d wt t, Ok n (a, d) → wt ≠ 0 → kd a = 6 → L a d (wt / 2) t → M a d wt ((a, d, wt) :: t.1, en 3 a (wt - wt / 2) ++ t.2))
  (mglass : ∀ a d wt t u, Ok n (a, d) → wt ≠ 0 → (kd a = 4 ∨ kd a = 5) → L a d (wt / 2) t → L a (dirT (kd a) d) (wt / 2) u → M a d wt ((a, d, wt) :: (t.1 ++ u.1), en 3 a (wt - 2 * (wt / 2)) ++ (t.2 ++ u.2)))
  (mthru : ∀ a d wt t, Ok n (a, d) → wt ≠ 0 → through (kd a) → L a (dirT (kd a) d) wt t → M a d wt ((a, d, wt) :: t.1, t.2)) :
  ∀ (q : Nat) (a d wt : Int) (t : Tr), Ok n (a, d) → go w n kd sg q a d wt = some t → M a d wt t
 | 0, _, _, _, _, _, h => by cases h
 | q + 1, a, d, wt, t, ho, h => by
  have ih := go_ind hw hn M L m0 l0 lout lin mwall mlamp mdim mglass mthru q
  have hlv : kd a ≠ 1 → kd a ≠ 7 → ∀ d wt t, (0 ≤ d ∧ d ≤ 3) → lv w n sg (go w n kd sg q) a d wt = some t → L a d wt t := by
   intro k1 k7 d wt t hd h
   unfold lv at h
   by_cases h0 : wt = 0
   ·rw [if_pos h0] at h; cases h; rw [h0]; exact l0 _ _
   ·rw [if_neg h0] at h
    cases hx : nxt w n a d with
    | none => rw [hx] at h; cases h; exact lout a d wt ⟨ho.1, hd⟩ h0 k1 k7 hx
    | some a' =>
     rw [hx] at h
     have ho' : Ok n (a', d) := ⟨nxt_in hw hn ho.1 hd hx, hd⟩
     exact lin a d wt a' t ⟨ho.1, hd⟩ h0 hx ho' (ih a' d wt t ho' h)
  have hdd : 0 ≤ d ∧ d ≤ 3 := ho.2
  rw [go] at h
  by_cases h0 : wt = 0
  ·rw [if_pos h0] at h; cases h; rw [h0]; exact m0 _ _
  rw [if_neg h0] at h
  by_cases k1 : kd a = 1
  ·rw [if_pos k1] at h; cases h; exact mwall a d wt ho h0 k1
  rw [if_neg k1] at h
  by_cases k7 : kd a = 7
  ·rw [if_pos k7] at h; cases h; exact mlamp a d wt ho h0 k7
  rw [if_neg k7] at h
  by_cases k6 : kd a = 6
  ·rw [if_pos k6] at h
   obtain ⟨u, hu, h⟩ := bind_some h
   cases h
   exact mdim a d wt u ho h0 k6 (hlv k1 k7 _ _ _ hdd hu)
  rw [if_neg k6] at h
  by_cases k4 : kd a = 4 ∨ kd a = 5
  ·rw [if_pos k4] at h
   obtain ⟨u, hu, h⟩ := bind_some h
   obtain ⟨v, hv, h⟩ := bind_some h
   cases h
   exact mglass a d wt u v ho h0 k4 (hlv k1 k7 _ _ _ hdd hu) (hlv k1 k7 _ _ _ (dirT_ok hdd) hv)
  ·rw [if_neg k4] at h
   obtain ⟨u, hu, h⟩ := bind_some h
   cases h
   exact mthru a d wt u ho h0 ⟨k1, k7, k6, k4⟩ (hlv k1 k7 _ _ _ (dirT_ok hdd) hu)
end
section
variable (w n : Int) (kd : Int → Int) (sg : Int → Int → Int)
/-- What an end is, of light of at most m. -/
def EndOk (vs : List V) (m : Int) (e : V) : Prop :=
 0 < e.2.2 ∧ e.2.2 ≤ m ∧
 ((e.1 = 0 ∧ ∃ a d, Ok n (a, d) ∧ nxt w n a d = none ∧ kd a ≠ 1 ∧ kd a ≠ 7 ∧ e.2.1 = sg a d) ∨
  (e.1 = 1 ∧ (0 ≤ e.2.1 ∧ e.2.1 < n) ∧ kd e.2.1 = 1 ∧ ∃ v ∈ vs, v.1 = e.2.1) ∨
  (e.1 = 2 ∧ (0 ≤ e.2.1 ∧ e.2.1 < n) ∧ kd e.2.1 = 7 ∧ ∃ v ∈ vs, v.1 = e.2.1) ∨
  (e.1 = 3 ∧ (0 ≤ e.2.1 ∧ e.2.1 < n) ∧ (kd e.2.1 = 4 ∨ kd e.2.1 = 5 ∨ kd e.2.1 = 6) ∧ ∃ v ∈ vs, v.1 = e.2.1))
end
section
variable {w n : Int} {kd : Int → Int} {sg : Int → Int → Int}
theorem EndOk.more {vs vs' : List V} {m m' : Int} {e : V} (h : EndOk w n kd sg vs m e) (hm : m ≤ m') (hv : ∀ v ∈ vs, v ∈ vs') : EndOk w n kd sg vs' m' e := by
 obtain ⟨h1, h2, h3⟩ := h
 refine ⟨h1, by omega, ?_⟩
 have up : (∃ v ∈ vs, v.1 = e.2.1) → ∃ v ∈ vs', v.1 = e.2.1 := fun ⟨v, hx, he⟩ => ⟨v, hv v hx, he⟩
 rcases h3 with h | ⟨a, b, c, d⟩ | ⟨a, b, c, d⟩ | ⟨a, b, c, d⟩
 ·exact .inl h
 ·exact .inr (.inl ⟨a, b, c, up d⟩)
 ·exact .inr (.inr (.inl ⟨a, b, c, up d⟩))
 ·exact .inr (.inr (.inr ⟨a, b, c, up d⟩))
def VisOk (n : Int) (m : Int) (v : V) : Prop := Ok n (v.1, v.2.1) ∧ 0 < v.2.2 ∧ v.2.2 ≤ m
theorem go_ends (hw : 1 ≤ w) (hn : n % w = 0) (q : Nat) (a d wt : Int) (t : Tr) (ho : Ok n (a, d)) (h0 : 0 ≤ wt) (h : go w n kd sg q a d wt = some t) :
  (∀ e ∈ t.2, EndOk w n kd sg t.1 wt e) ∧ (∀ v ∈ t.1, VisOk n wt v) := by
 refine go_ind (kd := kd) (sg := sg) hw hn (fun a d wt t => 0 ≤ wt → (∀ e ∈ t.2, EndOk w n kd sg t.1 wt e) ∧ (∀ v ∈ t.1, VisOk n wt v)) (fun a d wt t => 0 ≤ wt → (∀ e ∈ t.2, EndOk w n kd sg t.1 wt e) ∧ (∀ v ∈ t.1, VisOk n wt v))
  ?_ ?_ ?_ ?_ ?_ ?_ ?_ ?_ ?_ q a d wt t ho h h0
 ·intro a d _; simp
 ·intro a d _; simp
 ·intro a d wt ho hz k1 k7 hx h0
  refine ⟨?_, by simp⟩
  intro e he
  simp at he; subst he
  exact ⟨by show 0 < wt; omega, Int.le_refl _, .inl ⟨rfl, a, d, ho, hx, k1, k7, rfl⟩⟩
 ·intro a d wt a' t ho hz hx ho' hM h0; exact hM h0
 ·intro a d wt ho hz hk h0
  refine ⟨?_, ?_⟩
  ·intro e he
   simp at he; subst he
   exact ⟨by show 0 < wt; omega, Int.le_refl _, .inr (.inl ⟨rfl, ho.1, hk, _, List.mem_singleton.2 rfl, rfl⟩)⟩
  ·intro v hv
   simp at hv; subst hv
   exact ⟨ho, by show 0 < wt; omega, Int.le_refl _⟩
 ·intro a d wt ho hz hk h0
  refine ⟨?_, ?_⟩
  ·intro e he
   simp at he; subst he
   exact ⟨by show 0 < wt; omega, Int.le_refl _, .inr (.inr (.inl ⟨rfl, ho.1, hk, _, List.mem_singleton.2 rfl, rfl⟩))⟩
  ·intro v hv
   simp at hv; subst hv
   exact ⟨ho, by show 0 < wt; omega, Int.le_refl _⟩
 ·intro a d wt t ho hz hk hL h0
  obtain ⟨h1, h2⟩ := hL (by omega)
  refine ⟨?_, ?_⟩
  ·intro e he
   rcases List.mem_append.1 he with he | he
   ·obtain ⟨rfl, hp⟩ := en_mem he
    exact ⟨hp, by show wt - wt / 2 ≤ wt; omega, .inr (.inr (.inr ⟨rfl, ho.1, .inr (.inr hk), _, List.mem_cons_self .., rfl⟩))⟩
   ·exact (h1 e he).more (by omega) fun v hv => List.mem_cons_of_mem _ hv
  ·intro v hv
   rcases List.mem_cons.1 hv with rfl | hv
   ·exact ⟨ho, by show 0 < wt; omega, Int.le_refl _⟩
   ·obtain ⟨x, y, z⟩ := h2 v hv; exact ⟨x, y, by omega⟩
 ·intro a d wt t u ho hz hk hL hR h0
  obtain ⟨h1, h2⟩ := hL (by omega)
  obtain ⟨h3, h4⟩ := hR (by omega)
  refine ⟨?_, ?_⟩
  ·intro e he
   rcases List.mem_append.1 he with he | he
   ·obtain ⟨rfl, hp⟩ := en_mem he
    refine ⟨hp, by show wt - 2 * (wt / 2) ≤ wt; omega, .inr (.inr (.inr ⟨rfl, ho.1, ?_, _, List.mem_cons_self .., rfl⟩))⟩
    rcases hk with hk | hk
    ·exact .inl hk
    ·exact .inr (.inl hk)
   ·rcases List.mem_append.1 he with he | he
    ·exact (h1 e he).more (by omega) fun v hv => List.mem_cons_of_mem _ (List.mem_append.2 (.inl hv))
    ·exact (h3 e he).more (by omega) fun v hv => List.mem_cons_of_mem _ (List.mem_append.2 (.inr hv))
  ·intro v hv
   rcases List.mem_cons.1 hv with rfl | hv
   ·exact ⟨ho, by show 0 < wt; omega, Int.le_refl _⟩
   ·rcases List.mem_append.1 hv with hv | hv
    ·obtain ⟨x, y, z⟩ := h2 v hv; exact ⟨x, y, by omega⟩
    ·obtain ⟨x, y, z⟩ := h4 v hv; exact ⟨x, y, by omega⟩
 ·intro a d wt t ho hz hk hL h0
  obtain ⟨h1, h2⟩ := hL h0
  refine ⟨fun e he => (h1 e he).more (Int.le_refl _) fun v hv => List.mem_cons_of_mem _ hv, ?_⟩
  intro v hv
  rcases List.mem_cons.1 hv with rfl | hv
  ·exact ⟨ho, by show 0 < wt; omega, Int.le_refl _⟩
  ·exact h2 v hv
/-- The first visit is the entry. -/
theorem go_head {q : Nat} {a d wt : Int} {t : Tr} (h0 : wt ≠ 0) (h : go w n kd sg q a d wt = some t) : ∃ l, t.1 = (a, d, wt) :: l := by
 cases q with
 | zero => cases h
 | succ q =>
  rw [go, if_neg h0] at h
  by_cases k1 : kd a = 1
  ·rw [if_pos k1] at h; cases h; exact ⟨_, rfl⟩
  rw [if_neg k1] at h
  by_cases k7 : kd a = 7
  ·rw [if_pos k7] at h; cases h; exact ⟨_, rfl⟩
  rw [if_neg k7] at h
  by_cases k6 : kd a = 6
  ·rw [if_pos k6] at h
   obtain ⟨u, hu, h⟩ := bind_some h
   cases h; exact ⟨_, rfl⟩
  rw [if_neg k6] at h
  by_cases k4 : kd a = 4 ∨ kd a = 5
  ·rw [if_pos k4] at h
   obtain ⟨u, hu, h⟩ := bind_some h
   obtain ⟨v, hv, h⟩ := bind_some h
   cases h; exact ⟨_, rfl⟩
  ·rw [if_neg k4] at h
   obtain ⟨u, hu, h⟩ := bind_some h
   cases h; exact ⟨_, rfl⟩
/-- Rounds do not matter. -/
theorem go_det {q q' : Nat} {a d wt : Int} {t t' : Tr} (h : go w n kd sg q a d wt = some t) (h' : go w n kd sg q' a d wt = some t') : t = t' := by
 have e := go_le (Nat.le_max_left q q') h
 have e' := go_le (Nat.le_max_right q q') h'
 rw [e] at e'; exact Option.some.inj e'
end
/-! ### what leaves at a sight -/
def outs (x : Int) : List V → Int
 | [] => 0
 | e :: l => (if e.1 = 0 ∧ e.2.1 = x then e.2.2 else 0) + outs x l
def halves (x : Int) : List V → Int
 | [] => 0
 | e :: l => (if e.1 = 0 ∧ e.2.1 = x then e.2.2 / 2 else 0) + halves x l
theorem outs_app (x : Int) (l m : List V) : outs x (l ++ m) = outs x l + outs x m := by
 induction l with
 | nil => simp [outs]
 | cons e l ih => simp only [List.cons_append, outs, ih]; omega
theorem outs_zero (x : Int) (l : List V) (h : ∀ e ∈ l, ¬(e.1 = 0 ∧ e.2.1 = x)) : outs x l = 0 := by
 induction l with
 | nil => rfl
 | cons e l ih =>
  simp only [outs]
  rw [if_neg (h e (List.mem_cons_self ..)), ih fun e he => h e (List.mem_cons_of_mem _ he)]; rfl
theorem halves_app (x : Int) (l m : List V) : halves x (l ++ m) = halves x l + halves x m := by
 induction l with
 | nil => simp [halves]
 | cons e l ih => simp only [List.cons_append, halves, ih]; omega
theorem outs_en (x k a wt : Int) (hk : k ≠ 0) : outs x (en k a wt) = 0 := by
 unfold en; by_cases h : wt > 0
 ·rw [if_pos h]; simp only [outs]; rw [if_neg (fun e => hk e.1)]; rfl
 ·rw [if_neg h]; rfl
theorem halves_en (x k a wt : Int) (hk : k ≠ 0) : halves x (en k a wt) = 0 := by
 unfold en; by_cases h : wt > 0
 ·rw [if_pos h]; simp only [halves]; rw [if_neg (fun e => hk e.1)]; rfl
 ·rw [if_neg h]; rfl
theorem halves_small (x : Int) (l : List V) (h : ∀ e ∈ l, 0 ≤ e.2.2 ∧ e.2.2 ≤ 1) : halves x l = 0 := by
 induction l with
 | nil => rfl
 | cons e l ih =>
  have he := h e (List.mem_cons_self ..)
  simp only [halves]
  rw [ih fun e he => h e (List.mem_cons_of_mem _ he), Int.add_zero]
  by_cases c : e.1 = 0 ∧ e.2.1 = x
  ·rw [if_pos c]; omega
  ·rw [if_neg c]
/-- At half the weight, in a grid that is another at one cell that is not visited, half of it leaves. -/
theorem go_half {w n : Int} {kd kd' : Int → Int} {sg : Int → Int → Int} (hw : 1 ≤ w) (hn : n % w = 0) (at_ x : Int) (hk : ∀ a, 0 ≤ a ∧ a < n → a ≠ at_ → kd' a = kd a) (q : Nat) (a d wt : Int) (t : Tr) (ho : Ok n (a, d)) (h0 : 0 ≤ wt) (hv : ∀ v ∈ t.1, v.1 ≠ at_)
  (h : go w n kd sg q a d wt = some t) : ∃ q' t', go w n kd' sg q' a d (wt / 2) = some t' ∧ outs x t'.2 = halves x t.2 := by
 have zero : ∀ a d, ∃ q' t', go w n kd' sg q' a d 0 = some t' ∧ outs x t'.2 = 0 := fun a d => ⟨1, ([], []), by rw [go, if_pos rfl], rfl⟩
 have hall := go_ind (kd := kd) (sg := sg) hw hn
  (fun a d wt t => 0 ≤ wt → (∀ v ∈ t.1, v.1 ≠ at_) → (∀ e ∈ t.2, 0 ≤ e.2.2 ∧ e.2.2 ≤ wt) ∧ ∃ q' t', go w n kd' sg q' a d (wt / 2) = some t' ∧ outs x t'.2 = halves x t.2)
  (fun a d wt t => 0 ≤ wt → (∀ v ∈ t.1, v.1 ≠ at_) → (∀ e ∈ t.2, 0 ≤ e.2.2 ∧ e.2.2 ≤ wt) ∧ ∃ q' t', lv w n sg (go w n kd' sg q') a d (wt / 2) = some t' ∧ outs x t'.2 = halves x t.2)
  ?_ ?_ ?_ ?_ ?_ ?_ ?_ ?_ ?_ q a d wt t ho h h0 hv
 ·exact hall.2
 ·intro a d _ _; exact ⟨by simp, zero a d⟩
 ·intro a d _ _; exact ⟨by simp, 1, ([], []), by unfold lv; rw [if_pos (by decide)], rfl⟩
 ·intro a d wt ho hz k1 k7 hx h0 hv
  refine ⟨by simp; omega, ?_⟩
  by_cases c : wt / 2 = 0
  ·refine ⟨1, ([], []), by unfold lv; rw [if_pos c], ?_⟩
   simp only [halves, outs]; split <;> omega
  ·refine ⟨1, ([], [(0, sg a d, wt / 2)]), by unfold lv; rw [if_neg c, hx], ?_⟩
   simp only [halves, outs]
 ·intro a d wt a' t ho hz hx ho' hM h0 hv
  obtain ⟨hb, q', t', ht', e⟩ := hM h0 hv
  refine ⟨hb, ?_⟩
  by_cases c : wt / 2 = 0
  ·refine ⟨1, ([], []), by unfold lv; rw [if_pos c], ?_⟩
   rw [halves_small x t.2 fun e he => ⟨(hb e he).1, by have := (hb e he).2; omega⟩]; rfl
  ·exact ⟨q', t', by unfold lv; rw [if_neg c, hx]; exact ht', e⟩
 ·intro a d wt ho hz hka h0 hv
  refine ⟨by simp; omega, ?_⟩
  have ne : a ≠ at_ := hv _ (List.mem_singleton.2 rfl)
  by_cases c : wt / 2 = 0
  ·refine ⟨1, ([], []), by rw [go, if_pos c], ?_⟩
   simp [halves, outs]
  ·refine ⟨1, ([(a, d, wt / 2)], [(1, a, wt / 2)]), by rw [go, if_neg c, if_pos ((hk a ho.1 ne).trans hka)], ?_⟩
   simp [halves, outs]
 ·intro a d wt ho hz hka h0 hv
  refine ⟨by simp; omega, ?_⟩
  have ne : a ≠ at_ := hv _ (List.mem_singleton.2 rfl)
  by_cases c : wt / 2 = 0
  ·refine ⟨1, ([], []), by rw [go, if_pos c], ?_⟩
   simp [halves, outs]
  ·have e := (hk a ho.1 ne).trans hka
   refine ⟨1, ([(a, d, wt / 2)], [(2, a, wt / 2)]), by rw [go, if_neg c, if_neg (by rw [e]; decide), if_pos e], ?_⟩
   simp [halves, outs]
 ·intro a d wt t ho hz hka hL h0 hv
  have ne : a ≠ at_ := hv (a, d, wt) (List.mem_cons_self ..)
  obtain ⟨hb, q', t', ht', e⟩ := hL (by omega) fun v hm => hv v (List.mem_cons_of_mem _ hm)
  refine ⟨?_, ?_⟩
  ·intro e he
   rcases List.mem_append.1 he with he | he
   ·obtain ⟨rfl, hp⟩ := en_mem he; exact ⟨by show 0 ≤ wt - wt / 2; omega, by show wt - wt / 2 ≤ wt; omega⟩
   ·have := hb e he; omega
  ·rw [halves_app, halves_en x 3 a _ (by decide), Int.zero_add]
   have ek := (hk a ho.1 ne).trans hka
   by_cases c : wt / 2 = 0
   ·rw [c] at ht'
    have e0 : t' = ([], []) := by
     unfold lv at ht'; rw [if_pos (by decide)] at ht'; exact (Option.some.inj ht').symm
    refine ⟨1, ([], []), by rw [go, if_pos c], ?_⟩
    rw [← e, e0]
   ·refine ⟨q' + 1, _, by rw [go, if_neg c, if_neg (by rw [ek]; decide), if_neg (by rw [ek]; decide), if_pos ek, ht', Option.bind_some], ?_⟩
    rw [outs_app, outs_en x 3 a _ (by decide), Int.zero_add]; exact e
 ·intro a d wt t u ho hz hka hL hR h0 hv
  have ne : a ≠ at_ := hv (a, d, wt) (List.mem_cons_self ..)
  obtain ⟨hb, q1, t1, ht1, e1⟩ := hL (by omega) fun v hm => hv v (List.mem_cons_of_mem _ (List.mem_append.2 (.inl hm)))
  obtain ⟨hb2, q2, t2, ht2, e2⟩ := hR (by omega) fun v hm => hv v (List.mem_cons_of_mem _ (List.mem_append.2 (.inr hm)))
  refine ⟨?_, ?_⟩
  ·intro e he
   rcases List.mem_append.1 he with he | he
   ·obtain ⟨rfl, hp⟩ := en_mem he; exact ⟨by show 0 ≤ wt - 2 * (wt / 2); omega, by show wt - 2 * (wt / 2) ≤ wt; omega⟩
   ·rcases List.mem_append.1 he with he | he
    ·have := hb e he; omega
    ·have := hb2 e he; omega
  ·rw [halves_app, halves_app, halves_en x 3 a _ (by decide), Int.zero_add]
   have ek := hk a ho.1 ne
   by_cases c : wt / 2 = 0
   ·rw [c] at ht1 ht2
    have z1 : t1 = ([], []) := by
     unfold lv at ht1; rw [if_pos (by decide)] at ht1; exact (Option.some.inj ht1).symm
    have z2 : t2 = ([], []) := by
     unfold lv at ht2; rw [if_pos (by decide)] at ht2; exact (Option.some.inj ht2).symm
    refine ⟨1, ([], []), by rw [go, if_pos c], ?_⟩
    rw [← e1, ← e2, z1, z2]; rfl
   ·have f1 := lv_le (Nat.le_max_left q1 q2) ht1
    have f2 := lv_le (Nat.le_max_right q1 q2) ht2
    have hka' : kd' a = 4 ∨ kd' a = 5 := by rw [ek]; exact hka
    refine ⟨max q1 q2 + 1, _, by rw [go, if_neg c, if_neg (by omega), if_neg (by omega), if_neg (by omega), if_pos hka', f1, Option.bind_some, ek, f2, Option.bind_some], ?_⟩
    rw [outs_app, outs_app, outs_en x 3 a _ (by decide), Int.zero_add, e1, e2]
 ·intro a d wt t ho hz hka hL h0 hv
  have ne : a ≠ at_ := hv (a, d, wt) (List.mem_cons_self ..)
  obtain ⟨hb, q', t', ht', e⟩ := hL h0 fun v hm => hv v (List.mem_cons_of_mem _ hm)
  refine ⟨hb, ?_⟩
  have ek := hk a ho.1 ne
  obtain ⟨k1, k7, k6, k4⟩ := hka
  by_cases c : wt / 2 = 0
  ·refine ⟨1, ([], []), by rw [go, if_pos c], ?_⟩
   show outs x [] = halves x t.2
   rw [halves_small x t.2 fun e he => ⟨(hb e he).1, by have := (hb e he).2; omega⟩]; rfl
  ·exact ⟨q' + 1, ((a, d, wt / 2) :: t'.1, t'.2), by rw [go, if_neg c, ek, if_neg k1, if_neg k7, if_neg k6, if_neg k4, ht', Option.bind_some], e⟩
/-! ### the way back: without glass light does not come back where it came in -/
section
variable (w n : Int) (kd : Int → Int)
def stp (s : Int × Int) : Option (Int × Int) := if kd s.1 = 1 ∨ kd s.1 = 7 then none else (nxt w n s.1 (dirT (kd s.1) s.2)).map fun a => (a, dirT (kd s.1) s.2)
def it : Nat → Int × Int → Option (Int × Int)
 | 0, s => some s
 | i + 1, s => (it i s).bind (stp w n kd)
def rev (s : Int × Int) : Int × Int := (s.1, (dirT (kd s.1) s.2 + 2) % 4)
end
section
variable {w n : Int} {kd : Int → Int} {sg : Int → Int → Int}
theorem stp_ok (hw : 1 ≤ w) (hn : n % w = 0) {s t : Int × Int} (hs : Ok n s) (h : stp w n kd s = some t) : Ok n t := by
 unfold stp at h
 split at h
 ·cases h
 ·cases hx : nxt w n s.1 (dirT (kd s.1) s.2) with
  | none => rw [hx] at h; cases h
  | some a => rw [hx] at h; cases h; exact ⟨nxt_in hw hn hs.1 (dirT_ok hs.2) hx, dirT_ok hs.2⟩
theorem it_ok (hw : 1 ≤ w) (hn : n % w = 0) {s : Int × Int} (hs : Ok n s) : ∀ (i : Nat) (t : Int × Int), it w n kd i s = some t → Ok n t
 | 0, t, h => by cases h; exact hs
 | i + 1, t, h => by
  obtain ⟨u, hu, h⟩ := bind_some h
  exact stp_ok hw hn (it_ok hw hn hs i u hu) h
theorem it_le {s t : Int × Int} : ∀ (i j : Nat), i ≤ j → it w n kd j s = some t → ∃ u, it w n kd i s = some u
 | i, 0, h, hj => by cases Nat.le_zero.1 h; exact ⟨_, rfl⟩
 | i, j + 1, h, hj => by
  rcases Nat.lt_or_ge i (j + 1) with c | c
  ·obtain ⟨u, hu, _⟩ := bind_some hj
   exact it_le i j (by omega) hu
  ·cases Nat.le_antisymm h c; exact ⟨_, hj⟩
theorem dirT_rev {k d : Int} (hd : 0 ≤ d ∧ d ≤ 3) : dirT k ((dirT k d + 2) % 4) = (d + 2) % 4 := by
 have c : d = 0 ∨ d = 1 ∨ d = 2 ∨ d = 3 := by omega
 unfold dirT
 by_cases h1 : k = 2 ∨ k = 4
 ·simp only [if_pos h1]
  rcases c with rfl | rfl | rfl | rfl <;> rfl
 ·by_cases h2 : k = 3 ∨ k = 5
  ·simp only [if_neg h1, if_pos h2]; omega
  ·simp only [if_neg h1, if_neg h2]
theorem nxt_rev {w n a d a' : Int} (hw : 1 ≤ w) (hn : n % w = 0) (ha : 0 ≤ a ∧ a < n) (hd : 0 ≤ d ∧ d ≤ 3) (h : nxt w n a d = some a') : nxt w n a' ((d + 2) % 4) = some a := by
 have hin := nxt_in hw hn ha hd h
 have c : d = 0 ∨ d = 1 ∨ d = 2 ∨ d = 3 := by omega
 have r0 : 0 ≤ a % w := Int.emod_nonneg _ (by omega)
 have r1 : a % w < w := Int.emod_lt_of_pos _ (by omega)
 rcases c with rfl | rfl | rfl | rfl
 ·simp [nxt] at h ⊢; omega
 ·simp [nxt] at h ⊢
  obtain ⟨hc, rfl⟩ := h
  refine ⟨?_, by omega⟩
  have h1 : (a + 1) % w = (a % w + 1) % w := by rw [Int.emod_add_emod]
  rw [h1, Int.emod_eq_of_lt (by omega) (by omega)]; omega
 ·simp [nxt] at h ⊢; omega
 ·simp [nxt] at h ⊢
  obtain ⟨hc, rfl⟩ := h
  refine ⟨?_, by omega⟩
  have h1 : (a - 1) % w = (a % w - 1) % w := by rw [Int.emod_sub_emod]
  rw [h1, Int.emod_eq_of_lt (by omega) (by omega)]; omega
theorem stp_rev (hw : 1 ≤ w) (hn : n % w = 0) {s t : Int × Int} (hs : Ok n s) (hk : kd t.1 ≠ 1 ∧ kd t.1 ≠ 7) (h : stp w n kd s = some t) : stp w n kd (rev kd t) = some (rev kd s) := by
 have ht := stp_ok hw hn hs h
 unfold stp at h
 split at h
 ·cases h
 ·cases hx : nxt w n s.1 (dirT (kd s.1) s.2) with
  | none => rw [hx] at h; cases h
  | some a =>
   rw [hx] at h
   have h : (a, dirT (kd s.1) s.2) = t := Option.some.inj h
   subst h
   have hb := nxt_rev hw hn hs.1 (dirT_ok (k := kd s.1) hs.2) hx
   unfold stp rev
   have e : dirT (kd a) ((dirT (kd a) (dirT (kd s.1) s.2) + 2) % 4) = (dirT (kd s.1) s.2 + 2) % 4 := dirT_rev (dirT_ok hs.2)
   simp only
   rw [if_neg (fun c => by rcases c with c | c; exact hk.1 c; exact hk.2 c), e, hb]; rfl
theorem rev_ne {s : Int × Int} (hs : Ok n s) : rev kd s ≠ s := by
 intro h
 have h2 : (dirT (kd s.1) s.2 + 2) % 4 = s.2 := congrArg Prod.snd h
 have hd : 0 ≤ s.2 ∧ s.2 ≤ 3 := hs.2
 have c : s.2 = 0 ∨ s.2 = 1 ∨ s.2 = 2 ∨ s.2 = 3 := by omega
 unfold dirT at h2
 by_cases h1 : kd s.1 = 2 ∨ kd s.1 = 4
 ·rw [if_pos h1] at h2
  rcases c with c | c | c | c <;> rw [c] at h2 <;> simp at h2
 ·rw [if_neg h1] at h2
  by_cases h3 : kd s.1 = 3 ∨ kd s.1 = 5
  ·rw [if_pos h3] at h2; omega
  ·rw [if_neg h3] at h2; omega
/-- A way whose last step, turned, is its first does not exist. -/
theorem no_back (hw : 1 ≤ w) (hn : n % w = 0) {s z : Int × Int} (hs : Ok n s) (N : Nat) (h : it w n kd N s = some z) (hz : kd z.1 ≠ 1 ∧ kd z.1 ≠ 7) (hb : rev kd z = s) : False := by
 have key : ∀ i, i ≤ N → ∀ x y, it w n kd i s = some x → it w n kd (N - i) s = some y → x = rev kd y := by
  intro i
  induction i with
  | zero => intro _ x y hx hy; cases hx; rw [Nat.sub_zero, h] at hy; cases hy; exact hb.symm
  | succ i ih =>
   intro hi x y hx hy
   obtain ⟨u, hu, hux⟩ := bind_some hx
   obtain ⟨v, hv⟩ := it_le (w := w) (n := n) (kd := kd) (N - i) N (by omega) h
   have e := ih (by omega) u v hu hv
   have hyv : stp w n kd y = some v := by
    have : N - i = (N - (i + 1)) + 1 := by omega
    rw [this, it, hy, Option.bind_some] at hv; exact hv
   have hk : kd v.1 ≠ 1 ∧ kd v.1 ≠ 7 := by
    rcases Nat.lt_or_ge 0 i with c | c
    ·obtain ⟨v2, hv2⟩ := it_le (w := w) (n := n) (kd := kd) (N - i + 1) N (by omega) h
     rw [it, hv, Option.bind_some] at hv2
     unfold stp at hv2
     split at hv2
     ·cases hv2
     ·rename_i c; exact ⟨fun e => c (.inl e), fun e => c (.inr e)⟩
    ·cases Nat.le_zero.1 c
     rw [Nat.sub_zero, h] at hv; cases hv; exact hz
   have r := stp_rev hw hn (it_ok hw hn hs _ y hy) hk hyv
   rw [← e] at r
   rw [r] at hux; exact (Option.some.inj hux).symm
 rcases Nat.mod_two_eq_zero_or_one N with c | c
 ·obtain ⟨x, hx⟩ := it_le (w := w) (n := n) (kd := kd) (N / 2) N (by omega) h
  have e := key (N / 2) (by omega) x x hx (by rw [show N - N / 2 = N / 2 from by omega]; exact hx)
  exact rev_ne (kd := kd) (it_ok hw hn hs _ x hx) e.symm
 ·obtain ⟨x, hx⟩ := it_le (w := w) (n := n) (kd := kd) (N / 2) N (by omega) h
  obtain ⟨y, hy⟩ := it_le (w := w) (n := n) (kd := kd) (N / 2 + 1) N (by omega) h
  have e := key (N / 2) (by omega) x y hx (by rw [show N - N / 2 = N / 2 + 1 from by omega]; exact hy)
  rw [it, hx, Option.bind_some] at hy
  have ha : x.1 = (rev kd y).1 := congrArg Prod.fst e
  have ha : x.1 = y.1 := ha
  have ho := it_ok hw hn hs _ x hx
  unfold stp at hy
  split at hy
  ·cases hy
  ·cases hq : nxt w n x.1 (dirT (kd x.1) x.2) with
   | none => rw [hq] at hy; cases hy
   | some a =>
    rw [hq] at hy
    have hy : (a, dirT (kd x.1) x.2) = y := Option.some.inj hy
    have hb := nxt_back (dirT_ok (k := kd x.1) ho.2) hq
    rw [← hy] at ha
    have ha : x.1 = a := ha
    have hd := dirT_ok (k := kd x.1) ho.2
    have c : dirT (kd x.1) x.2 = 0 ∨ dirT (kd x.1) x.2 = 1 ∨ dirT (kd x.1) x.2 = 2 ∨ dirT (kd x.1) x.2 = 3 := by omega
    unfold dl at hb
    rcases c with c | c | c | c <;> rw [c] at hb <;> simp at hb <;> omega
/-- Without glass and what dims, light goes one way. -/
theorem go_clear (hw : 1 ≤ w) (hn : n % w = 0) (hc : ∀ a, 0 ≤ a ∧ a < n → kd a ≠ 4 ∧ kd a ≠ 5 ∧ kd a ≠ 6) (q : Nat) (a d wt : Int) (t : Tr) (ho : Ok n (a, d)) (hz : wt ≠ 0) (h : go w n kd sg q a d wt = some t) :
  ∃ N z, it w n kd N (a, d) = some z ∧ ((kd z.1 = 1 ∧ t.2 = [(1, z.1, wt)]) ∨ (kd z.1 = 7 ∧ t.2 = [(2, z.1, wt)]) ∨ (kd z.1 ≠ 1 ∧ kd z.1 ≠ 7 ∧ nxt w n z.1 (dirT (kd z.1) z.2) = none ∧ t.2 = [(0, sg z.1 (dirT (kd z.1) z.2), wt)])) := by
 have it_succ : ∀ (N : Nat) (s u : Int × Int), stp w n kd s = some u → it w n kd N u = it w n kd (N + 1) s := by
  intro N
  induction N with
  | zero => intro s u h; simp [it, h]
  | succ N ih => intro s u h; rw [it, it, ih s u h]
 refine go_ind (kd := kd) (sg := sg) hw hn
  (fun a d wt t => wt ≠ 0 → ∃ N z, it w n kd N (a, d) = some z ∧ ((kd z.1 = 1 ∧ t.2 = [(1, z.1, wt)]) ∨ (kd z.1 = 7 ∧ t.2 = [(2, z.1, wt)]) ∨ (kd z.1 ≠ 1 ∧ kd z.1 ≠ 7 ∧ nxt w n z.1 (dirT (kd z.1) z.2) = none ∧ t.2 = [(0, sg z.1 (dirT (kd z.1) z.2), wt)])))
  (fun a d wt t => wt ≠ 0 → (nxt w n a d = none ∧ t.2 = [(0, sg a d, wt)]) ∨ ∃ a', nxt w n a d = some a' ∧ ∃ N z, it w n kd N (a', d) = some z ∧ ((kd z.1 = 1 ∧ t.2 = [(1, z.1, wt)]) ∨ (kd z.1 = 7 ∧ t.2 = [(2, z.1, wt)]) ∨ (kd z.1 ≠ 1 ∧ kd z.1 ≠ 7 ∧ nxt w n z.1 (dirT (kd z.1) z.2) = none ∧ t.2 = [(0, sg z.1 (dirT (kd z.1) z.2), wt)])))
  ?_ ?_ ?_ ?_ ?_ ?_ ?_ ?_ ?_ q a d wt t ho h hz
 ·intro a d h; exact absurd rfl h
 ·intro a d h; exact absurd rfl h
 ·intro a d wt ho hz k1 k7 hx _; exact .inl ⟨hx, rfl⟩
 ·intro a d wt a' t ho hz hx ho' hM _; exact .inr ⟨a', hx, hM hz⟩
 ·intro a d wt ho hz hk _; exact ⟨0, (a, d), rfl, .inl ⟨hk, rfl⟩⟩
 ·intro a d wt ho hz hk _; exact ⟨0, (a, d), rfl, .inr (.inl ⟨hk, rfl⟩)⟩
 ·intro a d wt t ho hz hk; exact absurd hk (hc a ho.1).2.2
 ·intro a d wt t u ho hz hk
  rcases hk with hk | hk
  ·exact absurd hk (hc a ho.1).1
  ·exact absurd hk (hc a ho.1).2.1
 ·intro a d wt t ho hz hk hL _
  rcases hL hz with ⟨hx, e⟩ | ⟨a', hx, N, z, hN, hr⟩
  ·exact ⟨0, (a, d), rfl, .inr (.inr ⟨hk.1, hk.2.1, hx, e⟩)⟩
  ·refine ⟨N + 1, z, ?_, hr⟩
   rw [← it_succ N (a, d) (a', dirT (kd a) d) ?_]
   ·exact hN
   ·unfold stp
    simp only
    rw [if_neg (fun c => by rcases c with c | c; exact hk.1 c; exact hk.2.1 c), hx]; rfl
end
end Go.Proofs.Ytejgohgmmndgbaa.Tr
--slim
