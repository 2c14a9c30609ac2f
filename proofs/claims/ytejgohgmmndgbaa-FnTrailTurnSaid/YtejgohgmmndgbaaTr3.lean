/- Light's walk in a grid that is turned by a quarter, or seen in a mirror. No program in sight. -/
import Derived.Test.YtejgohgmmndgbaaTr2
namespace Go.Proofs.Ytejgohgmmndgbaa.Tr
set_option linter.unusedVariables false
/-- The kind of a cell in a grid that is turned, or seen in a mirror. -/
def swp (k : Int) : Int := if k = 2 then 3 else if k = 3 then 2 else if k = 4 then 5 else if k = 5 then 4 else k
def mp (π σ : Int → Int) (e : V) : V := (e.1, if e.1 = 0 then σ e.2.1 else π e.2.1, e.2.2)
/-- What a symmetry is asked. -/
structure Sym (w n : Int) (kd : Int → Int) (sg : Int → Int → Int) (w' n' : Int) (kd' : Int → Int) (sg' : Int → Int → Int) (π δ σ : Int → Int) : Prop where
  inn : ∀ a, 0 ≤ a ∧ a < n → 0 ≤ π a ∧ π a < n'
  dir : ∀ d, 0 ≤ d ∧ d ≤ 3 → 0 ≤ δ d ∧ δ d ≤ 3
  kind : ∀ a, 0 ≤ a ∧ a < n → kd' (π a) = swp (kd a)
  next : ∀ a d, Ok n (a, d) → nxt w' n' (π a) (δ d) = (nxt w n a d).map π
  turn : ∀ k d, 0 ≤ d ∧ d ≤ 3 → dirT (swp k) (δ d) = δ (dirT k d)
  out : ∀ a d, Ok n (a, d) → nxt w n a d = none → sg' (π a) (δ d) = σ (sg a d)
section
variable {w n : Int} {kd : Int → Int} {sg : Int → Int → Int} {w' n' : Int} {kd' : Int → Int} {sg' : Int → Int → Int} {π δ σ : Int → Int}
theorem swp_1 {k : Int} : swp k = 1 ↔ k = 1 := by unfold swp; repeat' split <;> omega
theorem swp_7 {k : Int} : swp k = 7 ↔ k = 7 := by unfold swp; repeat' split <;> omega
theorem swp_6 {k : Int} : swp k = 6 ↔ k = 6 := by unfold swp; repeat' split <;> omega
theorem swp_45 {k : Int} : (swp k = 4 ∨ swp k = 5) ↔ (k = 4 ∨ k = 5) := by unfold swp; repeat' split <;> omega
theorem mp_en (k a wt : Int) (hk : k ≠ 0) : (en k a wt).map (mp π σ) = en k (π a) wt := by
  unfold en
  by_cases h : wt > 0
  · rw [if_pos h, if_pos h]; simp [mp, hk]
  · rw [if_neg h, if_neg h]; rfl
theorem go_map (hw : 1 ≤ w) (hn : n % w = 0) (S : Sym w n kd sg w' n' kd' sg' π δ σ) (q : Nat) (a d wt : Int) (t : Tr) (ho : Ok n (a, d)) (h : go w n kd sg q a d wt = some t) :
    ∃ q' t', go w' n' kd' sg' q' (π a) (δ d) wt = some t' ∧ t'.2 = t.2.map (mp π σ) := by
  refine go_ind (kd := kd) (sg := sg) hw hn
    (fun a d wt t => ∃ q' t', go w' n' kd' sg' q' (π a) (δ d) wt = some t' ∧ t'.2 = t.2.map (mp π σ))
    (fun a d wt t => Ok n (a, d) → ∃ q' t', lv w' n' sg' (go w' n' kd' sg' q') (π a) (δ d) wt = some t' ∧ t'.2 = t.2.map (mp π σ))
    ?_ ?_ ?_ ?_ ?_ ?_ ?_ ?_ ?_ q a d wt t ho h
  · intro a d; exact ⟨1, ([], []), by rw [go, if_pos rfl], rfl⟩
  · intro a d _; exact ⟨1, ([], []), by unfold lv; rw [if_pos rfl], rfl⟩
  · intro a d wt ho hz k1 k7 hx _
    refine ⟨1, ([], [(0, σ (sg a d), wt)]), ?_, by simp [mp]⟩
    unfold lv
    rw [if_neg hz, S.next a d ho, hx, Option.map_none]
    simp only
    rw [S.out a d ho hx]
  · intro a d wt a' t ho hz hx ho' hM _
    obtain ⟨q', t', ht', e⟩ := hM
    refine ⟨q', t', ?_, e⟩
    unfold lv
    rw [if_neg hz, S.next a d ho, hx, Option.map_some]
    exact ht'
  · intro a d wt ho hz hk
    refine ⟨1, ([(π a, δ d, wt)], [(1, π a, wt)]), by rw [go, if_neg hz, if_pos (by rw [S.kind a ho.1]; exact swp_1.2 hk)], by simp [mp]⟩
  · intro a d wt ho hz hk
    have e := S.kind a ho.1
    refine ⟨1, ([(π a, δ d, wt)], [(2, π a, wt)]), by rw [go, if_neg hz, if_neg (by rw [e, swp_1]; omega), if_pos (by rw [e]; exact swp_7.2 hk)], by simp [mp]⟩
  · intro a d wt t ho hz hk hL
    have e := S.kind a ho.1
    obtain ⟨q', t', ht', f⟩ := hL ho
    refine ⟨q' + 1, _, by rw [go, if_neg hz, if_neg (by rw [e, swp_1]; omega), if_neg (by rw [e, swp_7]; omega), if_pos (by rw [e]; exact swp_6.2 hk), ht', Option.bind_some], ?_⟩
    simp only [List.map_append, f, mp_en 3 a _ (by decide)]
  · intro a d wt t u ho hz hk hL hR
    have e := S.kind a ho.1
    have hT := S.turn (kd a) d ho.2
    rw [← e] at hT
    obtain ⟨q1, t1, ht1, f1⟩ := hL ho
    obtain ⟨q2, t2, ht2, f2⟩ := hR ⟨ho.1, dirT_ok ho.2⟩
    have g1 := lv_le (Nat.le_max_left q1 q2) ht1
    have g2 := lv_le (Nat.le_max_right q1 q2) ht2
    refine ⟨max q1 q2 + 1, _, by rw [go, if_neg hz, if_neg (by rw [e, swp_1]; omega), if_neg (by rw [e, swp_7]; omega), if_neg (by rw [e, swp_6]; omega), if_pos (by rw [e]; exact swp_45.2 hk), g1, Option.bind_some, hT, g2, Option.bind_some], ?_⟩
    simp only [List.map_append, f1, f2, mp_en 3 a _ (by decide)]
  · intro a d wt t ho hz hk hL
    obtain ⟨k1, k7, k6, k4⟩ := hk
    have e := S.kind a ho.1
    have hT := S.turn (kd a) d ho.2
    rw [← e] at hT
    obtain ⟨q', t', ht', f⟩ := hL ⟨ho.1, dirT_ok ho.2⟩
    refine ⟨q' + 1, ((π a, δ d, wt) :: t'.1, t'.2), by rw [go, if_neg hz, if_neg (by rw [e, swp_1]; exact k1), if_neg (by rw [e, swp_7]; exact k7), if_neg (by rw [e, swp_6]; exact k6), if_neg (by rw [e, swp_45]; exact k4), hT, ht', Option.bind_some], f⟩
/-- As much leaves at the sight that another becomes. -/
theorem outs_map (x : Int) (l : List V) (h : ∀ e ∈ l, e.1 = 0 → (σ e.2.1 = σ x ↔ e.2.1 = x)) : outs (σ x) (l.map (mp π σ)) = outs x l := by
  induction l with
  | nil => rfl
  | cons e l ih =>
    have r := ih fun e he => h e (List.mem_cons_of_mem _ he)
    simp only [List.map_cons, outs, r]
    by_cases c : e.1 = 0
    · have hh := h e (List.mem_cons_self ..) c
      simp only [mp, c, if_pos, true_and]
      by_cases cx : e.2.1 = x
      · rw [if_pos (hh.2 cx), if_pos cx]
      · rw [if_neg (fun e => cx (hh.1 e)), if_neg cx]
    · simp only [mp, c, if_false, false_and]
end
/-! ### the two symmetries, in numbers -/
def piT (w h a : Int) : Int := (a % w) * h + (h - 1 - a / w)
def deT (d : Int) : Int := (d + 1) % 4
def siT (w h k : Int) : Int := (k + h) % (2 * (w + h))
def piF (w a : Int) : Int := (a / w) * w + (w - 1 - a % w)
def deF (d : Int) : Int := if d = 1 then 3 else if d = 3 then 1 else d
def siF (w h k : Int) : Int := (w - 1 - k + 2 * (w + h)) % (2 * (w + h))
theorem deT_turn (k d : Int) (hd : 0 ≤ d ∧ d ≤ 3) : dirT (swp k) (deT d) = deT (dirT k d) := by
  have c : d = 0 ∨ d = 1 ∨ d = 2 ∨ d = 3 := by omega
  unfold swp
  by_cases h2 : k = 2
  · subst h2; rcases c with rfl | rfl | rfl | rfl <;> decide
  by_cases h3 : k = 3
  · subst h3; rcases c with rfl | rfl | rfl | rfl <;> decide
  by_cases h4 : k = 4
  · subst h4; rcases c with rfl | rfl | rfl | rfl <;> decide
  by_cases h5 : k = 5
  · subst h5; rcases c with rfl | rfl | rfl | rfl <;> decide
  rw [if_neg h2, if_neg h3, if_neg h4, if_neg h5]
  unfold dirT
  rw [if_neg (by omega), if_neg (by omega), if_neg (by omega), if_neg (by omega)]
theorem deF_turn (k d : Int) (hd : 0 ≤ d ∧ d ≤ 3) : dirT (swp k) (deF d) = deF (dirT k d) := by
  have c : d = 0 ∨ d = 1 ∨ d = 2 ∨ d = 3 := by omega
  unfold swp
  by_cases h2 : k = 2
  · subst h2; rcases c with rfl | rfl | rfl | rfl <;> decide
  by_cases h3 : k = 3
  · subst h3; rcases c with rfl | rfl | rfl | rfl <;> decide
  by_cases h4 : k = 4
  · subst h4; rcases c with rfl | rfl | rfl | rfl <;> decide
  by_cases h5 : k = 5
  · subst h5; rcases c with rfl | rfl | rfl | rfl <;> decide
  rw [if_neg h2, if_neg h3, if_neg h4, if_neg h5]
  unfold dirT
  rw [if_neg (by omega), if_neg (by omega), if_neg (by omega), if_neg (by omega)]
theorem rc {w h a : Int} (hw : 1 ≤ w) (a0 : 0 ≤ a) (a1 : a < w * h) : ∃ r c, a = r * w + c ∧ 0 ≤ c ∧ c < w ∧ 0 ≤ r ∧ r < h ∧ a / w = r ∧ a % w = c := by
  have e := Int.emod_add_mul_ediv a w
  have c0 := Int.emod_nonneg a (show w ≠ 0 by omega)
  have c1 := Int.emod_lt_of_pos a (show 0 < w by omega)
  have r0 : 0 ≤ a / w := Int.ediv_nonneg a0 (by omega)
  have r1 : a / w < h := Int.ediv_lt_of_lt_mul (by omega) (by rw [Int.mul_comm]; exact a1)
  exact ⟨a / w, a % w, by rw [Int.mul_comm]; omega, c0, c1, r0, r1, rfl, rfl⟩
theorem rc_div {w r c : Int} (hc : 0 ≤ c) (hc' : c < w) : (r * w + c) / w = r ∧ (r * w + c) % w = c := by
  constructor
  · rw [Int.add_comm, Int.add_mul_ediv_right _ _ (by omega), Int.ediv_eq_zero_of_lt hc hc', Int.zero_add]
  · rw [Int.add_comm, Int.add_mul_emod_self_right, Int.emod_eq_of_lt hc hc']
theorem rc_lt {w h r c : Int} (hw : 1 ≤ w) (r0 : 0 ≤ r) (r1 : r < h) (c0 : 0 ≤ c) (c1 : c < w) : 0 ≤ r * w + c ∧ r * w + c < w * h := by
  have h1 : 0 ≤ r * w := Int.mul_nonneg r0 (by omega)
  have h2 : (r + 1) * w ≤ h * w := Int.mul_le_mul_of_nonneg_right (by omega) (by omega)
  rw [Int.add_mul, Int.one_mul] at h2
  rw [Int.mul_comm w h]
  omega
/-- The next cell by its row and column. -/
theorem nxt_rc {w h r c d : Int} (hw : 1 ≤ w) (r0 : 0 ≤ r) (r1 : r < h) (c0 : 0 ≤ c) (c1 : c < w) : nxt w (w * h) (r * w + c) d =
    (if d = 0 then (if 1 ≤ r then some ((r - 1) * w + c) else none) else if d = 1 then (if c ≠ w - 1 then some (r * w + (c + 1)) else none) else if d = 2 then (if r + 1 < h then some ((r + 1) * w + c) else none) else (if c ≠ 0 then some (r * w + (c - 1)) else none)) := by
  have e := (rc_div (r := r) c0 c1).2
  unfold nxt
  have hr : (r * w + c ≥ w ↔ 1 ≤ r) := by
    constructor
    · intro hh
      rcases Int.lt_or_le r 1 with q | q
      · have : r = 0 := by omega
        subst this; omega
      · exact q
    · intro q
      have := Int.mul_le_mul_of_nonneg_right q (show 0 ≤ w by omega)
      omega
  have hr2 : (r * w + c + w < w * h ↔ r + 1 < h) := by
    constructor
    · intro hh
      rcases Int.lt_or_le (r + 1) h with q | q
      · exact q
      · have hh' : r + 1 = h := by omega
        rw [← hh', Int.mul_comm w, Int.add_mul, Int.one_mul] at hh
        omega
    · intro q
      have := (rc_lt (h := h) (r := r + 1) (c := c) hw (by omega) q c0 c1).2
      rw [Int.add_mul, Int.one_mul] at this; omega
  rw [e]
  by_cases d0 : d = 0
  · rw [if_pos d0, if_pos d0]
    by_cases q : 1 ≤ r
    · rw [if_pos (hr.2 q), if_pos q, Int.sub_mul, Int.one_mul]; congr 1; omega
    · rw [if_neg (fun x => q (hr.1 x)), if_neg q]
  rw [if_neg d0, if_neg d0]
  by_cases d1 : d = 1
  · rw [if_pos d1, if_pos d1]
    by_cases q : c ≠ w - 1
    · rw [if_pos q, if_pos q]; congr 1; omega
    · rw [if_neg q, if_neg q]
  rw [if_neg d1, if_neg d1]
  by_cases d2 : d = 2
  · rw [if_pos d2, if_pos d2]
    by_cases q : r + 1 < h
    · rw [if_pos (hr2.2 q), if_pos q, Int.add_mul, Int.one_mul]; congr 1; omega
    · rw [if_neg (fun x => q (hr2.1 x)), if_neg q]
  rw [if_neg d2, if_neg d2]
  by_cases q : c ≠ 0
  · rw [if_pos q, if_pos q]; congr 1; omega
  · rw [if_neg q, if_neg q]
theorem piT_rc {w h r c : Int} (c0 : 0 ≤ c) (c1 : c < w) : piT w h (r * w + c) = c * h + (h - 1 - r) := by
  unfold piT; rw [(rc_div c0 c1).1, (rc_div c0 c1).2]
theorem piF_rc {w r c : Int} (c0 : 0 ≤ c) (c1 : c < w) : piF w (r * w + c) = r * w + (w - 1 - c) := by
  unfold piF; rw [(rc_div c0 c1).1, (rc_div c0 c1).2]
section
variable {w h r c : Int} (hw : 1 ≤ w) (r0 : 0 ≤ r) (r1 : r < h) (c0 : 0 ≤ c) (c1 : c < w)
include hw r0 r1 c0 c1
theorem nxt_0 : nxt w (w * h) (r * w + c) 0 = if 1 ≤ r then some ((r - 1) * w + c) else none := by rw [nxt_rc hw r0 r1 c0 c1, if_pos rfl]
theorem nxt_1 : nxt w (w * h) (r * w + c) 1 = if c ≠ w - 1 then some (r * w + (c + 1)) else none := by rw [nxt_rc hw r0 r1 c0 c1, if_neg (by decide), if_pos rfl]
theorem nxt_2 : nxt w (w * h) (r * w + c) 2 = if r + 1 < h then some ((r + 1) * w + c) else none := by rw [nxt_rc hw r0 r1 c0 c1, if_neg (by decide), if_neg (by decide), if_pos rfl]
theorem nxt_3 : nxt w (w * h) (r * w + c) 3 = if c ≠ 0 then some (r * w + (c - 1)) else none := by rw [nxt_rc hw r0 r1 c0 c1, if_neg (by decide), if_neg (by decide), if_neg (by decide)]
end
theorem ite_map {p q : Prop} [Decidable p] [Decidable q] {x y : Int} {f : Int → Int} (h : p ↔ q) (e : q → x = f y) : (if p then some x else none) = (if q then some y else none).map f := by
  by_cases c : q
  · rw [if_pos (h.2 c), if_pos c, Option.map_some, e c]
  · rw [if_neg (fun x => c (h.1 x)), if_neg c]; rfl
theorem next_T {w h a d : Int} (hw : 1 ≤ w) (hh : 1 ≤ h) (ho : Ok (w * h) (a, d)) : nxt h (w * h) (piT w h a) (deT d) = (nxt w (w * h) a d).map (piT w h) := by
  have a0 : 0 ≤ a ∧ a < w * h := ho.1
  obtain ⟨r, c, rfl, c0, c1, r0, r1, _, _⟩ := rc hw a0.1 a0.2
  have hd : 0 ≤ d ∧ d ≤ 3 := ho.2
  have cd : d = 0 ∨ d = 1 ∨ d = 2 ∨ d = 3 := by omega
  have e : nxt h (w * h) = nxt h (h * w) := by rw [Int.mul_comm]
  rw [piT_rc c0 c1, e]
  rcases cd with rfl | rfl | rfl | rfl
  · rw [show deT 0 = 1 from rfl, nxt_1 hh c0 c1 (by omega) (by omega), nxt_0 hw r0 r1 c0 c1]
    exact ite_map (by omega) (fun q => by rw [piT_rc c0 c1]; omega)
  · rw [show deT 1 = 2 from rfl, nxt_2 hh c0 c1 (by omega) (by omega), nxt_1 hw r0 r1 c0 c1]
    exact ite_map (by omega) (fun q => by rw [piT_rc (by omega) (by omega)])
  · rw [show deT 2 = 3 from rfl, nxt_3 hh c0 c1 (by omega) (by omega), nxt_2 hw r0 r1 c0 c1]
    exact ite_map (by omega) (fun q => by rw [piT_rc c0 c1]; omega)
  · rw [show deT 3 = 0 from rfl, nxt_0 hh c0 c1 (by omega) (by omega), nxt_3 hw r0 r1 c0 c1]
    exact ite_map (by omega) (fun q => by rw [piT_rc (by omega) (by omega)])
theorem next_F {w h a d : Int} (hw : 1 ≤ w) (ho : Ok (w * h) (a, d)) : nxt w (w * h) (piF w a) (deF d) = (nxt w (w * h) a d).map (piF w) := by
  have a0 : 0 ≤ a ∧ a < w * h := ho.1
  obtain ⟨r, c, rfl, c0, c1, r0, r1, _, _⟩ := rc hw a0.1 a0.2
  have hd : 0 ≤ d ∧ d ≤ 3 := ho.2
  have cd : d = 0 ∨ d = 1 ∨ d = 2 ∨ d = 3 := by omega
  rw [piF_rc c0 c1]
  rcases cd with rfl | rfl | rfl | rfl
  · rw [show deF 0 = 0 from rfl, nxt_0 hw r0 r1 (by omega) (by omega), nxt_0 hw r0 r1 c0 c1]
    exact ite_map Iff.rfl (fun q => by rw [piF_rc c0 c1])
  · rw [show deF 1 = 3 from rfl, nxt_3 hw r0 r1 (by omega) (by omega), nxt_1 hw r0 r1 c0 c1]
    exact ite_map (by omega) (fun q => by rw [piF_rc (by omega) (by omega)]; omega)
  · rw [show deF 2 = 2 from rfl, nxt_2 hw r0 r1 (by omega) (by omega), nxt_2 hw r0 r1 c0 c1]
    exact ite_map Iff.rfl (fun q => by rw [piF_rc c0 c1])
  · rw [show deF 3 = 1 from rfl, nxt_1 hw r0 r1 (by omega) (by omega), nxt_3 hw r0 r1 c0 c1]
    exact ite_map (by omega) (fun q => by rw [piF_rc (by omega) (by omega)]; omega)
theorem piT_in {w h a : Int} (hw : 1 ≤ w) (hh : 1 ≤ h) (ha : 0 ≤ a ∧ a < w * h) : 0 ≤ piT w h a ∧ piT w h a < w * h := by
  obtain ⟨r, c, rfl, c0, c1, r0, r1, _, _⟩ := rc hw ha.1 ha.2
  rw [piT_rc c0 c1, Int.mul_comm w h]
  exact rc_lt hh c0 c1 (by omega) (by omega)
theorem piF_in {w h a : Int} (hw : 1 ≤ w) (ha : 0 ≤ a ∧ a < w * h) : 0 ≤ piF w a ∧ piF w a < w * h := by
  obtain ⟨r, c, rfl, c0, c1, r0, r1, _, _⟩ := rc hw ha.1 ha.2
  rw [piF_rc c0 c1]
  exact rc_lt hw r0 r1 (by omega) (by omega)
theorem mod_two {m x : Int} (h0 : 0 ≤ x) (h1 : x < 2 * m) : x % m = if x < m then x else x - m := by
  by_cases c : x < m
  · rw [if_pos c, Int.emod_eq_of_lt h0 c]
  · rw [if_neg c, ← Int.emod_eq_of_lt (a := x - m) (b := m) (by omega) (by omega), Int.sub_emod_right]
theorem siT_eq {w h k : Int} (hw : 1 ≤ w) (hh : 1 ≤ h) (k0 : 0 ≤ k) (k1 : k < 2 * (w + h)) : siT w h k = if k + h < 2 * (w + h) then k + h else k + h - 2 * (w + h) := by
  unfold siT; exact mod_two (by omega) (by omega)
theorem siF_eq {w h k : Int} (hw : 1 ≤ w) (hh : 1 ≤ h) (k0 : 0 ≤ k) (k1 : k < 2 * (w + h)) : siF w h k = if k ≤ w - 1 then w - 1 - k else w - 1 - k + 2 * (w + h) := by
  unfold siF; rw [mod_two (by omega) (by omega)]
  by_cases c : k ≤ w - 1
  · rw [if_pos c, if_neg (by omega)]; omega
  · rw [if_neg c, if_pos (by omega)]
theorem siT_in {w h k : Int} (hw : 1 ≤ w) (hh : 1 ≤ h) (k0 : 0 ≤ k) (k1 : k < 2 * (w + h)) : 0 ≤ siT w h k ∧ siT w h k < 2 * (w + h) := by
  rw [siT_eq hw hh k0 k1]; split <;> omega
theorem siF_in {w h k : Int} (hw : 1 ≤ w) (hh : 1 ≤ h) (k0 : 0 ≤ k) (k1 : k < 2 * (w + h)) : 0 ≤ siF w h k ∧ siF w h k < 2 * (w + h) := by
  rw [siF_eq hw hh k0 k1]; split <;> omega
theorem siT_inj {w h k m : Int} (hw : 1 ≤ w) (hh : 1 ≤ h) (k0 : 0 ≤ k) (k1 : k < 2 * (w + h)) (m0 : 0 ≤ m) (m1 : m < 2 * (w + h)) : siT w h k = siT w h m ↔ k = m := by
  rw [siT_eq hw hh k0 k1, siT_eq hw hh m0 m1]; split <;> split <;> omega
theorem siF_inj {w h k m : Int} (hw : 1 ≤ w) (hh : 1 ≤ h) (k0 : 0 ≤ k) (k1 : k < 2 * (w + h)) (m0 : 0 ≤ m) (m1 : m < 2 * (w + h)) : siF w h k = siF w h m ↔ k = m := by
  rw [siF_eq hw hh k0 k1, siF_eq hw hh m0 m1]; split <;> split <;> omega
theorem deT_back (d : Int) : deT ((d + 2) % 4) = (deT d + 2) % 4 := by unfold deT; omega
theorem deF_back {d : Int} (hd : 0 ≤ d ∧ d ≤ 3) : deF ((d + 2) % 4) = (deF d + 2) % 4 := by
  have c : d = 0 ∨ d = 1 ∨ d = 2 ∨ d = 3 := by omega
  rcases c with rfl | rfl | rfl | rfl <;> rfl
end Go.Proofs.Ytejgohgmmndgbaa.Tr
