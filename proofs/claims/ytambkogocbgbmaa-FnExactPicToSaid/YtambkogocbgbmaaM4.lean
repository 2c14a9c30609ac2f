/- For every input the law returns true, and what came in reads as it did (the row of Rg). No condition. Texts of this claim, joined: IdAK, IdQc, IdAL, Cw, Cw2, Cr, Cy, Ia, Ct, Cv, Tr3, Da, Db, Dc, Dd, Ib, Ea, Ha, Ic, If, Ig, IdIn, Rg. -/
import Derived.Test.YtambkogocbgbmaaM3
import Derived.Deep.Slices
import Derived.Below
import Derived.ChangeFn
import Derived.ChangeOld
import Derived.Test.YtambkogocbgbmaaRows
import Derived.Conc.LeavingOf
import Derived.WalkKit
import Derived.ProofKit
import Derived.OpenShut
import Derived.ShutString
import Derived.SizedLaws
import Derived.Lib.SmallJoins
/- The phase, beside the channel: from the group's making to behind Wait. -/
namespace Go.Id
open Go.Conc Go.RowKit Go.Conc.Lib
open Go.ConcR (Payload)
set_option linter.unusedVariables false
set_option linter.unusedSectionVars false
variable [Payload] {L : WgLink}
/-- No address but one's own. -/
def flatS : Sl → Prop
  | .v (.pointer (some _)) | .v (.slice (some _) _ _) => True
  | .v v => plainV v = true
  | .b _ | .r _ => True
  | _ => False
theorem slIn_v {D : Nat → Prop} {v : Value} (h : flatIn D v) : slIn D (.v v) := h
theorem carry_of {N0 : Nat → Prop} {lo : Nat} {s : Sim} {O : Nat → Prop} {h : Hp} {w : World} {lb : Nat → Nat} {n : Nat} {T : Array Value} {t t1 : Tm} (S : SimOk N0 lo s O h w) (tm : TmOk s lb n t T) (hC : ∀ j x, look t1 j = some x → look t j = some x ∧ flatS x) :
    Carry (fun i => i < h.n ∧ s.adr i ≠ none) t t1 := by
  intro j x hx
  obtain ⟨h1, h2⟩ := hC j x hx
  refine ⟨h1, ?_⟩
  obtain ⟨vr, h3, h4⟩ := tm j x h1
  cases x with
  | v v =>
    have h4 : VR s v vr := h4
    cases h4 with
    | ptr id off sp a c ha he hh => exact slIn_v ⟨(S.cells id c ha).1, by rw [ha]; simp⟩
    | sl id off sp n fl a cap c ha he hh h0 hn => exact slIn_v ⟨(S.cells id c ha).1, by rw [ha]; simp⟩
    | _ => first | exact slIn_v h2 | exact slIn_v rfl
  | b q => trivial
  | r v => trivial
  | l a b => exact h2
  | c a b => exact h2
section
variable {P : Program} {N0 : Nat → Prop} {lo : Nat} {f : FuncId} {fn : Func} {E : En} {Ch : Nat} {k1 kE : List Item} {t t1 tE : Tm} {ls : Lv} {h : Hp} {ops : Array Oper} {j : Nat} {rest : List Nat} {o : Oper}
theorem RC.phase (H : WgLib P L) {d r : Nat} (ho : ops[j]? = some o) (hg : o.guard = none) (hop : o.op = .alloc L.tWg) (hdst : o.dst = some d) (hdl : d < fn.ntmps) {ti : TyI} (ht : TyOk P L.tWg ti) (htz : ti.zero = [.int .u64 0, .int .u32 0]) {Rd : Nat → Nat → Nat → Value → Hp → Prop} (K : RdOk Rd) (hr : r + 1 < 2147483648) (hE : E.ds = [])
    (hC : ∀ j x, look t1 j = some x → look t j = some x ∧ flatS x)
    (HSp : ∀ s : Sim, (∀ j a, look t1 j = some (.v (.pointer (some a))) → a.block < h.n ∧ s.adr a.block ≠ none) → ∀ (Wg : Nat) (fro : Nat → Prop), R (treeCtx P true fro) h.n f fn (.mid [] (SpFrom ⟨P, L.tWg, Wg, Ch, fro, r + 1, LeftBy fro h.n Wg Rd⟩ L h.n s h f fn tE kE (r + 1))) (.inRegion ops rest :: k1) ((d, .r (.pointer (some ⟨Wg, 0, none⟩))) :: t1) [] h)
    (hEnd : ∀ (sl : Nat → Value) (Lp : List Nat) (c : Nat → Nat) (h' : Hp), Ext h h' → Lp.Nodup → (∀ i, i ∈ Lp ↔ i < r + 1) → c 0 = h.n → (∀ i, i < r + 1 → c i ≤ c (i + 1)) → c (r + 1) = h'.n → (∀ i, i < r + 1 → Rd i (c i) (c (i + 1)) (sl i) h') →
      RC P N0 lo f fn E Ch (r + 1) (Lp.map fun (i : Nat) => Value.agg #[.int .i64 i, sl i]) false kE tE [] h') :
    RC P N0 lo f fn E Ch (r + 1) [] false (.inRegion ops (j :: rest) :: k1) t ls h := by
  intro s O Pr lb w b a cs Stop buf sn rn h1 h2 h3 h4 M hn tm hc hv hz A
  obtain rfl : buf = [] := by
    cases buf with
    | nil => rfl
    | cons a l => have := hv.1; simp at this
  have hCar := carry_of M.sim tm hC
  have hp : ∀ j a, look t1 j = some (.v (.pointer (some a))) → a.block < h.n ∧ s.adr a.block ≠ none := fun j a hj => (hCar j _ hj).2
  have hO := (M.pr Ch (.inr rfl)).1
  have hR := (M.pr Ch (.inr rfl)).2
  -- nothing was received yet
  obtain rfl := hz rfl
  refine phase_R H h1 h2 ho hg hop hdst hdl ht htz K M tm (h3.trans hE) h4 hO hc hR hr hCar (HSp s hp) ?_
  intro w₀ r₀ s' h' O' w' sl buf' Lp sn' a' B hd hsz tm'
  obtain ⟨cc, c0, c1, c2, c3⟩ := B.rd
  refine hEnd sl Lp cc h' B.ext B.perm.1 B.perm.2 c0 c1 c2 c3 s' O' Pr lb w' b a' cs Stop buf' sn' 0 h1 h2 (hd.trans hE.symm) hsz ⟨B.sim, ⟨fun j cs hj => by simp at hj, fun j j' hj => by simp at hj⟩, fun b hb => ?_⟩ hn ?_ B.ch ?_ (fun _ => rfl) ?_
  · exact ⟨B.og.1 b (M.pr b hb).1, fun hx => (B.rng b hx).elim (M.pr b hb).2 fun hx => hx (M.pr b hb).1⟩
  · intro j x hx
    obtain ⟨vr, e1, e2⟩ := tm' j x hx
    refine ⟨vr, e1, ?_⟩
    cases x with
    | l a b => exact absurd e2.1 (by omega)
    | _ => exact e2
  · refine ⟨by simp [B.len.1, B.len.2], fun p v u hv hu => ?_⟩
    rw [List.getElem?_map] at hv
    obtain ⟨i, hi, rfl⟩ := Option.map_eq_some_iff.1 hv
    exact B.row p i u hi hu
  · refine A.from B.le (B.og.of (OG.refl O w) r₀.1) ((kept_rly (M.less fun _ => .inl) r₀).trans (B.kept.less fun b hb => ⟨(M.pr b (.inl hb)).1, by rintro rfl; exact hn hb⟩))
end
end Go.Id
/- Words of the walk: an element of a row is turned. -/
namespace Go.Id
set_option linter.unusedVariables false
theorem setL_pre (p : List Value) : ∀ (ys c : List Value) (o : Nat), setL (p ++ c) (p.length + o) ys = p ++ setL c o ys
  | [], c, o => rfl
  | y :: ys, c, o => by
    unfold setL
    have : (p ++ c).set (p.length + o) y = p ++ c.set o y := by rw [List.set_append_right _ _ (by omega)]; congr 2; omega
    rw [this, Nat.add_assoc]; exact setL_pre p ys _ _
theorem setL_suf (q : List Value) : ∀ (ys c : List Value) (o : Nat), o + ys.length ≤ c.length → setL (c ++ q) o ys = setL c o ys ++ q
  | [], c, o, _ => rfl
  | y :: ys, c, o, h => by
    simp only [List.length_cons] at h
    unfold setL
    rw [List.set_append_left _ _ (by omega)]
    exact setL_suf q ys _ _ (by rw [List.length_set]; omega)
section
variable {α : Type}
theorem flat_set {enc : α → List Value} {sz : Nat} (he : ∀ x, (enc x).length = sz) {l : List α} {j f : Nat} (hj : j < l.length) {x : α} {ys : List Value} (hf : f + ys.length ≤ sz) (hx : setL (enc l[j]) f ys = enc x) : setL (l.flatMap enc) (j * sz + f) ys = (l.set j x).flatMap enc := by
  have e1 : l.flatMap enc = (l.take j).flatMap enc ++ (enc l[j] ++ (l.drop (j + 1)).flatMap enc) := by
    conv => lhs; rw [← List.take_append_drop j l, List.flatMap_append, List.drop_eq_getElem_cons hj, List.flatMap_cons]
  have e2 : (l.set j x).flatMap enc = (l.take j).flatMap enc ++ (enc x ++ (l.drop (j + 1)).flatMap enc) := by
    rw [List.set_eq_take_append_cons_drop, if_pos hj, List.flatMap_append, List.flatMap_cons]
  have hl : ((l.take j).flatMap enc).length = j * sz := by rw [flat_len he, List.length_take, Nat.min_eq_left (Nat.le_of_lt hj)]
  rw [e1, e2, ← hl, setL_pre, setL_suf _ _ _ _ (by rw [he]; exact hf), hx]
/-- A part of the element j is turned. -/
theorem Row.stF {lo : Nat} {h : Hp} {b e : Nat} {enc : α → List Value} {sz : Nat} {l : List α} (r : Row h b e enc sz l) (he : ∀ x, (enc x).length = sz) (hlo : lo ≤ b) {j f : Nat} (hj : j < l.length) {x : α} {ys : List Value} (hf : f + ys.length ≤ sz) (hx : setL (enc l[j]) f ys = enc x) :
    St lo h (addA (addA ⟨b, 0, .some e⟩ (j * sz)) f) ys (h.set b (.cells ((l.set j x).flatMap enc) sz e)) := by
  refine ⟨hlo, r.lt, _, sz, r.g, ?_, ?_⟩
  · have : (j + 1) * sz ≤ l.length * sz := Nat.mul_le_mul_right _ hj
    rw [Nat.add_mul] at this
    rw [flat_len he]; simp only [addA]; omega
  · rw [← flat_set he hj hf hx]
    simp only [addA, Nat.zero_add]; rfl
theorem Row.st {lo : Nat} {h : Hp} {b e : Nat} {enc : α → List Value} {sz : Nat} {l : List α} (r : Row h b e enc sz l) (he : ∀ x, (enc x).length = sz) (hlo : lo ≤ b) {j : Nat} (hj : j < l.length) (x : α) :
    St lo h (addA ⟨b, 0, .some e⟩ (j * sz)) (enc x) (h.set b (.cells ((l.set j x).flatMap enc) sz e)) := by
  have := r.stF he hlo (f := 0) (x := x) (ys := enc x) hj (by rw [he]; omega) (setL_all [] _ _ (by rw [he, he]))
  exact this
theorem zeros_flat {enc : α → List Value} {z : List Value} {x : α} (hz : enc x = z) : ∀ n, zeros z n = (List.replicate n x).flatMap enc
  | 0 => rfl
  | n + 1 => by rw [zeros, List.replicate_succ, List.flatMap_cons, hz, zeros_flat hz n]
end
/-! ### rows that grow, whole -/
section
variable {α : Type}
def Gx (lo : Nat) (h : Hp) (enc : α → List Value) (sz : Nat) (o : Option (Nat × Nat)) (l : List α) : Prop :=
  match o with
  | none => l = []
  | some (b, e) => lo ≤ b ∧ Row h b e enc sz l
variable {lo : Nat} {h h' : Hp} {enc : α → List Value} {sz : Nat} {o : Option (Nat × Nat)} {l : List α}
theorem Gx.w (g : Gx lo h enc sz o l) (he : ∀ x, (enc x).length = sz) : Gw lo h enc sz o l := by
  match o, g with
  | none, g => exact g
  | some (b, e), ⟨g1, g2⟩ => exact ⟨g1, g2.p he⟩
theorem Gx.lt (g : Gx lo h enc sz o l) {i : Nat} (hi : isB o i) : i < h.n ∧ lo ≤ i := by
  obtain ⟨e, rfl⟩ := hi
  exact ⟨g.2.lt, g.1⟩
theorem Gx.keep (g : Gx lo h enc sz o l) (hn : h.n ≤ h'.n) (hg : ∀ i, i < h.n → isB o i → h'.g i = h.g i) : Gx lo h' enc sz o l := by
  match o, g with
  | none, g => exact g
  | some (b, e), ⟨g1, g2⟩ => exact ⟨g1, Nat.lt_of_lt_of_le g2.lt hn, by rw [hg b g2.lt ⟨e, rfl⟩]; exact g2.g⟩
theorem Gx.ext (g : Gx lo h enc sz o l) (x : Ext h h') : Gx lo h' enc sz o l := g.keep x.n fun i hi _ => x.g i hi
theorem Gx.cells (g : Gx lo h enc sz o l) (he : ∀ x, (enc x).length = sz) : SlCells h (gv o l.length) sz (l.flatMap enc) := by
  match o, g with
  | none, g => subst g; rfl
  | some (b, e), ⟨g1, g2⟩ =>
    show if l.length = 0 then _ else _
    split
    · rename_i hl
      rw [List.length_eq_zero_iff.1 hl]; rfl
    · obtain ⟨_, c, sz', h1, h2⟩ := g2.sls he
      exact ⟨c, sz', h1, h2⟩
theorem Gx.apps (g : Gx lo h enc sz o l) (he : ∀ x, (enc x).length = sz) (hz : sz ≠ 0) (m : List α) (hm : l.length + m.length ≤ Id.maxLen) (hlo : lo ≤ h.n) :
    ∃ o' h', Ap lo h sz (gv o l.length) (m.flatMap enc) m.length (gv o' (l ++ m).length) h' ∧ Gx lo h' enc sz o' (l ++ m) ∧ Grow o o' h h' := by
  match o, g with
  | none, g =>
    subst g
    by_cases hm0 : m.length = 0
    · obtain rfl := List.length_eq_zero_iff.1 hm0
      exact ⟨none, h, ⟨hz, by simp, rfl, rfl⟩, rfl, ⟨Nat.le_refl _, fun _ _ _ => rfl, fun i hi => .inl hi⟩⟩
    · refine ⟨some (h.n, 0), h.push (.cells (m.flatMap enc) sz 0), ⟨hz, flat_len he m, ?_⟩, ⟨hlo, Row.push⟩, ⟨by simp [Hp.push], fun i hi _ => by simp [Hp.push]; omega, fun i hi => .inr (by obtain ⟨e, hh⟩ := hi; cases hh; exact Nat.le_refl _)⟩⟩
      show (if m.length = 0 then _ else _)
      rw [if_neg hm0]
      exact ⟨by simpa using hm, rfl, rfl⟩
  | some (b, e), ⟨g1, g2⟩ =>
    refine ⟨some (b, e + 1), h.set b (.cells ((l ++ m).flatMap enc) sz (e + 1)), ?_, ⟨g1, Row.set g2.lt⟩, ⟨Nat.le_refl _, fun i hi hb => ?_, fun i hi => .inl ?_⟩⟩
    · have := g2.app (m := m) (lo := lo) he hz g1 hm
      rw [List.length_append]
      exact this
    · simp only [Hp.set]; rw [if_neg]; intro e'; subst e'; exact hb ⟨e, rfl⟩
    · obtain ⟨e', hh⟩ := hi; cases hh; exact ⟨e, rfl⟩
end
end Go.Id
/- What a worker of the phase leaves: a row of values, each of which may hold one address. -/
namespace Go.Id
open Go.Conc Go.RowKit Go.Conc.Lib
open Go.ConcR (Payload)
open Go.ConcN (Has)
set_option linter.unusedVariables false
set_option linter.unusedSectionVars false
/-! ### values with one address at most -/
def blkOf : Value → Option Nat
  | .slice (some a) _ _ => some a.block
  | _ => none
def blks (l : List Value) : List Nat := l.filterMap blkOf
def vE1 (v : Value) : List Value := [v]
theorem vE1_len (v : Value) : (vE1 v).length = 1 := rfl
theorem flat_vE1 : ∀ l : List Value, l.flatMap vE1 = l
  | [] => rfl
  | v :: l => by rw [List.flatMap_cons, flat_vE1 l]; rfl
structure ElOk (El : Int → Value → Hp → Prop) : Prop where
  one : ∀ k v h, El k v h → cellsL v = [v] ∧ noTup v = true
  lt : ∀ k v h b, El k v h → blkOf v = some b → b < h.n
  keep : ∀ k v h h', El k v h → h.n ≤ h'.n → (∀ b, blkOf v = some b → h'.g b = h.g b) → El k v h'
  flat : ∀ k v h, El k v h → plainV v = true ∨ ∃ a n f cs sz e, v = .slice (some a) n f ∧ h.g a.block = .cells cs sz e ∧ ∀ u ∈ cs, plainV u = true
  move : ∀ k v h h' d, El k v h → (∀ b, blkOf v = some b → b + d < h'.n ∧ h'.g (b + d) = shO d (h.g b)) → El k (shV d v) h'
theorem ElOk.ext {El : Int → Value → Hp → Prop} (K : ElOk El) {k : Int} {v : Value} {h h' : Hp} (e : El k v h) (x : Ext h h') : El k v h' := K.keep k v h h' e x.n fun b hb => x.g b (K.lt k v h b e hb)
/-- Worker i's slice: cnt i values, from 'st i' on; what they point to lies in [p, q). -/
def RdW (El : Int → Value → Hp → Prop) (st : Nat → Int) (cnt : Nat → Nat) (i p q : Nat) (sl : Value) (h : Hp) : Prop :=
  ∃ o l, sl = gv o l.length ∧ Gx 0 h vE1 1 o l ∧ l.length = cnt i ∧ (∀ (j : Nat) (v : Value), l[j]? = some v → El (st i + j) v h) ∧ (blks l).Pairwise (· < ·) ∧ ∀ b ∈ blks l, p ≤ b ∧ b < q
theorem blkOf_sh (d : Nat) (v : Value) : blkOf (shV d v) = (blkOf v).map (· + d) := by
  cases v with
  | slice a n f => cases a <;> rfl
  | pointer a => cases a <;> rfl
  | _ => rfl
theorem blks_sh (d : Nat) : ∀ l : List Value, blks (l.map (shV d)) = (blks l).map (· + d)
  | [] => rfl
  | v :: l => by
    have ih := blks_sh d l
    unfold blks at ih ⊢
    rw [List.map_cons, List.filterMap_cons, List.filterMap_cons, blkOf_sh]
    cases blkOf v with
    | none => simpa using ih
    | some b => simp [ih]
theorem RdW.ok {El : Int → Value → Hp → Prop} (K : ElOk El) (st : Nat → Int) (cnt : Nat → Nat) : RdOk (RdW El st cnt) := by
  refine ⟨?_, ?_⟩
  · rintro i p q sl D d lo h h' C M hf ⟨o, l, rfl, g, h1, h2, h3, h4⟩
    match o, g with
    | none, g =>
      have g : l = [] := g
      subst g
      exact ⟨none, [], rfl, rfl, h1, fun j v hv => by simp at hv, by simp [blks], fun b hb => by simp [blks] at hb⟩
    | some (b, e), ⟨_, g2⟩ =>
      have hb : D b := hf
      obtain ⟨m1, m2⟩ := M.g b hb
      have hcell : ∀ v ∈ l, flatIn D v := by
        obtain ⟨cs, sz, e', c1, c2⟩ := C.cells b hb
        rw [g2.g, flat_vE1] at c1
        injection c1 with c1 _ _
        subst c1; exact c2
      refine ⟨some (b + d, e), l.map (shV d), by simp [gv, shV], ⟨Nat.zero_le _, m1, ?_⟩, by simpa using h1, fun j v hv => ?_, ?_, ?_⟩
      · rw [m2, g2.g, flat_vE1, flat_vE1]; rfl
      · rw [List.getElem?_map] at hv
        obtain ⟨u, hu, rfl⟩ := Option.map_eq_some_iff.1 hv
        refine K.move _ u h h' d (h2 j u hu) fun c hc => M.g c ?_
        have := hcell u (List.mem_of_getElem? hu)
        unfold blkOf at hc
        split at hc
        · cases hc; exact this
        · cases hc
      · rw [blks_sh, List.pairwise_map]
        exact h3.imp fun h => by omega
      · rw [blks_sh]
        intro c hc
        obtain ⟨c', hc', rfl⟩ := List.mem_map.1 hc
        have := h4 c' hc'; omega
  · rintro i p q sl h h' x ⟨o, l, rfl, g, h1, h2, h3, h4⟩
    exact ⟨o, l, rfl, g.ext x, h1, fun j v hv => K.ext (h2 j v hv) x, h3, h4⟩
/-! ### in the worker's round -/
structure WI (El : Int → Value → Hp → Prop) (st : Int) (h0 h : Hp) (o : Option (Nat × Nat)) (l : List Value) : Prop where
  g : Gx h0.n h vE1 1 o l
  el : ∀ (j : Nat) (v : Value), l[j]? = some v → El (st + j) v h
  pw : (blks l).Pairwise (· < ·)
  bl : ∀ b ∈ blks l, h0.n ≤ b ∧ b < h.n ∧ ¬ isB o b
  ext : Ext h0 h
theorem WI.nil {El : Int → Value → Hp → Prop} {st : Int} {h0 h : Hp} (x : Ext h0 h) : WI El st h0 h none [] := ⟨rfl, fun j v hv => by simp at hv, by simp [blks], fun b hb => by simp [blks] at hb, x⟩
theorem blks_app (l m : List Value) : blks (l ++ m) = blks l ++ blks m := List.filterMap_append
theorem WI.step {El : Int → Value → Hp → Prop} (K : ElOk El) {st : Int} {h0 h h1 : Hp} {o : Option (Nat × Nat)} {l : List Value} (W : WI El st h0 h o l) {v : Value} (hv : El (st + l.length) v h1) (x : Ext h h1) (hb : ∀ b, blkOf v = some b → h.n ≤ b) (hm : l.length + 1 ≤ Id.maxLen) :
    ∃ o' h', Ap h0.n (h1.push (.cells [v] 1 0)) 1 (gv o l.length) [v] 1 (gv o' (l ++ [v]).length) h' ∧ WI El st h0 h' o' (l ++ [v]) ∧ h.n ≤ h'.n ∧ ∀ b, b < h.n → ¬ isB o b → h'.g b = h.g b ∧ ¬ isB o' b := by
  have x2 : Ext h (h1.push (.cells [v] 1 0)) := x.trans (Ext.push _ _)
  have hn1 : (h1.push (.cells [v] 1 0)).n = h1.n + 1 := rfl
  obtain ⟨o', h', a1, a2, a3⟩ := (W.g.ext x2).apps (fun v => rfl) (by decide) [v] hm (Nat.le_trans W.ext.n x2.n)
  have hbl : ∀ b, blkOf v = some b → h.n ≤ b ∧ b < h1.n := fun b h => ⟨hb b h, K.lt _ _ _ _ hv h⟩
  have old : ∀ b, b < h.n → ¬ isB o b → h'.g b = h.g b := fun b hb hi => (a3.g b (Nat.lt_of_lt_of_le hb x2.n) hi).trans (x2.g b hb)
  have nb : ∀ b, h.n ≤ b → ¬ isB o b := fun b hb hi => by have := (W.g.lt hi).1; omega
  have nn : ∀ b, b < h1.n → ¬ isB o b → ¬ isB o' b := fun b hb hi hi' => (a3.b b hi').elim hi fun x => by rw [hn1] at x; omega
  have hle : h.n ≤ h'.n := Nat.le_trans x2.n a3.n
  have hvb : blks [v] = (blkOf v).toList := by unfold blks; cases hbv : blkOf v <;> simp [hbv]
  refine ⟨o', h', a1, ⟨a2, fun j u hu => ?_, ?_, fun b hb => ?_, ⟨Nat.le_trans W.ext.n hle, fun i hi => ?_⟩⟩, hle, fun b hb hi => ⟨old b hb hi, nn b (by have := x.n; omega) hi⟩⟩
  · rw [List.getElem?_append] at hu
    split at hu
    · have hel := W.el j u hu
      refine K.keep _ u h h' hel hle fun b hb => old b (K.lt _ _ _ _ hel hb) ?_
      refine (W.bl b ?_).2.2
      unfold blks
      exact List.mem_filterMap.2 ⟨u, List.mem_of_getElem? hu, hb⟩
    · rename_i hj
      obtain rfl : j = l.length := by
        have := (List.getElem?_eq_some_iff.1 hu).1
        simp at this; omega
      simp at hu; subst hu
      refine K.keep _ v h1 h' hv (by have := a3.n; rw [hn1] at this; omega) fun b hb => ?_
      obtain ⟨b1, b2⟩ := hbl b hb
      rw [a3.g b (by rw [hn1]; omega) (nb b b1)]
      simp [Hp.push]; omega
  · rw [blks_app, List.pairwise_append]
    refine ⟨W.pw, by rw [hvb]; cases blkOf v <;> simp, fun b hb c hc => ?_⟩
    rw [hvb] at hc
    have := (hbl c (by simpa using hc)).1
    have := (W.bl b hb).2.1
    omega
  · rw [blks_app, List.mem_append] at hb
    rcases hb with hb | hb
    · obtain ⟨b1, b2, b3⟩ := W.bl b hb
      exact ⟨b1, by omega, nn b (by have := x.n; omega) b3⟩
    · rw [hvb] at hb
      obtain ⟨b1, b2⟩ := hbl b (by simpa using hb)
      have := W.ext.n
      have := a3.n
      rw [hn1] at this
      exact ⟨by omega, by omega, nn b b2 (nb b b1)⟩
  · have hi' : i < h.n := Nat.lt_of_lt_of_le hi W.ext.n
    rw [old i hi' fun hb => by have := (W.g.lt hb).2; omega]
    exact W.ext.g i hi
theorem flatIn_plain {D : Nat → Prop} {v : Value} (h : plainV v = true) : flatIn D v := by
  unfold flatIn
  split
  · simp [plainV] at h
  · simp [plainV] at h
  · exact h
/-- What is told at the send. -/
theorem WI.left [Payload] {El : Int → Value → Hp → Prop} (K : ElOk El) {st : Nat → Int} {cnt : Nat → Nat} {i Wg : Nat} {h0 h : Hp} {o : Option (Nat × Nat)} {l : List Value} (W : WI El (st i) h0 h o l) (hl : l.length = cnt i) (hpos : l ≠ []) {fro : Nat → Prop} {s : Sim} {O : Nat → Prop} {w : World} {vr : Value}
    (S : SimOk fro h0.n s O h w) (hv : VR s (.agg #[.int .i64 i, gv o l.length]) vr) (hO : ∀ b, O b → Wg < b) : LeftBy fro h0.n Wg (RdW El st cnt) i vr O w ∧ ∃ C z, O C ∧ Has C 0 z w := by
  match o, W with
  | none, W => exact absurd W.g hpos
  | some (b, e), W =>
    obtain ⟨g1, g2⟩ := W.g
    constructor
    · refine ⟨hO, s, h, fun c => c = b ∨ c ∈ blks l, gv (some (b, e)) l.length, S, W.ext.n, ⟨fun c hc => ?_, fun c hc => ?_⟩, .inl rfl, hv, some (b, e), l, rfl, ⟨Nat.zero_le _, g2⟩, hl, W.el, W.pw, fun c hc => ⟨(W.bl c hc).1, (W.bl c hc).2.1⟩⟩
      · rcases hc with rfl | hc
        · exact ⟨g1, g2.lt⟩
        · exact ⟨(W.bl c hc).1, (W.bl c hc).2.1⟩
      · rcases hc with rfl | hc
        · refine ⟨_, _, _, g2.g, fun v hv => ?_⟩
          rw [flat_vE1] at hv
          obtain ⟨j, hj⟩ := List.mem_iff_getElem?.1 hv
          rcases K.flat _ _ _ (W.el j v hj) with hp | ⟨a, n, f, cs, sz, e', rfl, _, _⟩
          · exact flatIn_plain hp
          · exact .inr (List.mem_filterMap.2 ⟨_, hv, rfl⟩)
        · obtain ⟨v, hv, hb⟩ := List.mem_filterMap.1 hc
          obtain ⟨j, hj⟩ := List.mem_iff_getElem?.1 hv
          rcases K.flat _ _ _ (W.el j v hj) with hp | ⟨a, n, f, cs, sz, e', rfl, h1, h2⟩
          · unfold blkOf at hb
            split at hb
            · simp [plainV] at hp
            · cases hb
          · cases hb
            exact ⟨cs, sz, e', h1, fun u hu => flatIn_plain (h2 u hu)⟩
    · cases hv with
      | agg x y hs hh h1 =>
        have hlen : y.size = 2 := by rw [← hs]; rfl
        have h2 := hh 1 (gv (some (b, e)) l.length) y[1] (by rfl) (Array.getElem?_eq_getElem (by omega))
        generalize y[1] = z at h2
        cases h2 with
        | sl id off sp n fl a cap c ha he hx h0' hn =>
          obtain ⟨_, _, cs, sz, k1, ys, k2, k3⟩ := S.cells b c ha
          rw [g2.g, flat_vE1] at k1
          injection k1 with k1 _ _
          subst k1
          obtain ⟨o1, o2, _⟩ := S.own b c ha g1
          have hy : 0 < ys.length := by
            rw [← k2.1.1]
            rcases l with _ | ⟨a, l⟩
            · exact absurd rfl hpos
            · simp
          refine ⟨c.b, ys[0], o1, ?_⟩
          have := k3 0 ys[0] (List.getElem?_eq_getElem hy)
          rw [o2] at this
          exact this
end Go.Id
/- Contracts over the ideal memory: what four goroutines reckon together. -/
namespace Go.Proofs.Ytambkogocbgbmaa.Id
open Go.Id Go.Conc Go.Conc.Lib
open Go.Proofs
set_option linter.unusedVariables false
set_option maxRecDepth 100000
/-- The sights' first places, side by side; how many. -/
def stN (w hh : Nat) : Nat → Int
  | 0 => 0
  | 1 => w
  | 2 => w + hh
  | 3 => 2 * w + hh
  | _ => 2 * (w + hh)
def cnN (w hh : Nat) : Nat → Nat
  | 0 => w
  | 1 => hh
  | 2 => w
  | _ => hh
theorem stN_succ (w hh : Nat) {i : Nat} (hi : i < 4) : stN w hh (i + 1) = stN w hh i + cnN w hh i := by
  match i, hi with
  | 0, _ => simp [stN, cnN]
  | 1, _ => simp [stN, cnN]
  | 2, _ => simp only [stN, cnN]; omega
  | 3, _ => simp only [stN, cnN]; omega
theorem stN_le (w hh : Nat) (i : Nat) : 0 ≤ stN w hh i ∧ stN w hh i ≤ 2 * (w + hh) := by
  match i with
  | 0 | 1 | 2 | 3 | _ + 4 => simp only [stN]; omega
def startsL (w hh : Nat) : List Value := [.int .i64 0, .int .i64 w, .int .i64 (w + hh), .int .i64 (2 * w + hh), .int .i64 (2 * (w + hh))]
theorem starts_cell (w hh : Nat) {i : Nat} (hi : i < 5) : sub? (startsL w hh) (0 + i * 1) 1 = some [.int .i64 (stN w hh i)] := by
  match i, hi with
  | 0, _ => rfl
  | 1, _ => rfl
  | 2, _ => rfl
  | 3, _ => rfl
  | 4, _ => rfl
def restOf (fn : Func) : Code := match fn.body with | some (.seq _ r) => r | _ => .skip
def rowV (i : Nat) (sl : Value) : Value := .agg #[.int .i64 i, sl]
/-- What the function that is handed on must do. -/
def OfOk (P : Program) (El : Int → Value → Hp → Prop) (m : Int) (fOf : FuncId) (cp : List Value) (h0 : Hp) : Prop :=
  ∀ (fro : Nat → Prop) (lo : Nat) (k : Int) h, Ext h0 h → lo ≤ h.n → 0 ≤ k → k < m → Tri (treeCtx P false fro) lo fOf (.int .i64 k :: cp) h fun v h' => El k v h' ∧ Ext h h' ∧ ∀ b, blkOf v = some b → h.n ≤ b
theorem workerI_ok {El : Int → Value → Hp → Prop} (K : ElOk El) (w hh : Nat) (hw : 1 ≤ w ∧ w ≤ 5) (hh1 : 1 ≤ hh ∧ hh ≤ 5) {fOf : FuncId} {cp : List Value} {h0 : Hp} (Hof : OfOk Try.prog El (2 * ((w : Int) + hh)) fOf cp h0) {sb ob cb sd : Nat} {i : Nat} (hi : i < 4) {Wg Ch : Nat} {fro : Nat → Prop} {h : Hp} (x0 : Ext h0 h)
    (hs : Bx h0 sb (startsL w hh)) (ho : Bx h0 ob [.func (.func fOf) #[] cp.toArray]) (hc : Bx h0 cb [.chan (some Ch)]) (hsd : Bx h sd [.int .i64 i]) (hsh : ∀ k v h, El k v h → ∃ x, v = .int .i64 x) (Y : Ph) (hY : Y = ⟨Try.prog, link.tWg, Wg, Ch, fro, 4, LeftBy fro h0.n Wg (RdW El (stN w hh) (cnN w hh))⟩) :
    R (treeCtx Try.prog false fro) h0.n 55 Try.f55 (.mid [dcall link.done #[.pointer (some ⟨Wg, 0, none⟩)]] fun k t _ h => SendsAt Y h0.n i k t h) [.code (restOf Try.f55)]
      (capTm 0 [(true, .pointer (some ⟨Wg, 0, none⟩)), (false, .pointer (some ⟨sb, 0, none⟩)), (false, .pointer (some ⟨sd, 0, none⟩)), (false, .pointer (some ⟨ob, 0, none⟩)), (false, .pointer (some ⟨cb, 0, none⟩))]) [] h := by
  refine more tbOk mtOk ⟨[], []⟩ 400 ?_
  refine ⟨_, hsd.ld rfl, ?_⟩
  refine And.intro ⟨by omega, by omega⟩ ?_
  have hst : ∀ {h' : Hp}, Ext h0 h' → ∀ {j : Nat}, j < 5 → Ld h' (addA ⟨sb, 0, none⟩ (j * 1)) 1 [.int .i64 (stN w hh j)] := fun e j hj => (hs.ext e).ldF (by have := starts_cell w hh hj; rwa [Nat.zero_add] at this)
  refine ⟨_, hst x0 (by omega), ?_⟩
  have b1 := stN_le w hh i
  have b2 := stN_le w hh (i + 1)
  have b3 := stN_succ w hh hi
  have hsdb : ¬ isB none sd := fun ⟨_, h⟩ => by cases h
  refine loop (σ := Option (Nat × Nat) × List Value) tbOk mtOk ⟨[], []⟩ (fun s => [(5, .v (gv s.1 s.2.length)), (6, .v (.int .i64 (stN w hh i + s.2.length))), (1, .v (.pointer (some ⟨sb, 0, none⟩))), (2, .v (.pointer (some ⟨sd, 0, none⟩))), (3, .v (.pointer (some ⟨ob, 0, none⟩))), (4, .v (.pointer (some ⟨cb, 0, none⟩)))]) (fun _ => [])
    (fun s h' => WI El (stN w hh i) h0 h' s.1 s.2 ∧ Bx h' sd [.int .i64 i] ∧ ¬ isB s.1 sd ∧ s.2.length ≤ cnN w hh i) (fun s => cnN w hh i - s.2.length) 11 (none, []) (fun _ => rfl) ⟨rfl, ?_, rfl, rfl, rfl, rfl, trivial⟩ trivial ⟨WI.nil x0, hsd, hsdb, Nat.zero_le _⟩ (fun s h' hI again => ?_)
  · show some (Sl.v (.int .i64 (stN w hh i))) = some (Sl.v (.int .i64 (stN w hh i + ((0 : Nat) : Int))))
    simp
  obtain ⟨o, l⟩ := s
  obtain ⟨i1, i2, i3, i4⟩ := hI
  have i4 : l.length ≤ cnN w hh i := i4
  refine ⟨_, i2.ld rfl, ?_⟩
  have hw1 : IntKind.i64.wrap ((i : Int) + 1) = ((i + 1 : Nat) : Int) := wr (by omega) (by omega)
  have ld1 : Ld h' (addA ⟨sb, 0, none⟩ ((IntKind.i64.wrap ((i : Int) + 1)).toNat * 1)) 1 [.int .i64 (stN w hh (i + 1))] := by rw [hw1]; exact hst i1.ext (by omega)
  refine And.intro ⟨by rw [hw1]; omega, by rw [hw1]; omega⟩ ?_
  refine ⟨_, ld1, ?_⟩
  refine cnd (fun c1 => ?_) (fun c1 => ?_)
  · have c1 : stN w hh i + (l.length : Int) < stN w hh (i + 1) := by simpa using c1
    refine more tbOk mtOk ⟨[], []⟩ 400 ?_
    refine ⟨_, (ho.ext i1.ext).ld rfl, ?_⟩
    refine callP (Hof fro h0.n (stN w hh i + (l.length : Int)) h' i1.ext i1.ext.n (by omega) (by omega)) ?_
    rintro v h1 ⟨hv, e1, nb⟩
    obtain ⟨x, rfl⟩ := hsh _ _ _ hv
    obtain ⟨o', h2, a1, W', hn', old⟩ := i1.step K hv e1 nb (by unfold Id.maxLen; omega)
    refine ⟨_, one_cells rfl, _, _, a1, ?_⟩
    refine again (o', l ++ [Value.int .i64 x]) _ _ _ ?_ ⟨rfl, ?_, rfl, rfl, rfl, rfl, trivial⟩ trivial ⟨W', ⟨Nat.lt_of_lt_of_le i2.lt hn', by rw [(old sd i2.lt i3).1]; exact i2.g⟩, (old sd i2.lt i3).2, ?_⟩
    · show cnN w hh i - (l ++ [Value.int .i64 x]).length < cnN w hh i - l.length
      rw [List.length_append, List.length_singleton]; omega
    · show some (Sl.v (.int .i64 (IntKind.i64.wrap (stN w hh i + (l.length : Int) + 1)))) = some (Sl.v (.int .i64 (stN w hh i + ((l ++ [Value.int .i64 x]).length : Int))))
      rw [List.length_append, List.length_singleton, wr (by omega) (by omega)]
      simp; omega
    · show (l ++ [Value.int .i64 x]).length ≤ cnN w hh i
      rw [List.length_append, List.length_singleton]; omega
  · have c1 : ¬ stN w hh i + (l.length : Int) < stN w hh (i + 1) := by simpa using c1
    have hl : l.length = cnN w hh i := by omega
    have hpos : l ≠ [] := by
      rintro rfl
      have : 1 ≤ cnN w hh i := by unfold cnN; split <;> omega
      simp at hl; omega
    obtain ⟨b, e, rfl⟩ : ∃ b e, o = some (b, e) := by
      match o, i1 with
      | none, i1 => exact absurd i1.g hpos
      | some (b, e), _ => exact ⟨b, e, rfl⟩
    refine more tbOk mtOk ⟨[], []⟩ 6 ?_
    refine ⟨_, (hc.ext i1.ext).ld rfl, ?_⟩
    refine ⟨_, i2.ld rfl, ?_⟩
    subst hY
    refine R_mid ⟨⟨_, _, _, _, _, rowV i (gv (some (b, e)) l.length), rfl, rfl, rfl, rfl, rfl, rfl, rfl, fun s O w vr S hv hO => ?_⟩⟩
    exact i1.left K hl hpos S hv hO
/-! ### the starter -/
def tlC : Nat → Code → Code
  | 0, c => c
  | n + 1, .seq _ r => tlC n r
  | _, _ => .skip
def hdC : Code → Code
  | .seq a _ => a
  | _ => .skip
def bodyC (fn : Func) : Code := match fn.body with | some c => c | none => .skip
def opsC : Code → Array Oper
  | .region _ ops _ => ops
  | _ => #[]
def loopC : Code → Code
  | .seq _ (.block _ (.loop c)) => c
  | _ => .skip
noncomputable def fI : Func := Try.f35
/-- What the starter knows. -/
def stTm (Wg sb ob cb : Nat) (i : Int) : Tm := [(17, .v (.int .i64 i)), (7, .r (.pointer (some ⟨Wg, 0, none⟩))), (5, .v (.pointer (some ⟨sb, 0, none⟩))), (3, .v (.pointer (some ⟨ob, 0, none⟩))), (6, .v (.pointer (some ⟨cb, 0, none⟩)))]
noncomputable def kWaitI : List Item := [.inRegion (opsC (hdC (tlC 5 (bodyC fI)))) [], .code (tlC 6 (bodyC fI))]
theorem look1 {i j : Nat} {x y : Sl} (h : Id.look [(i, y)] j = some x) : j = i ∧ x = y := by
  simp only [Id.look] at h
  split at h
  · cases h; exact ⟨by omega, rfl⟩
  · cases h
def allS (D : Nat → Prop) : Tm → Prop
  | [] => True
  | (_, x) :: r => slIn D x ∧ allS D r
theorem allS_ok {D : Nat → Prop} : ∀ {t : Tm}, allS D t → ∀ j x, Id.look t j = some x → slIn D x
  | [], _, j, x, h => by cases h
  | (i, y) :: r, ha, j, x, h => by
    simp only [Id.look] at h
    split at h
    · cases h; exact ha.1
    · exact allS_ok ha.2 j x h
def allP (p : Sl → Prop) : Tm → Prop
  | [] => True
  | (_, x) :: r => p x ∧ allP p r
theorem allP_ok {p : Sl → Prop} : ∀ {t : Tm}, allP p t → ∀ j x, Id.look t j = some x → p x
  | [], _, j, x, h => by cases h
  | (i, y) :: r, ha, j, x, h => by
    simp only [Id.look] at h
    split at h
    · cases h; exact ha.1
    · exact allP_ok ha.2 j x h
theorem OfOk.mono {P : Program} {El : Int → Value → Hp → Prop} {m : Int} {fOf : FuncId} {cp : List Value} {h0 h1 : Hp} (H : OfOk P El m fOf cp h0) (e : Ext h0 h1) : OfOk P El m fOf cp h1 := fun fro lo k h x => H fro lo k h (e.trans x)
theorem carry_list {D : Nat → Prop} {t t' : Tm} (hk : keeps t' t) (ha : allS D t') : Carry D t t' := fun j x hx => ⟨keeps_sub hk j x hx, allS_ok ha j x hx⟩
theorem startI_ok {El : Int → Value → Hp → Prop} (K : ElOk El) (w hh : Nat) (hw : 1 ≤ w ∧ w ≤ 5) (hh1 : 1 ≤ hh ∧ hh ≤ 5) {fOf : FuncId} {cp : List Value} {h0 : Hp} (Hof : OfOk Try.prog El (2 * ((w : Int) + hh)) fOf cp h0) {sb ob cb : Nat} {Wg Ch : Nat} {fro : Nat → Prop} {s0 : Sim}
    (hs : Bx h0 sb (startsL w hh)) (ho : Bx h0 ob [.func (.func fOf) #[] cp.toArray]) (hc : Bx h0 cb [.chan (some Ch)]) (hsh : ∀ k v h, El k v h → ∃ x, v = .int .i64 x) (Y : Ph) (hY : Y = ⟨Try.prog, link.tWg, Wg, Ch, fro, 4, LeftBy fro h0.n Wg (RdW El (stN w hh) (cnN w hh))⟩)
    (hin : ∀ b, b = sb ∨ b = ob ∨ b = cb → s0.adr b ≠ none) :
    ∀ r i : Nat, i + r = 4 → ∀ t, keeps (stTm Wg sb ob cb i) t → R (treeCtx Try.prog true fro) h0.n 35 fI (.mid [] (SpFrom Y link h0.n s0 h0 35 fI [(6, .v (.pointer (some ⟨cb, 0, none⟩)))] kWaitI r))
      (.code (loopC (hdC (tlC 4 (bodyC fI)))) :: .inLoop (loopC (hdC (tlC 4 (bodyC fI)))) :: .inBlock 0 :: [.code (tlC 5 (bodyC fI))]) t [] h0 := by
  intro r
  induction r with
  | zero =>
    intro i hi t ht
    refine R_trim (ls' := []) ht rfl trivial ?_
    obtain rfl : i = 4 := by omega
    refine more tbOk mtOk ⟨[3,5,6,8], []⟩ 7 ?_
    refine cndF ?_
    refine more tbOk mtOk ⟨[3,5,6,8], []⟩ 2 ?_
    subst hY
    refine R_mid ⟨fun j hj => rfl, ⟨_, 0, [], _, _, _, _, rfl, rfl, rfl, rfl, rfl, rfl, fun j x hx => ?_, rfl⟩⟩
    obtain ⟨rfl, rfl⟩ := look1 hx
    exact ⟨rfl, hc.lt, hin cb (.inr (.inr rfl))⟩
  | succ r ih =>
    intro i hi t ht
    refine R_trim (ls' := []) ht rfl trivial ?_
    refine more tbOk mtOk ⟨[3,5,6,8], []⟩ 7 ?_
    refine cnd (fun c1 => ?_) (fun c1 => absurd c1 (by simp; omega))
    refine more tbOk mtOk ⟨[3,5,6,8], []⟩ 10 ?_
    have hb0 : Bx (h0.push (.cells [.int .i64 0] 0 0)) h0.n [.int .i64 0] := Bx.push
    refine ⟨_, hb0.st (Nat.le_refl _) rfl, ?_⟩
    subst hY
    refine R_mid ⟨_, 0, [], _, _, _, _, rfl, rfl, rfl, rfl, rfl, rfl, ?_⟩
    refine more tbOk mtOk ⟨[3,5,6,8], []⟩ 3 ?_
    have hi4 : i < 4 := by omega
    have h5 : 4 - (r + 1) = i := by omega
    refine R_mid ⟨fun j hj => ?_, ⟨_, 1, [], _, _, _, _, _, _, stTm Wg sb ob cb i, rfl, rfl, rfl, rfl, rfl, rfl, ⟨_, rfl⟩, ⟨⟨_, _, _, _, _, h0.n, [.int .i64 i], 0, 0, .nilFunc, 0, none, Try.func55, rfl, rfl, rfl, rfl, rfl, rfl, rfl, Nat.le_of_ble_eq_true rfl, ?_, Nat.le_refl _, ?_, ?_, ?_, ?_⟩⟩, carry_list ⟨rfl, rfl, rfl, rfl, rfl, trivial⟩ ?_, ?_⟩⟩
    · simp [Hp.set, Hp.push, Nat.ne_of_lt hj]
    · intro v hv
      have q1 := hin sb (.inl rfl)
      have q2 := hin ob (.inr (.inl rfl))
      have q3 := hin cb (.inr (.inr rfl))
      simp only [List.mem_cons, Prod.mk.injEq, Bool.false_eq_true, false_and, false_or, true_and, List.not_mem_nil, or_false] at hv
      rcases hv with rfl | rfl | rfl | rfl
      · exact .inl ⟨hs.lt, q1⟩
      · exact .inr rfl
      · exact .inl ⟨ho.lt, q2⟩
      · exact .inl ⟨hc.lt, q3⟩
    · simp [Hp.set, Hp.push, cellsL]
    · intro v hv; simp at hv; subst hv; rfl
    · simp
    · show R _ _ _ _ (.mid _ fun k t _ h => SendsAt _ h0.n (4 - (r + 1)) k t h) _ _ _ _
      rw [h5]
      exact workerI_ok K w hh hw hh1 Hof hi4 ⟨by simp [Hp.set, Hp.push], fun j hj => by simp [Hp.set, Hp.push, Nat.ne_of_lt hj]⟩ hs ho hc (Bx.set hb0) hsh _ rfl
    · exact ⟨rfl, trivial, ⟨hs.lt, hin sb (.inl rfl)⟩, ⟨ho.lt, hin ob (.inr (.inl rfl))⟩, ⟨hc.lt, hin cb (.inr (.inr rfl))⟩, trivial⟩
    · refine more tbOk mtOk ⟨[3,5,6,8], []⟩ 100 ?_
      refine R_inLoop (ih (i + 1) (by omega) _ ⟨?_, rfl, rfl, rfl, rfl, trivial⟩)
      show some (Sl.v (.int .i64 (IntKind.i64.wrap ((i : Int) + 1)))) = _
      rw [wr (by omega) (by omega)]; rfl
/-! ### the whole -/
theorem ex_fun {α : Type} {n : Nat} {p : Nat → α → Prop} (d : α) (h : ∀ i, i < n → ∃ a, p i a) : ∃ f : Nat → α, ∀ i, i < n → p i (f i) := by
  classical
  exact ⟨fun i => if h' : i < n then (h i h').choose else d, fun i hi => by simp only [dif_pos hi]; exact (h i hi).choose_spec⟩
noncomputable def recvC : Code := loopC (hdC (tlC 8 (bodyC fI)))
theorem pick4 (s : Nat → Value) {j : Nat} (hj : j < 4) : sub? [s 0, s 1, s 2, s 3] ((j : Int).toNat * 1) 1 = some [s j] := by
  match j, hj with
  | 0, _ => rfl
  | 1, _ => rfl
  | 2, _ => rfl
  | 3, _ => rfl
variable {N0 : Nat → Prop}
theorem len4 {A : List Value} (h : A.length = 4) : ∃ a0 a1 a2 a3, A = [a0, a1, a2, a3] := by
  match A, h with
  | [a0, a1, a2, a3], _ => exact ⟨a0, a1, a2, a3, rfl⟩
theorem roundI_ok {lo : Nat} {Ch : Nat} {h : Hp} {K : List Item → Tm → Lv → Hp → Prop} {i n fl : Nat} {ad : Option Addr} {A : List Value} (hi : i < 4) (hA : A.length = 4)
    (hK : ∀ t ls, keeps [(25, .v (.chan (some Ch))), (9, .l 0 0)] t → pre [A.set i (.slice ad n fl)] ls → K (.code recvC :: .inLoop recvC :: .inBlock 2 :: [.code (tlC 9 (bodyC fI))]) t ls h) :
    R (mainCtx Try.prog N0) lo 35 fI (.mid [] K) (.inRegion (opsC (hdC recvC)) [1] :: .code (tlC 1 recvC) :: .inLoop recvC :: .inBlock 2 :: [.code (tlC 9 (bodyC fI))]) (Tm.put [(25, .v (.chan (some Ch))), (9, .l 0 0)] (some 26) (.v (.tuple #[.agg #[.int .i64 i, .slice ad n fl], .bool true]))) [A] h := by
  obtain ⟨a0, a1, a2, a3, rfl⟩ := len4 hA
  refine more tbOk mtOk ⟨[3,5,6,8], []⟩ 100 ?_
  refine cndT ?_
  match i, hi with
  | 0, _ | 1, _ | 2, _ | 3, _ => exact And.intro ⟨by decide, by decide⟩ (R_inLoop (R_mid (hK _ _ ⟨rfl, rfl, trivial⟩ ⟨rfl, trivial⟩)))
theorem recvI_ok {lo : Nat} {Post : Value → Hp → Prop} {Ch : Nat} {h : Hp} {sl : Nat → Value} (hsl : ∀ i, i < 4 → ∃ a n f, sl i = .slice a n f)
    (hfin : ∀ t ls, keeps [(9, .l 0 0)] t → pre [[sl 0, sl 1, sl 2, sl 3]] ls → R (mainCtx Try.prog N0) lo 35 fI (.ret Post) [.code (tlC 9 (bodyC fI))] t ls h) :
    ∀ (L : List Nat) (A : List Value) t ls, A.length = 4 → (∀ i ∈ L, i < 4) → (∀ j : Nat, j < 4 → j ∉ L → A[j]? = some (sl j)) → keeps [(25, .v (.chan (some Ch))), (9, .l 0 0)] t → pre [A] ls →
      RC Try.prog N0 lo 35 fI (.ret Post) Ch 4 (L.map fun (i : Nat) => Value.agg #[.int .i64 i, sl i]) true (.code recvC :: .inLoop recvC :: .inBlock 2 :: [.code (tlC 9 (bodyC fI))]) t ls h := by
  intro L
  induction L with
  | nil =>
    intro A t ls hA4 _ hA ht hl
    obtain ⟨a0, a1, a2, a3, rfl⟩ := len4 hA4
    obtain rfl : a0 = sl 0 := by simpa using hA 0 (by decide) (by simp)
    obtain rfl : a1 = sl 1 := by simpa using hA 1 (by decide) (by simp)
    obtain rfl : a2 = sl 2 := by simpa using hA 2 (by decide) (by simp)
    obtain rfl : a3 = sl 3 := by simpa using hA 3 (by decide) (by simp)
    refine RC.trim ht rfl hl ?_
    refine RC.seg (K := fun k t ls h' => k = .inRegion (opsC (hdC recvC)) [0, 1] :: .code (tlC 1 recvC) :: .inLoop recvC :: .inBlock 2 :: [.code (tlC 9 (bodyC fI))] ∧ t = [(25, .v (.chan (some Ch))), (9, .l 0 0)] ∧ ls = [[sl 0, sl 1, sl 2, sl 3]] ∧ h = h') rfl (more tbOk mtOk ⟨[3,5,6,8], []⟩ 2 (R_mid ⟨rfl, rfl, rfl, rfl⟩)) ?_
    rintro _ _ _ _ ⟨rfl, rfl, rfl, rfl⟩
    refine RC.recvEnd rfl rfl rfl Try.underlying78 (tbOk.ok 91 _ rfl) rfl rfl fun z => ?_
    refine more tbOk mtOk ⟨[3,5,6,8], []⟩ 5 ?_
    refine cndF ?_
    exact hfin _ _ ⟨rfl, trivial⟩ ⟨rfl, trivial⟩
  | cons i L ih =>
    intro A t ls hA4 hL hA ht hl
    obtain ⟨ad, n, fl, he⟩ := hsl i (hL i (by simp))
    refine RC.trim ht rfl hl ?_
    refine RC.seg (K := fun k t ls h' => k = .inRegion (opsC (hdC recvC)) [0, 1] :: .code (tlC 1 recvC) :: .inLoop recvC :: .inBlock 2 :: [.code (tlC 9 (bodyC fI))] ∧ t = [(25, .v (.chan (some Ch))), (9, .l 0 0)] ∧ ls = [A] ∧ h = h') rfl (more tbOk mtOk ⟨[3,5,6,8], []⟩ 2 (R_mid ⟨rfl, rfl, rfl, rfl⟩)) ?_
    rintro _ _ _ _ ⟨rfl, rfl, rfl, rfl⟩
    rw [List.map_cons]
    refine RC.recv rfl rfl rfl Try.underlying78 (tbOk.ok 91 _ rfl) rfl rfl ?_
    rw [he]
    refine RC.seg (K := fun k t ls h' => k = .code recvC :: .inLoop recvC :: .inBlock 2 :: [.code (tlC 9 (bodyC fI))] ∧ keeps [(25, .v (.chan (some Ch))), (9, .l 0 0)] t ∧ pre [A.set i (.slice ad n fl)] ls ∧ h = h') rfl ?_ ?_
    · exact roundI_ok (hL i (by simp)) hA4 fun t ls h1 h2 => ⟨rfl, h1, h2, rfl⟩
    · rintro _ _ _ _ ⟨rfl, h1, h2, rfl⟩
      refine ih _ _ _ (by rw [List.length_set]; exact hA4) (fun j hj => hL j (by simp [hj])) (fun j hj hj' => ?_) h1 h2
      rw [List.getElem?_set]
      by_cases hij : i = j
      · subst hij; rw [if_pos rfl, if_pos (by omega)]; exact congrArg some he.symm
      · rw [if_neg hij]; exact hA j hj (by simp [Ne.symm hij, hj'])
def catN (l : Nat → List Value) (j : Nat) : List Value := (List.range j).flatMap l
theorem catN_succ (l : Nat → List Value) (j : Nat) : catN l (j + 1) = catN l j ++ l j := by simp [catN, List.range_succ]
/-- What it yields. -/
def SidesPost (El : Int → Value → Hp → Prop) (lo : Nat) (m : Int) (h : Hp) (v : Value) (h' : Hp) : Prop :=
  ∃ o L, v = gv o L.length ∧ Gx lo h' vE1 1 o L ∧ (L.length : Int) = m ∧ (∀ (j : Nat) (x : Value), L[j]? = some x → El j x h') ∧ (blks L).Pairwise (· < ·) ∧ (∀ b ∈ blks L, h.n ≤ b ∧ b < h'.n ∧ ¬ isB o b) ∧ (∀ b, isB o b → h.n ≤ b) ∧ Ext h h'
/-- Behind the receives: all slices one behind the other. -/
theorem tailI_ok {El : Int → Value → Hp → Prop} (K : ElOk El) {lo w hh : Nat} (hw : 1 ≤ w ∧ w ≤ 5) (hh1 : 1 ≤ hh ∧ hh ≤ 5) {hb h0 h : Hp} (x0 : Ext hb h0) (x1 : Ext h0 h) (hlo : lo ≤ hb.n) {sl : Nat → Value} {c : Nat → Nat} (c0 : c 0 = h0.n) (c1 : ∀ i, i < 4 → c i ≤ c (i + 1)) (c4 : c 4 = h.n) (hrd : ∀ i, i < 4 → RdW El (stN w hh) (cnN w hh) i (c i) (c (i + 1)) (sl i) h) {t : Tm} {ls : Lv}
    (ht : keeps [(9, .l 0 0)] t) (hl : pre [[sl 0, sl 1, sl 2, sl 3]] ls) : R (mainCtx Try.prog N0) lo 35 fI (.ret (SidesPost El lo (2 * ((w : Int) + hh)) hb)) [.code (tlC 9 (bodyC fI))] t ls h := by
  obtain ⟨p, hp⟩ := ex_fun (none, []) (p := fun i (p : Option (Nat × Nat) × List Value) => sl i = gv p.1 p.2.length ∧ Gx 0 h vE1 1 p.1 p.2 ∧ p.2.length = cnN w hh i ∧ (∀ (j : Nat) (v : Value), p.2[j]? = some v → El (stN w hh i + j) v h) ∧ (blks p.2).Pairwise (· < ·) ∧ ∀ b ∈ blks p.2, c i ≤ b ∧ b < c (i + 1)) fun i hi => by
    obtain ⟨o, l, h1, h2⟩ := hrd i hi
    exact ⟨(o, l), h1, h2⟩
  refine R_trim ht rfl hl ?_
  refine more tbOk mtOk ⟨[3,5,6,8], []⟩ 100 ?_
  refine loop (σ := Nat × Option (Nat × Nat) × List Value) tbOk mtOk ⟨[3,5,6,8], []⟩ (fun s => [(35, .v (.int .i64 (s.1 : Int))), (34, .v (.agg #[sl 0, sl 1, sl 2, sl 3])), (11, .v (gv s.2.1 s.2.2.length))]) (fun _ => [])
    (fun s h' => s.1 ≤ 4 ∧ Ext h h' ∧ Gx lo h' vE1 1 s.2.1 s.2.2 ∧ (∀ b, isB s.2.1 b → h.n ≤ b) ∧ (s.2.2.length : Int) = stN w hh s.1 ∧ (∀ (j : Nat) (v : Value), s.2.2[j]? = some v → El j v h) ∧ (blks s.2.2).Pairwise (· < ·) ∧ ∀ b ∈ blks s.2.2, c 0 ≤ b ∧ b < c s.1) (fun s => 4 - s.1) 100 (0, none, []) (fun _ => rfl) ⟨rfl, rfl, rfl, trivial⟩ trivial
    ⟨by decide, Ext.refl h, rfl, (fun b hb => by obtain ⟨e, hh⟩ := hb; cases hh), rfl, (fun j v hv => by simp at hv), (by simp [blks]), (fun b hb => by simp [blks] at hb)⟩ (fun s h' hI again => ?_)
  obtain ⟨j, o, A⟩ := s
  obtain ⟨i1, i2, i3, i4, i5, i6, i7, i8⟩ := hI
  have i5 : (A.length : Int) = stN w hh j := i5
  refine cnd (fun d1 => ?_) (fun d1 => ?_)
  · have d1 : j < 4 := by have := of_decide_eq_true d1; exact Int.ofNat_lt.1 this
    refine And.intro ⟨Int.natCast_nonneg j, Int.ofNat_lt.2 d1⟩ ?_
    obtain ⟨q1, q2, q3, q4, q5, q6⟩ := hp j d1
    obtain ⟨ad, n, fl, he⟩ : ∃ ad n fl, sl j = .slice ad n fl := by
      rw [q1]; cases (p j).1 with
      | none => exact ⟨_, _, _, rfl⟩
      | some b => exact ⟨_, _, _, rfl⟩
    refine ⟨[.slice ad n fl], by rw [← he]; exact pick4 sl d1, ?_⟩
    have hn : n = (p j).2.length := by
      have q1' := q1.symm.trans he
      generalize (p j).1 = o1 at q1' q2
      match o1, q2 with
      | none, q2 =>
        have q2 : (p j).2 = [] := q2
        rw [q2]; injection q1' with _ e _; exact e.symm
      | some b, q2 => injection q1' with _ e _; exact e.symm
    subst hn
    have hcl : SlCells h' (.slice ad (p j).2.length fl) 1 (p j).2 := by
      have := (q2.ext i2).cells vE1_len
      rwa [flat_vE1, ← q1, he] at this
    have b1 := stN_succ w hh d1
    have b2 := stN_le w hh (j + 1)
    have b3 := c1 j d1
    have hlen : ((A ++ (p j).2).length : Int) = stN w hh (j + 1) := by rw [List.length_append, b1, ← i5, q3]; simp
    have hl40 : A.length + (p j).2.length ≤ 40 := by
      have e1 : ((A.length + (p j).2.length : Nat) : Int) = stN w hh (j + 1) := by rw [← List.length_append]; exact hlen
      omega
    obtain ⟨o', h2, a1, a2, a3⟩ := i3.apps vE1_len (by decide) (p j).2 (Nat.le_trans hl40 (by unfold Id.maxLen; decide)) (by have := x0.n; have := x1.n; have := i2.n; omega)
    rw [flat_vE1] at a1
    refine ⟨_, hcl, _, _, a1, ?_⟩
    have hcn : ∀ i, i ≤ 4 → c i ≤ h.n ∧ h0.n ≤ c i := by
      have e1 := c1 0 (by decide); have e2 := c1 1 (by decide); have e3 := c1 2 (by decide); have e4 := c1 3 (by decide)
      intro i hi
      match i, hi with
      | 0, _ | 1, _ | 2, _ | 3, _ | 4, _ => simp only [Nat.zero_add, Nat.reduceAdd] at e1 e2 e3 e4; omega
    refine again (j + 1, o', A ++ (p j).2) _ _ _ (by show 4 - (j + 1) < 4 - j; omega) ⟨?_, rfl, rfl, trivial⟩ trivial ⟨by show j + 1 ≤ 4; omega, ⟨Nat.le_trans i2.n a3.n, fun i hi => ?_⟩, a2, fun b hb => ?_, hlen, fun k v hv => ?_, ?_, fun b hb => ?_⟩
    · show some (Sl.v (.int .i64 (IntKind.i64.wrap ((j : Int) + 1)))) = _
      rw [wr (by omega) (by omega)]; rfl
    · rw [a3.g i (Nat.lt_of_lt_of_le hi i2.n) fun hb => by have := i4 i hb; omega]; exact i2.g i hi
    · rcases a3.b b hb with hb | hb
      · exact i4 b hb
      · exact Nat.le_trans i2.n hb
    · have hv : (A ++ (p j).2)[k]? = some v := hv
      rw [List.getElem?_append] at hv
      split at hv
      · exact i6 k v hv
      · have := q4 (k - A.length) v hv
        have e : stN w hh j + ((k - A.length : Nat) : Int) = (k : Int) := by rw [← i5]; show (A.length : Int) + _ = _; omega
        rw [e] at this
        exact this
    · show (blks (A ++ (p j).2)).Pairwise (· < ·)
      rw [blks_app, List.pairwise_append]
      exact ⟨i7, q5, fun b hb d hd => by have := (i8 b hb).2; have := (q6 d hd).1; simp only at *; omega⟩
    · have hb : b ∈ blks (A ++ (p j).2) := hb
      rw [blks_app, List.mem_append] at hb
      rcases hb with hb | hb
      · have := i8 b hb; simp only at *; omega
      · have := q6 b hb; have := hcn j (by omega); simp only at *; omega
  · have d1 : j = 4 := by
      have := of_decide_eq_false d1
      have i1 : j ≤ 4 := i1
      have : ¬ j < 4 := fun h => this (Int.ofNat_lt.2 h)
      omega
    subst d1
    refine ⟨o, A, rfl, i3, i5, fun k v hv => K.ext (i6 k v hv) i2, i7, fun b hb => ?_, fun b hb => ?_, (x0.trans x1).trans i2⟩
    · have := i8 b hb
      have := x0.n; have := x1.n; have := i2.n
      simp only at *
      exact ⟨by omega, by omega, fun hi => by have := i4 b hi; omega⟩
    · have := i4 b hb; have := x0.n; have := x1.n; omega
theorem sidesI_ok {El : Int → Value → Hp → Prop} (K : ElOk El) {lo : Nat} (w hh : Nat) (hw : 1 ≤ w ∧ w ≤ 5) (hh1 : 1 ≤ hh ∧ hh ≤ 5) (a : Option Addr) (n fl : Nat) (hn : (n : Int) = (w : Int) * hh) {fOf : FuncId} {cp : List Value} {h : Hp} (Hof : OfOk Try.prog El (2 * ((w : Int) + hh)) fOf cp h) (hsh : ∀ k v h, El k v h → ∃ x, v = .int .i64 x) :
    Tri (mainCtx Try.prog N0) lo 35 [.agg #[.int .i64 (w : Int), .slice a n fl], .func (.func fOf) #[] cp.toArray] h (SidesPost El lo (2 * ((w : Int) + hh)) h) := by
  refine enter tbOk mtOk ⟨[3,5,6,8], []⟩ 15 Try.func35 rfl rfl rfl fun hlo => ?_
  have ho : Bx (h.push (.cells [.func (.func fOf) #[] cp.toArray] 0 0)) h.n [.func (.func fOf) #[] cp.toArray] := Bx.push
  refine callP (sideStarts_ok w hh a n fl _ hw hh1 hn) ?_
  rintro v h1 ⟨rfl, e1⟩
  have hs0 : Bx (h1.push (.cells [.int .i64 0, .int .i64 0, .int .i64 0, .int .i64 0, .int .i64 0] 0 0)) h1.n [.int .i64 0, .int .i64 0, .int .i64 0, .int .i64 0, .int .i64 0] := Bx.push
  have e0 : Ext h h1 := (Ext.push h _).trans e1
  refine ⟨_, hs0.st (xs := startsL w hh) (Nat.le_trans hlo e0.n) rfl, ?_⟩
  have hs2 := hs0.set (xs := startsL w hh)
  have ho2 := ((ho.ext e1).ext (Ext.push h1 (.cells [.int .i64 0, .int .i64 0, .int .i64 0, .int .i64 0, .int .i64 0] 0 0))).off (o := .cells (startsL w hh) 0 0) (Nat.ne_of_lt (ho.ext e1).lt)
  have e2 := (e0.trans (Ext.push h1 (.cells [.int .i64 0, .int .i64 0, .int .i64 0, .int .i64 0, .int .i64 0] 0 0))).set e0.n (.cells (startsL w hh) 0 0)
  generalize Hp.set _ _ _ = h2 at *
  refine R_makeChan rfl rfl rfl Try.underlying78 (tbOk.ok 91 _ rfl) (by decide) rfl fun Ch => ?_
  refine RC.trim (t' := [(16, .v (.chan (some Ch))), (5, .v (.pointer (some ⟨h1.n, 0, none⟩))), (3, .v (.pointer (some ⟨h.n, 0, none⟩)))]) (ls' := []) ⟨rfl, rfl, rfl, trivial⟩ rfl trivial ?_
  have hc0 : Bx (h2.push (.cells [.chan none] 0 0)) h2.n [.chan none] := Bx.push
  have hc3 := hc0.set (xs := [.chan (some Ch)])
  have hs3 := (hs2.ext (Ext.push h2 (.cells [.chan none] 0 0))).off (o := .cells [.chan (some Ch)] 0 0) (Nat.ne_of_lt hs2.lt)
  have ho3 := (ho2.ext (Ext.push h2 (.cells [.chan none] 0 0))).off (o := .cells [.chan (some Ch)] 0 0) (Nat.ne_of_lt ho2.lt)
  have e3 := (e2.trans (Ext.push h2 (.cells [.chan none] 0 0))).set e2.n (.cells [.chan (some Ch)] 0 0)
  refine RC.seg (K := fun k t ls h' => k = [.inRegion (opsC (hdC (tlC 3 (bodyC fI)))) [0], .code (tlC 4 (bodyC fI))] ∧ keeps [(5, .v (.pointer (some ⟨h1.n, 0, none⟩))), (3, .v (.pointer (some ⟨h.n, 0, none⟩))), (6, .v (.pointer (some ⟨h2.n, 0, none⟩)))] t ∧ Hp.set (h2.push (.cells [.chan none] 0 0)) h2.n (.cells [.chan (some Ch)] 0 0) = h') rfl (more tbOk mtOk ⟨[3,5,6,8], []⟩ 5 ⟨_, hc0.st (Nat.le_trans hlo e2.n) rfl, R_mid ⟨rfl, ⟨rfl, rfl, rfl, trivial⟩, rfl⟩⟩) ?_
  rintro _ t _ _ ⟨rfl, k1, rfl⟩
  generalize Hp.set _ _ _ = h3 at *
  refine RC.phase (tE := [(6, .v (.pointer (some ⟨h2.n, 0, none⟩)))]) (kE := kWaitI) wgLib rfl rfl rfl rfl (Nat.le_of_ble_eq_true rfl) (tbOk.ok 88 _ rfl) rfl (RdW.ok K (stN w hh) (cnN w hh)) (by decide) rfl (fun j x hx => ⟨keeps_sub k1 j x hx, allP_ok (p := flatS) (t := [(5, .v (.pointer (some ⟨h1.n, 0, none⟩))), (3, .v (.pointer (some ⟨h.n, 0, none⟩))), (6, .v (.pointer (some ⟨h2.n, 0, none⟩)))]) ⟨trivial, trivial, trivial, trivial⟩ j x hx⟩) (fun s hp Wg fro => ?_) (fun sl Lp c h' e hnd hmem c0 c1 c4 hrd => ?_)
  · refine more tbOk mtOk ⟨[3,5,6,8], []⟩ 100 ?_
    refine R_loop (startI_ok K w hh hw hh1 (Hof.mono e3) hs3 ho3 hc3 hsh _ rfl ?_ 4 0 rfl _ ⟨rfl, rfl, rfl, rfl, rfl, trivial⟩)
    rintro b (rfl | rfl | rfl)
    · exact (hp 5 _ rfl).2
    · exact (hp 3 _ rfl).2
    · exact (hp 6 _ rfl).2
  · refine RC.seg (K := fun k t ls h'' => k = [.inRegion (opsC (hdC (tlC 6 (bodyC fI)))) [1], .code (tlC 7 (bodyC fI))] ∧ keeps [(24, .v (.chan (some Ch))), (6, .v (.pointer (some ⟨h2.n, 0, none⟩)))] t ∧ h' = h'') rfl (more tbOk mtOk ⟨[3,5,6,8], []⟩ 4 ⟨_, (hc3.ext e).ld rfl, R_mid ⟨rfl, ⟨rfl, rfl, trivial⟩, rfl⟩⟩) ?_
    rintro _ t _ _ ⟨rfl, k2, rfl⟩
    refine RC.trim (ls' := []) k2 rfl trivial ?_
    refine RC.close rfl rfl rfl rfl rfl (by rw [Try.func35]; rfl) ?_
    refine RC.seg (K := fun k t ls h'' => k = .code recvC :: .inLoop recvC :: .inBlock 2 :: [.code (tlC 9 (bodyC fI))] ∧ keeps [(25, .v (.chan (some Ch))), (9, .l 0 0)] t ∧ pre [[.slice none 0 0, .slice none 0 0, .slice none 0 0, .slice none 0 0]] ls ∧ h' = h'') rfl (more tbOk mtOk ⟨[3,5,6,8], []⟩ 100 ⟨_, (hc3.ext e).ld rfl, R_loop (R_mid ⟨rfl, ⟨rfl, rfl, trivial⟩, ⟨rfl, trivial⟩, rfl⟩)⟩) ?_
    rintro _ t ls _ ⟨rfl, k3, k4, rfl⟩
    refine recvI_ok (fun i hi => ?_) (fun t ls ht hl => tailI_ok K hw hh1 e3 e hlo c0 c1 c4 hrd ht hl) Lp _ _ _ rfl (fun i hi => (hmem i).1 hi) (fun j hj hnj => absurd ((hmem j).2 hj) hnj) k3 k4
    obtain ⟨o, l, q1, _⟩ := hrd i hi
    rw [q1]; cases o with
    | none => exact ⟨_, _, _, rfl⟩
    | some b => exact ⟨_, _, _, rfl⟩
end Go.Proofs.Ytambkogocbgbmaa.Id
/- Contracts over the ideal memory: what four goroutines reckon together, rows of numbers. -/
namespace Go.Proofs.Ytambkogocbgbmaa.Id
open Go.Id Go.Conc Go.Conc.Lib
open Go.Proofs
set_option linter.unusedVariables false
set_option maxRecDepth 100000
theorem workerS_ok {El : Int → Value → Hp → Prop} (K : ElOk El) (w hh : Nat) (hw : 1 ≤ w ∧ w ≤ 5) (hh1 : 1 ≤ hh ∧ hh ≤ 5) {fOf : FuncId} {cp : List Value} {h0 : Hp} (Hof : OfOk Try.prog El (2 * ((w : Int) + hh)) fOf cp h0) {sb ob cb sd : Nat} {i : Nat} (hi : i < 4) {Wg Ch : Nat} {fro : Nat → Prop} {h : Hp} (x0 : Ext h0 h)
    (hs : Bx h0 sb (startsL w hh)) (ho : Bx h0 ob [.func (.func fOf) #[] cp.toArray]) (hc : Bx h0 cb [.chan (some Ch)]) (hsd : Bx h sd [.int .i64 i]) (hsh : ∀ k v h, El k v h → ∃ a n f, v = .slice a n f) (Y : Ph) (hY : Y = ⟨Try.prog, link.tWg, Wg, Ch, fro, 4, LeftBy fro h0.n Wg (RdW El (stN w hh) (cnN w hh))⟩) :
    R (treeCtx Try.prog false fro) h0.n 64 Try.f64 (.mid [dcall link.done #[.pointer (some ⟨Wg, 0, none⟩)]] fun k t _ h => SendsAt Y h0.n i k t h) [.code (restOf Try.f64)]
      (capTm 0 [(true, .pointer (some ⟨Wg, 0, none⟩)), (false, .pointer (some ⟨sb, 0, none⟩)), (false, .pointer (some ⟨sd, 0, none⟩)), (false, .pointer (some ⟨ob, 0, none⟩)), (false, .pointer (some ⟨cb, 0, none⟩))]) [] h := by
  refine more tbOk mtOk ⟨[], []⟩ 400 ?_
  refine ⟨_, hsd.ld rfl, ?_⟩
  refine And.intro ⟨by omega, by omega⟩ ?_
  have hst : ∀ {h' : Hp}, Ext h0 h' → ∀ {j : Nat}, j < 5 → Ld h' (addA ⟨sb, 0, none⟩ (j * 1)) 1 [.int .i64 (stN w hh j)] := fun e j hj => (hs.ext e).ldF (by have := starts_cell w hh hj; rwa [Nat.zero_add] at this)
  refine ⟨_, hst x0 (by omega), ?_⟩
  have b1 := stN_le w hh i
  have b2 := stN_le w hh (i + 1)
  have b3 := stN_succ w hh hi
  have hsdb : ¬ isB none sd := fun ⟨_, h⟩ => by cases h
  refine loop (σ := Option (Nat × Nat) × List Value) tbOk mtOk ⟨[], []⟩ (fun s => [(5, .v (gv s.1 s.2.length)), (6, .v (.int .i64 (stN w hh i + s.2.length))), (1, .v (.pointer (some ⟨sb, 0, none⟩))), (2, .v (.pointer (some ⟨sd, 0, none⟩))), (3, .v (.pointer (some ⟨ob, 0, none⟩))), (4, .v (.pointer (some ⟨cb, 0, none⟩)))]) (fun _ => [])
    (fun s h' => WI El (stN w hh i) h0 h' s.1 s.2 ∧ Bx h' sd [.int .i64 i] ∧ ¬ isB s.1 sd ∧ s.2.length ≤ cnN w hh i) (fun s => cnN w hh i - s.2.length) 11 (none, []) (fun _ => rfl) ⟨rfl, ?_, rfl, rfl, rfl, rfl, trivial⟩ trivial ⟨WI.nil x0, hsd, hsdb, Nat.zero_le _⟩ (fun s h' hI again => ?_)
  · show some (Sl.v (.int .i64 (stN w hh i))) = some (Sl.v (.int .i64 (stN w hh i + ((0 : Nat) : Int))))
    simp
  obtain ⟨o, l⟩ := s
  obtain ⟨i1, i2, i3, i4⟩ := hI
  have i4 : l.length ≤ cnN w hh i := i4
  refine ⟨_, i2.ld rfl, ?_⟩
  have hw1 : IntKind.i64.wrap ((i : Int) + 1) = ((i + 1 : Nat) : Int) := wr (by omega) (by omega)
  have ld1 : Ld h' (addA ⟨sb, 0, none⟩ ((IntKind.i64.wrap ((i : Int) + 1)).toNat * 1)) 1 [.int .i64 (stN w hh (i + 1))] := by rw [hw1]; exact hst i1.ext (by omega)
  refine And.intro ⟨by rw [hw1]; omega, by rw [hw1]; omega⟩ ?_
  refine ⟨_, ld1, ?_⟩
  refine cnd (fun c1 => ?_) (fun c1 => ?_)
  · have c1 : stN w hh i + (l.length : Int) < stN w hh (i + 1) := by simpa using c1
    refine more tbOk mtOk ⟨[], []⟩ 400 ?_
    refine ⟨_, (ho.ext i1.ext).ld rfl, ?_⟩
    refine callP (Hof fro h0.n (stN w hh i + (l.length : Int)) h' i1.ext i1.ext.n (by omega) (by omega)) ?_
    rintro v h1 ⟨hv, e1, nb⟩
    obtain ⟨xa, xn, xf, rfl⟩ := hsh _ _ _ hv
    obtain ⟨o', h2, a1, W', hn', old⟩ := i1.step K hv e1 nb (by unfold Id.maxLen; omega)
    refine ⟨_, one_cells rfl, _, _, a1, ?_⟩
    refine again (o', l ++ [Value.slice xa xn xf]) _ _ _ ?_ ⟨rfl, ?_, rfl, rfl, rfl, rfl, trivial⟩ trivial ⟨W', ⟨Nat.lt_of_lt_of_le i2.lt hn', by rw [(old sd i2.lt i3).1]; exact i2.g⟩, (old sd i2.lt i3).2, ?_⟩
    · show cnN w hh i - (l ++ [Value.slice xa xn xf]).length < cnN w hh i - l.length
      rw [List.length_append, List.length_singleton]; omega
    · show some (Sl.v (.int .i64 (IntKind.i64.wrap (stN w hh i + (l.length : Int) + 1)))) = some (Sl.v (.int .i64 (stN w hh i + ((l ++ [Value.slice xa xn xf]).length : Int))))
      rw [List.length_append, List.length_singleton, wr (by omega) (by omega)]
      simp; omega
    · show (l ++ [Value.slice xa xn xf]).length ≤ cnN w hh i
      rw [List.length_append, List.length_singleton]; omega
  · have c1 : ¬ stN w hh i + (l.length : Int) < stN w hh (i + 1) := by simpa using c1
    have hl : l.length = cnN w hh i := by omega
    have hpos : l ≠ [] := by
      rintro rfl
      have : 1 ≤ cnN w hh i := by unfold cnN; split <;> omega
      simp at hl; omega
    obtain ⟨b, e, rfl⟩ : ∃ b e, o = some (b, e) := by
      match o, i1 with
      | none, i1 => exact absurd i1.g hpos
      | some (b, e), _ => exact ⟨b, e, rfl⟩
    refine more tbOk mtOk ⟨[], []⟩ 6 ?_
    refine ⟨_, (hc.ext i1.ext).ld rfl, ?_⟩
    refine ⟨_, i2.ld rfl, ?_⟩
    subst hY
    refine R_mid ⟨⟨_, _, _, _, _, rowV i (gv (some (b, e)) l.length), rfl, rfl, rfl, rfl, rfl, rfl, rfl, fun s O w vr S hv hO => ?_⟩⟩
    exact i1.left K hl hpos S hv hO
noncomputable def fS : Func := Try.f42
noncomputable def kWaitS : List Item := [.inRegion (opsC (hdC (tlC 5 (bodyC fS)))) [], .code (tlC 6 (bodyC fS))]
theorem startS_ok {El : Int → Value → Hp → Prop} (K : ElOk El) (w hh : Nat) (hw : 1 ≤ w ∧ w ≤ 5) (hh1 : 1 ≤ hh ∧ hh ≤ 5) {fOf : FuncId} {cp : List Value} {h0 : Hp} (Hof : OfOk Try.prog El (2 * ((w : Int) + hh)) fOf cp h0) {sb ob cb : Nat} {Wg Ch : Nat} {fro : Nat → Prop} {s0 : Sim}
    (hs : Bx h0 sb (startsL w hh)) (ho : Bx h0 ob [.func (.func fOf) #[] cp.toArray]) (hc : Bx h0 cb [.chan (some Ch)]) (hsh : ∀ k v h, El k v h → ∃ a n f, v = .slice a n f) (Y : Ph) (hY : Y = ⟨Try.prog, link.tWg, Wg, Ch, fro, 4, LeftBy fro h0.n Wg (RdW El (stN w hh) (cnN w hh))⟩)
    (hin : ∀ b, b = sb ∨ b = ob ∨ b = cb → s0.adr b ≠ none) :
    ∀ r i : Nat, i + r = 4 → ∀ t, keeps (stTm Wg sb ob cb i) t → R (treeCtx Try.prog true fro) h0.n 42 fS (.mid [] (SpFrom Y link h0.n s0 h0 42 fS [(6, .v (.pointer (some ⟨cb, 0, none⟩)))] kWaitS r))
      (.code (loopC (hdC (tlC 4 (bodyC fS)))) :: .inLoop (loopC (hdC (tlC 4 (bodyC fS)))) :: .inBlock 0 :: [.code (tlC 5 (bodyC fS))]) t [] h0 := by
  intro r
  induction r with
  | zero =>
    intro i hi t ht
    refine R_trim (ls' := []) ht rfl trivial ?_
    obtain rfl : i = 4 := by omega
    refine more tbOk mtOk ⟨[3,5,6,8], []⟩ 7 ?_
    refine cndF ?_
    refine more tbOk mtOk ⟨[3,5,6,8], []⟩ 2 ?_
    subst hY
    refine R_mid ⟨fun j hj => rfl, ⟨_, 0, [], _, _, _, _, rfl, rfl, rfl, rfl, rfl, rfl, fun j x hx => ?_, rfl⟩⟩
    obtain ⟨rfl, rfl⟩ := look1 hx
    exact ⟨rfl, hc.lt, hin cb (.inr (.inr rfl))⟩
  | succ r ih =>
    intro i hi t ht
    refine R_trim (ls' := []) ht rfl trivial ?_
    refine more tbOk mtOk ⟨[3,5,6,8], []⟩ 7 ?_
    refine cnd (fun c1 => ?_) (fun c1 => absurd c1 (by simp; omega))
    refine more tbOk mtOk ⟨[3,5,6,8], []⟩ 10 ?_
    have hb0 : Bx (h0.push (.cells [.int .i64 0] 0 0)) h0.n [.int .i64 0] := Bx.push
    refine ⟨_, hb0.st (Nat.le_refl _) rfl, ?_⟩
    subst hY
    refine R_mid ⟨_, 0, [], _, _, _, _, rfl, rfl, rfl, rfl, rfl, rfl, ?_⟩
    refine more tbOk mtOk ⟨[3,5,6,8], []⟩ 3 ?_
    have hi4 : i < 4 := by omega
    have h5 : 4 - (r + 1) = i := by omega
    refine R_mid ⟨fun j hj => ?_, ⟨_, 1, [], _, _, _, _, _, _, stTm Wg sb ob cb i, rfl, rfl, rfl, rfl, rfl, rfl, ⟨_, rfl⟩, ⟨⟨_, _, _, _, _, h0.n, [.int .i64 i], 0, 0, .nilFunc, 0, none, Try.func64, rfl, rfl, rfl, rfl, rfl, rfl, rfl, Nat.le_of_ble_eq_true rfl, ?_, Nat.le_refl _, ?_, ?_, ?_, ?_⟩⟩, carry_list ⟨rfl, rfl, rfl, rfl, rfl, trivial⟩ ?_, ?_⟩⟩
    · simp [Hp.set, Hp.push, Nat.ne_of_lt hj]
    · intro v hv
      have q1 := hin sb (.inl rfl)
      have q2 := hin ob (.inr (.inl rfl))
      have q3 := hin cb (.inr (.inr rfl))
      simp only [List.mem_cons, Prod.mk.injEq, Bool.false_eq_true, false_and, false_or, true_and, List.not_mem_nil, or_false] at hv
      rcases hv with rfl | rfl | rfl | rfl
      · exact .inl ⟨hs.lt, q1⟩
      · exact .inr rfl
      · exact .inl ⟨ho.lt, q2⟩
      · exact .inl ⟨hc.lt, q3⟩
    · simp [Hp.set, Hp.push, cellsL]
    · intro v hv; simp at hv; subst hv; rfl
    · simp
    · show R _ _ _ _ (.mid _ fun k t _ h => SendsAt _ h0.n (4 - (r + 1)) k t h) _ _ _ _
      rw [h5]
      exact workerS_ok K w hh hw hh1 Hof hi4 ⟨by simp [Hp.set, Hp.push], fun j hj => by simp [Hp.set, Hp.push, Nat.ne_of_lt hj]⟩ hs ho hc (Bx.set hb0) hsh _ rfl
    · exact ⟨rfl, trivial, ⟨hs.lt, hin sb (.inl rfl)⟩, ⟨ho.lt, hin ob (.inr (.inl rfl))⟩, ⟨hc.lt, hin cb (.inr (.inr rfl))⟩, trivial⟩
    · refine more tbOk mtOk ⟨[3,5,6,8], []⟩ 100 ?_
      refine R_inLoop (ih (i + 1) (by omega) _ ⟨?_, rfl, rfl, rfl, rfl, trivial⟩)
      show some (Sl.v (.int .i64 (IntKind.i64.wrap ((i : Int) + 1)))) = _
      rw [wr (by omega) (by omega)]; rfl
noncomputable def recvD : Code := loopC (hdC (tlC 8 (bodyC fS)))
variable {N0 : Nat → Prop}
theorem roundS_ok {lo : Nat} {Ch : Nat} {h : Hp} {K : List Item → Tm → Lv → Hp → Prop} {i n fl : Nat} {ad : Option Addr} {A : List Value} (hi : i < 4) (hA : A.length = 4)
    (hK : ∀ t ls, keeps [(25, .v (.chan (some Ch))), (9, .l 0 0)] t → pre [A.set i (.slice ad n fl)] ls → K (.code recvD :: .inLoop recvD :: .inBlock 2 :: [.code (tlC 9 (bodyC fS))]) t ls h) :
    R (mainCtx Try.prog N0) lo 42 fS (.mid [] K) (.inRegion (opsC (hdC recvD)) [1] :: .code (tlC 1 recvD) :: .inLoop recvD :: .inBlock 2 :: [.code (tlC 9 (bodyC fS))]) (Tm.put [(25, .v (.chan (some Ch))), (9, .l 0 0)] (some 26) (.v (.tuple #[.agg #[.int .i64 i, .slice ad n fl], .bool true]))) [A] h := by
  obtain ⟨a0, a1, a2, a3, rfl⟩ := len4 hA
  refine more tbOk mtOk ⟨[3,5,6,8], []⟩ 100 ?_
  refine cndT ?_
  match i, hi with
  | 0, _ | 1, _ | 2, _ | 3, _ => exact And.intro ⟨by decide, by decide⟩ (R_inLoop (R_mid (hK _ _ ⟨rfl, rfl, trivial⟩ ⟨rfl, trivial⟩)))
theorem recvS_ok {lo : Nat} {Post : Value → Hp → Prop} {Ch : Nat} {h : Hp} {sl : Nat → Value} (hsl : ∀ i, i < 4 → ∃ a n f, sl i = .slice a n f)
    (hfin : ∀ t ls, keeps [(9, .l 0 0)] t → pre [[sl 0, sl 1, sl 2, sl 3]] ls → R (mainCtx Try.prog N0) lo 42 fS (.ret Post) [.code (tlC 9 (bodyC fS))] t ls h) :
    ∀ (L : List Nat) (A : List Value) t ls, A.length = 4 → (∀ i ∈ L, i < 4) → (∀ j : Nat, j < 4 → j ∉ L → A[j]? = some (sl j)) → keeps [(25, .v (.chan (some Ch))), (9, .l 0 0)] t → pre [A] ls →
      RC Try.prog N0 lo 42 fS (.ret Post) Ch 4 (L.map fun (i : Nat) => Value.agg #[.int .i64 i, sl i]) true (.code recvD :: .inLoop recvD :: .inBlock 2 :: [.code (tlC 9 (bodyC fS))]) t ls h := by
  intro L
  induction L with
  | nil =>
    intro A t ls hA4 _ hA ht hl
    obtain ⟨a0, a1, a2, a3, rfl⟩ := len4 hA4
    obtain rfl : a0 = sl 0 := by simpa using hA 0 (by decide) (by simp)
    obtain rfl : a1 = sl 1 := by simpa using hA 1 (by decide) (by simp)
    obtain rfl : a2 = sl 2 := by simpa using hA 2 (by decide) (by simp)
    obtain rfl : a3 = sl 3 := by simpa using hA 3 (by decide) (by simp)
    refine RC.trim ht rfl hl ?_
    refine RC.seg (K := fun k t ls h' => k = .inRegion (opsC (hdC recvD)) [0, 1] :: .code (tlC 1 recvD) :: .inLoop recvD :: .inBlock 2 :: [.code (tlC 9 (bodyC fS))] ∧ t = [(25, .v (.chan (some Ch))), (9, .l 0 0)] ∧ ls = [[sl 0, sl 1, sl 2, sl 3]] ∧ h = h') rfl (more tbOk mtOk ⟨[3,5,6,8], []⟩ 2 (R_mid ⟨rfl, rfl, rfl, rfl⟩)) ?_
    rintro _ _ _ _ ⟨rfl, rfl, rfl, rfl⟩
    refine RC.recvEnd rfl rfl rfl Try.underlying109 (tbOk.ok 111 _ rfl) rfl rfl fun z => ?_
    refine more tbOk mtOk ⟨[3,5,6,8], []⟩ 5 ?_
    refine cndF ?_
    exact hfin _ _ ⟨rfl, trivial⟩ ⟨rfl, trivial⟩
  | cons i L ih =>
    intro A t ls hA4 hL hA ht hl
    obtain ⟨ad, n, fl, he⟩ := hsl i (hL i (by simp))
    refine RC.trim ht rfl hl ?_
    refine RC.seg (K := fun k t ls h' => k = .inRegion (opsC (hdC recvD)) [0, 1] :: .code (tlC 1 recvD) :: .inLoop recvD :: .inBlock 2 :: [.code (tlC 9 (bodyC fS))] ∧ t = [(25, .v (.chan (some Ch))), (9, .l 0 0)] ∧ ls = [A] ∧ h = h') rfl (more tbOk mtOk ⟨[3,5,6,8], []⟩ 2 (R_mid ⟨rfl, rfl, rfl, rfl⟩)) ?_
    rintro _ _ _ _ ⟨rfl, rfl, rfl, rfl⟩
    rw [List.map_cons]
    refine RC.recv rfl rfl rfl Try.underlying109 (tbOk.ok 111 _ rfl) rfl rfl ?_
    rw [he]
    refine RC.seg (K := fun k t ls h' => k = .code recvD :: .inLoop recvD :: .inBlock 2 :: [.code (tlC 9 (bodyC fS))] ∧ keeps [(25, .v (.chan (some Ch))), (9, .l 0 0)] t ∧ pre [A.set i (.slice ad n fl)] ls ∧ h = h') rfl ?_ ?_
    · exact roundS_ok (hL i (by simp)) hA4 fun t ls h1 h2 => ⟨rfl, h1, h2, rfl⟩
    · rintro _ _ _ _ ⟨rfl, h1, h2, rfl⟩
      refine ih _ _ _ (by rw [List.length_set]; exact hA4) (fun j hj => hL j (by simp [hj])) (fun j hj hj' => ?_) h1 h2
      rw [List.getElem?_set]
      by_cases hij : i = j
      · subst hij; rw [if_pos rfl, if_pos (by omega)]; exact congrArg some he.symm
      · rw [if_neg hij]; exact hA j hj (by simp [Ne.symm hij, hj'])
theorem tailS_ok {El : Int → Value → Hp → Prop} (K : ElOk El) {lo w hh : Nat} (hw : 1 ≤ w ∧ w ≤ 5) (hh1 : 1 ≤ hh ∧ hh ≤ 5) {hb h0 h : Hp} (x0 : Ext hb h0) (x1 : Ext h0 h) (hlo : lo ≤ hb.n) {sl : Nat → Value} {c : Nat → Nat} (c0 : c 0 = h0.n) (c1 : ∀ i, i < 4 → c i ≤ c (i + 1)) (c4 : c 4 = h.n) (hrd : ∀ i, i < 4 → RdW El (stN w hh) (cnN w hh) i (c i) (c (i + 1)) (sl i) h) {t : Tm} {ls : Lv}
    (ht : keeps [(9, .l 0 0)] t) (hl : pre [[sl 0, sl 1, sl 2, sl 3]] ls) : R (mainCtx Try.prog N0) lo 42 fS (.ret (SidesPost El lo (2 * ((w : Int) + hh)) hb)) [.code (tlC 9 (bodyC fS))] t ls h := by
  obtain ⟨p, hp⟩ := ex_fun (none, []) (p := fun i (p : Option (Nat × Nat) × List Value) => sl i = gv p.1 p.2.length ∧ Gx 0 h vE1 1 p.1 p.2 ∧ p.2.length = cnN w hh i ∧ (∀ (j : Nat) (v : Value), p.2[j]? = some v → El (stN w hh i + j) v h) ∧ (blks p.2).Pairwise (· < ·) ∧ ∀ b ∈ blks p.2, c i ≤ b ∧ b < c (i + 1)) fun i hi => by
    obtain ⟨o, l, h1, h2⟩ := hrd i hi
    exact ⟨(o, l), h1, h2⟩
  refine R_trim ht rfl hl ?_
  refine more tbOk mtOk ⟨[3,5,6,8], []⟩ 100 ?_
  refine loop (σ := Nat × Option (Nat × Nat) × List Value) tbOk mtOk ⟨[3,5,6,8], []⟩ (fun s => [(35, .v (.int .i64 (s.1 : Int))), (34, .v (.agg #[sl 0, sl 1, sl 2, sl 3])), (11, .v (gv s.2.1 s.2.2.length))]) (fun _ => [])
    (fun s h' => s.1 ≤ 4 ∧ Ext h h' ∧ Gx lo h' vE1 1 s.2.1 s.2.2 ∧ (∀ b, isB s.2.1 b → h.n ≤ b) ∧ (s.2.2.length : Int) = stN w hh s.1 ∧ (∀ (j : Nat) (v : Value), s.2.2[j]? = some v → El j v h) ∧ (blks s.2.2).Pairwise (· < ·) ∧ ∀ b ∈ blks s.2.2, c 0 ≤ b ∧ b < c s.1) (fun s => 4 - s.1) 100 (0, none, []) (fun _ => rfl) ⟨rfl, rfl, rfl, trivial⟩ trivial
    ⟨by decide, Ext.refl h, rfl, (fun b hb => by obtain ⟨e, hh⟩ := hb; cases hh), rfl, (fun j v hv => by simp at hv), (by simp [blks]), (fun b hb => by simp [blks] at hb)⟩ (fun s h' hI again => ?_)
  obtain ⟨j, o, A⟩ := s
  obtain ⟨i1, i2, i3, i4, i5, i6, i7, i8⟩ := hI
  have i5 : (A.length : Int) = stN w hh j := i5
  refine cnd (fun d1 => ?_) (fun d1 => ?_)
  · have d1 : j < 4 := by have := of_decide_eq_true d1; exact Int.ofNat_lt.1 this
    refine And.intro ⟨Int.natCast_nonneg j, Int.ofNat_lt.2 d1⟩ ?_
    obtain ⟨q1, q2, q3, q4, q5, q6⟩ := hp j d1
    obtain ⟨ad, n, fl, he⟩ : ∃ ad n fl, sl j = .slice ad n fl := by
      rw [q1]; cases (p j).1 with
      | none => exact ⟨_, _, _, rfl⟩
      | some b => exact ⟨_, _, _, rfl⟩
    refine ⟨[.slice ad n fl], by rw [← he]; exact pick4 sl d1, ?_⟩
    have hn : n = (p j).2.length := by
      have q1' := q1.symm.trans he
      generalize (p j).1 = o1 at q1' q2
      match o1, q2 with
      | none, q2 =>
        have q2 : (p j).2 = [] := q2
        rw [q2]; injection q1' with _ e _; exact e.symm
      | some b, q2 => injection q1' with _ e _; exact e.symm
    subst hn
    have hcl : SlCells h' (.slice ad (p j).2.length fl) 1 (p j).2 := by
      have := (q2.ext i2).cells vE1_len
      rwa [flat_vE1, ← q1, he] at this
    have b1 := stN_succ w hh d1
    have b2 := stN_le w hh (j + 1)
    have b3 := c1 j d1
    have hlen : ((A ++ (p j).2).length : Int) = stN w hh (j + 1) := by rw [List.length_append, b1, ← i5, q3]; simp
    have hl40 : A.length + (p j).2.length ≤ 40 := by
      have e1 : ((A.length + (p j).2.length : Nat) : Int) = stN w hh (j + 1) := by rw [← List.length_append]; exact hlen
      omega
    obtain ⟨o', h2, a1, a2, a3⟩ := i3.apps vE1_len (by decide) (p j).2 (Nat.le_trans hl40 (by unfold Id.maxLen; decide)) (by have := x0.n; have := x1.n; have := i2.n; omega)
    rw [flat_vE1] at a1
    refine ⟨_, hcl, _, _, a1, ?_⟩
    have hcn : ∀ i, i ≤ 4 → c i ≤ h.n ∧ h0.n ≤ c i := by
      have e1 := c1 0 (by decide); have e2 := c1 1 (by decide); have e3 := c1 2 (by decide); have e4 := c1 3 (by decide)
      intro i hi
      match i, hi with
      | 0, _ | 1, _ | 2, _ | 3, _ | 4, _ => simp only [Nat.zero_add, Nat.reduceAdd] at e1 e2 e3 e4; omega
    refine again (j + 1, o', A ++ (p j).2) _ _ _ (by show 4 - (j + 1) < 4 - j; omega) ⟨?_, rfl, rfl, trivial⟩ trivial ⟨by show j + 1 ≤ 4; omega, ⟨Nat.le_trans i2.n a3.n, fun i hi => ?_⟩, a2, fun b hb => ?_, hlen, fun k v hv => ?_, ?_, fun b hb => ?_⟩
    · show some (Sl.v (.int .i64 (IntKind.i64.wrap ((j : Int) + 1)))) = _
      rw [wr (by omega) (by omega)]; rfl
    · rw [a3.g i (Nat.lt_of_lt_of_le hi i2.n) fun hb => by have := i4 i hb; omega]; exact i2.g i hi
    · rcases a3.b b hb with hb | hb
      · exact i4 b hb
      · exact Nat.le_trans i2.n hb
    · have hv : (A ++ (p j).2)[k]? = some v := hv
      rw [List.getElem?_append] at hv
      split at hv
      · exact i6 k v hv
      · have := q4 (k - A.length) v hv
        have e : stN w hh j + ((k - A.length : Nat) : Int) = (k : Int) := by rw [← i5]; show (A.length : Int) + _ = _; omega
        rw [e] at this
        exact this
    · show (blks (A ++ (p j).2)).Pairwise (· < ·)
      rw [blks_app, List.pairwise_append]
      exact ⟨i7, q5, fun b hb d hd => by have := (i8 b hb).2; have := (q6 d hd).1; simp only at *; omega⟩
    · have hb : b ∈ blks (A ++ (p j).2) := hb
      rw [blks_app, List.mem_append] at hb
      rcases hb with hb | hb
      · have := i8 b hb; simp only at *; omega
      · have := q6 b hb; have := hcn j (by omega); simp only at *; omega
  · have d1 : j = 4 := by
      have := of_decide_eq_false d1
      have i1 : j ≤ 4 := i1
      have : ¬ j < 4 := fun h => this (Int.ofNat_lt.2 h)
      omega
    subst d1
    refine ⟨o, A, rfl, i3, i5, fun k v hv => K.ext (i6 k v hv) i2, i7, fun b hb => ?_, fun b hb => ?_, (x0.trans x1).trans i2⟩
    · have := i8 b hb
      have := x0.n; have := x1.n; have := i2.n
      simp only at *
      exact ⟨by omega, by omega, fun hi => by have := i4 b hi; omega⟩
    · have := i4 b hb; have := x0.n; have := x1.n; omega
theorem sidesS_ok {El : Int → Value → Hp → Prop} (K : ElOk El) {lo : Nat} (w hh : Nat) (hw : 1 ≤ w ∧ w ≤ 5) (hh1 : 1 ≤ hh ∧ hh ≤ 5) (a : Option Addr) (n fl : Nat) (hn : (n : Int) = (w : Int) * hh) {fOf : FuncId} {cp : List Value} {h : Hp} (Hof : OfOk Try.prog El (2 * ((w : Int) + hh)) fOf cp h) (hsh : ∀ k v h, El k v h → ∃ a n f, v = .slice a n f) :
    Tri (mainCtx Try.prog N0) lo 42 [.agg #[.int .i64 (w : Int), .slice a n fl], .func (.func fOf) #[] cp.toArray] h (SidesPost El lo (2 * ((w : Int) + hh)) h) := by
  refine enter tbOk mtOk ⟨[3,5,6,8], []⟩ 15 Try.func42 rfl rfl rfl fun hlo => ?_
  have ho : Bx (h.push (.cells [.func (.func fOf) #[] cp.toArray] 0 0)) h.n [.func (.func fOf) #[] cp.toArray] := Bx.push
  refine callP (sideStarts_ok w hh a n fl _ hw hh1 hn) ?_
  rintro v h1 ⟨rfl, e1⟩
  have hs0 : Bx (h1.push (.cells [.int .i64 0, .int .i64 0, .int .i64 0, .int .i64 0, .int .i64 0] 0 0)) h1.n [.int .i64 0, .int .i64 0, .int .i64 0, .int .i64 0, .int .i64 0] := Bx.push
  have e0 : Ext h h1 := (Ext.push h _).trans e1
  refine ⟨_, hs0.st (xs := startsL w hh) (Nat.le_trans hlo e0.n) rfl, ?_⟩
  have hs2 := hs0.set (xs := startsL w hh)
  have ho2 := ((ho.ext e1).ext (Ext.push h1 (.cells [.int .i64 0, .int .i64 0, .int .i64 0, .int .i64 0, .int .i64 0] 0 0))).off (o := .cells (startsL w hh) 0 0) (Nat.ne_of_lt (ho.ext e1).lt)
  have e2 := (e0.trans (Ext.push h1 (.cells [.int .i64 0, .int .i64 0, .int .i64 0, .int .i64 0, .int .i64 0] 0 0))).set e0.n (.cells (startsL w hh) 0 0)
  generalize Hp.set _ _ _ = h2 at *
  refine R_makeChan rfl rfl rfl Try.underlying109 (tbOk.ok 111 _ rfl) (by decide) rfl fun Ch => ?_
  refine RC.trim (t' := [(16, .v (.chan (some Ch))), (5, .v (.pointer (some ⟨h1.n, 0, none⟩))), (3, .v (.pointer (some ⟨h.n, 0, none⟩)))]) (ls' := []) ⟨rfl, rfl, rfl, trivial⟩ rfl trivial ?_
  have hc0 : Bx (h2.push (.cells [.chan none] 0 0)) h2.n [.chan none] := Bx.push
  have hc3 := hc0.set (xs := [.chan (some Ch)])
  have hs3 := (hs2.ext (Ext.push h2 (.cells [.chan none] 0 0))).off (o := .cells [.chan (some Ch)] 0 0) (Nat.ne_of_lt hs2.lt)
  have ho3 := (ho2.ext (Ext.push h2 (.cells [.chan none] 0 0))).off (o := .cells [.chan (some Ch)] 0 0) (Nat.ne_of_lt ho2.lt)
  have e3 := (e2.trans (Ext.push h2 (.cells [.chan none] 0 0))).set e2.n (.cells [.chan (some Ch)] 0 0)
  refine RC.seg (K := fun k t ls h' => k = [.inRegion (opsC (hdC (tlC 3 (bodyC fS)))) [0], .code (tlC 4 (bodyC fS))] ∧ keeps [(5, .v (.pointer (some ⟨h1.n, 0, none⟩))), (3, .v (.pointer (some ⟨h.n, 0, none⟩))), (6, .v (.pointer (some ⟨h2.n, 0, none⟩)))] t ∧ Hp.set (h2.push (.cells [.chan none] 0 0)) h2.n (.cells [.chan (some Ch)] 0 0) = h') rfl (more tbOk mtOk ⟨[3,5,6,8], []⟩ 5 ⟨_, hc0.st (Nat.le_trans hlo e2.n) rfl, R_mid ⟨rfl, ⟨rfl, rfl, rfl, trivial⟩, rfl⟩⟩) ?_
  rintro _ t _ _ ⟨rfl, k1, rfl⟩
  generalize Hp.set _ _ _ = h3 at *
  refine RC.phase (tE := [(6, .v (.pointer (some ⟨h2.n, 0, none⟩)))]) (kE := kWaitS) wgLib rfl rfl rfl rfl (Nat.le_of_ble_eq_true rfl) (tbOk.ok 88 _ rfl) rfl (RdW.ok K (stN w hh) (cnN w hh)) (by decide) rfl (fun j x hx => ⟨keeps_sub k1 j x hx, allP_ok (p := flatS) (t := [(5, .v (.pointer (some ⟨h1.n, 0, none⟩))), (3, .v (.pointer (some ⟨h.n, 0, none⟩))), (6, .v (.pointer (some ⟨h2.n, 0, none⟩)))]) ⟨trivial, trivial, trivial, trivial⟩ j x hx⟩) (fun s hp Wg fro => ?_) (fun sl Lp c h' e hnd hmem c0 c1 c4 hrd => ?_)
  · refine more tbOk mtOk ⟨[3,5,6,8], []⟩ 100 ?_
    refine R_loop (startS_ok K w hh hw hh1 (Hof.mono e3) hs3 ho3 hc3 hsh _ rfl ?_ 4 0 rfl _ ⟨rfl, rfl, rfl, rfl, rfl, trivial⟩)
    rintro b (rfl | rfl | rfl)
    · exact (hp 5 _ rfl).2
    · exact (hp 3 _ rfl).2
    · exact (hp 6 _ rfl).2
  · refine RC.seg (K := fun k t ls h'' => k = [.inRegion (opsC (hdC (tlC 6 (bodyC fS)))) [1], .code (tlC 7 (bodyC fS))] ∧ keeps [(24, .v (.chan (some Ch))), (6, .v (.pointer (some ⟨h2.n, 0, none⟩)))] t ∧ h' = h'') rfl (more tbOk mtOk ⟨[3,5,6,8], []⟩ 4 ⟨_, (hc3.ext e).ld rfl, R_mid ⟨rfl, ⟨rfl, rfl, trivial⟩, rfl⟩⟩) ?_
    rintro _ t _ _ ⟨rfl, k2, rfl⟩
    refine RC.trim (ls' := []) k2 rfl trivial ?_
    refine RC.close rfl rfl rfl rfl rfl (by rw [Try.func42]; rfl) ?_
    refine RC.seg (K := fun k t ls h'' => k = .code recvD :: .inLoop recvD :: .inBlock 2 :: [.code (tlC 9 (bodyC fS))] ∧ keeps [(25, .v (.chan (some Ch))), (9, .l 0 0)] t ∧ pre [[.slice none 0 0, .slice none 0 0, .slice none 0 0, .slice none 0 0]] ls ∧ h' = h'') rfl (more tbOk mtOk ⟨[3,5,6,8], []⟩ 100 ⟨_, (hc3.ext e).ld rfl, R_loop (R_mid ⟨rfl, ⟨rfl, rfl, trivial⟩, ⟨rfl, trivial⟩, rfl⟩)⟩) ?_
    rintro _ t ls _ ⟨rfl, k3, k4, rfl⟩
    refine recvS_ok (fun i hi => ?_) (fun t ls ht hl => tailS_ok K hw hh1 e3 e hlo c0 c1 c4 hrd ht hl) Lp _ _ _ rfl (fun i hi => (hmem i).1 hi) (fun j hj hnj => absurd ((hmem j).2 hj) hnj) k3 k4
    obtain ⟨o, l, q1, _⟩ := hrd i hi
    rw [q1]; cases o with
    | none => exact ⟨_, _, _, rfl⟩
    | some b => exact ⟨_, _, _, rfl⟩
end Go.Proofs.Ytambkogocbgbmaa.Id
/- What is told of light, plainly: where it goes, how bright a picture is. -/
namespace Go.Proofs.Ytambkogocbgbmaa.Id
open Go.Id
open Go.Proofs
set_option linter.unusedVariables false
/-- Where the light goes that comes in at a sight, and how it ends. -/
noncomputable def trail (g : Gd) (k : Int) : Tr.Tr := (isTrail_ex g k).choose
theorem trail_ok (g : Gd) (k : Int) : IsTrail g k (trail g k) ∧ ((trail g k).1.length ≤ 20000 ∧ (trail g k).2.length ≤ 60000) ∧ EOk g (trail g k).2 ∧ ((trail g k).2 ≠ [] → ∀ c ∈ g.cs, cOk c = true) ∧ ∀ e ∈ (trail g k).2, e.1 = 0 → 0 ≤ e.2.1 ∧ e.2.1 < many g := (isTrail_ex g k).choose_spec
noncomputable def lightAt (g : Gd) (k : Int) : Int := lightOf g (trail g k).2
noncomputable def pic (g : Gd) : List Int := (List.range (many g).toNat).map fun (k : Nat) => lightAt g k
theorem pic_len (g : Gd) : (pic g).length = (many g).toNat := by simp [pic]
end Go.Proofs.Ytambkogocbgbmaa.Id
/- Contracts over the ideal memory: pictures. -/
namespace Go.Proofs.Ytambkogocbgbmaa.Id
open Go.Id Go.Conc Go.Conc.Lib
open Go.Proofs
set_option linter.unusedVariables false
set_option maxRecDepth 100000
theorem many_nat {g : Gd} {w hh : Nat} (h1 : g.w = w) (h2 : g.hi = hh) : many g = 2 * ((w : Int) + hh) := by unfold many; rw [h1, h2]
/-- A row of values that are whole numbers. -/
theorem gx_ints {lo : Nat} {h : Hp} {o : Option (Nat × Nat)} {L : List Value} {l : List Int} (g : Gx lo h vE1 1 o L) (e : L = l.map fun x => Value.int .i64 x) : Gx lo h iE 1 o l := by
  subst e
  match o, g with
  | none, g => exact List.map_eq_nil_iff.1 g
  | some (b, e), ⟨g1, g2⟩ => exact ⟨g1, g2.lt, by rw [g2.g, flat_vE1, flat_iE]⟩
theorem ints_of {L : List Value} {m : Nat} {f : Int → Int} (hl : L.length = m) (h : ∀ (j : Nat) (x : Value), L[j]? = some x → x = .int .i64 (f j)) : L = ((List.range m).map fun (k : Nat) => f k).map fun x => Value.int .i64 x := by
  refine List.ext_getElem (by simp [hl]) fun j h1 h2 => ?_
  rw [h j _ (List.getElem?_eq_getElem h1)]; simp
theorem elInt (f : Int → Int) : ElOk fun k v _ => v = .int .i64 (f k) := by
  refine ⟨fun k v h e => ?_, fun k v h b e hb => ?_, fun k v h h' e _ _ => e, fun k v h e => .inl ?_, fun k v h h' d e _ => ?_⟩
  · subst e; exact ⟨rfl, rfl⟩
  · subst e; cases hb
  · subst e; rfl
  · subst e; rfl
variable {N0 : Nat → Prop} {lo : Nat}
/-- What PicOf yields. -/
def PicP (lo : Nat) (g : Gd) (h : Hp) (v : Value) (h' : Hp) : Prop := (∃ o, v = gv o (if gOk g then pic g else []).length ∧ Gx lo h' iE 1 o (if gOk g then pic g else []) ∧ ∀ b, isB o b → h.n ≤ b) ∧ Ext h h'
theorem PicOf_ok (g : Gd) (ad : Option Addr) (fl : Nat) (h : Hp) (hs : Sls h cE 2 ad g.cs) (hn : (g.cs.length : Int) < 2 ^ 31) : Tri (mainCtx Try.prog N0) lo 11 [.agg #[.int .i64 g.w, .slice ad g.cs.length fl]] h (PicP lo g h) := by
  refine enter tbOk mtOk ⟨[1], []⟩ 400 Try.func11 rfl rfl rfl fun hlo => ?_
  have hb : Bx (h.push (.cells [.int .i64 g.w, .slice ad g.cs.length fl] 0 0)) h.n [.int .i64 g.w, .slice ad g.cs.length fl] := Bx.push
  refine ⟨_, hb.ld rfl, ?_⟩
  refine callP (GridOk_ok g.w ad fl g.cs _ (hs.ext (Ext.push _ _)) hn) ?_
  rintro v h1 ⟨rfl, e1⟩
  have e2 : Ext h h1 := (Ext.push _ _).trans e1
  refine cnd (fun c1 => ?_) (fun c1 => ?_)
  · have hg : gOk g = false := by simpa using c1
    refine ⟨⟨none, ?_, ?_, fun b hb => by obtain ⟨e, hh⟩ := hb; cases hh⟩, e2⟩
    · rw [hg]; rfl
    · rw [hg]; rfl
  · have hg : gOk g = true := by simpa using c1
    refine ⟨_, (hb.ext e1).ld rfl, ?_⟩
    obtain ⟨w, hh, q1, q2, q3, q4, q5⟩ := gOk_nat hg
    have hm := many_nat q1 q2
    have S := sidesI_ok (N0 := N0) (lo := lo) (El := fun k v _ => v = .int .i64 (lightAt g k)) (elInt (lightAt g)) w hh q3 q4 ad g.cs.length fl q5 (fOf := 36) (cp := [.pointer (some ⟨h.n, 0, none⟩)]) (h := h1)
      (fun fro lo' k h' x _ k0 k1 => (PicOf1_ok g k (trail g k) ad fl h.n h' ((hb.ext e1).ext x) (hs.ext (e2.trans x)) hn (trail_ok g k).1 (trail_ok g k).2.1 (trail_ok g k).2.2.1 (trail_ok g k).2.2.2.1).mono fun v h'' ⟨a1, a2⟩ => ⟨a1, a2, fun b hb => (by subst a1; cases hb)⟩) (fun k v h e => ⟨_, e⟩)
    rw [← q1] at S
    refine callP S ?_
    rintro v h2 ⟨o, L, rfl, g1, g2, g3, g4, g5, g6, e3⟩
    have hL : L = (pic g).map fun x => Value.int .i64 x := ints_of (by omega) g3
    refine ⟨⟨o, ?_, ?_, fun b hb => Nat.le_trans e2.n (g6 b hb)⟩, e2.trans e3⟩
    · rw [hg, hL]; simp
    · rw [hg]; exact gx_ints g1 hL
end Go.Proofs.Ytambkogocbgbmaa.Id
/- Contracts over the ideal memory: PicTo. -/
namespace Go.Proofs.Ytambkogocbgbmaa.Id
open Go.Id Go.Conc Go.Conc.Lib
open Go.Proofs
set_option linter.unusedVariables false
set_option maxRecDepth 100000
section
variable {X : Ctx Try.prog} {lo : Nat}
theorem PicTo1r_ok (g : Gd) (k : Int) (T : Tr.Tr) (ad : Option Addr) (fl gp mp : Nat) (h : Hp) (hb : Bx h gp [.int .i64 g.w, .slice ad g.cs.length fl]) (hmb : Bx h mp [.int .i64 (many g)]) (hg : gOk g = true) (hs : Sls h cE 2 ad g.cs) (hn : (g.cs.length : Int) < 2 ^ 31) (hT : IsTrail g k T) (hm : T.1.length ≤ 20000 ∧ T.2.length ≤ 60000) (hE : EOk g T.2) (hO : ∀ e ∈ T.2, e.1 = 0 → 0 ≤ e.2.1 ∧ e.2.1 < many g) : Tri X lo 43 [.int .i64 k, .pointer (some ⟨mp, 0, none⟩), .pointer (some ⟨gp, 0, none⟩)] h fun v h' => (∃ b e, v = .slice (some ⟨b, 0, some e⟩) (toRow g T.2).length 1 ∧ h.n ≤ b ∧ Row h' b e iE 1 (toRow g T.2)) ∧ Ext h h' := by
  refine enter tbOk mtOk ⟨[], [(6, [0, 1, 2, 3, 4, 5, 6, 7, 8, 9], [0, 0, 2, 7, 15, 0, 32, 127, 255, 511])]⟩ 400 Try.func43 rfl rfl rfl fun hlo => ?_
  refine ⟨_, hmb.ld rfl, ?_⟩
  have hmany : 1 ≤ many g ∧ many g ≤ 20 := by
    obtain ⟨h1, h2, _⟩ := hi_ok hg
    obtain ⟨g1, g2, _⟩ := gOk_iff.1 hg
    unfold many; omega
  refine And.intro (by unfold Id.maxLen; omega) ?_
  refine ⟨_, (hb.ext (Ext.push _ _)).ld rfl, ?_⟩
  have xp := Ext.push h (.cells (zeros [.int .i64 0] (many g).toNat) 1 0)
  refine callP (trailOf_ok g k T ad fl _ (hs.ext xp) hn hT hm) ?_
  rintro v h1 ⟨o1, o2, rfl, g1, g2, e1⟩
  obtain ⟨a2, f2, q2, s2, s3⟩ := gw_sls' g2
  rw [q2]
  have hr0 : Row h1 h.n 0 iE 1 (toRow g (T.2.take 0)) := by
    have := (Row.push (h := h) (e := 0) (enc := iE) (sz := 1) (l := toRow g (T.2.take 0)))
    have hz : zeros [.int .i64 0] (many g).toNat = (toRow g (T.2.take 0)).flatMap iE := by
      rw [flat_iE, List.take_zero]; unfold toRow
      generalize (many g).toNat = m
      have hzz : ∀ m : Nat, zeros [Value.int .i64 0] m = List.replicate m (Value.int .i64 0) := fun m => by
        induction m with
        | zero => rfl
        | succ m ih => rw [zeros, ih]; rfl
      rw [hzz]
      simp [Tr.outs]
      induction m with
      | zero => rfl
      | succ m ih => rw [List.range_succ, List.map_append, ← ih, List.replicate_succ']; rfl
    rw [← hz] at this
    exact this.ext e1
  refine loop (σ := Nat) tbOk mtOk ⟨[], [(6, [0, 1, 2, 3, 4, 5, 6, 7, 8, 9], [0, 0, 2, 7, 15, 0, 32, 127, 255, 511])]⟩ (fun i => [(15, .v (.int .i64 (i : Int))), (14, .v (.int .i64 (T.2.length : Int))), (13, .v (.slice a2 T.2.length f2)), (5, .v (.slice (some ⟨h.n, 0, some 0⟩) (many g).toNat 1))]) (fun _ => []) (fun i h' => i ≤ T.2.length ∧ Ext h h' ∧ Ext1 h.n h1 h' ∧ Row h' h.n 0 iE 1 (toRow g (T.2.take i)) ∧ ∀ x, 0 ≤ Tr.outs x (T.2.take i) ∧ Tr.outs x (T.2.take i) ≤ 64 * i) (fun i => T.2.length - i) 380 0 (fun _ => rfl) ⟨rfl, rfl, rfl, rfl, trivial⟩ trivial ⟨by omega, xp.trans e1, (Ext.refl _).one _, hr0, fun x => ⟨Int.le_refl 0, by show (0 : Int) ≤ 64 * ((0 : Nat) : Int); decide⟩⟩ (fun i h' hI again => ?_)
  obtain ⟨i1, i2, i3, i4, i5⟩ := hI
  refine cnd (fun c1 => ?_) (fun c1 => ?_)
  · have c1 : i < T.2.length := by simpa using c1
    obtain ⟨a2, rfl⟩ := s2.some c1
    obtain ⟨_, he2⟩ := hE T.2[i] (List.getElem_mem c1)
    have he0 := hO T.2[i] (List.getElem_mem c1)
    have hld := (sls_ext1 i3 s2 (by have := s3 _ rfl; simp only [Hp.push] at this; omega)).ld vE3 c1
    have hsn : ∀ x, Tr.outs x (T.2.take (i + 1)) = Tr.outs x (T.2.take i) + Tr.outs x [T.2[i]] := fun x => outs_take c1
    generalize T.2[i] = e at *
    refine And.intro ⟨by omega, by omega⟩ ?_
    refine ⟨_, hld, ?_⟩
    have hw : IntKind.i64.wrap ((i : Int) + 1) = ((i + 1 : Nat) : Int) := wr (by omega) (by omega)
    refine cnd (fun c2 => ?_) (fun c2 => ?_)
    · have c2 : e.1 = 0 := by simpa using c2
      obtain ⟨j0, j1⟩ := he0 c2
      have hj : e.2.1.toNat < (toRow g (T.2.take i)).length := by rw [toRow_len]; omega
      have hjj : ((e.2.1.toNat : Nat) : Int) = e.2.1 := by omega
      have ldj : Ld h' (addA ⟨h.n, 0, some 0⟩ (e.2.1.toNat * 1)) 1 [.int .i64 (Tr.outs e.2.1 (T.2.take i))] := by
        have := (i4.sls (fun _ => rfl)).ld (fun _ => rfl) hj
        rw [toRow_get hj, hjj] at this
        exact this
      refine And.intro (by kernel_rfl) ?_
      refine And.intro ⟨j0, by omega⟩ ?_
      refine ⟨_, ldj, ?_⟩
      refine And.intro ⟨j0, by omega⟩ ?_
      refine ⟨_, row_st i4 hlo hj, ?_⟩
      have ho : ∀ x, Tr.outs x (T.2.take (i + 1)) = Tr.outs x (T.2.take i) + (if e.2.1 = x then e.2.2 else 0) := fun x => by
        rw [hsn]; simp [Tr.outs, c2]
      have hwv : IntKind.i64.wrap (Tr.outs e.2.1 (T.2.take i) + e.2.2) = Tr.outs e.2.1 (T.2.take i) + e.2.2 := by
        have := i5 e.2.1
        rw [wr (by omega) (by omega)]
      have hrow : toRow g (T.2.take (i + 1)) = (toRow g (T.2.take i)).set e.2.1.toNat (IntKind.i64.wrap (Tr.outs e.2.1 (T.2.take i) + e.2.2)) := by
        rw [hwv]
        refine List.ext_getElem (by simp [toRow]) fun n h1 h2 => ?_
        rw [toRow_get h1, List.getElem_set, ho]
        by_cases hn : e.2.1.toNat = n
        · rw [if_pos hn, if_pos (by omega), ← hn, hjj]
        · rw [if_neg hn, if_neg (by omega), Int.add_zero, toRow_get]
      refine again (i + 1) _ _ _ (by omega) ⟨?_, rfl, rfl, rfl, trivial⟩ trivial ⟨by omega, i2.set (Nat.le_refl _) _, i3.set _ (.inl rfl), by rw [hrow]; exact Row.set i4.lt, fun x => by rw [ho]; have := i5 x; split <;> omega⟩
      show some (Sl.v (.int .i64 (IntKind.i64.wrap ((i : Int) + 1)))) = _
      rw [hw]
    · have c2 : e.1 ≠ 0 := by simpa using c2
      have ho : ∀ x, Tr.outs x (T.2.take (i + 1)) = Tr.outs x (T.2.take i) := fun x => by rw [hsn]; simp [Tr.outs, c2]
      have hrow : toRow g (T.2.take (i + 1)) = toRow g (T.2.take i) := by unfold toRow; simp only [ho]
      refine again (i + 1) _ _ _ (by omega) ⟨?_, rfl, rfl, rfl, trivial⟩ trivial ⟨by omega, i2, i3, by rw [hrow]; exact i4, fun x => by rw [ho]; have := i5 x; omega⟩
      show some (Sl.v (.int .i64 (IntKind.i64.wrap ((i : Int) + 1)))) = _
      rw [hw]
  · have c1 : T.2.length = i := by simp at c1; omega
    rw [← c1, List.take_length] at i4
    refine And.intro ⟨h.n, 0, ?_, Nat.le_refl _, i4⟩ i2
    rw [toRow_len]
end
/-- A row that is a slice of its own. -/
def RowEl (f : Int → List Int) (k : Int) (v : Value) (h : Hp) : Prop := ∃ b e, v = .slice (some ⟨b, 0, some e⟩) (f k).length 1 ∧ Row h b e iE 1 (f k)
theorem elRow (f : Int → List Int) : ElOk (RowEl f) := by
  refine ⟨?_, ?_, ?_, ?_, ?_⟩
  · rintro k v h ⟨b, e, rfl, r⟩; exact ⟨rfl, rfl⟩
  · rintro k v h b' ⟨b, e, rfl, r⟩ hb
    obtain rfl : b = b' := Option.some.inj hb
    exact r.lt
  · rintro k v h h' ⟨b, e, rfl, r⟩ hn hg
    exact ⟨b, e, rfl, Nat.lt_of_lt_of_le r.lt hn, by rw [hg b rfl]; exact r.g⟩
  · rintro k v h ⟨b, e, rfl, r⟩
    refine .inr ⟨_, _, _, _, _, _, rfl, r.g, fun u hu => ?_⟩
    rw [flat_iE] at hu
    obtain ⟨x, _, rfl⟩ := List.mem_map.1 hu
    rfl
  · rintro k v h h' d ⟨b, e, rfl, r⟩ hm
    obtain ⟨m1, m2⟩ := hm b rfl
    refine ⟨b + d, e, rfl, m1, ?_⟩
    rw [m2, r.g, flat_iE]
    simp [shO, shV]
variable {N0 : Nat → Prop} {lo : Nat}
/-- A picture's row, from sight k. -/
noncomputable def rowTo (g : Gd) (k : Int) : List Int := toRow g (trail g k).2
/-- What PicTo yields. -/
def PicToP (lo : Nat) (g : Gd) (h : Hp) (v : Value) (h' : Hp) : Prop := (∃ o L, v = gv o L.length ∧ Gx lo h' vE1 1 o L ∧ (L.length : Int) = (if gOk g then many g else 0) ∧ (∀ (j : Nat) (x : Value), L[j]? = some x → RowEl (rowTo g) j x h') ∧ (∀ b ∈ blks L, h.n ≤ b ∧ ¬ isB o b) ∧ (∀ b, isB o b → h.n ≤ b) ∧ (blks L).Pairwise (· < ·)) ∧ Ext h h'
theorem PicTo_ok (g : Gd) (ad : Option Addr) (fl : Nat) (h : Hp) (hs : Sls h cE 2 ad g.cs) (hn : (g.cs.length : Int) < 2 ^ 31) : Tri (mainCtx Try.prog N0) lo 18 [.agg #[.int .i64 g.w, .slice ad g.cs.length fl]] h (PicToP lo g h) := by
  refine enter tbOk mtOk ⟨[1,3], []⟩ 400 Try.func18 rfl rfl rfl fun hlo => ?_
  have hb : Bx (h.push (.cells [.int .i64 g.w, .slice ad g.cs.length fl] 0 0)) h.n [.int .i64 g.w, .slice ad g.cs.length fl] := Bx.push
  refine ⟨_, hb.ld rfl, ?_⟩
  refine callP (GridOk_ok g.w ad fl g.cs _ (hs.ext (Ext.push _ _)) hn) ?_
  rintro v h1 ⟨rfl, e1⟩
  have e2 : Ext h h1 := (Ext.push _ _).trans e1
  refine cnd (fun c1 => ?_) (fun c1 => ?_)
  · have hg : gOk g = false := by simpa using c1
    refine ⟨⟨none, [], rfl, rfl, by rw [hg]; rfl, fun j x hx => by simp at hx, fun b hb => by simp [blks] at hb, fun b hb => (by obtain ⟨e, hh⟩ := hb; cases hh), by simp [blks]⟩, e2⟩
  · have hg : gOk g = true := by simpa using c1
    refine ⟨_, (hb.ext e1).ld rfl, ?_⟩
    refine callP (SightMany_ok g ad fl h1 (hs.ext e2) hn) ?_
    rintro v h2 ⟨rfl, e3⟩
    rw [if_pos hg]
    have m0 : Bx (h2.push (.cells [.int .i64 0] 0 0)) h2.n [.int .i64 0] := Bx.push
    have e4 : Ext h2 (h2.push (.cells [.int .i64 0] 0 0)) := Ext.push _ _
    have hlo2 : lo ≤ h2.n := by have := e2.n; have := e3.n; omega
    refine ⟨(h2.push (.cells [.int .i64 0] 0 0)).set h2.n (.cells [.int .i64 (many g)] 0 0), m0.st hlo2 rfl, ?_⟩
    have m1 : Bx ((h2.push (.cells [.int .i64 0] 0 0)).set h2.n (.cells [.int .i64 (many g)] 0 0)) h2.n [.int .i64 (many g)] := m0.set
    have e5 : Ext h2 ((h2.push (.cells [.int .i64 0] 0 0)).set h2.n (.cells [.int .i64 (many g)] 0 0)) := e4.set (Nat.le_refl _) _
    generalize (h2.push (.cells [.int .i64 0] 0 0)).set h2.n (.cells [.int .i64 (many g)] 0 0) = h3 at *
    have e6 := e3.trans e5
    refine ⟨_, (hb.ext (e1.trans e6)).ld rfl, ?_⟩
    obtain ⟨w, hh, q1, q2, q3, q4, q5⟩ := gOk_nat hg
    have hm := many_nat q1 q2
    have S := sidesS_ok (N0 := N0) (lo := lo) (elRow (rowTo g)) w hh q3 q4 ad g.cs.length fl q5 (fOf := 43) (cp := [.pointer (some ⟨h2.n, 0, none⟩), .pointer (some ⟨h.n, 0, none⟩)]) (h := h3)
      (fun fro lo' k h' x _ k0 k1 => (PicTo1r_ok g k (trail g k) ad fl h.n h2.n h' ((hb.ext (e1.trans e6)).ext x) (m1.ext x) hg (hs.ext ((e2.trans e6).trans x)) hn (trail_ok g k).1 (trail_ok g k).2.1 (trail_ok g k).2.2.1 (trail_ok g k).2.2.2.2).mono fun v h'' ⟨⟨b, e, a1, a2, a3⟩, a4⟩ => ⟨⟨b, e, a1, a3⟩, a4, fun b' hb => (by subst a1; obtain rfl : b = b' := Option.some.inj hb; exact a2)⟩) (fun k v h ⟨b, e, hv, _⟩ => ⟨_, _, _, hv⟩)
    rw [← q1] at S
    refine callP S ?_
    rintro v h4 ⟨o, L, rfl, g1, g2, g3, g4, g5, g6, e7⟩
    have e8 := e2.trans e6
    refine ⟨⟨o, L, rfl, g1, ?_, g3, fun b hb => ⟨Nat.le_trans e8.n (g5 b hb).1, (g5 b hb).2.2⟩, fun b hb => Nat.le_trans e8.n (g6 b hb), g4⟩, e8.trans e7⟩
    rw [g2, hg, if_pos rfl, hm, q1]
end Go.Proofs.Ytambkogocbgbmaa.Id
/- Contracts over the ideal memory: spec's grids and sights. -/
namespace Go.Proofs.Ytambkogocbgbmaa.Id
open Go.Id
open Go.Proofs
set_option linter.unusedVariables false
set_option maxRecDepth 100000
variable {X : Ctx Try.prog} {lo : Nat}
theorem sCellOk_ok (a b : Int) (h : Hp) : Tri X lo 41 [.agg #[.int .i64 a, .int .i64 b]] h fun v h' => v = .bool (cOk (a, b)) ∧ Ext h h' := by
  refine enter tbOk mtOk ⟨[], []⟩ 400 Try.func41 rfl rfl rfl fun hlo => ?_
  refine cnd (fun c1 => ?_) (fun c1 => ?_)
  · have c1 : a = 7 := by simpa using c1
    refine callP (l6In_ok b 1 9 h) ?_
    rintro v h1 ⟨rfl, q⟩
    subst q
    refine And.intro ?_ (Ext.refl _)
    simp [cOk, c1]
  · have c1 : a ≠ 7 := by simpa using c1
    refine callP (l6In_ok a 0 6 h) ?_
    rintro v h1 ⟨rfl, q⟩
    subst q
    refine cnd (fun c2 => ?_) (fun c2 => ?_)
    · refine And.intro ?_ (Ext.refl _)
      show Value.bool (b == 0) = _
      have c2 : 0 ≤ a ∧ a ≤ 6 := by simpa using c2
      simp [cOk, c1, c2]; rfl
    · refine And.intro ?_ (Ext.refl _)
      have c2 : ¬ (0 ≤ a ∧ a ≤ 6) := by simp at c2; omega
      have : cOk (a, b) = false := by
        unfold cOk; rw [if_neg c1]; simp; omega
      rw [this]
theorem high_ok (w : Int) (a : Option Addr) (n fl : Nat) (h : Hp) (hw : 1 ≤ w) (hn : (n : Int) < 2 ^ 31) : Tri X lo 65 [.agg #[.int .i64 w, .slice a n fl]] h fun v h' => v = .int .i64 ((n : Int) / w) ∧ Ext h h' := by
  refine enter tbOk mtOk ⟨[], []⟩ 200 Try.func65 rfl rfl rfl fun hlo => ?_
  refine And.intro (by omega) ?_
  have h1 : (n : Int).tdiv w = (n : Int) / w := Int.tdiv_eq_ediv_of_nonneg (by omega)
  have h2 : 0 ≤ (n : Int) / w := Int.ediv_nonneg (by omega) (by omega)
  have h3 : (n : Int) / w ≤ n := Int.ediv_le_self _ (by omega)
  rw [h1, wr (by omega) (by omega)]
  exact ⟨rfl, Ext.refl _⟩
theorem l3Many_ok (g : Gd) (a : Option Addr) (fl : Nat) (h : Hp) (hg : gOk g = true) (hn : (g.cs.length : Int) < 2 ^ 31) : Tri X lo 44 [.agg #[.int .i64 g.w, .slice a g.cs.length fl]] h fun v h' => v = .int .i64 (many g) ∧ Ext h h' := by
  obtain ⟨h1, h2, h3⟩ := hi_ok hg
  obtain ⟨g1, g2, _⟩ := gOk_iff.1 hg
  refine enter tbOk mtOk ⟨[], [(1, [0, 1, 2, 3, 4, 5, 6], [0, 1, 0, 4, 15, 31, 63])]⟩ 200 Try.func44 rfl rfl rfl fun hlo => ?_
  refine And.intro (by kernel_rfl) ?_
  refine callP (high_ok g.w a _ fl h g1 hn) ?_
  rintro v h1 ⟨rfl, e1⟩
  refine And.intro Is.r ?_
  refine And.intro ?_ e1
  show Value.int .i64 (IntKind.i64.wrap (2 * IntKind.i64.wrap (g.w + (g.cs.length : Int) / g.w))) = _
  rw [show (g.cs.length : Int) / g.w = g.hi from rfl, wr (n := g.w + g.hi) (by omega) (by omega), wr (by omega) (by omega)]
  rfl
theorem sGridOk_ok (w : Int) (a : Option Addr) (fl : Nat) (cs : List Cl) (h : Hp) (hs : Sls h cE 2 a cs) (hn : (cs.length : Int) < 2 ^ 31) : Tri X lo 16 [.agg #[.int .i64 w, .slice a cs.length fl]] h fun v h' => v = .bool (gOk ⟨w, cs⟩) ∧ Ext h h' := by
  refine enter tbOk mtOk ⟨[], []⟩ 400 Try.func16 rfl rfl rfl fun hlo => ?_
  refine callP (l6In_ok w 1 5 h) ?_
  rintro v h1 ⟨rfl, q⟩
  subst q
  refine cnd (fun c1 => ?_) (fun c1 => ?_)
  · have c1 : ¬ (1 ≤ w ∧ w ≤ 5) := by simp at c1; omega
    refine cndT ?_
    refine cndT ?_
    refine And.intro ?_ (Ext.refl _)
    have : gOk ⟨w, cs⟩ = false := Bool.eq_false_iff.2 fun h => c1 (by have := gOk_iff.1 h; exact ⟨this.1, this.2.1⟩)
    rw [this]
  · have c1 : 1 ≤ w ∧ w ≤ 5 := by simpa using c1
    have e6 : (cs.length : Int).tmod w = (cs.length : Int) % w := Int.tmod_eq_emod_of_nonneg (by omega)
    have hq : IntKind.i64.wrap ((cs.length : Int).tdiv w) = (cs.length : Int) / w := by
      have h2 : 0 ≤ (cs.length : Int) / w := Int.ediv_nonneg (by omega) (by omega)
      have h3 : (cs.length : Int) / w ≤ cs.length := Int.ediv_le_self _ (by omega)
      rw [Int.tdiv_eq_ediv_of_nonneg (by omega), wr (by omega) (by omega)]
    refine And.intro (by omega) ?_
    refine cnd (fun c2 => ?_) (fun c2 => ?_)
    · rw [e6] at c2
      have c2 : ¬ (cs.length : Int) % w = 0 := by simpa using c2
      refine cndT ?_
      refine And.intro ?_ (Ext.refl _)
      have : gOk ⟨w, cs⟩ = false := Bool.eq_false_iff.2 fun h => c2 (gOk_iff.1 h).2.2.2.2.1
      rw [this]
    · rw [e6] at c2
      have c2 : (cs.length : Int) % w = 0 := by simpa using c2
      refine And.intro (by omega) ?_
      refine callP (l6In_ok _ 1 5 _) ?_
      rintro v h2 ⟨rfl, q⟩
      subst q
      rw [hq]
      have hmul : w * ((cs.length : Int) / w) = cs.length := by
        have := Int.mul_ediv_add_emod (cs.length : Int) w
        omega
      have hc5 : w = 1 ∨ w = 2 ∨ w = 3 ∨ w = 4 ∨ w = 5 := by omega
      refine cnd (fun c3 => ?_) (fun c3 => ?_)
      · have c3 : ¬ (1 ≤ (cs.length : Int) / w ∧ (cs.length : Int) / w ≤ 5) := by simp at c3; omega
        refine And.intro ?_ (Ext.refl _)
        have : gOk ⟨w, cs⟩ = false := Bool.eq_false_iff.2 fun h => c3 (by
          have := (hi_ok h); exact ⟨this.1, this.2.1⟩)
        rw [this]
      · have c3 : 1 ≤ (cs.length : Int) / w ∧ (cs.length : Int) / w ≤ 5 := by simpa using c3
        have hg : gOk ⟨w, cs⟩ = cs.all cOk := by
          have k1 : cs.length ≠ 0 := by intro e; rw [e] at c3; simp at c3
          have k2 : (cs.length : Int) ≤ w * 5 := by rcases hc5 with rfl | rfl | rfl | rfl | rfl <;> omega
          simp [gOk, c1, c2, k1, k2]
        refine loop (σ := Nat) tbOk mtOk ⟨[], []⟩ (fun i => [(3, .v (.int .i64 (i : Int))), (1, .l 0 0)]) (fun _ => [[.int .i64 w, .slice a cs.length fl]]) (fun i h' => i ≤ cs.length ∧ Ext h2 h' ∧ ∀ j, j < i → ∀ c, cs[j]? = some c → cOk c = true) (fun i => cs.length - i) 300 0 (fun _ => rfl) ⟨rfl, rfl, trivial⟩ ⟨rfl, trivial⟩ ⟨by omega, Ext.refl _, fun j hj => by omega⟩ (fun i h' hI again => ?_)
        obtain ⟨i1, i2, i3⟩ := hI
        refine cnd (fun c6 => ?_) (fun c6 => ?_)
        · have hi : i < cs.length := by simpa using c6
          obtain ⟨ad, rfl⟩ := hs.some hi
          refine And.intro ⟨by omega, by omega⟩ ?_
          refine ⟨_, (hs.ext i2).ld (fun _ => rfl) hi, ?_⟩
          refine callP (sCellOk_ok _ _ _) ?_
          rintro v h'' ⟨rfl, e⟩
          refine cnd (fun c7 => ?_) (fun c7 => ?_)
          · have c7 : cOk cs[i] = false := by simpa using c7
            refine ⟨?_, i2.trans e⟩
            rw [hg, eq_comm]
            refine congrArg _ (Bool.eq_false_iff.2 fun hall => ?_)
            have := (List.all_eq_true.1 hall) cs[i] (List.getElem_mem hi)
            rw [this] at c7; cases c7
          · have c7 : cOk cs[i] = true := by simpa using c7
            refine again (i + 1) _ _ _ (by omega) ⟨?_, rfl, trivial⟩ ⟨rfl, trivial⟩ ⟨by omega, i2.trans e, fun j hj c hc => ?_⟩
            · show some (Sl.v (.int .i64 (IntKind.i64.wrap ((i : Int) + 1)))) = _
              rw [wr (by omega) (by omega)]; rfl
            · rcases Nat.lt_or_ge j i with h1 | h1
              · exact i3 j h1 c hc
              · have : j = i := by omega
                subst this
                rw [List.getElem?_eq_getElem hi] at hc; cases hc; exact c7
        · have hi : ¬ i < cs.length := by simpa using c6
          refine ⟨?_, i2⟩
          rw [hg, eq_comm]
          refine congrArg _ (List.all_eq_true.2 fun c hc => ?_)
          obtain ⟨j, hj⟩ := List.mem_iff_getElem?.1 hc
          exact i3 j (by have := (List.getElem?_eq_some_iff.1 hj).1; omega) c hj
end Go.Proofs.Ytambkogocbgbmaa.Id
/- Contracts over the ideal memory: spec's sights. -/
namespace Go.Proofs.Ytambkogocbgbmaa.Id
open Go.Id
open Go.Proofs
set_option linter.unusedVariables false
set_option maxRecDepth 100000
variable {X : Ctx Try.prog} {lo : Nat}
theorem til_get {F : Nat → Cl} {n i : Nat} (h : i < n) : (til F n)[i]? = some (F i) := by simp [til, h]
/-- The rays by number. -/
theorem rays_get (w hh k : Nat) (hk : k < 2 * (w + hh)) : (rays w hh)[k]? = some (if k < w then rD k else if k < w + hh then rL w (k - w) else if k < w + hh + w then rU w hh (k - (w + hh)) else rR w hh (k - (w + hh + w))) := by
  unfold rays
  by_cases h1 : k < w
  · rw [if_pos h1, List.append_assoc, List.append_assoc, List.getElem?_append_left (by rw [til_len]; exact h1), til_get h1]
  rw [if_neg h1]
  by_cases h2 : k < w + hh
  · rw [if_pos h2, List.append_assoc, List.getElem?_append_left (by simp only [List.length_append, til_len]; exact h2), List.getElem?_append_right (by rw [til_len]; omega), til_len, til_get (by omega)]
  rw [if_neg h2]
  by_cases h3 : k < w + hh + w
  · rw [if_pos h3, List.getElem?_append_left (by simp only [List.length_append, til_len]; exact h3), List.getElem?_append_right (by simp [til_len]; omega)]
    simp only [List.length_append, til_len]
    rw [til_get (by omega)]
  · rw [if_neg h3, List.getElem?_append_right (by simp [til_len]; omega)]
    simp only [List.length_append, til_len]
    rw [til_get (by omega)]
theorem l2Back_ok (d : Int) (h : Hp) (hd : 0 ≤ d ∧ d ≤ 3) : Tri X lo 120 [.int .i64 d] h fun v h' => v = .int .i64 ((d + 2) % 4) ∧ Ext h h' := by
  refine enter tbOk mtOk ⟨[], []⟩ 400 Try.func120 rfl rfl rfl fun hlo => ?_
  refine And.intro (by decide) ?_
  rw [wr (n := d + 2) (by omega) (by omega), Int.tmod_eq_emod_of_nonneg (by omega)]
  exact ⟨rfl, Ext.refl _⟩
theorem l3Ray_ok (w hh k : Nat) (a : Option Addr) (n fl : Nat) (h : Hp) (hw : 1 ≤ w ∧ w ≤ 5) (hh1 : 1 ≤ hh ∧ hh ≤ 5) (hn : (n : Int) = (w : Int) * hh) (hk : k < 2 * (w + hh)) : Tri X lo 66 [.agg #[.int .i64 (w : Int), .slice a n fl], .int .i64 (k : Int)] h fun v h' => (∃ r, (rays w hh)[k]? = some r ∧ v = .agg #[.int .i64 r.1, .int .i64 r.2]) ∧ Ext h h' := by
  refine enter tbOk mtOk ⟨[], []⟩ 400 Try.func66 rfl rfl rfl fun hlo => ?_
  have q5 := prod5 (i := hh) (w := w) (by omega) (by omega)
  rw [Int.mul_comm] at q5
  refine callP (high_ok w a n fl h (by omega) (by omega)) ?_
  rintro v h1 ⟨rfl, e1⟩
  have hd : (n : Int) / w = hh := by rw [hn]; exact Int.mul_ediv_cancel_left _ (by omega)
  rw [hd]
  have w1 : IntKind.i64.wrap ((k : Int) - w) = (k : Int) - w := wr (by omega) (by omega)
  have w2 : IntKind.i64.wrap (IntKind.i64.wrap ((k : Int) - w) - hh) = (k : Int) - w - hh := by rw [w1]; exact wr (by omega) (by omega)
  have w3 : IntKind.i64.wrap ((n : Int) - 1) = (n : Int) - 1 := wr (by omega) (by omega)
  refine cnd (fun c1 => ?_) (fun c1 => ?_)
  · have c1 : k < w := by simpa using c1
    exact And.intro ⟨rD k, by rw [rays_get w hh k hk, if_pos c1], rfl⟩ e1
  · have c1 : ¬ k < w := by simpa using c1
    refine cnd (fun c2 => ?_) (fun c2 => ?_)
    · rw [w1] at c2
      have c2 : k < w + hh := by simp at c2; omega
      refine And.intro ⟨rL w (k - w), by rw [rays_get w hh k hk, if_neg c1, if_pos c2], ?_⟩ e1
      show Value.agg #[.int .i64 (IntKind.i64.wrap (IntKind.i64.wrap (IntKind.i64.wrap (IntKind.i64.wrap ((k : Int) - w) * w) + w) - 1)), .int .i64 3] = .agg #[.int .i64 (((k - w : Nat) : Int) * w + w - 1), .int .i64 3]
      have p1 := prod5 (i := k - w) (w := w) (by omega) (by omega)
      have ek : ((k - w : Nat) : Int) = (k : Int) - w := by omega
      rw [ek] at p1 ⊢
      rw [w1, wr (n := ((k : Int) - w) * w) (by omega) (by omega), wr (n := ((k : Int) - w) * w + w) (by omega) (by omega), wr (by omega) (by omega)]
    · rw [w1] at c2
      have c2 : ¬ k < w + hh := by simp at c2; omega
      refine cnd (fun c3 => ?_) (fun c3 => ?_)
      · rw [w2] at c3
        have c3 : k < w + hh + w := by simp at c3; omega
        refine And.intro ⟨rU w hh (k - (w + hh)), by rw [rays_get w hh k hk, if_neg c1, if_neg c2, if_pos c3], ?_⟩ e1
        show Value.agg #[.int .i64 (IntKind.i64.wrap (IntKind.i64.wrap ((n : Int) - 1) - IntKind.i64.wrap (IntKind.i64.wrap ((k : Int) - w) - hh))), .int .i64 0] = .agg #[.int .i64 ((hh : Int) * w - 1 - ((k - (w + hh) : Nat) : Int)), .int .i64 0]
        rw [w2, w3, wr (by omega) (by omega), Int.mul_comm (hh : Int), ← hn]
        congr 4; omega
      · rw [w2] at c3
        have c3 : ¬ k < w + hh + w := by simp at c3; omega
        refine And.intro ⟨rR w hh (k - (w + hh + w)), by rw [rays_get w hh k hk, if_neg c1, if_neg c2, if_neg c3], ?_⟩ e1
        show Value.agg #[.int .i64 (IntKind.i64.wrap (IntKind.i64.wrap (IntKind.i64.wrap (IntKind.i64.wrap ((n : Int) - 1) - w) + 1) - IntKind.i64.wrap (IntKind.i64.wrap (IntKind.i64.wrap (IntKind.i64.wrap ((k : Int) - w) - hh) - w) * w))), .int .i64 1] = .agg #[.int .i64 (((hh : Int) - 1 - ((k - (w + hh + w) : Nat) : Int)) * w), .int .i64 1]
        have p1 := prod5 (i := k - (w + hh + w)) (w := w) (by omega) (by omega)
        have ek : ((k - (w + hh + w) : Nat) : Int) = (k : Int) - w - hh - w := by omega
        rw [ek] at p1 ⊢
        rw [w2, w3, wr (n := (k : Int) - w - hh - w) (by omega) (by omega), wr (n := ((k : Int) - w - hh - w) * w) (by omega) (by omega), wr (n := (n : Int) - 1 - w) (by omega) (by omega), wr (n := (n : Int) - 1 - w + 1) (by omega) (by omega), wr (by omega) (by omega)]
        have hz : ((hh : Int) - 1 - ((k : Int) - w - hh - w)) * w = (n : Int) - w - ((k : Int) - w - hh - w) * w := by
          rw [Int.sub_mul ((hh : Int) - 1), Int.sub_mul (hh : Int) 1, Int.one_mul, Int.mul_comm (hh : Int), ← hn]
        rw [hz]
        congr 4; omega
end Go.Proofs.Ytambkogocbgbmaa.Id
/- Light's walk in a grid that is turned by a quarter, or seen in a mirror. No program in sight. -/
namespace Go.Proofs.Ytambkogocbgbmaa.Tr
set_option linter.unusedVariables false
/-- The kind of a cell in a grid that is turned, or seen in a mirror. -/
def swp (k : Int) : Int := if k = 2 then 3 else if k = 3 then 2 else if k = 4 then 5 else if k = 5 then 4 else k
def mp (π σ : Int → Int) (e : V) : V := (e.1, if e.1 = 0 then σ e.2.1 else π e.2.1, e.2.2)
/-- What a symmetry is asked. -/
structure Sym (w n : Int) (kd : Int → Int) (sg : Int → Int → Int) (w' n' : Int) (kd' : Int → Int) (sg' : Int → Int → Int) (π δ σ : Int → Int) : Prop where
  inn : ∀ a, 0 ≤ a ∧ a < n → 0 ≤ π a ∧ π a < n'
  dir : ∀ d, 0 ≤ d ∧ d ≤ 3 → 0 ≤ δ d ∧ δ d ≤ 3
  kind : ∀ a, 0 ≤ a ∧ a < n → kd' (π a) = swp (kd a)
  next : ∀ a d, Ok n (a, d) → nxt w' n' (π a) (δ d) = (nxt w n a d).map π
  turn : ∀ k d, 0 ≤ d ∧ d ≤ 3 → dirT (swp k) (δ d) = δ (dirT k d)
  out : ∀ a d, Ok n (a, d) → nxt w n a d = none → sg' (π a) (δ d) = σ (sg a d)
section
variable {w n : Int} {kd : Int → Int} {sg : Int → Int → Int} {w' n' : Int} {kd' : Int → Int} {sg' : Int → Int → Int} {π δ σ : Int → Int}
theorem swp_1 {k : Int} : swp k = 1 ↔ k = 1 := by unfold swp; repeat' split <;> omega
theorem swp_7 {k : Int} : swp k = 7 ↔ k = 7 := by unfold swp; repeat' split <;> omega
theorem swp_6 {k : Int} : swp k = 6 ↔ k = 6 := by unfold swp; repeat' split <;> omega
theorem swp_45 {k : Int} : (swp k = 4 ∨ swp k = 5) ↔ (k = 4 ∨ k = 5) := by unfold swp; repeat' split <;> omega
theorem mp_en (k a wt : Int) (hk : k ≠ 0) : (en k a wt).map (mp π σ) = en k (π a) wt := by
  unfold en
  by_cases h : wt > 0
  · rw [if_pos h, if_pos h]; simp [mp, hk]
  · rw [if_neg h, if_neg h]; rfl
theorem go_map (hw : 1 ≤ w) (hn : n % w = 0) (S : Sym w n kd sg w' n' kd' sg' π δ σ) (q : Nat) (a d wt : Int) (t : Tr) (ho : Ok n (a, d)) (h : go w n kd sg q a d wt = some t) :
    ∃ q' t', go w' n' kd' sg' q' (π a) (δ d) wt = some t' ∧ t'.2 = t.2.map (mp π σ) := by
  refine go_ind (kd := kd) (sg := sg) hw hn
    (fun a d wt t => ∃ q' t', go w' n' kd' sg' q' (π a) (δ d) wt = some t' ∧ t'.2 = t.2.map (mp π σ))
    (fun a d wt t => Ok n (a, d) → ∃ q' t', lv w' n' sg' (go w' n' kd' sg' q') (π a) (δ d) wt = some t' ∧ t'.2 = t.2.map (mp π σ))
    ?_ ?_ ?_ ?_ ?_ ?_ ?_ ?_ ?_ q a d wt t ho h
  · intro a d; exact ⟨1, ([], []), by rw [go, if_pos rfl], rfl⟩
  · intro a d _; exact ⟨1, ([], []), by unfold lv; rw [if_pos rfl], rfl⟩
  · intro a d wt ho hz k1 k7 hx _
    refine ⟨1, ([], [(0, σ (sg a d), wt)]), ?_, by simp [mp]⟩
    unfold lv
    rw [if_neg hz, S.next a d ho, hx, Option.map_none]
    simp only
    rw [S.out a d ho hx]
  · intro a d wt a' t ho hz hx ho' hM _
    obtain ⟨q', t', ht', e⟩ := hM
    refine ⟨q', t', ?_, e⟩
    unfold lv
    rw [if_neg hz, S.next a d ho, hx, Option.map_some]
    exact ht'
  · intro a d wt ho hz hk
    refine ⟨1, ([(π a, δ d, wt)], [(1, π a, wt)]), by rw [go, if_neg hz, if_pos (by rw [S.kind a ho.1]; exact swp_1.2 hk)], by simp [mp]⟩
  · intro a d wt ho hz hk
    have e := S.kind a ho.1
    refine ⟨1, ([(π a, δ d, wt)], [(2, π a, wt)]), by rw [go, if_neg hz, if_neg (by rw [e, swp_1]; omega), if_pos (by rw [e]; exact swp_7.2 hk)], by simp [mp]⟩
  · intro a d wt t ho hz hk hL
    have e := S.kind a ho.1
    obtain ⟨q', t', ht', f⟩ := hL ho
    refine ⟨q' + 1, _, by rw [go, if_neg hz, if_neg (by rw [e, swp_1]; omega), if_neg (by rw [e, swp_7]; omega), if_pos (by rw [e]; exact swp_6.2 hk), ht', Option.bind_some], ?_⟩
    simp only [List.map_append, f, mp_en 3 a _ (by decide)]
  · intro a d wt t u ho hz hk hL hR
    have e := S.kind a ho.1
    have hT := S.turn (kd a) d ho.2
    rw [← e] at hT
    obtain ⟨q1, t1, ht1, f1⟩ := hL ho
    obtain ⟨q2, t2, ht2, f2⟩ := hR ⟨ho.1, dirT_ok ho.2⟩
    have g1 := lv_le (Nat.le_max_left q1 q2) ht1
    have g2 := lv_le (Nat.le_max_right q1 q2) ht2
    refine ⟨max q1 q2 + 1, _, by rw [go, if_neg hz, if_neg (by rw [e, swp_1]; omega), if_neg (by rw [e, swp_7]; omega), if_neg (by rw [e, swp_6]; omega), if_pos (by rw [e]; exact swp_45.2 hk), g1, Option.bind_some, hT, g2, Option.bind_some], ?_⟩
    simp only [List.map_append, f1, f2, mp_en 3 a _ (by decide)]
  · intro a d wt t ho hz hk hL
    obtain ⟨k1, k7, k6, k4⟩ := hk
    have e := S.kind a ho.1
    have hT := S.turn (kd a) d ho.2
    rw [← e] at hT
    obtain ⟨q', t', ht', f⟩ := hL ⟨ho.1, dirT_ok ho.2⟩
    refine ⟨q' + 1, ((π a, δ d, wt) :: t'.1, t'.2), by rw [go, if_neg hz, if_neg (by rw [e, swp_1]; exact k1), if_neg (by rw [e, swp_7]; exact k7), if_neg (by rw [e, swp_6]; exact k6), if_neg (by rw [e, swp_45]; exact k4), hT, ht', Option.bind_some], f⟩
/-- As much leaves at the sight that another becomes. -/
theorem outs_map (x : Int) (l : List V) (h : ∀ e ∈ l, e.1 = 0 → (σ e.2.1 = σ x ↔ e.2.1 = x)) : outs (σ x) (l.map (mp π σ)) = outs x l := by
  induction l with
  | nil => rfl
  | cons e l ih =>
    have r := ih fun e he => h e (List.mem_cons_of_mem _ he)
    simp only [List.map_cons, outs, r]
    by_cases c : e.1 = 0
    · have hh := h e (List.mem_cons_self ..) c
      simp only [mp, c, if_pos, true_and]
      by_cases cx : e.2.1 = x
      · rw [if_pos (hh.2 cx), if_pos cx]
      · rw [if_neg (fun e => cx (hh.1 e)), if_neg cx]
    · simp only [mp, c, if_false, false_and]
end
/-! ### the two symmetries, in numbers -/
def piT (w h a : Int) : Int := (a % w) * h + (h - 1 - a / w)
def deT (d : Int) : Int := (d + 1) % 4
def siT (w h k : Int) : Int := (k + h) % (2 * (w + h))
def piF (w a : Int) : Int := (a / w) * w + (w - 1 - a % w)
def deF (d : Int) : Int := if d = 1 then 3 else if d = 3 then 1 else d
def siF (w h k : Int) : Int := (w - 1 - k + 2 * (w + h)) % (2 * (w + h))
theorem deT_turn (k d : Int) (hd : 0 ≤ d ∧ d ≤ 3) : dirT (swp k) (deT d) = deT (dirT k d) := by
  have c : d = 0 ∨ d = 1 ∨ d = 2 ∨ d = 3 := by omega
  unfold swp
  by_cases h2 : k = 2
  · subst h2; rcases c with rfl | rfl | rfl | rfl <;> decide
  by_cases h3 : k = 3
  · subst h3; rcases c with rfl | rfl | rfl | rfl <;> decide
  by_cases h4 : k = 4
  · subst h4; rcases c with rfl | rfl | rfl | rfl <;> decide
  by_cases h5 : k = 5
  · subst h5; rcases c with rfl | rfl | rfl | rfl <;> decide
  rw [if_neg h2, if_neg h3, if_neg h4, if_neg h5]
  unfold dirT
  rw [if_neg (by omega), if_neg (by omega), if_neg (by omega), if_neg (by omega)]
theorem deF_turn (k d : Int) (hd : 0 ≤ d ∧ d ≤ 3) : dirT (swp k) (deF d) = deF (dirT k d) := by
  have c : d = 0 ∨ d = 1 ∨ d = 2 ∨ d = 3 := by omega
  unfold swp
  by_cases h2 : k = 2
  · subst h2; rcases c with rfl | rfl | rfl | rfl <;> decide
  by_cases h3 : k = 3
  · subst h3; rcases c with rfl | rfl | rfl | rfl <;> decide
  by_cases h4 : k = 4
  · subst h4; rcases c with rfl | rfl | rfl | rfl <;> decide
  by_cases h5 : k = 5
  · subst h5; rcases c with rfl | rfl | rfl | rfl <;> decide
  rw [if_neg h2, if_neg h3, if_neg h4, if_neg h5]
  unfold dirT
  rw [if_neg (by omega), if_neg (by omega), if_neg (by omega), if_neg (by omega)]
theorem rc {w h a : Int} (hw : 1 ≤ w) (a0 : 0 ≤ a) (a1 : a < w * h) : ∃ r c, a = r * w + c ∧ 0 ≤ c ∧ c < w ∧ 0 ≤ r ∧ r < h ∧ a / w = r ∧ a % w = c := by
  have e := Int.emod_add_mul_ediv a w
  have c0 := Int.emod_nonneg a (show w ≠ 0 by omega)
  have c1 := Int.emod_lt_of_pos a (show 0 < w by omega)
  have r0 : 0 ≤ a / w := Int.ediv_nonneg a0 (by omega)
  have r1 : a / w < h := Int.ediv_lt_of_lt_mul (by omega) (by rw [Int.mul_comm]; exact a1)
  exact ⟨a / w, a % w, by rw [Int.mul_comm]; omega, c0, c1, r0, r1, rfl, rfl⟩
theorem rc_div {w r c : Int} (hc : 0 ≤ c) (hc' : c < w) : (r * w + c) / w = r ∧ (r * w + c) % w = c := by
  constructor
  · rw [Int.add_comm, Int.add_mul_ediv_right _ _ (by omega), Int.ediv_eq_zero_of_lt hc hc', Int.zero_add]
  · rw [Int.add_comm, Int.add_mul_emod_self_right, Int.emod_eq_of_lt hc hc']
theorem rc_lt {w h r c : Int} (hw : 1 ≤ w) (r0 : 0 ≤ r) (r1 : r < h) (c0 : 0 ≤ c) (c1 : c < w) : 0 ≤ r * w + c ∧ r * w + c < w * h := by
  have h1 : 0 ≤ r * w := Int.mul_nonneg r0 (by omega)
  have h2 : (r + 1) * w ≤ h * w := Int.mul_le_mul_of_nonneg_right (by omega) (by omega)
  rw [Int.add_mul, Int.one_mul] at h2
  rw [Int.mul_comm w h]
  omega
/-- The next cell by its row and column. -/
theorem nxt_rc {w h r c d : Int} (hw : 1 ≤ w) (r0 : 0 ≤ r) (r1 : r < h) (c0 : 0 ≤ c) (c1 : c < w) : nxt w (w * h) (r * w + c) d =
    (if d = 0 then (if 1 ≤ r then some ((r - 1) * w + c) else none) else if d = 1 then (if c ≠ w - 1 then some (r * w + (c + 1)) else none) else if d = 2 then (if r + 1 < h then some ((r + 1) * w + c) else none) else (if c ≠ 0 then some (r * w + (c - 1)) else none)) := by
  have e := (rc_div (r := r) c0 c1).2
  unfold nxt
  have hr : (r * w + c ≥ w ↔ 1 ≤ r) := by
    constructor
    · intro hh
      rcases Int.lt_or_le r 1 with q | q
      · have : r = 0 := by omega
        subst this; omega
      · exact q
    · intro q
      have := Int.mul_le_mul_of_nonneg_right q (show 0 ≤ w by omega)
      omega
  have hr2 : (r * w + c + w < w * h ↔ r + 1 < h) := by
    constructor
    · intro hh
      rcases Int.lt_or_le (r + 1) h with q | q
      · exact q
      · have hh' : r + 1 = h := by omega
        rw [← hh', Int.mul_comm w, Int.add_mul, Int.one_mul] at hh
        omega
    · intro q
      have := (rc_lt (h := h) (r := r + 1) (c := c) hw (by omega) q c0 c1).2
      rw [Int.add_mul, Int.one_mul] at this; omega
  rw [e]
  by_cases d0 : d = 0
  · rw [if_pos d0, if_pos d0]
    by_cases q : 1 ≤ r
    · rw [if_pos (hr.2 q), if_pos q, Int.sub_mul, Int.one_mul]; congr 1; omega
    · rw [if_neg (fun x => q (hr.1 x)), if_neg q]
  rw [if_neg d0, if_neg d0]
  by_cases d1 : d = 1
  · rw [if_pos d1, if_pos d1]
    by_cases q : c ≠ w - 1
    · rw [if_pos q, if_pos q]; congr 1; omega
    · rw [if_neg q, if_neg q]
  rw [if_neg d1, if_neg d1]
  by_cases d2 : d = 2
  · rw [if_pos d2, if_pos d2]
    by_cases q : r + 1 < h
    · rw [if_pos (hr2.2 q), if_pos q, Int.add_mul, Int.one_mul]; congr 1; omega
    · rw [if_neg (fun x => q (hr2.1 x)), if_neg q]
  rw [if_neg d2, if_neg d2]
  by_cases q : c ≠ 0
  · rw [if_pos q, if_pos q]; congr 1; omega
  · rw [if_neg q, if_neg q]
theorem piT_rc {w h r c : Int} (c0 : 0 ≤ c) (c1 : c < w) : piT w h (r * w + c) = c * h + (h - 1 - r) := by
  unfold piT; rw [(rc_div c0 c1).1, (rc_div c0 c1).2]
theorem piF_rc {w r c : Int} (c0 : 0 ≤ c) (c1 : c < w) : piF w (r * w + c) = r * w + (w - 1 - c) := by
  unfold piF; rw [(rc_div c0 c1).1, (rc_div c0 c1).2]
section
variable {w h r c : Int} (hw : 1 ≤ w) (r0 : 0 ≤ r) (r1 : r < h) (c0 : 0 ≤ c) (c1 : c < w)
include hw r0 r1 c0 c1
theorem nxt_0 : nxt w (w * h) (r * w + c) 0 = if 1 ≤ r then some ((r - 1) * w + c) else none := by rw [nxt_rc hw r0 r1 c0 c1, if_pos rfl]
theorem nxt_1 : nxt w (w * h) (r * w + c) 1 = if c ≠ w - 1 then some (r * w + (c + 1)) else none := by rw [nxt_rc hw r0 r1 c0 c1, if_neg (by decide), if_pos rfl]
theorem nxt_2 : nxt w (w * h) (r * w + c) 2 = if r + 1 < h then some ((r + 1) * w + c) else none := by rw [nxt_rc hw r0 r1 c0 c1, if_neg (by decide), if_neg (by decide), if_pos rfl]
theorem nxt_3 : nxt w (w * h) (r * w + c) 3 = if c ≠ 0 then some (r * w + (c - 1)) else none := by rw [nxt_rc hw r0 r1 c0 c1, if_neg (by decide), if_neg (by decide), if_neg (by decide)]
end
theorem ite_map {p q : Prop} [Decidable p] [Decidable q] {x y : Int} {f : Int → Int} (h : p ↔ q) (e : q → x = f y) : (if p then some x else none) = (if q then some y else none).map f := by
  by_cases c : q
  · rw [if_pos (h.2 c), if_pos c, Option.map_some, e c]
  · rw [if_neg (fun x => c (h.1 x)), if_neg c]; rfl
theorem next_T {w h a d : Int} (hw : 1 ≤ w) (hh : 1 ≤ h) (ho : Ok (w * h) (a, d)) : nxt h (w * h) (piT w h a) (deT d) = (nxt w (w * h) a d).map (piT w h) := by
  have a0 : 0 ≤ a ∧ a < w * h := ho.1
  obtain ⟨r, c, rfl, c0, c1, r0, r1, _, _⟩ := rc hw a0.1 a0.2
  have hd : 0 ≤ d ∧ d ≤ 3 := ho.2
  have cd : d = 0 ∨ d = 1 ∨ d = 2 ∨ d = 3 := by omega
  have e : nxt h (w * h) = nxt h (h * w) := by rw [Int.mul_comm]
  rw [piT_rc c0 c1, e]
  rcases cd with rfl | rfl | rfl | rfl
  · rw [show deT 0 = 1 from rfl, nxt_1 hh c0 c1 (by omega) (by omega), nxt_0 hw r0 r1 c0 c1]
    exact ite_map (by omega) (fun q => by rw [piT_rc c0 c1]; omega)
  · rw [show deT 1 = 2 from rfl, nxt_2 hh c0 c1 (by omega) (by omega), nxt_1 hw r0 r1 c0 c1]
    exact ite_map (by omega) (fun q => by rw [piT_rc (by omega) (by omega)])
  · rw [show deT 2 = 3 from rfl, nxt_3 hh c0 c1 (by omega) (by omega), nxt_2 hw r0 r1 c0 c1]
    exact ite_map (by omega) (fun q => by rw [piT_rc c0 c1]; omega)
  · rw [show deT 3 = 0 from rfl, nxt_0 hh c0 c1 (by omega) (by omega), nxt_3 hw r0 r1 c0 c1]
    exact ite_map (by omega) (fun q => by rw [piT_rc (by omega) (by omega)])
theorem next_F {w h a d : Int} (hw : 1 ≤ w) (ho : Ok (w * h) (a, d)) : nxt w (w * h) (piF w a) (deF d) = (nxt w (w * h) a d).map (piF w) := by
  have a0 : 0 ≤ a ∧ a < w * h := ho.1
  obtain ⟨r, c, rfl, c0, c1, r0, r1, _, _⟩ := rc hw a0.1 a0.2
  have hd : 0 ≤ d ∧ d ≤ 3 := ho.2
  have cd : d = 0 ∨ d = 1 ∨ d = 2 ∨ d = 3 := by omega
  rw [piF_rc c0 c1]
  rcases cd with rfl | rfl | rfl | rfl
  · rw [show deF 0 = 0 from rfl, nxt_0 hw r0 r1 (by omega) (by omega), nxt_0 hw r0 r1 c0 c1]
    exact ite_map Iff.rfl (fun q => by rw [piF_rc c0 c1])
  · rw [show deF 1 = 3 from rfl, nxt_3 hw r0 r1 (by omega) (by omega), nxt_1 hw r0 r1 c0 c1]
    exact ite_map (by omega) (fun q => by rw [piF_rc (by omega) (by omega)]; omega)
  · rw [show deF 2 = 2 from rfl, nxt_2 hw r0 r1 (by omega) (by omega), nxt_2 hw r0 r1 c0 c1]
    exact ite_map Iff.rfl (fun q => by rw [piF_rc c0 c1])
  · rw [show deF 3 = 1 from rfl, nxt_1 hw r0 r1 (by omega) (by omega), nxt_3 hw r0 r1 c0 c1]
    exact ite_map (by omega) (fun q => by rw [piF_rc (by omega) (by omega)]; omega)
theorem piT_in {w h a : Int} (hw : 1 ≤ w) (hh : 1 ≤ h) (ha : 0 ≤ a ∧ a < w * h) : 0 ≤ piT w h a ∧ piT w h a < w * h := by
  obtain ⟨r, c, rfl, c0, c1, r0, r1, _, _⟩ := rc hw ha.1 ha.2
  rw [piT_rc c0 c1, Int.mul_comm w h]
  exact rc_lt hh c0 c1 (by omega) (by omega)
theorem piF_in {w h a : Int} (hw : 1 ≤ w) (ha : 0 ≤ a ∧ a < w * h) : 0 ≤ piF w a ∧ piF w a < w * h := by
  obtain ⟨r, c, rfl, c0, c1, r0, r1, _, _⟩ := rc hw ha.1 ha.2
  rw [piF_rc c0 c1]
  exact rc_lt hw r0 r1 (by omega) (by omega)
theorem mod_two {m x : Int} (h0 : 0 ≤ x) (h1 : x < 2 * m) : x % m = if x < m then x else x - m := by
  by_cases c : x < m
  · rw [if_pos c, Int.emod_eq_of_lt h0 c]
  · rw [if_neg c, ← Int.emod_eq_of_lt (a := x - m) (b := m) (by omega) (by omega), Int.sub_emod_right]
theorem siT_eq {w h k : Int} (hw : 1 ≤ w) (hh : 1 ≤ h) (k0 : 0 ≤ k) (k1 : k < 2 * (w + h)) : siT w h k = if k + h < 2 * (w + h) then k + h else k + h - 2 * (w + h) := by
  unfold siT; exact mod_two (by omega) (by omega)
theorem siF_eq {w h k : Int} (hw : 1 ≤ w) (hh : 1 ≤ h) (k0 : 0 ≤ k) (k1 : k < 2 * (w + h)) : siF w h k = if k ≤ w - 1 then w - 1 - k else w - 1 - k + 2 * (w + h) := by
  unfold siF; rw [mod_two (by omega) (by omega)]
  by_cases c : k ≤ w - 1
  · rw [if_pos c, if_neg (by omega)]; omega
  · rw [if_neg c, if_pos (by omega)]
theorem siT_in {w h k : Int} (hw : 1 ≤ w) (hh : 1 ≤ h) (k0 : 0 ≤ k) (k1 : k < 2 * (w + h)) : 0 ≤ siT w h k ∧ siT w h k < 2 * (w + h) := by
  rw [siT_eq hw hh k0 k1]; split <;> omega
theorem siF_in {w h k : Int} (hw : 1 ≤ w) (hh : 1 ≤ h) (k0 : 0 ≤ k) (k1 : k < 2 * (w + h)) : 0 ≤ siF w h k ∧ siF w h k < 2 * (w + h) := by
  rw [siF_eq hw hh k0 k1]; split <;> omega
theorem siT_inj {w h k m : Int} (hw : 1 ≤ w) (hh : 1 ≤ h) (k0 : 0 ≤ k) (k1 : k < 2 * (w + h)) (m0 : 0 ≤ m) (m1 : m < 2 * (w + h)) : siT w h k = siT w h m ↔ k = m := by
  rw [siT_eq hw hh k0 k1, siT_eq hw hh m0 m1]; split <;> split <;> omega
theorem siF_inj {w h k m : Int} (hw : 1 ≤ w) (hh : 1 ≤ h) (k0 : 0 ≤ k) (k1 : k < 2 * (w + h)) (m0 : 0 ≤ m) (m1 : m < 2 * (w + h)) : siF w h k = siF w h m ↔ k = m := by
  rw [siF_eq hw hh k0 k1, siF_eq hw hh m0 m1]; split <;> split <;> omega
theorem deT_back (d : Int) : deT ((d + 2) % 4) = (deT d + 2) % 4 := by unfold deT; omega
theorem deF_back {d : Int} (hd : 0 ≤ d ∧ d ≤ 3) : deF ((d + 2) % 4) = (deF d + 2) % 4 := by
  have c : d = 0 ∨ d = 1 ∨ d = 2 ∨ d = 3 := by omega
  rcases c with rfl | rfl | rfl | rfl <;> rfl
end Go.Proofs.Ytambkogocbgbmaa.Tr
/- Contracts over the ideal memory: spec's sights, its next cell, its mirrors. -/
namespace Go.Proofs.Ytambkogocbgbmaa.Id
open Go.Id
open Go.Proofs
set_option linter.unusedVariables false
set_option maxRecDepth 100000
variable {X : Ctx Try.prog} {lo : Nat}
theorem many_nat' {g : Gd} {w hh : Nat} (h1 : g.w = w) (h2 : g.hi = hh) : many g = 2 * ((w : Int) + hh) := by unfold many; rw [h1, h2]
theorem rays_nodup {w hh : Nat} (hw : 1 ≤ w ∧ w ≤ 5) (hh1 : 1 ≤ hh ∧ hh ≤ 5) : (rays w hh).Nodup := by
  have : ∀ w : Fin 5, ∀ hh : Fin 5, (rays (w.val + 1) (hh.val + 1)).Nodup := by decide +kernel
  have := this ⟨w - 1, by omega⟩ ⟨hh - 1, by omega⟩
  simp only at this
  rwa [Nat.sub_add_cancel hw.1, Nat.sub_add_cancel hh1.1] at this
theorem lastIx_none {x : Cl} (l : List Cl) (h : ∀ y ∈ l, y ≠ x) : lastIx l x = -1 := by
  have : ∀ (l : List Cl) (p : Nat × Int), (∀ y ∈ l, y ≠ x) → (l.foldl (fun (p : Nat × Int) y => (p.1 + 1, if y = x then (p.1 : Int) else p.2)) p).2 = p.2 := by
    intro l
    induction l with
    | nil => intro p _; rfl
    | cons y l ih => intro p h; rw [List.foldl_cons, ih _ fun z hz => h z (by simp [hz])]; simp [h y (by simp)]
  exact this l (0, -1) h
theorem lastIx_at {x : Cl} {l : List Cl} (hd : l.Nodup) {k : Nat} (h : l[k]? = some x) : lastIx l x = k := by
  obtain ⟨hk, he⟩ := List.getElem?_eq_some_iff.1 h
  have e : l = (l.take k ++ [x]) ++ l.drop (k + 1) := by
    rw [← he, ← List.take_succ_eq_append_getElem hk, List.take_append_drop]
  rw [e] at hd
  have hnot : ∀ y ∈ l.drop (k + 1), y ≠ x := fun y hy e' => by
    subst e'
    exact (List.nodup_append.1 hd).2.2 y (by simp) y hy rfl
  have key : ∀ (m l : List Cl), (∀ y ∈ m, y ≠ x) → lastIx (l ++ m) x = lastIx l x := by
    intro m
    induction m with
    | nil => intro l _; rw [List.append_nil]
    | cons y m ih =>
      intro l h
      rw [show l ++ y :: m = (l ++ [y]) ++ m from by simp, ih _ fun z hz => h z (by simp [hz]), lastIx_snoc, if_neg (h y (by simp))]
  rw [e, key _ _ hnot, lastIx_snoc, if_pos rfl, List.length_take, Nat.min_eq_left (Nat.le_of_lt hk)]
theorem l3Of_ok (g : Gd) (at_ d : Int) (ad : Option Addr) (fl : Nat) (h : Hp) (hg : gOk g = true) (hd : 0 ≤ d ∧ d ≤ 3) : Tri X lo 119 [.agg #[.int .i64 g.w, .slice ad g.cs.length fl], .int .i64 at_, .int .i64 d] h fun v h' => v = .int .i64 (sightOf g at_ d) ∧ Ext h h' := by
  refine enter tbOk mtOk ⟨[], []⟩ 400 Try.func119 rfl rfl rfl fun hlo => ?_
  obtain ⟨w, hh, q1, q2, q3, q4, q5⟩ := gOk_nat hg
  have p5 := prod5 (i := hh) (w := w) (by omega) (by omega)
  rw [Int.mul_comm] at p5
  have hm := many_nat' q1 q2
  have hsr : sideRays g = rays w hh := by unfold sideRays; rw [q1, q2]; rfl
  have hso : sightOf g at_ d = lastIx (rays w hh) (at_, (d + 2) % 4) := by unfold sightOf; rw [if_pos ⟨hg, hd⟩, hsr]
  have hlen : (rays w hh).length = 2 * (w + hh) := by have := sideRays_len hg; rw [hsr, hm] at this; omega
  have hro := rays_ok q3 q4
  refine loop (σ := Nat) tbOk mtOk ⟨[], []⟩ (fun k => [(7, .v (.int .i64 (k : Int))), (3, .l 0 0), (1, .v (.int .i64 at_)), (2, .v (.int .i64 d))]) (fun _ => [[.int .i64 g.w, .slice ad g.cs.length fl]]) (fun k h' => k ≤ 2 * (w + hh) ∧ Ext h h' ∧ ∀ j < k, (rays w hh)[j]? ≠ some (at_, (d + 2) % 4)) (fun k => 2 * (w + hh) - k) 400 0 (fun _ => rfl) ⟨rfl, rfl, rfl, rfl, trivial⟩ ⟨rfl, trivial⟩ ⟨by omega, Ext.refl _, fun j hj => by omega⟩ (fun k h' hI again => ?_)
  obtain ⟨i1, i2, i3⟩ := hI
  refine callP (l3Many_ok g ad fl h' hg (by omega)) ?_
  rintro v h1 ⟨rfl, e1⟩
  refine cnd (fun c1 => ?_) (fun c1 => ?_)
  · have c1 : (k : Int) < many g := by simpa using c1
    rw [hm] at c1
    have S := l3Ray_ok (X := X) (lo := lo) w hh k ad g.cs.length fl h1 q3 q4 q5 (by omega)
    rw [← q1] at S
    refine callP S ?_
    rintro v h2 ⟨⟨r, hr, rfl⟩, e2⟩
    have hrm := hro r (List.mem_of_getElem? hr)
    have e3 := (i2.trans e1).trans e2
    have next : r ≠ (at_, (d + 2) % 4) → ∀ j < k + 1, (rays w hh)[j]? ≠ some (at_, (d + 2) % 4) := fun hne j hj => by
      by_cases hjk : j = k
      · subst hjk; rw [hr]; exact fun e => hne (Option.some.inj e)
      · exact i3 j (by omega)
    have hw1 : some (Sl.v (.int .i64 (IntKind.i64.wrap ((k : Int) + 1)))) = some (Sl.v (.int .i64 ((k + 1 : Nat) : Int))) := by rw [wr (by omega) (by omega)]; rfl
    refine cnd (fun c2 => ?_) (fun c2 => ?_)
    · have c2 : r.1 = at_ := by simpa using c2
      refine callP (l2Back_ok r.2 h2 hrm.2) ?_
      rintro v h3 ⟨rfl, e4⟩
      refine cnd (fun c3 => ?_) (fun c3 => ?_)
      · have c3 : (r.2 + 2) % 4 = d := by simpa using c3
        have hrr : r = (at_, (d + 2) % 4) := by
          obtain ⟨r1, r2⟩ := r
          simp only at c2 c3 hrm
          rw [c2]; congr 1; omega
        refine And.intro ?_ (e3.trans e4)
        show Value.int .i64 (k : Int) = _
        rw [hso, lastIx_at (rays_nodup q3 q4) (hrr ▸ hr)]
      · have c3 : (r.2 + 2) % 4 ≠ d := by simpa using c3
        refine again (k + 1) _ _ _ (by omega) ⟨hw1, rfl, rfl, rfl, trivial⟩ ⟨rfl, trivial⟩ ⟨by omega, e3.trans e4, next fun e => c3 ?_⟩
        subst e; show ((d + 2) % 4 + 2) % 4 = d; omega
    · have c2 : r.1 ≠ at_ := by simpa using c2
      refine cndF ?_
      refine again (k + 1) _ _ _ (by omega) ⟨hw1, rfl, rfl, rfl, trivial⟩ ⟨rfl, trivial⟩ ⟨by omega, e3, next fun e => c2 (by rw [e])⟩
  · have c1 : ¬ (k : Int) < many g := by simpa using c1
    rw [hm] at c1
    refine And.intro ?_ (i2.trans e1)
    rw [hso, lastIx_none]
    intro y hy e
    obtain ⟨j, hj⟩ := List.mem_iff_getElem?.1 hy
    have hjl := (List.getElem?_eq_some_iff.1 hj).1
    exact i3 j (by omega) (by rw [hj, e])
end Go.Proofs.Ytambkogocbgbmaa.Id
/- Contracts over the ideal memory: spec's next cell, its mirrors. -/
namespace Go.Proofs.Ytambkogocbgbmaa.Id
open Go.Id
open Go.Proofs
set_option linter.unusedVariables false
set_option maxRecDepth 100000
variable {X : Ctx Try.prog} {lo : Nat}
theorem sDirTurn_ok (k d : Int) (h : Hp) (hd : 0 ≤ d ∧ d ≤ 3) : Tri X lo 103 [.int .i64 k, .int .i64 d] h fun v h' => v = .int .i64 (Tr.dirT k d) ∧ Ext h h' := by
  refine enter tbOk mtOk ⟨[], []⟩ 400 Try.func103 rfl rfl rfl fun hlo => ?_
  refine callP (l6In_ok d 0 3 h) ?_
  rintro v h1 ⟨rfl, rfl⟩
  have hc : (decide (0 ≤ d) && decide (d ≤ 3)) = true := by simp; exact hd
  refine cnd (fun c1 => by rw [hc] at c1; cases c1) (fun _ => ?_)
  have x1 : ∀ d : Int, 0 ≤ d ∧ d ≤ 3 → IntKind.i64.wrap ↑(BitVec.ofInt IntKind.i64.bits d ^^^ BitVec.ofInt IntKind.i64.bits 1).toNat = (if d = 0 then 1 else if d = 1 then 0 else if d = 2 then 3 else 2) := by
    intro d hd
    obtain rfl | rfl | rfl | rfl : d = 0 ∨ d = 1 ∨ d = 2 ∨ d = 3 := by omega
    all_goals decide
  have x2 : IntKind.i64.wrap (3 - d) = 3 - d := wr (by omega) (by omega)
  refine cnd (fun c1 => ?_) (fun c1 => ?_)
  · have c1 : k = 2 := by simpa using c1
    refine And.intro ?_ (Ext.refl _)
    rw [x1 d hd]; unfold Tr.dirT; rw [if_pos (show k = 2 ∨ k = 4 from .inl c1)]
  · have c1 : k ≠ 2 := by simpa using c1
    refine cnd (fun c2 => ?_) (fun c2 => ?_)
    · have c2 : k = 4 := by simpa using c2
      refine And.intro ?_ (Ext.refl _)
      rw [x1 d hd]; unfold Tr.dirT; rw [if_pos (show k = 2 ∨ k = 4 from .inr c2)]
    · have c2 : k ≠ 4 := by simpa using c2
      refine cnd (fun c3 => ?_) (fun c3 => ?_)
      · have c3 : k = 3 := by simpa using c3
        refine And.intro ?_ (Ext.refl _)
        rw [x2]; unfold Tr.dirT; rw [if_neg (show ¬ (k = 2 ∨ k = 4) by omega), if_pos (show k = 3 ∨ k = 5 from .inl c3)]
      · have c3 : k ≠ 3 := by simpa using c3
        refine cnd (fun c4 => ?_) (fun c4 => ?_)
        · have c4 : k = 5 := by simpa using c4
          refine And.intro ?_ (Ext.refl _)
          rw [x2]; unfold Tr.dirT; rw [if_neg (show ¬ (k = 2 ∨ k = 4) by omega), if_pos (show k = 3 ∨ k = 5 from .inr c4)]
        · have c4 : k ≠ 5 := by simpa using c4
          refine And.intro ?_ (Ext.refl _)
          unfold Tr.dirT; rw [if_neg (show ¬ (k = 2 ∨ k = 4) by omega), if_neg (show ¬ (k = 3 ∨ k = 5) by omega)]
def dr4 (a b c e d : Int) : Int := if d = 0 then a else if d = 1 then b else if d = 2 then c else e
theorem ld4 {h : Hp} {a b c e d : Int} (hd : 0 ≤ d ∧ d ≤ 3) : Ld (h.push (.cells [.int .i64 a, .int .i64 b, .int .i64 c, .int .i64 e] 1 0)) (addA ⟨h.n, 0, some 0⟩ (d.toNat * 1)) 1 [.int .i64 (dr4 a b c e d)] := by
  have := ((Row.push (h := h) (e := 0) (enc := iE) (sz := 1) (l := [a, b, c, e])).sls fun _ => rfl).ld (fun _ => rfl) (i := d.toNat) (by simp; omega)
  obtain rfl | rfl | rfl | rfl : d = 0 ∨ d = 1 ∨ d = 2 ∨ d = 3 := by omega
  all_goals exact this
theorem nxt_by {w h r c d : Int} (hw : 1 ≤ w) (r0 : 0 ≤ r) (r1 : r < h) (c0 : 0 ≤ c) (c1 : c < w) (hd : 0 ≤ d ∧ d ≤ 3) : Tr.nxt w (w * h) (r * w + c) d =
    if (0 ≤ r + dr4 (-1) 0 1 0 d ∧ r + dr4 (-1) 0 1 0 d ≤ h - 1) ∧ (0 ≤ c + dr4 0 1 0 (-1) d ∧ c + dr4 0 1 0 (-1) d ≤ w - 1) then some ((r + dr4 (-1) 0 1 0 d) * w + (c + dr4 0 1 0 (-1) d)) else none := by
  rw [Tr.nxt_rc hw r0 r1 c0 c1]
  obtain rfl | rfl | rfl | rfl : d = 0 ∨ d = 1 ∨ d = 2 ∨ d = 3 := by omega
  · simp only [dr4, if_true]
    by_cases q : 1 ≤ r
    · rw [if_pos q, if_pos (by omega)]; congr 2; omega
    · rw [if_neg q, if_neg (by omega)]
  · simp only [dr4, if_true, show ¬ (1 : Int) = 0 from by decide, if_false]
    by_cases q : c ≠ w - 1
    · rw [if_pos q, if_pos (by omega), Int.add_zero]
    · rw [if_neg q, if_neg (by omega)]
  · simp only [dr4, if_true, show ¬ (2 : Int) = 0 from by decide, show ¬ (2 : Int) = 1 from by decide, if_false]
    by_cases q : r + 1 < h
    · rw [if_pos q, if_pos (by omega), Int.add_zero]
    · rw [if_neg q, if_neg (by omega)]
  · simp only [dr4, show ¬ (3 : Int) = 0 from by decide, show ¬ (3 : Int) = 1 from by decide, show ¬ (3 : Int) = 2 from by decide, if_false]
    by_cases q : c ≠ 0
    · rw [if_pos q, if_pos (by omega), Int.add_zero]; congr 1
    · rw [if_neg q, if_neg (by omega)]
theorem dr4_le {a b c e d : Int} (ha : -1 ≤ a ∧ a ≤ 1) (hb : -1 ≤ b ∧ b ≤ 1) (hc : -1 ≤ c ∧ c ≤ 1) (he : -1 ≤ e ∧ e ≤ 1) : -1 ≤ dr4 a b c e d ∧ dr4 a b c e d ≤ 1 := by
  unfold dr4
  split
  · exact ha
  · split
    · exact hb
    · split
      · exact hc
      · exact he
theorem l2Next_ok (g : Gd) (at_ d : Int) (ad : Option Addr) (fl : Nat) (h : Hp) (hg : gOk g = true) (ha : 0 ≤ at_ ∧ at_ < g.cs.length) (hd : 0 ≤ d ∧ d ≤ 3) : Tri X lo 118 [.agg #[.int .i64 g.w, .slice ad g.cs.length fl], .int .i64 at_, .int .i64 d] h
    fun v h' => v = (match Tr.nxt g.w g.cs.length at_ d with | some b => .tuple #[.agg #[.int .i64 b, .int .i64 d], .bool true] | none => .tuple #[.agg #[.int .i64 0, .int .i64 0], .bool false]) ∧ Ext h h' := by
  refine enter tbOk mtOk ⟨[], [(1, [0, 1, 2, 3, 5, 4, 6, 7, 8, 9], [0, 0, 2, 7, 0, 0, 48, 112, 255, 511]), (2, [0, 1, 2, 3, 5, 4, 6, 7, 8, 9], [0, 0, 2, 7, 0, 0, 48, 112, 255, 511])]⟩ 400 Try.func118 rfl rfl rfl fun hlo => ?_
  obtain ⟨w, hh, q1, q2, q3, q4, q5⟩ := gOk_nat hg
  have hw0 : g.w ≠ 0 := by omega
  refine And.intro (by kernel_rfl) ?_
  refine And.intro hw0 ?_
  refine And.intro Is.r ?_
  refine And.intro ⟨hd.1, by show d < 4; omega⟩ ?_
  refine ⟨_, ld4 hd, ?_⟩
  refine And.intro (by kernel_rfl) ?_
  refine And.intro hw0 ?_
  refine And.intro Is.r ?_
  refine And.intro ⟨hd.1, by show d < 4; omega⟩ ?_
  refine ⟨_, ld4 hd, ?_⟩
  have p5 := prod5 (i := hh) (w := w) (by omega) (by omega)
  rw [Int.mul_comm] at p5
  refine callP (high_ok g.w ad g.cs.length fl _ (by omega) (by omega)) ?_
  rintro v h1 ⟨rfl, e1⟩
  have e : Ext h h1 := ((Ext.push _ _).trans (Ext.push _ _)).trans e1
  obtain ⟨r, c, a1, a2, a3, a4, a5, a6, a7⟩ := Tr.rc (w := g.w) (h := hh) (a := at_) (by omega) ha.1 (by rw [q1, ← q5]; exact ha.2)
  have hnx := nxt_by (w := g.w) (h := hh) (by omega) a4 a5 a2 a3 hd
  rw [← a1, q1, ← q5, ← q1] at hnx
  have d1 := dr4_le (a := -1) (b := 0) (c := 1) (e := 0) (d := d) (by decide) (by decide) (by decide) (by decide)
  have d2 := dr4_le (a := 0) (b := 1) (c := 0) (e := -1) (d := d) (by decide) (by decide) (by decide) (by decide)
  generalize dr4 (-1) 0 1 0 d = dr at *
  generalize dr4 0 1 0 (-1) d = dc at *
  have hR : IntKind.i64.wrap (IntKind.i64.wrap (at_.tdiv g.w) + dr) = r + dr := by
    rw [Int.tdiv_eq_ediv_of_nonneg ha.1, a6, wr (n := r) (by omega) (by omega), wr (by omega) (by omega)]
  have hC : IntKind.i64.wrap (at_.tmod g.w + dc) = c + dc := by
    rw [Int.tmod_eq_emod_of_nonneg ha.1, a7, wr (by omega) (by omega)]
  have hH : IntKind.i64.wrap ((g.cs.length : Int) / g.w - 1) = hh - 1 := by
    have : (g.cs.length : Int) / g.w = hh := by rw [← q2]; rfl
    rw [this, wr (by omega) (by omega)]
  have hW : IntKind.i64.wrap (g.w - 1) = g.w - 1 := wr (by omega) (by omega)
  refine callP (l6In_ok _ _ _ _) ?_
  rintro v h2 ⟨rfl, rfl⟩
  rw [hnx]
  refine cnd (fun c1 => ?_) (fun c1 => ?_)
  · rw [hR, hH] at c1
    refine cndT ?_
    refine And.intro ?_ e
    rw [if_neg (by simp at c1; omega)]
    rfl
  · rw [hR, hH] at c1
    refine callP (l6In_ok _ _ _ _) ?_
    rintro v h3 ⟨rfl, rfl⟩
    refine cnd (fun c2 => ?_) (fun c2 => ?_)
    · rw [hC, hW] at c2
      refine And.intro ?_ e
      rw [if_neg (by simp at c1 c2; omega)]
      rfl
    · rw [hC, hW] at c2
      have hr : 0 ≤ r + dr ∧ r + dr ≤ hh - 1 := by simpa using c1
      have hc : 0 ≤ c + dc ∧ c + dc ≤ g.w - 1 := by simpa using c2
      refine And.intro ?_ e
      rw [if_pos ⟨hr, hc⟩]
      show Value.tuple #[.agg #[.int .i64 (IntKind.i64.wrap (IntKind.i64.wrap (IntKind.i64.wrap (IntKind.i64.wrap (at_.tdiv g.w) + dr) * g.w) + IntKind.i64.wrap (at_.tmod g.w + dc))), .int .i64 d], .bool true] = _
      have m1 : (r + dr) * g.w ≤ 5 * 5 := Int.mul_le_mul (by omega) (by omega) (by omega) (by omega)
      have m2 : 0 ≤ (r + dr) * g.w := Int.mul_nonneg hr.1 (by omega)
      rw [hR, hC, wr (n := (r + dr) * g.w) (by omega) (by omega), wr (by omega) (by omega)]
end Go.Proofs.Ytambkogocbgbmaa.Id
/- Contracts over the ideal memory: spec's walk of light. -/
namespace Go.Proofs.Ytambkogocbgbmaa.Id
open Go.Id
open Go.Proofs
set_option linter.unusedVariables false
set_option maxRecDepth 100000
variable {X : Ctx Try.prog} {lo : Nat}
/-- spec's walk in the memory: what was visited, how it ended. -/
structure MW (lo : Nat) (h0 h : Hp) (g : Gd) (ad : Option Addr) (fl wb : Nat) (o1 : Option (Nat × Nat)) (vs : List V3) (o2 : Option (Nat × Nat)) (es : List V3) : Prop where
  bx : Bx h wb [.int .i64 g.w, .slice ad g.cs.length fl, gv o1 vs.length, gv o2 es.length]
  g1 : Gw lo h vE 3 o1 vs
  g2 : Gw lo h vE 3 o2 es
  s1 : ¬isB o1 wb
  s2 : ¬isB o2 wb
  s6 : ∀ i, isB o1 i → ¬isB o2 i
  l1 : ∀ i, isB o1 i → h0.n ≤ i
  l2 : ∀ i, isB o2 i → h0.n ≤ i
  l4 : h0.n ≤ wb
  l5 : lo ≤ h0.n
  ext : Ext h0 h
section
variable {h0 h h' : Hp} {g : Gd} {ad : Option Addr} {fl wb : Nat} {o1 o2 : Option (Nat × Nat)} {vs es : List V3}
theorem MW.up (m : MW lo h0 h g ad fl wb o1 vs o2 es) (e : Ext h h') : MW lo h0 h' g ad fl wb o1 vs o2 es :=
  ⟨m.bx.ext e, m.g1.ext e, m.g2.ext e, m.s1, m.s2, m.s6, m.l1, m.l2, m.l4, m.l5, m.ext.trans e⟩
theorem send_ok (k a w : Int) (m : MW lo h0 h g ad fl wb o1 vs o2 es) (hm : es.length + 1 ≤ Id.maxLen) : Tri X lo 101 [.pointer (some ⟨wb, 0, none⟩), .int .i64 k, .int .i64 a, .int .i64 w] h fun v h' => ∃ o2', MW lo h0 h' g ad fl wb o1 vs o2' (es ++ Tr.en k a w) := by
  refine enter tbOk mtOk ⟨[], []⟩ 400 Try.func101 rfl rfl rfl fun hlo => ?_
  refine cnd (fun c1 => ?_) (fun c1 => ?_)
  · have c1 : w > 0 := by simpa using c1
    have hen : Tr.en k a w = [(k, a, w)] := if_pos c1
    rw [hen]
    refine ⟨_, m.bx.ldF (i := 3) rfl, ?_⟩
    have xp : Ext h (h.push (.cells (vE (k, a, w)) 3 0)) := Ext.push _ _
    obtain ⟨b, e, h2, ap, gw, gr⟩ := (m.g2.ext xp).app vE3 (by decide) hm (Nat.le_trans hlo xp.n) (k, a, w)
    refine ⟨vE (k, a, w), one_cells rfl, _, _, ap, ?_⟩
    have hlt := m.bx.lt
    have xn := xp.n
    have hb2 : Bx h2 wb [.int .i64 g.w, .slice ad g.cs.length fl, gv o1 vs.length, gv o2 es.length] := ⟨Nat.lt_of_lt_of_le m.bx.lt (Nat.le_trans xp.n gr.n), (gr.g wb (Nat.lt_of_lt_of_le m.bx.lt xp.n) m.s2).trans (m.bx.ext xp).g⟩
    refine ⟨_, hb2.stF (i := 3) (Nat.le_trans m.l5 m.l4) (Nat.le_refl 4), ?_⟩
    have old : ∀ j, j < h.n → ¬isB o2 j → ¬isB (some (b, e)) j := fun j hj h1 q => by
      rcases gr.b j q with q | q
      · exact h1 q
      · omega
    have hnb := old wb hlt m.s2
    refine ⟨some (b, e), hb2.set, ?_, gw.off hnb _, m.s1, hnb, fun i hi q => old i (m.g1.lt hi).1 (m.s6 i hi) q, m.l1, fun i hi => ?_, m.l4, m.l5, ⟨Nat.le_trans m.ext.n (Nat.le_trans xn gr.n), fun i hi => ?_⟩⟩
    · exact (m.g1.keep (Nat.le_trans xn gr.n) fun i hi hb => (gr.g i (Nat.lt_of_lt_of_le hi xn) (m.s6 i hb)).trans (xp.g i hi)).off m.s1 _
    · rcases gr.b i hi with q | q
      · exact m.l2 i q
      · have := m.ext.n; omega
    · have := m.l4
      have hn := m.ext.n
      simp only [Hp.set]; rw [if_neg (by omega)]
      exact ((gr.g i (by omega) fun q => by have := m.l2 i q; omega).trans (xp.g i (by omega))).trans (m.ext.g i hi)
  · have c1 : ¬ w > 0 := by simpa using c1
    have hen : Tr.en k a w = [] := if_neg c1
    rw [hen, List.append_nil]
    exact ⟨o2, m⟩
/-- A visit is told. -/
theorem MW.vis {x : V3} (m : MW lo h0 h g ad fl wb o1 vs o2 es) (hm : vs.length + 1 ≤ Id.maxLen) : ∃ b e h2, Ap lo (h.push (.cells (vE x) 3 0)) 3 (gv o1 vs.length) (vE x) 1 (gv (some (b, e)) (vs ++ [x]).length) h2 ∧ Bx h2 wb [.int .i64 g.w, .slice ad g.cs.length fl, gv o1 vs.length, gv o2 es.length] ∧
    MW lo h0 (h2.set wb (.cells [.int .i64 g.w, .slice ad g.cs.length fl, gv (some (b, e)) (vs ++ [x]).length, gv o2 es.length] 0 0)) g ad fl wb (some (b, e)) (vs ++ [x]) o2 es := by
  have xp : Ext h (h.push (.cells (vE x) 3 0)) := Ext.push _ _
  have xn := xp.n
  have hlt := m.bx.lt
  obtain ⟨b, e, h2, ap, gw, gr⟩ := (m.g1.ext xp).app vE3 (by decide) hm (Nat.le_trans (Nat.le_trans m.l5 m.ext.n) xp.n) x
  have hb2 : Bx h2 wb [.int .i64 g.w, .slice ad g.cs.length fl, gv o1 vs.length, gv o2 es.length] := ⟨Nat.lt_of_lt_of_le m.bx.lt (Nat.le_trans xp.n gr.n), (gr.g wb (Nat.lt_of_lt_of_le m.bx.lt xp.n) m.s1).trans (m.bx.ext xp).g⟩
  have old : ∀ j, j < h.n → ¬isB o1 j → ¬isB (some (b, e)) j := fun j hj h1 q => by
    rcases gr.b j q with q | q
    · exact h1 q
    · omega
  have hnb := old wb hlt m.s1
  refine ⟨b, e, h2, ap, hb2, hb2.set, gw.off hnb _, ?_, hnb, m.s2, fun i hi q => ?_, fun i hi => ?_, m.l2, m.l4, m.l5, ⟨Nat.le_trans m.ext.n (Nat.le_trans xn gr.n), fun i hi => ?_⟩⟩
  · exact (m.g2.keep (Nat.le_trans xn gr.n) fun i hi hb => (gr.g i (Nat.lt_of_lt_of_le hi xn) fun q => m.s6 i q hb).trans (xp.g i hi)).off m.s2 _
  · exact old i (m.g2.lt q).1 (fun q' => m.s6 i q' q) hi
  · rcases gr.b i hi with q | q
    · exact m.l1 i q
    · have := m.ext.n; omega
  · have := m.l4
    have hn := m.ext.n
    simp only [Hp.set]; rw [if_neg (by omega)]
    exact ((gr.g i (by omega) fun q => by have := m.l1 i q; omega).trans (xp.g i (by omega))).trans (m.ext.g i hi)
end
/-- Light that comes into a cell, walked in q rounds at most. -/
def ComeOk (X : Ctx Try.prog) (lo : Nat) (h0 : Hp) (g : Gd) (ad : Option Addr) (fl wb : Nat) (go : Int → Int → Int → Option Tr.Tr) (f : FuncId) : Prop :=
  ∀ (a d wt : Int) (t : Tr.Tr) (o1 : Option (Nat × Nat)) (vs : List V3) (o2 : Option (Nat × Nat)) (es : List V3) (h : Hp), (0 ≤ a ∧ a < g.cs.length) → (0 ≤ d ∧ d ≤ 3) → (0 ≤ wt ∧ wt ≤ 64) → go a d wt = some t → MW lo h0 h g ad fl wb o1 vs o2 es → vs.length + t.1.length ≤ 100000 → es.length + t.2.length ≤ 100000 →
    Tri X lo f [.pointer (some ⟨wb, 0, none⟩), .int .i64 a, .int .i64 d, .int .i64 wt] h fun v h' => ∃ o1' o2', MW lo h0 h' g ad fl wb o1' (vs ++ t.1) o2' (es ++ t.2)
section
variable {h0 : Hp} {g : Gd} {ad : Option Addr} {fl wb : Nat} {go : Int → Int → Int → Option Tr.Tr}
theorem leave_ok (hs : Sls h0 cE 2 ad g.cs) (hg : gOk g = true) (IH : ComeOk X lo h0 g ad fl wb go 67) :
    ∀ (a d wt : Int) (t : Tr.Tr) (o1 : Option (Nat × Nat)) (vs : List V3) (o2 : Option (Nat × Nat)) (es : List V3) (h : Hp), (0 ≤ a ∧ a < g.cs.length) → (0 ≤ d ∧ d ≤ 3) → (0 < wt ∧ wt ≤ 64) → Tr.lv g.w g.cs.length (sightOf g) go a d wt = some t → MW lo h0 h g ad fl wb o1 vs o2 es → vs.length + t.1.length ≤ 100000 → es.length + t.2.length ≤ 100000 →
    Tri X lo 104 [.pointer (some ⟨wb, 0, none⟩), .int .i64 a, .int .i64 d, .int .i64 wt] h fun v h' => ∃ o1' o2', MW lo h0 h' g ad fl wb o1' (vs ++ t.1) o2' (es ++ t.2) := by
  intro a d wt t o1 vs o2 es h ha hd hw ht m l1 l2
  refine enter tbOk mtOk ⟨[], []⟩ 400 Try.func104 rfl rfl rfl fun hlo => ?_
  refine ⟨_, m.bx.ldF (i := 0) rfl, ?_⟩
  refine callP (l2Next_ok g a d ad fl h hg ha hd) ?_
  rintro v h1 ⟨rfl, e1⟩
  unfold Tr.lv at ht
  rw [if_neg (by omega)] at ht
  have n5 : (g.cs.length : Int) ≤ 25 := by
    obtain ⟨w, hh, q1, q2, q3, q4, q5⟩ := gOk_nat hg
    have := prod5 (i := hh) (w := w) (by omega) (by omega)
    rw [Int.mul_comm] at this
    omega
  cases hnx : Tr.nxt g.w g.cs.length a d with
  | none =>
    rw [hnx] at ht
    cases ht
    refine cndF ?_
    refine ⟨_, (m.up e1).bx.ldF (i := 0) rfl, ?_⟩
    refine callP (l3Of_ok g a d ad fl h1 hg hd) ?_
    rintro v h2 ⟨rfl, e2⟩
    refine callP (send_ok 0 (sightOf g a d) wt (m.up (e1.trans e2)) (by simp at l2; unfold Id.maxLen; omega)) ?_
    rintro v h3 ⟨o2', m'⟩
    have : Tr.en 0 (sightOf g a d) wt = [(0, sightOf g a d, wt)] := if_pos (by omega)
    rw [this] at m'
    exact ⟨o1, o2', by simpa using m'⟩
  | some a' =>
    rw [hnx] at ht
    refine cndT ?_
    have ha' := Tr.nxt_in (gOk_iff.1 hg).1 (gOk_iff.1 hg).2.2.2.2.1 ha hd hnx
    exact callP (IH a' d wt t o1 vs o2 es h1 ha' hd (by omega) ht (m.up e1) l1 l2) fun v h' q => q
theorem half_ok (hs : Sls h0 cE 2 ad g.cs) (hg : gOk g = true) (IH : ComeOk X lo h0 g ad fl wb go 67) :
    ∀ (a d wt : Int) (t : Tr.Tr) (o1 : Option (Nat × Nat)) (vs : List V3) (o2 : Option (Nat × Nat)) (es : List V3) (h : Hp), (0 ≤ a ∧ a < g.cs.length) → (0 ≤ d ∧ d ≤ 3) → (0 ≤ wt ∧ wt ≤ 64) → Tr.lv g.w g.cs.length (sightOf g) go a d wt = some t → MW lo h0 h g ad fl wb o1 vs o2 es → vs.length + t.1.length ≤ 100000 → es.length + t.2.length ≤ 100000 →
    Tri X lo 102 [.pointer (some ⟨wb, 0, none⟩), .int .i64 a, .int .i64 d, .int .i64 wt] h fun v h' => ∃ o1' o2', MW lo h0 h' g ad fl wb o1' (vs ++ t.1) o2' (es ++ t.2) := by
  intro a d wt t o1 vs o2 es h ha hd hw ht m l1 l2
  refine enter tbOk mtOk ⟨[], []⟩ 400 Try.func102 rfl rfl rfl fun hlo => ?_
  refine cnd (fun c1 => ?_) (fun c1 => ?_)
  · have c1 : wt > 0 := by simpa using c1
    exact callP (leave_ok hs hg IH a d wt t o1 vs o2 es h ha hd ⟨c1, hw.2⟩ ht m l1 l2) fun v h' q => q
  · have c1 : ¬ wt > 0 := by simpa using c1
    unfold Tr.lv at ht
    rw [if_pos (by omega)] at ht
    cases ht
    exact ⟨o1, o2, by simpa using m⟩
theorem en_le (k a w : Int) : (Tr.en k a w).length ≤ 1 := by unfold Tr.en; split <;> simp
theorem come_ok (hs : Sls h0 cE 2 ad g.cs) (hg : gOk g = true) : ∀ q : Nat, ComeOk X lo h0 g ad fl wb (Tr.go g.w g.cs.length (kdG g) (sightOf g) q) 67 := by
  intro q
  induction q with
  | zero => intro a d wt t o1 vs o2 es h ha hd hw ht; cases ht
  | succ q ih =>
    intro a d wt t o1 vs o2 es h ha hd hw ht m l1 l2
    refine enter tbOk mtOk ⟨[], []⟩ 400 Try.func67 rfl rfl rfl fun hlo => ?_
    refine cnd (fun c1 => ?_) (fun c1 => ?_)
    · have c1 : wt = 0 := by simpa using c1
      unfold Tr.go at ht
      rw [if_pos c1] at ht
      cases ht
      exact ⟨o1, o2, by simpa using m⟩
    · have c1 : wt ≠ 0 := by simpa using c1
      unfold Tr.go at ht
      rw [if_neg c1] at ht
      refine ⟨_, m.bx.ldF (i := 2) rfl, ?_⟩
      have hl1 : 1 ≤ t.1.length := by
        obtain ⟨l, hl⟩ := Tr.go_head c1 (show Tr.go g.w g.cs.length (kdG g) (sightOf g) (q + 1) a d wt = some t by unfold Tr.go; rw [if_neg c1]; exact ht)
        rw [hl]; simp
      obtain ⟨b, e, h2, ap, hb2, m2⟩ := m.vis (x := (a, d, wt)) (by unfold Id.maxLen; omega)
      refine ⟨vE (a, d, wt), one_cells rfl, _, _, ap, ?_⟩
      refine ⟨_, hb2.stF (i := 2) (Nat.le_trans m.l5 m.l4) (Nat.le_of_ble_eq_true rfl), ?_⟩
      have hat : a.toNat < g.cs.length := by omega
      obtain ⟨ad, rfl⟩ := hs.some hat
      refine ⟨_, m2.bx.ldF (i := 1) rfl, ?_⟩
      refine And.intro ⟨ha.1, ha.2⟩ ?_
      have hk : kdG g a = (g.cs[a.toNat]).1 := by unfold kdG; rw [List.getElem?_eq_getElem hat]; rfl
      have hkd := kdG_ok hg ha
      have ldk : Ld (h2.set wb (.cells [.int .i64 g.w, .slice (some ad) g.cs.length fl, gv (some (b, e)) (vs ++ [(a, d, wt)]).length, gv o2 es.length] 0 0)) (addA (addA ad (a.toNat * 2)) 0) 1 [.int .i64 (kdG g a)] := by rw [hk]; exact ld_sub ((hs.ext m2.ext).ld cE2 hat) rfl
      refine ⟨_, ldk, ?_⟩
      have hh2 : IntKind.i64.wrap (wt.tdiv 2) = wt / 2 := half hw
      have hg1 : IntKind.i64.wrap (wt - IntKind.i64.wrap (wt.tdiv 2)) = wt - wt / 2 := by rw [hh2, wr (by omega) (by omega)]
      have hg2 : IntKind.i64.wrap (wt - IntKind.i64.wrap (2 * IntKind.i64.wrap (wt.tdiv 2))) = wt - 2 * (wt / 2) := by rw [hh2, wr (n := 2 * (wt / 2)) (by omega) (by omega), wr (by omega) (by omega)]
      have hen0 : ∀ k, Tr.en k a wt = [(k, a, wt)] := fun k => if_pos (by omega)
      refine And.intro (by decide) ?_
      refine cnd (fun c2 => ?_) (fun c2 => ?_)
      · have c2 : kdG g a = 1 := by simpa using c2
        rw [if_pos c2] at ht
        cases ht
        refine callP (send_ok 1 a wt m2 (by simp at l2; unfold Id.maxLen; omega)) ?_
        rintro v h4 ⟨p2, m3⟩
        rw [hen0] at m3
        exact ⟨_, _, m3⟩
      · have c2 : kdG g a ≠ 1 := by simpa using c2
        rw [if_neg c2] at ht
        refine cnd (fun c3 => ?_) (fun c3 => ?_)
        · have c3 : kdG g a = 7 := by simpa using c3
          rw [if_pos c3] at ht
          cases ht
          refine callP (send_ok 2 a wt m2 (by simp at l2; unfold Id.maxLen; omega)) ?_
          rintro v h4 ⟨p2, m3⟩
          rw [hen0] at m3
          exact ⟨_, _, m3⟩
        · have c3 : kdG g a ≠ 7 := by simpa using c3
          rw [if_neg c3] at ht
          refine cnd (fun c4 => ?_) (fun c4 => ?_)
          · have c4 : kdG g a = 6 := by simpa using c4
            rw [if_pos c4] at ht
            obtain ⟨t1, ht1, ht⟩ := Tr.bind_some ht
            cases ht
            simp only [List.length_cons, List.length_append] at l1 l2
            refine callP (send_ok 3 a _ m2 (by unfold Id.maxLen; omega)) ?_
            rintro v h4 ⟨p2, m3⟩
            rw [hg1] at m3
            refine callP (half_ok hs hg ih a d _ t1 _ _ _ _ h4 ha hd (by rw [hh2]; omega) (by rw [hh2]; exact ht1) m3 (by simp; omega) (by simp; omega)) ?_
            rintro v h5 ⟨p3, p4, m4⟩
            exact ⟨_, _, by simpa using m4⟩
          · have c4 : kdG g a ≠ 6 := by simpa using c4
            rw [if_neg c4] at ht
            refine cnd (fun c5 => ?_) (fun c5 => ?_)
            · have c5 : kdG g a = 4 := by simpa using c5
              have hk45 : kdG g a = 4 ∨ kdG g a = 5 := .inl c5
              rw [if_pos hk45] at ht
              obtain ⟨t1, ht1, ht⟩ := Tr.bind_some ht
              obtain ⟨t2, ht2, ht⟩ := Tr.bind_some ht
              cases ht
              simp only [List.length_cons, List.length_append] at l1 l2
              refine callP (send_ok 3 a _ m2 (by unfold Id.maxLen; omega)) ?_
              rintro v h4 ⟨p2, m3⟩
              rw [hg2] at m3
              have hen3 := en_le 3 a (wt - 2 * (wt / 2))
              refine callP (half_ok hs hg ih a d _ t1 _ _ _ _ h4 ha hd (by rw [hh2]; omega) (by rw [hh2]; exact ht1) m3 (by simp; omega) (by simp; omega)) ?_
              rintro v h5 ⟨p3, p4, m4⟩
              refine callP (sDirTurn_ok _ _ h5 hd) ?_
              rintro v h6 ⟨rfl, e6⟩
              refine callP (half_ok hs hg ih a _ _ t2 _ _ _ _ h6 ha (Tr.dirT_ok hd) (by rw [hh2]; omega) (by rw [hh2]; exact ht2) (m4.up e6) (by simp; omega) (by simp; omega)) ?_
              rintro v h7 ⟨p5, p6, m5⟩
              exact ⟨_, _, by simpa using m5⟩
            · have c5 : kdG g a ≠ 4 := by simpa using c5
              refine cnd (fun c6 => ?_) (fun c6 => ?_)
              · have c6 : kdG g a = 5 := by simpa using c6
                have hk45 : kdG g a = 4 ∨ kdG g a = 5 := .inr c6
                rw [if_pos hk45] at ht
                obtain ⟨t1, ht1, ht⟩ := Tr.bind_some ht
                obtain ⟨t2, ht2, ht⟩ := Tr.bind_some ht
                cases ht
                simp only [List.length_cons, List.length_append] at l1 l2
                refine callP (send_ok 3 a _ m2 (by unfold Id.maxLen; omega)) ?_
                rintro v h4 ⟨p2, m3⟩
                rw [hg2] at m3
                have hen3 := en_le 3 a (wt - 2 * (wt / 2))
                refine callP (half_ok hs hg ih a d _ t1 _ _ _ _ h4 ha hd (by rw [hh2]; omega) (by rw [hh2]; exact ht1) m3 (by simp; omega) (by simp; omega)) ?_
                rintro v h5 ⟨p3, p4, m4⟩
                refine callP (sDirTurn_ok _ _ h5 hd) ?_
                rintro v h6 ⟨rfl, e6⟩
                refine callP (half_ok hs hg ih a _ _ t2 _ _ _ _ h6 ha (Tr.dirT_ok hd) (by rw [hh2]; omega) (by rw [hh2]; exact ht2) (m4.up e6) (by simp; omega) (by simp; omega)) ?_
                rintro v h7 ⟨p5, p6, m5⟩
                exact ⟨_, _, by simpa using m5⟩
              · have c6 : kdG g a ≠ 5 := by simpa using c6
                rw [if_neg (by omega)] at ht
                obtain ⟨t1, ht1, ht⟩ := Tr.bind_some ht
                cases ht
                simp only [List.length_cons] at l1
                refine callP (sDirTurn_ok _ _ _ hd) ?_
                rintro v h6 ⟨rfl, e6⟩
                refine callP (leave_ok hs hg ih a _ wt t1 _ _ _ _ h6 ha (Tr.dirT_ok hd) (by omega) ht1 (m2.up e6) (by simp; omega) l2) ?_
                rintro v h7 ⟨p5, p6, m5⟩
                exact ⟨_, _, by simpa using m5⟩
end
end Go.Proofs.Ytambkogocbgbmaa.Id
/- Contracts over the ideal memory: spec's light, spec's picture. -/
namespace Go.Proofs.Ytambkogocbgbmaa.Id
open Go.Id
open Go.Proofs
set_option linter.unusedVariables false
set_option maxRecDepth 100000
variable {X : Ctx Try.prog} {lo : Nat}
theorem isB_eq {b e i : Nat} (h : isB (some (b, e)) i) : b = i := by
  obtain ⟨e', h⟩ := h
  injection h with h
  injection h
theorem l11Go_ok (g : Gd) (k : Nat) (ad : Option Addr) (fl : Nat) (h : Hp) (hs : Sls h cE 2 ad g.cs) (hg : gOk g = true) (hk : (k : Int) < many g) : Tri X lo 45 [.agg #[.int .i64 g.w, .slice ad g.cs.length fl], .int .i64 (k : Int)] h fun v h' => ∃ wb o1 o2, v = .pointer (some ⟨wb, 0, none⟩) ∧ MW lo h h' g ad fl wb o1 (trail g k).1 o2 (trail g k).2 := by
  refine enter tbOk mtOk ⟨[11], []⟩ 400 Try.func45 rfl rfl rfl fun hlo => ?_
  obtain ⟨w, hh, q1, q2, q3, q4, q5⟩ := gOk_nat hg
  have hm := many_nat' q1 q2
  have hsr : sightRay g k = (rays w hh)[k]? := by
    unfold sightRay sideRays
    rw [if_pos ⟨hg, Int.natCast_nonneg k, hk⟩, q1, q2]; rfl
  obtain ⟨T, hT⟩ : ∃ T, T = trail g k := ⟨_, rfl⟩
  obtain ⟨t1, ⟨t2, t3⟩, _⟩ := trail_ok g k
  rw [← hT] at t1 t2 t3 ⊢
  have gw0 : ∀ (h' : Hp) (b : Nat), lo ≤ b → b < h'.n → h'.g b = .cells [] 3 0 → Gw lo h' vE 3 (some (b, 0)) [] := fun h' b h1 h2 h3 => ⟨h1, h2, [], h3, Nat.le_refl _, rfl⟩
  obtain ⟨hX, hhX⟩ : ∃ hX, hX = ((h.push (.cells [] 3 0)).push (.cells [] 3 0)).push (.cells [.int .i64 g.w, .slice ad g.cs.length fl, gv (some (h.n, 0)) 0, gv (some (h.n + 1, 0)) 0] 0 0) := ⟨_, rfl⟩
  have m0 : MW lo h hX g ad fl (h.n + 2) (some (h.n, 0)) [] (some (h.n + 1, 0)) [] := by
    have e1 : Ext h hX := by rw [hhX]; exact ((Ext.push _ _).trans (Ext.push _ _)).trans (Ext.push _ _)
    refine ⟨by rw [hhX]; exact Bx.push, gw0 _ _ hlo ?_ ?_, gw0 _ _ (by omega) ?_ ?_, ?_, ?_, ?_, ?_, ?_, by omega, hlo, e1⟩
    · rw [hhX]; simp [Hp.push]; omega
    · rw [hhX]; simp [Hp.push]; omega
    · rw [hhX]; simp [Hp.push]
    · rw [hhX]; simp [Hp.push]
    · intro q; have := isB_eq q; omega
    · intro q; have := isB_eq q; omega
    · intro i q q'; have := isB_eq q; have := isB_eq q'; omega
    · intro i q; have := isB_eq q; omega
    · intro i q; have := isB_eq q; omega
  have S := l3Ray_ok (X := X) (lo := lo) w hh k ad g.cs.length fl hX q3 q4 q5 (by omega)
  rw [← q1, hhX] at S
  refine callP S ?_
  rw [← hhX]
  rintro v h1 ⟨⟨r, hr, rfl⟩, e1⟩
  unfold IsTrail at t1
  rw [hsr, hr] at t1
  obtain ⟨q, hq⟩ := t1
  have hro := rays_ok q3 q4 r (List.mem_of_getElem? hr)
  rw [← q5] at hro
  refine callP (come_ok hs hg q r.1 r.2 64 T _ _ _ _ h1 hro.1 hro.2 (by omega) hq (m0.up e1) (by simp; omega) (by simp; omega)) ?_
  rintro v h2 ⟨o1, o2, m⟩
  rw [List.nil_append, List.nil_append] at m
  exact ⟨_, o1, o2, rfl, m⟩
theorem l11Light_ok (g : Gd) (es : List V3) (ad : Option Addr) (fl : Nat) (a2 : Option Addr) (f2 : Nat) (h : Hp) (hs : Sls h cE 2 ad g.cs) (hn : (g.cs.length : Int) < 2 ^ 31) (s2 : Sls h vE 3 a2 es) (hm : es.length ≤ 60000) (hE : EOk g es) (hc : es ≠ [] → ∀ c ∈ g.cs, cOk c = true) : Tri X lo 58 [.agg #[.int .i64 g.w, .slice ad g.cs.length fl], .slice a2 es.length f2] h fun v h' => v = .int .i64 (lightOf g es) ∧ Ext h h' := by
  refine enter tbOk mtOk ⟨[], [(6, [0, 1, 2, 3, 4, 5, 6, 7, 8, 9, 10, 11, 12, 13, 14, 15, 16, 17, 18], [0, 0, 0, 6, 14, 30, 0, 64, 0, 0, 768, 1792, 3840, 8128, 16320, 32704, 65534, 131071, 262143])]⟩ 400 Try.func58 rfl rfl rfl fun hlo => ?_
  refine loop (σ := Nat) tbOk mtOk ⟨[], [(6, [0, 1, 2, 3, 4, 5, 6, 7, 8, 9, 10, 11, 12, 13, 14, 15, 16, 17, 18], [0, 0, 0, 6, 14, 30, 0, 64, 0, 0, 768, 1792, 3840, 8128, 16320, 32704, 65534, 131071, 262143])]⟩ (fun i => [(6, .v (.int .i64 (i : Int))), (1, .v (.slice a2 es.length f2)), (5, .v (.int .i64 (lightOf g (es.take i)))), (2, .l 0 0)]) (fun _ => [[.int .i64 g.w, .slice ad g.cs.length fl]]) (fun i h' => i ≤ es.length ∧ h' = h ∧ 0 ≤ lightOf g (es.take i) ∧ lightOf g (es.take i) ≤ 576 * i) (fun i => es.length - i) 380 0 (fun _ => rfl) ⟨rfl, rfl, rfl, rfl, trivial⟩ ⟨rfl, trivial⟩ ⟨by omega, rfl, Int.le_refl 0, by show (0 : Int) ≤ 576 * ((0 : Nat) : Int); decide⟩ (fun i h' hI again => ?_)
  obtain ⟨i1, rfl, i3, i4⟩ := hI
  refine cnd (fun c1 => ?_) (fun c1 => ?_)
  · have c1 : i < es.length := by simpa using c1
    obtain ⟨a2, rfl⟩ := s2.some c1
    have htk : es.take (i + 1) = es.take i ++ [es[i]] := List.take_succ_eq_append_getElem c1
    have hcs := hc (by intro e; rw [e] at c1; simp at c1)
    obtain ⟨he1, he2⟩ := hE es[i] (List.getElem_mem c1)
    have hl := lite_ok hcs he2
    have hld := s2.ld vE3 c1
    have hsn := lightOf_snoc g es[i] (es.take i)
    rw [← htk] at hsn
    generalize es[i] = e at *
    refine And.intro ⟨by omega, by omega⟩ ?_
    refine ⟨_, ld_sub (j := 0) hld rfl, ?_⟩
    have hw1 : some (Sl.v (.int .i64 (IntKind.i64.wrap ((i : Int) + 1)))) = some (Sl.v (.int .i64 ((i + 1 : Nat) : Int))) := by rw [wr (by omega) (by omega)]; rfl
    refine cnd (fun c2 => ?_) (fun c2 => ?_)
    · have c2 : e.1 = 2 := by simpa using c2
      obtain ⟨he3, he4⟩ := he1 c2
      have hat : e.2.1.toNat < g.cs.length := by omega
      obtain ⟨ad, rfl⟩ := hs.some hat
      have hlt : ltG g e.2.1 = (g.cs[e.2.1.toNat]).2 := by unfold ltG; rw [List.getElem?_eq_getElem hat]; rfl
      have ldc : Ld h' (addA (addA ad (e.2.1.toNat * 2)) 1) 1 [.int .i64 (ltG g e.2.1)] := by
        rw [hlt]; exact ld_sub (hs.ld cE2 hat) rfl
      have hll : lite g e = e.2.2 * ltG g e.2.1 := if_pos c2
      refine And.intro (by kernel_rfl) ?_
      refine And.intro ⟨by omega, by omega⟩ ?_
      refine ⟨_, ld_sub (j := 2) hld rfl, ?_⟩
      refine And.intro ⟨by omega, by omega⟩ ?_
      refine ⟨_, ld_sub (j := 1) hld rfl, ?_⟩
      refine And.intro ⟨he3, by show e.2.1 < (g.cs.length : Int); exact he4⟩ ?_
      refine ⟨_, ldc, ?_⟩
      have hw2 : IntKind.i64.wrap (lightOf g (es.take i) + IntKind.i64.wrap (e.2.2 * ltG g e.2.1)) = lightOf g (es.take (i + 1)) := by
        rw [← hll, wr (n := lite g e) (by omega) (by omega), ← hsn, wr (by omega) (by omega)]
      refine again (i + 1) _ _ _ (by omega) ⟨hw1, rfl, ?_, rfl, trivial⟩ ⟨rfl, trivial⟩ ⟨by omega, rfl, by rw [hsn]; omega, by rw [hsn]; omega⟩
      show some (Sl.v (.int .i64 (IntKind.i64.wrap (lightOf g (es.take i) + IntKind.i64.wrap (e.2.2 * ltG g e.2.1))))) = _
      rw [hw2]
    · have c2 : e.1 ≠ 2 := by simpa using c2
      have hl0 : lite g e = 0 := if_neg c2
      rw [hl0, Int.add_zero] at hsn
      refine again (i + 1) _ _ _ (by omega) ⟨hw1, rfl, ?_, rfl, trivial⟩ ⟨rfl, trivial⟩ ⟨by omega, rfl, by rw [hsn]; exact i3, by rw [hsn]; omega⟩
      show some (Sl.v (.int .i64 (lightOf g (es.take i)))) = _
      rw [← hsn]
  · have c1 : es.length = i := by simp at c1; omega
    refine And.intro ?_ (Ext.refl _)
    rw [← c1, List.take_length]
theorem app1I {h : Hp} {b e n : Nat} {l : List Int} (r : Row h b e iE 1 l) (hl : l.length = n) (hlo : lo ≤ b) (hm : n + 1 ≤ Id.maxLen) (x : Int) :
    Ap lo h 1 (.slice (.some ⟨b, 0, .some e⟩) n 1) (iE x) 1 (.slice (.some ⟨b, 0, .some (e + 1)⟩) (n + 1) 1) (h.set b (.cells ((l ++ [x]).flatMap iE) 1 (e + 1))) := by
  subst hl
  have := r.app (m := [x]) (lo := lo) (fun _ => rfl) (by decide) hlo hm
  simpa using this
theorem pic_take (g : Gd) {k : Nat} (hk : (k : Int) < many g) : (pic g).take (k + 1) = (pic g).take k ++ [lightAt g k] := by
  have hl : k < (pic g).length := by rw [pic_len]; omega
  rw [List.take_succ_eq_append_getElem hl]
  congr 2
  simp [pic]
/-- spec's picture. -/
theorem l12Pic_ok (g : Gd) (ad : Option Addr) (fl : Nat) (h : Hp) (hs : Sls h cE 2 ad g.cs) (hg : gOk g = true) : Tri X lo 37 [.agg #[.int .i64 g.w, .slice ad g.cs.length fl]] h fun v h' => ∃ b e, v = gv (some (b, e)) (pic g).length ∧ lo ≤ b ∧ h.n ≤ b ∧ Row h' b e iE 1 (pic g) ∧ Ext h h' := by
  refine enter tbOk mtOk ⟨[], [(5, [0, 1, 2, 3, 4, 5, 6, 7, 8, 9, 10, 11], [0, 0, 0, 0, 12, 28, 60, 124, 254, 510, 1023, 2047])]⟩ 400 Try.func37 rfl rfl rfl fun hlo => ?_
  obtain ⟨w, hh, q1, q2, q3, q4, q5⟩ := gOk_nat hg
  have hm := many_nat' q1 q2
  have p5 := prod5 (i := hh) (w := w) (by omega) (by omega)
  rw [Int.mul_comm] at p5
  have hn : (g.cs.length : Int) < 2 ^ 31 := by omega
  have hpl := pic_len g
  refine loop (σ := Nat × Nat) tbOk mtOk ⟨[], [(5, [0, 1, 2, 3, 4, 5, 6, 7, 8, 9, 10, 11], [0, 0, 0, 0, 12, 28, 60, 124, 254, 510, 1023, 2047])]⟩ (fun s => [(4, .v (.int .i64 (s.1 : Int))), (3, .v (.slice (some ⟨h.n, 0, some s.2⟩) s.1 1)), (1, .l 0 0)]) (fun _ => [[.int .i64 g.w, .slice ad g.cs.length fl]]) (fun s h' => s.1 ≤ (many g).toNat ∧ Ext h h' ∧ Row h' h.n s.2 iE 1 ((pic g).take s.1)) (fun s => (many g).toNat - s.1) 400 (0, 0) (fun _ => rfl) ⟨rfl, rfl, rfl, trivial⟩ ⟨rfl, trivial⟩ ⟨Nat.zero_le _, Ext.push _ _, Row.push (h := h) (e := 0) (enc := iE) (sz := 1) (l := [])⟩ (fun s h' hI again => ?_)
  obtain ⟨k, e⟩ := s
  obtain ⟨i1, i2, i3⟩ := hI
  refine callP (l3Many_ok g ad fl h' hg hn) ?_
  rintro v h1 ⟨rfl, e1⟩
  refine cnd (fun c1 => ?_) (fun c1 => ?_)
  · have c1 : (k : Int) < many g := by simpa using c1
    refine And.intro (by kernel_rfl) ?_
    refine callP (l11Go_ok g k ad fl h1 (hs.ext (i2.trans e1)) hg c1) ?_
    rintro v h2 ⟨wb, o1, o2, rfl, m⟩
    obtain ⟨a2, f2, p1, p2⟩ := gw_sls m.g2
    obtain ⟨t1, ⟨t2, t3⟩, t4, t5, _⟩ := trail_ok g k
    have hb := m.bx
    rw [p1] at hb
    have e2 := (i2.trans e1).trans m.ext
    refine And.intro Is.r ?_
    refine ⟨_, hb.ldF (i := 3) rfl, ?_⟩
    refine callP (l11Light_ok g (trail g k).2 ad fl a2 f2 h2 (hs.ext e2) hn p2 t3 t4 t5) ?_
    rintro v h3 ⟨rfl, e3⟩
    have hkl : k < (pic g).length := by rw [hpl]; omega
    have i3' : Row h' h.n e iE 1 ((pic g).take k) := i3
    have e4 := ((e1.trans m.ext).trans e3).trans (Ext.push h3 (.cells (iE (lightAt g k)) 1 0))
    refine ⟨iE (lightAt g k), one_cells rfl, _, _, app1I (i3'.ext e4) (by rw [List.length_take]; omega) hlo (by unfold Id.maxLen; omega) _, ?_⟩
    refine again (k + 1, e + 1) _ _ _ (by show _ - (k + 1) < _ - k; omega) ⟨?_, rfl, rfl, trivial⟩ ⟨rfl, trivial⟩ ⟨by show k + 1 ≤ _; omega, (i2.trans e4).set (Nat.le_refl _) _, ?_⟩
    · show some (Sl.v (.int .i64 (IntKind.i64.wrap ((k : Int) + 1)))) = _
      rw [wr (by omega) (by omega)]; rfl
    · show Row _ h.n (e + 1) iE 1 ((pic g).take (k + 1))
      rw [pic_take g c1]
      exact Row.set (i3'.ext e4).lt
  · have c1 : ¬ (k : Int) < many g := by simpa using c1
    have hk : k = (many g).toNat := by
      have i1 : k ≤ (many g).toNat := i1
      omega
    subst hk
    have i3 : Row h' h.n e iE 1 ((pic g).take (many g).toNat) := i3
    rw [← hpl, List.take_length] at i3
    refine ⟨h.n, e, ?_, hlo, Nat.le_refl _, i3.ext e1, i2.trans e1⟩
    rw [hpl]; rfl
theorem sPicOf_ok (g : Gd) (ad : Option Addr) (fl : Nat) (h : Hp) (hs : Sls h cE 2 ad g.cs) (hn : (g.cs.length : Int) < 2 ^ 31) : Tri X lo 13 [.agg #[.int .i64 g.w, .slice ad g.cs.length fl]] h fun v h' => ∃ b e, v = gv (some (b, e)) (if gOk g then pic g else []).length ∧ lo ≤ b ∧ h.n ≤ b ∧ Row h' b e iE 1 (if gOk g then pic g else []) ∧ Ext h h' := by
  refine enter tbOk mtOk ⟨[], []⟩ 400 Try.func13 rfl rfl rfl fun hlo => ?_
  refine callP (sGridOk_ok g.w ad fl g.cs h hs hn) ?_
  rintro v h1 ⟨rfl, e1⟩
  refine cnd (fun c1 => ?_) (fun c1 => ?_)
  · have hg : gOk g = false := by simpa using c1
    rw [hg]
    exact ⟨h1.n, 0, rfl, Nat.le_trans hlo e1.n, e1.n, Row.push (h := h1) (e := 0) (enc := iE) (sz := 1) (l := []), e1.trans (Ext.push _ _)⟩
  · have hg : gOk g = true := by simpa using c1
    rw [hg]
    refine callP (l12Pic_ok g ad fl h1 (hs.ext e1) hg) ?_
    rintro v h2 ⟨b, e, rfl, q1, q2, q3, q4⟩
    exact ⟨b, e, rfl, q1, Nat.le_trans e1.n q2, q3, e1.trans q4⟩
end Go.Proofs.Ytambkogocbgbmaa.Id
/- Contracts over the ideal memory: spec's PicTo. -/
namespace Go.Proofs.Ytambkogocbgbmaa.Id
open Go.Id
open Go.Proofs
set_option linter.unusedVariables false
set_option maxRecDepth 100000
variable {X : Ctx Try.prog} {lo : Nat}
/-- A row of rows. -/
structure RowsAt (h : Hp) (b e : Nat) (g : Gd) (L : List Value) (lo : Nat) : Prop where
  r : Row h b e vE1 1 L
  el : ∀ (j : Nat) (x : Value), L[j]? = some x → RowEl (rowTo g) j x h
  bk : ∀ c ∈ blks L, lo ≤ c ∧ c ≠ b
theorem RowsAt.ext {h h' : Hp} {b e : Nat} {g : Gd} {L : List Value} (r : RowsAt h b e g L lo) (x : Ext h h') : RowsAt h' b e g L lo := ⟨r.r.ext x, fun j v hv => (elRow _).ext (r.el j v hv) x, r.bk⟩
theorem toRow_nil (g : Gd) : toRow g [] = List.replicate (many g).toNat 0 := by
  apply List.ext_getElem (by simp [toRow])
  intro i h1 h2
  simp [toRow, Tr.outs]
def SPicToP (lo : Nat) (g : Gd) (h : Hp) (v : Value) (h' : Hp) : Prop := (∃ b e L, v = .slice (some ⟨b, 0, some e⟩) L.length 1 ∧ h.n ≤ b ∧ RowsAt h' b e g L h.n ∧ (L.length : Int) = if gOk g then many g else 0) ∧ Ext h h'
theorem sPicTo_ok (g : Gd) (ad : Option Addr) (fl : Nat) (h : Hp) (hs : Sls h cE 2 ad g.cs) (hn : (g.cs.length : Int) < 2 ^ 31) : Tri X lo 20 [.agg #[.int .i64 g.w, .slice ad g.cs.length fl]] h (SPicToP lo g h) := by
  refine enter tbOk mtOk ⟨[], [(13, [0, 1, 2, 3, 4, 5, 6, 7, 8, 9, 10, 11, 12, 13, 14, 15, 16, 17, 18, 19, 20, 21], [0, 0, 0, 6, 14, 30, 0, 0, 0, 384, 896, 1920, 4032, 8128, 0, 0, 49152, 114688, 245760, 524224, 1048575, 2097151])]⟩ 400 Try.func20 rfl rfl rfl fun hlo => ?_
  have e0 : Ext h (h.push (.cells (([] : List Value).flatMap vE1) 1 0)) := Ext.push _ _
  have r0 : Row (h.push (.cells (([] : List Value).flatMap vE1) 1 0)) h.n 0 vE1 1 [] := Row.push
  have nb : ∀ (e : Nat) (h' : Hp), Row h' h.n e vE1 1 [] → RowsAt h' h.n e g [] h.n := fun e h' r => ⟨r, fun j x hx => by simp at hx, fun c hc => by simp [blks] at hc⟩
  refine callP (sGridOk_ok g.w ad fl g.cs (h.push (.cells (([] : List Value).flatMap vE1) 1 0)) (hs.ext e0) hn) ?_
  rintro v h1 ⟨rfl, e1⟩
  have e01 := e0.trans e1
  refine cnd (fun c1 => ?_) (fun c1 => ?_)
  · have hg : gOk g = false := by simpa using c1
    exact ⟨⟨h.n, 0, [], rfl, Nat.le_refl _, nb _ _ (r0.ext e1), by rw [hg]; rfl⟩, e01⟩
  · have hg : gOk g = true := by simpa using c1
    have hmany : 1 ≤ many g ∧ many g ≤ 20 := by
      obtain ⟨h1, h2, _⟩ := hi_ok hg
      obtain ⟨g1, g2, _⟩ := gOk_iff.1 hg
      unfold many; omega
    refine loop (σ := Nat × List Value) tbOk mtOk ⟨[], [(13, [0, 1, 2, 3, 4, 5, 6, 7, 8, 9, 10, 11, 12, 13, 14, 15, 16, 17, 18, 19, 20, 21], [0, 0, 0, 6, 14, 30, 0, 0, 0, 384, 896, 1920, 4032, 8128, 0, 0, 49152, 114688, 245760, 524224, 1048575, 2097151])]⟩ (fun s => [(4, .v (.int .i64 (s.2.length : Int))), (3, .v (.slice (some ⟨h.n, 0, some s.1⟩) s.2.length 1)), (1, .l 0 0)]) (fun _ => [[.int .i64 g.w, .slice ad g.cs.length fl]]) (fun s h' => (s.2.length : Int) ≤ many g ∧ Ext h h' ∧ RowsAt h' h.n s.1 g s.2 h.n) (fun s => (many g).toNat - s.2.length) 400 (0, []) (fun _ => rfl) ⟨rfl, rfl, rfl, trivial⟩ ⟨rfl, trivial⟩ ⟨by show ((0 : Nat) : Int) ≤ _; omega, e01, nb _ _ (r0.ext e1)⟩ (fun s h2 hI again => ?_)
    obtain ⟨e, L⟩ := s
    obtain ⟨i1, i2, i3⟩ := hI
    have i1 : (L.length : Int) ≤ many g := i1
    refine callP (l3Many_ok g ad fl h2 hg hn) ?_
    rintro v h3 ⟨rfl, e3⟩
    refine cnd (fun c2 => ?_) (fun c2 => ?_)
    · have c2 : (L.length : Int) < many g := of_decide_eq_true c2
      refine callP (l3Many_ok g ad fl h3 hg hn) ?_
      rintro v h4 ⟨rfl, e4⟩
      refine And.intro ⟨by omega, by omega, by unfold Id.maxLen; omega⟩ ?_
      have e5 : Ext h4 (h4.push (.cells (zeros [.int .i64 0] (many g).toNat) 1 0)) := Ext.push _ _
      have r5 : Row (h4.push (.cells (zeros [.int .i64 0] (many g).toNat) 1 0)) h4.n 0 iE 1 (toRow g []) := by rw [zeros_flat (enc := iE) (z := [.int .i64 0]) (x := (0 : Int)) rfl, toRow_nil]; exact Row.push
      have e25 : Ext h2 (h4.push (.cells (zeros [.int .i64 0] (many g).toNat) 1 0)) := (e3.trans e4).trans e5
      have n5 : (h4.push (.cells (zeros [.int .i64 0] (many g).toNat) 1 0)).n = h4.n + 1 := rfl
      refine callP (l11Go_ok g L.length ad fl (h4.push (.cells (zeros [.int .i64 0] (many g).toNat) 1 0)) (hs.ext (i2.trans e25)) hg c2) ?_
      generalize h4.push (.cells (zeros [.int .i64 0] (many g).toNat) 1 0) = h5 at *
      rintro v h6 ⟨wb, o1, o2, rfl, m⟩
      obtain ⟨t1, ⟨t2, t3⟩, t4, t5, t6⟩ := trail_ok g L.length
      obtain ⟨a2, f2, p1, p2, p3⟩ := gw_sls' (m.g2.up m.l2)
      have hbx := m.bx
      rw [p1] at hbx
      have e6 := m.ext
      refine ⟨_, hbx.ldF (i := 3) rfl, ?_⟩
      have r6 := r5.ext e6
      have hb6 : ∀ x, 0 ≤ Tr.outs x ((trail g L.length).2.take 0) ∧ Tr.outs x ((trail g L.length).2.take 0) ≤ 64 * ((0 : Nat) : Int) := fun x => ⟨Int.le_refl 0, by show (0 : Int) ≤ 64 * ((0 : Nat) : Int); decide⟩
      have rw0 : rowTo g L.length = toRow g (trail g L.length).2 := rfl
      generalize (trail g L.length).2 = es at *
      refine loop (σ := Nat) tbOk mtOk ⟨[], [(13, [0, 1, 2, 3, 4, 5, 6, 7, 8, 9, 10, 11, 12, 13, 14, 15, 16, 17, 18, 19, 20, 21], [0, 0, 0, 6, 14, 30, 0, 0, 0, 384, 896, 1920, 4032, 8128, 0, 0, 49152, 114688, 245760, 524224, 1048575, 2097151])]⟩ (fun i => [(7, .v (.int .i64 (i : Int))), (6, .v (.slice a2 es.length f2)), (5, .v (.slice (some ⟨h4.n, 0, some 0⟩) (many g).toNat 1)), (4, .v (.int .i64 (L.length : Int))), (3, .v (.slice (some ⟨h.n, 0, some e⟩) L.length 1)), (1, .l 0 0)]) (fun _ => [[.int .i64 g.w, .slice ad g.cs.length fl]]) (fun i h' => i ≤ es.length ∧ Ext h4 h' ∧ Ext1 h4.n h6 h' ∧ Row h' h4.n 0 iE 1 (toRow g (es.take i)) ∧ ∀ x, 0 ≤ Tr.outs x (es.take i) ∧ Tr.outs x (es.take i) ≤ 64 * i) (fun i => es.length - i) 400 0 (fun _ => rfl) ⟨rfl, rfl, rfl, rfl, rfl, rfl, trivial⟩ ⟨rfl, trivial⟩ ⟨Nat.zero_le _, e5.trans e6, (Ext.refl _).one _, r6, hb6⟩ (fun i h' hI again' => ?_)
      obtain ⟨j1, j2, j3, j4, j5⟩ := hI
      refine cnd (fun c3 => ?_) (fun c3 => ?_)
      · have c3 : i < es.length := by simpa using c3
        obtain ⟨a2, rfl⟩ := p2.some c3
        have hld := (sls_ext1 j3 p2 (by have := p3 _ rfl; omega)).ld vE3 c3
        obtain ⟨_, he2⟩ := t4 es[i] (List.getElem_mem c3)
        have he0 := t6 es[i] (List.getElem_mem c3)
        have hsn : ∀ x, Tr.outs x (es.take (i + 1)) = Tr.outs x (es.take i) + Tr.outs x [es[i]] := fun x => outs_take c3
        generalize es[i] = w at *
        have hw : some (Sl.v (.int .i64 (IntKind.i64.wrap ((i : Int) + 1)))) = some (Sl.v (.int .i64 ((i + 1 : Nat) : Int))) := by rw [wr (by omega) (by omega)]; rfl
        refine And.intro ⟨by omega, by omega⟩ ?_
        refine ⟨_, ld_sub hld (j := 0) (m := 1) rfl, ?_⟩
        refine cnd (fun c4 => ?_) (fun c4 => ?_)
        · have c4 : w.1 = 0 := by simpa using c4
          obtain ⟨k0, k1⟩ := he0 c4
          have hj : w.2.1.toNat < (toRow g (es.take i)).length := by rw [toRow_len]; omega
          have hjj : ((w.2.1.toNat : Nat) : Int) = w.2.1 := by omega
          have ldj : Ld h' (addA ⟨h4.n, 0, some 0⟩ (w.2.1.toNat * 1)) 1 [.int .i64 (Tr.outs w.2.1 (es.take i))] := by
            have := (j4.sls (fun _ => rfl)).ld (fun _ => rfl) hj
            rw [toRow_get hj, hjj] at this
            exact this
          have hlo4 : lo ≤ h4.n := by have := i2.n; have := e3.n; have := e4.n; omega
          refine And.intro (by kernel_rfl) ?_
          refine And.intro ⟨by omega, by omega⟩ ?_
          refine ⟨_, ld_sub hld (j := 1) (m := 1) rfl, ?_⟩
          refine And.intro ⟨by omega, by omega⟩ ?_
          refine ⟨_, ld_sub hld (j := 1) (m := 1) rfl, ?_⟩
          refine And.intro ⟨k0, by omega⟩ ?_
          refine ⟨_, ldj, ?_⟩
          refine And.intro ⟨by omega, by omega⟩ ?_
          refine ⟨_, ld_sub hld (j := 2) (m := 1) rfl, ?_⟩
          refine And.intro ⟨k0, by omega⟩ ?_
          refine ⟨_, row_st j4 hlo4 hj, ?_⟩
          have ho : ∀ x, Tr.outs x (es.take (i + 1)) = Tr.outs x (es.take i) + (if w.2.1 = x then w.2.2 else 0) := fun x => by
            rw [hsn]; simp [Tr.outs, c4]
          have hwv : IntKind.i64.wrap (Tr.outs w.2.1 (es.take i) + w.2.2) = Tr.outs w.2.1 (es.take i) + w.2.2 := by
            have := j5 w.2.1
            rw [wr (by omega) (by omega)]
          have hrow : toRow g (es.take (i + 1)) = (toRow g (es.take i)).set w.2.1.toNat (IntKind.i64.wrap (Tr.outs w.2.1 (es.take i) + w.2.2)) := by
            rw [hwv]
            refine List.ext_getElem (by simp [toRow]) fun n h1 h2 => ?_
            rw [toRow_get h1, List.getElem_set, ho]
            by_cases hn : w.2.1.toNat = n
            · rw [if_pos hn, if_pos (by omega), ← hn, hjj]
            · rw [if_neg hn, if_neg (by omega), Int.add_zero, toRow_get]
          exact again' (i + 1) _ _ _ (by omega) ⟨hw, rfl, rfl, rfl, rfl, rfl, trivial⟩ ⟨rfl, trivial⟩ ⟨by omega, j2.set (Nat.le_refl _) _, j3.set _ (.inl rfl), by rw [hrow]; exact Row.set j4.lt, fun x => by rw [ho]; have := j5 x; split <;> omega⟩
        · have c4 : w.1 ≠ 0 := by simpa using c4
          have ho : ∀ x, Tr.outs x (es.take (i + 1)) = Tr.outs x (es.take i) := fun x => by rw [hsn]; simp [Tr.outs, c4]
          have hrow : toRow g (es.take (i + 1)) = toRow g (es.take i) := by unfold toRow; simp only [ho]
          exact again' (i + 1) _ _ _ (by omega) ⟨hw, rfl, rfl, rfl, rfl, rfl, trivial⟩ ⟨rfl, trivial⟩ ⟨by omega, j2, j3, by rw [hrow]; exact j4, fun x => by rw [ho]; have := j5 x; omega⟩
      · have c3 : es.length = i := by simp at c3; omega
        rw [← c3, List.take_length] at j4
        have hx : cellsL (Value.slice (some ⟨h4.n, 0, some 0⟩) (many g).toNat 1) = [.slice (some ⟨h4.n, 0, some 0⟩) (many g).toNat 1] := rfl
        have rl : (rowTo g L.length).length = (many g).toNat := by rw [rw0, toRow_len]
        have lt2 := i3.r.lt
        have n3 := e3.n
        have n4 := e4.n
        have n6 := j2.n
        have lt4 := j4.lt
        have e7 : Ext h' (h'.push (.cells ([(Value.slice (some ⟨h4.n, 0, some 0⟩) (many g).toNat 1)].flatMap vE1) 1 0)) := Ext.push _ _
        have g1 : Gx 0 (h'.push (.cells ([(Value.slice (some ⟨h4.n, 0, some 0⟩) (many g).toNat 1)].flatMap vE1) 1 0)) vE1 1 (some (h'.n, 0)) [(Value.slice (some ⟨h4.n, 0, some 0⟩) (many g).toNat 1)] := ⟨Nat.zero_le _, Row.push⟩
        have e27 : Ext h2 (h'.push (.cells ([(Value.slice (some ⟨h4.n, 0, some 0⟩) (many g).toNat 1)].flatMap vE1) 1 0)) := ((e3.trans e4).trans j2).trans e7
        have ap := ((i3.r.ext e27).app (m := [(Value.slice (some ⟨h4.n, 0, some 0⟩) (many g).toNat 1)]) (lo := lo) vE1_len (by decide) hlo (by unfold Id.maxLen; simp; omega))
        refine ⟨[(Value.slice (some ⟨h4.n, 0, some 0⟩) (many g).toNat 1)].flatMap vE1, g1.cells vE1_len, _, _, ap, ?_⟩
        have hll : (L ++ [(Value.slice (some ⟨h4.n, 0, some 0⟩) (many g).toNat 1)]).length = L.length + 1 := by simp
        have hw : IntKind.i64.wrap ((L.length : Int) + 1) = ((L ++ [(Value.slice (some ⟨h4.n, 0, some 0⟩) (many g).toNat 1)]).length : Int) := by rw [wr (by omega) (by omega), hll]; rfl
        refine again (e + 1, L ++ [(Value.slice (some ⟨h4.n, 0, some 0⟩) (many g).toNat 1)]) _ _ _ (by show _ - (L ++ [(Value.slice (some ⟨h4.n, 0, some 0⟩) (many g).toNat 1)]).length < _ - L.length; omega) ⟨?_, ?_, rfl, trivial⟩ ⟨rfl, trivial⟩ ⟨by show ((L ++ [(Value.slice (some ⟨h4.n, 0, some 0⟩) (many g).toNat 1)]).length : Int) ≤ _; omega, (i2.trans e27).set (Nat.le_refl _) _, ⟨Row.set (i3.r.ext e27).lt, fun j v hv => ?_, fun c hc => ?_⟩⟩
        · show some (Sl.v (.int .i64 (IntKind.i64.wrap ((L.length : Int) + 1)))) = _
          rw [hw]
        · show some (Sl.v (.slice (some ⟨h.n, 0, some (e + 1)⟩) (L.length + [(Value.slice (some ⟨h4.n, 0, some 0⟩) (many g).toNat 1)].length) 1)) = some (Sl.v (.slice (some ⟨h.n, 0, some (e + 1)⟩) (L ++ [(Value.slice (some ⟨h4.n, 0, some 0⟩) (many g).toNat 1)]).length 1))
          rw [List.length_append]
        · have hv : (L ++ [(Value.slice (some ⟨h4.n, 0, some 0⟩) (many g).toNat 1)])[j]? = some v := hv
          by_cases hj : j < L.length
          · rw [List.getElem?_append_left hj] at hv
            have E := i3.el j v hv
            refine (elRow _).keep _ _ _ _ ((elRow _).ext E e27) (Nat.le_refl _) fun b hb => ?_
            have hbk := i3.bk b (List.mem_filterMap.2 ⟨v, List.mem_of_getElem? hv, hb⟩)
            simp only [Hp.set]; rw [if_neg hbk.2]
          · have hlt := (List.getElem?_eq_some_iff.1 hv).1
            have hjl : j = L.length := by omega
            subst hjl
            rw [List.getElem?_append_right (Nat.le_refl _), Nat.sub_self] at hv
            obtain rfl : (Value.slice (some ⟨h4.n, 0, some 0⟩) (many g).toNat 1) = v := by simpa using hv
            refine ⟨h4.n, 0, by rw [rl], ⟨by show h4.n < h'.n + 1; omega, ?_⟩⟩
            simp only [Hp.set]
            rw [if_neg (by omega)]
            have := (j4.ext e7).g
            rw [rw0]; exact this
        · have hc : c ∈ blks (L ++ [(Value.slice (some ⟨h4.n, 0, some 0⟩) (many g).toNat 1)]) := hc
          rw [show blks (L ++ [(Value.slice (some ⟨h4.n, 0, some 0⟩) (many g).toNat 1)]) = blks L ++ [h4.n] from by simp [blks, blkOf]] at hc
          rcases List.mem_append.1 hc with hc | hc
          · exact i3.bk c hc
          · obtain rfl : c = h4.n := by simpa using hc
            omega
    · have c2 : ¬ (L.length : Int) < many g := of_decide_eq_false c2
      have hl : (L.length : Int) = many g := by omega
      exact ⟨⟨h.n, e, L, rfl, Nat.le_refl _, i3.ext e3, by rw [hg, if_pos rfl]; exact hl⟩, i2.trans e3⟩
end Go.Proofs.Ytambkogocbgbmaa.Id
/- Contracts over the ideal memory: the laws' own words on grids. -/
namespace Go.Proofs.Ytambkogocbgbmaa.Id
open Go.Id
open Go.Proofs
set_option linter.unusedVariables false
set_option maxRecDepth 100000
variable {X : Ctx Try.prog} {lo : Nat}
theorem szCellS_ok (a : Option Addr) (n fl : Nat) (m : Int) (h : Hp) (hm : 0 ≤ m ∧ m ≤ 1048576) (hn : n ≤ 9223372036854775807) : Tri X lo 46 [.slice a n fl, .int .i64 m] h fun v h' => v = .int .i64 (if (n : Int) ≤ m then m - n else -1) ∧ h' = h := by
  refine enter tbOk mtOk ⟨[], []⟩ 400 Try.func46 rfl rfl rfl fun hlo => ?_
  have hw : IntKind.i64.wrap (m - n) = m - n := wr (by omega) (by omega)
  refine cnd (fun c1 => ?_) (fun c1 => ?_)
  · rw [hw] at c1
    have c1 : m - n < 0 := by simpa using c1
    rw [if_neg (by omega)]; exact ⟨rfl, rfl⟩
  · rw [hw] at c1
    have c1 : ¬ m - n < 0 := by simpa using c1
    rw [if_pos (by omega)]
    refine And.intro ?_ rfl
    rw [hw]
theorem szGrid_ok (w : Int) (a : Option Addr) (n fl : Nat) (m : Int) (h : Hp) (hm : 0 ≤ m ∧ m ≤ 1048576) (hn : n ≤ 9223372036854775807) : Tri X lo 22 [.agg #[.int .i64 w, .slice a n fl], .int .i64 m] h fun v h' => v = .int .i64 (if (n : Int) ≤ m then m - n else -1) ∧ h' = h := by
  refine enter tbOk mtOk ⟨[], []⟩ 400 Try.func22 rfl rfl rfl fun hlo => ?_
  refine callP (szCellS_ok a n fl m h hm hn) ?_
  rintro v h1 ⟨rfl, rfl⟩
  refine cnd (fun c1 => ?_) (fun c1 => ?_)
  · by_cases q : (n : Int) ≤ m
    · rw [if_pos q] at c1; simp at c1; omega
    · rw [if_neg q]; exact ⟨rfl, rfl⟩
  · exact ⟨rfl, rfl⟩
theorem toCell_ok (a b : Int) (h : Hp) : Tri X lo 68 [.agg #[.int .i64 a, .int .i64 b]] h fun v h' => v = .agg #[.int .i64 a, .int .i64 b] ∧ h' = h := by
  refine enter tbOk mtOk ⟨[], []⟩ 400 Try.func68 rfl rfl rfl fun hlo => ?_
  exact ⟨rfl, rfl⟩
theorem toCellS_ok (a : Option Addr) (fl : Nat) (cs : List Cl) (h : Hp) (hs : Sls h cE 2 a cs) (hn : cs.length ≤ 1048576) : Tri X lo 47 [.slice a cs.length fl] h fun v h' => ∃ b, v = .slice (some ⟨b, 0, some 0⟩) cs.length 1 ∧ lo ≤ b ∧ h.n ≤ b ∧ Row h' b 0 cE 2 cs ∧ Ext h h' := by
  refine enter tbOk mtOk ⟨[], []⟩ 400 Try.func47 rfl rfl rfl fun hlo => ?_
  refine And.intro ⟨by omega, by omega, by unfold Id.maxLen; omega⟩ ?_
  have r0 : Row (h.push (.cells (zeros [.int .i64 0, .int .i64 0] cs.length) 2 0)) h.n 0 cE 2 (List.replicate cs.length ((0, 0) : Cl)) := by rw [zeros_flat (enc := cE) (z := [.int .i64 0, .int .i64 0]) (x := ((0, 0) : Cl)) rfl cs.length]; exact Row.push
  refine loop (σ := Nat) tbOk mtOk ⟨[], []⟩ (fun i => [(4, .v (.int .i64 (i : Int))), (3, .v (.slice (some ⟨h.n, 0, some 0⟩) cs.length 1)), (0, .v (.slice a cs.length fl))]) (fun _ => []) (fun i h' => i ≤ cs.length ∧ Ext h h' ∧ Row h' h.n 0 cE 2 (cs.take i ++ List.replicate (cs.length - i) ((0, 0) : Cl))) (fun i => cs.length - i) 400 0 (fun _ => rfl) ⟨rfl, rfl, rfl, trivial⟩ trivial ⟨Nat.zero_le _, Ext.push _ _, by simpa using r0⟩ (fun i h' hI again => ?_)
  obtain ⟨i1, i2, i3⟩ := hI
  refine cnd (fun c1 => ?_) (fun c1 => ?_)
  · have c1 : i < cs.length := by simpa using c1
    obtain ⟨a, rfl⟩ := hs.some c1
    refine And.intro ⟨by omega, by omega⟩ ?_
    refine ⟨_, (hs.ext i2).ld cE2 c1, ?_⟩
    refine callP (toCell_ok cs[i].1 cs[i].2 h') ?_
    rintro v h1 ⟨rfl, rfl⟩
    refine And.intro ⟨by omega, by omega⟩ ?_
    have hli : i < (cs.take i ++ List.replicate (cs.length - i) ((0, 0) : Cl)).length := by simp; omega
    refine ⟨_, i3.st cE2 hlo hli cs[i], ?_⟩
    refine again (i + 1) _ _ _ (by omega) ⟨?_, rfl, rfl, trivial⟩ trivial ⟨by omega, i2.set (Nat.le_refl _) _, ?_⟩
    · show some (Sl.v (.int .i64 (IntKind.i64.wrap ((i : Int) + 1)))) = _
      rw [wr (by omega) (by omega)]; rfl
    · have e : cs.take (i + 1) ++ List.replicate (cs.length - (i + 1)) ((0, 0) : Cl) = (cs.take i ++ List.replicate (cs.length - i) ((0, 0) : Cl)).set i cs[i] := by
        rw [List.set_append_right _ _ (by simp; omega), List.take_succ_eq_append_getElem c1, List.append_assoc]
        congr 1
        rw [List.length_take, Nat.min_eq_left (by omega), Nat.sub_self, show cs.length - i = (cs.length - (i + 1)) + 1 from by omega, List.replicate_succ]
        rfl
      rw [e]
      exact Row.set i3.lt
  · have c1 : cs.length = i := by simp at c1; omega
    rw [← c1, List.take_length, Nat.sub_self, List.replicate_zero, List.append_nil] at i3
    exact ⟨h.n, rfl, hlo, Nat.le_refl _, i3, i2⟩
/-- A grid, anew. -/
theorem toGrid_ok (g : Gd) (a : Option Addr) (fl : Nat) (h : Hp) (hs : Sls h cE 2 a g.cs) (hn : g.cs.length ≤ 1048576) : Tri X lo 23 [.agg #[.int .i64 g.w, .slice a g.cs.length fl]] h fun v h' => ∃ b, v = .agg #[.int .i64 g.w, .slice (some ⟨b, 0, some 0⟩) g.cs.length 1] ∧ lo ≤ b ∧ h.n ≤ b ∧ Row h' b 0 cE 2 g.cs ∧ Ext h h' := by
  refine enter tbOk mtOk ⟨[], []⟩ 400 Try.func23 rfl rfl rfl fun hlo => ?_
  refine callP (toCellS_ok a fl g.cs h hs hn) ?_
  rintro v h1 ⟨b, rfl, q1, q2, q3, q4⟩
  exact ⟨b, rfl, q1, q2, q3, q4⟩
theorem eqCell_ok (c d : Cl) (h : Hp) : Tri X lo 69 [.agg #[.int .i64 c.1, .int .i64 c.2], .agg #[.int .i64 d.1, .int .i64 d.2]] h fun v h' => v = .bool (decide (c = d)) ∧ h' = h := by
  refine enter tbOk mtOk ⟨[], []⟩ 400 Try.func69 rfl rfl rfl fun hlo => ?_
  obtain ⟨c1, c2⟩ := c
  obtain ⟨d1, d2⟩ := d
  refine cnd (fun e1 => ?_) (fun e1 => ?_)
  · have e1 : c1 ≠ d1 := by simpa using e1
    exact And.intro (by rw [decide_eq_false (fun e => e1 (congrArg Prod.fst e))]) rfl
  · have e1 : c1 = d1 := by simpa using e1
    refine cnd (fun e2 => ?_) (fun e2 => ?_)
    · have e2 : c2 ≠ d2 := by simpa using e2
      exact And.intro (by rw [decide_eq_false (fun e => e2 (congrArg Prod.snd e))]) rfl
    · have e2 : c2 = d2 := by simpa using e2
      exact And.intro (by rw [e1, e2]; simp) rfl
theorem take_eq {α : Type} {cs ds : List α} {i : Nat} (h1 : i < cs.length) (h2 : i < ds.length) (h : cs.take i = ds.take i) (e : cs[i] = ds[i]) : cs.take (i + 1) = ds.take (i + 1) := by
  rw [List.take_succ_eq_append_getElem h1, List.take_succ_eq_append_getElem h2, h, e]
theorem eqCellS_ok (a b : Option Addr) (fl fl' : Nat) (cs ds : List Cl) (h : Hp) (hs : Sls h cE 2 a cs) (hs' : Sls h cE 2 b ds) (hn : cs.length ≤ 1048576) : Tri X lo 48 [.slice a cs.length fl, .slice b ds.length fl'] h fun v h' => v = .bool (decide (cs = ds)) ∧ h' = h := by
  refine enter tbOk mtOk ⟨[], [(6, [0, 1, 2, 3, 4, 5, 6, 7, 8, 9], [0, 0, 3, 7, 0, 0, 48, 112, 255, 511])]⟩ 400 Try.func48 rfl rfl rfl fun hlo => ?_
  refine cnd (fun c1 => ?_) (fun c1 => ?_)
  · have c1 : cs.length ≠ ds.length := by simp at c1; omega
    exact And.intro (by rw [decide_eq_false (fun e => c1 (congrArg List.length e))]) rfl
  · have c1 : cs.length = ds.length := by simp at c1; omega
    refine loop (σ := Nat) tbOk mtOk ⟨[], [(6, [0, 1, 2, 3, 4, 5, 6, 7, 8, 9], [0, 0, 3, 7, 0, 0, 48, 112, 255, 511])]⟩ (fun i => [(5, .v (.int .i64 (i : Int))), (0, .v (.slice a cs.length fl)), (1, .v (.slice b ds.length fl'))]) (fun _ => []) (fun i h' => i ≤ cs.length ∧ h' = h ∧ cs.take i = ds.take i) (fun i => cs.length - i) 400 0 (fun _ => rfl) ⟨rfl, rfl, rfl, trivial⟩ trivial ⟨Nat.zero_le _, rfl, rfl⟩ (fun i h' hI again => ?_)
    obtain ⟨i1, rfl, i3⟩ := hI
    refine cnd (fun c2 => ?_) (fun c2 => ?_)
    · have c2 : i < cs.length := by simpa using c2
      have c2' : i < ds.length := by omega
      obtain ⟨a, rfl⟩ := hs.some c2
      obtain ⟨b, rfl⟩ := hs'.some c2'
      refine And.intro (by kernel_rfl) ?_
      refine And.intro ⟨by omega, by omega⟩ ?_
      refine ⟨_, hs.ld cE2 c2, ?_⟩
      refine And.intro ⟨by omega, by omega⟩ ?_
      refine ⟨_, hs'.ld cE2 c2', ?_⟩
      refine callP (eqCell_ok cs[i] ds[i] _) ?_
      rintro v h1 ⟨rfl, rfl⟩
      refine cnd (fun c3 => ?_) (fun c3 => ?_)
      · have c3 : cs[i] ≠ ds[i] := by simpa using c3
        refine And.intro ?_ rfl
        rw [decide_eq_false (fun e => c3 (by subst e; rfl))]
      · have c3 : cs[i] = ds[i] := by simpa using c3
        refine again (i + 1) _ _ _ (by omega) ⟨?_, rfl, rfl, trivial⟩ trivial ⟨by omega, rfl, take_eq c2 c2' i3 c3⟩
        show some (Sl.v (.int .i64 (IntKind.i64.wrap ((i : Int) + 1)))) = _
        rw [wr (by omega) (by omega)]; rfl
    · have c2 : cs.length = i := by simp at c2; omega
      refine And.intro ?_ rfl
      rw [← c2, List.take_length, c1, List.take_length] at i3
      rw [i3]; simp
theorem eqIntS_ok (a b : Option Addr) (fl fl' : Nat) (cs ds : List Int) (h : Hp) (hs : Sls h iE 1 a cs) (hs' : Sls h iE 1 b ds) (hn : cs.length ≤ 1048576) : Tri X lo 24 [.slice a cs.length fl, .slice b ds.length fl'] h fun v h' => v = .bool (decide (cs = ds)) ∧ h' = h := by
  refine enter tbOk mtOk ⟨[], [(6, [0, 1, 2, 3, 4, 5, 6, 7, 8], [0, 0, 3, 7, 0, 0, 48, 112, 255])]⟩ 400 Try.func24 rfl rfl rfl fun hlo => ?_
  refine cnd (fun c1 => ?_) (fun c1 => ?_)
  · have c1 : cs.length ≠ ds.length := by simp at c1; omega
    exact And.intro (by rw [decide_eq_false (fun e => c1 (congrArg List.length e))]) rfl
  · have c1 : cs.length = ds.length := by simp at c1; omega
    refine loop (σ := Nat) tbOk mtOk ⟨[], [(6, [0, 1, 2, 3, 4, 5, 6, 7, 8], [0, 0, 3, 7, 0, 0, 48, 112, 255])]⟩ (fun i => [(5, .v (.int .i64 (i : Int))), (0, .v (.slice a cs.length fl)), (1, .v (.slice b ds.length fl'))]) (fun _ => []) (fun i h' => i ≤ cs.length ∧ h' = h ∧ cs.take i = ds.take i) (fun i => cs.length - i) 400 0 (fun _ => rfl) ⟨rfl, rfl, rfl, trivial⟩ trivial ⟨Nat.zero_le _, rfl, rfl⟩ (fun i h' hI again => ?_)
    obtain ⟨i1, rfl, i3⟩ := hI
    refine cnd (fun c2 => ?_) (fun c2 => ?_)
    · have c2 : i < cs.length := by simpa using c2
      have c2' : i < ds.length := by omega
      obtain ⟨a, rfl⟩ := hs.some c2
      obtain ⟨b, rfl⟩ := hs'.some c2'
      refine And.intro (by kernel_rfl) ?_
      refine And.intro ⟨by omega, by omega⟩ ?_
      refine ⟨_, hs.ld (fun _ => rfl) c2, ?_⟩
      refine And.intro ⟨by omega, by omega⟩ ?_
      refine ⟨_, hs'.ld (fun _ => rfl) c2', ?_⟩
      refine cnd (fun c3 => ?_) (fun c3 => ?_)
      · have c3 : cs[i] ≠ ds[i] := by simpa using c3
        refine And.intro ?_ rfl
        rw [decide_eq_false (fun e => c3 (by subst e; rfl))]
      · have c3 : cs[i] = ds[i] := by simpa using c3
        refine again (i + 1) _ _ _ (by omega) ⟨?_, rfl, rfl, trivial⟩ trivial ⟨by omega, rfl, take_eq c2 c2' i3 c3⟩
        show some (Sl.v (.int .i64 (IntKind.i64.wrap ((i : Int) + 1)))) = _
        rw [wr (by omega) (by omega)]; rfl
    · have c2 : cs.length = i := by simp at c2; omega
      refine And.intro ?_ rfl
      rw [← c2, List.take_length, c1, List.take_length] at i3
      rw [i3]; simp
instance : DecidableEq Gd := fun a b => if h : a.w = b.w ∧ a.cs = b.cs then isTrue (by cases a; cases b; simp only at h; rw [h.1, h.2]) else isFalse fun e => h (by subst e; exact ⟨rfl, rfl⟩)
theorem eqGrid_ok (g g' : Gd) (a b : Option Addr) (fl fl' : Nat) (h : Hp) (hs : Sls h cE 2 a g.cs) (hs' : Sls h cE 2 b g'.cs) (hn : g.cs.length ≤ 1048576) : Tri X lo 25 [.agg #[.int .i64 g.w, .slice a g.cs.length fl], .agg #[.int .i64 g'.w, .slice b g'.cs.length fl']] h fun v h' => v = .bool (decide (g = g')) ∧ h' = h := by
  refine enter tbOk mtOk ⟨[], []⟩ 400 Try.func25 rfl rfl rfl fun hlo => ?_
  obtain ⟨w, cs⟩ := g
  obtain ⟨w', cs'⟩ := g'
  refine cnd (fun e1 => ?_) (fun e1 => ?_)
  · have e1 : w ≠ w' := by simpa using e1
    exact And.intro (by rw [decide_eq_false (fun e => e1 (congrArg Gd.w e))]) rfl
  · have e1 : w = w' := by simpa using e1
    refine callP (eqCellS_ok a b fl fl' cs cs' h hs hs' hn) ?_
    rintro v h1 ⟨rfl, rfl⟩
    refine cnd (fun e2 => ?_) (fun e2 => ?_)
    · have e2 : cs ≠ cs' := by simpa using e2
      exact And.intro (by rw [decide_eq_false (fun e => e2 (congrArg Gd.cs e))]) rfl
    · have e2 : cs = cs' := by simpa using e2
      exact And.intro (by rw [e1, e2]; simp) rfl
def marks (k : Int) (n : Nat) : List Int := (List.range n).map fun (i : Nat) => k + i
theorem marks_len (k : Int) (n : Nat) : (marks k n).length = n := by simp [marks]
theorem marks_get (k : Int) (n i : Nat) (hi : i < (marks k n).length) : (marks k n)[i] = k + i := by simp [marks]
theorem marks_set (k : Int) {l : List Int} {i : Nat} (hi : i < l.length) : (marks k i ++ l.drop i).set i (k + i) = marks k (i + 1) ++ l.drop (i + 1) := by
  rw [List.set_append_right _ _ (by rw [marks_len]; exact Nat.le_refl _), marks_len, Nat.sub_self, List.drop_eq_getElem_cons hi, List.set_cons_zero]
  simp [marks, List.range_succ]
/-- All places are marked. -/
theorem markIntS_ok (o : Option (Nat × Nat)) (l : List Int) (k : Int) (h : Hp) (hg : Gx lo h iE 1 o l) (hn : l.length ≤ 1048576) (hk : 0 ≤ k ∧ k ≤ 2 ^ 40) : Tri X lo 27 [gv o l.length, .int .i64 k] h fun v h' => v = .int .i64 (k + l.length) ∧ Gx lo h' iE 1 o (marks k l.length) ∧ h'.n = h.n ∧ ∀ i, ¬isB o i → h'.g i = h.g i := by
  match o, hg with
  | none, hg =>
    have hg : l = [] := hg
    subst hg
    refine enter tbOk mtOk ⟨[], []⟩ 400 Try.func27 rfl rfl rfl fun hlo => ?_
    refine loop (σ := Unit) tbOk mtOk ⟨[], []⟩ (fun i => [(5, .v (.int .i64 0)), (0, .v (.slice none 0 0)), (1, .v (.int .i64 k))]) (fun _ => []) (fun _ h' => h' = h) (fun _ => 0) 400 () (fun _ => rfl) ⟨rfl, rfl, rfl, trivial⟩ trivial rfl (fun i h' hI again => ?_)
    subst hI
    refine cndF ?_
    exact ⟨by simp, rfl, rfl, fun _ _ => rfl⟩
  | some (b, e), ⟨g1, g2⟩ =>
    refine enter tbOk mtOk ⟨[], []⟩ 400 Try.func27 rfl rfl rfl fun hlo => ?_
    refine loop (σ := Nat) tbOk mtOk ⟨[], []⟩ (fun i => [(5, .v (.int .i64 (i : Int))), (0, .v (.slice (some ⟨b, 0, some e⟩) l.length 1)), (1, .v (.int .i64 (k + i)))]) (fun _ => []) (fun i h' => i ≤ l.length ∧ Row h' b e iE 1 (marks k i ++ l.drop i) ∧ h'.n = h.n ∧ ∀ j, ¬isB (some (b, e)) j → h'.g j = h.g j) (fun i => l.length - i) 400 0 (fun _ => rfl) ⟨rfl, rfl, ?_, trivial⟩ trivial ⟨Nat.zero_le _, g2, rfl, fun _ _ => rfl⟩ (fun i h' hI again => ?_)
    · show some (Sl.v (.int .i64 k)) = some (Sl.v (.int .i64 (k + ((0 : Nat) : Int))))
      simp
    obtain ⟨i1, i2, i3, i4⟩ := hI
    refine cnd (fun c1 => ?_) (fun c1 => ?_)
    · have c1 : i < l.length := by simp at c1; omega
      refine And.intro ⟨by omega, by omega⟩ ?_
      refine ⟨_, i2.st (fun _ => rfl) g1 (j := i) (by simp [marks]; omega) (k + i), ?_⟩
      refine again (i + 1) _ _ _ (by omega) ⟨?_, rfl, ?_, trivial⟩ trivial ⟨by omega, ?_, i3, fun j hj => ?_⟩
      · show some (Sl.v (.int .i64 (IntKind.i64.wrap ((i : Int) + 1)))) = _
        rw [wr (by omega) (by omega)]; rfl
      · show some (Sl.v (.int .i64 (IntKind.i64.wrap (k + (i : Int) + 1)))) = some (Sl.v (.int .i64 (k + ((i + 1 : Nat) : Int))))
        rw [wr (by omega) (by omega), Int.add_assoc]; rfl
      · rw [← marks_set k c1]
        exact Row.set i2.lt
      · simp only [Hp.set]
        rw [if_neg (fun e => hj ⟨_, by rw [e]⟩)]
        exact i4 j hj
    · have c1 : l.length = i := by simp at c1; omega
      rw [← c1, List.drop_length, List.append_nil] at i2
      refine ⟨by rw [c1], ⟨g1, i2⟩, i3, i4⟩
/-- The marks are there still. -/
theorem heldIntS_ok (a : Option Addr) (fl n : Nat) (k : Int) (h : Hp) (hs : Sls h iE 1 a (marks k n)) (hn : n ≤ 1048576) (hk : 0 ≤ k ∧ k ≤ 2 ^ 40) : Tri X lo 28 [.slice a n fl, .int .i64 k] h fun v h' => v = .int .i64 (k + n) ∧ h' = h := by
  refine enter tbOk mtOk ⟨[], []⟩ 400 Try.func28 rfl rfl rfl fun hlo => ?_
  refine loop (σ := Nat) tbOk mtOk ⟨[], []⟩ (fun i => [(5, .v (.int .i64 (i : Int))), (0, .v (.slice a n fl)), (1, .v (.int .i64 (k + i)))]) (fun _ => []) (fun i h' => i ≤ n ∧ h' = h) (fun i => n - i) 400 0 (fun _ => rfl) ⟨rfl, rfl, ?_, trivial⟩ trivial ⟨Nat.zero_le _, rfl⟩ (fun i h' hI again => ?_)
  · show some (Sl.v (.int .i64 k)) = some (Sl.v (.int .i64 (k + ((0 : Nat) : Int))))
    simp
  obtain ⟨i1, rfl⟩ := hI
  refine cnd (fun c1 => ?_) (fun c1 => ?_)
  · have c1 : i < n := by simp at c1; omega
    have hi : i < (marks k n).length := by rw [marks_len]; exact c1
    obtain ⟨a, rfl⟩ := hs.some hi
    have hld := hs.ld (fun _ => rfl) hi
    rw [marks_get] at hld
    refine And.intro ⟨by omega, by omega⟩ ?_
    refine ⟨_, hld, ?_⟩
    refine cnd (fun c2 => ?_) (fun c2 => ?_)
    · simp at c2
    · refine again (i + 1) _ _ _ (by omega) ⟨?_, rfl, ?_, trivial⟩ trivial ⟨by omega, rfl⟩
      · show some (Sl.v (.int .i64 (IntKind.i64.wrap ((i : Int) + 1)))) = _
        rw [wr (by omega) (by omega)]; rfl
      · show some (Sl.v (.int .i64 (IntKind.i64.wrap (k + (i : Int) + 1)))) = some (Sl.v (.int .i64 (k + ((i + 1 : Nat) : Int))))
        rw [wr (by omega) (by omega), Int.add_assoc]; rfl
  · have c1 : n = i := by simp at c1; omega
    exact ⟨by rw [c1], rfl⟩
theorem markCellS_ok (b e : Nat) (l : List Cl) (k : Int) (h : Hp) (hb : lo ≤ b) (hr : Row h b e cE 2 l) (hn : l.length ≤ 1048576) (hk : 0 ≤ k ∧ k ≤ 2 ^ 40) : Tri X lo 49 [.slice (some ⟨b, 0, some e⟩) l.length 1, .int .i64 k] h fun v h' => v = .int .i64 (k + 2 * l.length) ∧ h'.n = h.n ∧ ∀ i, i ≠ b → h'.g i = h.g i := by
  refine enter tbOk mtOk ⟨[], []⟩ 400 Try.func49 rfl rfl rfl fun hlo => ?_
  refine loop (σ := Nat) tbOk mtOk ⟨[], []⟩ (fun i => [(5, .v (.int .i64 (i : Int))), (0, .v (.slice (some ⟨b, 0, some e⟩) l.length 1)), (1, .v (.int .i64 (k + 2 * i)))]) (fun _ => []) (fun i h' => i ≤ l.length ∧ (∃ m : List Cl, m.length = l.length ∧ Row h' b e cE 2 m) ∧ h'.n = h.n ∧ ∀ j, j ≠ b → h'.g j = h.g j) (fun i => l.length - i) 400 0 (fun _ => rfl) ⟨rfl, rfl, ?_, trivial⟩ trivial ⟨Nat.zero_le _, ⟨l, rfl, hr⟩, rfl, fun _ _ => rfl⟩ (fun i h' hI again => ?_)
  · show some (Sl.v (.int .i64 k)) = some (Sl.v (.int .i64 (k + 2 * ((0 : Nat) : Int))))
    simp
  obtain ⟨i1, ⟨m, hm, i2⟩, i3, i4⟩ := hI
  refine cnd (fun c1 => ?_) (fun c1 => ?_)
  · have c1 : i < l.length := by simp at c1; omega
    have ci : i < m.length := by omega
    refine And.intro ⟨by omega, by omega⟩ ?_
    refine ⟨_, i2.stF cE2 hb (f := 0) (ys := [.int .i64 (k + 2 * i)]) (x := (k + 2 * i, m[i].2)) ci (Nat.le_of_ble_eq_true rfl) rfl, ?_⟩
    have r2 : Row (h'.set b (.cells ((m.set i (k + 2 * (i : Int), m[i].2)).flatMap cE) 2 e)) b e cE 2 (m.set i (k + 2 * (i : Int), m[i].2)) := Row.set i2.lt
    have hw : IntKind.i64.wrap (k + 2 * (i : Int) + 1) = k + 2 * (i : Int) + 1 := wr (by omega) (by omega)
    refine And.intro ⟨by omega, by omega⟩ ?_
    have ci2 : i < (m.set i (k + 2 * (i : Int), m[i].2)).length := by rw [List.length_set]; exact ci
    refine ⟨_, r2.stF cE2 hb (f := 1) (ys := [.int .i64 (IntKind.i64.wrap (k + 2 * (i : Int) + 1))]) (x := (k + 2 * i, IntKind.i64.wrap (k + 2 * (i : Int) + 1))) ci2 (Nat.le_of_ble_eq_true rfl) (by simp [cE, setL]), ?_⟩
    refine again (i + 1) _ _ _ (by omega) ⟨?_, rfl, ?_, trivial⟩ trivial ⟨by omega, ⟨_, ?_, Row.set r2.lt⟩, i3, fun j hj => ?_⟩
    · show some (Sl.v (.int .i64 (IntKind.i64.wrap ((i : Int) + 1)))) = _
      rw [wr (by omega) (by omega)]; rfl
    · show some (Sl.v (.int .i64 (IntKind.i64.wrap (IntKind.i64.wrap (k + 2 * (i : Int) + 1) + 1)))) = some (Sl.v (.int .i64 (k + 2 * ((i + 1 : Nat) : Int))))
      rw [hw, wr (by omega) (by omega)]
      congr 3; omega
    · rw [List.length_set, List.length_set]; exact hm
    · simp only [Hp.set]
      rw [if_neg hj, if_neg hj]; exact i4 j hj
  · have c1 : l.length = i := by simp at c1; omega
    exact ⟨by rw [c1], i3, i4⟩
theorem markGrid_ok (w : Int) (b e : Nat) (l : List Cl) (k : Int) (h : Hp) (hb : lo ≤ b) (hr : Row h b e cE 2 l) (hn : l.length ≤ 1048576) (hk : 0 ≤ k ∧ k ≤ 2 ^ 40) : Tri X lo 26 [.agg #[.int .i64 w, .slice (some ⟨b, 0, some e⟩) l.length 1], .int .i64 k] h fun v h' => v = .int .i64 (k + 2 * l.length) ∧ h'.n = h.n ∧ ∀ i, i ≠ b → h'.g i = h.g i := by
  refine enter tbOk mtOk ⟨[], []⟩ 400 Try.func26 rfl rfl rfl fun hlo => ?_
  refine callP (markCellS_ok b e l k h hb hr hn hk) ?_
  rintro v h1 q
  obtain ⟨rfl, q2⟩ := q
  exact ⟨rfl, q2⟩
theorem gx_sl {α : Type} {h : Hp} {enc : α → List Value} {sz : Nat} {o : Option (Nat × Nat)} {l : List α} (g : Gx lo h enc sz o l) (he : ∀ x, (enc x).length = sz) : ∃ a fl, gv o l.length = .slice a l.length fl ∧ Sls h enc sz a l := by
  match o, g with
  | none, g => exact ⟨none, 0, by rw [show l = [] from g]; rfl, g⟩
  | some (b, e), g => exact ⟨_, 1, rfl, g.2.sls he⟩
theorem eqIntS_gx {o o' : Option (Nat × Nat)} {cs ds : List Int} {h : Hp} {lo' lo'' : Nat} (hs : Gx lo' h iE 1 o cs) (hs' : Gx lo'' h iE 1 o' ds) (hn : cs.length ≤ 1048576) : Tri X lo 24 [gv o cs.length, gv o' ds.length] h fun v h' => v = .bool (decide (cs = ds)) ∧ h' = h := by
  obtain ⟨a, fl, p1, p2⟩ := gx_sl hs fun _ => rfl
  obtain ⟨b, fl', p3, p4⟩ := gx_sl hs' fun _ => rfl
  rw [p1, p3]
  exact eqIntS_ok a b fl fl' cs ds h p2 p4 hn
theorem heldIntS_gx {o : Option (Nat × Nat)} {n : Nat} {k : Int} {h : Hp} {lo' : Nat} (hs : Gx lo' h iE 1 o (marks k n)) (hn : n ≤ 1048576) (hk : 0 ≤ k ∧ k ≤ 2 ^ 40) : Tri X lo 28 [gv o n, .int .i64 k] h fun v h' => v = .int .i64 (k + n) ∧ h' = h := by
  obtain ⟨a, fl, p1, p2⟩ := gx_sl hs fun _ => rfl
  rw [marks_len] at p1
  rw [p1]
  exact heldIntS_ok a fl n k h p2 hn hk
end Go.Proofs.Ytambkogocbgbmaa.Id
/- Contracts over the ideal memory: the laws' words ll.. -/
namespace Go.Proofs.Ytambkogocbgbmaa.Id
open Go.Id
open Go.Proofs
set_option linter.unusedVariables false
set_option maxRecDepth 100000
variable {X : Ctx Try.prog} {lo : Nat}
theorem llInts_ok (a b : Option Addr) (fl fl' : Nat) (cs ds : List Int) (h : Hp) (hs : Sls h iE 1 a cs) (hs' : Sls h iE 1 b ds) (hn : cs.length ≤ 1048576) : Tri X lo 12 [.slice a cs.length fl, .slice b ds.length fl'] h fun v h' => v = .bool (decide (cs = ds)) ∧ h' = h := by
  refine enter tbOk mtOk ⟨[], [(6, [0, 1, 2, 3, 4, 5, 6, 7, 8], [0, 0, 3, 7, 0, 0, 48, 112, 255])]⟩ 400 Try.func12 rfl rfl rfl fun hlo => ?_
  refine cnd (fun c1 => ?_) (fun c1 => ?_)
  · have c1 : cs.length ≠ ds.length := by simp at c1; omega
    exact And.intro (by rw [decide_eq_false (fun e => c1 (congrArg List.length e))]) rfl
  · have c1 : cs.length = ds.length := by simp at c1; omega
    refine loop (σ := Nat) tbOk mtOk ⟨[], [(6, [0, 1, 2, 3, 4, 5, 6, 7, 8], [0, 0, 3, 7, 0, 0, 48, 112, 255])]⟩ (fun i => [(5, .v (.int .i64 (i : Int))), (0, .v (.slice a cs.length fl)), (1, .v (.slice b ds.length fl'))]) (fun _ => []) (fun i h' => i ≤ cs.length ∧ h' = h ∧ cs.take i = ds.take i) (fun i => cs.length - i) 400 0 (fun _ => rfl) ⟨rfl, rfl, rfl, trivial⟩ trivial ⟨Nat.zero_le _, rfl, rfl⟩ (fun i h' hI again => ?_)
    obtain ⟨i1, rfl, i3⟩ := hI
    refine cnd (fun c2 => ?_) (fun c2 => ?_)
    · have c2 : i < cs.length := by simpa using c2
      have c2' : i < ds.length := by omega
      obtain ⟨a, rfl⟩ := hs.some c2
      obtain ⟨b, rfl⟩ := hs'.some c2'
      refine And.intro (by kernel_rfl) ?_
      refine And.intro ⟨by omega, by omega⟩ ?_
      refine ⟨_, hs.ld (fun _ => rfl) c2, ?_⟩
      refine And.intro ⟨by omega, by omega⟩ ?_
      refine ⟨_, hs'.ld (fun _ => rfl) c2', ?_⟩
      refine cnd (fun c3 => ?_) (fun c3 => ?_)
      · have c3 : cs[i] ≠ ds[i] := by simpa using c3
        refine And.intro ?_ rfl
        rw [decide_eq_false (fun e => c3 (by subst e; rfl))]
      · have c3 : cs[i] = ds[i] := by simpa using c3
        refine again (i + 1) _ _ _ (by omega) ⟨?_, rfl, rfl, trivial⟩ trivial ⟨by omega, rfl, take_eq c2 c2' i3 c3⟩
        show some (Sl.v (.int .i64 (IntKind.i64.wrap ((i : Int) + 1)))) = _
        rw [wr (by omega) (by omega)]; rfl
    · have c2 : cs.length = i := by simp at c2; omega
      refine And.intro ?_ rfl
      rw [← c2, List.take_length, c1, List.take_length] at i3
      rw [i3]; simp
instance : DecidableEq Gd := fun a b => if h : a.w = b.w ∧ a.cs = b.cs then isTrue (by cases a; cases b; simp only at h; rw [h.1, h.2]) else isFalse fun e => h (by subst e; exact ⟨rfl, rfl⟩)
theorem llInts_gx {o o' : Option (Nat × Nat)} {cs ds : List Int} {h : Hp} {lo' lo'' : Nat} (hs : Gx lo' h iE 1 o cs) (hs' : Gx lo'' h iE 1 o' ds) (hn : cs.length ≤ 1048576) : Tri X lo 12 [gv o cs.length, gv o' ds.length] h fun v h' => v = .bool (decide (cs = ds)) ∧ h' = h := by
  obtain ⟨a, fl, p1, p2⟩ := gx_sl hs fun _ => rfl
  obtain ⟨b, fl', p3, p4⟩ := gx_sl hs' fun _ => rfl
  rw [p1, p3]
  exact llInts_ok a b fl fl' cs ds h p2 p4 hn
end Go.Proofs.Ytambkogocbgbmaa.Id
/- Contracts over the ideal memory: the laws' llRows. -/
namespace Go.Proofs.Ytambkogocbgbmaa.Id
open Go.Id
open Go.Proofs
set_option linter.unusedVariables false
set_option maxRecDepth 100000
variable {X : Ctx Try.prog} {lo : Nat}
theorem rowEl_sl {f : Int → List Int} {k : Int} {v : Value} {h : Hp} (e : RowEl f k v h) : ∃ a, v = .slice (some a) (f k).length 1 ∧ Sls h iE 1 (some a) (f k) := by
  obtain ⟨b, e, rfl, r⟩ := e
  exact ⟨_, rfl, r.sls fun _ => rfl⟩
/-- Rows that are the same. -/
theorem llRows_ok (f : Int → List Int) (a b : Option Addr) (fl fl' : Nat) (L L' : List Value) (h : Hp) (hs : Sls h vE1 1 a L) (hs' : Sls h vE1 1 b L') (el : ∀ (j : Nat) (x : Value), L[j]? = some x → RowEl f j x h) (el' : ∀ (j : Nat) (x : Value), L'[j]? = some x → RowEl f j x h) (hl : L.length = L'.length) (hn : L.length ≤ 1048576) (hf : ∀ k, L.length ≠ 0 → (f k).length ≤ 1048576) : Tri X lo 19 [.slice a L.length fl, .slice b L'.length fl'] h fun v h' => v = .bool true ∧ h' = h := by
  refine enter tbOk mtOk ⟨[], [(6, [0, 1, 2, 3, 4, 5, 6, 7, 8, 9], [0, 0, 3, 7, 0, 0, 48, 112, 255, 511])]⟩ 400 Try.func19 rfl rfl rfl fun hlo => ?_
  refine cnd (fun c1 => absurd c1 (by simp [hl])) (fun _ => ?_)
  refine loop (σ := Nat) tbOk mtOk ⟨[], [(6, [0, 1, 2, 3, 4, 5, 6, 7, 8, 9], [0, 0, 3, 7, 0, 0, 48, 112, 255, 511])]⟩ (fun i => [(5, .v (.int .i64 (i : Int))), (0, .v (.slice a L.length fl)), (1, .v (.slice b L'.length fl'))]) (fun _ => []) (fun i h' => i ≤ L.length ∧ h' = h) (fun i => L.length - i) 400 0 (fun _ => rfl) ⟨rfl, rfl, rfl, trivial⟩ trivial ⟨Nat.zero_le _, rfl⟩ (fun i h' hI again => ?_)
  obtain ⟨i1, rfl⟩ := hI
  refine cnd (fun c2 => ?_) (fun c2 => ?_)
  · have c2 : i < L.length := by simpa using c2
    have c2' : i < L'.length := by omega
    obtain ⟨a, rfl⟩ := hs.some c2
    obtain ⟨b, rfl⟩ := hs'.some c2'
    obtain ⟨x, hx, sx⟩ := rowEl_sl (el i L[i] (List.getElem?_eq_getElem c2))
    obtain ⟨y, hy, sy⟩ := rowEl_sl (el' i L'[i] (List.getElem?_eq_getElem c2'))
    have lx := hs.ld vE1_len c2
    have ly := hs'.ld vE1_len c2'
    rw [hx] at lx
    rw [hy] at ly
    refine And.intro (by kernel_rfl) ?_
    refine And.intro ⟨by omega, by omega⟩ ?_
    refine ⟨_, lx, ?_⟩
    refine And.intro ⟨by omega, by omega⟩ ?_
    refine ⟨_, ly, ?_⟩
    refine callP (llInts_ok (some x) (some y) 1 1 (f i) (f i) h' sx sy (hf i (by omega))) ?_
    rintro v h1 ⟨rfl, rfl⟩
    refine cnd (fun c => by simp at c) (fun _ => ?_)
    refine again (i + 1) _ _ _ (by omega) ⟨?_, rfl, rfl, trivial⟩ trivial ⟨by omega, rfl⟩
    show some (Sl.v (.int .i64 (IntKind.i64.wrap ((i : Int) + 1)))) = _
    rw [wr (by omega) (by omega)]; rfl
  · exact ⟨rfl, rfl⟩
end Go.Proofs.Ytambkogocbgbmaa.Id
/- Contracts over the ideal memory: the laws' words on rows of rows. -/
namespace Go.Proofs.Ytambkogocbgbmaa.Id
open Go.Id
open Go.Proofs
set_option linter.unusedVariables false
set_option maxRecDepth 100000
variable {X : Ctx Try.prog} {lo : Nat}
/-- Rows that are the same. -/
theorem eqIntSS_ok (f : Int → List Int) (a b : Option Addr) (fl fl' : Nat) (L L' : List Value) (h : Hp) (hs : Sls h vE1 1 a L) (hs' : Sls h vE1 1 b L') (el : ∀ (j : Nat) (x : Value), L[j]? = some x → RowEl f j x h) (el' : ∀ (j : Nat) (x : Value), L'[j]? = some x → RowEl f j x h) (hl : L.length = L'.length) (hn : L.length ≤ 1048576) (hf : ∀ k, L.length ≠ 0 → (f k).length ≤ 1048576) : Tri X lo 29 [.slice a L.length fl, .slice b L'.length fl'] h fun v h' => v = .bool true ∧ h' = h := by
  refine enter tbOk mtOk ⟨[], [(6, [0, 1, 2, 3, 4, 5, 6, 7, 8, 9], [0, 0, 3, 7, 0, 0, 48, 112, 255, 511])]⟩ 400 Try.func29 rfl rfl rfl fun hlo => ?_
  refine cnd (fun c1 => absurd c1 (by simp [hl])) (fun _ => ?_)
  refine loop (σ := Nat) tbOk mtOk ⟨[], [(6, [0, 1, 2, 3, 4, 5, 6, 7, 8, 9], [0, 0, 3, 7, 0, 0, 48, 112, 255, 511])]⟩ (fun i => [(5, .v (.int .i64 (i : Int))), (0, .v (.slice a L.length fl)), (1, .v (.slice b L'.length fl'))]) (fun _ => []) (fun i h' => i ≤ L.length ∧ h' = h) (fun i => L.length - i) 400 0 (fun _ => rfl) ⟨rfl, rfl, rfl, trivial⟩ trivial ⟨Nat.zero_le _, rfl⟩ (fun i h' hI again => ?_)
  obtain ⟨i1, rfl⟩ := hI
  refine cnd (fun c2 => ?_) (fun c2 => ?_)
  · have c2 : i < L.length := by simpa using c2
    have c2' : i < L'.length := by omega
    obtain ⟨a, rfl⟩ := hs.some c2
    obtain ⟨b, rfl⟩ := hs'.some c2'
    obtain ⟨x, hx, sx⟩ := rowEl_sl (el i L[i] (List.getElem?_eq_getElem c2))
    obtain ⟨y, hy, sy⟩ := rowEl_sl (el' i L'[i] (List.getElem?_eq_getElem c2'))
    have lx := hs.ld vE1_len c2
    have ly := hs'.ld vE1_len c2'
    rw [hx] at lx
    rw [hy] at ly
    refine And.intro (by kernel_rfl) ?_
    refine And.intro ⟨by omega, by omega⟩ ?_
    refine ⟨_, lx, ?_⟩
    refine And.intro ⟨by omega, by omega⟩ ?_
    refine ⟨_, ly, ?_⟩
    refine callP (eqIntS_ok (some x) (some y) 1 1 (f i) (f i) h' sx sy (hf i (by omega))) ?_
    rintro v h1 ⟨rfl, rfl⟩
    refine cnd (fun c => by simp at c) (fun _ => ?_)
    refine again (i + 1) _ _ _ (by omega) ⟨?_, rfl, rfl, trivial⟩ trivial ⟨by omega, rfl⟩
    show some (Sl.v (.int .i64 (IntKind.i64.wrap ((i : Int) + 1)))) = _
    rw [wr (by omega) (by omega)]; rfl
  · exact ⟨rfl, rfl⟩
/-- Rows marked one behind the other. -/
def marksF (m : Nat) (k : Int) : List Int := marks (1 + k * m) m
theorem marksF_len (m : Nat) (k : Int) : (marksF m k).length = m := marks_len _ _
theorem mul20 {i m : Nat} (hi : i ≤ 20) (hm : m ≤ 20) : 0 ≤ (i : Int) * m ∧ (i : Int) * m ≤ 400 := by
  have := Nat.mul_le_mul hi hm
  constructor
  · exact Int.mul_nonneg (by omega) (by omega)
  · have h : ((i * m : Nat) : Int) ≤ 400 := by omega
    rwa [Int.natCast_mul] at h
theorem heldIntSS_ok (a : Option Addr) (fl m : Nat) (L : List Value) (h : Hp) (hs : Sls h vE1 1 a L) (el : ∀ (j : Nat) (x : Value), L[j]? = some x → RowEl (marksF m) j x h) (hn : L.length ≤ 20) (hm : m ≤ 20) : Tri X lo 31 [.slice a L.length fl, .int .i64 1] h fun v h' => v = .int .i64 (1 + L.length * m) ∧ h' = h := by
  refine enter tbOk mtOk ⟨[], []⟩ 400 Try.func31 rfl rfl rfl fun hlo => ?_
  refine loop (σ := Nat) tbOk mtOk ⟨[], []⟩ (fun i => [(5, .v (.int .i64 (i : Int))), (0, .v (.slice a L.length fl)), (1, .v (.int .i64 (1 + (i : Int) * m)))]) (fun _ => []) (fun i h' => i ≤ L.length ∧ h' = h) (fun i => L.length - i) 400 0 (fun _ => rfl) ⟨rfl, rfl, ?_, trivial⟩ trivial ⟨Nat.zero_le _, rfl⟩ (fun i h' hI again => ?_)
  · show some (Sl.v (.int .i64 1)) = some (Sl.v (.int .i64 (1 + ((0 : Nat) : Int) * m)))
    simp
  obtain ⟨i1, rfl⟩ := hI
  have b20 := mul20 (i := i) (m := m) (by omega) hm
  refine cnd (fun c2 => ?_) (fun c2 => ?_)
  · have c2 : i < L.length := by simpa using c2
    obtain ⟨a, rfl⟩ := hs.some c2
    obtain ⟨x, hx, sx⟩ := rowEl_sl (el i L[i] (List.getElem?_eq_getElem c2))
    rw [marksF_len] at hx
    have lx := hs.ld vE1_len c2
    rw [hx] at lx
    refine And.intro ⟨by omega, by omega⟩ ?_
    refine ⟨_, lx, ?_⟩
    refine callP (heldIntS_ok (some x) 1 m (1 + (i : Int) * m) h' sx (by omega) (by omega)) ?_
    rintro v h1 ⟨rfl, rfl⟩
    refine cnd (fun c => absurd (of_decide_eq_true c) (by omega)) (fun _ => ?_)
    refine again (i + 1) _ _ _ (by omega) ⟨?_, rfl, ?_, trivial⟩ trivial ⟨by omega, rfl⟩
    · show some (Sl.v (.int .i64 (IntKind.i64.wrap ((i : Int) + 1)))) = _
      rw [wr (by omega) (by omega)]; rfl
    · show some (Sl.v (.int .i64 (1 + (i : Int) * m + m))) = some (Sl.v (.int .i64 (1 + ((i + 1 : Nat) : Int) * m)))
      rw [Int.natCast_add, Int.add_mul]; simp [Int.add_assoc]
  · have c2 : L.length = i := by simp at c2; omega
    subst c2
    exact ⟨rfl, rfl⟩
theorem blks_apart {L : List Value} (hp : (blks L).Pairwise (· < ·)) {i j : Nat} {x y : Value} {b : Nat} (hi : L[i]? = some x) (hj : L[j]? = some y) (hx : blkOf x = some b) (hy : blkOf y = some b) : i = j := by
  unfold blks at hp
  rw [List.pairwise_filterMap] at hp
  obtain ⟨hi', rfl⟩ := List.getElem?_eq_some_iff.1 hi
  obtain ⟨hj', rfl⟩ := List.getElem?_eq_some_iff.1 hj
  have key := List.pairwise_iff_getElem.1 hp
  by_cases h : i < j
  · exact absurd (key i j hi' hj' h b hx b hy) (Nat.lt_irrefl _)
  · by_cases h' : j < i
    · exact absurd (key j i hj' hi' h' b hy b hx) (Nat.lt_irrefl _)
    · omega
theorem markIntSS_ok (f : Int → List Int) (a : Option Addr) (fl m : Nat) (L : List Value) (h : Hp) (hs : Sls h vE1 1 a L) (ha : ∀ ad, a = some ad → ad.block ∉ blks L) (el : ∀ (j : Nat) (x : Value), L[j]? = some x → RowEl f j x h) (hb : ∀ b ∈ blks L, lo ≤ b) (hp : (blks L).Pairwise (· < ·)) (hn : L.length ≤ 20) (hm : m ≤ 20) (hf : ∀ k, L.length ≠ 0 → (f k).length = m) : Tri X lo 30 [.slice a L.length fl, .int .i64 1] h fun v h' => v = .int .i64 (1 + L.length * m) ∧ h'.n = h.n ∧ (∀ c, c ∉ blks L → h'.g c = h.g c) ∧ ∀ (j : Nat) (x : Value), L[j]? = some x → RowEl (marksF m) j x h' := by
  refine enter tbOk mtOk ⟨[], []⟩ 400 Try.func30 rfl rfl rfl fun hlo => ?_
  refine loop (σ := Nat) tbOk mtOk ⟨[], []⟩ (fun i => [(5, .v (.int .i64 (i : Int))), (0, .v (.slice a L.length fl)), (1, .v (.int .i64 (1 + (i : Int) * m)))]) (fun _ => []) (fun i h' => i ≤ L.length ∧ h'.n = h.n ∧ (∀ c, c ∉ blks L → h'.g c = h.g c) ∧ ∀ (j : Nat) (x : Value), L[j]? = some x → (j < i → RowEl (marksF m) j x h') ∧ (i ≤ j → RowEl f j x h')) (fun i => L.length - i) 400 0 (fun _ => rfl) ⟨rfl, rfl, ?_, trivial⟩ trivial ⟨Nat.zero_le _, rfl, fun _ _ => rfl, fun j x hx => ⟨fun h => absurd h (Nat.not_lt_zero _), fun _ => el j x hx⟩⟩ (fun i h' hI again => ?_)
  · show some (Sl.v (.int .i64 1)) = some (Sl.v (.int .i64 (1 + ((0 : Nat) : Int) * m)))
    simp
  obtain ⟨i1, i2, i3, i4⟩ := hI
  have b20 := mul20 (i := i) (m := m) (by omega) hm
  refine cnd (fun c2 => ?_) (fun c2 => ?_)
  · have c2 : i < L.length := by simpa using c2
    obtain ⟨ad, rfl⟩ := hs.some c2
    have hs' : Sls h' vE1 1 (some ad) L := ⟨by rw [i2]; exact hs.1, by rw [i3 _ (ha ad rfl)]; exact hs.2⟩
    have hLi := List.getElem?_eq_getElem c2
    obtain ⟨b, e, hx, r⟩ := (i4 i L[i] hLi).2 (Nat.le_refl _)
    have hbm : b ∈ blks L := List.mem_filterMap.2 ⟨L[i], List.getElem_mem c2, by rw [hx]; rfl⟩
    have hfl := hf i (by omega)
    have lx := hs'.ld vE1_len c2
    rw [hx] at lx
    refine And.intro ⟨by omega, by omega⟩ ?_
    refine ⟨_, lx, ?_⟩
    refine callP (markIntS_ok (some (b, e)) (f i) (1 + (i : Int) * m) h' ⟨hb b hbm, r⟩ (by omega) (by omega)) ?_
    rintro v h1 ⟨rfl, g1, g2, g3⟩
    have g3' : ∀ c, c ≠ b → h1.g c = h'.g c := fun c hc => g3 c fun q => by have := isB_eq q; omega
    have keep : ∀ {f : Int → List Int} {j : Nat} {x : Value}, L[j]? = some x → j ≠ i → RowEl f j x h' → RowEl f j x h1 := fun hx' hne E => by
      refine (elRow _).keep _ _ _ _ E (by omega) fun b' hb' => g3' b' fun hbb => hne ?_
      subst hbb
      exact blks_apart hp hx' hLi hb' (by rw [hx]; rfl)
    refine again (i + 1) _ _ _ (by omega) ⟨?_, rfl, ?_, trivial⟩ trivial ⟨by omega, by omega, fun c hc => ?_, fun j x hx' => ⟨fun hj => ?_, fun hj => keep hx' (by omega) ((i4 j x hx').2 (by omega))⟩⟩
    · show some (Sl.v (.int .i64 (IntKind.i64.wrap ((i : Int) + 1)))) = _
      rw [wr (by omega) (by omega)]; rfl
    · show some (Sl.v (.int .i64 (1 + (i : Int) * m + (f i).length))) = some (Sl.v (.int .i64 (1 + ((i + 1 : Nat) : Int) * m)))
      rw [hfl, Int.natCast_add, Int.add_mul]; simp [Int.add_assoc]
    · rw [g3' c (fun h => hc (by rw [h]; exact hbm))]; exact i3 c hc
    · by_cases hji : j = i
      · subst hji
        rw [hLi] at hx'
        obtain rfl : L[j] = x := Option.some.inj hx'
        refine ⟨b, e, ?_, ?_⟩
        · rw [hx, marksF_len, hfl]
        · have := g1.2
          rw [hfl] at this
          exact this
      · exact keep hx' hji ((i4 j x hx').1 (by omega))
  · have c2 : L.length = i := by simp at c2; omega
    subst c2
    exact ⟨rfl, i2, i3, fun j x hx => (i4 j x hx).1 (List.getElem?_eq_some_iff.1 hx).1⟩
end Go.Proofs.Ytambkogocbgbmaa.Id
/- The law FnExactPicTo over the ideal memory. -/
namespace Go.Proofs.Ytambkogocbgbmaa.Id
open Go.Id Go.Conc Go.Conc.Lib
open Go.Proofs
set_option linter.unusedVariables false
set_option maxRecDepth 100000
variable {N0 : Nat → Prop} {lo : Nat}
theorem gx_sl2 {α : Type} {h : Hp} {enc : α → List Value} {sz : Nat} {o : Option (Nat × Nat)} {l : List α} (g : Gx lo h enc sz o l) (he : ∀ x, (enc x).length = sz) : ∃ a fl, gv o l.length = .slice a l.length fl ∧ Sls h enc sz a l ∧ ∀ ad, a = some ad → isB o ad.block := by
  match o, g with
  | none, g => exact ⟨none, 0, by rw [show l = [] from g]; rfl, g, fun _ h => by cases h⟩
  | some (b, e), g => exact ⟨_, 1, rfl, g.2.sls he, fun ad h => by cases h; exact ⟨e, rfl⟩⟩
theorem exactPicTo_R (g : Gd) (a : Option Addr) (fl : Nat) (h : Hp) (hs : Sls h cE 2 a g.cs) (hn : g.cs.length ≤ 9223372036854775807) (hlo : lo ≤ h.n) :
    R (mainCtx Try.prog N0) lo 9 Try.f9 (.ret fun v _ => v = .bool true) [.code (bodyC Try.f9)] (argsTm 0 [.agg #[.int .i64 g.w, .slice a g.cs.length fl]]) [] h := by
  refine more tbOk mtOk ⟨[], [(10, [0, 1, 2, 3, 4], [0, 0, 2, 7, 15])]⟩ 400 ?_
  refine callP (szGrid_ok g.w a g.cs.length fl 1048576 h ⟨by decide, by decide⟩ hn) ?_
  rintro v h1 ⟨rfl, rfl⟩
  refine cnd (fun c1 => rfl) (fun c1 => ?_)
  have hn1 : g.cs.length ≤ 1048576 := by
    by_cases q : (g.cs.length : Int) ≤ 1048576
    · omega
    · rw [if_neg q] at c1; simp at c1
  have hn2 : (g.cs.length : Int) < 2 ^ 31 := by omega
  have mle : (if gOk g then many g else 0) ≤ 20 := by
    split
    · rename_i hg
      obtain ⟨p1, p2, _⟩ := hi_ok hg
      obtain ⟨p3, p4, _⟩ := gOk_iff.1 hg
      unfold many; omega
    · decide
  obtain ⟨m, hm, hf⟩ : ∃ m : Nat, m ≤ 20 ∧ ∀ (L : List Value), ((L.length : Int) = if gOk g then many g else 0) → ∀ k, L.length ≠ 0 → (rowTo g k).length = m := by
    by_cases hg : gOk g = true
    · rw [if_pos hg] at mle
      exact ⟨(many g).toNat, by omega, fun L _ k _ => toRow_len _ _⟩
    · exact ⟨0, by omega, fun L hL k h0 => by rw [if_neg hg] at hL; omega⟩
  refine callP (toGrid_ok g a fl _ hs hn1) ?_
  rintro v h2 ⟨b1, rfl, q1, q2, q3, q4⟩
  refine callP (sPicTo_ok g _ _ h2 (q3.sls cE2) hn2) ?_
  rintro v h3 ⟨⟨bw, ew, Lw, rfl, w1, w2, w3⟩, w4⟩
  refine callP (toGrid_ok g a fl _ (hs.ext (q4.trans w4)) hn1) ?_
  rintro v h4 ⟨b2, rfl, x1, x2, x3, x4⟩
  refine callP (PicTo_ok g _ _ _ (x3.sls cE2) hn2) ?_
  rintro v h5 ⟨⟨o, L, rfl, p1, p2, p3, p4, p5, p6⟩, p7⟩
  obtain ⟨la, lf, lv, ls, lb⟩ := gx_sl2 p1 vE1_len
  rw [lv]
  have hLL : L.length = Lw.length := by omega
  have hL20 : L.length ≤ 20 := by omega
  have hfL := hf L p2
  have hfb : ∀ k, L.length ≠ 0 → (rowTo g k).length ≤ 1048576 := fun k hk => by rw [hfL k hk]; omega
  have E1 := fun {h' : Hp} (x : Ext h3 h') => w2.ext x
  refine callP (eqIntSS_ok (rowTo g) la (some ⟨bw, 0, some ew⟩) lf 1 L Lw h5 ls ((E1 (x4.trans p7)).r.sls vE1_len) p3 (E1 (x4.trans p7)).el hLL (by omega) hfb) ?_
  rintro v h5' ⟨rfl, rfl⟩
  refine cnd (fun c => by simp at c) (fun _ => ?_)
  refine And.intro (by kernel_rfl) ?_
  have e5 := ((q4.trans w4).trans x4).trans p7
  refine callP (toGrid_ok g a fl _ (hs.ext e5) hn1) ?_
  rintro v h6 ⟨b3, rfl, y1, y2, y3, y4⟩
  refine And.intro Is.r ?_
  have x6 : Row h6 b2 0 cE 2 g.cs := (x3.ext p7).ext y4
  refine callP (eqGrid_ok g g _ _ _ _ _ (x6.sls cE2) (y3.sls cE2) hn1) ?_
  rintro v h6' ⟨rfl, rfl⟩
  refine cnd (fun c => by simp at c) (fun _ => ?_)
  refine callP (markGrid_ok g.w b2 0 g.cs 1 _ x1 x6 hn1 (by decide)) ?_
  rintro v h7 ⟨rfl, m1, m2⟩
  refine cnd (fun c => absurd (of_decide_eq_true c) (by omega)) (fun _ => ?_)
  have lb2 : b2 < h4.n := x3.lt
  have n34 := x4.n
  have n45 := p7.n
  have n56 := y4.n
  have n7 : h6'.n ≤ h7.n := by omega
  have E37 : Ext h3 h7 := ⟨by omega, fun i hi => (m2 i (by omega)).trans (((x4.trans p7).trans y4).g i hi)⟩
  have el7 : ∀ (j : Nat) (x : Value), L[j]? = some x → RowEl (rowTo g) j x h7 := fun j x hx => by
    refine (elRow _).keep _ _ _ _ ((elRow _).ext (p3 j x hx) y4) n7 fun b hb => m2 b ?_
    have := (p4 b (List.mem_filterMap.2 ⟨x, List.mem_of_getElem? hx, hb⟩)).1
    omega
  have ls7 : Sls h7 vE1 1 la L := by
    have := ls.ext y4
    cases la with
    | none => exact this
    | some ad =>
      refine ⟨Nat.lt_of_lt_of_le this.1 n7, ?_⟩
      rw [m2 _ (by have := p5 _ (lb ad rfl); omega)]
      exact this.2
  have lab : ∀ ad, la = some ad → ad.block ∉ blks L := fun ad h hb => (p4 _ hb).2 (lb ad h)
  refine callP (eqIntSS_ok (rowTo g) la (some ⟨bw, 0, some ew⟩) lf 1 L Lw h7 ls7 ((E1 E37).r.sls vE1_len) el7 (E1 E37).el hLL (by omega) hfb) ?_
  rintro v h7' ⟨rfl, rfl⟩
  refine cnd (fun c => by simp at c) (fun _ => ?_)
  have h25 := e5.n
  have h23 := w4.n
  have hb4 : ∀ b ∈ blks L, lo ≤ b := fun b hb => by have := (p4 b hb).1; have := q4.n; omega
  refine callP (markIntSS_ok (rowTo g) la lf m L h7' ls7 lab el7 hb4 p6 hL20 hm hfL) ?_
  rintro v h8 ⟨rfl, r1, r2, r3⟩
  have ls8 : Sls h8 vE1 1 la L := by
    cases la with
    | none => exact ls7
    | some ad => exact ⟨by rw [r1]; exact ls7.1, by rw [r2 _ (lab ad rfl)]; exact ls7.2⟩
  refine callP (heldIntSS_ok la lf m L h8 ls8 r3 hL20 hm) ?_
  rintro v h8' ⟨rfl, rfl⟩
  have b20 := mul20 (i := L.length) (m := m) hL20 hm
  refine cnd (fun c => absurd (of_decide_eq_true c) (by omega)) (fun _ => ?_)
  refine cnd (fun c => by simp at c) (fun _ => ?_)
  have E38 : Ext h3 h8' := ⟨by have := E37.n; omega, fun i hi => (r2 i fun hb => by have := (p4 _ hb).1; omega).trans (E37.g i hi)⟩
  have e8 := (q4.trans w4).trans E38
  refine callP (toGrid_ok g a fl _ (hs.ext e8) hn1) ?_
  rintro v h9 ⟨b4, rfl, z1, z2, z3, z4⟩
  refine callP (PicTo_ok g _ _ _ (z3.sls cE2) hn2) ?_
  rintro v h10 ⟨⟨o', L', rfl, s1, s2, s3, s4, s5, s6⟩, s7⟩
  obtain ⟨la', lf', lv', ls', lb'⟩ := gx_sl2 s1 vE1_len
  rw [lv']
  refine callP (eqIntSS_ok (rowTo g) la' (some ⟨bw, 0, some ew⟩) lf' 1 L' Lw h10 ls' ((E1 ((E38.trans z4).trans s7)).r.sls vE1_len) s3 (E1 ((E38.trans z4).trans s7)).el (by omega) (by omega) (fun k hk => by rw [hf L' s2 k hk]; omega)) ?_
  rintro v h10' ⟨rfl, rfl⟩
  refine cnd (fun c => by simp at c) (fun _ => ?_)
  refine callP (heldIntSS_ok la lf m L _ (ls8.ext (z4.trans s7)) (fun j x hx => (elRow _).ext (r3 j x hx) (z4.trans s7)) hL20 hm) ?_
  rintro v h11 ⟨rfl, rfl⟩
  refine cnd (fun c => absurd (of_decide_eq_true c) (by omega)) (fun _ => ?_)
  refine cnd (fun c => by simp at c) (fun _ => ?_)
  rfl
end Go.Proofs.Ytambkogocbgbmaa.Id
/- What comes in, as ideal memory that nobody writes; what is left of it at the run's end. -/
namespace Go.Id
open Go.Conc Go.ChangeShapes Go.WideShapes
set_option linter.unusedVariables false
theorem cell_spot {w : World} {a : Addr} {v : Value} (h : w.cell? a = some v) : a.spot = none ∧ a.block < w.heap.size := by
  unfold World.cell? at h
  split at h
  · rename_i c _ _ hb
    split at h
    · cases h
    · rename_i hs
      refine ⟨?_, (Array.getElem?_eq_some_iff.1 hb).1⟩
      cases hsp : a.spot with
      | none => rfl
      | some _ => rw [hsp] at hs; exact absurd rfl hs
  · cases h
def InOk (W : World) (s : Sim) (h : Hp) : Prop := SimOk (lowOf W) h.n s (fun _ => False) h W
theorem InOk.nil (W : World) : InOk W ⟨fun _ => none, fun _ => 0, fun _ => none⟩ ⟨0, fun _ => .cells [] 0 0⟩ :=
  ⟨fun id c h => (by cases h), fun id c h => (by cases h), fun id c id' c' h => (by cases h), fun id b h => (by cases h), fun b h => h.elim, fun b h => h.elim, fun b h => h, Nat.le_refl _⟩
section
variable {W : World} {s : Sim} {h : Hp} {α : Type} {enc : α → List Value} {sz : Nat} {l : List α} {ys : List Value}
/-- A slice that came in. -/
theorem InOk.slice (I : InOk W s h) (he : ∀ x, (enc x).length = sz) (hz : sz ≠ 0) (A : Option Addr) (cap : Nat) (hl : l.length ≤ cap) (hv : VRm s (l.flatMap enc) ys) (hc : ∀ a, A = some a → ∀ (i : Nat) (v : Value), ys[i]? = some v → W.cell? (a.add i) = some v)
    (hn : A = none → l = [] ∧ cap = 0) (hb : ∀ a, A = some a → l = [] → ∃ b0, b0 < W.heap.size) :
    ∃ s' h' A' fl, InOk W s' h' ∧ s.le s' ∧ Ext h h' ∧ VR s' (.slice A' l.length fl) (.slice A l.length cap) ∧ Sls h' enc sz A' l := by
  cases A with
  | none =>
    obtain ⟨rfl, rfl⟩ := hn rfl
    exact ⟨s, h, none, 0, I, s.le_refl, Ext.refl h, .sl0, rfl⟩
  | some a =>
    have hnone : s.adr h.n = none := by
      cases hx : s.adr h.n with
      | none => rfl
      | some c => exact absurd (I.cells _ c hx).1 (Nat.lt_irrefl _)
    obtain ⟨c, hcap, hcb, hH, hne⟩ : ∃ c : Cel, c.cap = cap ∧ c.b < W.heap.size ∧ Holds W c.b c.o ys ∧ (l.length ≠ 0 → a = ⟨c.b, c.o + 0, none⟩) := by
      by_cases hl0 : l = []
      · obtain ⟨b0, hb0⟩ := hb a rfl hl0
        refine ⟨⟨b0, 0, cap⟩, rfl, hb0, fun i v hv' => ?_, fun h => absurd (by rw [hl0]; rfl) h⟩
        have := hv.1.1
        rw [hl0] at this
        have := (List.getElem?_eq_some_iff.1 hv').1
        simp at *; omega
      · have hy : 0 < ys.length := by
          rw [← hv.1.1, flat_len he]
          exact Nat.mul_pos (List.length_pos_iff.2 hl0) (Nat.pos_of_ne_zero hz)
        have h0 := hc a rfl 0 ys[0] (List.getElem?_eq_getElem hy)
        rw [show a.add 0 = a from rfl] at h0
        obtain ⟨e1, e2⟩ := cell_spot h0
        have ea : a = ⟨a.block, a.off, none⟩ := by cases a; simp only at e1; rw [e1]
        refine ⟨⟨a.block, a.off, cap⟩, rfl, e2, fun i v hv' => ?_, fun _ => ea⟩
        have := hc a rfl i v hv'
        rw [ea, add_none] at this
        exact this
    refine ⟨s.up h.n c 0, h.push (.cells (l.flatMap enc) sz 0), some ⟨h.n, 0, some 0⟩, 2, ?_, ?_, Ext.push _ _, ?_, ?_⟩
    · have hle : s.le (s.up h.n c 0) := Sim.up_le fun c₀ hc₀ => by rw [hnone] at hc₀; cases hc₀
      refine ⟨fun id c' hc' => ?_, fun id c' hc' hlo => ?_, fun id c' id' c'' h1 h2 hlo => ?_, fun id b hb' => ?_, fun b h => h.elim, fun b h => h.elim, fun b h => h, Nat.le_refl _⟩
      · simp only [Sim.up] at hc'
        by_cases hid : id = h.n
        · subst hid
          rw [if_pos rfl] at hc'; cases hc'
          exact ⟨by simp [Hp.push], fun _ => hcb, l.flatMap enc, sz, by simp [Hp.push, Sim.up], ys, hv.mono hle, hH⟩
        · rw [if_neg hid] at hc'
          obtain ⟨g1, g2, cs, sz', g3, ys', g4, g5⟩ := I.cells id c' hc'
          refine ⟨by simp [Hp.push]; omega, fun _ => g2 g1, cs, sz', ?_, ys', g4.mono hle, g5⟩
          simp [Hp.push, Sim.up, hid, g3]
      · simp only [Sim.up] at hc'
        by_cases hid : id = h.n
        · subst hid; exact absurd (show h.n + 1 ≤ h.n from hlo) (by omega)
        · rw [if_neg hid] at hc'; have := (I.cells id c' hc').1; exact absurd (show h.n + 1 ≤ id from hlo) (by omega)
      · simp only [Sim.up] at h1
        by_cases hid : id = h.n
        · subst hid; exact absurd (show h.n + 1 ≤ h.n from hlo) (by omega)
        · rw [if_neg hid] at h1; have := (I.cells id c' h1).1; exact absurd (show h.n + 1 ≤ id from hlo) (by omega)
      · have hb'' : s.mp id = some b := hb'
        have := (I.maps id b hb'').1
        exact ⟨by simp [Hp.push]; omega, fun hlo => absurd (show h.n + 1 ≤ id from hlo) (by omega)⟩
    · exact Sim.up_le fun c₀ hc₀ => by rw [hnone] at hc₀; cases hc₀
    · refine .sl h.n 0 (some 0) l.length 2 a cap c (by simp [Sim.up]) (by simp [Sim.up, epOf]) (fun _ => ⟨fun hx => ?_, fun hx => by cases hx⟩) (fun hx => by cases hx) hl
      rcases hx with hx | hx
      · exact hne hx
      · cases hx
    · exact (Row.push (h := h) (e := 0) (enc := enc) (sz := sz) (l := l)).sls he
end
section
variable {H : Type} {enc : TypeId × Value → H} {P : Program} {W : World} {base : Nat} {spare : Nat → Bool} {held : Bool} {α : Type} {en : α → List Value} {sz : Nat}
theorem cells_get {a : Addr} {n : Nat} {cs : List Value} (h : W.cells? base a n = some cs) : cs.length = n ∧ ∀ i, i < n → W.cell? (a.add i) = cs[i]? := by
  obtain ⟨_, h1, h2⟩ := World.cells?_some h
  exact ⟨h1, h2⟩
/-- A slice of plain data, read. -/
theorem open_plain {t e : TypeId} {v : Value} {x : DataW H × List MemPlace} (ht : P.underlying t = some (.slice e)) (hsz : P.cellsOf e = sz) (hz : sz ≠ 0) (hen : ∀ x, (en x).length = sz)
    (dec : ∀ n cs y, DataW.trod enc P W base spare held n e cs = some y → ∃ q, cs = en q) {fuel : Nat} (h : DataW.trod enc P W base spare held fuel t [v] = some x) :
    ∃ (A : Option Addr) (cap : Nat) (l : List α), v = .slice A l.length cap ∧ l.length ≤ cap ∧ cap ≤ Go.maxLen ∧ (A = none → l = [] ∧ cap = 0) ∧ ∀ a, A = some a → ∀ (i : Nat) (u : Value), (l.flatMap en)[i]? = some u → W.cell? (a.add i) = some u := by
  rcases Go.Deep.open_slice ht h with ⟨hcs, _⟩ | ⟨a, len, cap, m, n, D, Pl, hcs, _, hl, hm, hmm, _, hx⟩
  · simp at hcs; subst hcs
    exact ⟨none, 0, [], rfl, Nat.le_refl _, by unfold Go.maxLen; omega, fun _ => ⟨rfl, rfl⟩, fun a h => by cases h⟩
  · simp at hcs; subst hcs
    have hlm : len ≤ m := by rw [hmm]; split <;> omega
    have each : ∀ i, i < len → ∃ q : α, ∀ k, k < sz → W.cell? ((a.add (i * sz)).add k) = (en q)[k]? := by
      intro i hi
      obtain ⟨cs', h1, h2⟩ := hx i (by omega)
      obtain ⟨q, rfl⟩ := dec _ _ _ h2
      rw [hsz] at h1
      exact ⟨q, (cells_get h1).2⟩
    by_cases h0 : len = 0
    · subst h0
      exact ⟨some a, cap, [], rfl, Nat.zero_le _, hm, fun h => (by cases h), fun a _ i u hu => by simp at hu⟩
    · obtain ⟨q0, hq0⟩ := each 0 (by omega)
      have hs : a.spot = none := by
        have h1 := hq0 0 (by omega)
        have hlt : 0 < (en q0).length := by rw [hen]; omega
        rw [List.getElem?_eq_getElem hlt] at h1
        have : (a.add (0 * sz)).add 0 = a := by simp [Addr.add]
        rw [this] at h1
        exact (cell_spot h1).1
      have ea : a = ⟨a.block, a.off, none⟩ := by cases a; simp only at hs; rw [hs]
      obtain ⟨q, hq⟩ : ∃ q : Nat → α, ∀ i, i < len → ∀ k, k < sz → W.cell? ((a.add (i * sz)).add k) = (en (q i))[k]? := by
        classical
        exact ⟨fun i => if hi : i < len then (each i hi).choose else q0, fun i hi => by simp only [dif_pos hi]; exact (each i hi).choose_spec⟩
      have hlen : ((List.range len).map q).length = len := by simp
      refine ⟨some a, cap, (List.range len).map q, by rw [hlen], by rw [hlen]; exact hl, hm, fun h => (by cases h), fun b hb i u hu => ?_⟩
      cases hb
      have hi : i < len * sz := by
        have := (List.getElem?_eq_some_iff.1 hu).1
        rw [flat_len hen, hlen] at this; exact this
      have hdiv : i / sz < len := Nat.div_lt_of_lt_mul (by rw [Nat.mul_comm]; exact hi)
      have hmod : i % sz < sz := Nat.mod_lt _ (Nat.pos_of_ne_zero hz)
      have hsum : i / sz * sz + i % sz = i := by rw [Nat.mul_comm]; exact Nat.div_add_mod i sz
      have h1 := hq (i / sz) hdiv (i % sz) hmod
      rw [ea, add_none, add_none, Nat.add_assoc, hsum] at h1
      rw [ea, add_none, h1]
      have h2 := flat_get hen ((List.range len).map q) (i / sz) (by rw [hlen]; exact hdiv)
      have h3 : (((List.range len).map q).flatMap en)[i]? = (((((List.range len).map q).flatMap en).drop (i / sz * sz)).take sz)[i % sz]? := by
        rw [List.getElem?_take, if_pos hmod, List.getElem?_drop, hsum]
      rw [h3, h2] at hu
      simp at hu
      rw [← hu]
end
section
variable {P : Program} {W : World} {r : Reach} {b0 : Nat}
theorem block_cell {t : TypeId} {a : Addr} {len cap : Nat} (h : Cell.okWide P W r b0 t (.slice (some a) len cap)) : a.block < W.heap.size := by
  have h' : Cell.ok P W r b0 t (.slice (some a) len cap) := by
    unfold Cell.okWide at h
    split at h <;> first | exact h | (rename_i e; cases e)
  unfold Cell.ok at h'
  split at h' <;> first | exact h'.elim | skip
  all_goals first
    | (rename_i e; cases e; done)
    | (rename_i e _ _ _ _ he; cases he
       obtain ⟨_, _, _, _, row, cells, hs, _⟩ := h'
       unfold World.shape? at hs
       cases hb : W.heap[a.block]? with
       | none => rw [hb] at hs; cases hs
       | some o => exact (Array.getElem?_eq_some_iff.1 hb).1)
theorem block_agg {t : TypeId} {fs : Array Field} {cs : Array Value} (ht : P.underlying t = some (.struct fs)) (h : Value.okWide P W r b0 t (.agg cs)) {i : Nat} {a : Addr} {len cap : Nat} (hi : cs[i]? = some (.slice (some a) len cap)) : a.block < W.heap.size := by
  simp only [Value.okWide, ht] at h
  obtain ⟨cs', he, _, ts, _, _, hx⟩ := h
  cases he
  obtain ⟨u, _, hu⟩ := hx i _ hi
  exact block_cell hu
end
/-! ### at the end -/
open Go.RowKit
theorem below_of {W w' : World} (K : Kept (lowOf W) (fun _ => False) W w') : Below W.heap.size W { w' with tape := W.tape } := ⟨K.os, rfl, K.out, K.size, fun k hk => K.low k hk⟩
theorem kept_frame {W w' : World} (K : Kept (lowOf W) (fun _ => False) W w') (may : MemPlace → Prop) : W.keptBut w' may := by
  obtain ⟨a, b, c⟩ := (below_of K).frame may
  exact ⟨a, b, c⟩
theorem Trod_tape {H : Type} {enc : TypeId × Value → H} {P : Program} {w : World} {tp : Tape} {base : Nat} {spare : Nat → Bool} {held : Bool} {t : TypeId} {v : Value} {d : DataW H} {ps : List MemPlace} (h : DataW.Trod enc P { w with tape := tp } base spare held t v d ps) : DataW.Trod enc P w base spare held t v d ps :=
  DataW.Trod.of_heap (w := { w with tape := tp }) (w' := w) rfl h
end Go.Id
/- The row of FnExactPicTo: for every grid that comes in, the law returns true, and the grid reads as it did. No condition. -/
namespace Go.Proofs.Ytambkogocbgbmaa.fnExactPicTo
open Go.ChangeShapes Go.WideShapes Go.ChangeAt Go.RowKit Go.Id Go.Conc Go.Proofs.Ytambkogocbgbmaa.Id
set_option linter.unusedVariables false
theorem own : ownKnob Try.prog.godebug = none := by kernel_rfl
theorem laidOut : laidOutB Try.prog = true := by kernel_rfl
section
variable {H : Type} {enc : TypeId × Value → H} {W : World} {base : Nat} {spare : Nat → Bool} {held : Bool}
theorem dec_int (n : Nat) (cs : List Value) (y : DataW H × List MemPlace) (h : DataW.trod enc Try.prog W base spare held n 3 cs = some y) : ∃ q : Int, cs = iE q := by
  obtain ⟨q, e, _⟩ := DataW.trod_int Try.underlying3 h
  exact ⟨q, e⟩
theorem cells_int : Try.prog.cellsOf 3 = 1 := by kernel_rfl
theorem cells_cell : Try.prog.cellsOf 115 = 2 := by kernel_rfl
theorem cells_grid : Try.prog.cellsOf 43 = 2 := by kernel_rfl
set_option maxRecDepth 100000 in
theorem dec_cell (n : Nat) (cs : List Value) (y : DataW H × List MemPlace) (h : DataW.trod enc Try.prog W base spare held n 115 cs = some y) : ∃ q : Cl, cs = cE q := by
  obtain ⟨y0, y1, m, _, hl, h0, h1⟩ := trod_struct2 Try.underlying115 h
  obtain ⟨a, ea⟩ := dec_int _ _ _ h0
  obtain ⟨b, eb⟩ := dec_int _ _ _ h1
  rw [cells_cell] at hl
  match cs, hl with
  | [c0, c1], _ =>
    have fa : [c0] = iE a := by simpa [cells_int] using ea
    have fb : [c1] = iE b := by simpa [cells_int] using eb
    simp only [iE, List.cons.injEq, and_true] at fa fb
    subst fa; subst fb
    exact ⟨(a, b), rfl⟩
set_option maxRecDepth 100000 in
theorem in_grid {b0 : Nat} {r : Reach} {v : Value} {d : DataW H} {p : List MemPlace} {s : Sim} {h : Hp} (I : InOk W s h) (hv : Value.okWide Try.prog W r b0 43 v) (ht : DataW.Trod enc Try.prog W base spare held 43 v d p) :
    ∃ (s' : Sim) (h' : Hp) (g : Gd) (a : Option Addr) (fl : Nat), InOk W s' h' ∧ s.le s' ∧ Ext h h' ∧ VR s' (.agg #[.int .i64 g.w, .slice a g.cs.length fl]) v ∧ Sls h' cE 2 a g.cs ∧ g.cs.length ≤ Go.maxLen := by
  have hv0 := hv
  obtain ⟨c0, c1, y0, y1, n, rfl, _, _, t0, t1⟩ := Joins.open_agg2 Try.underlying43 (by kernel_rfl) cells_grid hv ht
  obtain ⟨w, e0⟩ := dec_int _ _ _ t0
  obtain ⟨A, cap, l, rfl, hl, hm, hn, hc⟩ := open_plain (en := cE) (sz := 2) Try.underlying41 cells_cell (by decide) cE2 dec_cell t1
  simp only [iE, List.cons.injEq, and_true] at e0
  subst e0
  have hpl : ∀ v ∈ l.flatMap cE, plainV v = true ∧ v.oneCell' = true := by
    intro v hv
    obtain ⟨q, _, hq⟩ := List.mem_flatMap.1 hv
    simp only [cE, List.mem_cons, List.not_mem_nil, or_false] at hq
    rcases hq with rfl | rfl <;> exact ⟨rfl, rfl⟩
  have hblk : ∀ a, A = some a → l = [] → ∃ b0, b0 < W.heap.size := by
    intro a ha hl0
    subst ha
    exact ⟨a.block, block_agg Try.underlying43 hv0 (i := 1) rfl⟩
  obtain ⟨s', h', A', fl, I', l1, e1, v1, s1⟩ := I.slice (enc := cE) cE2 (by decide) A cap hl (VRm.of_plain s hpl) hc hn hblk
  · refine ⟨s', h', ⟨w, l⟩, A', fl, I', l1, e1, .agg _ _ rfl (fun i x y hx hy => ?_) (fun y hy => ?_), s1, Nat.le_trans hl hm⟩
    · rcases i with _ | _ | i
      · simp at hx hy; subst hx; subst hy; exact .int _ _
      · simp at hx hy; subst hx; subst hy; exact v1
      · simp at hx
    · simp at hy
      rcases hy with rfl | rfl <;> rfl
end
set_option maxRecDepth 100000 in
theorem lifted (os : Os) (started : os.Started) (H : Type) (enc : TypeId × Value → H) :
    ReturnsInLeavingWide {} Try.checked os 9 .any (Rows.fnExactPicToSpec.pre6 enc Try.prog Try.f9 Rows.fnExactPicToRow.domain false) (Rows.fnExactPicToSpec.post enc Try.prog Try.f9 false true false false) := by
  refine returnsInLeavingWide_of_change_sized (C := Try.checked) own started Try.func9
    (ChangeSpec.witness6 (enc := enc) (C := Try.checked) false ⟨#[], #[.agg #[.int .i64 0, .slice none 0 0]], []⟩ 8 (by kernel_rfl) (by kernel_rfl) (by kernel_rfl) (by kernel_rfl)) ?_
  intro W base args ds gs before hval0 hW hcnd hsz0 _
  have hval : ∀ (j : Nat) t v, Try.f9.params[j]? = some t → args[j]? = some v → Value.okWide Try.prog W .any base t v := hval0
  have hW' := hW
  obtain ⟨p, q, hA0, hV, rfl, hfz, hnd⟩ := hW
  have hA : DataW.TrodAll enc Try.prog W 0 (fun _ => true) true Try.f9.params.toList args.toList ds p := hA0
  rw [Try.params9] at hA hval
  obtain ⟨v0, vs0, d0, ds0, p0, q0, hargs, rfl, rfl, h0, r0⟩ := trodAll_cons hA
  obtain ⟨rfl, rfl, rfl⟩ := trodAll_nil r0
  obtain rfl : args = #[v0] := by cases args; simp_all
  obtain ⟨rfl, rfl⟩ := trodVars_none hV
  have k0 := h0
  have lt0 : ∀ x ∈ p0, x.block < W.heap.size := by obtain ⟨m, hm⟩ := k0; exact DataW.trod_lt m _ _ _ hm
  obtain ⟨s, h, g, a, fl, I, _, _, V, S, hn⟩ := in_grid (InOk.nil W) (hval 0 43 v0 rfl rfl) h0
  clear hA0 hval0 hsz0
  obtain ⟨M, last, o, w', t', g1, g2, g3, g4⟩ := main_run (lo := h.n) (Post := fun v _ => v = .bool true) (argsr := #[v0]) (args := [.agg #[.int .i64 g.w, .slice a g.cs.length fl]]) Try.func9 rfl (Nat.le_of_ble_eq_true rfl) (by kernel_rfl) I (VRs.cons V (VRs.nil s)) (exactPicTo_R g a fl h S (Nat.le_trans hn (by unfold Go.maxLen; exact Nat.le_refl _)) (Nat.le_refl _))
  refine ⟨M, last, o, w', t', g1, g2, g3, g4.mono fun vr ht => ?_⟩
  obtain ⟨v, h', s', O', rfl, _, _, hv, K⟩ := ht
  obtain rfl : vr = .bool true := VR.bool_inv hv
  have bel := below_of K
  exact ⟨_, _, _, [], _, [], hW', trodAll_mk1 (shut_bool Try.underlying4 _), trodAll_cons_mk (Trod_tape (Below.trod laidOut (by kernel_rfl) (of_decide_eq_true (by kernel_rfl)) k0 bel lt0)) trodAll_mk0, rfl, kept_frame K _, fun h => by cases h⟩
theorem over : Rows.fnExactPicToRow.holds Try.pinned (OpenSpec.ofChange Rows.fnExactPicToSpec) :=
  OpenClaim.holds_of_wide_leaving 9 Try.f9 rfl rfl rfl rfl rfl rfl rfl ⟨rfl, rfl, rfl, rfl, rfl⟩ rfl rfl rfl rfl rfl (by kernel_rfl) Try.func9 (by kernel_rfl)
    (of_decide_eq_true (by kernel_rfl)) (by unfold Func.isWrapper; first | (rw [if_pos (by decide +kernel)]; kernel_rfl) | (rw [if_neg (by decide +kernel)]; exact ⟨rfl, rfl⟩))
    (fun os started H enc _ => lifted os started H enc)
theorem proved : Rows.FnExactPicToSaid := over
#print axioms proved
end Go.Proofs.Ytambkogocbgbmaa.fnExactPicTo
namespace Go.Proofs.Ytambkogocbgbmaa
/-- The row, under a short name, for the claim. -/
theorem fnExactPicTo_holds : Rows.FnExactPicToSaid := fnExactPicTo.proved
end Go.Proofs.Ytambkogocbgbmaa
