/- Texts of this claim, joined: IdAL, Cw, Cr, Cy, Ct, Cv, Tr3, Da, Db, Dc, Dd, IdPf, Ga, Gb, Gc, Gd, Ge, Ea, Ha, Ja, Jb, Ka, Kb. -/
import Derived.Test.YtambkogocbgbmaaGreatM3
/- What a worker of the phase leaves: a row of values, each of which may hold one address. -/
namespace Go.Id
open Go.Conc Go.RowKit Go.Conc.Lib
open Go.ConcR (Payload)
open Go.ConcN (Has)
set_option linter.unusedVariables false
set_option linter.unusedSectionVars false
/-! ### values with one address at most -/
def blkOf : Value → Option Nat
  | .slice (some a) _ _ => some a.block
  | _ => none
def blks (l : List Value) : List Nat := l.filterMap blkOf
def vE1 (v : Value) : List Value := [v]
theorem vE1_len (v : Value) : (vE1 v).length = 1 := rfl
theorem flat_vE1 : ∀ l : List Value, l.flatMap vE1 = l
  | [] => rfl
  | v :: l => by rw [List.flatMap_cons, flat_vE1 l]; rfl
structure ElOk (El : Int → Value → Hp → Prop) : Prop where
  one : ∀ k v h, El k v h → cellsL v = [v] ∧ noTup v = true
  lt : ∀ k v h b, El k v h → blkOf v = some b → b < h.n
  keep : ∀ k v h h', El k v h → h.n ≤ h'.n → (∀ b, blkOf v = some b → h'.g b = h.g b) → El k v h'
  flat : ∀ k v h, El k v h → plainV v = true ∨ ∃ a n f cs sz e, v = .slice (some a) n f ∧ h.g a.block = .cells cs sz e ∧ ∀ u ∈ cs, plainV u = true
  move : ∀ k v h h' d, El k v h → (∀ b, blkOf v = some b → b + d < h'.n ∧ h'.g (b + d) = shO d (h.g b)) → El k (shV d v) h'
theorem ElOk.ext {El : Int → Value → Hp → Prop} (K : ElOk El) {k : Int} {v : Value} {h h' : Hp} (e : El k v h) (x : Ext h h') : El k v h' := K.keep k v h h' e x.n fun b hb => x.g b (K.lt k v h b e hb)
/-- Worker i's slice: cnt i values, from 'st i' on; what they point to lies in [p, q). -/
def RdW (El : Int → Value → Hp → Prop) (st : Nat → Int) (cnt : Nat → Nat) (i p q : Nat) (sl : Value) (h : Hp) : Prop :=
  ∃ o l, sl = gv o l.length ∧ Gx 0 h vE1 1 o l ∧ l.length = cnt i ∧ (∀ (j : Nat) (v : Value), l[j]? = some v → El (st i + j) v h) ∧ (blks l).Pairwise (· < ·) ∧ ∀ b ∈ blks l, p ≤ b ∧ b < q
theorem blkOf_sh (d : Nat) (v : Value) : blkOf (shV d v) = (blkOf v).map (· + d) := by
  cases v with
  | slice a n f => cases a <;> rfl
  | pointer a => cases a <;> rfl
  | _ => rfl
theorem blks_sh (d : Nat) : ∀ l : List Value, blks (l.map (shV d)) = (blks l).map (· + d)
  | [] => rfl
  | v :: l => by
    have ih := blks_sh d l
    unfold blks at ih ⊢
    rw [List.map_cons, List.filterMap_cons, List.filterMap_cons, blkOf_sh]
    cases blkOf v with
    | none => simpa using ih
    | some b => simp [ih]
theorem RdW.ok {El : Int → Value → Hp → Prop} (K : ElOk El) (st : Nat → Int) (cnt : Nat → Nat) : RdOk (RdW El st cnt) := by
  refine ⟨?_, ?_⟩
  · rintro i p q sl D d lo h h' C M hf ⟨o, l, rfl, g, h1, h2, h3, h4⟩
    match o, g with
    | none, g =>
      have g : l = [] := g
      subst g
      exact ⟨none, [], rfl, rfl, h1, fun j v hv => by simp at hv, by simp [blks], fun b hb => by simp [blks] at hb⟩
    | some (b, e), ⟨_, g2⟩ =>
      have hb : D b := hf
      obtain ⟨m1, m2⟩ := M.g b hb
      have hcell : ∀ v ∈ l, flatIn D v := by
        obtain ⟨cs, sz, e', c1, c2⟩ := C.cells b hb
        rw [g2.g, flat_vE1] at c1
        injection c1 with c1 _ _
        subst c1; exact c2
      refine ⟨some (b + d, e), l.map (shV d), by simp [gv, shV], ⟨Nat.zero_le _, m1, ?_⟩, by simpa using h1, fun j v hv => ?_, ?_, ?_⟩
      · rw [m2, g2.g, flat_vE1, flat_vE1]; rfl
      · rw [List.getElem?_map] at hv
        obtain ⟨u, hu, rfl⟩ := Option.map_eq_some_iff.1 hv
        refine K.move _ u h h' d (h2 j u hu) fun c hc => M.g c ?_
        have := hcell u (List.mem_of_getElem? hu)
        unfold blkOf at hc
        split at hc
        · cases hc; exact this
        · cases hc
      · rw [blks_sh, List.pairwise_map]
        exact h3.imp fun h => by omega
      · rw [blks_sh]
        intro c hc
        obtain ⟨c', hc', rfl⟩ := List.mem_map.1 hc
        have := h4 c' hc'; omega
  · rintro i p q sl h h' x ⟨o, l, rfl, g, h1, h2, h3, h4⟩
    exact ⟨o, l, rfl, g.ext x, h1, fun j v hv => K.ext (h2 j v hv) x, h3, h4⟩
/-! ### in the worker's round -/
structure WI (El : Int → Value → Hp → Prop) (st : Int) (h0 h : Hp) (o : Option (Nat × Nat)) (l : List Value) : Prop where
  g : Gx h0.n h vE1 1 o l
  el : ∀ (j : Nat) (v : Value), l[j]? = some v → El (st + j) v h
  pw : (blks l).Pairwise (· < ·)
  bl : ∀ b ∈ blks l, h0.n ≤ b ∧ b < h.n ∧ ¬ isB o b
  ext : Ext h0 h
theorem WI.nil {El : Int → Value → Hp → Prop} {st : Int} {h0 h : Hp} (x : Ext h0 h) : WI El st h0 h none [] := ⟨rfl, fun j v hv => by simp at hv, by simp [blks], fun b hb => by simp [blks] at hb, x⟩
theorem blks_app (l m : List Value) : blks (l ++ m) = blks l ++ blks m := List.filterMap_append
theorem WI.step {El : Int → Value → Hp → Prop} (K : ElOk El) {st : Int} {h0 h h1 : Hp} {o : Option (Nat × Nat)} {l : List Value} (W : WI El st h0 h o l) {v : Value} (hv : El (st + l.length) v h1) (x : Ext h h1) (hb : ∀ b, blkOf v = some b → h.n ≤ b) (hm : l.length + 1 ≤ Id.maxLen) :
    ∃ o' h', Ap h0.n (h1.push (.cells [v] 1 0)) 1 (gv o l.length) [v] 1 (gv o' (l ++ [v]).length) h' ∧ WI El st h0 h' o' (l ++ [v]) ∧ h.n ≤ h'.n ∧ ∀ b, b < h.n → ¬ isB o b → h'.g b = h.g b ∧ ¬ isB o' b := by
  have x2 : Ext h (h1.push (.cells [v] 1 0)) := x.trans (Ext.push _ _)
  have hn1 : (h1.push (.cells [v] 1 0)).n = h1.n + 1 := rfl
  obtain ⟨o', h', a1, a2, a3⟩ := (W.g.ext x2).apps (fun v => rfl) (by decide) [v] hm (Nat.le_trans W.ext.n x2.n)
  have hbl : ∀ b, blkOf v = some b → h.n ≤ b ∧ b < h1.n := fun b h => ⟨hb b h, K.lt _ _ _ _ hv h⟩
  have old : ∀ b, b < h.n → ¬ isB o b → h'.g b = h.g b := fun b hb hi => (a3.g b (Nat.lt_of_lt_of_le hb x2.n) hi).trans (x2.g b hb)
  have nb : ∀ b, h.n ≤ b → ¬ isB o b := fun b hb hi => by have := (W.g.lt hi).1; omega
  have nn : ∀ b, b < h1.n → ¬ isB o b → ¬ isB o' b := fun b hb hi hi' => (a3.b b hi').elim hi fun x => by rw [hn1] at x; omega
  have hle : h.n ≤ h'.n := Nat.le_trans x2.n a3.n
  have hvb : blks [v] = (blkOf v).toList := by unfold blks; cases hbv : blkOf v <;> simp [hbv]
  refine ⟨o', h', a1, ⟨a2, fun j u hu => ?_, ?_, fun b hb => ?_, ⟨Nat.le_trans W.ext.n hle, fun i hi => ?_⟩⟩, hle, fun b hb hi => ⟨old b hb hi, nn b (by have := x.n; omega) hi⟩⟩
  · rw [List.getElem?_append] at hu
    split at hu
    · have hel := W.el j u hu
      refine K.keep _ u h h' hel hle fun b hb => old b (K.lt _ _ _ _ hel hb) ?_
      refine (W.bl b ?_).2.2
      unfold blks
      exact List.mem_filterMap.2 ⟨u, List.mem_of_getElem? hu, hb⟩
    · rename_i hj
      obtain rfl : j = l.length := by
        have := (List.getElem?_eq_some_iff.1 hu).1
        simp at this; omega
      simp at hu; subst hu
      refine K.keep _ v h1 h' hv (by have := a3.n; rw [hn1] at this; omega) fun b hb => ?_
      obtain ⟨b1, b2⟩ := hbl b hb
      rw [a3.g b (by rw [hn1]; omega) (nb b b1)]
      simp [Hp.push]; omega
  · rw [blks_app, List.pairwise_append]
    refine ⟨W.pw, by rw [hvb]; cases blkOf v <;> simp, fun b hb c hc => ?_⟩
    rw [hvb] at hc
    have := (hbl c (by simpa using hc)).1
    have := (W.bl b hb).2.1
    omega
  · rw [blks_app, List.mem_append] at hb
    rcases hb with hb | hb
    · obtain ⟨b1, b2, b3⟩ := W.bl b hb
      exact ⟨b1, by omega, nn b (by have := x.n; omega) b3⟩
    · rw [hvb] at hb
      obtain ⟨b1, b2⟩ := hbl b (by simpa using hb)
      have := W.ext.n
      have := a3.n
      rw [hn1] at this
      exact ⟨by omega, by omega, nn b b2 (nb b b1)⟩
  · have hi' : i < h.n := Nat.lt_of_lt_of_le hi W.ext.n
    rw [old i hi' fun hb => by have := (W.g.lt hb).2; omega]
    exact W.ext.g i hi
theorem flatIn_plain {D : Nat → Prop} {v : Value} (h : plainV v = true) : flatIn D v := by
  unfold flatIn
  split
  · simp [plainV] at h
  · simp [plainV] at h
  · exact h
/-- What is told at the send. -/
theorem WI.left [Payload] {El : Int → Value → Hp → Prop} (K : ElOk El) {st : Nat → Int} {cnt : Nat → Nat} {i Wg : Nat} {h0 h : Hp} {o : Option (Nat × Nat)} {l : List Value} (W : WI El (st i) h0 h o l) (hl : l.length = cnt i) (hpos : l ≠ []) {fro : Nat → Prop} {s : Sim} {O : Nat → Prop} {w : World} {vr : Value}
    (S : SimOk fro h0.n s O h w) (hv : VR s (.agg #[.int .i64 i, gv o l.length]) vr) (hO : ∀ b, O b → Wg < b) : LeftBy fro h0.n Wg (RdW El st cnt) i vr O w ∧ ∃ C z, O C ∧ Has C 0 z w := by
  match o, W with
  | none, W => exact absurd W.g hpos
  | some (b, e), W =>
    obtain ⟨g1, g2⟩ := W.g
    constructor
    · refine ⟨hO, s, h, fun c => c = b ∨ c ∈ blks l, gv (some (b, e)) l.length, S, W.ext.n, ⟨fun c hc => ?_, fun c hc => ?_⟩, .inl rfl, hv, some (b, e), l, rfl, ⟨Nat.zero_le _, g2⟩, hl, W.el, W.pw, fun c hc => ⟨(W.bl c hc).1, (W.bl c hc).2.1⟩⟩
      · rcases hc with rfl | hc
        · exact ⟨g1, g2.lt⟩
        · exact ⟨(W.bl c hc).1, (W.bl c hc).2.1⟩
      · rcases hc with rfl | hc
        · refine ⟨_, _, _, g2.g, fun v hv => ?_⟩
          rw [flat_vE1] at hv
          obtain ⟨j, hj⟩ := List.mem_iff_getElem?.1 hv
          rcases K.flat _ _ _ (W.el j v hj) with hp | ⟨a, n, f, cs, sz, e', rfl, _, _⟩
          · exact flatIn_plain hp
          · exact .inr (List.mem_filterMap.2 ⟨_, hv, rfl⟩)
        · obtain ⟨v, hv, hb⟩ := List.mem_filterMap.1 hc
          obtain ⟨j, hj⟩ := List.mem_iff_getElem?.1 hv
          rcases K.flat _ _ _ (W.el j v hj) with hp | ⟨a, n, f, cs, sz, e', rfl, h1, h2⟩
          · unfold blkOf at hb
            split at hb
            · simp [plainV] at hp
            · cases hb
          · cases hb
            exact ⟨cs, sz, e', h1, fun u hu => flatIn_plain (h2 u hu)⟩
    · cases hv with
      | agg x y hs hh h1 =>
        have hlen : y.size = 2 := by rw [← hs]; rfl
        have h2 := hh 1 (gv (some (b, e)) l.length) y[1] (by rfl) (Array.getElem?_eq_getElem (by omega))
        generalize y[1] = z at h2
        cases h2 with
        | sl id off sp n fl a cap c ha he hx h0' hn =>
          obtain ⟨_, _, cs, sz, k1, ys, k2, k3⟩ := S.cells b c ha
          rw [g2.g, flat_vE1] at k1
          injection k1 with k1 _ _
          subst k1
          obtain ⟨o1, o2, _⟩ := S.own b c ha g1
          have hy : 0 < ys.length := by
            rw [← k2.1.1]
            rcases l with _ | ⟨a, l⟩
            · exact absurd rfl hpos
            · simp
          refine ⟨c.b, ys[0], o1, ?_⟩
          have := k3 0 ys[0] (List.getElem?_eq_getElem hy)
          rw [o2] at this
          exact this
end Go.Id
/- Contracts over the ideal memory: what four goroutines reckon together. -/
namespace Go.Proofs.YtambkogocbgbmaaGreat.Id
open Go.Id Go.Conc Go.Conc.Lib
open Go.Proofs
set_option linter.unusedVariables false
set_option maxRecDepth 100000
/-- The sights' first places, side by side; how many. -/
def stN (w hh : Nat) : Nat → Int
  | 0 => 0
  | 1 => w
  | 2 => w + hh
  | 3 => 2 * w + hh
  | _ => 2 * (w + hh)
def cnN (w hh : Nat) : Nat → Nat
  | 0 => w
  | 1 => hh
  | 2 => w
  | _ => hh
theorem stN_succ (w hh : Nat) {i : Nat} (hi : i < 4) : stN w hh (i + 1) = stN w hh i + cnN w hh i := by
  match i, hi with
  | 0, _ => simp [stN, cnN]
  | 1, _ => simp [stN, cnN]
  | 2, _ => simp only [stN, cnN]; omega
  | 3, _ => simp only [stN, cnN]; omega
theorem stN_le (w hh : Nat) (i : Nat) : 0 ≤ stN w hh i ∧ stN w hh i ≤ 2 * (w + hh) := by
  match i with
  | 0 | 1 | 2 | 3 | _ + 4 => simp only [stN]; omega
def startsL (w hh : Nat) : List Value := [.int .i64 0, .int .i64 w, .int .i64 (w + hh), .int .i64 (2 * w + hh), .int .i64 (2 * (w + hh))]
theorem starts_cell (w hh : Nat) {i : Nat} (hi : i < 5) : sub? (startsL w hh) (0 + i * 1) 1 = some [.int .i64 (stN w hh i)] := by
  match i, hi with
  | 0, _ => rfl
  | 1, _ => rfl
  | 2, _ => rfl
  | 3, _ => rfl
  | 4, _ => rfl
def restOf (fn : Func) : Code := match fn.body with | some (.seq _ r) => r | _ => .skip
def rowV (i : Nat) (sl : Value) : Value := .agg #[.int .i64 i, sl]
/-- What the function that is handed on must do. -/
def OfOk (P : Program) (El : Int → Value → Hp → Prop) (m : Int) (fOf : FuncId) (cp : List Value) (h0 : Hp) : Prop :=
  ∀ (fro : Nat → Prop) (lo : Nat) (k : Int) h, Ext h0 h → lo ≤ h.n → 0 ≤ k → k < m → Tri (treeCtx P false fro) lo fOf (.int .i64 k :: cp) h fun v h' => El k v h' ∧ Ext h h' ∧ ∀ b, blkOf v = some b → h.n ≤ b
theorem workerI_ok {El : Int → Value → Hp → Prop} (K : ElOk El) (w hh : Nat) (hw : 1 ≤ w ∧ w ≤ 5) (hh1 : 1 ≤ hh ∧ hh ≤ 5) {fOf : FuncId} {cp : List Value} {h0 : Hp} (Hof : OfOk Tryz.prog El (2 * ((w : Int) + hh)) fOf cp h0) {sb ob cb sd : Nat} {i : Nat} (hi : i < 4) {Wg Ch : Nat} {fro : Nat → Prop} {h : Hp} (x0 : Ext h0 h)
    (hs : Bx h0 sb (startsL w hh)) (ho : Bx h0 ob [.func (.func fOf) #[] cp.toArray]) (hc : Bx h0 cb [.chan (some Ch)]) (hsd : Bx h sd [.int .i64 i]) (hsh : ∀ k v h, El k v h → ∃ x, v = .int .i64 x) (Y : Ph) (hY : Y = ⟨Tryz.prog, link.tWg, Wg, Ch, fro, 4, LeftBy fro h0.n Wg (RdW El (stN w hh) (cnN w hh))⟩) :
    R (treeCtx Tryz.prog false fro) h0.n 78 Tryz.f78 (.mid [dcall link.done #[.pointer (some ⟨Wg, 0, none⟩)]] fun k t _ h => SendsAt Y h0.n i k t h) [.code (restOf Tryz.f78)]
      (capTm 0 [(true, .pointer (some ⟨Wg, 0, none⟩)), (false, .pointer (some ⟨sb, 0, none⟩)), (false, .pointer (some ⟨sd, 0, none⟩)), (false, .pointer (some ⟨ob, 0, none⟩)), (false, .pointer (some ⟨cb, 0, none⟩))]) [] h := by
  refine more tbOk mtOk ⟨[], []⟩ 400 ?_
  refine ⟨_, hsd.ld rfl, ?_⟩
  refine And.intro ⟨by omega, by omega⟩ ?_
  have hst : ∀ {h' : Hp}, Ext h0 h' → ∀ {j : Nat}, j < 5 → Ld h' (addA ⟨sb, 0, none⟩ (j * 1)) 1 [.int .i64 (stN w hh j)] := fun e j hj => (hs.ext e).ldF (by have := starts_cell w hh hj; rwa [Nat.zero_add] at this)
  refine ⟨_, hst x0 (by omega), ?_⟩
  have b1 := stN_le w hh i
  have b2 := stN_le w hh (i + 1)
  have b3 := stN_succ w hh hi
  have hsdb : ¬ isB none sd := fun ⟨_, h⟩ => by cases h
  refine loop (σ := Option (Nat × Nat) × List Value) tbOk mtOk ⟨[], []⟩ (fun s => [(5, .v (gv s.1 s.2.length)), (6, .v (.int .i64 (stN w hh i + s.2.length))), (1, .v (.pointer (some ⟨sb, 0, none⟩))), (2, .v (.pointer (some ⟨sd, 0, none⟩))), (3, .v (.pointer (some ⟨ob, 0, none⟩))), (4, .v (.pointer (some ⟨cb, 0, none⟩)))]) (fun _ => [])
    (fun s h' => WI El (stN w hh i) h0 h' s.1 s.2 ∧ Bx h' sd [.int .i64 i] ∧ ¬ isB s.1 sd ∧ s.2.length ≤ cnN w hh i) (fun s => cnN w hh i - s.2.length) 11 (none, []) (fun _ => rfl) ⟨rfl, ?_, rfl, rfl, rfl, rfl, trivial⟩ trivial ⟨WI.nil x0, hsd, hsdb, Nat.zero_le _⟩ (fun s h' hI again => ?_)
  · show some (Sl.v (.int .i64 (stN w hh i))) = some (Sl.v (.int .i64 (stN w hh i + ((0 : Nat) : Int))))
    simp
  obtain ⟨o, l⟩ := s
  obtain ⟨i1, i2, i3, i4⟩ := hI
  have i4 : l.length ≤ cnN w hh i := i4
  refine ⟨_, i2.ld rfl, ?_⟩
  have hw1 : IntKind.i64.wrap ((i : Int) + 1) = ((i + 1 : Nat) : Int) := wr (by omega) (by omega)
  have ld1 : Ld h' (addA ⟨sb, 0, none⟩ ((IntKind.i64.wrap ((i : Int) + 1)).toNat * 1)) 1 [.int .i64 (stN w hh (i + 1))] := by rw [hw1]; exact hst i1.ext (by omega)
  refine And.intro ⟨by rw [hw1]; omega, by rw [hw1]; omega⟩ ?_
  refine ⟨_, ld1, ?_⟩
  refine cnd (fun c1 => ?_) (fun c1 => ?_)
  · have c1 : stN w hh i + (l.length : Int) < stN w hh (i + 1) := by simpa using c1
    refine more tbOk mtOk ⟨[], []⟩ 400 ?_
    refine ⟨_, (ho.ext i1.ext).ld rfl, ?_⟩
    refine callP (Hof fro h0.n (stN w hh i + (l.length : Int)) h' i1.ext i1.ext.n (by omega) (by omega)) ?_
    rintro v h1 ⟨hv, e1, nb⟩
    obtain ⟨x, rfl⟩ := hsh _ _ _ hv
    obtain ⟨o', h2, a1, W', hn', old⟩ := i1.step K hv e1 nb (by unfold Id.maxLen; omega)
    refine ⟨_, one_cells rfl, _, _, a1, ?_⟩
    refine again (o', l ++ [Value.int .i64 x]) _ _ _ ?_ ⟨rfl, ?_, rfl, rfl, rfl, rfl, trivial⟩ trivial ⟨W', ⟨Nat.lt_of_lt_of_le i2.lt hn', by rw [(old sd i2.lt i3).1]; exact i2.g⟩, (old sd i2.lt i3).2, ?_⟩
    · show cnN w hh i - (l ++ [Value.int .i64 x]).length < cnN w hh i - l.length
      rw [List.length_append, List.length_singleton]; omega
    · show some (Sl.v (.int .i64 (IntKind.i64.wrap (stN w hh i + (l.length : Int) + 1)))) = some (Sl.v (.int .i64 (stN w hh i + ((l ++ [Value.int .i64 x]).length : Int))))
      rw [List.length_append, List.length_singleton, wr (by omega) (by omega)]
      simp; omega
    · show (l ++ [Value.int .i64 x]).length ≤ cnN w hh i
      rw [List.length_append, List.length_singleton]; omega
  · have c1 : ¬ stN w hh i + (l.length : Int) < stN w hh (i + 1) := by simpa using c1
    have hl : l.length = cnN w hh i := by omega
    have hpos : l ≠ [] := by
      rintro rfl
      have : 1 ≤ cnN w hh i := by unfold cnN; split <;> omega
      simp at hl; omega
    obtain ⟨b, e, rfl⟩ : ∃ b e, o = some (b, e) := by
      match o, i1 with
      | none, i1 => exact absurd i1.g hpos
      | some (b, e), _ => exact ⟨b, e, rfl⟩
    refine more tbOk mtOk ⟨[], []⟩ 6 ?_
    refine ⟨_, (hc.ext i1.ext).ld rfl, ?_⟩
    refine ⟨_, i2.ld rfl, ?_⟩
    subst hY
    refine R_mid ⟨⟨_, _, _, _, _, rowV i (gv (some (b, e)) l.length), rfl, rfl, rfl, rfl, rfl, rfl, rfl, fun s O w vr S hv hO => ?_⟩⟩
    exact i1.left K hl hpos S hv hO
/-! ### the starter -/
def tlC : Nat → Code → Code
  | 0, c => c
  | n + 1, .seq _ r => tlC n r
  | _, _ => .skip
def hdC : Code → Code
  | .seq a _ => a
  | _ => .skip
def bodyC (fn : Func) : Code := match fn.body with | some c => c | none => .skip
def opsC : Code → Array Oper
  | .region _ ops _ => ops
  | _ => #[]
def loopC : Code → Code
  | .seq _ (.block _ (.loop c)) => c
  | _ => .skip
noncomputable def fI : Func := Tryz.f38
/-- What the starter knows. -/
def stTm (Wg sb ob cb : Nat) (i : Int) : Tm := [(17, .v (.int .i64 i)), (7, .r (.pointer (some ⟨Wg, 0, none⟩))), (5, .v (.pointer (some ⟨sb, 0, none⟩))), (3, .v (.pointer (some ⟨ob, 0, none⟩))), (6, .v (.pointer (some ⟨cb, 0, none⟩)))]
noncomputable def kWaitI : List Item := [.inRegion (opsC (hdC (tlC 5 (bodyC fI)))) [], .code (tlC 6 (bodyC fI))]
theorem look1 {i j : Nat} {x y : Sl} (h : Id.look [(i, y)] j = some x) : j = i ∧ x = y := by
  simp only [Id.look] at h
  split at h
  · cases h; exact ⟨by omega, rfl⟩
  · cases h
def allS (D : Nat → Prop) : Tm → Prop
  | [] => True
  | (_, x) :: r => slIn D x ∧ allS D r
theorem allS_ok {D : Nat → Prop} : ∀ {t : Tm}, allS D t → ∀ j x, Id.look t j = some x → slIn D x
  | [], _, j, x, h => by cases h
  | (i, y) :: r, ha, j, x, h => by
    simp only [Id.look] at h
    split at h
    · cases h; exact ha.1
    · exact allS_ok ha.2 j x h
def allP (p : Sl → Prop) : Tm → Prop
  | [] => True
  | (_, x) :: r => p x ∧ allP p r
theorem allP_ok {p : Sl → Prop} : ∀ {t : Tm}, allP p t → ∀ j x, Id.look t j = some x → p x
  | [], _, j, x, h => by cases h
  | (i, y) :: r, ha, j, x, h => by
    simp only [Id.look] at h
    split at h
    · cases h; exact ha.1
    · exact allP_ok ha.2 j x h
theorem OfOk.mono {P : Program} {El : Int → Value → Hp → Prop} {m : Int} {fOf : FuncId} {cp : List Value} {h0 h1 : Hp} (H : OfOk P El m fOf cp h0) (e : Ext h0 h1) : OfOk P El m fOf cp h1 := fun fro lo k h x => H fro lo k h (e.trans x)
theorem carry_list {D : Nat → Prop} {t t' : Tm} (hk : keeps t' t) (ha : allS D t') : Carry D t t' := fun j x hx => ⟨keeps_sub hk j x hx, allS_ok ha j x hx⟩
theorem startI_ok {El : Int → Value → Hp → Prop} (K : ElOk El) (w hh : Nat) (hw : 1 ≤ w ∧ w ≤ 5) (hh1 : 1 ≤ hh ∧ hh ≤ 5) {fOf : FuncId} {cp : List Value} {h0 : Hp} (Hof : OfOk Tryz.prog El (2 * ((w : Int) + hh)) fOf cp h0) {sb ob cb : Nat} {Wg Ch : Nat} {fro : Nat → Prop} {s0 : Sim}
    (hs : Bx h0 sb (startsL w hh)) (ho : Bx h0 ob [.func (.func fOf) #[] cp.toArray]) (hc : Bx h0 cb [.chan (some Ch)]) (hsh : ∀ k v h, El k v h → ∃ x, v = .int .i64 x) (Y : Ph) (hY : Y = ⟨Tryz.prog, link.tWg, Wg, Ch, fro, 4, LeftBy fro h0.n Wg (RdW El (stN w hh) (cnN w hh))⟩)
    (hin : ∀ b, b = sb ∨ b = ob ∨ b = cb → s0.adr b ≠ none) :
    ∀ r i : Nat, i + r = 4 → ∀ t, keeps (stTm Wg sb ob cb i) t → R (treeCtx Tryz.prog true fro) h0.n 38 fI (.mid [] (SpFrom Y link h0.n s0 h0 38 fI [(6, .v (.pointer (some ⟨cb, 0, none⟩)))] kWaitI r))
      (.code (loopC (hdC (tlC 4 (bodyC fI)))) :: .inLoop (loopC (hdC (tlC 4 (bodyC fI)))) :: .inBlock 0 :: [.code (tlC 5 (bodyC fI))]) t [] h0 := by
  intro r
  induction r with
  | zero =>
    intro i hi t ht
    refine R_trim (ls' := []) ht rfl trivial ?_
    obtain rfl : i = 4 := by omega
    refine more tbOk mtOk ⟨[3,5,6,8], []⟩ 7 ?_
    refine cndF ?_
    refine more tbOk mtOk ⟨[3,5,6,8], []⟩ 2 ?_
    subst hY
    refine R_mid ⟨fun j hj => rfl, ⟨_, 0, [], _, _, _, _, rfl, rfl, rfl, rfl, rfl, rfl, fun j x hx => ?_, rfl⟩⟩
    obtain ⟨rfl, rfl⟩ := look1 hx
    exact ⟨rfl, hc.lt, hin cb (.inr (.inr rfl))⟩
  | succ r ih =>
    intro i hi t ht
    refine R_trim (ls' := []) ht rfl trivial ?_
    refine more tbOk mtOk ⟨[3,5,6,8], []⟩ 7 ?_
    refine cnd (fun c1 => ?_) (fun c1 => absurd c1 (by simp; omega))
    refine more tbOk mtOk ⟨[3,5,6,8], []⟩ 10 ?_
    have hb0 : Bx (h0.push (.cells [.int .i64 0] 0 0)) h0.n [.int .i64 0] := Bx.push
    refine ⟨_, hb0.st (Nat.le_refl _) rfl, ?_⟩
    subst hY
    refine R_mid ⟨_, 0, [], _, _, _, _, rfl, rfl, rfl, rfl, rfl, rfl, ?_⟩
    refine more tbOk mtOk ⟨[3,5,6,8], []⟩ 3 ?_
    have hi4 : i < 4 := by omega
    have h5 : 4 - (r + 1) = i := by omega
    refine R_mid ⟨fun j hj => ?_, ⟨_, 1, [], _, _, _, _, _, _, stTm Wg sb ob cb i, rfl, rfl, rfl, rfl, rfl, rfl, ⟨_, rfl⟩, ⟨⟨_, _, _, _, _, h0.n, [.int .i64 i], 0, 0, .nilFunc, 0, none, Tryz.func78, rfl, rfl, rfl, rfl, rfl, rfl, rfl, Nat.le_of_ble_eq_true rfl, ?_, Nat.le_refl _, ?_, ?_, ?_, ?_⟩⟩, carry_list ⟨rfl, rfl, rfl, rfl, rfl, trivial⟩ ?_, ?_⟩⟩
    · simp [Hp.set, Hp.push, Nat.ne_of_lt hj]
    · intro v hv
      have q1 := hin sb (.inl rfl)
      have q2 := hin ob (.inr (.inl rfl))
      have q3 := hin cb (.inr (.inr rfl))
      simp only [List.mem_cons, Prod.mk.injEq, Bool.false_eq_true, false_and, false_or, true_and, List.not_mem_nil, or_false] at hv
      rcases hv with rfl | rfl | rfl | rfl
      · exact .inl ⟨hs.lt, q1⟩
      · exact .inr rfl
      · exact .inl ⟨ho.lt, q2⟩
      · exact .inl ⟨hc.lt, q3⟩
    · simp [Hp.set, Hp.push, cellsL]
    · intro v hv; simp at hv; subst hv; rfl
    · simp
    · show R _ _ _ _ (.mid _ fun k t _ h => SendsAt _ h0.n (4 - (r + 1)) k t h) _ _ _ _
      rw [h5]
      exact workerI_ok K w hh hw hh1 Hof hi4 ⟨by simp [Hp.set, Hp.push], fun j hj => by simp [Hp.set, Hp.push, Nat.ne_of_lt hj]⟩ hs ho hc (Bx.set hb0) hsh _ rfl
    · exact ⟨rfl, trivial, ⟨hs.lt, hin sb (.inl rfl)⟩, ⟨ho.lt, hin ob (.inr (.inl rfl))⟩, ⟨hc.lt, hin cb (.inr (.inr rfl))⟩, trivial⟩
    · refine more tbOk mtOk ⟨[3,5,6,8], []⟩ 100 ?_
      refine R_inLoop (ih (i + 1) (by omega) _ ⟨?_, rfl, rfl, rfl, rfl, trivial⟩)
      show some (Sl.v (.int .i64 (IntKind.i64.wrap ((i : Int) + 1)))) = _
      rw [wr (by omega) (by omega)]; rfl
/-! ### the whole -/
theorem ex_fun {α : Type} {n : Nat} {p : Nat → α → Prop} (d : α) (h : ∀ i, i < n → ∃ a, p i a) : ∃ f : Nat → α, ∀ i, i < n → p i (f i) := by
  classical
  exact ⟨fun i => if h' : i < n then (h i h').choose else d, fun i hi => by simp only [dif_pos hi]; exact (h i hi).choose_spec⟩
noncomputable def recvC : Code := loopC (hdC (tlC 8 (bodyC fI)))
theorem pick4 (s : Nat → Value) {j : Nat} (hj : j < 4) : sub? [s 0, s 1, s 2, s 3] ((j : Int).toNat * 1) 1 = some [s j] := by
  match j, hj with
  | 0, _ => rfl
  | 1, _ => rfl
  | 2, _ => rfl
  | 3, _ => rfl
variable {N0 : Nat → Prop}
theorem len4 {A : List Value} (h : A.length = 4) : ∃ a0 a1 a2 a3, A = [a0, a1, a2, a3] := by
  match A, h with
  | [a0, a1, a2, a3], _ => exact ⟨a0, a1, a2, a3, rfl⟩
theorem roundI_ok {lo : Nat} {Ch : Nat} {h : Hp} {K : List Item → Tm → Lv → Hp → Prop} {i n fl : Nat} {ad : Option Addr} {A : List Value} (hi : i < 4) (hA : A.length = 4)
    (hK : ∀ t ls, keeps [(25, .v (.chan (some Ch))), (9, .l 0 0)] t → pre [A.set i (.slice ad n fl)] ls → K (.code recvC :: .inLoop recvC :: .inBlock 2 :: [.code (tlC 9 (bodyC fI))]) t ls h) :
    R (mainCtx Tryz.prog N0) lo 38 fI (.mid [] K) (.inRegion (opsC (hdC recvC)) [1] :: .code (tlC 1 recvC) :: .inLoop recvC :: .inBlock 2 :: [.code (tlC 9 (bodyC fI))]) (Tm.put [(25, .v (.chan (some Ch))), (9, .l 0 0)] (some 26) (.v (.tuple #[.agg #[.int .i64 i, .slice ad n fl], .bool true]))) [A] h := by
  obtain ⟨a0, a1, a2, a3, rfl⟩ := len4 hA
  refine more tbOk mtOk ⟨[3,5,6,8], []⟩ 100 ?_
  refine cndT ?_
  match i, hi with
  | 0, _ | 1, _ | 2, _ | 3, _ => exact And.intro ⟨by decide, by decide⟩ (R_inLoop (R_mid (hK _ _ ⟨rfl, rfl, trivial⟩ ⟨rfl, trivial⟩)))
theorem recvI_ok {lo : Nat} {Post : Value → Hp → Prop} {Ch : Nat} {h : Hp} {sl : Nat → Value} (hsl : ∀ i, i < 4 → ∃ a n f, sl i = .slice a n f)
    (hfin : ∀ t ls, keeps [(9, .l 0 0)] t → pre [[sl 0, sl 1, sl 2, sl 3]] ls → R (mainCtx Tryz.prog N0) lo 38 fI (.ret Post) [.code (tlC 9 (bodyC fI))] t ls h) :
    ∀ (L : List Nat) (A : List Value) t ls, A.length = 4 → (∀ i ∈ L, i < 4) → (∀ j : Nat, j < 4 → j ∉ L → A[j]? = some (sl j)) → keeps [(25, .v (.chan (some Ch))), (9, .l 0 0)] t → pre [A] ls →
      RC Tryz.prog N0 lo 38 fI (.ret Post) Ch 4 (L.map fun (i : Nat) => Value.agg #[.int .i64 i, sl i]) true (.code recvC :: .inLoop recvC :: .inBlock 2 :: [.code (tlC 9 (bodyC fI))]) t ls h := by
  intro L
  induction L with
  | nil =>
    intro A t ls hA4 _ hA ht hl
    obtain ⟨a0, a1, a2, a3, rfl⟩ := len4 hA4
    obtain rfl : a0 = sl 0 := by simpa using hA 0 (by decide) (by simp)
    obtain rfl : a1 = sl 1 := by simpa using hA 1 (by decide) (by simp)
    obtain rfl : a2 = sl 2 := by simpa using hA 2 (by decide) (by simp)
    obtain rfl : a3 = sl 3 := by simpa using hA 3 (by decide) (by simp)
    refine RC.trim ht rfl hl ?_
    refine RC.seg (K := fun k t ls h' => k = .inRegion (opsC (hdC recvC)) [0, 1] :: .code (tlC 1 recvC) :: .inLoop recvC :: .inBlock 2 :: [.code (tlC 9 (bodyC fI))] ∧ t = [(25, .v (.chan (some Ch))), (9, .l 0 0)] ∧ ls = [[sl 0, sl 1, sl 2, sl 3]] ∧ h = h') rfl (more tbOk mtOk ⟨[3,5,6,8], []⟩ 2 (R_mid ⟨rfl, rfl, rfl, rfl⟩)) ?_
    rintro _ _ _ _ ⟨rfl, rfl, rfl, rfl⟩
    refine RC.recvEnd rfl rfl rfl Tryz.underlying91 (tbOk.ok 104 _ rfl) rfl rfl fun z => ?_
    refine more tbOk mtOk ⟨[3,5,6,8], []⟩ 5 ?_
    refine cndF ?_
    exact hfin _ _ ⟨rfl, trivial⟩ ⟨rfl, trivial⟩
  | cons i L ih =>
    intro A t ls hA4 hL hA ht hl
    obtain ⟨ad, n, fl, he⟩ := hsl i (hL i (by simp))
    refine RC.trim ht rfl hl ?_
    refine RC.seg (K := fun k t ls h' => k = .inRegion (opsC (hdC recvC)) [0, 1] :: .code (tlC 1 recvC) :: .inLoop recvC :: .inBlock 2 :: [.code (tlC 9 (bodyC fI))] ∧ t = [(25, .v (.chan (some Ch))), (9, .l 0 0)] ∧ ls = [A] ∧ h = h') rfl (more tbOk mtOk ⟨[3,5,6,8], []⟩ 2 (R_mid ⟨rfl, rfl, rfl, rfl⟩)) ?_
    rintro _ _ _ _ ⟨rfl, rfl, rfl, rfl⟩
    rw [List.map_cons]
    refine RC.recv rfl rfl rfl Tryz.underlying91 (tbOk.ok 104 _ rfl) rfl rfl ?_
    rw [he]
    refine RC.seg (K := fun k t ls h' => k = .code recvC :: .inLoop recvC :: .inBlock 2 :: [.code (tlC 9 (bodyC fI))] ∧ keeps [(25, .v (.chan (some Ch))), (9, .l 0 0)] t ∧ pre [A.set i (.slice ad n fl)] ls ∧ h = h') rfl ?_ ?_
    · exact roundI_ok (hL i (by simp)) hA4 fun t ls h1 h2 => ⟨rfl, h1, h2, rfl⟩
    · rintro _ _ _ _ ⟨rfl, h1, h2, rfl⟩
      refine ih _ _ _ (by rw [List.length_set]; exact hA4) (fun j hj => hL j (by simp [hj])) (fun j hj hj' => ?_) h1 h2
      rw [List.getElem?_set]
      by_cases hij : i = j
      · subst hij; rw [if_pos rfl, if_pos (by omega)]; exact congrArg some he.symm
      · rw [if_neg hij]; exact hA j hj (by simp [Ne.symm hij, hj'])
def catN (l : Nat → List Value) (j : Nat) : List Value := (List.range j).flatMap l
theorem catN_succ (l : Nat → List Value) (j : Nat) : catN l (j + 1) = catN l j ++ l j := by simp [catN, List.range_succ]
/-- What it yields. -/
def SidesPost (El : Int → Value → Hp → Prop) (lo : Nat) (m : Int) (h : Hp) (v : Value) (h' : Hp) : Prop :=
  ∃ o L, v = gv o L.length ∧ Gx lo h' vE1 1 o L ∧ (L.length : Int) = m ∧ (∀ (j : Nat) (x : Value), L[j]? = some x → El j x h') ∧ (blks L).Pairwise (· < ·) ∧ (∀ b ∈ blks L, h.n ≤ b ∧ b < h'.n ∧ ¬ isB o b) ∧ (∀ b, isB o b → h.n ≤ b) ∧ Ext h h'
/-- Behind the receives: all slices one behind the other. -/
theorem tailI_ok {El : Int → Value → Hp → Prop} (K : ElOk El) {lo w hh : Nat} (hw : 1 ≤ w ∧ w ≤ 5) (hh1 : 1 ≤ hh ∧ hh ≤ 5) {hb h0 h : Hp} (x0 : Ext hb h0) (x1 : Ext h0 h) (hlo : lo ≤ hb.n) {sl : Nat → Value} {c : Nat → Nat} (c0 : c 0 = h0.n) (c1 : ∀ i, i < 4 → c i ≤ c (i + 1)) (c4 : c 4 = h.n) (hrd : ∀ i, i < 4 → RdW El (stN w hh) (cnN w hh) i (c i) (c (i + 1)) (sl i) h) {t : Tm} {ls : Lv}
    (ht : keeps [(9, .l 0 0)] t) (hl : pre [[sl 0, sl 1, sl 2, sl 3]] ls) : R (mainCtx Tryz.prog N0) lo 38 fI (.ret (SidesPost El lo (2 * ((w : Int) + hh)) hb)) [.code (tlC 9 (bodyC fI))] t ls h := by
  obtain ⟨p, hp⟩ := ex_fun (none, []) (p := fun i (p : Option (Nat × Nat) × List Value) => sl i = gv p.1 p.2.length ∧ Gx 0 h vE1 1 p.1 p.2 ∧ p.2.length = cnN w hh i ∧ (∀ (j : Nat) (v : Value), p.2[j]? = some v → El (stN w hh i + j) v h) ∧ (blks p.2).Pairwise (· < ·) ∧ ∀ b ∈ blks p.2, c i ≤ b ∧ b < c (i + 1)) fun i hi => by
    obtain ⟨o, l, h1, h2⟩ := hrd i hi
    exact ⟨(o, l), h1, h2⟩
  refine R_trim ht rfl hl ?_
  refine more tbOk mtOk ⟨[3,5,6,8], []⟩ 100 ?_
  refine loop (σ := Nat × Option (Nat × Nat) × List Value) tbOk mtOk ⟨[3,5,6,8], []⟩ (fun s => [(35, .v (.int .i64 (s.1 : Int))), (34, .v (.agg #[sl 0, sl 1, sl 2, sl 3])), (11, .v (gv s.2.1 s.2.2.length))]) (fun _ => [])
    (fun s h' => s.1 ≤ 4 ∧ Ext h h' ∧ Gx lo h' vE1 1 s.2.1 s.2.2 ∧ (∀ b, isB s.2.1 b → h.n ≤ b) ∧ (s.2.2.length : Int) = stN w hh s.1 ∧ (∀ (j : Nat) (v : Value), s.2.2[j]? = some v → El j v h) ∧ (blks s.2.2).Pairwise (· < ·) ∧ ∀ b ∈ blks s.2.2, c 0 ≤ b ∧ b < c s.1) (fun s => 4 - s.1) 100 (0, none, []) (fun _ => rfl) ⟨rfl, rfl, rfl, trivial⟩ trivial
    ⟨by decide, Ext.refl h, rfl, (fun b hb => by obtain ⟨e, hh⟩ := hb; cases hh), rfl, (fun j v hv => by simp at hv), (by simp [blks]), (fun b hb => by simp [blks] at hb)⟩ (fun s h' hI again => ?_)
  obtain ⟨j, o, A⟩ := s
  obtain ⟨i1, i2, i3, i4, i5, i6, i7, i8⟩ := hI
  have i5 : (A.length : Int) = stN w hh j := i5
  refine cnd (fun d1 => ?_) (fun d1 => ?_)
  · have d1 : j < 4 := by have := of_decide_eq_true d1; exact Int.ofNat_lt.1 this
    refine And.intro ⟨Int.natCast_nonneg j, Int.ofNat_lt.2 d1⟩ ?_
    obtain ⟨q1, q2, q3, q4, q5, q6⟩ := hp j d1
    obtain ⟨ad, n, fl, he⟩ : ∃ ad n fl, sl j = .slice ad n fl := by
      rw [q1]; cases (p j).1 with
      | none => exact ⟨_, _, _, rfl⟩
      | some b => exact ⟨_, _, _, rfl⟩
    refine ⟨[.slice ad n fl], by rw [← he]; exact pick4 sl d1, ?_⟩
    have hn : n = (p j).2.length := by
      have q1' := q1.symm.trans he
      generalize (p j).1 = o1 at q1' q2
      match o1, q2 with
      | none, q2 =>
        have q2 : (p j).2 = [] := q2
        rw [q2]; injection q1' with _ e _; exact e.symm
      | some b, q2 => injection q1' with _ e _; exact e.symm
    subst hn
    have hcl : SlCells h' (.slice ad (p j).2.length fl) 1 (p j).2 := by
      have := (q2.ext i2).cells vE1_len
      rwa [flat_vE1, ← q1, he] at this
    have b1 := stN_succ w hh d1
    have b2 := stN_le w hh (j + 1)
    have b3 := c1 j d1
    have hlen : ((A ++ (p j).2).length : Int) = stN w hh (j + 1) := by rw [List.length_append, b1, ← i5, q3]; simp
    have hl40 : A.length + (p j).2.length ≤ 40 := by
      have e1 : ((A.length + (p j).2.length : Nat) : Int) = stN w hh (j + 1) := by rw [← List.length_append]; exact hlen
      omega
    obtain ⟨o', h2, a1, a2, a3⟩ := i3.apps vE1_len (by decide) (p j).2 (Nat.le_trans hl40 (by unfold Id.maxLen; decide)) (by have := x0.n; have := x1.n; have := i2.n; omega)
    rw [flat_vE1] at a1
    refine ⟨_, hcl, _, _, a1, ?_⟩
    have hcn : ∀ i, i ≤ 4 → c i ≤ h.n ∧ h0.n ≤ c i := by
      have e1 := c1 0 (by decide); have e2 := c1 1 (by decide); have e3 := c1 2 (by decide); have e4 := c1 3 (by decide)
      intro i hi
      match i, hi with
      | 0, _ | 1, _ | 2, _ | 3, _ | 4, _ => simp only [Nat.zero_add, Nat.reduceAdd] at e1 e2 e3 e4; omega
    refine again (j + 1, o', A ++ (p j).2) _ _ _ (by show 4 - (j + 1) < 4 - j; omega) ⟨?_, rfl, rfl, trivial⟩ trivial ⟨by show j + 1 ≤ 4; omega, ⟨Nat.le_trans i2.n a3.n, fun i hi => ?_⟩, a2, fun b hb => ?_, hlen, fun k v hv => ?_, ?_, fun b hb => ?_⟩
    · show some (Sl.v (.int .i64 (IntKind.i64.wrap ((j : Int) + 1)))) = _
      rw [wr (by omega) (by omega)]; rfl
    · rw [a3.g i (Nat.lt_of_lt_of_le hi i2.n) fun hb => by have := i4 i hb; omega]; exact i2.g i hi
    · rcases a3.b b hb with hb | hb
      · exact i4 b hb
      · exact Nat.le_trans i2.n hb
    · have hv : (A ++ (p j).2)[k]? = some v := hv
      rw [List.getElem?_append] at hv
      split at hv
      · exact i6 k v hv
      · have := q4 (k - A.length) v hv
        have e : stN w hh j + ((k - A.length : Nat) : Int) = (k : Int) := by rw [← i5]; show (A.length : Int) + _ = _; omega
        rw [e] at this
        exact this
    · show (blks (A ++ (p j).2)).Pairwise (· < ·)
      rw [blks_app, List.pairwise_append]
      exact ⟨i7, q5, fun b hb d hd => by have := (i8 b hb).2; have := (q6 d hd).1; simp only at *; omega⟩
    · have hb : b ∈ blks (A ++ (p j).2) := hb
      rw [blks_app, List.mem_append] at hb
      rcases hb with hb | hb
      · have := i8 b hb; simp only at *; omega
      · have := q6 b hb; have := hcn j (by omega); simp only at *; omega
  · have d1 : j = 4 := by
      have := of_decide_eq_false d1
      have i1 : j ≤ 4 := i1
      have : ¬ j < 4 := fun h => this (Int.ofNat_lt.2 h)
      omega
    subst d1
    refine ⟨o, A, rfl, i3, i5, fun k v hv => K.ext (i6 k v hv) i2, i7, fun b hb => ?_, fun b hb => ?_, (x0.trans x1).trans i2⟩
    · have := i8 b hb
      have := x0.n; have := x1.n; have := i2.n
      simp only at *
      exact ⟨by omega, by omega, fun hi => by have := i4 b hi; omega⟩
    · have := i4 b hb; have := x0.n; have := x1.n; omega
theorem sidesI_ok {El : Int → Value → Hp → Prop} (K : ElOk El) {lo : Nat} (w hh : Nat) (hw : 1 ≤ w ∧ w ≤ 5) (hh1 : 1 ≤ hh ∧ hh ≤ 5) (a : Option Addr) (n fl : Nat) (hn : (n : Int) = (w : Int) * hh) {fOf : FuncId} {cp : List Value} {h : Hp} (Hof : OfOk Tryz.prog El (2 * ((w : Int) + hh)) fOf cp h) (hsh : ∀ k v h, El k v h → ∃ x, v = .int .i64 x) :
    Tri (mainCtx Tryz.prog N0) lo 38 [.agg #[.int .i64 (w : Int), .slice a n fl], .func (.func fOf) #[] cp.toArray] h (SidesPost El lo (2 * ((w : Int) + hh)) h) := by
  refine enter tbOk mtOk ⟨[3,5,6,8], []⟩ 15 Tryz.func38 rfl rfl rfl fun hlo => ?_
  have ho : Bx (h.push (.cells [.func (.func fOf) #[] cp.toArray] 0 0)) h.n [.func (.func fOf) #[] cp.toArray] := Bx.push
  refine callP (sideStarts_ok w hh a n fl _ hw hh1 hn) ?_
  rintro v h1 ⟨rfl, e1⟩
  have hs0 : Bx (h1.push (.cells [.int .i64 0, .int .i64 0, .int .i64 0, .int .i64 0, .int .i64 0] 0 0)) h1.n [.int .i64 0, .int .i64 0, .int .i64 0, .int .i64 0, .int .i64 0] := Bx.push
  have e0 : Ext h h1 := (Ext.push h _).trans e1
  refine ⟨_, hs0.st (xs := startsL w hh) (Nat.le_trans hlo e0.n) rfl, ?_⟩
  have hs2 := hs0.set (xs := startsL w hh)
  have ho2 := ((ho.ext e1).ext (Ext.push h1 (.cells [.int .i64 0, .int .i64 0, .int .i64 0, .int .i64 0, .int .i64 0] 0 0))).off (o := .cells (startsL w hh) 0 0) (Nat.ne_of_lt (ho.ext e1).lt)
  have e2 := (e0.trans (Ext.push h1 (.cells [.int .i64 0, .int .i64 0, .int .i64 0, .int .i64 0, .int .i64 0] 0 0))).set e0.n (.cells (startsL w hh) 0 0)
  generalize Hp.set _ _ _ = h2 at *
  refine R_makeChan rfl rfl rfl Tryz.underlying91 (tbOk.ok 104 _ rfl) (by decide) rfl fun Ch => ?_
  refine RC.trim (t' := [(16, .v (.chan (some Ch))), (5, .v (.pointer (some ⟨h1.n, 0, none⟩))), (3, .v (.pointer (some ⟨h.n, 0, none⟩)))]) (ls' := []) ⟨rfl, rfl, rfl, trivial⟩ rfl trivial ?_
  have hc0 : Bx (h2.push (.cells [.chan none] 0 0)) h2.n [.chan none] := Bx.push
  have hc3 := hc0.set (xs := [.chan (some Ch)])
  have hs3 := (hs2.ext (Ext.push h2 (.cells [.chan none] 0 0))).off (o := .cells [.chan (some Ch)] 0 0) (Nat.ne_of_lt hs2.lt)
  have ho3 := (ho2.ext (Ext.push h2 (.cells [.chan none] 0 0))).off (o := .cells [.chan (some Ch)] 0 0) (Nat.ne_of_lt ho2.lt)
  have e3 := (e2.trans (Ext.push h2 (.cells [.chan none] 0 0))).set e2.n (.cells [.chan (some Ch)] 0 0)
  refine RC.seg (K := fun k t ls h' => k = [.inRegion (opsC (hdC (tlC 3 (bodyC fI)))) [0], .code (tlC 4 (bodyC fI))] ∧ keeps [(5, .v (.pointer (some ⟨h1.n, 0, none⟩))), (3, .v (.pointer (some ⟨h.n, 0, none⟩))), (6, .v (.pointer (some ⟨h2.n, 0, none⟩)))] t ∧ Hp.set (h2.push (.cells [.chan none] 0 0)) h2.n (.cells [.chan (some Ch)] 0 0) = h') rfl (more tbOk mtOk ⟨[3,5,6,8], []⟩ 5 ⟨_, hc0.st (Nat.le_trans hlo e2.n) rfl, R_mid ⟨rfl, ⟨rfl, rfl, rfl, trivial⟩, rfl⟩⟩) ?_
  rintro _ t _ _ ⟨rfl, k1, rfl⟩
  generalize Hp.set _ _ _ = h3 at *
  refine RC.phase (tE := [(6, .v (.pointer (some ⟨h2.n, 0, none⟩)))]) (kE := kWaitI) wgLib rfl rfl rfl rfl (Nat.le_of_ble_eq_true rfl) (tbOk.ok 101 _ rfl) rfl (RdW.ok K (stN w hh) (cnN w hh)) (by decide) rfl (fun j x hx => ⟨keeps_sub k1 j x hx, allP_ok (p := flatS) (t := [(5, .v (.pointer (some ⟨h1.n, 0, none⟩))), (3, .v (.pointer (some ⟨h.n, 0, none⟩))), (6, .v (.pointer (some ⟨h2.n, 0, none⟩)))]) ⟨trivial, trivial, trivial, trivial⟩ j x hx⟩) (fun s hp Wg fro => ?_) (fun sl Lp c h' e hnd hmem c0 c1 c4 hrd => ?_)
  · refine more tbOk mtOk ⟨[3,5,6,8], []⟩ 100 ?_
    refine R_loop (startI_ok K w hh hw hh1 (Hof.mono e3) hs3 ho3 hc3 hsh _ rfl ?_ 4 0 rfl _ ⟨rfl, rfl, rfl, rfl, rfl, trivial⟩)
    rintro b (rfl | rfl | rfl)
    · exact (hp 5 _ rfl).2
    · exact (hp 3 _ rfl).2
    · exact (hp 6 _ rfl).2
  · refine RC.seg (K := fun k t ls h'' => k = [.inRegion (opsC (hdC (tlC 6 (bodyC fI)))) [1], .code (tlC 7 (bodyC fI))] ∧ keeps [(24, .v (.chan (some Ch))), (6, .v (.pointer (some ⟨h2.n, 0, none⟩)))] t ∧ h' = h'') rfl (more tbOk mtOk ⟨[3,5,6,8], []⟩ 4 ⟨_, (hc3.ext e).ld rfl, R_mid ⟨rfl, ⟨rfl, rfl, trivial⟩, rfl⟩⟩) ?_
    rintro _ t _ _ ⟨rfl, k2, rfl⟩
    refine RC.trim (ls' := []) k2 rfl trivial ?_
    refine RC.close rfl rfl rfl rfl rfl (by rw [Tryz.func38]; rfl) ?_
    refine RC.seg (K := fun k t ls h'' => k = .code recvC :: .inLoop recvC :: .inBlock 2 :: [.code (tlC 9 (bodyC fI))] ∧ keeps [(25, .v (.chan (some Ch))), (9, .l 0 0)] t ∧ pre [[.slice none 0 0, .slice none 0 0, .slice none 0 0, .slice none 0 0]] ls ∧ h' = h'') rfl (more tbOk mtOk ⟨[3,5,6,8], []⟩ 100 ⟨_, (hc3.ext e).ld rfl, R_loop (R_mid ⟨rfl, ⟨rfl, rfl, trivial⟩, ⟨rfl, trivial⟩, rfl⟩)⟩) ?_
    rintro _ t ls _ ⟨rfl, k3, k4, rfl⟩
    refine recvI_ok (fun i hi => ?_) (fun t ls ht hl => tailI_ok K hw hh1 e3 e hlo c0 c1 c4 hrd ht hl) Lp _ _ _ rfl (fun i hi => (hmem i).1 hi) (fun j hj hnj => absurd ((hmem j).2 hj) hnj) k3 k4
    obtain ⟨o, l, q1, _⟩ := hrd i hi
    rw [q1]; cases o with
    | none => exact ⟨_, _, _, rfl⟩
    | some b => exact ⟨_, _, _, rfl⟩
end Go.Proofs.YtambkogocbgbmaaGreat.Id
/- What is told of light, plainly: where it goes, how bright a picture is. -/
namespace Go.Proofs.YtambkogocbgbmaaGreat.Id
open Go.Id
open Go.Proofs
set_option linter.unusedVariables false
/-- Where the light goes that comes in at a sight, and how it ends. -/
noncomputable def trail (g : Gd) (k : Int) : Tr.Tr := (isTrail_ex g k).choose
theorem trail_ok (g : Gd) (k : Int) : IsTrail g k (trail g k) ∧ ((trail g k).1.length ≤ 20000 ∧ (trail g k).2.length ≤ 60000) ∧ EOk g (trail g k).2 ∧ ((trail g k).2 ≠ [] → ∀ c ∈ g.cs, cOk c = true) ∧ ∀ e ∈ (trail g k).2, e.1 = 0 → 0 ≤ e.2.1 ∧ e.2.1 < many g := (isTrail_ex g k).choose_spec
noncomputable def lightAt (g : Gd) (k : Int) : Int := lightOf g (trail g k).2
noncomputable def pic (g : Gd) : List Int := (List.range (many g).toNat).map fun (k : Nat) => lightAt g k
theorem pic_len (g : Gd) : (pic g).length = (many g).toNat := by simp [pic]
end Go.Proofs.YtambkogocbgbmaaGreat.Id
/- Contracts over the ideal memory: pictures. -/
namespace Go.Proofs.YtambkogocbgbmaaGreat.Id
open Go.Id Go.Conc Go.Conc.Lib
open Go.Proofs
set_option linter.unusedVariables false
set_option maxRecDepth 100000
theorem many_nat {g : Gd} {w hh : Nat} (h1 : g.w = w) (h2 : g.hi = hh) : many g = 2 * ((w : Int) + hh) := by unfold many; rw [h1, h2]
/-- A row of values that are whole numbers. -/
theorem gx_ints {lo : Nat} {h : Hp} {o : Option (Nat × Nat)} {L : List Value} {l : List Int} (g : Gx lo h vE1 1 o L) (e : L = l.map fun x => Value.int .i64 x) : Gx lo h iE 1 o l := by
  subst e
  match o, g with
  | none, g => exact List.map_eq_nil_iff.1 g
  | some (b, e), ⟨g1, g2⟩ => exact ⟨g1, g2.lt, by rw [g2.g, flat_vE1, flat_iE]⟩
theorem ints_of {L : List Value} {m : Nat} {f : Int → Int} (hl : L.length = m) (h : ∀ (j : Nat) (x : Value), L[j]? = some x → x = .int .i64 (f j)) : L = ((List.range m).map fun (k : Nat) => f k).map fun x => Value.int .i64 x := by
  refine List.ext_getElem (by simp [hl]) fun j h1 h2 => ?_
  rw [h j _ (List.getElem?_eq_getElem h1)]; simp
theorem elInt (f : Int → Int) : ElOk fun k v _ => v = .int .i64 (f k) := by
  refine ⟨fun k v h e => ?_, fun k v h b e hb => ?_, fun k v h h' e _ _ => e, fun k v h e => .inl ?_, fun k v h h' d e _ => ?_⟩
  · subst e; exact ⟨rfl, rfl⟩
  · subst e; cases hb
  · subst e; rfl
  · subst e; rfl
variable {N0 : Nat → Prop} {lo : Nat}
/-- What PicOf yields. -/
def PicP (lo : Nat) (g : Gd) (h : Hp) (v : Value) (h' : Hp) : Prop := (∃ o, v = gv o (if gOk g then pic g else []).length ∧ Gx lo h' iE 1 o (if gOk g then pic g else []) ∧ ∀ b, isB o b → h.n ≤ b) ∧ Ext h h'
theorem PicOf_ok (g : Gd) (ad : Option Addr) (fl : Nat) (h : Hp) (hs : Sls h cE 2 ad g.cs) (hn : (g.cs.length : Int) < 2 ^ 31) : Tri (mainCtx Tryz.prog N0) lo 9 [.agg #[.int .i64 g.w, .slice ad g.cs.length fl]] h (PicP lo g h) := by
  refine enter tbOk mtOk ⟨[1], []⟩ 400 Tryz.func9 rfl rfl rfl fun hlo => ?_
  have hb : Bx (h.push (.cells [.int .i64 g.w, .slice ad g.cs.length fl] 0 0)) h.n [.int .i64 g.w, .slice ad g.cs.length fl] := Bx.push
  refine ⟨_, hb.ld rfl, ?_⟩
  refine callP (GridOk_ok g.w ad fl g.cs _ (hs.ext (Ext.push _ _)) hn) ?_
  rintro v h1 ⟨rfl, e1⟩
  have e2 : Ext h h1 := (Ext.push _ _).trans e1
  refine cnd (fun c1 => ?_) (fun c1 => ?_)
  · have hg : gOk g = false := by simpa using c1
    refine ⟨⟨none, ?_, ?_, fun b hb => by obtain ⟨e, hh⟩ := hb; cases hh⟩, e2⟩
    · rw [hg]; rfl
    · rw [hg]; rfl
  · have hg : gOk g = true := by simpa using c1
    refine ⟨_, (hb.ext e1).ld rfl, ?_⟩
    obtain ⟨w, hh, q1, q2, q3, q4, q5⟩ := gOk_nat hg
    have hm := many_nat q1 q2
    have S := sidesI_ok (N0 := N0) (lo := lo) (El := fun k v _ => v = .int .i64 (lightAt g k)) (elInt (lightAt g)) w hh q3 q4 ad g.cs.length fl q5 (fOf := 39) (cp := [.pointer (some ⟨h.n, 0, none⟩)]) (h := h1)
      (fun fro lo' k h' x _ k0 k1 => (PicOf1_ok g k (trail g k) ad fl h.n h' ((hb.ext e1).ext x) (hs.ext (e2.trans x)) hn (trail_ok g k).1 (trail_ok g k).2.1 (trail_ok g k).2.2.1 (trail_ok g k).2.2.2.1).mono fun v h'' ⟨a1, a2⟩ => ⟨a1, a2, fun b hb => (by subst a1; cases hb)⟩) (fun k v h e => ⟨_, e⟩)
    rw [← q1] at S
    refine callP S ?_
    rintro v h2 ⟨o, L, rfl, g1, g2, g3, g4, g5, g6, e3⟩
    have hL : L = (pic g).map fun x => Value.int .i64 x := ints_of (by omega) g3
    refine ⟨⟨o, ?_, ?_, fun b hb => Nat.le_trans e2.n (g6 b hb)⟩, e2.trans e3⟩
    · rw [hg, hL]; simp
    · rw [hg]; exact gx_ints g1 hL
end Go.Proofs.YtambkogocbgbmaaGreat.Id
/- Contracts over the ideal memory: spec's grids and sights. -/
namespace Go.Proofs.YtambkogocbgbmaaGreat.Id
open Go.Id
open Go.Proofs
set_option linter.unusedVariables false
set_option maxRecDepth 100000
variable {X : Ctx Tryz.prog} {lo : Nat}
theorem sCellOk_ok (a b : Int) (h : Hp) : Tri X lo 82 [.agg #[.int .i64 a, .int .i64 b]] h fun v h' => v = .bool (cOk (a, b)) ∧ Ext h h' := by
  refine enter tbOk mtOk ⟨[], []⟩ 400 Tryz.func82 rfl rfl rfl fun hlo => ?_
  refine cnd (fun c1 => ?_) (fun c1 => ?_)
  · have c1 : a = 7 := by simpa using c1
    refine callP (l6In_ok b 1 9 h) ?_
    rintro v h1 ⟨rfl, q⟩
    subst q
    refine And.intro ?_ (Ext.refl _)
    simp [cOk, c1]
  · have c1 : a ≠ 7 := by simpa using c1
    refine callP (l6In_ok a 0 6 h) ?_
    rintro v h1 ⟨rfl, q⟩
    subst q
    refine cnd (fun c2 => ?_) (fun c2 => ?_)
    · refine And.intro ?_ (Ext.refl _)
      show Value.bool (b == 0) = _
      have c2 : 0 ≤ a ∧ a ≤ 6 := by simpa using c2
      simp [cOk, c1, c2]; rfl
    · refine And.intro ?_ (Ext.refl _)
      have c2 : ¬ (0 ≤ a ∧ a ≤ 6) := by simp at c2; omega
      have : cOk (a, b) = false := by
        unfold cOk; rw [if_neg c1]; simp; omega
      rw [this]
theorem high_ok (w : Int) (a : Option Addr) (n fl : Nat) (h : Hp) (hw : 1 ≤ w) (hn : (n : Int) < 2 ^ 31) : Tri X lo 87 [.agg #[.int .i64 w, .slice a n fl]] h fun v h' => v = .int .i64 ((n : Int) / w) ∧ Ext h h' := by
  refine enter tbOk mtOk ⟨[], []⟩ 200 Tryz.func87 rfl rfl rfl fun hlo => ?_
  refine And.intro (by omega) ?_
  have h1 : (n : Int).tdiv w = (n : Int) / w := Int.tdiv_eq_ediv_of_nonneg (by omega)
  have h2 : 0 ≤ (n : Int) / w := Int.ediv_nonneg (by omega) (by omega)
  have h3 : (n : Int) / w ≤ n := Int.ediv_le_self _ (by omega)
  rw [h1, wr (by omega) (by omega)]
  exact ⟨rfl, Ext.refl _⟩
theorem l3Many_ok (g : Gd) (a : Option Addr) (fl : Nat) (h : Hp) (hg : gOk g = true) (hn : (g.cs.length : Int) < 2 ^ 31) : Tri X lo 48 [.agg #[.int .i64 g.w, .slice a g.cs.length fl]] h fun v h' => v = .int .i64 (many g) ∧ Ext h h' := by
  obtain ⟨h1, h2, h3⟩ := hi_ok hg
  obtain ⟨g1, g2, _⟩ := gOk_iff.1 hg
  refine enter tbOk mtOk ⟨[], [(1, [0, 1, 2, 3, 4, 5, 6], [0, 1, 0, 4, 15, 31, 63])]⟩ 200 Tryz.func48 rfl rfl rfl fun hlo => ?_
  refine And.intro (by kernel_rfl) ?_
  refine callP (high_ok g.w a _ fl h g1 hn) ?_
  rintro v h1 ⟨rfl, e1⟩
  refine And.intro Is.r ?_
  refine And.intro ?_ e1
  show Value.int .i64 (IntKind.i64.wrap (2 * IntKind.i64.wrap (g.w + (g.cs.length : Int) / g.w))) = _
  rw [show (g.cs.length : Int) / g.w = g.hi from rfl, wr (n := g.w + g.hi) (by omega) (by omega), wr (by omega) (by omega)]
  rfl
theorem sGridOk_ok (w : Int) (a : Option Addr) (fl : Nat) (cs : List Cl) (h : Hp) (hs : Sls h cE 2 a cs) (hn : (cs.length : Int) < 2 ^ 31) : Tri X lo 41 [.agg #[.int .i64 w, .slice a cs.length fl]] h fun v h' => v = .bool (gOk ⟨w, cs⟩) ∧ Ext h h' := by
  refine enter tbOk mtOk ⟨[], []⟩ 400 Tryz.func41 rfl rfl rfl fun hlo => ?_
  refine callP (l6In_ok w 1 5 h) ?_
  rintro v h1 ⟨rfl, q⟩
  subst q
  refine cnd (fun c1 => ?_) (fun c1 => ?_)
  · have c1 : ¬ (1 ≤ w ∧ w ≤ 5) := by simp at c1; omega
    refine cndT ?_
    refine cndT ?_
    refine And.intro ?_ (Ext.refl _)
    have : gOk ⟨w, cs⟩ = false := Bool.eq_false_iff.2 fun h => c1 (by have := gOk_iff.1 h; exact ⟨this.1, this.2.1⟩)
    rw [this]
  · have c1 : 1 ≤ w ∧ w ≤ 5 := by simpa using c1
    have e6 : (cs.length : Int).tmod w = (cs.length : Int) % w := Int.tmod_eq_emod_of_nonneg (by omega)
    have hq : IntKind.i64.wrap ((cs.length : Int).tdiv w) = (cs.length : Int) / w := by
      have h2 : 0 ≤ (cs.length : Int) / w := Int.ediv_nonneg (by omega) (by omega)
      have h3 : (cs.length : Int) / w ≤ cs.length := Int.ediv_le_self _ (by omega)
      rw [Int.tdiv_eq_ediv_of_nonneg (by omega), wr (by omega) (by omega)]
    refine And.intro (by omega) ?_
    refine cnd (fun c2 => ?_) (fun c2 => ?_)
    · rw [e6] at c2
      have c2 : ¬ (cs.length : Int) % w = 0 := by simpa using c2
      refine cndT ?_
      refine And.intro ?_ (Ext.refl _)
      have : gOk ⟨w, cs⟩ = false := Bool.eq_false_iff.2 fun h => c2 (gOk_iff.1 h).2.2.2.2.1
      rw [this]
    · rw [e6] at c2
      have c2 : (cs.length : Int) % w = 0 := by simpa using c2
      refine And.intro (by omega) ?_
      refine callP (l6In_ok _ 1 5 _) ?_
      rintro v h2 ⟨rfl, q⟩
      subst q
      rw [hq]
      have hmul : w * ((cs.length : Int) / w) = cs.length := by
        have := Int.mul_ediv_add_emod (cs.length : Int) w
        omega
      have hc5 : w = 1 ∨ w = 2 ∨ w = 3 ∨ w = 4 ∨ w = 5 := by omega
      refine cnd (fun c3 => ?_) (fun c3 => ?_)
      · have c3 : ¬ (1 ≤ (cs.length : Int) / w ∧ (cs.length : Int) / w ≤ 5) := by simp at c3; omega
        refine And.intro ?_ (Ext.refl _)
        have : gOk ⟨w, cs⟩ = false := Bool.eq_false_iff.2 fun h => c3 (by
          have := (hi_ok h); exact ⟨this.1, this.2.1⟩)
        rw [this]
      · have c3 : 1 ≤ (cs.length : Int) / w ∧ (cs.length : Int) / w ≤ 5 := by simpa using c3
        have hg : gOk ⟨w, cs⟩ = cs.all cOk := by
          have k1 : cs.length ≠ 0 := by intro e; rw [e] at c3; simp at c3
          have k2 : (cs.length : Int) ≤ w * 5 := by rcases hc5 with rfl | rfl | rfl | rfl | rfl <;> omega
          simp [gOk, c1, c2, k1, k2]
        refine loop (σ := Nat) tbOk mtOk ⟨[], []⟩ (fun i => [(3, .v (.int .i64 (i : Int))), (1, .l 0 0)]) (fun _ => [[.int .i64 w, .slice a cs.length fl]]) (fun i h' => i ≤ cs.length ∧ Ext h2 h' ∧ ∀ j, j < i → ∀ c, cs[j]? = some c → cOk c = true) (fun i => cs.length - i) 300 0 (fun _ => rfl) ⟨rfl, rfl, trivial⟩ ⟨rfl, trivial⟩ ⟨by omega, Ext.refl _, fun j hj => by omega⟩ (fun i h' hI again => ?_)
        obtain ⟨i1, i2, i3⟩ := hI
        refine cnd (fun c6 => ?_) (fun c6 => ?_)
        · have hi : i < cs.length := by simpa using c6
          obtain ⟨ad, rfl⟩ := hs.some hi
          refine And.intro ⟨by omega, by omega⟩ ?_
          refine ⟨_, (hs.ext i2).ld (fun _ => rfl) hi, ?_⟩
          refine callP (sCellOk_ok _ _ _) ?_
          rintro v h'' ⟨rfl, e⟩
          refine cnd (fun c7 => ?_) (fun c7 => ?_)
          · have c7 : cOk cs[i] = false := by simpa using c7
            refine ⟨?_, i2.trans e⟩
            rw [hg, eq_comm]
            refine congrArg _ (Bool.eq_false_iff.2 fun hall => ?_)
            have := (List.all_eq_true.1 hall) cs[i] (List.getElem_mem hi)
            rw [this] at c7; cases c7
          · have c7 : cOk cs[i] = true := by simpa using c7
            refine again (i + 1) _ _ _ (by omega) ⟨?_, rfl, trivial⟩ ⟨rfl, trivial⟩ ⟨by omega, i2.trans e, fun j hj c hc => ?_⟩
            · show some (Sl.v (.int .i64 (IntKind.i64.wrap ((i : Int) + 1)))) = _
              rw [wr (by omega) (by omega)]; rfl
            · rcases Nat.lt_or_ge j i with h1 | h1
              · exact i3 j h1 c hc
              · have : j = i := by omega
                subst this
                rw [List.getElem?_eq_getElem hi] at hc; cases hc; exact c7
        · have hi : ¬ i < cs.length := by simpa using c6
          refine ⟨?_, i2⟩
          rw [hg, eq_comm]
          refine congrArg _ (List.all_eq_true.2 fun c hc => ?_)
          obtain ⟨j, hj⟩ := List.mem_iff_getElem?.1 hc
          exact i3 j (by have := (List.getElem?_eq_some_iff.1 hj).1; omega) c hj
end Go.Proofs.YtambkogocbgbmaaGreat.Id
/- Contracts over the ideal memory: spec's sights. -/
namespace Go.Proofs.YtambkogocbgbmaaGreat.Id
open Go.Id
open Go.Proofs
set_option linter.unusedVariables false
set_option maxRecDepth 100000
variable {X : Ctx Tryz.prog} {lo : Nat}
theorem til_get {F : Nat → Cl} {n i : Nat} (h : i < n) : (til F n)[i]? = some (F i) := by simp [til, h]
/-- The rays by number. -/
theorem rays_get (w hh k : Nat) (hk : k < 2 * (w + hh)) : (rays w hh)[k]? = some (if k < w then rD k else if k < w + hh then rL w (k - w) else if k < w + hh + w then rU w hh (k - (w + hh)) else rR w hh (k - (w + hh + w))) := by
  unfold rays
  by_cases h1 : k < w
  · rw [if_pos h1, List.append_assoc, List.append_assoc, List.getElem?_append_left (by rw [til_len]; exact h1), til_get h1]
  rw [if_neg h1]
  by_cases h2 : k < w + hh
  · rw [if_pos h2, List.append_assoc, List.getElem?_append_left (by simp only [List.length_append, til_len]; exact h2), List.getElem?_append_right (by rw [til_len]; omega), til_len, til_get (by omega)]
  rw [if_neg h2]
  by_cases h3 : k < w + hh + w
  · rw [if_pos h3, List.getElem?_append_left (by simp only [List.length_append, til_len]; exact h3), List.getElem?_append_right (by simp [til_len]; omega)]
    simp only [List.length_append, til_len]
    rw [til_get (by omega)]
  · rw [if_neg h3, List.getElem?_append_right (by simp [til_len]; omega)]
    simp only [List.length_append, til_len]
    rw [til_get (by omega)]
theorem l2Back_ok (d : Int) (h : Hp) (hd : 0 ≤ d ∧ d ≤ 3) : Tri X lo 175 [.int .i64 d] h fun v h' => v = .int .i64 ((d + 2) % 4) ∧ Ext h h' := by
  refine enter tbOk mtOk ⟨[], []⟩ 400 Tryz.func175 rfl rfl rfl fun hlo => ?_
  refine And.intro (by decide) ?_
  rw [wr (n := d + 2) (by omega) (by omega), Int.tmod_eq_emod_of_nonneg (by omega)]
  exact ⟨rfl, Ext.refl _⟩
theorem l3Ray_ok (w hh k : Nat) (a : Option Addr) (n fl : Nat) (h : Hp) (hw : 1 ≤ w ∧ w ≤ 5) (hh1 : 1 ≤ hh ∧ hh ≤ 5) (hn : (n : Int) = (w : Int) * hh) (hk : k < 2 * (w + hh)) : Tri X lo 124 [.agg #[.int .i64 (w : Int), .slice a n fl], .int .i64 (k : Int)] h fun v h' => (∃ r, (rays w hh)[k]? = some r ∧ v = .agg #[.int .i64 r.1, .int .i64 r.2]) ∧ Ext h h' := by
  refine enter tbOk mtOk ⟨[], []⟩ 400 Tryz.func124 rfl rfl rfl fun hlo => ?_
  have q5 := prod5 (i := hh) (w := w) (by omega) (by omega)
  rw [Int.mul_comm] at q5
  refine callP (high_ok w a n fl h (by omega) (by omega)) ?_
  rintro v h1 ⟨rfl, e1⟩
  have hd : (n : Int) / w = hh := by rw [hn]; exact Int.mul_ediv_cancel_left _ (by omega)
  rw [hd]
  have w1 : IntKind.i64.wrap ((k : Int) - w) = (k : Int) - w := wr (by omega) (by omega)
  have w2 : IntKind.i64.wrap (IntKind.i64.wrap ((k : Int) - w) - hh) = (k : Int) - w - hh := by rw [w1]; exact wr (by omega) (by omega)
  have w3 : IntKind.i64.wrap ((n : Int) - 1) = (n : Int) - 1 := wr (by omega) (by omega)
  refine cnd (fun c1 => ?_) (fun c1 => ?_)
  · have c1 : k < w := by simpa using c1
    exact And.intro ⟨rD k, by rw [rays_get w hh k hk, if_pos c1], rfl⟩ e1
  · have c1 : ¬ k < w := by simpa using c1
    refine cnd (fun c2 => ?_) (fun c2 => ?_)
    · rw [w1] at c2
      have c2 : k < w + hh := by simp at c2; omega
      refine And.intro ⟨rL w (k - w), by rw [rays_get w hh k hk, if_neg c1, if_pos c2], ?_⟩ e1
      show Value.agg #[.int .i64 (IntKind.i64.wrap (IntKind.i64.wrap (IntKind.i64.wrap (IntKind.i64.wrap ((k : Int) - w) * w) + w) - 1)), .int .i64 3] = .agg #[.int .i64 (((k - w : Nat) : Int) * w + w - 1), .int .i64 3]
      have p1 := prod5 (i := k - w) (w := w) (by omega) (by omega)
      have ek : ((k - w : Nat) : Int) = (k : Int) - w := by omega
      rw [ek] at p1 ⊢
      rw [w1, wr (n := ((k : Int) - w) * w) (by omega) (by omega), wr (n := ((k : Int) - w) * w + w) (by omega) (by omega), wr (by omega) (by omega)]
    · rw [w1] at c2
      have c2 : ¬ k < w + hh := by simp at c2; omega
      refine cnd (fun c3 => ?_) (fun c3 => ?_)
      · rw [w2] at c3
        have c3 : k < w + hh + w := by simp at c3; omega
        refine And.intro ⟨rU w hh (k - (w + hh)), by rw [rays_get w hh k hk, if_neg c1, if_neg c2, if_pos c3], ?_⟩ e1
        show Value.agg #[.int .i64 (IntKind.i64.wrap (IntKind.i64.wrap ((n : Int) - 1) - IntKind.i64.wrap (IntKind.i64.wrap ((k : Int) - w) - hh))), .int .i64 0] = .agg #[.int .i64 ((hh : Int) * w - 1 - ((k - (w + hh) : Nat) : Int)), .int .i64 0]
        rw [w2, w3, wr (by omega) (by omega), Int.mul_comm (hh : Int), ← hn]
        congr 4; omega
      · rw [w2] at c3
        have c3 : ¬ k < w + hh + w := by simp at c3; omega
        refine And.intro ⟨rR w hh (k - (w + hh + w)), by rw [rays_get w hh k hk, if_neg c1, if_neg c2, if_neg c3], ?_⟩ e1
        show Value.agg #[.int .i64 (IntKind.i64.wrap (IntKind.i64.wrap (IntKind.i64.wrap (IntKind.i64.wrap ((n : Int) - 1) - w) + 1) - IntKind.i64.wrap (IntKind.i64.wrap (IntKind.i64.wrap (IntKind.i64.wrap ((k : Int) - w) - hh) - w) * w))), .int .i64 1] = .agg #[.int .i64 (((hh : Int) - 1 - ((k - (w + hh + w) : Nat) : Int)) * w), .int .i64 1]
        have p1 := prod5 (i := k - (w + hh + w)) (w := w) (by omega) (by omega)
        have ek : ((k - (w + hh + w) : Nat) : Int) = (k : Int) - w - hh - w := by omega
        rw [ek] at p1 ⊢
        rw [w2, w3, wr (n := (k : Int) - w - hh - w) (by omega) (by omega), wr (n := ((k : Int) - w - hh - w) * w) (by omega) (by omega), wr (n := (n : Int) - 1 - w) (by omega) (by omega), wr (n := (n : Int) - 1 - w + 1) (by omega) (by omega), wr (by omega) (by omega)]
        have hz : ((hh : Int) - 1 - ((k : Int) - w - hh - w)) * w = (n : Int) - w - ((k : Int) - w - hh - w) * w := by
          rw [Int.sub_mul ((hh : Int) - 1), Int.sub_mul (hh : Int) 1, Int.one_mul, Int.mul_comm (hh : Int), ← hn]
        rw [hz]
        congr 4; omega
end Go.Proofs.YtambkogocbgbmaaGreat.Id
/- Light's walk in a grid that is turned by a quarter, or seen in a mirror. No program in sight. -/
namespace Go.Proofs.YtambkogocbgbmaaGreat.Tr
set_option linter.unusedVariables false
/-- The kind of a cell in a grid that is turned, or seen in a mirror. -/
def swp (k : Int) : Int := if k = 2 then 3 else if k = 3 then 2 else if k = 4 then 5 else if k = 5 then 4 else k
def mp (π σ : Int → Int) (e : V) : V := (e.1, if e.1 = 0 then σ e.2.1 else π e.2.1, e.2.2)
/-- What a symmetry is asked. -/
structure Sym (w n : Int) (kd : Int → Int) (sg : Int → Int → Int) (w' n' : Int) (kd' : Int → Int) (sg' : Int → Int → Int) (π δ σ : Int → Int) : Prop where
  inn : ∀ a, 0 ≤ a ∧ a < n → 0 ≤ π a ∧ π a < n'
  dir : ∀ d, 0 ≤ d ∧ d ≤ 3 → 0 ≤ δ d ∧ δ d ≤ 3
  kind : ∀ a, 0 ≤ a ∧ a < n → kd' (π a) = swp (kd a)
  next : ∀ a d, Ok n (a, d) → nxt w' n' (π a) (δ d) = (nxt w n a d).map π
  turn : ∀ k d, 0 ≤ d ∧ d ≤ 3 → dirT (swp k) (δ d) = δ (dirT k d)
  out : ∀ a d, Ok n (a, d) → nxt w n a d = none → sg' (π a) (δ d) = σ (sg a d)
section
variable {w n : Int} {kd : Int → Int} {sg : Int → Int → Int} {w' n' : Int} {kd' : Int → Int} {sg' : Int → Int → Int} {π δ σ : Int → Int}
theorem swp_1 {k : Int} : swp k = 1 ↔ k = 1 := by unfold swp; repeat' split <;> omega
theorem swp_7 {k : Int} : swp k = 7 ↔ k = 7 := by unfold swp; repeat' split <;> omega
theorem swp_6 {k : Int} : swp k = 6 ↔ k = 6 := by unfold swp; repeat' split <;> omega
theorem swp_45 {k : Int} : (swp k = 4 ∨ swp k = 5) ↔ (k = 4 ∨ k = 5) := by unfold swp; repeat' split <;> omega
theorem mp_en (k a wt : Int) (hk : k ≠ 0) : (en k a wt).map (mp π σ) = en k (π a) wt := by
  unfold en
  by_cases h : wt > 0
  · rw [if_pos h, if_pos h]; simp [mp, hk]
  · rw [if_neg h, if_neg h]; rfl
theorem go_map (hw : 1 ≤ w) (hn : n % w = 0) (S : Sym w n kd sg w' n' kd' sg' π δ σ) (q : Nat) (a d wt : Int) (t : Tr) (ho : Ok n (a, d)) (h : go w n kd sg q a d wt = some t) :
    ∃ q' t', go w' n' kd' sg' q' (π a) (δ d) wt = some t' ∧ t'.2 = t.2.map (mp π σ) := by
  refine go_ind (kd := kd) (sg := sg) hw hn
    (fun a d wt t => ∃ q' t', go w' n' kd' sg' q' (π a) (δ d) wt = some t' ∧ t'.2 = t.2.map (mp π σ))
    (fun a d wt t => Ok n (a, d) → ∃ q' t', lv w' n' sg' (go w' n' kd' sg' q') (π a) (δ d) wt = some t' ∧ t'.2 = t.2.map (mp π σ))
    ?_ ?_ ?_ ?_ ?_ ?_ ?_ ?_ ?_ q a d wt t ho h
  · intro a d; exact ⟨1, ([], []), by rw [go, if_pos rfl], rfl⟩
  · intro a d _; exact ⟨1, ([], []), by unfold lv; rw [if_pos rfl], rfl⟩
  · intro a d wt ho hz k1 k7 hx _
    refine ⟨1, ([], [(0, σ (sg a d), wt)]), ?_, by simp [mp]⟩
    unfold lv
    rw [if_neg hz, S.next a d ho, hx, Option.map_none]
    simp only
    rw [S.out a d ho hx]
  · intro a d wt a' t ho hz hx ho' hM _
    obtain ⟨q', t', ht', e⟩ := hM
    refine ⟨q', t', ?_, e⟩
    unfold lv
    rw [if_neg hz, S.next a d ho, hx, Option.map_some]
    exact ht'
  · intro a d wt ho hz hk
    refine ⟨1, ([(π a, δ d, wt)], [(1, π a, wt)]), by rw [go, if_neg hz, if_pos (by rw [S.kind a ho.1]; exact swp_1.2 hk)], by simp [mp]⟩
  · intro a d wt ho hz hk
    have e := S.kind a ho.1
    refine ⟨1, ([(π a, δ d, wt)], [(2, π a, wt)]), by rw [go, if_neg hz, if_neg (by rw [e, swp_1]; omega), if_pos (by rw [e]; exact swp_7.2 hk)], by simp [mp]⟩
  · intro a d wt t ho hz hk hL
    have e := S.kind a ho.1
    obtain ⟨q', t', ht', f⟩ := hL ho
    refine ⟨q' + 1, _, by rw [go, if_neg hz, if_neg (by rw [e, swp_1]; omega), if_neg (by rw [e, swp_7]; omega), if_pos (by rw [e]; exact swp_6.2 hk), ht', Option.bind_some], ?_⟩
    simp only [List.map_append, f, mp_en 3 a _ (by decide)]
  · intro a d wt t u ho hz hk hL hR
    have e := S.kind a ho.1
    have hT := S.turn (kd a) d ho.2
    rw [← e] at hT
    obtain ⟨q1, t1, ht1, f1⟩ := hL ho
    obtain ⟨q2, t2, ht2, f2⟩ := hR ⟨ho.1, dirT_ok ho.2⟩
    have g1 := lv_le (Nat.le_max_left q1 q2) ht1
    have g2 := lv_le (Nat.le_max_right q1 q2) ht2
    refine ⟨max q1 q2 + 1, _, by rw [go, if_neg hz, if_neg (by rw [e, swp_1]; omega), if_neg (by rw [e, swp_7]; omega), if_neg (by rw [e, swp_6]; omega), if_pos (by rw [e]; exact swp_45.2 hk), g1, Option.bind_some, hT, g2, Option.bind_some], ?_⟩
    simp only [List.map_append, f1, f2, mp_en 3 a _ (by decide)]
  · intro a d wt t ho hz hk hL
    obtain ⟨k1, k7, k6, k4⟩ := hk
    have e := S.kind a ho.1
    have hT := S.turn (kd a) d ho.2
    rw [← e] at hT
    obtain ⟨q', t', ht', f⟩ := hL ⟨ho.1, dirT_ok ho.2⟩
    refine ⟨q' + 1, ((π a, δ d, wt) :: t'.1, t'.2), by rw [go, if_neg hz, if_neg (by rw [e, swp_1]; exact k1), if_neg (by rw [e, swp_7]; exact k7), if_neg (by rw [e, swp_6]; exact k6), if_neg (by rw [e, swp_45]; exact k4), hT, ht', Option.bind_some], f⟩
/-- As much leaves at the sight that another becomes. -/
theorem outs_map (x : Int) (l : List V) (h : ∀ e ∈ l, e.1 = 0 → (σ e.2.1 = σ x ↔ e.2.1 = x)) : outs (σ x) (l.map (mp π σ)) = outs x l := by
  induction l with
  | nil => rfl
  | cons e l ih =>
    have r := ih fun e he => h e (List.mem_cons_of_mem _ he)
    simp only [List.map_cons, outs, r]
    by_cases c : e.1 = 0
    · have hh := h e (List.mem_cons_self ..) c
      simp only [mp, c, if_pos, true_and]
      by_cases cx : e.2.1 = x
      · rw [if_pos (hh.2 cx), if_pos cx]
      · rw [if_neg (fun e => cx (hh.1 e)), if_neg cx]
    · simp only [mp, c, if_false, false_and]
end
/-! ### the two symmetries, in numbers -/
def piT (w h a : Int) : Int := (a % w) * h + (h - 1 - a / w)
def deT (d : Int) : Int := (d + 1) % 4
def siT (w h k : Int) : Int := (k + h) % (2 * (w + h))
def piF (w a : Int) : Int := (a / w) * w + (w - 1 - a % w)
def deF (d : Int) : Int := if d = 1 then 3 else if d = 3 then 1 else d
def siF (w h k : Int) : Int := (w - 1 - k + 2 * (w + h)) % (2 * (w + h))
theorem deT_turn (k d : Int) (hd : 0 ≤ d ∧ d ≤ 3) : dirT (swp k) (deT d) = deT (dirT k d) := by
  have c : d = 0 ∨ d = 1 ∨ d = 2 ∨ d = 3 := by omega
  unfold swp
  by_cases h2 : k = 2
  · subst h2; rcases c with rfl | rfl | rfl | rfl <;> decide
  by_cases h3 : k = 3
  · subst h3; rcases c with rfl | rfl | rfl | rfl <;> decide
  by_cases h4 : k = 4
  · subst h4; rcases c with rfl | rfl | rfl | rfl <;> decide
  by_cases h5 : k = 5
  · subst h5; rcases c with rfl | rfl | rfl | rfl <;> decide
  rw [if_neg h2, if_neg h3, if_neg h4, if_neg h5]
  unfold dirT
  rw [if_neg (by omega), if_neg (by omega), if_neg (by omega), if_neg (by omega)]
theorem deF_turn (k d : Int) (hd : 0 ≤ d ∧ d ≤ 3) : dirT (swp k) (deF d) = deF (dirT k d) := by
  have c : d = 0 ∨ d = 1 ∨ d = 2 ∨ d = 3 := by omega
  unfold swp
  by_cases h2 : k = 2
  · subst h2; rcases c with rfl | rfl | rfl | rfl <;> decide
  by_cases h3 : k = 3
  · subst h3; rcases c with rfl | rfl | rfl | rfl <;> decide
  by_cases h4 : k = 4
  · subst h4; rcases c with rfl | rfl | rfl | rfl <;> decide
  by_cases h5 : k = 5
  · subst h5; rcases c with rfl | rfl | rfl | rfl <;> decide
  rw [if_neg h2, if_neg h3, if_neg h4, if_neg h5]
  unfold dirT
  rw [if_neg (by omega), if_neg (by omega), if_neg (by omega), if_neg (by omega)]
theorem rc {w h a : Int} (hw : 1 ≤ w) (a0 : 0 ≤ a) (a1 : a < w * h) : ∃ r c, a = r * w + c ∧ 0 ≤ c ∧ c < w ∧ 0 ≤ r ∧ r < h ∧ a / w = r ∧ a % w = c := by
  have e := Int.emod_add_mul_ediv a w
  have c0 := Int.emod_nonneg a (show w ≠ 0 by omega)
  have c1 := Int.emod_lt_of_pos a (show 0 < w by omega)
  have r0 : 0 ≤ a / w := Int.ediv_nonneg a0 (by omega)
  have r1 : a / w < h := Int.ediv_lt_of_lt_mul (by omega) (by rw [Int.mul_comm]; exact a1)
  exact ⟨a / w, a % w, by rw [Int.mul_comm]; omega, c0, c1, r0, r1, rfl, rfl⟩
theorem rc_div {w r c : Int} (hc : 0 ≤ c) (hc' : c < w) : (r * w + c) / w = r ∧ (r * w + c) % w = c := by
  constructor
  · rw [Int.add_comm, Int.add_mul_ediv_right _ _ (by omega), Int.ediv_eq_zero_of_lt hc hc', Int.zero_add]
  · rw [Int.add_comm, Int.add_mul_emod_self_right, Int.emod_eq_of_lt hc hc']
theorem rc_lt {w h r c : Int} (hw : 1 ≤ w) (r0 : 0 ≤ r) (r1 : r < h) (c0 : 0 ≤ c) (c1 : c < w) : 0 ≤ r * w + c ∧ r * w + c < w * h := by
  have h1 : 0 ≤ r * w := Int.mul_nonneg r0 (by omega)
  have h2 : (r + 1) * w ≤ h * w := Int.mul_le_mul_of_nonneg_right (by omega) (by omega)
  rw [Int.add_mul, Int.one_mul] at h2
  rw [Int.mul_comm w h]
  omega
/-- The next cell by its row and column. -/
theorem nxt_rc {w h r c d : Int} (hw : 1 ≤ w) (r0 : 0 ≤ r) (r1 : r < h) (c0 : 0 ≤ c) (c1 : c < w) : nxt w (w * h) (r * w + c) d =
    (if d = 0 then (if 1 ≤ r then some ((r - 1) * w + c) else none) else if d = 1 then (if c ≠ w - 1 then some (r * w + (c + 1)) else none) else if d = 2 then (if r + 1 < h then some ((r + 1) * w + c) else none) else (if c ≠ 0 then some (r * w + (c - 1)) else none)) := by
  have e := (rc_div (r := r) c0 c1).2
  unfold nxt
  have hr : (r * w + c ≥ w ↔ 1 ≤ r) := by
    constructor
    · intro hh
      rcases Int.lt_or_le r 1 with q | q
      · have : r = 0 := by omega
        subst this; omega
      · exact q
    · intro q
      have := Int.mul_le_mul_of_nonneg_right q (show 0 ≤ w by omega)
      omega
  have hr2 : (r * w + c + w < w * h ↔ r + 1 < h) := by
    constructor
    · intro hh
      rcases Int.lt_or_le (r + 1) h with q | q
      · exact q
      · have hh' : r + 1 = h := by omega
        rw [← hh', Int.mul_comm w, Int.add_mul, Int.one_mul] at hh
        omega
    · intro q
      have := (rc_lt (h := h) (r := r + 1) (c := c) hw (by omega) q c0 c1).2
      rw [Int.add_mul, Int.one_mul] at this; omega
  rw [e]
  by_cases d0 : d = 0
  · rw [if_pos d0, if_pos d0]
    by_cases q : 1 ≤ r
    · rw [if_pos (hr.2 q), if_pos q, Int.sub_mul, Int.one_mul]; congr 1; omega
    · rw [if_neg (fun x => q (hr.1 x)), if_neg q]
  rw [if_neg d0, if_neg d0]
  by_cases d1 : d = 1
  · rw [if_pos d1, if_pos d1]
    by_cases q : c ≠ w - 1
    · rw [if_pos q, if_pos q]; congr 1; omega
    · rw [if_neg q, if_neg q]
  rw [if_neg d1, if_neg d1]
  by_cases d2 : d = 2
  · rw [if_pos d2, if_pos d2]
    by_cases q : r + 1 < h
    · rw [if_pos (hr2.2 q), if_pos q, Int.add_mul, Int.one_mul]; congr 1; omega
    · rw [if_neg (fun x => q (hr2.1 x)), if_neg q]
  rw [if_neg d2, if_neg d2]
  by_cases q : c ≠ 0
  · rw [if_pos q, if_pos q]; congr 1; omega
  · rw [if_neg q, if_neg q]
theorem piT_rc {w h r c : Int} (c0 : 0 ≤ c) (c1 : c < w) : piT w h (r * w + c) = c * h + (h - 1 - r) := by
  unfold piT; rw [(rc_div c0 c1).1, (rc_div c0 c1).2]
theorem piF_rc {w r c : Int} (c0 : 0 ≤ c) (c1 : c < w) : piF w (r * w + c) = r * w + (w - 1 - c) := by
  unfold piF; rw [(rc_div c0 c1).1, (rc_div c0 c1).2]
section
variable {w h r c : Int} (hw : 1 ≤ w) (r0 : 0 ≤ r) (r1 : r < h) (c0 : 0 ≤ c) (c1 : c < w)
include hw r0 r1 c0 c1
theorem nxt_0 : nxt w (w * h) (r * w + c) 0 = if 1 ≤ r then some ((r - 1) * w + c) else none := by rw [nxt_rc hw r0 r1 c0 c1, if_pos rfl]
theorem nxt_1 : nxt w (w * h) (r * w + c) 1 = if c ≠ w - 1 then some (r * w + (c + 1)) else none := by rw [nxt_rc hw r0 r1 c0 c1, if_neg (by decide), if_pos rfl]
theorem nxt_2 : nxt w (w * h) (r * w + c) 2 = if r + 1 < h then some ((r + 1) * w + c) else none := by rw [nxt_rc hw r0 r1 c0 c1, if_neg (by decide), if_neg (by decide), if_pos rfl]
theorem nxt_3 : nxt w (w * h) (r * w + c) 3 = if c ≠ 0 then some (r * w + (c - 1)) else none := by rw [nxt_rc hw r0 r1 c0 c1, if_neg (by decide), if_neg (by decide), if_neg (by decide)]
end
theorem ite_map {p q : Prop} [Decidable p] [Decidable q] {x y : Int} {f : Int → Int} (h : p ↔ q) (e : q → x = f y) : (if p then some x else none) = (if q then some y else none).map f := by
  by_cases c : q
  · rw [if_pos (h.2 c), if_pos c, Option.map_some, e c]
  · rw [if_neg (fun x => c (h.1 x)), if_neg c]; rfl
theorem next_T {w h a d : Int} (hw : 1 ≤ w) (hh : 1 ≤ h) (ho : Ok (w * h) (a, d)) : nxt h (w * h) (piT w h a) (deT d) = (nxt w (w * h) a d).map (piT w h) := by
  have a0 : 0 ≤ a ∧ a < w * h := ho.1
  obtain ⟨r, c, rfl, c0, c1, r0, r1, _, _⟩ := rc hw a0.1 a0.2
  have hd : 0 ≤ d ∧ d ≤ 3 := ho.2
  have cd : d = 0 ∨ d = 1 ∨ d = 2 ∨ d = 3 := by omega
  have e : nxt h (w * h) = nxt h (h * w) := by rw [Int.mul_comm]
  rw [piT_rc c0 c1, e]
  rcases cd with rfl | rfl | rfl | rfl
  · rw [show deT 0 = 1 from rfl, nxt_1 hh c0 c1 (by omega) (by omega), nxt_0 hw r0 r1 c0 c1]
    exact ite_map (by omega) (fun q => by rw [piT_rc c0 c1]; omega)
  · rw [show deT 1 = 2 from rfl, nxt_2 hh c0 c1 (by omega) (by omega), nxt_1 hw r0 r1 c0 c1]
    exact ite_map (by omega) (fun q => by rw [piT_rc (by omega) (by omega)])
  · rw [show deT 2 = 3 from rfl, nxt_3 hh c0 c1 (by omega) (by omega), nxt_2 hw r0 r1 c0 c1]
    exact ite_map (by omega) (fun q => by rw [piT_rc c0 c1]; omega)
  · rw [show deT 3 = 0 from rfl, nxt_0 hh c0 c1 (by omega) (by omega), nxt_3 hw r0 r1 c0 c1]
    exact ite_map (by omega) (fun q => by rw [piT_rc (by omega) (by omega)])
theorem next_F {w h a d : Int} (hw : 1 ≤ w) (ho : Ok (w * h) (a, d)) : nxt w (w * h) (piF w a) (deF d) = (nxt w (w * h) a d).map (piF w) := by
  have a0 : 0 ≤ a ∧ a < w * h := ho.1
  obtain ⟨r, c, rfl, c0, c1, r0, r1, _, _⟩ := rc hw a0.1 a0.2
  have hd : 0 ≤ d ∧ d ≤ 3 := ho.2
  have cd : d = 0 ∨ d = 1 ∨ d = 2 ∨ d = 3 := by omega
  rw [piF_rc c0 c1]
  rcases cd with rfl | rfl | rfl | rfl
  · rw [show deF 0 = 0 from rfl, nxt_0 hw r0 r1 (by omega) (by omega), nxt_0 hw r0 r1 c0 c1]
    exact ite_map Iff.rfl (fun q => by rw [piF_rc c0 c1])
  · rw [show deF 1 = 3 from rfl, nxt_3 hw r0 r1 (by omega) (by omega), nxt_1 hw r0 r1 c0 c1]
    exact ite_map (by omega) (fun q => by rw [piF_rc (by omega) (by omega)]; omega)
  · rw [show deF 2 = 2 from rfl, nxt_2 hw r0 r1 (by omega) (by omega), nxt_2 hw r0 r1 c0 c1]
    exact ite_map Iff.rfl (fun q => by rw [piF_rc c0 c1])
  · rw [show deF 3 = 1 from rfl, nxt_1 hw r0 r1 (by omega) (by omega), nxt_3 hw r0 r1 c0 c1]
    exact ite_map (by omega) (fun q => by rw [piF_rc (by omega) (by omega)]; omega)
theorem piT_in {w h a : Int} (hw : 1 ≤ w) (hh : 1 ≤ h) (ha : 0 ≤ a ∧ a < w * h) : 0 ≤ piT w h a ∧ piT w h a < w * h := by
  obtain ⟨r, c, rfl, c0, c1, r0, r1, _, _⟩ := rc hw ha.1 ha.2
  rw [piT_rc c0 c1, Int.mul_comm w h]
  exact rc_lt hh c0 c1 (by omega) (by omega)
theorem piF_in {w h a : Int} (hw : 1 ≤ w) (ha : 0 ≤ a ∧ a < w * h) : 0 ≤ piF w a ∧ piF w a < w * h := by
  obtain ⟨r, c, rfl, c0, c1, r0, r1, _, _⟩ := rc hw ha.1 ha.2
  rw [piF_rc c0 c1]
  exact rc_lt hw r0 r1 (by omega) (by omega)
theorem mod_two {m x : Int} (h0 : 0 ≤ x) (h1 : x < 2 * m) : x % m = if x < m then x else x - m := by
  by_cases c : x < m
  · rw [if_pos c, Int.emod_eq_of_lt h0 c]
  · rw [if_neg c, ← Int.emod_eq_of_lt (a := x - m) (b := m) (by omega) (by omega), Int.sub_emod_right]
theorem siT_eq {w h k : Int} (hw : 1 ≤ w) (hh : 1 ≤ h) (k0 : 0 ≤ k) (k1 : k < 2 * (w + h)) : siT w h k = if k + h < 2 * (w + h) then k + h else k + h - 2 * (w + h) := by
  unfold siT; exact mod_two (by omega) (by omega)
theorem siF_eq {w h k : Int} (hw : 1 ≤ w) (hh : 1 ≤ h) (k0 : 0 ≤ k) (k1 : k < 2 * (w + h)) : siF w h k = if k ≤ w - 1 then w - 1 - k else w - 1 - k + 2 * (w + h) := by
  unfold siF; rw [mod_two (by omega) (by omega)]
  by_cases c : k ≤ w - 1
  · rw [if_pos c, if_neg (by omega)]; omega
  · rw [if_neg c, if_pos (by omega)]
theorem siT_in {w h k : Int} (hw : 1 ≤ w) (hh : 1 ≤ h) (k0 : 0 ≤ k) (k1 : k < 2 * (w + h)) : 0 ≤ siT w h k ∧ siT w h k < 2 * (w + h) := by
  rw [siT_eq hw hh k0 k1]; split <;> omega
theorem siF_in {w h k : Int} (hw : 1 ≤ w) (hh : 1 ≤ h) (k0 : 0 ≤ k) (k1 : k < 2 * (w + h)) : 0 ≤ siF w h k ∧ siF w h k < 2 * (w + h) := by
  rw [siF_eq hw hh k0 k1]; split <;> omega
theorem siT_inj {w h k m : Int} (hw : 1 ≤ w) (hh : 1 ≤ h) (k0 : 0 ≤ k) (k1 : k < 2 * (w + h)) (m0 : 0 ≤ m) (m1 : m < 2 * (w + h)) : siT w h k = siT w h m ↔ k = m := by
  rw [siT_eq hw hh k0 k1, siT_eq hw hh m0 m1]; split <;> split <;> omega
theorem siF_inj {w h k m : Int} (hw : 1 ≤ w) (hh : 1 ≤ h) (k0 : 0 ≤ k) (k1 : k < 2 * (w + h)) (m0 : 0 ≤ m) (m1 : m < 2 * (w + h)) : siF w h k = siF w h m ↔ k = m := by
  rw [siF_eq hw hh k0 k1, siF_eq hw hh m0 m1]; split <;> split <;> omega
theorem deT_back (d : Int) : deT ((d + 2) % 4) = (deT d + 2) % 4 := by unfold deT; omega
theorem deF_back {d : Int} (hd : 0 ≤ d ∧ d ≤ 3) : deF ((d + 2) % 4) = (deF d + 2) % 4 := by
  have c : d = 0 ∨ d = 1 ∨ d = 2 ∨ d = 3 := by omega
  rcases c with rfl | rfl | rfl | rfl <;> rfl
end Go.Proofs.YtambkogocbgbmaaGreat.Tr
/- Contracts over the ideal memory: spec's sights, its next cell, its mirrors. -/
namespace Go.Proofs.YtambkogocbgbmaaGreat.Id
open Go.Id
open Go.Proofs
set_option linter.unusedVariables false
set_option maxRecDepth 100000
variable {X : Ctx Tryz.prog} {lo : Nat}
theorem many_nat' {g : Gd} {w hh : Nat} (h1 : g.w = w) (h2 : g.hi = hh) : many g = 2 * ((w : Int) + hh) := by unfold many; rw [h1, h2]
theorem rays_nodup {w hh : Nat} (hw : 1 ≤ w ∧ w ≤ 5) (hh1 : 1 ≤ hh ∧ hh ≤ 5) : (rays w hh).Nodup := by
  have : ∀ w : Fin 5, ∀ hh : Fin 5, (rays (w.val + 1) (hh.val + 1)).Nodup := by decide +kernel
  have := this ⟨w - 1, by omega⟩ ⟨hh - 1, by omega⟩
  simp only at this
  rwa [Nat.sub_add_cancel hw.1, Nat.sub_add_cancel hh1.1] at this
theorem lastIx_none {x : Cl} (l : List Cl) (h : ∀ y ∈ l, y ≠ x) : lastIx l x = -1 := by
  have : ∀ (l : List Cl) (p : Nat × Int), (∀ y ∈ l, y ≠ x) → (l.foldl (fun (p : Nat × Int) y => (p.1 + 1, if y = x then (p.1 : Int) else p.2)) p).2 = p.2 := by
    intro l
    induction l with
    | nil => intro p _; rfl
    | cons y l ih => intro p h; rw [List.foldl_cons, ih _ fun z hz => h z (by simp [hz])]; simp [h y (by simp)]
  exact this l (0, -1) h
theorem lastIx_at {x : Cl} {l : List Cl} (hd : l.Nodup) {k : Nat} (h : l[k]? = some x) : lastIx l x = k := by
  obtain ⟨hk, he⟩ := List.getElem?_eq_some_iff.1 h
  have e : l = (l.take k ++ [x]) ++ l.drop (k + 1) := by
    rw [← he, ← List.take_succ_eq_append_getElem hk, List.take_append_drop]
  rw [e] at hd
  have hnot : ∀ y ∈ l.drop (k + 1), y ≠ x := fun y hy e' => by
    subst e'
    exact (List.nodup_append.1 hd).2.2 y (by simp) y hy rfl
  have key : ∀ (m l : List Cl), (∀ y ∈ m, y ≠ x) → lastIx (l ++ m) x = lastIx l x := by
    intro m
    induction m with
    | nil => intro l _; rw [List.append_nil]
    | cons y m ih =>
      intro l h
      rw [show l ++ y :: m = (l ++ [y]) ++ m from by simp, ih _ fun z hz => h z (by simp [hz]), lastIx_snoc, if_neg (h y (by simp))]
  rw [e, key _ _ hnot, lastIx_snoc, if_pos rfl, List.length_take, Nat.min_eq_left (Nat.le_of_lt hk)]
theorem l3Of_ok (g : Gd) (at_ d : Int) (ad : Option Addr) (fl : Nat) (h : Hp) (hg : gOk g = true) (hd : 0 ≤ d ∧ d ≤ 3) : Tri X lo 173 [.agg #[.int .i64 g.w, .slice ad g.cs.length fl], .int .i64 at_, .int .i64 d] h fun v h' => v = .int .i64 (sightOf g at_ d) ∧ Ext h h' := by
  refine enter tbOk mtOk ⟨[], []⟩ 400 Tryz.func173 rfl rfl rfl fun hlo => ?_
  obtain ⟨w, hh, q1, q2, q3, q4, q5⟩ := gOk_nat hg
  have p5 := prod5 (i := hh) (w := w) (by omega) (by omega)
  rw [Int.mul_comm] at p5
  have hm := many_nat' q1 q2
  have hsr : sideRays g = rays w hh := by unfold sideRays; rw [q1, q2]; rfl
  have hso : sightOf g at_ d = lastIx (rays w hh) (at_, (d + 2) % 4) := by unfold sightOf; rw [if_pos ⟨hg, hd⟩, hsr]
  have hlen : (rays w hh).length = 2 * (w + hh) := by have := sideRays_len hg; rw [hsr, hm] at this; omega
  have hro := rays_ok q3 q4
  refine loop (σ := Nat) tbOk mtOk ⟨[], []⟩ (fun k => [(7, .v (.int .i64 (k : Int))), (3, .l 0 0), (1, .v (.int .i64 at_)), (2, .v (.int .i64 d))]) (fun _ => [[.int .i64 g.w, .slice ad g.cs.length fl]]) (fun k h' => k ≤ 2 * (w + hh) ∧ Ext h h' ∧ ∀ j < k, (rays w hh)[j]? ≠ some (at_, (d + 2) % 4)) (fun k => 2 * (w + hh) - k) 400 0 (fun _ => rfl) ⟨rfl, rfl, rfl, rfl, trivial⟩ ⟨rfl, trivial⟩ ⟨by omega, Ext.refl _, fun j hj => by omega⟩ (fun k h' hI again => ?_)
  obtain ⟨i1, i2, i3⟩ := hI
  refine callP (l3Many_ok g ad fl h' hg (by omega)) ?_
  rintro v h1 ⟨rfl, e1⟩
  refine cnd (fun c1 => ?_) (fun c1 => ?_)
  · have c1 : (k : Int) < many g := by simpa using c1
    rw [hm] at c1
    have S := l3Ray_ok (X := X) (lo := lo) w hh k ad g.cs.length fl h1 q3 q4 q5 (by omega)
    rw [← q1] at S
    refine callP S ?_
    rintro v h2 ⟨⟨r, hr, rfl⟩, e2⟩
    have hrm := hro r (List.mem_of_getElem? hr)
    have e3 := (i2.trans e1).trans e2
    have next : r ≠ (at_, (d + 2) % 4) → ∀ j < k + 1, (rays w hh)[j]? ≠ some (at_, (d + 2) % 4) := fun hne j hj => by
      by_cases hjk : j = k
      · subst hjk; rw [hr]; exact fun e => hne (Option.some.inj e)
      · exact i3 j (by omega)
    have hw1 : some (Sl.v (.int .i64 (IntKind.i64.wrap ((k : Int) + 1)))) = some (Sl.v (.int .i64 ((k + 1 : Nat) : Int))) := by rw [wr (by omega) (by omega)]; rfl
    refine cnd (fun c2 => ?_) (fun c2 => ?_)
    · have c2 : r.1 = at_ := by simpa using c2
      refine callP (l2Back_ok r.2 h2 hrm.2) ?_
      rintro v h3 ⟨rfl, e4⟩
      refine cnd (fun c3 => ?_) (fun c3 => ?_)
      · have c3 : (r.2 + 2) % 4 = d := by simpa using c3
        have hrr : r = (at_, (d + 2) % 4) := by
          obtain ⟨r1, r2⟩ := r
          simp only at c2 c3 hrm
          rw [c2]; congr 1; omega
        refine And.intro ?_ (e3.trans e4)
        show Value.int .i64 (k : Int) = _
        rw [hso, lastIx_at (rays_nodup q3 q4) (hrr ▸ hr)]
      · have c3 : (r.2 + 2) % 4 ≠ d := by simpa using c3
        refine again (k + 1) _ _ _ (by omega) ⟨hw1, rfl, rfl, rfl, trivial⟩ ⟨rfl, trivial⟩ ⟨by omega, e3.trans e4, next fun e => c3 ?_⟩
        subst e; show ((d + 2) % 4 + 2) % 4 = d; omega
    · have c2 : r.1 ≠ at_ := by simpa using c2
      refine cndF ?_
      refine again (k + 1) _ _ _ (by omega) ⟨hw1, rfl, rfl, rfl, trivial⟩ ⟨rfl, trivial⟩ ⟨by omega, e3, next fun e => c2 (by rw [e])⟩
  · have c1 : ¬ (k : Int) < many g := by simpa using c1
    rw [hm] at c1
    refine And.intro ?_ (i2.trans e1)
    rw [hso, lastIx_none]
    intro y hy e
    obtain ⟨j, hj⟩ := List.mem_iff_getElem?.1 hy
    have hjl := (List.getElem?_eq_some_iff.1 hj).1
    exact i3 j (by omega) (by rw [hj, e])
end Go.Proofs.YtambkogocbgbmaaGreat.Id
/- Contracts over the ideal memory: spec's next cell, its mirrors. -/
namespace Go.Proofs.YtambkogocbgbmaaGreat.Id
open Go.Id
open Go.Proofs
set_option linter.unusedVariables false
set_option maxRecDepth 100000
variable {X : Ctx Tryz.prog} {lo : Nat}
theorem sDirTurn_ok (k d : Int) (h : Hp) (hd : 0 ≤ d ∧ d ≤ 3) : Tri X lo 157 [.int .i64 k, .int .i64 d] h fun v h' => v = .int .i64 (Tr.dirT k d) ∧ Ext h h' := by
  refine enter tbOk mtOk ⟨[], []⟩ 400 Tryz.func157 rfl rfl rfl fun hlo => ?_
  refine callP (l6In_ok d 0 3 h) ?_
  rintro v h1 ⟨rfl, rfl⟩
  have hc : (decide (0 ≤ d) && decide (d ≤ 3)) = true := by simp; exact hd
  refine cnd (fun c1 => by rw [hc] at c1; cases c1) (fun _ => ?_)
  have x1 : ∀ d : Int, 0 ≤ d ∧ d ≤ 3 → IntKind.i64.wrap ↑(BitVec.ofInt IntKind.i64.bits d ^^^ BitVec.ofInt IntKind.i64.bits 1).toNat = (if d = 0 then 1 else if d = 1 then 0 else if d = 2 then 3 else 2) := by
    intro d hd
    obtain rfl | rfl | rfl | rfl : d = 0 ∨ d = 1 ∨ d = 2 ∨ d = 3 := by omega
    all_goals decide
  have x2 : IntKind.i64.wrap (3 - d) = 3 - d := wr (by omega) (by omega)
  refine cnd (fun c1 => ?_) (fun c1 => ?_)
  · have c1 : k = 2 := by simpa using c1
    refine And.intro ?_ (Ext.refl _)
    rw [x1 d hd]; unfold Tr.dirT; rw [if_pos (show k = 2 ∨ k = 4 from .inl c1)]
  · have c1 : k ≠ 2 := by simpa using c1
    refine cnd (fun c2 => ?_) (fun c2 => ?_)
    · have c2 : k = 4 := by simpa using c2
      refine And.intro ?_ (Ext.refl _)
      rw [x1 d hd]; unfold Tr.dirT; rw [if_pos (show k = 2 ∨ k = 4 from .inr c2)]
    · have c2 : k ≠ 4 := by simpa using c2
      refine cnd (fun c3 => ?_) (fun c3 => ?_)
      · have c3 : k = 3 := by simpa using c3
        refine And.intro ?_ (Ext.refl _)
        rw [x2]; unfold Tr.dirT; rw [if_neg (show ¬ (k = 2 ∨ k = 4) by omega), if_pos (show k = 3 ∨ k = 5 from .inl c3)]
      · have c3 : k ≠ 3 := by simpa using c3
        refine cnd (fun c4 => ?_) (fun c4 => ?_)
        · have c4 : k = 5 := by simpa using c4
          refine And.intro ?_ (Ext.refl _)
          rw [x2]; unfold Tr.dirT; rw [if_neg (show ¬ (k = 2 ∨ k = 4) by omega), if_pos (show k = 3 ∨ k = 5 from .inr c4)]
        · have c4 : k ≠ 5 := by simpa using c4
          refine And.intro ?_ (Ext.refl _)
          unfold Tr.dirT; rw [if_neg (show ¬ (k = 2 ∨ k = 4) by omega), if_neg (show ¬ (k = 3 ∨ k = 5) by omega)]
def dr4 (a b c e d : Int) : Int := if d = 0 then a else if d = 1 then b else if d = 2 then c else e
theorem ld4 {h : Hp} {a b c e d : Int} (hd : 0 ≤ d ∧ d ≤ 3) : Ld (h.push (.cells [.int .i64 a, .int .i64 b, .int .i64 c, .int .i64 e] 1 0)) (addA ⟨h.n, 0, some 0⟩ (d.toNat * 1)) 1 [.int .i64 (dr4 a b c e d)] := by
  have := ((Row.push (h := h) (e := 0) (enc := iE) (sz := 1) (l := [a, b, c, e])).sls fun _ => rfl).ld (fun _ => rfl) (i := d.toNat) (by simp; omega)
  obtain rfl | rfl | rfl | rfl : d = 0 ∨ d = 1 ∨ d = 2 ∨ d = 3 := by omega
  all_goals exact this
theorem nxt_by {w h r c d : Int} (hw : 1 ≤ w) (r0 : 0 ≤ r) (r1 : r < h) (c0 : 0 ≤ c) (c1 : c < w) (hd : 0 ≤ d ∧ d ≤ 3) : Tr.nxt w (w * h) (r * w + c) d =
    if (0 ≤ r + dr4 (-1) 0 1 0 d ∧ r + dr4 (-1) 0 1 0 d ≤ h - 1) ∧ (0 ≤ c + dr4 0 1 0 (-1) d ∧ c + dr4 0 1 0 (-1) d ≤ w - 1) then some ((r + dr4 (-1) 0 1 0 d) * w + (c + dr4 0 1 0 (-1) d)) else none := by
  rw [Tr.nxt_rc hw r0 r1 c0 c1]
  obtain rfl | rfl | rfl | rfl : d = 0 ∨ d = 1 ∨ d = 2 ∨ d = 3 := by omega
  · simp only [dr4, if_true]
    by_cases q : 1 ≤ r
    · rw [if_pos q, if_pos (by omega)]; congr 2; omega
    · rw [if_neg q, if_neg (by omega)]
  · simp only [dr4, if_true, show ¬ (1 : Int) = 0 from by decide, if_false]
    by_cases q : c ≠ w - 1
    · rw [if_pos q, if_pos (by omega), Int.add_zero]
    · rw [if_neg q, if_neg (by omega)]
  · simp only [dr4, if_true, show ¬ (2 : Int) = 0 from by decide, show ¬ (2 : Int) = 1 from by decide, if_false]
    by_cases q : r + 1 < h
    · rw [if_pos q, if_pos (by omega), Int.add_zero]
    · rw [if_neg q, if_neg (by omega)]
  · simp only [dr4, show ¬ (3 : Int) = 0 from by decide, show ¬ (3 : Int) = 1 from by decide, show ¬ (3 : Int) = 2 from by decide, if_false]
    by_cases q : c ≠ 0
    · rw [if_pos q, if_pos (by omega), Int.add_zero]; congr 1
    · rw [if_neg q, if_neg (by omega)]
theorem dr4_le {a b c e d : Int} (ha : -1 ≤ a ∧ a ≤ 1) (hb : -1 ≤ b ∧ b ≤ 1) (hc : -1 ≤ c ∧ c ≤ 1) (he : -1 ≤ e ∧ e ≤ 1) : -1 ≤ dr4 a b c e d ∧ dr4 a b c e d ≤ 1 := by
  unfold dr4
  split
  · exact ha
  · split
    · exact hb
    · split
      · exact hc
      · exact he
theorem l2Next_ok (g : Gd) (at_ d : Int) (ad : Option Addr) (fl : Nat) (h : Hp) (hg : gOk g = true) (ha : 0 ≤ at_ ∧ at_ < g.cs.length) (hd : 0 ≤ d ∧ d ≤ 3) : Tri X lo 172 [.agg #[.int .i64 g.w, .slice ad g.cs.length fl], .int .i64 at_, .int .i64 d] h
    fun v h' => v = (match Tr.nxt g.w g.cs.length at_ d with | some b => .tuple #[.agg #[.int .i64 b, .int .i64 d], .bool true] | none => .tuple #[.agg #[.int .i64 0, .int .i64 0], .bool false]) ∧ Ext h h' := by
  refine enter tbOk mtOk ⟨[], [(1, [0, 1, 2, 3, 5, 4, 6, 7, 8, 9], [0, 0, 2, 7, 0, 0, 48, 112, 255, 511]), (2, [0, 1, 2, 3, 5, 4, 6, 7, 8, 9], [0, 0, 2, 7, 0, 0, 48, 112, 255, 511])]⟩ 400 Tryz.func172 rfl rfl rfl fun hlo => ?_
  obtain ⟨w, hh, q1, q2, q3, q4, q5⟩ := gOk_nat hg
  have hw0 : g.w ≠ 0 := by omega
  refine And.intro (by kernel_rfl) ?_
  refine And.intro hw0 ?_
  refine And.intro Is.r ?_
  refine And.intro ⟨hd.1, by show d < 4; omega⟩ ?_
  refine ⟨_, ld4 hd, ?_⟩
  refine And.intro (by kernel_rfl) ?_
  refine And.intro hw0 ?_
  refine And.intro Is.r ?_
  refine And.intro ⟨hd.1, by show d < 4; omega⟩ ?_
  refine ⟨_, ld4 hd, ?_⟩
  have p5 := prod5 (i := hh) (w := w) (by omega) (by omega)
  rw [Int.mul_comm] at p5
  refine callP (high_ok g.w ad g.cs.length fl _ (by omega) (by omega)) ?_
  rintro v h1 ⟨rfl, e1⟩
  have e : Ext h h1 := ((Ext.push _ _).trans (Ext.push _ _)).trans e1
  obtain ⟨r, c, a1, a2, a3, a4, a5, a6, a7⟩ := Tr.rc (w := g.w) (h := hh) (a := at_) (by omega) ha.1 (by rw [q1, ← q5]; exact ha.2)
  have hnx := nxt_by (w := g.w) (h := hh) (by omega) a4 a5 a2 a3 hd
  rw [← a1, q1, ← q5, ← q1] at hnx
  have d1 := dr4_le (a := -1) (b := 0) (c := 1) (e := 0) (d := d) (by decide) (by decide) (by decide) (by decide)
  have d2 := dr4_le (a := 0) (b := 1) (c := 0) (e := -1) (d := d) (by decide) (by decide) (by decide) (by decide)
  generalize dr4 (-1) 0 1 0 d = dr at *
  generalize dr4 0 1 0 (-1) d = dc at *
  have hR : IntKind.i64.wrap (IntKind.i64.wrap (at_.tdiv g.w) + dr) = r + dr := by
    rw [Int.tdiv_eq_ediv_of_nonneg ha.1, a6, wr (n := r) (by omega) (by omega), wr (by omega) (by omega)]
  have hC : IntKind.i64.wrap (at_.tmod g.w + dc) = c + dc := by
    rw [Int.tmod_eq_emod_of_nonneg ha.1, a7, wr (by omega) (by omega)]
  have hH : IntKind.i64.wrap ((g.cs.length : Int) / g.w - 1) = hh - 1 := by
    have : (g.cs.length : Int) / g.w = hh := by rw [← q2]; rfl
    rw [this, wr (by omega) (by omega)]
  have hW : IntKind.i64.wrap (g.w - 1) = g.w - 1 := wr (by omega) (by omega)
  refine callP (l6In_ok _ _ _ _) ?_
  rintro v h2 ⟨rfl, rfl⟩
  rw [hnx]
  refine cnd (fun c1 => ?_) (fun c1 => ?_)
  · rw [hR, hH] at c1
    refine cndT ?_
    refine And.intro ?_ e
    rw [if_neg (by simp at c1; omega)]
    rfl
  · rw [hR, hH] at c1
    refine callP (l6In_ok _ _ _ _) ?_
    rintro v h3 ⟨rfl, rfl⟩
    refine cnd (fun c2 => ?_) (fun c2 => ?_)
    · rw [hC, hW] at c2
      refine And.intro ?_ e
      rw [if_neg (by simp at c1 c2; omega)]
      rfl
    · rw [hC, hW] at c2
      have hr : 0 ≤ r + dr ∧ r + dr ≤ hh - 1 := by simpa using c1
      have hc : 0 ≤ c + dc ∧ c + dc ≤ g.w - 1 := by simpa using c2
      refine And.intro ?_ e
      rw [if_pos ⟨hr, hc⟩]
      show Value.tuple #[.agg #[.int .i64 (IntKind.i64.wrap (IntKind.i64.wrap (IntKind.i64.wrap (IntKind.i64.wrap (at_.tdiv g.w) + dr) * g.w) + IntKind.i64.wrap (at_.tmod g.w + dc))), .int .i64 d], .bool true] = _
      have m1 : (r + dr) * g.w ≤ 5 * 5 := Int.mul_le_mul (by omega) (by omega) (by omega) (by omega)
      have m2 : 0 ≤ (r + dr) * g.w := Int.mul_nonneg hr.1 (by omega)
      rw [hR, hC, wr (n := (r + dr) * g.w) (by omega) (by omega), wr (by omega) (by omega)]
end Go.Proofs.YtambkogocbgbmaaGreat.Id
/- Contracts over the ideal memory: spec's walk of light. -/
namespace Go.Proofs.YtambkogocbgbmaaGreat.Id
open Go.Id
open Go.Proofs
set_option linter.unusedVariables false
set_option maxRecDepth 100000
variable {X : Ctx Tryz.prog} {lo : Nat}
/-- spec's walk in the memory: what was visited, how it ended. -/
structure MW (lo : Nat) (h0 h : Hp) (g : Gd) (ad : Option Addr) (fl wb : Nat) (o1 : Option (Nat × Nat)) (vs : List V3) (o2 : Option (Nat × Nat)) (es : List V3) : Prop where
  bx : Bx h wb [.int .i64 g.w, .slice ad g.cs.length fl, gv o1 vs.length, gv o2 es.length]
  g1 : Gw lo h vE 3 o1 vs
  g2 : Gw lo h vE 3 o2 es
  s1 : ¬isB o1 wb
  s2 : ¬isB o2 wb
  s6 : ∀ i, isB o1 i → ¬isB o2 i
  l1 : ∀ i, isB o1 i → h0.n ≤ i
  l2 : ∀ i, isB o2 i → h0.n ≤ i
  l4 : h0.n ≤ wb
  l5 : lo ≤ h0.n
  ext : Ext h0 h
section
variable {h0 h h' : Hp} {g : Gd} {ad : Option Addr} {fl wb : Nat} {o1 o2 : Option (Nat × Nat)} {vs es : List V3}
theorem MW.up (m : MW lo h0 h g ad fl wb o1 vs o2 es) (e : Ext h h') : MW lo h0 h' g ad fl wb o1 vs o2 es :=
  ⟨m.bx.ext e, m.g1.ext e, m.g2.ext e, m.s1, m.s2, m.s6, m.l1, m.l2, m.l4, m.l5, m.ext.trans e⟩
theorem send_ok (k a w : Int) (m : MW lo h0 h g ad fl wb o1 vs o2 es) (hm : es.length + 1 ≤ Id.maxLen) : Tri X lo 155 [.pointer (some ⟨wb, 0, none⟩), .int .i64 k, .int .i64 a, .int .i64 w] h fun v h' => ∃ o2', MW lo h0 h' g ad fl wb o1 vs o2' (es ++ Tr.en k a w) := by
  refine enter tbOk mtOk ⟨[], []⟩ 400 Tryz.func155 rfl rfl rfl fun hlo => ?_
  refine cnd (fun c1 => ?_) (fun c1 => ?_)
  · have c1 : w > 0 := by simpa using c1
    have hen : Tr.en k a w = [(k, a, w)] := if_pos c1
    rw [hen]
    refine ⟨_, m.bx.ldF (i := 3) rfl, ?_⟩
    have xp : Ext h (h.push (.cells (vE (k, a, w)) 3 0)) := Ext.push _ _
    obtain ⟨b, e, h2, ap, gw, gr⟩ := (m.g2.ext xp).app vE3 (by decide) hm (Nat.le_trans hlo xp.n) (k, a, w)
    refine ⟨vE (k, a, w), one_cells rfl, _, _, ap, ?_⟩
    have hlt := m.bx.lt
    have xn := xp.n
    have hb2 : Bx h2 wb [.int .i64 g.w, .slice ad g.cs.length fl, gv o1 vs.length, gv o2 es.length] := ⟨Nat.lt_of_lt_of_le m.bx.lt (Nat.le_trans xp.n gr.n), (gr.g wb (Nat.lt_of_lt_of_le m.bx.lt xp.n) m.s2).trans (m.bx.ext xp).g⟩
    refine ⟨_, hb2.stF (i := 3) (Nat.le_trans m.l5 m.l4) (Nat.le_refl 4), ?_⟩
    have old : ∀ j, j < h.n → ¬isB o2 j → ¬isB (some (b, e)) j := fun j hj h1 q => by
      rcases gr.b j q with q | q
      · exact h1 q
      · omega
    have hnb := old wb hlt m.s2
    refine ⟨some (b, e), hb2.set, ?_, gw.off hnb _, m.s1, hnb, fun i hi q => old i (m.g1.lt hi).1 (m.s6 i hi) q, m.l1, fun i hi => ?_, m.l4, m.l5, ⟨Nat.le_trans m.ext.n (Nat.le_trans xn gr.n), fun i hi => ?_⟩⟩
    · exact (m.g1.keep (Nat.le_trans xn gr.n) fun i hi hb => (gr.g i (Nat.lt_of_lt_of_le hi xn) (m.s6 i hb)).trans (xp.g i hi)).off m.s1 _
    · rcases gr.b i hi with q | q
      · exact m.l2 i q
      · have := m.ext.n; omega
    · have := m.l4
      have hn := m.ext.n
      simp only [Hp.set]; rw [if_neg (by omega)]
      exact ((gr.g i (by omega) fun q => by have := m.l2 i q; omega).trans (xp.g i (by omega))).trans (m.ext.g i hi)
  · have c1 : ¬ w > 0 := by simpa using c1
    have hen : Tr.en k a w = [] := if_neg c1
    rw [hen, List.append_nil]
    exact ⟨o2, m⟩
/-- A visit is told. -/
theorem MW.vis {x : V3} (m : MW lo h0 h g ad fl wb o1 vs o2 es) (hm : vs.length + 1 ≤ Id.maxLen) : ∃ b e h2, Ap lo (h.push (.cells (vE x) 3 0)) 3 (gv o1 vs.length) (vE x) 1 (gv (some (b, e)) (vs ++ [x]).length) h2 ∧ Bx h2 wb [.int .i64 g.w, .slice ad g.cs.length fl, gv o1 vs.length, gv o2 es.length] ∧
    MW lo h0 (h2.set wb (.cells [.int .i64 g.w, .slice ad g.cs.length fl, gv (some (b, e)) (vs ++ [x]).length, gv o2 es.length] 0 0)) g ad fl wb (some (b, e)) (vs ++ [x]) o2 es := by
  have xp : Ext h (h.push (.cells (vE x) 3 0)) := Ext.push _ _
  have xn := xp.n
  have hlt := m.bx.lt
  obtain ⟨b, e, h2, ap, gw, gr⟩ := (m.g1.ext xp).app vE3 (by decide) hm (Nat.le_trans (Nat.le_trans m.l5 m.ext.n) xp.n) x
  have hb2 : Bx h2 wb [.int .i64 g.w, .slice ad g.cs.length fl, gv o1 vs.length, gv o2 es.length] := ⟨Nat.lt_of_lt_of_le m.bx.lt (Nat.le_trans xp.n gr.n), (gr.g wb (Nat.lt_of_lt_of_le m.bx.lt xp.n) m.s1).trans (m.bx.ext xp).g⟩
  have old : ∀ j, j < h.n → ¬isB o1 j → ¬isB (some (b, e)) j := fun j hj h1 q => by
    rcases gr.b j q with q | q
    · exact h1 q
    · omega
  have hnb := old wb hlt m.s1
  refine ⟨b, e, h2, ap, hb2, hb2.set, gw.off hnb _, ?_, hnb, m.s2, fun i hi q => ?_, fun i hi => ?_, m.l2, m.l4, m.l5, ⟨Nat.le_trans m.ext.n (Nat.le_trans xn gr.n), fun i hi => ?_⟩⟩
  · exact (m.g2.keep (Nat.le_trans xn gr.n) fun i hi hb => (gr.g i (Nat.lt_of_lt_of_le hi xn) fun q => m.s6 i q hb).trans (xp.g i hi)).off m.s2 _
  · exact old i (m.g2.lt q).1 (fun q' => m.s6 i q' q) hi
  · rcases gr.b i hi with q | q
    · exact m.l1 i q
    · have := m.ext.n; omega
  · have := m.l4
    have hn := m.ext.n
    simp only [Hp.set]; rw [if_neg (by omega)]
    exact ((gr.g i (by omega) fun q => by have := m.l1 i q; omega).trans (xp.g i (by omega))).trans (m.ext.g i hi)
end
/-- Light that comes into a cell, walked in q rounds at most. -/
def ComeOk (X : Ctx Tryz.prog) (lo : Nat) (h0 : Hp) (g : Gd) (ad : Option Addr) (fl wb : Nat) (go : Int → Int → Int → Option Tr.Tr) (f : FuncId) : Prop :=
  ∀ (a d wt : Int) (t : Tr.Tr) (o1 : Option (Nat × Nat)) (vs : List V3) (o2 : Option (Nat × Nat)) (es : List V3) (h : Hp), (0 ≤ a ∧ a < g.cs.length) → (0 ≤ d ∧ d ≤ 3) → (0 ≤ wt ∧ wt ≤ 64) → go a d wt = some t → MW lo h0 h g ad fl wb o1 vs o2 es → vs.length + t.1.length ≤ 100000 → es.length + t.2.length ≤ 100000 →
    Tri X lo f [.pointer (some ⟨wb, 0, none⟩), .int .i64 a, .int .i64 d, .int .i64 wt] h fun v h' => ∃ o1' o2', MW lo h0 h' g ad fl wb o1' (vs ++ t.1) o2' (es ++ t.2)
section
variable {h0 : Hp} {g : Gd} {ad : Option Addr} {fl wb : Nat} {go : Int → Int → Int → Option Tr.Tr}
theorem leave_ok (hs : Sls h0 cE 2 ad g.cs) (hg : gOk g = true) (IH : ComeOk X lo h0 g ad fl wb go 125) :
    ∀ (a d wt : Int) (t : Tr.Tr) (o1 : Option (Nat × Nat)) (vs : List V3) (o2 : Option (Nat × Nat)) (es : List V3) (h : Hp), (0 ≤ a ∧ a < g.cs.length) → (0 ≤ d ∧ d ≤ 3) → (0 < wt ∧ wt ≤ 64) → Tr.lv g.w g.cs.length (sightOf g) go a d wt = some t → MW lo h0 h g ad fl wb o1 vs o2 es → vs.length + t.1.length ≤ 100000 → es.length + t.2.length ≤ 100000 →
    Tri X lo 158 [.pointer (some ⟨wb, 0, none⟩), .int .i64 a, .int .i64 d, .int .i64 wt] h fun v h' => ∃ o1' o2', MW lo h0 h' g ad fl wb o1' (vs ++ t.1) o2' (es ++ t.2) := by
  intro a d wt t o1 vs o2 es h ha hd hw ht m l1 l2
  refine enter tbOk mtOk ⟨[], []⟩ 400 Tryz.func158 rfl rfl rfl fun hlo => ?_
  refine ⟨_, m.bx.ldF (i := 0) rfl, ?_⟩
  refine callP (l2Next_ok g a d ad fl h hg ha hd) ?_
  rintro v h1 ⟨rfl, e1⟩
  unfold Tr.lv at ht
  rw [if_neg (by omega)] at ht
  have n5 : (g.cs.length : Int) ≤ 25 := by
    obtain ⟨w, hh, q1, q2, q3, q4, q5⟩ := gOk_nat hg
    have := prod5 (i := hh) (w := w) (by omega) (by omega)
    rw [Int.mul_comm] at this
    omega
  cases hnx : Tr.nxt g.w g.cs.length a d with
  | none =>
    rw [hnx] at ht
    cases ht
    refine cndF ?_
    refine ⟨_, (m.up e1).bx.ldF (i := 0) rfl, ?_⟩
    refine callP (l3Of_ok g a d ad fl h1 hg hd) ?_
    rintro v h2 ⟨rfl, e2⟩
    refine callP (send_ok 0 (sightOf g a d) wt (m.up (e1.trans e2)) (by simp at l2; unfold Id.maxLen; omega)) ?_
    rintro v h3 ⟨o2', m'⟩
    have : Tr.en 0 (sightOf g a d) wt = [(0, sightOf g a d, wt)] := if_pos (by omega)
    rw [this] at m'
    exact ⟨o1, o2', by simpa using m'⟩
  | some a' =>
    rw [hnx] at ht
    refine cndT ?_
    have ha' := Tr.nxt_in (gOk_iff.1 hg).1 (gOk_iff.1 hg).2.2.2.2.1 ha hd hnx
    exact callP (IH a' d wt t o1 vs o2 es h1 ha' hd (by omega) ht (m.up e1) l1 l2) fun v h' q => q
theorem half_ok (hs : Sls h0 cE 2 ad g.cs) (hg : gOk g = true) (IH : ComeOk X lo h0 g ad fl wb go 125) :
    ∀ (a d wt : Int) (t : Tr.Tr) (o1 : Option (Nat × Nat)) (vs : List V3) (o2 : Option (Nat × Nat)) (es : List V3) (h : Hp), (0 ≤ a ∧ a < g.cs.length) → (0 ≤ d ∧ d ≤ 3) → (0 ≤ wt ∧ wt ≤ 64) → Tr.lv g.w g.cs.length (sightOf g) go a d wt = some t → MW lo h0 h g ad fl wb o1 vs o2 es → vs.length + t.1.length ≤ 100000 → es.length + t.2.length ≤ 100000 →
    Tri X lo 156 [.pointer (some ⟨wb, 0, none⟩), .int .i64 a, .int .i64 d, .int .i64 wt] h fun v h' => ∃ o1' o2', MW lo h0 h' g ad fl wb o1' (vs ++ t.1) o2' (es ++ t.2) := by
  intro a d wt t o1 vs o2 es h ha hd hw ht m l1 l2
  refine enter tbOk mtOk ⟨[], []⟩ 400 Tryz.func156 rfl rfl rfl fun hlo => ?_
  refine cnd (fun c1 => ?_) (fun c1 => ?_)
  · have c1 : wt > 0 := by simpa using c1
    exact callP (leave_ok hs hg IH a d wt t o1 vs o2 es h ha hd ⟨c1, hw.2⟩ ht m l1 l2) fun v h' q => q
  · have c1 : ¬ wt > 0 := by simpa using c1
    unfold Tr.lv at ht
    rw [if_pos (by omega)] at ht
    cases ht
    exact ⟨o1, o2, by simpa using m⟩
theorem en_le (k a w : Int) : (Tr.en k a w).length ≤ 1 := by unfold Tr.en; split <;> simp
theorem come_ok (hs : Sls h0 cE 2 ad g.cs) (hg : gOk g = true) : ∀ q : Nat, ComeOk X lo h0 g ad fl wb (Tr.go g.w g.cs.length (kdG g) (sightOf g) q) 125 := by
  intro q
  induction q with
  | zero => intro a d wt t o1 vs o2 es h ha hd hw ht; cases ht
  | succ q ih =>
    intro a d wt t o1 vs o2 es h ha hd hw ht m l1 l2
    refine enter tbOk mtOk ⟨[], []⟩ 400 Tryz.func125 rfl rfl rfl fun hlo => ?_
    refine cnd (fun c1 => ?_) (fun c1 => ?_)
    · have c1 : wt = 0 := by simpa using c1
      unfold Tr.go at ht
      rw [if_pos c1] at ht
      cases ht
      exact ⟨o1, o2, by simpa using m⟩
    · have c1 : wt ≠ 0 := by simpa using c1
      unfold Tr.go at ht
      rw [if_neg c1] at ht
      refine ⟨_, m.bx.ldF (i := 2) rfl, ?_⟩
      have hl1 : 1 ≤ t.1.length := by
        obtain ⟨l, hl⟩ := Tr.go_head c1 (show Tr.go g.w g.cs.length (kdG g) (sightOf g) (q + 1) a d wt = some t by unfold Tr.go; rw [if_neg c1]; exact ht)
        rw [hl]; simp
      obtain ⟨b, e, h2, ap, hb2, m2⟩ := m.vis (x := (a, d, wt)) (by unfold Id.maxLen; omega)
      refine ⟨vE (a, d, wt), one_cells rfl, _, _, ap, ?_⟩
      refine ⟨_, hb2.stF (i := 2) (Nat.le_trans m.l5 m.l4) (Nat.le_of_ble_eq_true rfl), ?_⟩
      have hat : a.toNat < g.cs.length := by omega
      obtain ⟨ad, rfl⟩ := hs.some hat
      refine ⟨_, m2.bx.ldF (i := 1) rfl, ?_⟩
      refine And.intro ⟨ha.1, ha.2⟩ ?_
      have hk : kdG g a = (g.cs[a.toNat]).1 := by unfold kdG; rw [List.getElem?_eq_getElem hat]; rfl
      have hkd := kdG_ok hg ha
      have ldk : Ld (h2.set wb (.cells [.int .i64 g.w, .slice (some ad) g.cs.length fl, gv (some (b, e)) (vs ++ [(a, d, wt)]).length, gv o2 es.length] 0 0)) (addA (addA ad (a.toNat * 2)) 0) 1 [.int .i64 (kdG g a)] := by rw [hk]; exact ld_sub ((hs.ext m2.ext).ld cE2 hat) rfl
      refine ⟨_, ldk, ?_⟩
      have hh2 : IntKind.i64.wrap (wt.tdiv 2) = wt / 2 := half hw
      have hg1 : IntKind.i64.wrap (wt - IntKind.i64.wrap (wt.tdiv 2)) = wt - wt / 2 := by rw [hh2, wr (by omega) (by omega)]
      have hg2 : IntKind.i64.wrap (wt - IntKind.i64.wrap (2 * IntKind.i64.wrap (wt.tdiv 2))) = wt - 2 * (wt / 2) := by rw [hh2, wr (n := 2 * (wt / 2)) (by omega) (by omega), wr (by omega) (by omega)]
      have hen0 : ∀ k, Tr.en k a wt = [(k, a, wt)] := fun k => if_pos (by omega)
      refine And.intro (by decide) ?_
      refine cnd (fun c2 => ?_) (fun c2 => ?_)
      · have c2 : kdG g a = 1 := by simpa using c2
        rw [if_pos c2] at ht
        cases ht
        refine callP (send_ok 1 a wt m2 (by simp at l2; unfold Id.maxLen; omega)) ?_
        rintro v h4 ⟨p2, m3⟩
        rw [hen0] at m3
        exact ⟨_, _, m3⟩
      · have c2 : kdG g a ≠ 1 := by simpa using c2
        rw [if_neg c2] at ht
        refine cnd (fun c3 => ?_) (fun c3 => ?_)
        · have c3 : kdG g a = 7 := by simpa using c3
          rw [if_pos c3] at ht
          cases ht
          refine callP (send_ok 2 a wt m2 (by simp at l2; unfold Id.maxLen; omega)) ?_
          rintro v h4 ⟨p2, m3⟩
          rw [hen0] at m3
          exact ⟨_, _, m3⟩
        · have c3 : kdG g a ≠ 7 := by simpa using c3
          rw [if_neg c3] at ht
          refine cnd (fun c4 => ?_) (fun c4 => ?_)
          · have c4 : kdG g a = 6 := by simpa using c4
            rw [if_pos c4] at ht
            obtain ⟨t1, ht1, ht⟩ := Tr.bind_some ht
            cases ht
            simp only [List.length_cons, List.length_append] at l1 l2
            refine callP (send_ok 3 a _ m2 (by unfold Id.maxLen; omega)) ?_
            rintro v h4 ⟨p2, m3⟩
            rw [hg1] at m3
            refine callP (half_ok hs hg ih a d _ t1 _ _ _ _ h4 ha hd (by rw [hh2]; omega) (by rw [hh2]; exact ht1) m3 (by simp; omega) (by simp; omega)) ?_
            rintro v h5 ⟨p3, p4, m4⟩
            exact ⟨_, _, by simpa using m4⟩
          · have c4 : kdG g a ≠ 6 := by simpa using c4
            rw [if_neg c4] at ht
            refine cnd (fun c5 => ?_) (fun c5 => ?_)
            · have c5 : kdG g a = 4 := by simpa using c5
              have hk45 : kdG g a = 4 ∨ kdG g a = 5 := .inl c5
              rw [if_pos hk45] at ht
              obtain ⟨t1, ht1, ht⟩ := Tr.bind_some ht
              obtain ⟨t2, ht2, ht⟩ := Tr.bind_some ht
              cases ht
              simp only [List.length_cons, List.length_append] at l1 l2
              refine callP (send_ok 3 a _ m2 (by unfold Id.maxLen; omega)) ?_
              rintro v h4 ⟨p2, m3⟩
              rw [hg2] at m3
              have hen3 := en_le 3 a (wt - 2 * (wt / 2))
              refine callP (half_ok hs hg ih a d _ t1 _ _ _ _ h4 ha hd (by rw [hh2]; omega) (by rw [hh2]; exact ht1) m3 (by simp; omega) (by simp; omega)) ?_
              rintro v h5 ⟨p3, p4, m4⟩
              refine callP (sDirTurn_ok _ _ h5 hd) ?_
              rintro v h6 ⟨rfl, e6⟩
              refine callP (half_ok hs hg ih a _ _ t2 _ _ _ _ h6 ha (Tr.dirT_ok hd) (by rw [hh2]; omega) (by rw [hh2]; exact ht2) (m4.up e6) (by simp; omega) (by simp; omega)) ?_
              rintro v h7 ⟨p5, p6, m5⟩
              exact ⟨_, _, by simpa using m5⟩
            · have c5 : kdG g a ≠ 4 := by simpa using c5
              refine cnd (fun c6 => ?_) (fun c6 => ?_)
              · have c6 : kdG g a = 5 := by simpa using c6
                have hk45 : kdG g a = 4 ∨ kdG g a = 5 := .inr c6
                rw [if_pos hk45] at ht
                obtain ⟨t1, ht1, ht⟩ := Tr.bind_some ht
                obtain ⟨t2, ht2, ht⟩ := Tr.bind_some ht
                cases ht
                simp only [List.length_cons, List.length_append] at l1 l2
                refine callP (send_ok 3 a _ m2 (by unfold Id.maxLen; omega)) ?_
                rintro v h4 ⟨p2, m3⟩
                rw [hg2] at m3
                have hen3 := en_le 3 a (wt - 2 * (wt / 2))
                refine callP (half_ok hs hg ih a d _ t1 _ _ _ _ h4 ha hd (by rw [hh2]; omega) (by rw [hh2]; exact ht1) m3 (by simp; omega) (by simp; omega)) ?_
                rintro v h5 ⟨p3, p4, m4⟩
                refine callP (sDirTurn_ok _ _ h5 hd) ?_
                rintro v h6 ⟨rfl, e6⟩
                refine callP (half_ok hs hg ih a _ _ t2 _ _ _ _ h6 ha (Tr.dirT_ok hd) (by rw [hh2]; omega) (by rw [hh2]; exact ht2) (m4.up e6) (by simp; omega) (by simp; omega)) ?_
                rintro v h7 ⟨p5, p6, m5⟩
                exact ⟨_, _, by simpa using m5⟩
              · have c6 : kdG g a ≠ 5 := by simpa using c6
                rw [if_neg (by omega)] at ht
                obtain ⟨t1, ht1, ht⟩ := Tr.bind_some ht
                cases ht
                simp only [List.length_cons] at l1
                refine callP (sDirTurn_ok _ _ _ hd) ?_
                rintro v h6 ⟨rfl, e6⟩
                refine callP (leave_ok hs hg ih a _ wt t1 _ _ _ _ h6 ha (Tr.dirT_ok hd) (by omega) ht1 (m2.up e6) (by simp; omega) l2) ?_
                rintro v h7 ⟨p5, p6, m5⟩
                exact ⟨_, _, by simpa using m5⟩
end
end Go.Proofs.YtambkogocbgbmaaGreat.Id
/- Contracts over the ideal memory: spec's light, spec's picture. -/
namespace Go.Proofs.YtambkogocbgbmaaGreat.Id
open Go.Id
open Go.Proofs
set_option linter.unusedVariables false
set_option maxRecDepth 100000
variable {X : Ctx Tryz.prog} {lo : Nat}
theorem isB_eq {b e i : Nat} (h : isB (some (b, e)) i) : b = i := by
  obtain ⟨e', h⟩ := h
  injection h with h
  injection h
theorem l11Go_ok (g : Gd) (k : Nat) (ad : Option Addr) (fl : Nat) (h : Hp) (hs : Sls h cE 2 ad g.cs) (hg : gOk g = true) (hk : (k : Int) < many g) : Tri X lo 84 [.agg #[.int .i64 g.w, .slice ad g.cs.length fl], .int .i64 (k : Int)] h fun v h' => ∃ wb o1 o2, v = .pointer (some ⟨wb, 0, none⟩) ∧ MW lo h h' g ad fl wb o1 (trail g k).1 o2 (trail g k).2 := by
  refine enter tbOk mtOk ⟨[11], []⟩ 400 Tryz.func84 rfl rfl rfl fun hlo => ?_
  obtain ⟨w, hh, q1, q2, q3, q4, q5⟩ := gOk_nat hg
  have hm := many_nat' q1 q2
  have hsr : sightRay g k = (rays w hh)[k]? := by
    unfold sightRay sideRays
    rw [if_pos ⟨hg, Int.natCast_nonneg k, hk⟩, q1, q2]; rfl
  obtain ⟨T, hT⟩ : ∃ T, T = trail g k := ⟨_, rfl⟩
  obtain ⟨t1, ⟨t2, t3⟩, _⟩ := trail_ok g k
  rw [← hT] at t1 t2 t3 ⊢
  have gw0 : ∀ (h' : Hp) (b : Nat), lo ≤ b → b < h'.n → h'.g b = .cells [] 3 0 → Gw lo h' vE 3 (some (b, 0)) [] := fun h' b h1 h2 h3 => ⟨h1, h2, [], h3, Nat.le_refl _, rfl⟩
  obtain ⟨hX, hhX⟩ : ∃ hX, hX = ((h.push (.cells [] 3 0)).push (.cells [] 3 0)).push (.cells [.int .i64 g.w, .slice ad g.cs.length fl, gv (some (h.n, 0)) 0, gv (some (h.n + 1, 0)) 0] 0 0) := ⟨_, rfl⟩
  have m0 : MW lo h hX g ad fl (h.n + 2) (some (h.n, 0)) [] (some (h.n + 1, 0)) [] := by
    have e1 : Ext h hX := by rw [hhX]; exact ((Ext.push _ _).trans (Ext.push _ _)).trans (Ext.push _ _)
    refine ⟨by rw [hhX]; exact Bx.push, gw0 _ _ hlo ?_ ?_, gw0 _ _ (by omega) ?_ ?_, ?_, ?_, ?_, ?_, ?_, by omega, hlo, e1⟩
    · rw [hhX]; simp [Hp.push]; omega
    · rw [hhX]; simp [Hp.push]; omega
    · rw [hhX]; simp [Hp.push]
    · rw [hhX]; simp [Hp.push]
    · intro q; have := isB_eq q; omega
    · intro q; have := isB_eq q; omega
    · intro i q q'; have := isB_eq q; have := isB_eq q'; omega
    · intro i q; have := isB_eq q; omega
    · intro i q; have := isB_eq q; omega
  have S := l3Ray_ok (X := X) (lo := lo) w hh k ad g.cs.length fl hX q3 q4 q5 (by omega)
  rw [← q1, hhX] at S
  refine callP S ?_
  rw [← hhX]
  rintro v h1 ⟨⟨r, hr, rfl⟩, e1⟩
  unfold IsTrail at t1
  rw [hsr, hr] at t1
  obtain ⟨q, hq⟩ := t1
  have hro := rays_ok q3 q4 r (List.mem_of_getElem? hr)
  rw [← q5] at hro
  refine callP (come_ok hs hg q r.1 r.2 64 T _ _ _ _ h1 hro.1 hro.2 (by omega) hq (m0.up e1) (by simp; omega) (by simp; omega)) ?_
  rintro v h2 ⟨o1, o2, m⟩
  rw [List.nil_append, List.nil_append] at m
  exact ⟨_, o1, o2, rfl, m⟩
theorem l11Light_ok (g : Gd) (es : List V3) (ad : Option Addr) (fl : Nat) (a2 : Option Addr) (f2 : Nat) (h : Hp) (hs : Sls h cE 2 ad g.cs) (hn : (g.cs.length : Int) < 2 ^ 31) (s2 : Sls h vE 3 a2 es) (hm : es.length ≤ 60000) (hE : EOk g es) (hc : es ≠ [] → ∀ c ∈ g.cs, cOk c = true) : Tri X lo 83 [.agg #[.int .i64 g.w, .slice ad g.cs.length fl], .slice a2 es.length f2] h fun v h' => v = .int .i64 (lightOf g es) ∧ Ext h h' := by
  refine enter tbOk mtOk ⟨[], [(6, [0, 1, 2, 3, 4, 5, 6, 7, 8, 9, 10, 11, 12, 13, 14, 15, 16, 17, 18], [0, 0, 0, 6, 14, 30, 0, 64, 0, 0, 768, 1792, 3840, 8128, 16320, 32704, 65534, 131071, 262143])]⟩ 400 Tryz.func83 rfl rfl rfl fun hlo => ?_
  refine loop (σ := Nat) tbOk mtOk ⟨[], [(6, [0, 1, 2, 3, 4, 5, 6, 7, 8, 9, 10, 11, 12, 13, 14, 15, 16, 17, 18], [0, 0, 0, 6, 14, 30, 0, 64, 0, 0, 768, 1792, 3840, 8128, 16320, 32704, 65534, 131071, 262143])]⟩ (fun i => [(6, .v (.int .i64 (i : Int))), (1, .v (.slice a2 es.length f2)), (5, .v (.int .i64 (lightOf g (es.take i)))), (2, .l 0 0)]) (fun _ => [[.int .i64 g.w, .slice ad g.cs.length fl]]) (fun i h' => i ≤ es.length ∧ h' = h ∧ 0 ≤ lightOf g (es.take i) ∧ lightOf g (es.take i) ≤ 576 * i) (fun i => es.length - i) 380 0 (fun _ => rfl) ⟨rfl, rfl, rfl, rfl, trivial⟩ ⟨rfl, trivial⟩ ⟨by omega, rfl, Int.le_refl 0, by show (0 : Int) ≤ 576 * ((0 : Nat) : Int); decide⟩ (fun i h' hI again => ?_)
  obtain ⟨i1, rfl, i3, i4⟩ := hI
  refine cnd (fun c1 => ?_) (fun c1 => ?_)
  · have c1 : i < es.length := by simpa using c1
    obtain ⟨a2, rfl⟩ := s2.some c1
    have htk : es.take (i + 1) = es.take i ++ [es[i]] := List.take_succ_eq_append_getElem c1
    have hcs := hc (by intro e; rw [e] at c1; simp at c1)
    obtain ⟨he1, he2⟩ := hE es[i] (List.getElem_mem c1)
    have hl := lite_ok hcs he2
    have hld := s2.ld vE3 c1
    have hsn := lightOf_snoc g es[i] (es.take i)
    rw [← htk] at hsn
    generalize es[i] = e at *
    refine And.intro ⟨by omega, by omega⟩ ?_
    refine ⟨_, ld_sub (j := 0) hld rfl, ?_⟩
    have hw1 : some (Sl.v (.int .i64 (IntKind.i64.wrap ((i : Int) + 1)))) = some (Sl.v (.int .i64 ((i + 1 : Nat) : Int))) := by rw [wr (by omega) (by omega)]; rfl
    refine cnd (fun c2 => ?_) (fun c2 => ?_)
    · have c2 : e.1 = 2 := by simpa using c2
      obtain ⟨he3, he4⟩ := he1 c2
      have hat : e.2.1.toNat < g.cs.length := by omega
      obtain ⟨ad, rfl⟩ := hs.some hat
      have hlt : ltG g e.2.1 = (g.cs[e.2.1.toNat]).2 := by unfold ltG; rw [List.getElem?_eq_getElem hat]; rfl
      have ldc : Ld h' (addA (addA ad (e.2.1.toNat * 2)) 1) 1 [.int .i64 (ltG g e.2.1)] := by
        rw [hlt]; exact ld_sub (hs.ld cE2 hat) rfl
      have hll : lite g e = e.2.2 * ltG g e.2.1 := if_pos c2
      refine And.intro (by kernel_rfl) ?_
      refine And.intro ⟨by omega, by omega⟩ ?_
      refine ⟨_, ld_sub (j := 2) hld rfl, ?_⟩
      refine And.intro ⟨by omega, by omega⟩ ?_
      refine ⟨_, ld_sub (j := 1) hld rfl, ?_⟩
      refine And.intro ⟨he3, by show e.2.1 < (g.cs.length : Int); exact he4⟩ ?_
      refine ⟨_, ldc, ?_⟩
      have hw2 : IntKind.i64.wrap (lightOf g (es.take i) + IntKind.i64.wrap (e.2.2 * ltG g e.2.1)) = lightOf g (es.take (i + 1)) := by
        rw [← hll, wr (n := lite g e) (by omega) (by omega), ← hsn, wr (by omega) (by omega)]
      refine again (i + 1) _ _ _ (by omega) ⟨hw1, rfl, ?_, rfl, trivial⟩ ⟨rfl, trivial⟩ ⟨by omega, rfl, by rw [hsn]; omega, by rw [hsn]; omega⟩
      show some (Sl.v (.int .i64 (IntKind.i64.wrap (lightOf g (es.take i) + IntKind.i64.wrap (e.2.2 * ltG g e.2.1))))) = _
      rw [hw2]
    · have c2 : e.1 ≠ 2 := by simpa using c2
      have hl0 : lite g e = 0 := if_neg c2
      rw [hl0, Int.add_zero] at hsn
      refine again (i + 1) _ _ _ (by omega) ⟨hw1, rfl, ?_, rfl, trivial⟩ ⟨rfl, trivial⟩ ⟨by omega, rfl, by rw [hsn]; exact i3, by rw [hsn]; omega⟩
      show some (Sl.v (.int .i64 (lightOf g (es.take i)))) = _
      rw [← hsn]
  · have c1 : es.length = i := by simp at c1; omega
    refine And.intro ?_ (Ext.refl _)
    rw [← c1, List.take_length]
theorem app1I {h : Hp} {b e n : Nat} {l : List Int} (r : Row h b e iE 1 l) (hl : l.length = n) (hlo : lo ≤ b) (hm : n + 1 ≤ Id.maxLen) (x : Int) :
    Ap lo h 1 (.slice (.some ⟨b, 0, .some e⟩) n 1) (iE x) 1 (.slice (.some ⟨b, 0, .some (e + 1)⟩) (n + 1) 1) (h.set b (.cells ((l ++ [x]).flatMap iE) 1 (e + 1))) := by
  subst hl
  have := r.app (m := [x]) (lo := lo) (fun _ => rfl) (by decide) hlo hm
  simpa using this
theorem pic_take (g : Gd) {k : Nat} (hk : (k : Int) < many g) : (pic g).take (k + 1) = (pic g).take k ++ [lightAt g k] := by
  have hl : k < (pic g).length := by rw [pic_len]; omega
  rw [List.take_succ_eq_append_getElem hl]
  congr 2
  simp [pic]
/-- spec's picture. -/
theorem l12Pic_ok (g : Gd) (ad : Option Addr) (fl : Nat) (h : Hp) (hs : Sls h cE 2 ad g.cs) (hg : gOk g = true) : Tri X lo 42 [.agg #[.int .i64 g.w, .slice ad g.cs.length fl]] h fun v h' => ∃ b e, v = gv (some (b, e)) (pic g).length ∧ lo ≤ b ∧ h.n ≤ b ∧ Row h' b e iE 1 (pic g) ∧ Ext h h' := by
  refine enter tbOk mtOk ⟨[], [(5, [0, 1, 2, 3, 4, 5, 6, 7, 8, 9, 10, 11], [0, 0, 0, 0, 12, 28, 60, 124, 254, 510, 1023, 2047])]⟩ 400 Tryz.func42 rfl rfl rfl fun hlo => ?_
  obtain ⟨w, hh, q1, q2, q3, q4, q5⟩ := gOk_nat hg
  have hm := many_nat' q1 q2
  have p5 := prod5 (i := hh) (w := w) (by omega) (by omega)
  rw [Int.mul_comm] at p5
  have hn : (g.cs.length : Int) < 2 ^ 31 := by omega
  have hpl := pic_len g
  refine loop (σ := Nat × Nat) tbOk mtOk ⟨[], [(5, [0, 1, 2, 3, 4, 5, 6, 7, 8, 9, 10, 11], [0, 0, 0, 0, 12, 28, 60, 124, 254, 510, 1023, 2047])]⟩ (fun s => [(4, .v (.int .i64 (s.1 : Int))), (3, .v (.slice (some ⟨h.n, 0, some s.2⟩) s.1 1)), (1, .l 0 0)]) (fun _ => [[.int .i64 g.w, .slice ad g.cs.length fl]]) (fun s h' => s.1 ≤ (many g).toNat ∧ Ext h h' ∧ Row h' h.n s.2 iE 1 ((pic g).take s.1)) (fun s => (many g).toNat - s.1) 400 (0, 0) (fun _ => rfl) ⟨rfl, rfl, rfl, trivial⟩ ⟨rfl, trivial⟩ ⟨Nat.zero_le _, Ext.push _ _, Row.push (h := h) (e := 0) (enc := iE) (sz := 1) (l := [])⟩ (fun s h' hI again => ?_)
  obtain ⟨k, e⟩ := s
  obtain ⟨i1, i2, i3⟩ := hI
  refine callP (l3Many_ok g ad fl h' hg hn) ?_
  rintro v h1 ⟨rfl, e1⟩
  refine cnd (fun c1 => ?_) (fun c1 => ?_)
  · have c1 : (k : Int) < many g := by simpa using c1
    refine And.intro (by kernel_rfl) ?_
    refine callP (l11Go_ok g k ad fl h1 (hs.ext (i2.trans e1)) hg c1) ?_
    rintro v h2 ⟨wb, o1, o2, rfl, m⟩
    obtain ⟨a2, f2, p1, p2⟩ := gw_sls m.g2
    obtain ⟨t1, ⟨t2, t3⟩, t4, t5, _⟩ := trail_ok g k
    have hb := m.bx
    rw [p1] at hb
    have e2 := (i2.trans e1).trans m.ext
    refine And.intro Is.r ?_
    refine ⟨_, hb.ldF (i := 3) rfl, ?_⟩
    refine callP (l11Light_ok g (trail g k).2 ad fl a2 f2 h2 (hs.ext e2) hn p2 t3 t4 t5) ?_
    rintro v h3 ⟨rfl, e3⟩
    have hkl : k < (pic g).length := by rw [hpl]; omega
    have i3' : Row h' h.n e iE 1 ((pic g).take k) := i3
    have e4 := ((e1.trans m.ext).trans e3).trans (Ext.push h3 (.cells (iE (lightAt g k)) 1 0))
    refine ⟨iE (lightAt g k), one_cells rfl, _, _, app1I (i3'.ext e4) (by rw [List.length_take]; omega) hlo (by unfold Id.maxLen; omega) _, ?_⟩
    refine again (k + 1, e + 1) _ _ _ (by show _ - (k + 1) < _ - k; omega) ⟨?_, rfl, rfl, trivial⟩ ⟨rfl, trivial⟩ ⟨by show k + 1 ≤ _; omega, (i2.trans e4).set (Nat.le_refl _) _, ?_⟩
    · show some (Sl.v (.int .i64 (IntKind.i64.wrap ((k : Int) + 1)))) = _
      rw [wr (by omega) (by omega)]; rfl
    · show Row _ h.n (e + 1) iE 1 ((pic g).take (k + 1))
      rw [pic_take g c1]
      exact Row.set (i3'.ext e4).lt
  · have c1 : ¬ (k : Int) < many g := by simpa using c1
    have hk : k = (many g).toNat := by
      have i1 : k ≤ (many g).toNat := i1
      omega
    subst hk
    have i3 : Row h' h.n e iE 1 ((pic g).take (many g).toNat) := i3
    rw [← hpl, List.take_length] at i3
    refine ⟨h.n, e, ?_, hlo, Nat.le_refl _, i3.ext e1, i2.trans e1⟩
    rw [hpl]; rfl
theorem sPicOf_ok (g : Gd) (ad : Option Addr) (fl : Nat) (h : Hp) (hs : Sls h cE 2 ad g.cs) (hn : (g.cs.length : Int) < 2 ^ 31) : Tri X lo 11 [.agg #[.int .i64 g.w, .slice ad g.cs.length fl]] h fun v h' => ∃ b e, v = gv (some (b, e)) (if gOk g then pic g else []).length ∧ lo ≤ b ∧ h.n ≤ b ∧ Row h' b e iE 1 (if gOk g then pic g else []) ∧ Ext h h' := by
  refine enter tbOk mtOk ⟨[], []⟩ 400 Tryz.func11 rfl rfl rfl fun hlo => ?_
  refine callP (sGridOk_ok g.w ad fl g.cs h hs hn) ?_
  rintro v h1 ⟨rfl, e1⟩
  refine cnd (fun c1 => ?_) (fun c1 => ?_)
  · have hg : gOk g = false := by simpa using c1
    rw [hg]
    exact ⟨h1.n, 0, rfl, Nat.le_trans hlo e1.n, e1.n, Row.push (h := h1) (e := 0) (enc := iE) (sz := 1) (l := []), e1.trans (Ext.push _ _)⟩
  · have hg : gOk g = true := by simpa using c1
    rw [hg]
    refine callP (l12Pic_ok g ad fl h1 (hs.ext e1) hg) ?_
    rintro v h2 ⟨b, e, rfl, q1, q2, q3, q4⟩
    exact ⟨b, e, rfl, q1, Nat.le_trans e1.n q2, q3, e1.trans q4⟩
end Go.Proofs.YtambkogocbgbmaaGreat.Id
/- A region whose order is drawn, where what turns the memory may come in several orders: all of them are walked. -/
namespace Go.Id
open Go.Conc
set_option linter.unusedVariables false
/-- Which operation next: one that turns nothing; one of several that turn the memory. -/
inductive OTr where
  | fin
  | stop
  | fl (i : Nat) (r : OTr)
  | ch (c : Nat) (r alt : OTr)
def OTr.heads : OTr → List Nat
  | .ch c _ a => c :: a.heads
  | _ => []
def OTr.path : OTr → List Nat
  | .fl i r => i :: r.path
  | .ch c r _ => c :: r.path
  | _ => []
def okAt (ops : Array Oper) (q : Bool) (i done : Nat) : Bool := match ops[i]? with
  | none => false
  | some o => match Nat.testBit done i with
    | true => false
    | false => match Nat.beq (pm o &&& done) (pm o) with
      | false => false
      | true => isFl o.op == q
def rdyAll (ops : List (Nat × Oper)) (hs : List Nat) (done : Nat) : Bool := allB (fun p => match Nat.testBit done p.1 with
  | true => true
  | false => match Nat.beq (pm p.2 &&& done) (pm p.2) with
    | false => true
    | true => memN p.1 hs) ops
def ordT (ops : Array Oper) : Bool → OTr → Nat → Bool
  | b, .fin, done => match b with | true => false | false => Nat.beq done (2 ^ ops.size - 1)
  | b, .stop, _ => b
  | b, .fl i r, done => match b with | true => false | false => match okAt ops true i done with
    | false => false
    | true => ordT ops false r (done ||| 2 ^ i)
  | b, .ch c r a, done => match okAt ops false c done with
    | false => false
    | true => match ordT ops false r (done ||| 2 ^ c) with
      | false => false
      | true => match ordT ops true a done with
        | false => false
        | true => match b with
          | true => true
          | false => rdyAll (withIx ops.toList 0) (c :: a.heads) done
def drawOkT (ops : Array Oper) (p : OTr) (bm : List Nat) : Bool := match eqL (bmOf ops.toList) bm with
  | false => false
  | true => match ordT ops false p 0 with
  | false => false
  | true => match rdOkAll (withIx ops.toList 0) with
    | false => false
    | true => match gdOk (withIx ops.toList 0) with
      | false => false
      | true => dstsOk (withIx ops.toList 0)
section
variable {P : Program} (X : Ctx P) (T : Nat → Option TyI) (Mt : Nat → String → Option FuncId) (lo : Nat) (fn : Func) (esc : Hint)
def vcT (ops : Array Oper) (bm : List Nat) (K : Tm → Lv → Hp → Prop) : OTr → List Nat → Tm → Lv → Hp → Prop
  | .fin, _, t, ls, h => K t ls h
  | .stop, _, _, _, _ => True
  | .fl i r, D, t, ls, h => match ops[i]? with
    | none => False
    | some o => vcOp X T Mt lo fn esc ops t ls h o fun t ls h => vcT ops bm K r (i :: D) t ls h
  | .ch c r a, D, t, ls, h => match ops[c]? with
    | none => False
    | some o => (vcOp X T Mt lo fn esc ops t ls h o fun t ls h => reck T lo esc ops (bm.getD c 0) t ls h D (vcT ops bm K r (c :: D) t ls h)) ∧ vcT ops bm K a D t ls h
end
theorem okAt_spec {ops : Array Oper} {q : Bool} {i done : Nat} (h : okAt ops q i done = true) : ∃ o, ops[i]? = some o ∧ Nat.testBit done i = false ∧ (∀ j, Nat.testBit (pm o) j = true → Nat.testBit done j = true) ∧ isFl o.op = q := by
  unfold okAt at h
  split at h
  · cases h
  · rename_i o ho
    split at h
    · cases h
    · rename_i hd
      split at h
      · cases h
      · rename_i h1
        refine ⟨o, ho, hd, fun j hj => ?_, by simpa using h⟩
        have := Nat.eq_of_beq_eq_true h1
        rw [← this, Nat.testBit_and, Bool.and_eq_true] at hj
        exact hj.2
theorem memN_iff {i : Nat} : ∀ {l : List Nat}, memN i l = true → i ∈ l
  | [], h => by cases h
  | j :: r, h => by
    unfold memN at h
    split at h
    · rename_i e; simp [e]
    · simp [memN_iff h]
section
variable {ops : Array Oper}
theorem ordT_fl {i : Nat} {r : OTr} {done : Nat} (h : ordT ops false (.fl i r) done = true) : okAt ops true i done = true ∧ ordT ops false r (done ||| 2 ^ i) = true := by
  unfold ordT at h
  simp only at h
  split at h
  · cases h
  · rename_i h1; exact ⟨h1, h⟩
theorem ordT_ch {b : Bool} {c : Nat} {r a : OTr} {done : Nat} (h : ordT ops b (.ch c r a) done = true) : okAt ops false c done = true ∧ ordT ops false r (done ||| 2 ^ c) = true ∧ ordT ops true a done = true ∧ (b = false → rdyAll (withIx ops.toList 0) (c :: a.heads) done = true) := by
  unfold ordT at h
  split at h
  · cases h
  · rename_i h1
    split at h
    · cases h
    · rename_i h2
      split at h
      · cases h
      · rename_i h3
        refine ⟨h1, h2, h3, fun hb => ?_⟩
        subst hb
        exact h
theorem ordT_all : ∀ {p : OTr} {done : Nat}, ordT ops false p done = true → ∀ i, i < ops.size → Nat.testBit done i = true ∨ i ∈ p.path
  | .fin, done, h, i, hi => by
    unfold ordT at h
    have := Nat.eq_of_beq_eq_true h
    subst this
    exact .inl (by rw [Nat.testBit_two_pow_sub_one]; simpa using hi)
  | .stop, done, h, i, hi => by cases h
  | .fl j r, done, h, i, hi => by
    obtain ⟨_, h3⟩ := ordT_fl h
    rcases ordT_all h3 i hi with h4 | h4
    · rw [Nat.testBit_or, Bool.or_eq_true, Nat.testBit_two_pow] at h4
      rcases h4 with h4 | h4
      · exact .inl h4
      · exact .inr (by simp at h4; simp [OTr.path, h4])
    · exact .inr (by simp [OTr.path, h4])
  | .ch j r a, done, h, i, hi => by
    obtain ⟨_, h3, _⟩ := ordT_ch h
    rcases ordT_all h3 i hi with h4 | h4
    · rw [Nat.testBit_or, Bool.or_eq_true, Nat.testBit_two_pow] at h4
      rcases h4 with h4 | h4
      · exact .inl h4
      · exact .inr (by simp at h4; simp [OTr.path, h4])
    · exact .inr (by simp [OTr.path, h4])
theorem ordT_ready {S : Nat → Prop} : ∀ {p : OTr} {done : Nat}, ordT ops false p done = true → (∀ j, Nat.testBit done j = true → S j) → (∃ i, i ∈ p.path ∧ ¬ S i) → ∃ i o, ¬ S i ∧ ops[i]? = some o ∧ ∀ j, Nat.testBit (pm o) j = true → S j := by
  have key : ∀ {i done : Nat} {q : Bool} {r : OTr} {l : List Nat}, okAt ops q i done = true → (∀ j, Nat.testBit done j = true → S j) → (∃ x, x ∈ i :: l ∧ ¬ S x) → ((∀ j, Nat.testBit (done ||| 2 ^ i) j = true → S j) → (∃ x, x ∈ l ∧ ¬ S x) → ∃ i o, ¬ S i ∧ ops[i]? = some o ∧ ∀ j, Nat.testBit (pm o) j = true → S j) → ∃ i o, ¬ S i ∧ ops[i]? = some o ∧ ∀ j, Nat.testBit (pm o) j = true → S j := by
    intro i done q r l h hd hex ih
    obtain ⟨o, ho, h1, h2, _⟩ := okAt_spec h
    by_cases hs : S i
    · refine ih (fun j hj => ?_) ?_
      · rw [Nat.testBit_or, Bool.or_eq_true, Nat.testBit_two_pow] at hj
        rcases hj with hj | hj
        · exact hd j hj
        · have : i = j := by simpa using hj
          exact this ▸ hs
      · obtain ⟨j, hj, hnj⟩ := hex
        rcases List.mem_cons.1 hj with rfl | hj
        · exact absurd hs hnj
        · exact ⟨j, hj, hnj⟩
    · exact ⟨i, o, hs, ho, fun j hj => hd j (h2 j hj)⟩
  intro p
  induction p with
  | fin => intro done h hd ⟨i, hi, _⟩; cases hi
  | stop => intro done h hd ⟨i, hi, _⟩; cases hi
  | fl i r ih =>
    intro done h hd hex
    obtain ⟨h1, h2⟩ := ordT_fl h
    exact key (r := r) h1 hd hex fun a b => ih h2 a b
  | ch c r a ih _ =>
    intro done h hd hex
    obtain ⟨h1, h2, _⟩ := ordT_ch h
    exact key (r := r) h1 hd hex fun a b => ih h2 a b
theorem drawOk_of (h2 : rdOkAll (withIx ops.toList 0) = true) (h3 : gdOk (withIx ops.toList 0) = true) (h : dstsOk (withIx ops.toList 0) = true) : DrawOk ops := by
  refine ⟨fun i o d k ok hi hk hd hdst hne => ?_, fun i o d hi hl hd hdst => ?_, fun i o j want hi hg => ?_, fun i o k ok d hi hk h4 h5 => ?_⟩
  · have a1 := allB_iff h2 (i, o) (mem_ix.2 hi)
    have a2 := allB_iff a1 d (mem_tmpsOf (by simpa using hd))
    have a3 := allB_iff a2 (k, ok) (mem_ix.2 hk)
    simp only [rdOk1, eqO_iff.2 hdst] at a3
    split at a3
    · rename_i hb; exact absurd (Nat.eq_of_beq_eq_true hb) hne
    · split at a3
      · exact .inl ‹_›
      · split at a3
        · cases a3
        · exact .inr ⟨‹_›, a3⟩
  · have a1 := allB_iff h2 (i, o) (mem_ix.2 hi)
    have a2 := allB_iff a1 d (mem_tmpsOf (by simpa using hd))
    have a3 := allB_iff a2 (i, o) (mem_ix.2 hi)
    simp only [rdOk1, eqO_iff.2 hdst, Nat.beq_refl, hl] at a3
    cases a3
  · have a1 := allB_iff h3 (i, o) (mem_ix.2 hi)
    simp only [hg] at a1
    exact a1
  · have a1 := withIx_get (n := 0) (l := ops.toList) (i := i) (o := o) (by simpa using hi)
    have a2 := withIx_get (n := 0) (l := ops.toList) (i := k) (o := ok) (by simpa using hk)
    exact dsts_of h i k _ _ d a1 a2 h4 h5
theorem drawOkT_spec {p : OTr} {bm : List Nat} (h : drawOkT ops p bm = true) : DrawOk ops ∧ bm = bmOf ops.toList ∧ ordT ops false p 0 = true := by
  unfold drawOkT at h
  split at h
  · cases h
  · rename_i h0
    split at h
    · cases h
    · rename_i h1
      split at h
      · cases h
      · rename_i h2
        split at h
        · cases h
        · rename_i h3
          exact ⟨drawOk_of h2 h3 h, (eqL_eq h0).symm, h1⟩
end
section
variable {P : Program} {X : Ctx P} {T : Nat → Option TyI} {Mt : Nat → String → Option FuncId} {lo : Nat} {f : FuncId} {fn : Func} {esc : Hint} {Post : En} {k : List Item} {ops : Array Oper}
theorem DS.advanceT (K : DrawOk ops) {bm : List Nat} {KK : Tm → Lv → Hp → Prop} {t0 tL : Tm} {S : Nat → Prop} {ls : Lv} {h : Hp} : ∀ (p : OTr) (D : List Nat) (done : Nat) (tE : Tm), ordT ops false p done = true → (∀ j, Nat.testBit done j = true ↔ j ∈ D) → DS T lo fn esc ops t0 S D tL tE ls h → vcT X T Mt lo fn esc ops bm KK p D tE ls h →
    ∃ (p' : OTr) (D' : List Nat) (done' : Nat) (tE' : Tm), ordT ops false p' done' = true ∧ (∀ j, Nat.testBit done' j = true ↔ j ∈ D') ∧ DS T lo fn esc ops t0 S D' tL tE' ls h ∧ vcT X T Mt lo fn esc ops bm KK p' D' tE' ls h ∧ (p' = .fin ∨ ∃ c r a, p' = .ch c r a)
  | .fin, D, done, tE, h1, h2, h3, h4 => ⟨.fin, D, done, tE, h1, h2, h3, h4, .inl rfl⟩
  | .stop, D, done, tE, h1, h2, h3, h4 => by cases h1
  | .ch c r a, D, done, tE, h1, h2, h3, h4 => ⟨.ch c r a, D, done, tE, h1, h2, h3, h4, .inr ⟨c, r, a, rfl⟩⟩
  | .fl i r, D, done, tE, h1, h2, h3, h4 => by
    obtain ⟨ok, e4⟩ := ordT_fl h1
    obtain ⟨o, ho, e1, e2, hf⟩ := okAt_spec ok
    have hi : i ∉ D := fun hx => by rw [(h2 i).2 hx] at e1; cases e1
    unfold vcT at h4
    rw [ho] at h4
    simp only at h4
    obtain ⟨hd, tk, hk, hcase⟩ := vcOp_cases h4
    rcases hcase with ⟨hw, hv⟩ | ⟨hw, hv⟩
    · obtain ⟨sl, k1, k2, k3⟩ := vcS_fl hf hv
      exact DS.advanceT K r (i :: D) _ _ e4 (bits_step h2) (h3.fl K ho hi (fun j hj => (h2 j).1 (e2 j hj)) hf hd hk (fun _ => rfl) (.inl ⟨hw, k2, k3⟩)) k1
    · exact DS.advanceT K r (i :: D) _ _ e4 (bits_step h2) (h3.fl K ho hi (fun j hj => (h2 j).1 (e2 j hj)) hf hd hk (fun _ => rfl) (.inr ⟨hw, rfl⟩)) hv
/-- One of those that may come next. -/
theorem vcT_head {bm : List Nat} {KK : Tm → Lv → Hp → Prop} {D : List Nat} {tE : Tm} {ls : Lv} {h : Hp} {i : Nat} : ∀ {p : OTr} {b : Bool} {done : Nat}, ordT ops b p done = true → vcT X T Mt lo fn esc ops bm KK p D tE ls h → i ∈ p.heads →
    ∃ r o, okAt ops false i done = true ∧ ops[i]? = some o ∧ ordT ops false r (done ||| 2 ^ i) = true ∧ vcOp X T Mt lo fn esc ops tE ls h o fun t ls h => reck T lo esc ops (bm.getD i 0) t ls h D (vcT X T Mt lo fn esc ops bm KK r (i :: D) t ls h)
  | .ch c r a, b, done, h1, h2, hi => by
    obtain ⟨e1, e2, e3, _⟩ := ordT_ch h1
    obtain ⟨o, ho, _⟩ := okAt_spec e1
    unfold vcT at h2
    rw [ho] at h2
    simp only at h2
    rcases List.mem_cons.1 hi with rfl | hi
    · exact ⟨r, o, e1, ho, e2, h2.1⟩
    · exact vcT_head e3 h2.2 hi
  | .fin, _, _, _, _, hi => by cases hi
  | .stop, _, _, _, _, hi => by cases hi
  | .fl _ _, _, _, _, _, hi => by cases hi
theorem simT (hT : TbOk P T) (hM : MtOk P Mt) (K : DrawOk ops) {bm : List Nat} {pl : OTr} (hbm : bm = bmOf ops.toList) (hord : ordT ops false pl 0 = true) {KK : Tm → Lv → Hp → Prop} (hK : ∀ t ls h, KK t ls h → R X lo f fn Post k t ls h) {t0 : Tm} :
    ∀ (fuel tp : Nat) (listed : Array Bool) (E D : List Nat) (r : OTr) (done : Nat) (tL tE : Tm) (ls : Lv) (h : Hp), listed.size = ops.size → (∀ i, listed.getD i false = true ↔ i ∈ E) → E.Nodup → (∀ i ∈ E, i < ops.size) → E.length + fuel = ops.size → DS T lo fn esc ops t0 (· ∈ E) D tL tE ls h →
      ordT ops false r done = true → (∀ j, Nat.testBit done j = true ↔ j ∈ D) → vcT X T Mt lo fn esc ops bm KK r D tE ls h → (r = .fin ∨ ∃ c r' a, r = .ch c r' a) →
      R X lo f fn Post (.inRegion ops (Region.linearise.go .any ops fuel tp listed []) :: k) tL ls h := by
  -- all is done
  have fin : ∀ (E D : List Nat) (r : OTr) (done : Nat) (tL tE : Tm) (ls : Lv) (h : Hp), (∀ i, i < ops.size → i ∈ E) → DS T lo fn esc ops t0 (· ∈ E) D tL tE ls h → ordT ops false r done = true → (∀ j, Nat.testBit done j = true ↔ j ∈ D) → vcT X T Mt lo fn esc ops bm KK r D tE ls h → (r = .fin ∨ ∃ c r' a, r = .ch c r' a) →
      R X lo f fn Post (.inRegion ops [] :: k) tL ls h := by
    intro E D r done tL tE ls h hall H h1 h2 h4 hst
    have hr : r = .fin := by
      rcases hst with rfl | ⟨c, r', a, rfl⟩
      · rfl
      · obtain ⟨o, ho, e1, _⟩ := okAt_spec (ordT_ch h1).1
        have := H.sub c (hall c (Array.getElem?_eq_some_iff.1 ho).1)
        rw [(h2 c).2 this] at e1; cases e1
    subst hr
    refine R_rend (R_n (t' := tE) (fun d x hx => ?_) (hK _ _ _ h4))
    by_cases hw : ∃ (i : Nat) (o : Oper), ops[i]? = some o ∧ o.dst = some d
    · obtain ⟨i, o, ho, hd⟩ := hw
      rw [H.a i o d (hall i (Array.getElem?_eq_some_iff.1 ho).1) ho hd]; exact hx
    · rw [H.b d fun i o _ ho hd => hw ⟨i, o, ho, hd⟩, ← H.c d fun i o _ ho hd => hw ⟨i, o, ho, hd⟩]; exact hx
  intro fuel
  induction fuel with
  | zero =>
    intro tp listed E D r done tL tE ls h hsz hl hn hlt hlen H h1 h2 h4 hstop
    simp only [Region.linearise.go, List.reverse_nil]
    exact fin E D r done tL tE ls h (fun i hi => ordn_full hn hlt (by omega) hi) H h1 h2 h4 hstop
  | succ fuel ih =>
    intro tp listed E D r done tL tE ls h hsz hl hn hlt hlen H h1 h2 h4 hstop
    have hgf : ∀ i, i < ops.size → (listed.getD i true = false ↔ i ∉ E) := by
      intro i hi
      rw [← hl i]
      have hi' : i < listed.size := by omega
      simp [Array.getD, hi']
    have rdy : ∀ (i : Nat) (o : Oper), ops[i]? = some o → (i ∈ Region.ready .any ops listed ↔ i ∉ E ∧ ∀ j, Nat.testBit (pm o) j = true → j ∈ E) := by
      intro i o ho
      rw [ready_iff ho, hgf i (Array.getElem?_eq_some_iff.1 ho).1]
      exact ⟨fun ⟨a, b⟩ => ⟨a, fun j hj => (hl j).1 (b j hj)⟩, fun ⟨a, b⟩ => ⟨a, fun j hj => (hl j).2 (b j hj)⟩⟩
    simp only [Region.linearise.go]
    change R X lo f fn Post (.inRegion ops (match (Region.ready .any ops listed)[tp % (Region.ready .any ops listed).length]? with
      | some i => Region.linearise.go .any ops fuel (tp / (Region.ready .any ops listed).length) (listed.setIfInBounds i true) [i]
      | none => [].reverse) :: k) tL ls h
    cases hi : (Region.ready .any ops listed)[tp % (Region.ready .any ops listed).length]? with
    | none =>
      have hnil : Region.ready .any ops listed = [] := by
        cases hr : Region.ready .any ops listed with
        | nil => rfl
        | cons x xs =>
          rw [hr] at hi
          have hlt : tp % (x :: xs).length < (x :: xs).length := Nat.mod_lt _ (by simp)
          rw [List.getElem?_eq_getElem hlt] at hi; cases hi
      simp only [List.reverse_nil]
      refine fin E D r done tL tE ls h (fun i hi => ?_) H h1 h2 h4 hstop
      refine Classical.byContradiction fun hni => ?_
      have hex : ∃ j, j ∈ pl.path ∧ j ∉ E := by
        rcases ordT_all hord i hi with hx | hx
        · simp at hx
        · exact ⟨i, hx, hni⟩
      obtain ⟨j, o, g1, g2, g3⟩ := ordT_ready (S := (· ∈ E)) hord (fun j hj => by simp at hj) hex
      have := (rdy j o g2).2 ⟨g1, g3⟩
      rw [hnil] at this
      cases this
    | some i =>
      simp only []
      rw [linearise_go_acc, List.reverse_singleton, List.singleton_append]
      have hir := List.mem_of_getElem? hi
      obtain ⟨_, o, ho, _⟩ := mem_ready.1 hir
      obtain ⟨hiE, hpE⟩ := (rdy i o ho).1 hir
      have hisz : i < ops.size := (Array.getElem?_eq_some_iff.1 ho).1
      have hl' : ∀ j, (listed.setIfInBounds i true).getD j false = true ↔ j ∈ i :: E := by
        intro j
        by_cases hji : i = j
        · subst hji
          have : i < listed.size := by omega
          simp [Array.getD, this]
        · rw [List.mem_cons, ← hl j]
          simp only [Array.getD_eq_getD_getElem?, Array.getElem?_setIfInBounds_ne hji]
          constructor
          · exact .inr
          · rintro (rfl | h); exact absurd rfl hji; exact h
      have hSE : ∀ {D : List Nat} {tL tE : Tm} {ls : Lv} {h : Hp}, DS T lo fn esc ops t0 (fun j => j ∈ E ∨ j = i) D tL tE ls h → DS T lo fn esc ops t0 (· ∈ i :: E) D tL tE ls h := by
        intro D tL tE ls h H
        have e : (fun j => j ∈ E ∨ j = i) = (· ∈ i :: E) := by
          funext j
          simp only [List.mem_cons, eq_iff_iff]
          exact ⟨fun h => h.elim .inr .inl, fun h => h.elim .inr .inl⟩
        rw [← e]; exact H
      have next : ∀ (D : List Nat) (r : OTr) (done : Nat) (tL tE : Tm) (ls : Lv) (h : Hp), DS T lo fn esc ops t0 (fun j => j ∈ E ∨ j = i) D tL tE ls h → ordT ops false r done = true → (∀ j, Nat.testBit done j = true ↔ j ∈ D) → vcT X T Mt lo fn esc ops bm KK r D tE ls h →
          R X lo f fn Post (.inRegion ops (Region.linearise.go .any ops fuel (tp / (Region.ready .any ops listed).length) (listed.setIfInBounds i true) []) :: k) tL ls h := by
        intro D r done tL tE ls h H h1 h2 h4
        obtain ⟨r', D', done', tE', g1, g2, g3, g4, g5⟩ := DS.advanceT K r D done tE h1 h2 (hSE H) h4
        exact ih _ _ (i :: E) D' r' done' tL tE' ls h (by simp [hsz]) hl' (List.nodup_cons.2 ⟨hiE, hn⟩) (fun j hj => by rcases List.mem_cons.1 hj with rfl | hj; exact hisz; exact hlt j hj) (by simp; omega) g3 g1 g2 g4 g5
      by_cases hiD : i ∈ D
      · -- it has been walked
        obtain ⟨q1, q2, sl, q3, q4⟩ := H.pend i o hiD hiE ho
        rcases q4 with ⟨e1, ti, e2, e3, e4⟩ | ⟨e1, rfl⟩
        · have hag : ∀ d ∈ tmpsOf o.op.operands.toList, Operand.tmp d ∈ o.op.operands → nlook ti d = nlook tL d := fun d _ hd => H.agree K ho hiE hpE hd (e2 d hd).1 (e2 d hd).2
          have hag' : ∀ d ∈ tmpsOf o.op.operands.toList, nlook ti d = nlook tL d := fun d hd => hag d hd (by
            have : ∀ (l : List Operand) (d : Nat), d ∈ tmpsOf l → Operand.tmp d ∈ l := by
              intro l
              induction l with
              | nil => intro d h; simp [tmpsOf] at h
              | cons x r ih =>
                intro d h
                cases x with
                | tmp j =>
                  simp only [tmpsOf, List.mem_cons] at h
                  rcases h with rfl | h
                  · simp
                  · simp [ih d h]
                | const v => simp only [tmpsOf] at h; simp [ih d h]
                | func v => simp only [tmpsOf] at h; simp [ih d h]
                | global v => simp only [tmpsOf] at h; simp [ih d h]
            simpa using this _ d hd)
          refine R_n (t' := ovl ti tL (tmpsOf o.op.operands.toList)) (fun d x hx => by rw [nlook_ovl hag'] at hx; exact hx) ?_
          have hw := H.wnt K ho hpE e1
          have hwr : ∀ s lb (a : Act), TmOk s lb ls.length (ovl ti tL (tmpsOf o.op.operands.toList)) a.tmps → Region.wanted o (yielded ops a.tmps) = true := fun s lb a tm => (hw.of_n fun j want oj d _ _ _ => nlook_ovl hag' d).real tm
          refine vcS_ok (esc := esc) hT hM ho hwr q2 (K := Is sl ls h) (fun sl' ls' h' hIs => ?_) (vcS_congr (t := ti) (fun x hx => evS_ovl hag' fun d hd => mem_tmpsOf (by subst hd; simpa using hx)) (vcS_of_fl q1 e3))
          obtain ⟨rfl, rfl, rfl⟩ := hIs
          exact next D r done _ tE ls' h' (H.doIt K ho hiD hpE q3 fun d => by rw [nlook_put, nlook_put, nlook_ovl hag']) h1 h2 h4
        · exact R_unwanted ho (fun s lb a tm => (H.wnt K ho hpE e1).real tm) q2 (next D r done _ tE ls h (H.doIt K ho hiD hpE q3 fun d => rfl) h1 h2 h4)
      · -- it is the next that turns the memory
        have hih : i ∈ r.heads := by
          rcases hstop with rfl | ⟨c, r', a, rfl⟩
          · rcases ordT_all h1 i hisz with hx | hx
            · exact absurd ((h2 i).1 hx) hiD
            · cases hx
          · have hall := allB_iff ((ordT_ch h1).2.2.2 rfl) (i, o) (mem_ix.2 ho)
            simp only at hall
            have hdi : Nat.testBit done i = false := by
              cases hx : Nat.testBit done i with
              | false => rfl
              | true => exact absurd ((h2 i).1 hx) hiD
            rw [hdi] at hall
            simp only at hall
            have hpd : Nat.beq (pm o &&& done) (pm o) = true := by
              have e : pm o &&& done = pm o := Nat.eq_of_testBit_eq fun j => by
                rw [Nat.testBit_and]
                cases hj : Nat.testBit (pm o) j with
                | false => rfl
                | true => rw [(h2 j).2 (H.sub j (hpE j hj))]; rfl
              rw [e]; exact Nat.beq_refl _
            rw [hpd] at hall
            exact memN_iff hall
        obtain ⟨r'', o', hok, ho', e4, h4'⟩ := vcT_head h1 h4 hih
        rw [ho] at ho'; cases ho'
        obtain ⟨o', ho', _, _, hfc⟩ := okAt_spec hok
        rw [ho] at ho'; cases ho'
        replace h4 := h4'
        obtain ⟨hd, tk, hk, hcase⟩ := vcOp_cases h4
        have hbmS : ∀ j, Nat.testBit (bm.getD i 0) j = true → j ∈ E := fun j hj => by rw [hbm] at hj; exact bm_in H.cl ho hpE hj
        rcases hcase with ⟨hw, hv⟩ | ⟨hw, hv⟩
        · have hag' : ∀ d ∈ tmpsOf o.op.operands.toList, nlook tk d = nlook tL d := fun d hd => by
            have hdm : Operand.tmp d ∈ o.op.operands := by
              have : ∀ (l : List Operand) (d : Nat), d ∈ tmpsOf l → Operand.tmp d ∈ l := by
                intro l
                induction l with
                | nil => intro d h; simp [tmpsOf] at h
                | cons x r ih =>
                  intro d h
                  cases x with
                  | tmp j =>
                    simp only [tmpsOf, List.mem_cons] at h
                    rcases h with rfl | h
                    · simp
                    · simp [ih d h]
                  | const v => simp only [tmpsOf] at h; simp [ih d h]
                  | func v => simp only [tmpsOf] at h; simp [ih d h]
                  | global v => simp only [tmpsOf] at h; simp [ih d h]
              simpa using this _ d hd
            rw [hk]
            refine H.agree K ho hiE hpE hdm (fun _ _ _ _ _ => rfl) fun hno => H.c d fun m om hm hom hmd => ?_
            have hmi : i ≠ m := by rintro rfl; exact hiD hm
            rcases K.rd i o d m om ho hom hdm hmd hmi with hx | ⟨_, hx⟩
            · rw [hno m om hom hmd] at hx; cases hx
            · exact hiD (H.dcl m om hm hom i hx)
          refine R_n (t' := ovl tk tL (tmpsOf o.op.operands.toList)) (fun d x hx => by rw [nlook_ovl hag'] at hx; exact hx) ?_
          have hw' := H.wnt K ho hpE hw
          have hwr : ∀ s lb (a : Act), TmOk s lb ls.length (ovl tk tL (tmpsOf o.op.operands.toList)) a.tmps → Region.wanted o (yielded ops a.tmps) = true := fun s lb a tm => (hw'.of_n fun j want oj d _ _ _ => nlook_ovl hag' d).real tm
          refine vcS_ok (esc := esc) hT hM ho hwr hd (fun sl' ls' h' hq => ?_) (vcS_congr (t := tk) (fun x hx => evS_ovl hag' fun d hd => mem_tmpsOf (by subst hd; simpa using hx)) hv)
          obtain ⟨hQ, H'⟩ := H.chain K ho hiD hpE hbmS hk (tL' := (ovl tk tL (tmpsOf o.op.operands.toList)).put o.dst sl') (fun d => by rw [nlook_put, nlook_put, nlook_ovl hag']) hq
          exact next (i :: D) r'' _ _ _ ls' h' H' e4 (bits_step h2) hQ
        · refine R_unwanted ho (fun s lb a tm => (H.wnt K ho hpE hw).real tm) hd ?_
          obtain ⟨hQ, H'⟩ := H.chain K ho hiD hpE hbmS hk (tL' := tL.put o.dst (.v undef)) (fun d => rfl) hv
          exact next (i :: D) r'' _ _ _ ls h H' e4 (bits_step h2) hQ
theorem R_drawnT (hT : TbOk P T) (hM : MtOk P Mt) {id : Nat} {p : OTr} {bm : List Nat} {t : Tm} {ls : Lv} {h : Hp} {KK : Tm → Lv → Hp → Prop} (hd : drawOkT ops p bm = true) (H : vcT X T Mt lo fn esc ops bm KK p [] t ls h) (hK : ∀ t ls h, KK t ls h → R X lo f fn Post k t ls h) : R X lo f fn Post (.code (.region id ops true) :: k) t ls h := by
  obtain ⟨K, hbm, hord⟩ := drawOkT_spec hd
  have key : ∀ tp, R X lo f fn Post (.inRegion ops (Region.schedule (P.follows .mixedOrders) ops tp) :: k) t ls h := by
    intro tp
    have hs : Region.schedule (P.follows .mixedOrders) ops tp = Region.linearise.go .any ops ops.size tp (Array.replicate ops.size false) [] := by
      simp only [Region.schedule, hT.mix, Bool.true_or, if_true]; rfl
    rw [hs]
    have H0 : DS T lo fn esc ops t (· ∈ ([] : List Nat)) [] t t ls h := ⟨fun i hi => hi, fun i o hi => (by cases hi), fun i o hi => (by cases hi), fun i o hi => (by cases hi), fun i o d hi => (by cases hi), fun _ _ => rfl, fun _ _ => rfl, fun i o hi => (by cases hi), fun i hi => (by cases hi)⟩
    obtain ⟨r', D', done', tE', g1, g2, g3, g4, g5⟩ := DS.advanceT K p [] 0 t hord (fun j => by simp) H0 H
    exact simT hT hM K hbm hord hK ops.size tp _ [] D' r' done' t tE' ls h (by simp) (fun i => by simp [Array.getD]) List.nodup_nil (fun i hi => by cases hi) (by simp) g3 g1 g2 g4 g5
  intro s O Pr lb w b a cs Stop h1 h2 h3 h4 M tm A
  refine X.step _ _ _ _ rfl fun w₁ r => ⟨_, _, #[], stepG_region_draw, ⟨Nat.le_refl _, fun _ _ _ => rfl, rfl, rfl, fun e he => by simp at he⟩, ?_⟩
  have hr : Rly X.N0 O w { w₁ with drawn := w₁.drawn + 1 } := r.trans ⟨Nat.le_refl _, fun _ _ _ => rfl, rfl, rfl⟩
  rw [grow_drawn]
  exact key _ s O Pr lb _ b a cs Stop h1 h2 h3 h4 (M.rely hr) tm (A.from s.le_refl (OG.refl O w) (kept_rly M hr))
/-- .. in a walk: 'refine drawT .. (by kernel_rfl) ?_'. -/
theorem drawT (hT : TbOk P T) (hM : MtOk P Mt) (esc : Hint) (n : Nat) (p : OTr) (bm : List Nat) {id : Nat} {t : Tm} {ls : Lv} {h : Hp} (hd : drawOkT ops p bm = true) (H : vcT X T Mt lo fn esc ops bm (fun t ls h => vc X T Mt lo f fn esc Post n k t ls h) p [] t ls h) : R X lo f fn Post (.code (.region id ops true) :: k) t ls h :=
  R_drawnT hT hM hd H fun t ls h => vc_ok hT hM n k t ls h
/-- .. told in one way behind it, whatever the order. -/
theorem drawI (hT : TbOk P T) (hM : MtOk P Mt) (esc : Hint) (n : Nat) (p : OTr) (bm : List Nat) (tm : Tm) (lv : Lv) (I : Hp → Prop) {id : Nat} {t : Tm} {ls : Lv} {h : Hp} (hin : tmIn tm lv.length = true) (hd : drawOkT ops p bm = true) (H : vcT X T Mt lo fn esc ops bm (fun t ls h => keeps tm t ∧ pre lv ls ∧ I h) p [] t ls h) (rest : ∀ h, I h → vc X T Mt lo f fn esc Post n k tm lv h) : R X lo f fn Post (.code (.region id ops true) :: k) t ls h :=
  R_drawnT hT hM hd H fun t ls h hK => R_trim hK.1 hin hK.2.1 (vc_ok hT hM n k tm lv h (rest h hK.2.2))
end
end Go.Id
/- Contracts over the ideal memory: what is drawn. -/
namespace Go.Proofs.YtambkogocbgbmaaGreat.Id
open Go.Id
open Go.Proofs
set_option linter.unusedVariables false
set_option maxRecDepth 100000
variable {X : Ctx Tryz.prog} {lo : Nat}
def uE (x : Nat) : List Value := [.int .u8 x]
/-- A reader of a code: its bytes, its place. -/
structure Rd (lo : Nat) (h : Hp) (rb : Nat) (p : Int) : Prop where
  ex : ∃ (a : Option Addr) (fl : Nat) (bs : List Nat), Bx h rb [.slice a bs.length fl, .int .i64 p] ∧ Sls h uE 1 a bs ∧ bs.length ≤ 2000 ∧ (∀ b ∈ bs, b < 256) ∧ ∀ ad, a = some ad → ad.block < rb
  lo : lo ≤ rb
  p : 0 ≤ p ∧ p ≤ 1000000000
theorem Rd.ext {h h' : Hp} {rb : Nat} {p : Int} (r : Rd lo h rb p) (e : Ext h h') : Rd lo h' rb p := by
  obtain ⟨a, fl, bs, h1, h2, h3⟩ := r.ex
  exact ⟨⟨a, fl, bs, h1.ext e, h2.ext e, h3⟩, r.lo, r.p⟩
theorem Rd.keep {h h' : Hp} {rb : Nat} {p : Int} (r : Rd lo h rb p) (hn : h.n ≤ h'.n) (hg : ∀ i, i ≤ rb → h'.g i = h.g i) : Rd lo h' rb p := by
  obtain ⟨a, fl, bs, h1, h2, h3, h4, h5⟩ := r.ex
  refine ⟨⟨a, fl, bs, ⟨Nat.lt_of_lt_of_le h1.lt hn, (hg _ (Nat.le_refl _)).trans h1.g⟩, ?_, h3, h4, h5⟩, r.lo, r.p⟩
  cases a with
  | none => exact h2
  | some ad => exact ⟨Nat.lt_of_lt_of_le h2.1 hn, by rw [hg _ (Nat.le_of_lt (h5 ad rfl))]; exact h2.2⟩
theorem sls_x1 {α : Type} {j : Nat} {h h' : Hp} (x : Ext1 j h h') {e : α → List Value} {sz : Nat} {a : Option Addr} {l : List α} (s : Sls h e sz a l) (hj : ∀ ad, a = some ad → ad.block ≠ j) : Sls h' e sz a l := by
  cases a with
  | none => exact s
  | some ad => exact ⟨Nat.lt_of_lt_of_le s.1 x.n, by rw [x.g _ s.1 (hj ad rfl)]; exact s.2⟩
theorem xor_ok {x y : Int} (hx : 0 ≤ x ∧ x < 2 ^ 40) (hy : 0 ≤ y ∧ y < 2 ^ 40) : 0 ≤ IntKind.i64.wrap ((BitVec.ofInt IntKind.i64.bits x ^^^ BitVec.ofInt IntKind.i64.bits y).toNat : Int) := by
  have e : ∀ z : Int, 0 ≤ z ∧ z < 2 ^ 40 → (BitVec.ofInt 64 z).toNat < 2 ^ 40 := fun z hz => by
    rw [BitVec.toNat_ofInt]; omega
  have : (BitVec.ofInt 64 x ^^^ BitVec.ofInt 64 y).toNat < 2 ^ 40 := by
    rw [BitVec.toNat_xor]; exact Nat.xor_lt_two_pow (e x hx) (e y hy)
  show 0 ≤ IntKind.i64.wrap ((BitVec.ofInt 64 x ^^^ BitVec.ofInt 64 y).toNat : Int)
  rw [wr (by omega) (by omega)]; omega
theorem pick_ok (rb : Nat) (p n : Int) (h : Hp) (r : Rd lo h rb p) (hn : n ≤ 1000000) (hp : p + 1 ≤ 1000000000) : Tri X lo 74 [.pointer (some ⟨rb, 0, none⟩), .int .i64 n] h fun v h' => ∃ q : Int, v = .int .i64 q ∧ 0 ≤ q ∧ (1 ≤ n → q < n) ∧ (n < 1 → q = 0) ∧ Rd lo h' rb (p + 1) ∧ Ext1 rb h h' := by
  refine enter tbOk mtOk ⟨[], [(7, [0, 1, 2, 3, 4, 5, 6, 7, 8, 9, 10, 11, 12, 13, 14, 15, 16, 17, 18, 19, 20, 21, 22, 23, 24, 25, 26, 27, 28, 29, 30, 31, 32, 33, 34, 35, 36, 37, 38, 39, 40, 41, 42, 43, 44, 45], [0, 1, 3, 7, 0, 0, 32, 96, 224, 480, 1008, 2047, 4095, 8191, 16383, 0, 32768, 98304, 229376, 0, 524288, 1572864, 0, 4194304, 12582912, 29360128, 62914560, 133693440, 268402688, 536838144, 1073709056, 2147450880, 4294967295, 0, 8589934592, 34359738367, 0, 0, 137438953472, 412316860416, 962072674304, 2061584302080, 4329327034368, 8727373545472, 17592186044415, 35184372088831])]⟩ 400 Tryz.func74 rfl rfl rfl fun hlo => ?_
  obtain ⟨a, fl, bs, h1, h2, h3, h4, h5⟩ := r.ex
  have hp0 := r.p
  have w1 : IntKind.i64.wrap (p + 1) = p + 1 := wr (by omega) (by omega)
  refine ⟨_, h1.ldF (i := 1) rfl, ?_⟩
  refine ⟨_, h1.stF (i := 1) r.lo (Nat.le_of_ble_eq_true rfl), ?_⟩
  have hb2 : Bx (h.set rb (.cells [.slice a bs.length fl, .int .i64 (IntKind.i64.wrap (p + 1))] 0 0)) rb [.slice a bs.length fl, .int .i64 (IntKind.i64.wrap (p + 1))] := h1.set
  have x1 : Ext1 rb h (h.set rb (.cells [.slice a bs.length fl, .int .i64 (IntKind.i64.wrap (p + 1))] 0 0)) := ((Ext.refl h).one rb).set _ (.inl rfl)
  have s2 : Sls (h.set rb (.cells [.slice a bs.length fl, .int .i64 (IntKind.i64.wrap (p + 1))] 0 0)) uE 1 a bs := sls_x1 x1 h2 (fun ad e => Nat.ne_of_lt (h5 ad e))
  have rd2 : Rd lo (h.set rb (.cells [.slice a bs.length fl, .int .i64 (IntKind.i64.wrap (p + 1))] 0 0)) rb (p + 1) := ⟨⟨a, fl, bs, by have hb2' := hb2; rw [w1] at hb2' ⊢; exact hb2', s2, h3, h4, h5⟩, r.lo, by omega⟩
  refine cnd (fun c1 => ?_) (fun c1 => ?_)
  · refine cndT ?_
    have c1 : n < 1 := of_decide_eq_true c1
    exact ⟨0, rfl, Int.le_refl 0, fun h => by omega, fun _ => rfl, rd2, x1⟩
  · have c1 : ¬ n < 1 := of_decide_eq_false c1
    refine ⟨_, hb2.ldF (i := 0) rfl, ?_⟩
    refine cnd (fun c2 => ?_) (fun c2 => ?_)
    · exact ⟨0, rfl, Int.le_refl 0, fun h => by omega, fun _ => rfl, rd2, x1⟩
    · have c2 : bs.length ≠ 0 := by simpa using c2
      have w2 : IntKind.i64.wrap (IntKind.i64.wrap (p + 1) - 1) = p := by rw [w1, wr (by omega) (by omega)]; omega
      refine ⟨_, hb2.ldF (i := 1) rfl, ?_⟩
      refine ⟨_, hb2.ldF (i := 0) rfl, ?_⟩
      have by' : ∀ {j : Nat} (hj : j < bs.length), bs[j] < 256 := fun hj => h4 _ (List.getElem_mem hj)
      refine cnd (fun c3 => ?_) (fun c3 => ?_)
      · rw [w2] at c3
        have c3 : p < bs.length := of_decide_eq_true c3
        refine ⟨_, hb2.ldF (i := 0) rfl, ?_⟩
        have hj : p.toNat < bs.length := by omega
        obtain ⟨a, rfl⟩ := s2.some hj
        refine And.intro ⟨by rw [w2]; omega, by rw [w2]; exact c3⟩ ?_
        have ldb : Ld (h.set rb (.cells [.slice (some a) bs.length fl, .int .i64 (IntKind.i64.wrap (p + 1))] 0 0)) (addA a ((IntKind.i64.wrap (IntKind.i64.wrap (p + 1) - 1)).toNat * 1)) 1 [.int .u8 (bs[p.toNat] : Nat)] := by
          rw [w2]; exact s2.ld (fun _ => rfl) hj
        refine ⟨_, ldb, ?_⟩
        have hb8 := by' hj
        have w3 : IntKind.i64.wrap ((bs[p.toNat] : Nat) : Int) = (bs[p.toNat] : Nat) := wr (by omega) (by omega)
        refine And.intro (by omega) ?_
        refine ⟨_, rfl, ?_, fun hn1 => ?_, fun h => by omega, rd2, x1⟩
        · rw [w3, Int.tmod_eq_emod_of_nonneg (by omega)]; exact Int.emod_nonneg _ (by omega)
        · rw [w3, Int.tmod_eq_emod_of_nonneg (by omega)]; exact Int.emod_lt_of_pos _ (by omega)
      · rw [w2] at c3
        have c3 : ¬ p < bs.length := of_decide_eq_false c3
        have hj : 0 < bs.length := by omega
        obtain ⟨a, rfl⟩ := s2.some hj
        have ldi : ∀ (x : Int), (0 ≤ x ∧ x < bs.length) → ∃ b : Nat, b < 256 ∧ Ld (h.set rb (.cells [.slice (some a) bs.length fl, .int .i64 (IntKind.i64.wrap (p + 1))] 0 0)) (addA a (x.toNat * 1)) 1 [.int .u8 (b : Nat)] := fun x hx => ⟨bs[x.toNat]'(by omega), by' _, s2.ld (fun _ => rfl) (by omega)⟩
        have ln0 : (bs.length : Int) ≠ 0 := by omega
        have md : ∀ y : Int, 0 ≤ y → 0 ≤ y.tmod bs.length ∧ y.tmod bs.length < bs.length := fun y hy => by
          rw [Int.tmod_eq_emod_of_nonneg hy]
          exact ⟨Int.emod_nonneg _ ln0, Int.emod_lt_of_pos _ (by omega)⟩
        have w7 : IntKind.i64.wrap (IntKind.i64.wrap (IntKind.i64.wrap (IntKind.i64.wrap (p + 1) - 1) * 7) + 3) = p * 7 + 3 := by rw [w2, wr (n := p * 7) (by omega) (by omega), wr (by omega) (by omega)]
        refine And.intro (by kernel_rfl) ?_
        refine ⟨_, hb2.ldF (i := 0) rfl, ?_⟩
        refine ⟨_, hb2.ldF (i := 0) rfl, ?_⟩
        refine And.intro ln0 ?_
        refine And.intro (by rw [w2]; exact md p hp0.1) ?_
        obtain ⟨b1, l1, d1⟩ := ldi ((IntKind.i64.wrap (IntKind.i64.wrap (p + 1) - 1)).tmod bs.length) (by rw [w2]; exact md p hp0.1)
        refine ⟨_, d1, ?_⟩
        refine ⟨_, hb2.ldF (i := 0) rfl, ?_⟩
        refine ⟨_, hb2.ldF (i := 0) rfl, ?_⟩
        refine And.intro ln0 ?_
        refine And.intro (by rw [w7]; exact md _ (by omega)) ?_
        obtain ⟨b2, l2, d2⟩ := ldi ((IntKind.i64.wrap (IntKind.i64.wrap (IntKind.i64.wrap (IntKind.i64.wrap (p + 1) - 1) * 7) + 3)).tmod bs.length) (by rw [w7]; exact md _ (by omega))
        refine ⟨_, d2, ?_⟩
        refine ⟨_, hb2.ldF (i := 0) rfl, ?_⟩
        refine And.intro ln0 ?_
        refine And.intro (by decide) ?_
        refine And.intro (by omega) ?_
        have hq : 0 ≤ p.tdiv bs.length ∧ p.tdiv bs.length ≤ p := by
          rw [Int.tdiv_eq_ediv_of_nonneg hp0.1]
          exact ⟨Int.ediv_nonneg hp0.1 (by omega), Int.ediv_le_self _ hp0.1⟩
        have hE : 0 ≤ IntKind.i64.wrap (IntKind.i64.wrap (IntKind.i64.wrap (IntKind.i64.wrap (IntKind.i64.wrap (b1 : Int) * 131) + IntKind.i64.wrap (IntKind.i64.wrap (b2 : Int) * 1117)) + IntKind.i64.wrap (IntKind.i64.wrap (IntKind.i64.wrap (p + 1) - 1) * 29)) + IntKind.i64.wrap (IntKind.i64.wrap ((IntKind.i64.wrap (IntKind.i64.wrap (p + 1) - 1)).tdiv bs.length) * 53)) ∧
            IntKind.i64.wrap (IntKind.i64.wrap (IntKind.i64.wrap (IntKind.i64.wrap (IntKind.i64.wrap (b1 : Int) * 131) + IntKind.i64.wrap (IntKind.i64.wrap (b2 : Int) * 1117)) + IntKind.i64.wrap (IntKind.i64.wrap (IntKind.i64.wrap (p + 1) - 1) * 29)) + IntKind.i64.wrap (IntKind.i64.wrap ((IntKind.i64.wrap (IntKind.i64.wrap (p + 1) - 1)).tdiv bs.length) * 53)) < 2 ^ 40 := by
          rw [w2]
          generalize p.tdiv bs.length = q at hq ⊢
          rw [wr (n := (b1 : Int)) (by omega) (by omega), wr (n := (b2 : Int)) (by omega) (by omega), wr (n := q) (by omega) (by omega), wr (n := (b1 : Int) * 131) (by omega) (by omega), wr (n := (b2 : Int) * 1117) (by omega) (by omega), wr (n := p * 29) (by omega) (by omega), wr (n := q * 53) (by omega) (by omega), wr (n := (b1 : Int) * 131 + (b2 : Int) * 1117) (by omega) (by omega), wr (n := (b1 : Int) * 131 + (b2 : Int) * 1117 + p * 29) (by omega) (by omega), wr (by omega) (by omega)]
          omega
        generalize hEE : IntKind.i64.wrap (IntKind.i64.wrap (IntKind.i64.wrap (IntKind.i64.wrap (IntKind.i64.wrap (b1 : Int) * 131) + IntKind.i64.wrap (IntKind.i64.wrap (b2 : Int) * 1117)) + IntKind.i64.wrap (IntKind.i64.wrap (IntKind.i64.wrap (p + 1) - 1) * 29)) + IntKind.i64.wrap (IntKind.i64.wrap ((IntKind.i64.wrap (IntKind.i64.wrap (p + 1) - 1)).tdiv bs.length) * 53)) = E at hE
        have hX : 0 ≤ IntKind.i64.wrap ((BitVec.ofInt IntKind.i64.bits E ^^^ BitVec.ofInt IntKind.i64.bits (IntKind.i64.wrap (E.tdiv 64))).toNat : Int) := by
          have hd : IntKind.i64.wrap (E.tdiv 64) = E / 64 := by rw [Int.tdiv_eq_ediv_of_nonneg hE.1, wr (by omega) (by omega)]
          rw [hd]
          exact xor_ok hE ⟨by omega, by omega⟩
        refine ⟨_, rfl, ?_, fun hn1 => ?_, fun h => by omega, rd2, x1⟩
        · rw [Int.tmod_eq_emod_of_nonneg hX]; exact Int.emod_nonneg _ (by omega)
        · rw [Int.tmod_eq_emod_of_nonneg hX]; exact Int.emod_lt_of_pos _ (by omega)
end Go.Proofs.YtambkogocbgbmaaGreat.Id
/- Contracts over the ideal memory: cells and grids that are drawn. -/
namespace Go.Proofs.YtambkogocbgbmaaGreat.Id
open Go.Id
open Go.Proofs
set_option linter.unusedVariables false
set_option maxRecDepth 100000
variable {X : Ctx Tryz.prog} {lo rb : Nat}
/-- A cell was drawn. -/
def DrawC (lo rb : Nat) (p k : Int) (h : Hp) (v : Value) (h' : Hp) : Prop := ∃ (c : Cl) (p' : Int), v = .agg #[.int .i64 c.1, .int .i64 c.2] ∧ Rd lo h' rb p' ∧ (p ≤ p' ∧ p' ≤ p + k) ∧ Ext1 rb h h'
theorem l71Cell_ok (rb : Nat) (p : Int) (h : Hp) (r : Rd lo h rb p) (hp : p + 2 ≤ 1000000000) : Tri X lo 149 [.pointer (some ⟨rb, 0, none⟩)] h (DrawC lo rb p 2 h) := by
  refine enter tbOk mtOk ⟨[], []⟩ 400 Tryz.func149 rfl rfl rfl fun hlo => ?_
  refine callP (pick_ok rb p 12 h r (by decide) (by omega)) ?_
  rintro v h1 ⟨q, rfl, q1, q2, q3, r1, x1⟩
  have fin : ∀ a b : Int, DrawC lo rb p 2 h (.agg #[.int .i64 a, .int .i64 b]) h1 := fun a b => ⟨(a, b), p + 1, rfl, r1, ⟨by omega, by omega⟩, x1⟩
  refine cnd (fun _ => fin _ _) (fun _ => ?_)
  refine cnd (fun _ => fin _ _) (fun _ => ?_)
  refine cnd (fun _ => fin _ _) (fun _ => ?_)
  refine cnd (fun _ => fin _ _) (fun _ => ?_)
  refine cnd (fun _ => fin _ _) (fun _ => ?_)
  refine cnd (fun _ => fin _ _) (fun _ => ?_)
  refine cnd (fun _ => fin _ _) (fun _ => ?_)
  refine cnd (fun _ => fin _ _) (fun _ => ?_)
  refine cnd (fun _ => ?_) (fun _ => ?_)
  · refine callP (pick_ok rb (p + 1) 9 h1 r1 (by decide) (by omega)) ?_
    rintro v h2 ⟨q', rfl, _, _, _, r2, x2⟩
    exact ⟨(7, _), p + 1 + 1, rfl, r2, ⟨by omega, by omega⟩, x1.trans x2⟩
  · exact fin _ _
theorem Rd.lt {h : Hp} {rb : Nat} {p : Int} (r : Rd lo h rb p) : rb < h.n := by
  obtain ⟨a, fl, bs, h1, h2, h3⟩ := r.ex
  exact h1.lt
theorem l71Off_ok (rb : Nat) (p : Int) (h : Hp) (r : Rd lo h rb p) (hp : p + 2 ≤ 1000000000) : Tri X lo 105 [.pointer (some ⟨rb, 0, none⟩)] h (DrawC lo rb p 2 h) := by
  refine enter tbOk mtOk ⟨[], []⟩ 400 Tryz.func105 rfl rfl rfl fun hlo => ?_
  let cs : List Cl := [(-1, 0), (8, 0), (7, 0), (7, 10), (1, 1), (0, 0)]
  let h1 := h.push (.cells (cs.flatMap cE) 2 0)
  have e1 : Ext h h1 := Ext.push _ _
  have rw1 : Row h1 h.n 0 cE 2 cs := Row.push
  have lt := r.lt
  refine callP (pick_ok rb p 6 h1 (r.ext e1) (by decide) (by omega)) ?_
  rintro v h2 ⟨q, rfl, q1, q2, q3, r1, x1⟩
  have q2 := q2 (by decide)
  have rw2 : Row h2 h.n 0 cE 2 cs := rw1.ext1 x1 (by omega)
  have hj : q.toNat < cs.length := by show q.toNat < 6; omega
  refine And.intro ⟨q1, q2⟩ ?_
  refine ⟨_, (rw2.sls cE2).ld cE2 hj, ?_⟩
  exact ⟨cs[q.toNat], p + 1, rfl, r1, ⟨by omega, by omega⟩, (e1.one rb).trans x1⟩
/-- A row's part that is one's own. -/
def Dw (lo : Nat) (h : Hp) (sv : Value) (cs : List Cl) : Prop := ∃ a fl, sv = .slice a cs.length fl ∧ match a with
  | none => cs = []
  | some ad => lo ≤ ad.block ∧ ad.block < h.n ∧ ∃ pr po e, ad.spot = some e ∧ ad.off = (pr : List Cl).length * 2 ∧ h.g ad.block = .cells ((pr ++ cs ++ po).flatMap cE) 2 e
theorem Dw.keep {h h' : Hp} {sv : Value} {cs : List Cl} (d : Dw lo h sv cs) (x : Ext1 rb h h') (hb : rb < lo) : Dw lo h' sv cs := by
  obtain ⟨a, fl, rfl, d⟩ := d
  refine ⟨a, fl, rfl, ?_⟩
  cases a with
  | none => exact d
  | some ad =>
    obtain ⟨d1, d2, pr, po, e, d3, d4, d5⟩ := d
    exact ⟨d1, Nat.lt_of_lt_of_le d2 x.n, pr, po, e, d3, d4, by rw [x.g _ d2 (by omega)]; exact d5⟩
theorem Dw.sls {h : Hp} {a : Option Addr} {n fl : Nat} {cs : List Cl} (d : Dw lo h (.slice a n fl) cs) : n = cs.length ∧ Sls h cE 2 a cs := by
  obtain ⟨a', fl', e, d⟩ := d
  cases e
  refine ⟨rfl, ?_⟩
  cases a with
  | none => exact d
  | some ad =>
    obtain ⟨d1, d2, pr, po, e, d3, d4, d5⟩ := d
    refine ⟨d2, _, 2, by rw [d3]; exact d5, ?_⟩
    unfold sub?
    rw [if_pos (by rw [flat_len cE2, d4]; simp; omega)]
    rw [List.append_assoc, List.flatMap_append, d4, ← flat_len cE2 pr, List.drop_left, List.flatMap_append, ← flat_len cE2 cs, List.take_left]
/-- One of its elements is written. -/
theorem Dw.st {lo' : Nat} {h : Hp} {a : Option Addr} {n fl : Nat} {cs : List Cl} (d : Dw lo h (.slice a n fl) cs) (hlo : lo' ≤ lo) {j : Nat} (hj : j < cs.length) (c : Cl) : ∃ ad h', a = some ad ∧ lo ≤ ad.block ∧ St lo' h (addA ad (j * 2)) (cE c) h' ∧ Dw lo h' (.slice (some ad) n fl) (cs.set j c) ∧ (∀ rb, ∀ h0, Ext1 rb h0 h → h0.n ≤ lo → Ext1 rb h0 h') ∧ h.n ≤ h'.n ∧ ∀ i, i < lo → h'.g i = h.g i := by
  obtain ⟨a', fl', e, d⟩ := d
  cases e
  cases a with
  | none => simp at d; subst d; simp at hj
  | some ad =>
    obtain ⟨d1, d2, pr, po, e, d3, d4, d5⟩ := d
    have hg : ∀ (i : Nat), (pr ++ cs ++ po).set (pr.length + i) c = if i < cs.length then pr ++ cs.set i c ++ po else pr ++ cs ++ po.set (i - cs.length) c := by
      intro i
      rw [List.append_assoc, List.set_append_right _ _ (by omega)]
      split
      · rw [List.set_append_left _ _ (by omega), List.append_assoc]; simp
      · rw [List.set_append_right _ _ (by omega), List.append_assoc]; simp
    have hl : pr.length + j < (pr ++ cs ++ po).length := by simp; omega
    have key := flat_set (enc := cE) (sz := 2) cE2 (l := pr ++ cs ++ po) (j := pr.length + j) (f := 0) hl (x := c) (ys := cE c) (by simp [cE]) (setL_all [] _ _ rfl)
    rw [hg, if_pos hj] at key
    refine ⟨ad, h.set ad.block (.cells ((pr ++ cs.set j c ++ po).flatMap cE) 2 e), rfl, d1, ⟨by show lo' ≤ ad.block; omega, d2, _, 2, by show h.g ad.block = _; rw [d5]; congr 1; show e = epOf ad.spot; rw [d3]; rfl, ?_, ?_⟩, ⟨some ad, fl, by simp, d1, d2, pr, po, e, d3, d4, by simp [Hp.set]⟩, fun rb h0 x hx => x.set _ (.inr (by omega)), Nat.le_refl _, fun i hi => by simp only [Hp.set]; rw [if_neg (by omega)]⟩
    · rw [flat_len cE2]; simp only [addA, cE, List.length_cons, List.length_nil, d4]; simp at hl ⊢; omega
    · rw [← key]
      simp only [addA, d4, d3]
      rw [show (pr.length + j) * 2 + 0 = pr.length * 2 + j * 2 from by omega]; rfl
theorem gx_dw {h : Hp} {o : Option (Nat × Nat)} {cs : List Cl} (g : Gx lo h cE 2 o cs) : Dw lo h (gv o cs.length) cs := by
  match o, g with
  | none, g => obtain rfl : cs = [] := g; exact ⟨none, 0, rfl, rfl⟩
  | some (b, e), ⟨g1, g2⟩ => exact ⟨some ⟨b, 0, some e⟩, 1, rfl, g1, g2.lt, [], [], e, rfl, rfl, by simpa using g2.g⟩
theorem gx_re {α : Type} {enc : α → List Value} {sz lo' : Nat} {h : Hp} {o : Option (Nat × Nat)} {l : List α} (g : Gx lo h enc sz o l) (hl : ∀ i, isB o i → lo' ≤ i) : Gx lo' h enc sz o l := by
  match o, g with
  | none, g => exact g
  | some (b, e), ⟨g1, g2⟩ => exact ⟨hl b ⟨e, rfl⟩, g2⟩
structure GS where
  k : Nat
  o : Option (Nat × Nat)
  cs : List Cl
/-- A grid was drawn. -/
def DrawG (lo rb : Nat) (p k : Int) (L : Nat) (h : Hp) (v : Value) (h' : Hp) : Prop := ∃ (w : Int) (sv : Value) (cs : List Cl) (p' : Int), v = .agg #[.int .i64 w, sv] ∧ (-1 ≤ w ∧ w ≤ 6) ∧ Dw h.n h' sv cs ∧ cs.length ≤ L ∧ Rd lo h' rb p' ∧ (p ≤ p' ∧ p' ≤ p + k) ∧ Ext1 rb h h'
theorem l71Grid_ok (rb : Nat) (p : Int) (h : Hp) (r : Rd lo h rb p) (hp : p + 60 ≤ 1000000000) : Tri X lo 104 [.pointer (some ⟨rb, 0, none⟩)] h (fun v h' => ∃ (w : Int) (b e : Nat) (cs : List Cl) (p' : Int), v = .agg #[.int .i64 w, .slice (some ⟨b, 0, some e⟩) cs.length 1] ∧ (1 ≤ w ∧ w ≤ 5) ∧ (1 ≤ cs.length ∧ cs.length ≤ 25) ∧ h.n ≤ b ∧ Row h' b e cE 2 cs ∧ Rd lo h' rb p' ∧ (p ≤ p' ∧ p' ≤ p + 60) ∧ Ext1 rb h h') := by
  refine enter tbOk mtOk ⟨[], [(2, [0, 1, 2, 3, 4, 5, 6], [0, 1, 0, 4, 12, 31, 63]), (5, [0, 1, 2, 3, 4, 5, 6, 7], [0, 1, 0, 4, 12, 31, 63, 127])]⟩ 400 Tryz.func104 rfl rfl rfl fun hlo => ?_
  refine callP (pick_ok rb p 5 h r (by decide) (by omega)) ?_
  rintro v h1 ⟨q, rfl, q1, q2, q3, r1, x1⟩
  have q2 := q2 (by decide)
  refine And.intro (by kernel_rfl) ?_
  refine callP (pick_ok rb (p + 1) 5 h1 r1 (by decide) (by omega)) ?_
  rintro v h2 ⟨q', rfl, q1', q2', q3', r2, x2⟩
  have q2' := q2' (by decide)
  refine And.intro Is.r ?_
  have w1 : IntKind.i64.wrap (1 + q) = 1 + q := wr (by omega) (by omega)
  have w2 : IntKind.i64.wrap (1 + q') = 1 + q' := wr (by omega) (by omega)
  obtain ⟨tot, ht0, ht⟩ : ∃ tot : Nat, (1 + q) * (1 + q') = (tot : Int) ∧ 1 ≤ tot ∧ tot ≤ 25 := by
    have h1 : (1 : Int) * 1 ≤ (1 + q) * (1 + q') := Int.mul_le_mul (by omega) (by omega) (by omega) (by omega)
    have h2 : (1 + q) * (1 + q') ≤ 5 * 5 := Int.mul_le_mul (by omega) (by omega) (by omega) (by omega)
    exact ⟨((1 + q) * (1 + q')).toNat, by omega, by omega, by omega⟩
  have w3 : IntKind.i64.wrap (IntKind.i64.wrap (1 + q) * IntKind.i64.wrap (1 + q')) = (tot : Int) := by rw [w1, w2, ht0, wr (by omega) (by omega)]
  refine loop (σ := GS) tbOk mtOk ⟨[], [(2, [0, 1, 2, 3, 4, 5, 6], [0, 1, 0, 4, 12, 31, 63]), (5, [0, 1, 2, 3, 4, 5, 6, 7], [0, 1, 0, 4, 12, 31, 63, 127])]⟩ (fun s => [(4, .v (.int .i64 (s.k : Int))), (3, .l 1 0), (2, .l 0 0), (0, .v (.pointer (some ⟨rb, 0, none⟩)))]) (fun s => [[.int .i64 0, .slice none 0 0], [.int .i64 (IntKind.i64.wrap (1 + q)), gv s.o s.cs.length]]) (fun s h' => s.k + s.cs.length = tot ∧ Gx h.n h' cE 2 s.o s.cs ∧ (∃ p', Rd lo h' rb p' ∧ p ≤ p' ∧ p' ≤ p + 2 + 2 * s.cs.length) ∧ Ext1 rb h h') (fun s => s.k) 400 ⟨tot, none, []⟩ (fun _ => rfl) ⟨?_, rfl, rfl, rfl, trivial⟩ ⟨rfl, rfl, trivial⟩ ⟨by simp, rfl, ⟨p + 1 + 1, r2, by omega, by simp; omega⟩, x1.trans x2⟩ (fun s h' hI again => ?_)
  · show some (Sl.v (.int .i64 _)) = _
    rw [w3]
  obtain ⟨k, o, cs⟩ := s
  obtain ⟨i1, i2, ⟨p', r3, i3, i4⟩, x3⟩ := hI
  simp only at i1 i2 i3 i4
  have lt := r.lt
  refine cnd (fun c1 => ?_) (fun c1 => ?_)
  · have c1 : 0 < k := by simpa using c1
    refine And.intro (by kernel_rfl) ?_
    refine callP (l71Cell_ok rb p' h' r3 (by omega)) ?_
    rintro v h3 ⟨c, p2, rfl, r4, i5, x4⟩
    refine And.intro Is.r ?_
    refine And.intro Is.r ?_
    have hn3 := (x3.trans x4).n
    have e4 : Ext h3 (h3.push (.cells ([c].flatMap cE) 2 0)) := Ext.push _ _
    have g4 : Gx h.n (h3.push (.cells ([c].flatMap cE) 2 0)) cE 2 o cs := (i2.keep x4.n fun i hi hb => x4.g i hi (by have := (i2.lt hb).2; omega)).ext e4
    have g1 : Gx 0 (h3.push (.cells ([c].flatMap cE) 2 0)) cE 2 (some (h3.n, 0)) [c] := ⟨Nat.zero_le _, Row.push⟩
    obtain ⟨o', h5, a1, a2, a3⟩ := (gx_re (lo' := lo) g4 fun i hi => by have := (g4.lt hi).2; omega).apps cE2 (by decide) [c] (by unfold Id.maxLen; simp; omega) (by have := e4.n; omega)
    refine ⟨[c].flatMap cE, g1.cells cE2, _, h5, a1, ?_⟩
    obtain ⟨b1, e1, rfl⟩ : ∃ b e, o' = some (b, e) := by
      cases o' with
      | none => exact absurd (show cs ++ [c] = [] from a2) (by simp)
      | some x => exact ⟨x.1, x.2, rfl⟩
    have e4n := e4.n
    have a3n := a3.n
    have k5 : ∀ i, i < h.n → h5.g i = h3.g i := fun i hi => by
      refine (a3.g i (by omega) fun hb => ?_).trans (e4.g i (by omega))
      have := (g4.lt hb).2
      omega
    have x5 : Ext1 rb h h5 := ⟨by omega, fun i hi hj => (k5 i hi).trans ((x3.trans x4).g i hi hj)⟩
    have r5 : Rd lo h5 rb p2 := r4.keep (by omega) fun i hi => k5 i (by omega)
    have fin : Gx h.n h5 cE 2 (some (b1, e1)) (cs ++ [c]) := gx_re a2 fun i hb => by
      rcases a3.b i hb with hb | hb
      · exact (g4.lt hb).2
      · omega
    have hk : IntKind.i64.wrap ((k : Int) - 1) = ((k - 1 : Nat) : Int) := by rw [wr (by omega) (by omega)]; omega
    have hl : (cs ++ [c]).length = cs.length + 1 := by simp
    rcases o with _ | ⟨b0, e0⟩
    all_goals
      refine again ⟨k - 1, some (b1, e1), cs ++ [c]⟩ _ _ _ (by show k - 1 < k; omega) ⟨?_, rfl, rfl, rfl, trivial⟩ ⟨rfl, rfl, trivial⟩ ⟨by show k - 1 + (cs ++ [c]).length = tot; omega, fin, ⟨p2, r5, by omega, by show p2 ≤ p + 2 + 2 * ((cs ++ [c]).length : Int); omega⟩, x5⟩
      show some (Sl.v (.int .i64 (IntKind.i64.wrap ((k : Int) - 1)))) = _
      rw [hk]
  · have c1 : k = 0 := by simpa using c1
    rcases o with _ | ⟨b, e⟩
    · exfalso
      have : cs = [] := i2
      subst this
      simp at i1; omega
    · exact ⟨_, b, e, cs, p', rfl, by omega, by omega, i2.1, i2.2, r3, ⟨by omega, by omega⟩, x3⟩
end Go.Proofs.YtambkogocbgbmaaGreat.Id
/- Contracts over the ideal memory: grids that are drawn, some spoilt. -/
namespace Go.Proofs.YtambkogocbgbmaaGreat.Id
open Go.Id
open Go.Proofs
set_option linter.unusedVariables false
set_option maxRecDepth 100000
variable {X : Ctx Tryz.prog} {lo rb : Nat}
theorem Dw.mono {lo' : Nat} {h : Hp} {sv : Value} {cs : List Cl} (d : Dw lo h sv cs) (hl : lo' ≤ lo) : Dw lo' h sv cs := by
  obtain ⟨a, fl, rfl, d⟩ := d
  refine ⟨a, fl, rfl, ?_⟩
  cases a with
  | none => exact d
  | some ad => exact ⟨Nat.le_trans hl d.1, d.2⟩
theorem l71Some_ok (rb : Nat) (p : Int) (h : Hp) (r : Rd lo h rb p) (hp : p + 100 ≤ 1000000000) : Tri X lo 73 [.pointer (some ⟨rb, 0, none⟩)] h (DrawG lo rb p 100 40 h) := by
  refine enter tbOk mtOk ⟨[], [(11, [0, 1, 2, 3, 4, 5, 7, 6, 8, 9, 10], [0, 1, 0, 0, 8, 24, 60, 0, 252, 511, 1023])]⟩ 400 Tryz.func73 rfl rfl rfl fun hlo => ?_
  refine callP (l71Grid_ok rb p h r (by omega)) ?_
  rintro v h1 ⟨w, b, e, cs, p1, rfl, w1, l1, hb, ro, r1, i1, x1⟩
  have lt := r.lt
  have hn1 := x1.n
  have dw : ∀ {h' : Hp} {cs : List Cl} {e : Nat}, Row h' b e cE 2 cs → Dw h.n h' (.slice (some ⟨b, 0, some e⟩) cs.length 1) cs := fun r => gx_dw (o := some (b, _)) ⟨hb, r⟩
  refine callP (pick_ok rb p1 24 h1 r1 (by decide) (by omega)) ?_
  rintro v h2 ⟨q, rfl, q1, q2, q3, r2, x2⟩
  have ro := ro.ext1 x2 (by omega)
  have x2 := x1.trans x2
  refine cnd (fun c1 => ?_) (fun c1 => ?_)
  · exact ⟨w, _, cs, _, rfl, by omega, dw ro, by omega, r2, ⟨by omega, by omega⟩, x2⟩
  · refine callP (pick_ok rb (p1 + 1) 5 h2 r2 (by decide) (by omega)) ?_
    rintro v h3 ⟨q', rfl, q1', q2', q3', r3, x3⟩
    have ro := ro.ext1 x3 (by omega)
    have x3 := x2.trans x3
    have hn3 := x3.n
    have fin : ∀ w sv h', (-1 ≤ w ∧ w ≤ 6) → (∃ cs, Dw h.n h' sv cs ∧ cs.length ≤ 40) → (∃ p', Rd lo h' rb p' ∧ p ≤ p' ∧ p' ≤ p + 100) → Ext1 rb h h' → DrawG lo rb p 100 40 h (.agg #[.int .i64 w, sv]) h' := fun w sv h' a1 a2 a3 a4 => by
      obtain ⟨cs, a2, a2'⟩ := a2
      obtain ⟨p', a3, a3'⟩ := a3
      exact ⟨w, sv, cs, p', rfl, a1, a2, a2', a3, a3', a4⟩
    refine cnd (fun c2 => ?_) (fun c2 => ?_)
    · let ws : List Int := [0, -1, 6]
      have e3 : Ext h3 (h3.push (.cells (ws.flatMap iE) 1 0)) := Ext.push _ _
      have rw3 : Row (h3.push (.cells (ws.flatMap iE) 1 0)) h3.n 0 iE 1 ws := Row.push
      refine callP (pick_ok rb (p1 + 1 + 1) 3 (h3.push (.cells (ws.flatMap iE) 1 0)) (r3.ext e3) (by decide) (by omega)) ?_
      rintro v h4 ⟨q4, rfl, u1, u2, u3, r4, x4⟩
      have u2 := u2 (by decide)
      have rw4 : Row h4 h3.n 0 iE 1 ws := rw3.ext1 x4 (by omega)
      have hj : q4.toNat < ws.length := by show q4.toNat < 3; omega
      refine And.intro ⟨u1, u2⟩ ?_
      refine ⟨_, (rw4.sls (fun _ => rfl)).ld (fun _ => rfl) hj, ?_⟩
      have hw : -1 ≤ ws[q4.toNat] ∧ ws[q4.toNat] ≤ 6 := (by decide : ∀ x ∈ ([0, -1, 6] : List Int), -1 ≤ x ∧ x ≤ 6) _ (List.getElem_mem hj)
      exact fin _ _ h4 hw ⟨cs, dw ((ro.ext e3).ext1 x4 (by omega)), by omega⟩ ⟨_, r4, by omega, by omega⟩ (x3.trans ((e3.one rb).trans x4))
    · refine cnd (fun c3 => ?_) (fun c3 => ?_)
      · refine And.intro ⟨by decide, by omega, by omega⟩ ?_
        obtain ⟨c, cs', rfl⟩ : ∃ c cs', cs = c :: cs' := by
          cases cs with
          | nil => simp at l1
          | cons c cs' => exact ⟨c, cs', rfl⟩
        rw [List.length_cons]
        by_cases hn : cs' = []
        · subst hn
          refine .inr ⟨rfl, ?_⟩
          exact fin _ _ h3 (by omega) ⟨[], ⟨some ⟨b, 0, some e⟩, 2, rfl, hb, ro.lt, [], [c], e, rfl, rfl, ro.g⟩, by simp⟩ ⟨_, r3, by omega, by omega⟩ x3
        · refine .inl ⟨by have := List.length_pos_iff.2 hn; omega, ?_⟩
          refine fin _ _ h3 (by omega) ⟨cs', ⟨some (addA ⟨b, 0, some e⟩ 2), 2, ?_, hb, ro.lt, [c], [], e, rfl, rfl, by show h3.g b = _; simpa using ro.g⟩, by simp at l1; omega⟩ ⟨_, r3, by omega, by omega⟩ x3
          congr 1; omega
      · refine cnd (fun c4 => ?_) (fun c4 => ?_)
        · refine And.intro (by kernel_rfl) ?_
          refine callP (pick_ok rb (p1 + 1 + 1) cs.length h3 r3 (by omega) (by omega)) ?_
          rintro v h4 ⟨q4, rfl, u1, u2, u3, r4, x4⟩
          have u2 := u2 (by omega)
          refine And.intro Is.r ?_
          refine callP (l71Off_ok rb _ h4 r4 (by omega)) ?_
          rintro v h5 ⟨c, p5, rfl, r5, i5, x5⟩
          have ro := (ro.ext1 x4 (by omega)).ext1 x5 (by omega)
          have hj : q4.toNat < cs.length := by omega
          have x5' := (x3.trans x4).trans x5
          refine And.intro Is.r ?_
          refine And.intro ⟨u1, u2⟩ ?_
          refine ⟨_, ro.st cE2 (by omega) hj c, ?_⟩
          refine fin _ _ _ (by omega) ⟨cs.set q4.toNat c, ?_, by rw [List.length_set]; omega⟩ ⟨p5, r5.keep (Nat.le_refl _) fun i hi => by simp only [Hp.set]; rw [if_neg (by omega)], by omega, by omega⟩ (x5'.set _ (.inr hb))
          have := dw (h' := h5.set b (.cells ((cs.set q4.toNat c).flatMap cE) 2 e)) (Row.set ro.lt)
          rwa [List.length_set] at this
        · refine cnd (fun c5 => ?_) (fun c5 => ?_)
          · refine loop (σ := Nat × List Cl) tbOk mtOk ⟨[], [(11, [0, 1, 2, 3, 4, 5, 7, 6, 8, 9, 10], [0, 1, 0, 0, 8, 24, 60, 0, 252, 511, 1023])]⟩ (fun s => [(3, .l 1 0), (2, .l 0 0), (0, .v (.pointer (some ⟨rb, 0, none⟩)))]) (fun s => [[.int .i64 0, .slice none 0 0], [.int .i64 w, .slice (some ⟨b, 0, some s.1⟩) s.2.length 1]]) (fun s h' => (1 ≤ s.2.length ∧ s.2.length ≤ 26) ∧ Row h' b s.1 cE 2 s.2 ∧ Rd lo h' rb (p1 + 1 + 1) ∧ Ext1 rb h h') (fun s => 40 - s.2.length) 400 (e, cs) (fun _ => rfl) ⟨rfl, rfl, rfl, trivial⟩ ⟨rfl, rfl, trivial⟩ ⟨⟨l1.1, Nat.le_trans l1.2 (by decide)⟩, ro, r3, x3⟩ (fun s h' hI again => ?_)
            obtain ⟨e, cs⟩ := s
            obtain ⟨i2, ro, r4, x4⟩ := hI
            simp only at i2
            have w5 : IntKind.i64.wrap (w * 5) = w * 5 := wr (by omega) (by omega)
            refine cnd (fun c6 => ?_) (fun c6 => ?_)
            · have c6 : (cs.length : Int) ≤ w * 5 := by rw [w5] at c6; exact of_decide_eq_true c6
              have e4 : Ext h' (h'.push (.cells ([((0, 0) : Cl)].flatMap cE) 2 0)) := Ext.push _ _
              have g1 : Gx 0 (h'.push (.cells ([((0, 0) : Cl)].flatMap cE) 2 0)) cE 2 (some (h'.n, 0)) [((0, 0) : Cl)] := ⟨Nat.zero_le _, Row.push⟩
              refine ⟨[((0, 0) : Cl)].flatMap cE, g1.cells cE2, _, _, (ro.ext e4).app (m := [((0, 0) : Cl)]) cE2 (by decide) (by omega) (by unfold Id.maxLen; simp; omega), ?_⟩
              have x5 := (x4.trans (e4.one rb)).set (.cells ((cs ++ [((0, 0) : Cl)]).flatMap cE) 2 (e + 1)) (.inr hb)
              refine again (e + 1, cs ++ [((0, 0) : Cl)]) _ _ _ (by show 40 - (cs ++ [((0, 0) : Cl)]).length < 40 - cs.length; simp; omega) ⟨rfl, rfl, rfl, trivial⟩ ⟨rfl, ?_, trivial⟩ ⟨⟨by simp, by simp; omega⟩, Row.set (ro.ext e4).lt, (r4.ext e4).keep (Nat.le_refl _) fun i hi => by simp only [Hp.set]; rw [if_neg (by omega)], x5⟩
              show [Value.int .i64 w, Value.slice (some ⟨b, 0, some (e + 1)⟩) (cs ++ [((0, 0) : Cl)]).length 1] = [Value.int .i64 w, Value.slice (some ⟨b, 0, some (e + 1)⟩) (cs.length + [((0, 0) : Cl)].length) 1]
              rw [List.length_append]
            · exact fin _ _ _ (by omega) ⟨cs, dw ro, by omega⟩ ⟨_, r4, by omega, by omega⟩ x4
          · exact fin _ _ h3 (by omega) ⟨[], ⟨none, 0, rfl, rfl⟩, by simp⟩ ⟨_, r3, by omega, by omega⟩ x3
end Go.Proofs.YtambkogocbgbmaaGreat.Id
/- Contracts over the ideal memory: bright grids are drawn. -/
namespace Go.Proofs.YtambkogocbgbmaaGreat.Id
open Go.Id
open Go.Proofs
set_option linter.unusedVariables false
set_option maxRecDepth 100000
variable {X : Ctx Tryz.prog} {lo rb : Nat}
theorem l71Bright_ok (rb : Nat) (p : Int) (h : Hp) (r : Rd lo h rb p) (hp : p + 200 ≤ 1000000000) : Tri X lo 35 [.pointer (some ⟨rb, 0, none⟩)] h (DrawG lo rb p 200 40 h) := by
  refine enter tbOk mtOk ⟨[], [(5, [0, 1, 2, 3, 4, 5, 8, 6, 7, 9, 10, 11, 12, 13, 14], [0, 1, 0, 0, 8, 24, 60, 0, 0, 380, 1020, 2044, 4092, 8191, 16383])]⟩ 400 Tryz.func35 rfl rfl rfl fun hlo => ?_
  refine callP (l71Some_ok rb p h r (by omega)) ?_
  rintro v h1 ⟨w, sv, cs, p1, rfl, w1, d1, l1, r1, i1, x1⟩
  have lt := r.lt
  have hn1 := x1.n
  have d1' := d1
  obtain ⟨a, fl, rfl, _⟩ := d1'
  refine callP (pick_ok rb p1 8 h1 r1 (by decide) (by omega)) ?_
  rintro v h2 ⟨q, rfl, q1, q2, q3, r2, x2⟩
  have q2 := q2 (by decide)
  have d2 := d1.keep x2 lt
  have x2 := x1.trans x2
  refine loop (σ := Nat × List Cl) tbOk mtOk ⟨[], [(5, [0, 1, 2, 3, 4, 5, 8, 6, 7, 9, 10, 11, 12, 13, 14], [0, 1, 0, 0, 8, 24, 60, 0, 0, 380, 1020, 2044, 4092, 8191, 16383])]⟩ (fun s => [(4, .v (.int .i64 (s.1 : Int))), (3, .l 1 0), (2, .l 0 0), (0, .v (.pointer (some ⟨rb, 0, none⟩)))]) (fun s => [[.int .i64 0, .slice none 0 0], [.int .i64 w, .slice a cs.length fl]]) (fun s h' => s.1 ≤ 7 ∧ s.2.length = cs.length ∧ Dw h.n h' (.slice a cs.length fl) s.2 ∧ (∃ p', Rd lo h' rb p' ∧ p ≤ p' ∧ p' ≤ p + 100 + 1 + 2 * (8 - s.1)) ∧ Ext1 rb h h') (fun s => s.1) 16 (q.toNat, cs) (fun _ => rfl) ⟨?_, rfl, rfl, rfl, trivial⟩ ⟨rfl, rfl, trivial⟩ ⟨by show q.toNat ≤ 7; omega, rfl, d2, ⟨p1 + 1, r2, by omega, by show p1 + 1 ≤ p + 100 + 1 + 2 * (8 - (q.toNat : Int)); omega⟩, x2⟩ (fun s h' hI again => ?_)
  · show some (Sl.v (.int .i64 q)) = some (Sl.v (.int .i64 (q.toNat : Int)))
    rw [Int.toNat_of_nonneg q1]
  obtain ⟨k, cs'⟩ := s
  obtain ⟨i1, i2, d3, ⟨p3, r3, i3, i4⟩, x3⟩ := hI
  simp only at i1 i2 i3 i4
  refine cnd (fun c1 => ?_) (fun c1 => ?_)
  · have c1 : 0 < k := by simpa using c1
    refine cnd (fun c2 => ?_) (fun c2 => ?_)
    · have c2 : 0 < cs.length := by simpa using c2
      refine drawT tbOk mtOk ⟨[], [(5, [0, 1, 2, 3, 4, 5, 8, 6, 7, 9, 10, 11, 12, 13, 14], [0, 1, 0, 0, 8, 24, 60, 0, 0, 380, 1020, 2044, 4092, 8191, 16383])]⟩ 400 (.fl 0 (.fl 1 (.fl 2 (.fl 3 (.fl 4 (.fl 5 (.fl 8 (.ch 6 (.ch 7 (.ch 9 (.fl 10 (.fl 11 (.fl 12 (.fl 13 (.ch 14 .fin .stop))))) .stop) (.ch 9 (.ch 7 (.fl 10 (.fl 11 (.fl 12 (.fl 13 (.ch 14 .fin .stop))))) .stop) .stop)) (.ch 7 (.ch 6 (.ch 9 (.fl 10 (.fl 11 (.fl 12 (.fl 13 (.ch 14 .fin .stop))))) .stop) .stop) .stop))))))))) [0, 1, 0, 0, 8, 24, 60, 0, 0, 380, 1020, 2044, 4092, 8191, 16383] (by kernel_rfl) ?_
      obtain ⟨ad, rfl⟩ : ∃ ad, a = some ad := d3.sls.2.some (show 0 < cs'.length by omega)
      have hkw : IntKind.i64.wrap ((k : Int) - 1) = ((k - 1 : Nat) : Int) := by rw [wr (by omega) (by omega)]; omega
      have hk1 : some (Sl.v (.int .i64 (IntKind.i64.wrap ((k : Int) - 1)))) = some (Sl.v (.int .i64 ((k - 1 : Nat) : Int))) := by rw [hkw]
      have hn3 := x3.n
      refine And.intro ?_ ?_
      · refine callP (pick_ok rb p3 cs.length h' r3 (by omega) (by omega)) ?_
        rintro v h3 ⟨u, rfl, u1, u2, u3, r4, x4⟩
        have u2 := u2 (by omega)
        have n4 := x4.n
        refine And.intro Is.r ?_
        refine And.intro ?_ ?_
        · have e4 : Ext h3 (h3.push (.cells ([2, 3, 4, 5].flatMap iE) 1 0)) := Ext.push _ _
          have rw4 : Row (h3.push (.cells ([2, 3, 4, 5].flatMap iE) 1 0)) h3.n 0 iE 1 [2, 3, 4, 5] := Row.push
          refine And.intro Is.r ?_
          refine And.intro Is.r ?_
          refine And.intro ?_ trivial
          refine callP (pick_ok rb (p3 + 1) 4 (h3.push (.cells ([2, 3, 4, 5].flatMap iE) 1 0)) (r4.ext e4) (by decide) (by omega)) ?_
          rintro v h4 ⟨z, rfl, z1, z2, z3, r5, x5⟩
          have z2 := z2 (by decide)
          have rw5 : Row h4 h3.n 0 iE 1 [2, 3, 4, 5] := rw4.ext1 x5 (by omega)
          have d5 := ((d3.keep x4 lt).keep (e4.one rb) lt).keep x5 lt
          have x6 := ((x3.trans x4).trans (e4.one rb)).trans x5
          refine And.intro Is.r ?_
          refine And.intro ⟨z1, z2⟩ ?_
          refine ⟨_, (rw5.sls (fun _ => rfl)).ld (fun _ => rfl) (show z.toNat < 4 by omega), ?_⟩
          obtain ⟨_, h6, e6, b6, st6, d6, f6, n6, k6⟩ := d5.st hlo (j := u.toNat) (show u.toNat < cs'.length by omega) (([2, 3, 4, 5] : List Int)[z.toNat]'(show z.toNat < 4 by omega), (0 : Int))
          cases e6
          have x7 := f6 rb h x6 (Nat.le_refl _)
          refine And.intro ⟨u1, u2⟩ ?_
          refine And.intro ?_ trivial
          refine ⟨_, st6, ?_⟩
          exact again (k - 1, cs'.set u.toNat (([2, 3, 4, 5] : List Int)[z.toNat]'(show z.toNat < 4 by omega), (0 : Int))) _ _ _ (by show k - 1 < k; omega) ⟨hk1, rfl, rfl, rfl, trivial⟩ ⟨rfl, rfl, trivial⟩ ⟨by show k - 1 ≤ 7; omega, by rw [List.length_set]; exact i2, d6, ⟨_, r5.keep n6 fun i hi => k6 i (by omega), by omega, by show p3 + 1 + 1 ≤ p + 100 + 1 + 2 * (8 - ((k - 1 : Nat) : Int)); omega⟩, x7⟩
        · refine And.intro ?_ trivial
          refine callP (pick_ok rb (p3 + 1) 4 h3 r4 (by decide) (by omega)) ?_
          rintro v h4 ⟨z, rfl, z1, z2, z3, r5, x5⟩
          have z2 := z2 (by decide)
          have e4 : Ext h4 (h4.push (.cells ([2, 3, 4, 5].flatMap iE) 1 0)) := Ext.push _ _
          have rw5 : Row (h4.push (.cells ([2, 3, 4, 5].flatMap iE) 1 0)) h4.n 0 iE 1 [2, 3, 4, 5] := Row.push
          have d5 := ((d3.keep x4 lt).keep x5 lt).keep (e4.one rb) lt
          have x6 := ((x3.trans x4).trans x5).trans (e4.one rb)
          have r5 := r5.ext e4
          refine And.intro Is.r ?_
          refine And.intro ?_ trivial
          refine And.intro Is.r ?_
          refine And.intro Is.r ?_
          refine And.intro ⟨z1, z2⟩ ?_
          refine ⟨_, (rw5.sls (fun _ => rfl)).ld (fun _ => rfl) (show z.toNat < 4 by omega), ?_⟩
          obtain ⟨_, h6, e6, b6, st6, d6, f6, n6, k6⟩ := d5.st hlo (j := u.toNat) (show u.toNat < cs'.length by omega) (([2, 3, 4, 5] : List Int)[z.toNat]'(show z.toNat < 4 by omega), (0 : Int))
          cases e6
          have x7 := f6 rb h x6 (Nat.le_refl _)
          refine And.intro ⟨u1, u2⟩ ?_
          refine And.intro ?_ trivial
          refine ⟨_, st6, ?_⟩
          exact again (k - 1, cs'.set u.toNat (([2, 3, 4, 5] : List Int)[z.toNat]'(show z.toNat < 4 by omega), (0 : Int))) _ _ _ (by show k - 1 < k; omega) ⟨hk1, rfl, rfl, rfl, trivial⟩ ⟨rfl, rfl, trivial⟩ ⟨by show k - 1 ≤ 7; omega, by rw [List.length_set]; exact i2, d6, ⟨_, r5.keep n6 fun i hi => k6 i (by omega), by omega, by show p3 + 1 + 1 ≤ p + 100 + 1 + 2 * (8 - ((k - 1 : Nat) : Int)); omega⟩, x7⟩
      · have e4 : Ext h' (h'.push (.cells ([2, 3, 4, 5].flatMap iE) 1 0)) := Ext.push _ _
        have rw4 : Row (h'.push (.cells ([2, 3, 4, 5].flatMap iE) 1 0)) h'.n 0 iE 1 [2, 3, 4, 5] := Row.push
        refine And.intro ?_ trivial
        refine And.intro Is.r ?_
        refine And.intro Is.r ?_
        refine And.intro ?_ trivial
        refine callP (pick_ok rb p3 cs.length (h'.push (.cells ([2, 3, 4, 5].flatMap iE) 1 0)) (r3.ext e4) (by omega) (by omega)) ?_
        rintro v h3 ⟨u, rfl, u1, u2, u3, r4, x4⟩
        have u2 := u2 (by omega)
        have n4 := x4.n
        have e4n := e4.n
        refine And.intro Is.r ?_
        refine And.intro ?_ trivial
        refine callP (pick_ok rb (p3 + 1) 4 h3 r4 (by decide) (by omega)) ?_
        rintro v h4 ⟨z, rfl, z1, z2, z3, r5, x5⟩
        have z2 := z2 (by decide)
        have rw5 : Row h4 h'.n 0 iE 1 [2, 3, 4, 5] := (rw4.ext1 x4 (by omega)).ext1 x5 (by omega)
        have d5 := ((d3.keep (e4.one rb) lt).keep x4 lt).keep x5 lt
        have x6 := ((x3.trans (e4.one rb)).trans x4).trans x5
        refine And.intro Is.r ?_
        refine And.intro ⟨z1, z2⟩ ?_
        refine ⟨_, (rw5.sls (fun _ => rfl)).ld (fun _ => rfl) (show z.toNat < 4 by omega), ?_⟩
        obtain ⟨_, h6, e6, b6, st6, d6, f6, n6, k6⟩ := d5.st hlo (j := u.toNat) (show u.toNat < cs'.length by omega) (([2, 3, 4, 5] : List Int)[z.toNat]'(show z.toNat < 4 by omega), (0 : Int))
        cases e6
        have x7 := f6 rb h x6 (Nat.le_refl _)
        refine And.intro ⟨u1, u2⟩ ?_
        refine And.intro ?_ trivial
        refine ⟨_, st6, ?_⟩
        exact again (k - 1, cs'.set u.toNat (([2, 3, 4, 5] : List Int)[z.toNat]'(show z.toNat < 4 by omega), (0 : Int))) _ _ _ (by show k - 1 < k; omega) ⟨hk1, rfl, rfl, rfl, trivial⟩ ⟨rfl, rfl, trivial⟩ ⟨by show k - 1 ≤ 7; omega, by rw [List.length_set]; exact i2, d6, ⟨_, r5.keep n6 fun i hi => k6 i (by omega), by omega, by show p3 + 1 + 1 ≤ p + 100 + 1 + 2 * (8 - ((k - 1 : Nat) : Int)); omega⟩, x7⟩
    · refine more tbOk mtOk ⟨[], [(5, [0, 1, 2, 3, 4, 5, 8, 6, 7, 9, 10, 11, 12, 13, 14], [0, 1, 0, 0, 8, 24, 60, 0, 0, 380, 1020, 2044, 4092, 8191, 16383])]⟩ 400 ?_
      exact ⟨w, _, cs', p3, rfl, w1, d3, by omega, r3, ⟨by omega, by omega⟩, x3⟩
  · refine cndF ?_
    refine more tbOk mtOk ⟨[], [(5, [0, 1, 2, 3, 4, 5, 8, 6, 7, 9, 10, 11, 12, 13, 14], [0, 1, 0, 0, 8, 24, 60, 0, 0, 380, 1020, 2044, 4092, 8191, 16383])]⟩ 400 ?_
    exact ⟨w, _, cs', p3, rfl, w1, d3, by omega, r3, ⟨by omega, by omega⟩, x3⟩
end Go.Proofs.YtambkogocbgbmaaGreat.Id
/- Contracts over the ideal memory: what is drawn from a code. -/
namespace Go.Proofs.YtambkogocbgbmaaGreat.Id
open Go.Id
open Go.Proofs
set_option linter.unusedVariables false
set_option maxRecDepth 100000
variable {X : Ctx Tryz.prog} {lo rb : Nat}
theorem l6Open_ok (a : Option Addr) (fl : Nat) (bs : List Nat) (h : Hp) (hs : Sls h uE 1 a bs) (hn : bs.length ≤ 1048576) (hb : ∀ b ∈ bs, b < 256) : Tri X lo 36 [.slice a bs.length fl] h (fun v h' => v = .pointer (some ⟨h.n, 0, none⟩) ∧ Rd lo h' h.n 0 ∧ Ext h h') := by
  refine enter tbOk mtOk ⟨[10], []⟩ 400 Tryz.func36 rfl rfl rfl fun hlo => ?_
  refine cnd (fun c1 => ?_) (fun c1 => ?_)
  · have c1 : (2000 : Int) < bs.length := by simpa using c1
    obtain ⟨ad, rfl⟩ := hs.some (show 0 < bs.length by omega)
    refine And.intro ⟨by decide, by decide, by omega⟩ ?_
    have hl : (bs.take 2000).length = 2000 := by rw [List.length_take]; omega
    have cut : ∀ fl' : Nat, Bx (h.push (.cells [.slice (some ad) (bs.take 2000).length fl', .int .i64 0] 0 0)) h.n [.slice (some ad) (bs.take 2000).length fl', .int .i64 0] → Rd lo (h.push (.cells [.slice (some ad) (bs.take 2000).length fl', .int .i64 0] 0 0)) h.n 0 := fun fl' hb' => by
      refine ⟨⟨some ad, fl', bs.take 2000, hb', ?_, by omega, fun b hb' => hb b (List.mem_of_mem_take hb'), fun ad' e => by cases e; exact hs.1⟩, hlo, by omega⟩
      have h1 : Sls h uE 1 (some ad) (bs.take 2000) := by
        obtain ⟨q1, c, sz, q2, q3⟩ := hs
        refine ⟨q1, c, sz, q2, ?_⟩
        obtain ⟨g1, g2⟩ := sub_some q3
        have hfl : (bs.take 2000).flatMap uE = (bs.flatMap uE).take 2000 := by
          have : ∀ (l : List Nat) (n : Nat), (l.take n).flatMap uE = (l.flatMap uE).take n := by
            intro l
            induction l with
            | nil => intro n; simp
            | cons x l ih => intro n; cases n with
              | zero => simp
              | succ n => simp [uE, ih]
          exact this bs 2000
        rw [hl]
        unfold sub?
        rw [if_pos (by omega), hfl, g2, List.take_take, Nat.min_eq_left (by omega)]
      exact h1.ext (Ext.push _ _)
    rw [hl] at cut
    refine .inl ⟨by decide, ?_⟩
    exact ⟨rfl, cut _ Bx.push, Ext.push _ _⟩
  · have c1 : bs.length ≤ 2000 := by simp at c1; omega
    refine ⟨rfl, ⟨⟨a, fl, bs, Bx.push, hs.ext (Ext.push _ _), c1, hb, fun ad e => ?_⟩, hlo, by omega⟩, Ext.push _ _⟩
    subst e; exact hs.1
/-- A grid, drawn. -/
def DrawnG (h : Hp) (v : Value) (h' : Hp) : Prop := ∃ (g : Gd) (a : Option Addr) (fl : Nat), v = .agg #[.int .i64 g.w, .slice a g.cs.length fl] ∧ Dw h.n h' (.slice a g.cs.length fl) g.cs ∧ g.cs.length ≤ 40 ∧ Ext h h'
theorem DrawPicOf_ok (a : Option Addr) (fl : Nat) (bs : List Nat) (h : Hp) (hs : Sls h uE 1 a bs) (hn : bs.length ≤ 1048576) (hb : ∀ b ∈ bs, b < 256) : Tri X lo 8 [.slice a bs.length fl] h (DrawnG h) := by
  refine enter tbOk mtOk ⟨[], []⟩ 400 Tryz.func8 rfl rfl rfl fun hlo => ?_
  refine callP (l6Open_ok a fl bs h hs hn hb) ?_
  rintro v h1 ⟨rfl, r1, x1⟩
  refine callP (l71Bright_ok h.n 0 h1 r1 (by decide)) ?_
  rintro v h2 ⟨w, sv, cs, p, rfl, w1, d, l, r2, i2, x2⟩
  obtain ⟨a', fl', rfl, _⟩ := id d
  exact ⟨⟨w, cs⟩, a', fl', rfl, d.mono x1.n, l, x2.out x1 (Nat.le_refl _)⟩
end Go.Proofs.YtambkogocbgbmaaGreat.Id
/- Contracts over the ideal memory: the laws' own words on grids. -/
namespace Go.Proofs.YtambkogocbgbmaaGreat.Id
open Go.Id
open Go.Proofs
set_option linter.unusedVariables false
set_option maxRecDepth 100000
variable {X : Ctx Tryz.prog} {lo : Nat}
theorem szCellS_ok (a : Option Addr) (n fl : Nat) (m : Int) (h : Hp) (hm : 0 ≤ m ∧ m ≤ 1048576) (hn : n ≤ 9223372036854775807) : Tri X lo 57 [.slice a n fl, .int .i64 m] h fun v h' => v = .int .i64 (if (n : Int) ≤ m then m - n else -1) ∧ h' = h := by
  refine enter tbOk mtOk ⟨[], []⟩ 400 Tryz.func57 rfl rfl rfl fun hlo => ?_
  have hw : IntKind.i64.wrap (m - n) = m - n := wr (by omega) (by omega)
  refine cnd (fun c1 => ?_) (fun c1 => ?_)
  · rw [hw] at c1
    have c1 : m - n < 0 := by simpa using c1
    rw [if_neg (by omega)]; exact ⟨rfl, rfl⟩
  · rw [hw] at c1
    have c1 : ¬ m - n < 0 := by simpa using c1
    rw [if_pos (by omega)]
    refine And.intro ?_ rfl
    rw [hw]
theorem szGrid_ok (w : Int) (a : Option Addr) (n fl : Nat) (m : Int) (h : Hp) (hm : 0 ≤ m ∧ m ≤ 1048576) (hn : n ≤ 9223372036854775807) : Tri X lo 23 [.agg #[.int .i64 w, .slice a n fl], .int .i64 m] h fun v h' => v = .int .i64 (if (n : Int) ≤ m then m - n else -1) ∧ h' = h := by
  refine enter tbOk mtOk ⟨[], []⟩ 400 Tryz.func23 rfl rfl rfl fun hlo => ?_
  refine callP (szCellS_ok a n fl m h hm hn) ?_
  rintro v h1 ⟨rfl, rfl⟩
  refine cnd (fun c1 => ?_) (fun c1 => ?_)
  · by_cases q : (n : Int) ≤ m
    · rw [if_pos q] at c1; simp at c1; omega
    · rw [if_neg q]; exact ⟨rfl, rfl⟩
  · exact ⟨rfl, rfl⟩
theorem toCell_ok (a b : Int) (h : Hp) : Tri X lo 100 [.agg #[.int .i64 a, .int .i64 b]] h fun v h' => v = .agg #[.int .i64 a, .int .i64 b] ∧ h' = h := by
  refine enter tbOk mtOk ⟨[], []⟩ 400 Tryz.func100 rfl rfl rfl fun hlo => ?_
  exact ⟨rfl, rfl⟩
theorem toCellS_ok (a : Option Addr) (fl : Nat) (cs : List Cl) (h : Hp) (hs : Sls h cE 2 a cs) (hn : cs.length ≤ 1048576) : Tri X lo 58 [.slice a cs.length fl] h fun v h' => ∃ b, v = .slice (some ⟨b, 0, some 0⟩) cs.length 1 ∧ lo ≤ b ∧ h.n ≤ b ∧ Row h' b 0 cE 2 cs ∧ Ext h h' := by
  refine enter tbOk mtOk ⟨[], []⟩ 400 Tryz.func58 rfl rfl rfl fun hlo => ?_
  refine And.intro ⟨by omega, by omega, by unfold Id.maxLen; omega⟩ ?_
  have r0 : Row (h.push (.cells (zeros [.int .i64 0, .int .i64 0] cs.length) 2 0)) h.n 0 cE 2 (List.replicate cs.length ((0, 0) : Cl)) := by rw [zeros_flat (enc := cE) (z := [.int .i64 0, .int .i64 0]) (x := ((0, 0) : Cl)) rfl cs.length]; exact Row.push
  refine loop (σ := Nat) tbOk mtOk ⟨[], []⟩ (fun i => [(4, .v (.int .i64 (i : Int))), (3, .v (.slice (some ⟨h.n, 0, some 0⟩) cs.length 1)), (0, .v (.slice a cs.length fl))]) (fun _ => []) (fun i h' => i ≤ cs.length ∧ Ext h h' ∧ Row h' h.n 0 cE 2 (cs.take i ++ List.replicate (cs.length - i) ((0, 0) : Cl))) (fun i => cs.length - i) 400 0 (fun _ => rfl) ⟨rfl, rfl, rfl, trivial⟩ trivial ⟨Nat.zero_le _, Ext.push _ _, by simpa using r0⟩ (fun i h' hI again => ?_)
  obtain ⟨i1, i2, i3⟩ := hI
  refine cnd (fun c1 => ?_) (fun c1 => ?_)
  · have c1 : i < cs.length := by simpa using c1
    obtain ⟨a, rfl⟩ := hs.some c1
    refine And.intro ⟨by omega, by omega⟩ ?_
    refine ⟨_, (hs.ext i2).ld cE2 c1, ?_⟩
    refine callP (toCell_ok cs[i].1 cs[i].2 h') ?_
    rintro v h1 ⟨rfl, rfl⟩
    refine And.intro ⟨by omega, by omega⟩ ?_
    have hli : i < (cs.take i ++ List.replicate (cs.length - i) ((0, 0) : Cl)).length := by simp; omega
    refine ⟨_, i3.st cE2 hlo hli cs[i], ?_⟩
    refine again (i + 1) _ _ _ (by omega) ⟨?_, rfl, rfl, trivial⟩ trivial ⟨by omega, i2.set (Nat.le_refl _) _, ?_⟩
    · show some (Sl.v (.int .i64 (IntKind.i64.wrap ((i : Int) + 1)))) = _
      rw [wr (by omega) (by omega)]; rfl
    · have e : cs.take (i + 1) ++ List.replicate (cs.length - (i + 1)) ((0, 0) : Cl) = (cs.take i ++ List.replicate (cs.length - i) ((0, 0) : Cl)).set i cs[i] := by
        rw [List.set_append_right _ _ (by simp; omega), List.take_succ_eq_append_getElem c1, List.append_assoc]
        congr 1
        rw [List.length_take, Nat.min_eq_left (by omega), Nat.sub_self, show cs.length - i = (cs.length - (i + 1)) + 1 from by omega, List.replicate_succ]
        rfl
      rw [e]
      exact Row.set i3.lt
  · have c1 : cs.length = i := by simp at c1; omega
    rw [← c1, List.take_length, Nat.sub_self, List.replicate_zero, List.append_nil] at i3
    exact ⟨h.n, rfl, hlo, Nat.le_refl _, i3, i2⟩
/-- A grid, anew. -/
theorem toGrid_ok (g : Gd) (a : Option Addr) (fl : Nat) (h : Hp) (hs : Sls h cE 2 a g.cs) (hn : g.cs.length ≤ 1048576) : Tri X lo 24 [.agg #[.int .i64 g.w, .slice a g.cs.length fl]] h fun v h' => ∃ b, v = .agg #[.int .i64 g.w, .slice (some ⟨b, 0, some 0⟩) g.cs.length 1] ∧ lo ≤ b ∧ h.n ≤ b ∧ Row h' b 0 cE 2 g.cs ∧ Ext h h' := by
  refine enter tbOk mtOk ⟨[], []⟩ 400 Tryz.func24 rfl rfl rfl fun hlo => ?_
  refine callP (toCellS_ok a fl g.cs h hs hn) ?_
  rintro v h1 ⟨b, rfl, q1, q2, q3, q4⟩
  exact ⟨b, rfl, q1, q2, q3, q4⟩
theorem eqCell_ok (c d : Cl) (h : Hp) : Tri X lo 101 [.agg #[.int .i64 c.1, .int .i64 c.2], .agg #[.int .i64 d.1, .int .i64 d.2]] h fun v h' => v = .bool (decide (c = d)) ∧ h' = h := by
  refine enter tbOk mtOk ⟨[], []⟩ 400 Tryz.func101 rfl rfl rfl fun hlo => ?_
  obtain ⟨c1, c2⟩ := c
  obtain ⟨d1, d2⟩ := d
  refine cnd (fun e1 => ?_) (fun e1 => ?_)
  · have e1 : c1 ≠ d1 := by simpa using e1
    exact And.intro (by rw [decide_eq_false (fun e => e1 (congrArg Prod.fst e))]) rfl
  · have e1 : c1 = d1 := by simpa using e1
    refine cnd (fun e2 => ?_) (fun e2 => ?_)
    · have e2 : c2 ≠ d2 := by simpa using e2
      exact And.intro (by rw [decide_eq_false (fun e => e2 (congrArg Prod.snd e))]) rfl
    · have e2 : c2 = d2 := by simpa using e2
      exact And.intro (by rw [e1, e2]; simp) rfl
theorem take_eq {α : Type} {cs ds : List α} {i : Nat} (h1 : i < cs.length) (h2 : i < ds.length) (h : cs.take i = ds.take i) (e : cs[i] = ds[i]) : cs.take (i + 1) = ds.take (i + 1) := by
  rw [List.take_succ_eq_append_getElem h1, List.take_succ_eq_append_getElem h2, h, e]
theorem eqCellS_ok (a b : Option Addr) (fl fl' : Nat) (cs ds : List Cl) (h : Hp) (hs : Sls h cE 2 a cs) (hs' : Sls h cE 2 b ds) (hn : cs.length ≤ 1048576) : Tri X lo 61 [.slice a cs.length fl, .slice b ds.length fl'] h fun v h' => v = .bool (decide (cs = ds)) ∧ h' = h := by
  refine enter tbOk mtOk ⟨[], [(6, [0, 1, 2, 3, 4, 5, 6, 7, 8, 9], [0, 0, 3, 7, 0, 0, 48, 112, 255, 511])]⟩ 400 Tryz.func61 rfl rfl rfl fun hlo => ?_
  refine cnd (fun c1 => ?_) (fun c1 => ?_)
  · have c1 : cs.length ≠ ds.length := by simp at c1; omega
    exact And.intro (by rw [decide_eq_false (fun e => c1 (congrArg List.length e))]) rfl
  · have c1 : cs.length = ds.length := by simp at c1; omega
    refine loop (σ := Nat) tbOk mtOk ⟨[], [(6, [0, 1, 2, 3, 4, 5, 6, 7, 8, 9], [0, 0, 3, 7, 0, 0, 48, 112, 255, 511])]⟩ (fun i => [(5, .v (.int .i64 (i : Int))), (0, .v (.slice a cs.length fl)), (1, .v (.slice b ds.length fl'))]) (fun _ => []) (fun i h' => i ≤ cs.length ∧ h' = h ∧ cs.take i = ds.take i) (fun i => cs.length - i) 400 0 (fun _ => rfl) ⟨rfl, rfl, rfl, trivial⟩ trivial ⟨Nat.zero_le _, rfl, rfl⟩ (fun i h' hI again => ?_)
    obtain ⟨i1, rfl, i3⟩ := hI
    refine cnd (fun c2 => ?_) (fun c2 => ?_)
    · have c2 : i < cs.length := by simpa using c2
      have c2' : i < ds.length := by omega
      obtain ⟨a, rfl⟩ := hs.some c2
      obtain ⟨b, rfl⟩ := hs'.some c2'
      refine And.intro (by kernel_rfl) ?_
      refine And.intro ⟨by omega, by omega⟩ ?_
      refine ⟨_, hs.ld cE2 c2, ?_⟩
      refine And.intro ⟨by omega, by omega⟩ ?_
      refine ⟨_, hs'.ld cE2 c2', ?_⟩
      refine callP (eqCell_ok cs[i] ds[i] _) ?_
      rintro v h1 ⟨rfl, rfl⟩
      refine cnd (fun c3 => ?_) (fun c3 => ?_)
      · have c3 : cs[i] ≠ ds[i] := by simpa using c3
        refine And.intro ?_ rfl
        rw [decide_eq_false (fun e => c3 (by subst e; rfl))]
      · have c3 : cs[i] = ds[i] := by simpa using c3
        refine again (i + 1) _ _ _ (by omega) ⟨?_, rfl, rfl, trivial⟩ trivial ⟨by omega, rfl, take_eq c2 c2' i3 c3⟩
        show some (Sl.v (.int .i64 (IntKind.i64.wrap ((i : Int) + 1)))) = _
        rw [wr (by omega) (by omega)]; rfl
    · have c2 : cs.length = i := by simp at c2; omega
      refine And.intro ?_ rfl
      rw [← c2, List.take_length, c1, List.take_length] at i3
      rw [i3]; simp
theorem eqIntS_ok (a b : Option Addr) (fl fl' : Nat) (cs ds : List Int) (h : Hp) (hs : Sls h iE 1 a cs) (hs' : Sls h iE 1 b ds) (hn : cs.length ≤ 1048576) : Tri X lo 59 [.slice a cs.length fl, .slice b ds.length fl'] h fun v h' => v = .bool (decide (cs = ds)) ∧ h' = h := by
  refine enter tbOk mtOk ⟨[], [(6, [0, 1, 2, 3, 4, 5, 6, 7, 8], [0, 0, 3, 7, 0, 0, 48, 112, 255])]⟩ 400 Tryz.func59 rfl rfl rfl fun hlo => ?_
  refine cnd (fun c1 => ?_) (fun c1 => ?_)
  · have c1 : cs.length ≠ ds.length := by simp at c1; omega
    exact And.intro (by rw [decide_eq_false (fun e => c1 (congrArg List.length e))]) rfl
  · have c1 : cs.length = ds.length := by simp at c1; omega
    refine loop (σ := Nat) tbOk mtOk ⟨[], [(6, [0, 1, 2, 3, 4, 5, 6, 7, 8], [0, 0, 3, 7, 0, 0, 48, 112, 255])]⟩ (fun i => [(5, .v (.int .i64 (i : Int))), (0, .v (.slice a cs.length fl)), (1, .v (.slice b ds.length fl'))]) (fun _ => []) (fun i h' => i ≤ cs.length ∧ h' = h ∧ cs.take i = ds.take i) (fun i => cs.length - i) 400 0 (fun _ => rfl) ⟨rfl, rfl, rfl, trivial⟩ trivial ⟨Nat.zero_le _, rfl, rfl⟩ (fun i h' hI again => ?_)
    obtain ⟨i1, rfl, i3⟩ := hI
    refine cnd (fun c2 => ?_) (fun c2 => ?_)
    · have c2 : i < cs.length := by simpa using c2
      have c2' : i < ds.length := by omega
      obtain ⟨a, rfl⟩ := hs.some c2
      obtain ⟨b, rfl⟩ := hs'.some c2'
      refine And.intro (by kernel_rfl) ?_
      refine And.intro ⟨by omega, by omega⟩ ?_
      refine ⟨_, hs.ld (fun _ => rfl) c2, ?_⟩
      refine And.intro ⟨by omega, by omega⟩ ?_
      refine ⟨_, hs'.ld (fun _ => rfl) c2', ?_⟩
      refine cnd (fun c3 => ?_) (fun c3 => ?_)
      · have c3 : cs[i] ≠ ds[i] := by simpa using c3
        refine And.intro ?_ rfl
        rw [decide_eq_false (fun e => c3 (by subst e; rfl))]
      · have c3 : cs[i] = ds[i] := by simpa using c3
        refine again (i + 1) _ _ _ (by omega) ⟨?_, rfl, rfl, trivial⟩ trivial ⟨by omega, rfl, take_eq c2 c2' i3 c3⟩
        show some (Sl.v (.int .i64 (IntKind.i64.wrap ((i : Int) + 1)))) = _
        rw [wr (by omega) (by omega)]; rfl
    · have c2 : cs.length = i := by simp at c2; omega
      refine And.intro ?_ rfl
      rw [← c2, List.take_length, c1, List.take_length] at i3
      rw [i3]; simp
instance : DecidableEq Gd := fun a b => if h : a.w = b.w ∧ a.cs = b.cs then isTrue (by cases a; cases b; simp only at h; rw [h.1, h.2]) else isFalse fun e => h (by subst e; exact ⟨rfl, rfl⟩)
theorem eqGrid_ok (g g' : Gd) (a b : Option Addr) (fl fl' : Nat) (h : Hp) (hs : Sls h cE 2 a g.cs) (hs' : Sls h cE 2 b g'.cs) (hn : g.cs.length ≤ 1048576) : Tri X lo 26 [.agg #[.int .i64 g.w, .slice a g.cs.length fl], .agg #[.int .i64 g'.w, .slice b g'.cs.length fl']] h fun v h' => v = .bool (decide (g = g')) ∧ h' = h := by
  refine enter tbOk mtOk ⟨[], []⟩ 400 Tryz.func26 rfl rfl rfl fun hlo => ?_
  obtain ⟨w, cs⟩ := g
  obtain ⟨w', cs'⟩ := g'
  refine cnd (fun e1 => ?_) (fun e1 => ?_)
  · have e1 : w ≠ w' := by simpa using e1
    exact And.intro (by rw [decide_eq_false (fun e => e1 (congrArg Gd.w e))]) rfl
  · have e1 : w = w' := by simpa using e1
    refine callP (eqCellS_ok a b fl fl' cs cs' h hs hs' hn) ?_
    rintro v h1 ⟨rfl, rfl⟩
    refine cnd (fun e2 => ?_) (fun e2 => ?_)
    · have e2 : cs ≠ cs' := by simpa using e2
      exact And.intro (by rw [decide_eq_false (fun e => e2 (congrArg Gd.cs e))]) rfl
    · have e2 : cs = cs' := by simpa using e2
      exact And.intro (by rw [e1, e2]; simp) rfl
def marks (k : Int) (n : Nat) : List Int := (List.range n).map fun (i : Nat) => k + i
theorem marks_len (k : Int) (n : Nat) : (marks k n).length = n := by simp [marks]
theorem marks_get (k : Int) (n i : Nat) (hi : i < (marks k n).length) : (marks k n)[i] = k + i := by simp [marks]
theorem marks_set (k : Int) {l : List Int} {i : Nat} (hi : i < l.length) : (marks k i ++ l.drop i).set i (k + i) = marks k (i + 1) ++ l.drop (i + 1) := by
  rw [List.set_append_right _ _ (by rw [marks_len]; exact Nat.le_refl _), marks_len, Nat.sub_self, List.drop_eq_getElem_cons hi, List.set_cons_zero]
  simp [marks, List.range_succ]
/-- All places are marked. -/
theorem markIntS_ok (o : Option (Nat × Nat)) (l : List Int) (k : Int) (h : Hp) (hg : Gx lo h iE 1 o l) (hn : l.length ≤ 1048576) (hk : 0 ≤ k ∧ k ≤ 2 ^ 40) : Tri X lo 63 [gv o l.length, .int .i64 k] h fun v h' => v = .int .i64 (k + l.length) ∧ Gx lo h' iE 1 o (marks k l.length) ∧ h'.n = h.n ∧ ∀ i, ¬isB o i → h'.g i = h.g i := by
  match o, hg with
  | none, hg =>
    have hg : l = [] := hg
    subst hg
    refine enter tbOk mtOk ⟨[], []⟩ 400 Tryz.func63 rfl rfl rfl fun hlo => ?_
    refine loop (σ := Unit) tbOk mtOk ⟨[], []⟩ (fun i => [(5, .v (.int .i64 0)), (0, .v (.slice none 0 0)), (1, .v (.int .i64 k))]) (fun _ => []) (fun _ h' => h' = h) (fun _ => 0) 400 () (fun _ => rfl) ⟨rfl, rfl, rfl, trivial⟩ trivial rfl (fun i h' hI again => ?_)
    subst hI
    refine cndF ?_
    exact ⟨by simp, rfl, rfl, fun _ _ => rfl⟩
  | some (b, e), ⟨g1, g2⟩ =>
    refine enter tbOk mtOk ⟨[], []⟩ 400 Tryz.func63 rfl rfl rfl fun hlo => ?_
    refine loop (σ := Nat) tbOk mtOk ⟨[], []⟩ (fun i => [(5, .v (.int .i64 (i : Int))), (0, .v (.slice (some ⟨b, 0, some e⟩) l.length 1)), (1, .v (.int .i64 (k + i)))]) (fun _ => []) (fun i h' => i ≤ l.length ∧ Row h' b e iE 1 (marks k i ++ l.drop i) ∧ h'.n = h.n ∧ ∀ j, ¬isB (some (b, e)) j → h'.g j = h.g j) (fun i => l.length - i) 400 0 (fun _ => rfl) ⟨rfl, rfl, ?_, trivial⟩ trivial ⟨Nat.zero_le _, g2, rfl, fun _ _ => rfl⟩ (fun i h' hI again => ?_)
    · show some (Sl.v (.int .i64 k)) = some (Sl.v (.int .i64 (k + ((0 : Nat) : Int))))
      simp
    obtain ⟨i1, i2, i3, i4⟩ := hI
    refine cnd (fun c1 => ?_) (fun c1 => ?_)
    · have c1 : i < l.length := by simp at c1; omega
      refine And.intro ⟨by omega, by omega⟩ ?_
      refine ⟨_, i2.st (fun _ => rfl) g1 (j := i) (by simp [marks]; omega) (k + i), ?_⟩
      refine again (i + 1) _ _ _ (by omega) ⟨?_, rfl, ?_, trivial⟩ trivial ⟨by omega, ?_, i3, fun j hj => ?_⟩
      · show some (Sl.v (.int .i64 (IntKind.i64.wrap ((i : Int) + 1)))) = _
        rw [wr (by omega) (by omega)]; rfl
      · show some (Sl.v (.int .i64 (IntKind.i64.wrap (k + (i : Int) + 1)))) = some (Sl.v (.int .i64 (k + ((i + 1 : Nat) : Int))))
        rw [wr (by omega) (by omega), Int.add_assoc]; rfl
      · rw [← marks_set k c1]
        exact Row.set i2.lt
      · simp only [Hp.set]
        rw [if_neg (fun e => hj ⟨_, by rw [e]⟩)]
        exact i4 j hj
    · have c1 : l.length = i := by simp at c1; omega
      rw [← c1, List.drop_length, List.append_nil] at i2
      refine ⟨by rw [c1], ⟨g1, i2⟩, i3, i4⟩
/-- The marks are there still. -/
theorem heldIntS_ok (a : Option Addr) (fl n : Nat) (k : Int) (h : Hp) (hs : Sls h iE 1 a (marks k n)) (hn : n ≤ 1048576) (hk : 0 ≤ k ∧ k ≤ 2 ^ 40) : Tri X lo 66 [.slice a n fl, .int .i64 k] h fun v h' => v = .int .i64 (k + n) ∧ h' = h := by
  refine enter tbOk mtOk ⟨[], []⟩ 400 Tryz.func66 rfl rfl rfl fun hlo => ?_
  refine loop (σ := Nat) tbOk mtOk ⟨[], []⟩ (fun i => [(5, .v (.int .i64 (i : Int))), (0, .v (.slice a n fl)), (1, .v (.int .i64 (k + i)))]) (fun _ => []) (fun i h' => i ≤ n ∧ h' = h) (fun i => n - i) 400 0 (fun _ => rfl) ⟨rfl, rfl, ?_, trivial⟩ trivial ⟨Nat.zero_le _, rfl⟩ (fun i h' hI again => ?_)
  · show some (Sl.v (.int .i64 k)) = some (Sl.v (.int .i64 (k + ((0 : Nat) : Int))))
    simp
  obtain ⟨i1, rfl⟩ := hI
  refine cnd (fun c1 => ?_) (fun c1 => ?_)
  · have c1 : i < n := by simp at c1; omega
    have hi : i < (marks k n).length := by rw [marks_len]; exact c1
    obtain ⟨a, rfl⟩ := hs.some hi
    have hld := hs.ld (fun _ => rfl) hi
    rw [marks_get] at hld
    refine And.intro ⟨by omega, by omega⟩ ?_
    refine ⟨_, hld, ?_⟩
    refine cnd (fun c2 => ?_) (fun c2 => ?_)
    · simp at c2
    · refine again (i + 1) _ _ _ (by omega) ⟨?_, rfl, ?_, trivial⟩ trivial ⟨by omega, rfl⟩
      · show some (Sl.v (.int .i64 (IntKind.i64.wrap ((i : Int) + 1)))) = _
        rw [wr (by omega) (by omega)]; rfl
      · show some (Sl.v (.int .i64 (IntKind.i64.wrap (k + (i : Int) + 1)))) = some (Sl.v (.int .i64 (k + ((i + 1 : Nat) : Int))))
        rw [wr (by omega) (by omega), Int.add_assoc]; rfl
  · have c1 : n = i := by simp at c1; omega
    exact ⟨by rw [c1], rfl⟩
theorem markCellS_ok (b e : Nat) (l : List Cl) (k : Int) (h : Hp) (hb : lo ≤ b) (hr : Row h b e cE 2 l) (hn : l.length ≤ 1048576) (hk : 0 ≤ k ∧ k ≤ 2 ^ 40) : Tri X lo 62 [.slice (some ⟨b, 0, some e⟩) l.length 1, .int .i64 k] h fun v h' => v = .int .i64 (k + 2 * l.length) ∧ h'.n = h.n ∧ ∀ i, i ≠ b → h'.g i = h.g i := by
  refine enter tbOk mtOk ⟨[], []⟩ 400 Tryz.func62 rfl rfl rfl fun hlo => ?_
  refine loop (σ := Nat) tbOk mtOk ⟨[], []⟩ (fun i => [(5, .v (.int .i64 (i : Int))), (0, .v (.slice (some ⟨b, 0, some e⟩) l.length 1)), (1, .v (.int .i64 (k + 2 * i)))]) (fun _ => []) (fun i h' => i ≤ l.length ∧ (∃ m : List Cl, m.length = l.length ∧ Row h' b e cE 2 m) ∧ h'.n = h.n ∧ ∀ j, j ≠ b → h'.g j = h.g j) (fun i => l.length - i) 400 0 (fun _ => rfl) ⟨rfl, rfl, ?_, trivial⟩ trivial ⟨Nat.zero_le _, ⟨l, rfl, hr⟩, rfl, fun _ _ => rfl⟩ (fun i h' hI again => ?_)
  · show some (Sl.v (.int .i64 k)) = some (Sl.v (.int .i64 (k + 2 * ((0 : Nat) : Int))))
    simp
  obtain ⟨i1, ⟨m, hm, i2⟩, i3, i4⟩ := hI
  refine cnd (fun c1 => ?_) (fun c1 => ?_)
  · have c1 : i < l.length := by simp at c1; omega
    have ci : i < m.length := by omega
    refine And.intro ⟨by omega, by omega⟩ ?_
    refine ⟨_, i2.stF cE2 hb (f := 0) (ys := [.int .i64 (k + 2 * i)]) (x := (k + 2 * i, m[i].2)) ci (Nat.le_of_ble_eq_true rfl) rfl, ?_⟩
    have r2 : Row (h'.set b (.cells ((m.set i (k + 2 * (i : Int), m[i].2)).flatMap cE) 2 e)) b e cE 2 (m.set i (k + 2 * (i : Int), m[i].2)) := Row.set i2.lt
    have hw : IntKind.i64.wrap (k + 2 * (i : Int) + 1) = k + 2 * (i : Int) + 1 := wr (by omega) (by omega)
    refine And.intro ⟨by omega, by omega⟩ ?_
    have ci2 : i < (m.set i (k + 2 * (i : Int), m[i].2)).length := by rw [List.length_set]; exact ci
    refine ⟨_, r2.stF cE2 hb (f := 1) (ys := [.int .i64 (IntKind.i64.wrap (k + 2 * (i : Int) + 1))]) (x := (k + 2 * i, IntKind.i64.wrap (k + 2 * (i : Int) + 1))) ci2 (Nat.le_of_ble_eq_true rfl) (by simp [cE, setL]), ?_⟩
    refine again (i + 1) _ _ _ (by omega) ⟨?_, rfl, ?_, trivial⟩ trivial ⟨by omega, ⟨_, ?_, Row.set r2.lt⟩, i3, fun j hj => ?_⟩
    · show some (Sl.v (.int .i64 (IntKind.i64.wrap ((i : Int) + 1)))) = _
      rw [wr (by omega) (by omega)]; rfl
    · show some (Sl.v (.int .i64 (IntKind.i64.wrap (IntKind.i64.wrap (k + 2 * (i : Int) + 1) + 1)))) = some (Sl.v (.int .i64 (k + 2 * ((i + 1 : Nat) : Int))))
      rw [hw, wr (by omega) (by omega)]
      congr 3; omega
    · rw [List.length_set, List.length_set]; exact hm
    · simp only [Hp.set]
      rw [if_neg hj, if_neg hj]; exact i4 j hj
  · have c1 : l.length = i := by simp at c1; omega
    exact ⟨by rw [c1], i3, i4⟩
theorem markGrid_ok (w : Int) (b e : Nat) (l : List Cl) (k : Int) (h : Hp) (hb : lo ≤ b) (hr : Row h b e cE 2 l) (hn : l.length ≤ 1048576) (hk : 0 ≤ k ∧ k ≤ 2 ^ 40) : Tri X lo 27 [.agg #[.int .i64 w, .slice (some ⟨b, 0, some e⟩) l.length 1], .int .i64 k] h fun v h' => v = .int .i64 (k + 2 * l.length) ∧ h'.n = h.n ∧ ∀ i, i ≠ b → h'.g i = h.g i := by
  refine enter tbOk mtOk ⟨[], []⟩ 400 Tryz.func27 rfl rfl rfl fun hlo => ?_
  refine callP (markCellS_ok b e l k h hb hr hn hk) ?_
  rintro v h1 q
  obtain ⟨rfl, q2⟩ := q
  exact ⟨rfl, q2⟩
theorem gx_sl {α : Type} {h : Hp} {enc : α → List Value} {sz : Nat} {o : Option (Nat × Nat)} {l : List α} (g : Gx lo h enc sz o l) (he : ∀ x, (enc x).length = sz) : ∃ a fl, gv o l.length = .slice a l.length fl ∧ Sls h enc sz a l := by
  match o, g with
  | none, g => exact ⟨none, 0, by rw [show l = [] from g]; rfl, g⟩
  | some (b, e), g => exact ⟨_, 1, rfl, g.2.sls he⟩
theorem eqIntS_gx {o o' : Option (Nat × Nat)} {cs ds : List Int} {h : Hp} {lo' lo'' : Nat} (hs : Gx lo' h iE 1 o cs) (hs' : Gx lo'' h iE 1 o' ds) (hn : cs.length ≤ 1048576) : Tri X lo 59 [gv o cs.length, gv o' ds.length] h fun v h' => v = .bool (decide (cs = ds)) ∧ h' = h := by
  obtain ⟨a, fl, p1, p2⟩ := gx_sl hs fun _ => rfl
  obtain ⟨b, fl', p3, p4⟩ := gx_sl hs' fun _ => rfl
  rw [p1, p3]
  exact eqIntS_ok a b fl fl' cs ds h p2 p4 hn
theorem heldIntS_gx {o : Option (Nat × Nat)} {n : Nat} {k : Int} {h : Hp} {lo' : Nat} (hs : Gx lo' h iE 1 o (marks k n)) (hn : n ≤ 1048576) (hk : 0 ≤ k ∧ k ≤ 2 ^ 40) : Tri X lo 66 [gv o n, .int .i64 k] h fun v h' => v = .int .i64 (k + n) ∧ h' = h := by
  obtain ⟨a, fl, p1, p2⟩ := gx_sl hs fun _ => rfl
  rw [marks_len] at p1
  rw [p1]
  exact heldIntS_ok a fl n k h p2 hn hk
end Go.Proofs.YtambkogocbgbmaaGreat.Id
/- Contracts over the ideal memory: the laws' words ll.. -/
namespace Go.Proofs.YtambkogocbgbmaaGreat.Id
open Go.Id
open Go.Proofs
set_option linter.unusedVariables false
set_option maxRecDepth 100000
variable {X : Ctx Tryz.prog} {lo : Nat}
theorem llInts_ok (a b : Option Addr) (fl fl' : Nat) (cs ds : List Int) (h : Hp) (hs : Sls h iE 1 a cs) (hs' : Sls h iE 1 b ds) (hn : cs.length ≤ 1048576) : Tri X lo 10 [.slice a cs.length fl, .slice b ds.length fl'] h fun v h' => v = .bool (decide (cs = ds)) ∧ h' = h := by
  refine enter tbOk mtOk ⟨[], [(6, [0, 1, 2, 3, 4, 5, 6, 7, 8], [0, 0, 3, 7, 0, 0, 48, 112, 255])]⟩ 400 Tryz.func10 rfl rfl rfl fun hlo => ?_
  refine cnd (fun c1 => ?_) (fun c1 => ?_)
  · have c1 : cs.length ≠ ds.length := by simp at c1; omega
    exact And.intro (by rw [decide_eq_false (fun e => c1 (congrArg List.length e))]) rfl
  · have c1 : cs.length = ds.length := by simp at c1; omega
    refine loop (σ := Nat) tbOk mtOk ⟨[], [(6, [0, 1, 2, 3, 4, 5, 6, 7, 8], [0, 0, 3, 7, 0, 0, 48, 112, 255])]⟩ (fun i => [(5, .v (.int .i64 (i : Int))), (0, .v (.slice a cs.length fl)), (1, .v (.slice b ds.length fl'))]) (fun _ => []) (fun i h' => i ≤ cs.length ∧ h' = h ∧ cs.take i = ds.take i) (fun i => cs.length - i) 400 0 (fun _ => rfl) ⟨rfl, rfl, rfl, trivial⟩ trivial ⟨Nat.zero_le _, rfl, rfl⟩ (fun i h' hI again => ?_)
    obtain ⟨i1, rfl, i3⟩ := hI
    refine cnd (fun c2 => ?_) (fun c2 => ?_)
    · have c2 : i < cs.length := by simpa using c2
      have c2' : i < ds.length := by omega
      obtain ⟨a, rfl⟩ := hs.some c2
      obtain ⟨b, rfl⟩ := hs'.some c2'
      refine And.intro (by kernel_rfl) ?_
      refine And.intro ⟨by omega, by omega⟩ ?_
      refine ⟨_, hs.ld (fun _ => rfl) c2, ?_⟩
      refine And.intro ⟨by omega, by omega⟩ ?_
      refine ⟨_, hs'.ld (fun _ => rfl) c2', ?_⟩
      refine cnd (fun c3 => ?_) (fun c3 => ?_)
      · have c3 : cs[i] ≠ ds[i] := by simpa using c3
        refine And.intro ?_ rfl
        rw [decide_eq_false (fun e => c3 (by subst e; rfl))]
      · have c3 : cs[i] = ds[i] := by simpa using c3
        refine again (i + 1) _ _ _ (by omega) ⟨?_, rfl, rfl, trivial⟩ trivial ⟨by omega, rfl, take_eq c2 c2' i3 c3⟩
        show some (Sl.v (.int .i64 (IntKind.i64.wrap ((i : Int) + 1)))) = _
        rw [wr (by omega) (by omega)]; rfl
    · have c2 : cs.length = i := by simp at c2; omega
      refine And.intro ?_ rfl
      rw [← c2, List.take_length, c1, List.take_length] at i3
      rw [i3]; simp
instance : DecidableEq Gd := fun a b => if h : a.w = b.w ∧ a.cs = b.cs then isTrue (by cases a; cases b; simp only at h; rw [h.1, h.2]) else isFalse fun e => h (by subst e; exact ⟨rfl, rfl⟩)
theorem llInts_gx {o o' : Option (Nat × Nat)} {cs ds : List Int} {h : Hp} {lo' lo'' : Nat} (hs : Gx lo' h iE 1 o cs) (hs' : Gx lo'' h iE 1 o' ds) (hn : cs.length ≤ 1048576) : Tri X lo 10 [gv o cs.length, gv o' ds.length] h fun v h' => v = .bool (decide (cs = ds)) ∧ h' = h := by
  obtain ⟨a, fl, p1, p2⟩ := gx_sl hs fun _ => rfl
  obtain ⟨b, fl', p3, p4⟩ := gx_sl hs' fun _ => rfl
  rw [p1, p3]
  exact llInts_ok a b fl fl' cs ds h p2 p4 hn
end Go.Proofs.YtambkogocbgbmaaGreat.Id
/- As much goes there as comes back: walks counted from both ends. No program in sight. -/
namespace Go.Proofs.YtambkogocbgbmaaGreat.Tr
set_option linter.unusedVariables false
def sum4 (f : Int → Int) : Int := f 0 + f 1 + f 2 + f 3
theorem sum4_swap (f : Int → Int → Int) : sum4 (fun i => sum4 (fun j => f i j)) = sum4 (fun j => sum4 (fun i => f i j)) := by simp only [sum4]; omega
theorem sum4_congr {f g : Int → Int} (h : ∀ d, 0 ≤ d ∧ d ≤ 3 → f d = g d) : sum4 f = sum4 g := by
  unfold sum4
  rw [h 0 (by decide), h 1 (by decide), h 2 (by decide), h 3 (by decide)]
/-- Turned round. -/
def bk (d : Int) : Int := (d + 2) % 4
theorem bk_bk {d : Int} (h : 0 ≤ d ∧ d ≤ 3) : bk (bk d) = d := by unfold bk; omega
theorem bk_ok (d : Int) : 0 ≤ bk d ∧ bk d ≤ 3 := by unfold bk; omega
theorem sum4_bk (f : Int → Int) : sum4 f = sum4 fun d => f (bk d) := by
  show f 0 + f 1 + f 2 + f 3 = f 2 + f 3 + f 0 + f 1
  omega
/-- How often light that moves d at a cell of kind k leaves it moving d', with h halvings. -/
def dlt (k d d' : Int) (h : Nat) : Int :=
  if k = 1 ∨ k = 7 then 0
  else if k = 6 then (if d' = d ∧ h = 1 then 1 else 0)
  else if k = 4 ∨ k = 5 then (if (d' = d ∨ d' = dirT k d) ∧ h = 1 then 1 else 0)
  else (if d' = dirT k d ∧ h = 0 then 1 else 0)
theorem dlt_bk {k d d' : Int} {h : Nat} (hk : 0 ≤ k ∧ k ≤ 7) (hd : 0 ≤ d ∧ d ≤ 3) (hd' : 0 ≤ d' ∧ d' ≤ 3) : dlt k d d' h = dlt k (bk d') (bk d) h := by
  have c : d = 0 ∨ d = 1 ∨ d = 2 ∨ d = 3 := by omega
  have c' : d' = 0 ∨ d' = 1 ∨ d' = 2 ∨ d' = 3 := by omega
  have ck : k = 0 ∨ k = 1 ∨ k = 2 ∨ k = 3 ∨ k = 4 ∨ k = 5 ∨ k = 6 ∨ k = 7 := by omega
  rcases ck with rfl | rfl | rfl | rfl | rfl | rfl | rfl | rfl <;> rcases c with rfl | rfl | rfl | rfl <;> rcases c' with rfl | rfl | rfl | rfl <;> simp [dlt, bk, dirT]
theorem mod_succ {a w : Int} (hw : 1 ≤ w) (h : a % w ≠ w - 1) : (a + 1) % w ≠ 0 := by
  have r0 := Int.emod_nonneg a (show w ≠ 0 by omega)
  have r1 := Int.emod_lt_of_pos a (show 0 < w by omega)
  rw [← Int.emod_add_emod, Int.emod_eq_of_lt (by omega) (by omega)]
  omega
theorem mod_pred {a w : Int} (hw : 1 ≤ w) (h : a % w ≠ 0) : (a - 1) % w ≠ w - 1 := by
  have r0 := Int.emod_nonneg a (show w ≠ 0 by omega)
  have r1 := Int.emod_lt_of_pos a (show 0 < w by omega)
  rw [← Int.emod_sub_emod, Int.emod_eq_of_lt (by omega) (by omega)]
  omega
/-- A step, turned round. -/
theorem nxt_bk {w n a d b : Int} (hw : 1 ≤ w) (ha : 0 ≤ a ∧ a < n) (hd : 0 ≤ d ∧ d ≤ 3) (h : nxt w n a d = some b) : nxt w n b (bk d) = some a := by
  have c : d = 0 ∨ d = 1 ∨ d = 2 ∨ d = 3 := by omega
  rcases c with rfl | rfl | rfl | rfl
  · simp [nxt] at h; simp [nxt, bk]; omega
  · simp [nxt] at h
    obtain ⟨h1, rfl⟩ := h
    have := mod_succ hw h1
    simp [nxt, bk, this]
  · simp [nxt] at h; simp [nxt, bk]; omega
  · simp [nxt] at h
    obtain ⟨h1, rfl⟩ := h
    have := mod_pred hw h1
    simp [nxt, bk, this]
def ind (o : Option Int) (f : Int → Int) : Int := match o with
  | none => 0
  | some a => f a
theorem ind_congr {o : Option Int} {f g : Int → Int} (h : ∀ a, o = some a → f a = g a) : ind o f = ind o g := by
  cases o with
  | none => rfl
  | some a => exact h a rfl
theorem ind_sum (o : Option Int) (c0 c1 : Int) (f g : Int → Int → Int) : ind o (fun a => c0 * sum4 (f a) + c1 * sum4 (g a)) = sum4 fun e => ind o fun a => c0 * f a e + c1 * g a e := by
  cases o with
  | none => rfl
  | some a => simp only [ind, sum4, Int.mul_add]; omega
theorem ind_swap (o p : Option Int) (c0 c1 x0 x1 : Int) (F G H : Int → Int → Int) :
    ind o (fun a => c0 * ind p (fun b => x0 * F a b + x1 * G a b) + c1 * ind p (fun b => x0 * G a b + x1 * H a b)) =
    ind p (fun b => x0 * ind o (fun a => c0 * F a b + c1 * G a b) + x1 * ind o (fun a => c0 * G a b + c1 * H a b)) := by
  cases o with
  | none => cases p with
    | none => rfl
    | some b => simp [ind]
  | some a => cases p with
    | none => simp [ind]
    | some b =>
      simp only [ind, Int.mul_add]
      rw [Int.mul_left_comm c0 x0, Int.mul_left_comm c0 x1, Int.mul_left_comm c1 x0, Int.mul_left_comm c1 x1]
      omega
section
variable (w n : Int) (kd : Int → Int) (U : Int → Int)
/-- What leaves cell b moving e, over q + 1 cells, of light (halved j times less) that enters a moving d. -/
def W : Nat → Int → Int → Int → Int → Int → Int
  | 0, j, a, d, b, e => if a = b then dlt (kd a) d e 0 * U j + dlt (kd a) d e 1 * U (j - 1) else 0
  | q + 1, j, a, d, b, e => sum4 fun d' => ind (nxt w n a d') fun a' => dlt (kd a) d d' 0 * W q j a' d' b e + dlt (kd a) d d' 1 * W q (j - 1) a' d' b e
end
section
variable {w n : Int} {kd : Int → Int} {U : Int → Int}
/-- Told from the end. -/
theorem W_end (hw : 1 ≤ w) (hn : n % w = 0) : ∀ (q : Nat) (j a d b e : Int), (0 ≤ a ∧ a < n) → (0 ≤ b ∧ b < n) → (0 ≤ d ∧ d ≤ 3) → W w n kd U (q + 1) j a d b e = sum4 fun e' => ind (nxt w n b (bk e')) fun b' => dlt (kd b) e' e 0 * W w n kd U q j a d b' e' + dlt (kd b) e' e 1 * W w n kd U q (j - 1) a d b' e'
  | 0, j, a, d, b, e, ha, hb, hd => by
    rw [W]
    refine sum4_congr fun d' hd' => ?_
    by_cases c : nxt w n a d' = some b
    · have c' := nxt_bk hw ha hd' c
      rw [c, c']
      simp only [ind, W, if_true, Int.mul_add]
      rw [Int.mul_left_comm (dlt (kd a) d d' 0), Int.mul_left_comm (dlt (kd a) d d' 0), Int.mul_left_comm (dlt (kd a) d d' 1), Int.mul_left_comm (dlt (kd a) d d' 1)]
      omega
    · have l : ind (nxt w n a d') (fun a' => dlt (kd a) d d' 0 * W w n kd U 0 j a' d' b e + dlt (kd a) d d' 1 * W w n kd U 0 (j - 1) a' d' b e) = 0 := by
        cases hx : nxt w n a d' with
        | none => rfl
        | some a' =>
          have : a' ≠ b := fun h => c (by rw [hx, h])
          simp only [ind, W, if_neg this]; simp
      have r : ind (nxt w n b (bk d')) (fun b' => dlt (kd b) d' e 0 * W w n kd U 0 j a d b' d' + dlt (kd b) d' e 1 * W w n kd U 0 (j - 1) a d b' d') = 0 := by
        cases hx : nxt w n b (bk d') with
        | none => rfl
        | some b' =>
          have : a ≠ b' := fun h => c (by
            have := nxt_bk hw hb (bk_ok d') hx
            rwa [bk_bk hd', ← h] at this)
          simp only [ind, W, if_neg this]; simp
      rw [l, r]
  | q + 1, j, a, d, b, e, ha, hb, hd => by
    rw [W]
    have s1 : ∀ d', 0 ≤ d' ∧ d' ≤ 3 → ind (nxt w n a d') (fun a' => dlt (kd a) d d' 0 * W w n kd U (q + 1) j a' d' b e + dlt (kd a) d d' 1 * W w n kd U (q + 1) (j - 1) a' d' b e) =
        sum4 fun e' => ind (nxt w n b (bk e')) fun b' => dlt (kd b) e' e 0 * ind (nxt w n a d') (fun a' => dlt (kd a) d d' 0 * W w n kd U q j a' d' b' e' + dlt (kd a) d d' 1 * W w n kd U q (j - 1) a' d' b' e') + dlt (kd b) e' e 1 * ind (nxt w n a d') (fun a' => dlt (kd a) d d' 0 * W w n kd U q (j - 1) a' d' b' e' + dlt (kd a) d d' 1 * W w n kd U q (j - 1 - 1) a' d' b' e') := by
      intro d' hd'
      rw [ind_congr (g := fun a' => dlt (kd a) d d' 0 * sum4 (fun e' => ind (nxt w n b (bk e')) fun b' => dlt (kd b) e' e 0 * W w n kd U q j a' d' b' e' + dlt (kd b) e' e 1 * W w n kd U q (j - 1) a' d' b' e') + dlt (kd a) d d' 1 * sum4 (fun e' => ind (nxt w n b (bk e')) fun b' => dlt (kd b) e' e 0 * W w n kd U q (j - 1) a' d' b' e' + dlt (kd b) e' e 1 * W w n kd U q (j - 1 - 1) a' d' b' e')) (fun a' h' => by
        have ha' := nxt_in hw hn ha hd' h'
        rw [W_end hw hn q j a' d' b e ha' hb hd', W_end hw hn q (j - 1) a' d' b e ha' hb hd'])]
      rw [ind_sum]
      exact sum4_congr fun e' he' => ind_swap _ _ _ _ _ _ _ _ _
    rw [sum4_congr s1, sum4_swap]
    refine sum4_congr fun e' he' => ?_
    cases hx : nxt w n b (bk e') with
    | none => rfl
    | some b' =>
      simp only [ind, W]
      simp only [sum4, Int.mul_add]
      omega
/-- Walks turned round. -/
theorem W_bk (hw : 1 ≤ w) (hn : n % w = 0) (hk : ∀ a, 0 ≤ a ∧ a < n → 0 ≤ kd a ∧ kd a ≤ 7) : ∀ (q : Nat) (j a d b e : Int), (0 ≤ a ∧ a < n) → (0 ≤ b ∧ b < n) → (0 ≤ d ∧ d ≤ 3) → (0 ≤ e ∧ e ≤ 3) → W w n kd U q j a d b e = W w n kd U q j b (bk e) a (bk d)
  | 0, j, a, d, b, e, ha, hb, hd, he => by
    by_cases c : a = b
    · subst c
      simp only [W, if_true]
      rw [dlt_bk (hk a ha) hd he, dlt_bk (h := 1) (hk a ha) hd he]
    · simp only [W]; rw [if_neg c, if_neg (fun h => c h.symm)]
  | q + 1, j, a, d, b, e, ha, hb, hd, he => by
    rw [W_end hw hn q j b (bk e) a (bk d) hb ha (bk_ok e), sum4_bk, W]
    refine sum4_congr fun d' hd' => ?_
    rw [bk_bk hd']
    refine ind_congr fun a' h' => ?_
    have ha' := nxt_in hw hn ha hd' h'
    rw [← W_bk hw hn hk q j a' d' b e ha' hb hd' he, ← W_bk hw hn hk q (j - 1) a' d' b e ha' hb hd' he, ← dlt_bk (hk a ha) hd hd', ← dlt_bk (hk a ha) hd hd']
/-! ### what leaves by a sight -/
/-- 2 to the j. -/
def U2 (j : Int) : Int := if j < 0 then 0 else ((2 ^ j.toNat : Nat) : Int)
theorem U2_half (j : Int) : U2 j / 2 = U2 (j - 1) := by
  unfold U2
  by_cases c : j < 0
  · rw [if_pos c, if_pos (by omega)]; rfl
  · rw [if_neg c]
    by_cases c1 : j = 0
    · subst c1; decide
    · rw [if_neg (by omega)]
      obtain ⟨m, rfl⟩ : ∃ m : Nat, j = ((m + 1 : Nat) : Int) := ⟨j.toNat - 1, by omega⟩
      have e1 : (((m + 1 : Nat) : Int)).toNat = m + 1 := Int.toNat_natCast _
      have e2 : (((m + 1 : Nat) : Int) - 1).toNat = m := by omega
      rw [e1, e2, Nat.pow_succ]
      omega
theorem W_neg : ∀ (q : Nat) (j a d b e : Int), j < 0 → W w n kd U2 q j a d b e = 0
  | 0, j, a, d, b, e, hj => by
    simp only [W]
    have u0 : U2 j = 0 := if_pos hj
    have u1 : U2 (j - 1) = 0 := if_pos (by omega)
    rw [u0, u1]; simp
  | q + 1, j, a, d, b, e, hj => by
    rw [W]
    have : ∀ d', 0 ≤ d' ∧ d' ≤ 3 → ind (nxt w n a d') (fun a' => dlt (kd a) d d' 0 * W w n kd U2 q j a' d' b e + dlt (kd a) d d' 1 * W w n kd U2 q (j - 1) a' d' b e) = (fun _ => (0 : Int)) d' := by
      intro d' _
      cases nxt w n a d' with
      | none => rfl
      | some a' => simp only [ind]; rw [W_neg q j a' d' b e hj, W_neg q (j - 1) a' d' b e (by omega)]; simp
    rw [sum4_congr this]; rfl
/-- All walks of at most q cells. -/
def S (w n : Int) (kd : Int → Int) (b e : Int) : Nat → Int → Int → Int → Int
  | 0, _, _, _ => 0
  | q + 1, j, a, d => S w n kd b e q j a d + W w n kd U2 q j a d b e
theorem S_neg {b e : Int} (q : Nat) (j a d : Int) (hj : j < 0) : S w n kd b e q j a d = 0 := by
  induction q with
  | zero => rfl
  | succ q ih => rw [S, ih, W_neg q _ _ _ _ _ hj]; rfl
theorem S_step (b e : Int) (q : Nat) (j a d : Int) : S w n kd b e (q + 1) j a d = W w n kd U2 0 j a d b e + sum4 fun d' => ind (nxt w n a d') fun a' => dlt (kd a) d d' 0 * S w n kd b e q j a' d' + dlt (kd a) d d' 1 * S w n kd b e q (j - 1) a' d' := by
  induction q with
  | zero =>
    have : ∀ d', 0 ≤ d' ∧ d' ≤ 3 → ind (nxt w n a d') (fun a' => dlt (kd a) d d' 0 * S w n kd b e 0 j a' d' + dlt (kd a) d d' 1 * S w n kd b e 0 (j - 1) a' d') = (fun _ => (0 : Int)) d' := by
      intro d' _
      cases nxt w n a d' with
      | none => rfl
      | some a' => simp only [ind, S]; simp
    rw [sum4_congr this]
    simp [S, sum4]
  | succ q ih =>
    rw [S, ih]
    have : ∀ d', 0 ≤ d' ∧ d' ≤ 3 → ind (nxt w n a d') (fun a' => dlt (kd a) d d' 0 * S w n kd b e (q + 1) j a' d' + dlt (kd a) d d' 1 * S w n kd b e (q + 1) (j - 1) a' d') = (fun d' => ind (nxt w n a d') (fun a' => dlt (kd a) d d' 0 * S w n kd b e q j a' d' + dlt (kd a) d d' 1 * S w n kd b e q (j - 1) a' d') + ind (nxt w n a d') (fun a' => dlt (kd a) d d' 0 * W w n kd U2 q j a' d' b e + dlt (kd a) d d' 1 * W w n kd U2 q (j - 1) a' d' b e)) d' := by
      intro d' _
      show _ = ind (nxt w n a d') _ + ind (nxt w n a d') _
      cases nxt w n a d' with
      | none => rfl
      | some a' => simp only [ind, S, Int.mul_add]; omega
    rw [sum4_congr this]
    have hW : W w n kd U2 (q + 1) j a d b e = sum4 fun d' => ind (nxt w n a d') fun a' => dlt (kd a) d d' 0 * W w n kd U2 q j a' d' b e + dlt (kd a) d d' 1 * W w n kd U2 q (j - 1) a' d' b e := by rw [W]
    rw [hW]
    simp only [sum4]
    omega
theorem S_bk (hw : 1 ≤ w) (hn : n % w = 0) (hk : ∀ a, 0 ≤ a ∧ a < n → 0 ≤ kd a ∧ kd a ≤ 7) (q : Nat) {j a d b e : Int} (ha : 0 ≤ a ∧ a < n) (hb : 0 ≤ b ∧ b < n) (hd : 0 ≤ d ∧ d ≤ 3) (he : 0 ≤ e ∧ e ≤ 3) : S w n kd b e q j a d = S w n kd a (bk d) q j b (bk e) := by
  induction q with
  | zero => rfl
  | succ q ih => rw [S, S, ih, W_bk hw hn hk q j a d b e ha hb hd he]
theorem sum4_one {f : Int → Int} {c : Int} (hc : 0 ≤ c ∧ c ≤ 3) (h : ∀ d, 0 ≤ d ∧ d ≤ 3 → d ≠ c → f d = 0) : sum4 f = f c := by
  have q : c = 0 ∨ c = 1 ∨ c = 2 ∨ c = 3 := by omega
  unfold sum4
  rcases q with rfl | rfl | rfl | rfl
  · rw [h 1 (by decide) (by decide), h 2 (by decide) (by decide), h 3 (by decide) (by decide)]; omega
  · rw [h 0 (by decide) (by decide), h 2 (by decide) (by decide), h 3 (by decide) (by decide)]; omega
  · rw [h 0 (by decide) (by decide), h 1 (by decide) (by decide), h 3 (by decide) (by decide)]; omega
  · rw [h 0 (by decide) (by decide), h 1 (by decide) (by decide), h 2 (by decide) (by decide)]; omega
theorem sum4_two {f : Int → Int} {c c' : Int} (hne : c ≠ c') (hc : 0 ≤ c ∧ c ≤ 3) (hc' : 0 ≤ c' ∧ c' ≤ 3) (h : ∀ d, 0 ≤ d ∧ d ≤ 3 → d ≠ c → d ≠ c' → f d = 0) : sum4 f = f c + f c' := by
  have e : sum4 f = sum4 (fun d => if d = c then f d else 0) + sum4 (fun d => if d = c then 0 else f d) := by
    have : ∀ d, 0 ≤ d ∧ d ≤ 3 → f d = (fun d => (if d = c then f d else 0) + (if d = c then 0 else f d)) d := fun d _ => by
      simp only; split <;> omega
    rw [sum4_congr this]; simp only [sum4]; omega
  rw [e, sum4_one (c := c) hc (fun d _ hd => if_neg hd), sum4_one (c := c') hc' (fun d h0 hd => by
    show (if d = c then 0 else f d) = 0
    split
    · rfl
    · rename_i q; exact h d h0 q hd), if_pos rfl, if_neg (fun h => hne h.symm)]
theorem outs_one (x : Int) (v : V) : outs x [v] = if v.1 = 0 ∧ v.2.1 = x then v.2.2 else 0 := by simp [outs]
/-- Light's walk, counted: what comes out at sight x, whose cell is b, its way out e. -/
theorem go_S {sg : Int → Int → Int} {b e x : Int} (hw : 1 ≤ w) (hn : n % w = 0) (he : 0 ≤ e ∧ e ≤ 3) (hb : nxt w n b e = none)
    (hs : ∀ a d, (0 ≤ a ∧ a < n) → (0 ≤ d ∧ d ≤ 3) → nxt w n a d = none → (sg a d = x ↔ a = b ∧ d = e)) : ∀ (q : Nat) (j a d : Int) (t : Tr), (0 ≤ a ∧ a < n) → (0 ≤ d ∧ d ≤ 3) → go w n kd sg q a d (U2 j) = some t → outs x t.2 = S w n kd b e q j a d
  | 0, _, _, _, _, _, _, h => by cases h
  | q + 1, j, a, d, t, ha, hd, h => by
    by_cases hj : j < 0
    · have u : U2 j = 0 := if_pos hj
      rw [go, if_pos u] at h
      cases h
      rw [S_neg _ _ _ _ hj]; rfl
    have uj : U2 j ≠ 0 := by
      unfold U2; rw [if_neg hj]
      have := Nat.pow_pos (n := j.toNat) (show 0 < 2 by decide)
      omega
    have ih := go_S hw hn he hb hs q
    have hlv : ∀ (j' d' : Int) (t : Tr), (0 ≤ d' ∧ d' ≤ 3) → lv w n sg (go w n kd sg q) a d' (U2 j') = some t → outs x t.2 = (if a = b ∧ d' = e then U2 j' else 0) + ind (nxt w n a d') fun a' => S w n kd b e q j' a' d' := by
      intro j' d' t hd' h
      unfold lv at h
      by_cases h0 : U2 j' = 0
      · rw [if_pos h0] at h
        cases h
        have hj' : j' < 0 := by
          by_cases c : j' < 0
          · exact c
          · exfalso
            unfold U2 at h0; rw [if_neg c] at h0
            have := Nat.pow_pos (n := j'.toNat) (show 0 < 2 by decide)
            omega
        rw [h0]
        have : ind (nxt w n a d') (fun a' => S w n kd b e q j' a' d') = 0 := by
          cases nxt w n a d' with
          | none => rfl
          | some a' => exact S_neg _ _ _ _ hj'
        rw [this]; simp [outs]
      · rw [if_neg h0] at h
        cases hx : nxt w n a d' with
        | some a' =>
          rw [hx] at h
          have : ¬ (a = b ∧ d' = e) := fun c => by rw [c.1, c.2, hb] at hx; cases hx
          rw [if_neg this, ih j' a' d' t (nxt_in hw hn ha hd' hx) hd' h]
          simp [ind]
        | none =>
          rw [hx] at h
          cases h
          rw [outs_one]
          have := hs a d' ha hd' hx
          by_cases c : a = b ∧ d' = e
          · rw [if_pos c, if_pos ⟨rfl, this.2 c⟩]; simp [ind]
          · rw [if_neg c, if_neg (fun h => c (this.1 h.2))]; simp [ind]
    rw [S_step, go, if_neg uj] at *
    generalize hkk : kd a = k at *
    have zero : ∀ d' (h : Nat), (k = 1 ∨ k = 7) → dlt k d d' h = 0 := fun d' h hk => if_pos hk
    have hW0 : W w n kd U2 0 j a d b e = if a = b then dlt k d e 0 * U2 j + dlt k d e 1 * U2 (j - 1) else 0 := by rw [W, hkk]
    by_cases k1 : k = 1 ∨ k = 7
    · have hz : sum4 (fun d' => ind (nxt w n a d') fun a' => dlt k d d' 0 * S w n kd b e q j a' d' + dlt k d d' 1 * S w n kd b e q (j - 1) a' d') = 0 := by
        have : ∀ d', 0 ≤ d' ∧ d' ≤ 3 → ind (nxt w n a d') (fun a' => dlt k d d' 0 * S w n kd b e q j a' d' + dlt k d d' 1 * S w n kd b e q (j - 1) a' d') = (fun _ => (0 : Int)) d' := by
          intro d' _
          cases nxt w n a d' with
          | none => rfl
          | some a' => simp only [ind, zero _ _ k1]; simp
        rw [sum4_congr this]; rfl
      rw [hz, hW0, zero _ _ k1, zero _ _ k1]
      have ho : outs x t.2 = 0 := by
        rcases k1 with c | c
        · rw [if_pos c] at h
          have := Option.some.inj h
          rw [← this, outs_one, if_neg (by simp)]
        · rw [if_neg (by omega), if_pos c] at h
          have := Option.some.inj h
          rw [← this, outs_one, if_neg (by simp)]
      rw [ho]; simp
    have k1' : ¬ k = 1 := fun c => k1 (.inl c)
    have k7' : ¬ k = 7 := fun c => k1 (.inr c)
    rw [if_neg k1', if_neg k7'] at h
    by_cases k6 : k = 6
    · rw [if_pos k6] at h
      obtain ⟨t2, h2, h3⟩ := bind_some h
      have ht := Option.some.inj h3
      rw [U2_half] at h2
      have hd0 : ∀ d', dlt k d d' 0 = 0 := fun d' => by simp [dlt, k6]
      have hd1 : ∀ d', dlt k d d' 1 = if d' = d then 1 else 0 := fun d' => by simp [dlt, k6]
      rw [← ht, outs_app, outs_en x 3 a _ (by decide), Int.zero_add, hlv (j - 1) d t2 hd h2, hW0, sum4_one hd (fun d' _ hne => by
        cases nxt w n a d' with
        | none => rfl
        | some a' => simp [ind, hd0, hd1, hne])]
      rw [hd0, hd1]
      congr 1
      · by_cases c : a = b
        · by_cases c' : e = d
          · simp [c, c']
          · rw [if_neg (fun q => c' q.2.symm), if_pos c, if_neg c']; simp
        · rw [if_neg (fun q => c q.1), if_neg c]
      · cases nxt w n a d with
        | none => rfl
        | some a' => simp [ind, hd0, hd1]
    rw [if_neg k6] at h
    by_cases k45 : k = 4 ∨ k = 5
    · rw [if_pos k45] at h
      obtain ⟨t2, h2, h3⟩ := bind_some h
      obtain ⟨t1, h1, h4⟩ := bind_some h3
      have ht := Option.some.inj h4
      rw [U2_half] at h1 h2
      have hd' := dirT_ok (k := k) hd
      have hne : d ≠ dirT k d := by
        have c : d = 0 ∨ d = 1 ∨ d = 2 ∨ d = 3 := by omega
        rcases k45 with rfl | rfl <;> rcases c with rfl | rfl | rfl | rfl <;> decide
      have hd0 : ∀ d', dlt k d d' 0 = 0 := fun d' => by simp [dlt]; omega
      have hd1 : ∀ d', dlt k d d' 1 = if d' = d ∨ d' = dirT k d then 1 else 0 := fun d' => by
        unfold dlt; rw [if_neg k1, if_neg k6, if_pos k45]; simp
      rw [← ht, outs_app, outs_en x 3 a _ (by decide), Int.zero_add, outs_app, hlv (j - 1) d t2 hd h2, hlv (j - 1) (dirT k d) t1 hd' h1, hW0, sum4_two hne hd hd' (fun d' _ n1 n2 => by
        cases nxt w n a d' with
        | none => rfl
        | some a' => simp [ind, hd0, hd1, n1, n2])]
      have e1 : (ind (nxt w n a d) fun a' => dlt k d d 0 * S w n kd b e q j a' d + dlt k d d 1 * S w n kd b e q (j - 1) a' d) = ind (nxt w n a d) fun a' => S w n kd b e q (j - 1) a' d := ind_congr fun a' _ => by rw [hd0, hd1, if_pos (.inl rfl)]; simp
      have e2 : (ind (nxt w n a (dirT k d)) fun a' => dlt k d (dirT k d) 0 * S w n kd b e q j a' (dirT k d) + dlt k d (dirT k d) 1 * S w n kd b e q (j - 1) a' (dirT k d)) = ind (nxt w n a (dirT k d)) fun a' => S w n kd b e q (j - 1) a' (dirT k d) := ind_congr fun a' _ => by rw [hd0, hd1, if_pos (.inr rfl)]; simp
      rw [e1, e2, hd0, hd1]
      have e3 : (if a = b ∧ d = e then U2 (j - 1) else 0) + (if a = b ∧ dirT k d = e then U2 (j - 1) else 0) = if a = b then 0 * U2 j + (if e = d ∨ e = dirT k d then 1 else 0) * U2 (j - 1) else 0 := by
        by_cases c : a = b
        · simp only [c, true_and, if_true]
          by_cases c1 : e = d
          · rw [if_pos c1.symm, if_neg (fun q => hne (c1.symm.trans q.symm)), if_pos (.inl c1)]; simp
          · by_cases c2 : e = dirT k d
            · rw [if_neg (fun q => c1 q.symm), if_pos c2.symm, if_pos (.inr c2)]; simp
            · rw [if_neg (fun q => c1 q.symm), if_neg (fun q => c2 q.symm), if_neg (fun q => q.elim c1 c2)]; simp
        · simp [c]
      rw [← e3]
      omega
    · rw [if_neg k45] at h
      obtain ⟨t1, h1, h3⟩ := bind_some h
      have ht := Option.some.inj h3
      have hd' := dirT_ok (k := k) hd
      have hd1 : ∀ d', dlt k d d' 1 = 0 := fun d' => by unfold dlt; rw [if_neg k1, if_neg k6, if_neg k45]; simp
      have hd0 : ∀ d', dlt k d d' 0 = if d' = dirT k d then 1 else 0 := fun d' => by unfold dlt; rw [if_neg k1, if_neg k6, if_neg k45]; simp
      rw [← ht]
      show outs x t1.2 = _
      rw [hlv j (dirT k d) t1 hd' h1, hW0, sum4_one hd' (fun d' _ hne => by
        cases nxt w n a d' with
        | none => rfl
        | some a' => simp [ind, hd0, hd1, hne])]
      rw [hd0, hd1]
      congr 1
      · by_cases c : a = b
        · by_cases c' : e = dirT k d
          · simp [c, c']
          · rw [if_neg (fun q => c' q.2.symm), if_pos c, if_neg c']; simp
        · rw [if_neg (fun q => c q.1), if_neg c]
      · cases nxt w n a (dirT k d) with
        | none => rfl
        | some a' => simp [ind, hd0, hd1]
/-- As much goes there as comes back. -/
theorem outs_back {sg : Int → Int → Int} (hw : 1 ≤ w) (hn : n % w = 0) (hk : ∀ a, 0 ≤ a ∧ a < n → 0 ≤ kd a ∧ kd a ≤ 7) {r s : Int × Int} {x y : Int} (hr : Ok n r) (hs : Ok n s) (nr : nxt w n r.1 (bk r.2) = none) (ns : nxt w n s.1 (bk s.2) = none)
    (hx : ∀ a d, (0 ≤ a ∧ a < n) → (0 ≤ d ∧ d ≤ 3) → nxt w n a d = none → (sg a d = x ↔ a = r.1 ∧ d = bk r.2)) (hy : ∀ a d, (0 ≤ a ∧ a < n) → (0 ≤ d ∧ d ≤ 3) → nxt w n a d = none → (sg a d = y ↔ a = s.1 ∧ d = bk s.2))
    {q q' : Nat} {j : Int} {t u : Tr} (ht : go w n kd sg q r.1 r.2 (U2 j) = some t) (hu : go w n kd sg q' s.1 s.2 (U2 j) = some u) : outs y t.2 = outs x u.2 := by
  have e1 := go_le (Nat.le_max_left q q') ht
  have e2 := go_le (Nat.le_max_right q q') hu
  rw [go_S hw hn (bk_ok _) ns hy _ j r.1 r.2 t hr.1 hr.2 e1, go_S hw hn (bk_ok _) nr hx _ j s.1 s.2 u hs.1 hs.2 e2, S_bk hw hn hk _ hr.1 hs.1 hr.2 (bk_ok _), bk_bk hs.2]
/-! ### what there is of light -/
def tot : List V → Int
  | [] => 0
  | e :: l => e.2.2 + tot l
theorem tot_app (l m : List V) : tot (l ++ m) = tot l + tot m := by
  induction l with
  | nil => simp [tot]
  | cons e l ih => simp only [List.cons_append, tot, ih]; omega
theorem tot_en {k a wt : Int} (h : 0 ≤ wt) : tot (en k a wt) = wt := by
  unfold en
  by_cases c : wt > 0
  · rw [if_pos c]; simp [tot]
  · rw [if_neg c]; simp only [tot]; omega
/-- All light ends. -/
theorem go_tot {sg : Int → Int → Int} (hw : 1 ≤ w) (hn : n % w = 0) (q : Nat) (a d wt : Int) (t : Tr) (ho : Ok n (a, d)) (h0 : 0 ≤ wt) (h : go w n kd sg q a d wt = some t) : tot t.2 = wt := by
  refine go_ind (kd := kd) (sg := sg) hw hn (fun a d wt t => 0 ≤ wt → tot t.2 = wt) (fun a d wt t => 0 ≤ wt → tot t.2 = wt) ?_ ?_ ?_ ?_ ?_ ?_ ?_ ?_ ?_ q a d wt t ho h h0
  · intro a d _; rfl
  · intro a d _; rfl
  · intro a d wt _ _ _ _ _ _; simp [tot]
  · intro a d wt a' t _ _ _ _ h; exact h
  · intro a d wt _ _ _ _; simp [tot]
  · intro a d wt _ _ _ _; simp [tot]
  · intro a d wt t _ _ _ h h0
    show tot (en 3 a (wt - wt / 2) ++ t.2) = wt
    rw [tot_app, tot_en (by omega), h (by omega)]; omega
  · intro a d wt t u _ _ _ h h' h0
    show tot (en 3 a (wt - 2 * (wt / 2)) ++ (t.2 ++ u.2)) = wt
    rw [tot_app, tot_app, tot_en (by omega), h (by omega), h' (by omega)]; omega
  · intro a d wt t _ _ _ h h0; exact h h0
def sumN (f : Nat → Int) : Nat → Int
  | 0 => 0
  | i + 1 => sumN f i + f i
theorem sum_outs (m : Nat) : ∀ (l : List V), (∀ e ∈ l, 0 ≤ e.2.2) → sumN (fun i => outs (i : Int) l) m ≤ tot l ∧ 0 ≤ sumN (fun i => outs (i : Int) l) m := by
  have one : ∀ (v c : Int), 0 ≤ c → ∀ m : Nat, 0 ≤ sumN (fun i => if v = (i : Int) then c else 0) m ∧ sumN (fun i => if v = (i : Int) then c else 0) m ≤ (if v < (m : Int) then c else 0) := by
    intro v c hc m
    induction m with
    | zero => refine ⟨Int.le_refl _, ?_⟩; show (0 : Int) ≤ _; split <;> omega
    | succ m ih =>
      simp only [sumN]
      by_cases e : v = (m : Int)
      · rw [if_neg (by omega)] at ih
        rw [if_pos e, if_pos (by omega)]; omega
      · rw [if_neg e]
        by_cases e2 : v < (m : Int)
        · rw [if_pos e2] at ih; rw [if_pos (by omega)]; omega
        · rw [if_neg e2] at ih; rw [if_neg (by omega)]; omega
  have add : ∀ (f g : Nat → Int) (m : Nat), sumN (fun i => f i + g i) m = sumN f m + sumN g m := by
    intro f g m
    induction m with
    | zero => rfl
    | succ m ih => simp only [sumN, ih]; omega
  have nul : ∀ m : Nat, sumN (fun _ => 0) m = 0 := by
    intro m
    induction m with
    | zero => rfl
    | succ m ih => simp only [sumN, ih]; rfl
  intro l
  induction l with
  | nil => intro _; simp only [outs, nul, tot]; omega
  | cons v l ih =>
    intro h
    have i1 := ih fun e he => h e (List.mem_cons_of_mem _ he)
    have hv := h v (List.mem_cons_self ..)
    simp only [outs, tot]
    rw [add]
    by_cases c : v.1 = 0
    · have o := one v.2.1 v.2.2 hv m
      have : sumN (fun i => if v.1 = 0 ∧ v.2.1 = (i : Int) then v.2.2 else 0) m = sumN (fun i => if v.2.1 = (i : Int) then v.2.2 else 0) m := by simp [c]
      rw [this]
      have : (if v.2.1 < (m : Int) then v.2.2 else 0) ≤ v.2.2 := by split <;> omega
      omega
    · have : sumN (fun i => if v.1 = 0 ∧ v.2.1 = (i : Int) then v.2.2 else 0) m = 0 := by simp [c, nul]
      rw [this]; omega
end
end Go.Proofs.YtambkogocbgbmaaGreat.Tr
/- As much light goes from one sight to another as comes back, and no more than came in. Plain. -/
namespace Go.Proofs.YtambkogocbgbmaaGreat.Id
open Go.Id
open Go.Proofs
set_option linter.unusedVariables false
theorem lastIx_get {x : Cl} : ∀ (n : Nat) (l : List Cl), l.length = n → ∀ i : Nat, lastIx l x = (i : Int) → l[i]? = some x
  | 0, l, h, i, e => by
    have : l = [] := List.length_eq_zero_iff.1 h
    subst this
    have e : (-1 : Int) = (i : Int) := e
    omega
  | n + 1, l, h, i, e => by
    obtain ⟨r, y, rfl⟩ := snoc_of (l := l) (by omega)
    rw [lastIx_snoc] at e
    have hr : r.length = n := by simpa using h
    by_cases c : y = x
    · rw [if_pos c] at e
      have : i = r.length := by omega
      subst this; subst c; simp
    · rw [if_neg c] at e
      have := lastIx_get n r hr i e
      rw [List.getElem?_append_left (List.getElem?_eq_some_iff.1 this).1]; exact this
theorem lastIx_of {x : Cl} : ∀ (n : Nat) (l : List Cl), l.length = n → l.Nodup → ∀ i : Nat, l[i]? = some x → lastIx l x = (i : Int)
  | 0, l, h, hd, i, e => by
    have : l = [] := List.length_eq_zero_iff.1 h
    subst this
    simp at e
  | n + 1, l, h, hd, i, e => by
    obtain ⟨r, y, rfl⟩ := snoc_of (l := l) (by omega)
    rw [lastIx_snoc]
    have hr : r.length = n := by simpa using h
    obtain ⟨d1, _, d2⟩ := List.nodup_append.1 hd
    by_cases hi : i < r.length
    · rw [List.getElem?_append_left hi] at e
      have hm : x ∈ r := List.mem_of_getElem? e
      rw [if_neg (fun c => d2 x hm y (List.mem_singleton.2 rfl) c.symm)]
      exact lastIx_of n r hr d1 i e
    · have hl := (List.getElem?_eq_some_iff.1 e).1
      have : i = r.length := by simp at hl; omega
      subst this
      simp at e
      rw [if_pos e]
theorem rays_chk : ∀ w : Fin 5, ∀ hh : Fin 5, (rays (w.val + 1) (hh.val + 1)).Nodup ∧ ∀ c ∈ rays (w.val + 1) (hh.val + 1), Tr.nxt ((w.val + 1 : Nat) : Int) (((w.val + 1 : Nat) : Int) * ((hh.val + 1 : Nat) : Int)) c.1 (Tr.bk c.2) = none := by decide +kernel
theorem rays_once {w hh : Nat} (h1 : 1 ≤ w ∧ w ≤ 5) (h2 : 1 ≤ hh ∧ hh ≤ 5) : (rays w hh).Nodup ∧ ∀ c ∈ rays w hh, Tr.nxt (w : Int) ((w : Int) * (hh : Int)) c.1 (Tr.bk c.2) = none := by
  have := rays_chk ⟨w - 1, by omega⟩ ⟨hh - 1, by omega⟩
  simp only [show w - 1 + 1 = w from by omega, show hh - 1 + 1 = hh from by omega] at this
  exact this
/-- Which way leads out at a sight. -/
theorem sight_ray {g : Gd} {x : Int} {r : Cl} (hr : sightRay g x = some r) : Tr.nxt g.w g.cs.length r.1 (Tr.bk r.2) = none ∧ ∀ a d, (0 ≤ d ∧ d ≤ 3) → (sightOf g a d = x ↔ a = r.1 ∧ d = Tr.bk r.2) := by
  have hr0 := hr
  obtain ⟨hg, _, h4⟩ := sightRay_ok hr0
  unfold sightRay at hr
  by_cases c : gOk g = true ∧ 0 ≤ x ∧ x < many g
  · rw [if_pos c] at hr
    obtain ⟨w, hh, g1, g2, g3, g4, g5⟩ := gOk_nat c.1
    have hs : sideRays g = rays w hh := by unfold sideRays; rw [g1, g2, Int.toNat_natCast, Int.toNat_natCast]
    obtain ⟨o1, o2⟩ := rays_once g3 g4
    rw [hs] at hr
    refine ⟨?_, fun a d hd => ?_⟩
    · rw [g1, g5]; exact o2 r (List.mem_of_getElem? hr)
    · have e : sightOf g a d = lastIx (rays w hh) (a, Tr.bk d) := by
        unfold sightOf; rw [if_pos ⟨hg, hd⟩, hs]; rfl
      rw [e]
      constructor
      · intro q
        have := lastIx_get _ _ rfl x.toNat (by rw [q]; omega)
        rw [hr] at this
        have := Option.some.inj this
        rw [this]
        exact ⟨rfl, (Tr.bk_bk hd).symm⟩
      · rintro ⟨rfl, rfl⟩
        rw [Tr.bk_bk h4, lastIx_of _ _ rfl o1 x.toNat hr]
        omega
  · rw [if_neg c] at hr; cases hr
theorem sightRay_ex {g : Gd} (hg : gOk g = true) {k : Int} (hk : 0 ≤ k ∧ k < many g) : ∃ r, sightRay g k = some r := by
  unfold sightRay
  rw [if_pos ⟨hg, hk⟩]
  have := sideRays_len hg
  exact ⟨_, List.getElem?_eq_getElem (by omega)⟩
theorem row_back {g : Gd} (hg : gOk g = true) {k i : Int} (hk : 0 ≤ k ∧ k < many g) (hi : 0 ≤ i ∧ i < many g) : Tr.outs i (trail g k).2 = Tr.outs k (trail g i).2 := by
  obtain ⟨r, hr⟩ := sightRay_ex hg hk
  obtain ⟨s, hs⟩ := sightRay_ex hg hi
  obtain ⟨t1, _⟩ := trail_ok g k
  obtain ⟨u1, _⟩ := trail_ok g i
  unfold IsTrail at t1 u1
  rw [hr] at t1
  rw [hs] at u1
  obtain ⟨q, hq⟩ := t1
  obtain ⟨q', hq'⟩ := u1
  obtain ⟨_, o1, o2⟩ := sightRay_ok hr
  obtain ⟨_, p1, p2⟩ := sightRay_ok hs
  obtain ⟨g1, g2, g3, g4, g5, g6⟩ := gOk_iff.1 hg
  obtain ⟨n1, x1⟩ := sight_ray hr
  obtain ⟨n2, x2⟩ := sight_ray hs
  exact Tr.outs_back (j := 6) (kd := kdG g) (w := g.w) g1 g5 (fun a ha => kdG_ok hg ha) ⟨o1, o2⟩ ⟨p1, p2⟩ n1 n2 (fun a d _ hd _ => x1 a d hd) (fun a d _ hd _ => x2 a d hd) hq hq'
theorem row_sum (g : Gd) (k : Int) (m : Nat) : 0 ≤ Tr.sumN (fun i => Tr.outs (i : Int) (trail g k).2) m ∧ Tr.sumN (fun i => Tr.outs (i : Int) (trail g k).2) m ≤ 64 := by
  obtain ⟨t1, _, t3, _⟩ := trail_ok g k
  have h := Tr.sum_outs m (trail g k).2 fun e he => (t3 e he).2.1
  have ht : Tr.tot (trail g k).2 ≤ 64 := by
    unfold IsTrail at t1
    cases hr : sightRay g k with
    | none => rw [hr] at t1; rw [t1]; decide
    | some r =>
      rw [hr] at t1
      obtain ⟨q, hq⟩ := t1
      obtain ⟨hg, o1, o2⟩ := sightRay_ok hr
      obtain ⟨g1, g2, g3, g4, g5, g6⟩ := gOk_iff.1 hg
      exact Int.le_of_eq (Tr.go_tot (w := g.w) g1 g5 q _ _ _ _ ⟨o1, o2⟩ (by decide) hq)
  omega
end Go.Proofs.YtambkogocbgbmaaGreat.Id
/- Turned by a quarter, or in a mirror: light goes as it went. Plain. -/
namespace Go.Proofs.YtambkogocbgbmaaGreat.Id
open Go.Id
open Go.Proofs
set_option linter.unusedVariables false
def swpC (c : Cl) : Cl := (Tr.swp c.1, c.2)
def cAt (g : Gd) (i : Int) : Cl := g.cs[i.toNat]?.getD (0, 0)
def turnFrom (g : Gd) (r c : Int) : Int := (g.hi - 1 - c) * g.w + r
def flipFrom (g : Gd) (r c : Int) : Int := r * g.w + g.w - 1 - c
def movedG (g : Gd) (w : Int) (f : Int → Int → Int) : Gd := ⟨w, (List.range g.cs.length).map fun (i : Nat) => swpC (cAt g (f ((i : Int) / w) ((i : Int) % w)))⟩
def turnG (g : Gd) : Gd := movedG g g.hi (turnFrom g)
def flipG (g : Gd) : Gd := movedG g g.w (flipFrom g)
theorem movedG_len (g : Gd) (w : Int) (f : Int → Int → Int) : (movedG g w f).cs.length = g.cs.length := by simp [movedG]
theorem movedG_at (g : Gd) (w : Int) (f : Int → Int → Int) {i : Int} (hi : 0 ≤ i ∧ i < g.cs.length) : cAt (movedG g w f) i = swpC (cAt g (f (i / w) (i % w))) := by
  unfold cAt movedG
  have : i.toNat < g.cs.length := by omega
  rw [List.getElem?_map, List.getElem?_range this]
  simp only [Option.map_some, Option.getD_some]
  rw [show ((i.toNat : Nat) : Int) = i from by omega]
  rfl
theorem cOk_swp {c : Cl} (h : cOk c = true) : cOk (swpC c) = true := by
  unfold cOk swpC Tr.swp at *
  obtain ⟨k, l⟩ := c
  simp only at *
  by_cases h7 : k = 7
  · rw [if_pos h7] at h
    have e : (if k = 2 then 3 else if k = 3 then 2 else if k = 4 then 5 else if k = 5 then 4 else k) = (7 : Int) := by rw [h7]; decide
    rw [e, if_pos rfl]; exact h
  · rw [if_neg h7] at h
    simp at h
    repeat' split
    all_goals (first | omega | (simp; omega))
theorem cAt_mem {g : Gd} {a : Int} (ha : 0 ≤ a ∧ a < g.cs.length) : cAt g a ∈ g.cs := by
  unfold cAt
  have : a.toNat < g.cs.length := by omega
  rw [List.getElem?_eq_getElem this]
  exact List.getElem_mem this
theorem movedG_ok {g : Gd} {w : Int} {f : Int → Int → Int} (hg : gOk g = true) (hw : 1 ≤ w ∧ w ≤ 5) (hl : (g.cs.length : Int) ≤ w * 5) (hm : (g.cs.length : Int) % w = 0) (hf : ∀ i, 0 ≤ i ∧ i < (g.cs.length : Int) → 0 ≤ f (i / w) (i % w) ∧ f (i / w) (i % w) < g.cs.length) : gOk (movedG g w f) = true := by
  obtain ⟨g1, g2, g3, g4, g5, g6⟩ := gOk_iff.1 hg
  refine gOk_iff.2 ⟨hw.1, hw.2, by rw [movedG_len]; exact g3, by rw [movedG_len]; exact hl, by rw [movedG_len]; exact hm, fun c hc => ?_⟩
  obtain ⟨i, hi, rfl⟩ := List.mem_map.1 hc
  have hi := List.mem_range.1 hi
  exact cOk_swp (g6 _ (cAt_mem (hf i ⟨by omega, by omega⟩)))
/-- A grid, seen another way. -/
structure Same (g g' : Gd) (π δ σ : Int → Int) : Prop where
  ok : gOk g = true
  ok' : gOk g' = true
  inn : ∀ a, 0 ≤ a ∧ a < (g.cs.length : Int) → 0 ≤ π a ∧ π a < g'.cs.length
  dir : ∀ d, 0 ≤ d ∧ d ≤ 3 → 0 ≤ δ d ∧ δ d ≤ 3
  cell : ∀ a, 0 ≤ a ∧ a < (g.cs.length : Int) → cAt g' (π a) = swpC (cAt g a)
  next : ∀ a d, Tr.Ok g.cs.length (a, d) → Tr.nxt g'.w g'.cs.length (π a) (δ d) = (Tr.nxt g.w g.cs.length a d).map π
  turn : ∀ k d, 0 ≤ d ∧ d ≤ 3 → Tr.dirT (Tr.swp k) (δ d) = δ (Tr.dirT k d)
  dbk : ∀ d, 0 ≤ d ∧ d ≤ 3 → δ (Tr.bk d) = Tr.bk (δ d)
  ray : ∀ k r, 0 ≤ k ∧ k < many g → sightRay g k = some r → sightRay g' (σ k) = some (π r.1, δ r.2)
  sin : ∀ k, 0 ≤ k ∧ k < many g → 0 ≤ σ k ∧ σ k < many g'
  many : many g' = many g
section
variable {g g' : Gd} {π δ σ : Int → Int} (S : Same g g' π δ σ)
include S
theorem Same.sight {a d : Int} (ha : 0 ≤ a ∧ a < (g.cs.length : Int)) (hd : 0 ≤ d ∧ d ≤ 3) (hx : Tr.nxt g.w g.cs.length a d = none) : sightOf g' (π a) (δ d) = σ (sightOf g a d) := by
  have h0 := sight_ge S.ok ha hd hx
  have h1 := sightOf_lt S.ok a d
  obtain ⟨r, hr⟩ := sightRay_ex S.ok ⟨h0, h1⟩
  obtain ⟨e1, e2⟩ := ((sight_ray hr).2 a d hd).1 rfl
  have hr' := S.ray _ r ⟨h0, h1⟩ hr
  have o2 := (sightRay_ok hr).2.2
  refine ((sight_ray hr').2 _ _ (S.dir d hd)).2 ⟨by rw [e1], ?_⟩
  show δ d = Tr.bk (δ r.2)
  rw [e2, S.dbk r.2 o2]
theorem Same.kd {a : Int} (ha : 0 ≤ a ∧ a < (g.cs.length : Int)) : kdG g' (π a) = Tr.swp (kdG g a) := by
  show (cAt g' (π a)).1 = Tr.swp (cAt g a).1
  rw [S.cell a ha]; rfl
theorem Same.lt {a : Int} (ha : 0 ≤ a ∧ a < (g.cs.length : Int)) : ltG g' (π a) = ltG g a := by
  show (cAt g' (π a)).2 = (cAt g a).2
  rw [S.cell a ha]; rfl
theorem Same.sym : Tr.Sym g.w g.cs.length (kdG g) (sightOf g) g'.w g'.cs.length (kdG g') (sightOf g') π δ σ :=
  ⟨S.inn, S.dir, fun a ha => S.kd ha, S.next, S.turn, fun a d ho hx => S.sight ho.1 ho.2 hx⟩
theorem Same.trail {k : Int} (hk : 0 ≤ k ∧ k < Id.many g) : (trail g' (σ k)).2 = (trail g k).2.map (Tr.mp π σ) := by
  obtain ⟨r, hr⟩ := sightRay_ex S.ok hk
  have hr' := S.ray k r hk hr
  obtain ⟨t1, _⟩ := trail_ok g k
  obtain ⟨u1, _⟩ := trail_ok g' (σ k)
  unfold IsTrail at t1 u1
  rw [hr] at t1
  rw [hr'] at u1
  obtain ⟨q, hq⟩ := t1
  obtain ⟨q', hq'⟩ := u1
  obtain ⟨_, o1, o2⟩ := sightRay_ok hr
  obtain ⟨g1, g2, g3, g4, g5, g6⟩ := gOk_iff.1 S.ok
  obtain ⟨q2, t2, h2, e2⟩ := Tr.go_map (w := g.w) g1 g5 S.sym q _ _ _ _ ⟨o1, o2⟩ hq
  have e1 := Tr.go_le (Nat.le_max_left q' q2) hq'
  have e3 := Tr.go_le (Nat.le_max_right q' q2) h2
  have := Option.some.inj (e1.symm.trans e3)
  rw [this, e2]
theorem Same.light {k : Int} (hk : 0 ≤ k ∧ k < Id.many g) : lightAt g' (σ k) = lightAt g k := by
  unfold lightAt
  rw [S.trail hk]
  obtain ⟨_, _, t3, _⟩ := trail_ok g k
  generalize (Id.trail g k).2 = l at t3 ⊢
  induction l with
  | nil => rfl
  | cons e l ih =>
    have i1 := ih fun e he => t3 e (List.mem_cons_of_mem _ he)
    simp only [List.map_cons, lightOf, i1]
    congr 1
    by_cases c : e.1 = 2
    · have := (t3 e (List.mem_cons_self ..)).1 c
      have hm : (Tr.mp π σ e).1 = 2 := c
      rw [if_pos c, if_pos hm]
      have c0 : e.1 ≠ 0 := by omega
      have hp : (Tr.mp π σ e).2.1 = π e.2.1 := by simp [Tr.mp, c0]
      rw [hp, S.lt this]; rfl
    · have hm : ¬ (Tr.mp π σ e).1 = 2 := c
      rw [if_neg c, if_neg hm]
end
theorem raysT_chk : ∀ w : Fin 5, ∀ h : Fin 5, ∀ k : Fin 20, k.val < 2 * (w.val + 1 + (h.val + 1)) → (rays (h.val + 1) (w.val + 1))[(Tr.siT ((w.val + 1 : Nat) : Int) ((h.val + 1 : Nat) : Int) (k.val : Int)).toNat]? = ((rays (w.val + 1) (h.val + 1))[k.val]?).map fun r => (Tr.piT ((w.val + 1 : Nat) : Int) ((h.val + 1 : Nat) : Int) r.1, Tr.deT r.2) := by decide +kernel
theorem raysF_chk : ∀ w : Fin 5, ∀ h : Fin 5, ∀ k : Fin 20, k.val < 2 * (w.val + 1 + (h.val + 1)) → (rays (w.val + 1) (h.val + 1))[(Tr.siF ((w.val + 1 : Nat) : Int) ((h.val + 1 : Nat) : Int) (k.val : Int)).toNat]? = ((rays (w.val + 1) (h.val + 1))[k.val]?).map fun r => (Tr.piF ((w.val + 1 : Nat) : Int) r.1, Tr.deF r.2) := by decide +kernel
theorem raysT {w h k : Nat} (hw : 1 ≤ w ∧ w ≤ 5) (hh : 1 ≤ h ∧ h ≤ 5) (hk : k < 2 * (w + h)) : (rays h w)[(Tr.siT (w : Int) (h : Int) (k : Int)).toNat]? = ((rays w h)[k]?).map fun r => (Tr.piT (w : Int) (h : Int) r.1, Tr.deT r.2) := by
  have := raysT_chk ⟨w - 1, by omega⟩ ⟨h - 1, by omega⟩ ⟨k, by omega⟩
  simp only [show w - 1 + 1 = w from by omega, show h - 1 + 1 = h from by omega] at this
  exact this hk
theorem raysF {w h k : Nat} (hw : 1 ≤ w ∧ w ≤ 5) (hh : 1 ≤ h ∧ h ≤ 5) (hk : k < 2 * (w + h)) : (rays w h)[(Tr.siF (w : Int) (h : Int) (k : Int)).toNat]? = ((rays w h)[k]?).map fun r => (Tr.piF (w : Int) r.1, Tr.deF r.2) := by
  have := raysF_chk ⟨w - 1, by omega⟩ ⟨h - 1, by omega⟩ ⟨k, by omega⟩
  simp only [show w - 1 + 1 = w from by omega, show h - 1 + 1 = h from by omega] at this
  exact this hk
theorem turnFrom_in {g : Gd} (hg : gOk g = true) {i : Int} (hi : 0 ≤ i ∧ i < (g.cs.length : Int)) : 0 ≤ turnFrom g (i / g.hi) (i % g.hi) ∧ turnFrom g (i / g.hi) (i % g.hi) < g.cs.length := by
  obtain ⟨h1, h2, h3⟩ := hi_ok hg
  obtain ⟨g1, g2, _⟩ := gOk_iff.1 hg
  rw [← h3] at hi ⊢
  rw [Int.mul_comm g.w] at hi
  obtain ⟨r, c, e, c0, c1, r0, r1, e1, e2⟩ := Tr.rc h1 hi.1 hi.2
  rw [e1, e2]
  exact Tr.rc_lt g1 (by omega) (by omega) r0 r1
theorem flipFrom_in {g : Gd} (hg : gOk g = true) {i : Int} (hi : 0 ≤ i ∧ i < (g.cs.length : Int)) : 0 ≤ flipFrom g (i / g.w) (i % g.w) ∧ flipFrom g (i / g.w) (i % g.w) < g.cs.length := by
  obtain ⟨h1, h2, h3⟩ := hi_ok hg
  obtain ⟨g1, g2, _⟩ := gOk_iff.1 hg
  rw [← h3] at hi ⊢
  obtain ⟨r, c, e, c0, c1, r0, r1, e1, e2⟩ := Tr.rc g1 hi.1 hi.2
  rw [e1, e2]
  unfold flipFrom
  rw [show r * g.w + g.w - 1 - c = r * g.w + (g.w - 1 - c) from by omega]
  exact Tr.rc_lt g1 r0 r1 (by omega) (by omega)
theorem turn_same {g : Gd} (hg : gOk g = true) : Same g (turnG g) (Tr.piT g.w g.hi) Tr.deT (Tr.siT g.w g.hi) := by
  obtain ⟨h1, h2, h3⟩ := hi_ok hg
  obtain ⟨g1, g2, g3, g4, g5, g6⟩ := gOk_iff.1 hg
  have ln : (turnG g).cs.length = g.cs.length := movedG_len _ _ _
  have ok' : gOk (turnG g) = true := movedG_ok hg ⟨h1, h2⟩ (by rw [← h3, Int.mul_comm]; exact Int.mul_le_mul_of_nonneg_left (by omega) (by omega)) (by rw [← h3]; exact Int.mul_emod_left _ _) fun i hi => turnFrom_in hg hi
  have w' : (turnG g).w = g.hi := rfl
  have hi' : (turnG g).hi = g.w := by
    show ((turnG g).cs.length : Int) / (turnG g).w = g.w
    rw [ln, w', ← h3]; exact Int.mul_ediv_cancel _ (by omega)
  have mn : many (turnG g) = many g := by unfold many; rw [w', hi']; omega
  refine ⟨hg, ok', fun a ha => ?_, fun d hd => by unfold Tr.deT; omega, fun a ha => ?_, fun a d ho => ?_, Tr.deT_turn, fun d hd => Tr.deT_back d, fun k r hk hr => ?_, fun k hk => ?_, mn⟩
  · rw [ln, ← h3]; exact Tr.piT_in g1 h1 (by rw [h3]; exact ha)
  · have hp := Tr.piT_in (w := g.w) (h := g.hi) g1 h1 (by rw [h3]; exact ha)
    unfold turnG
    rw [movedG_at _ _ _ (by rw [← h3]; exact hp)]
    rw [← h3] at ha
    obtain ⟨r, c, rfl, c0, c1, r0, r1, e1, e2⟩ := Tr.rc g1 ha.1 ha.2
    rw [Tr.piT_rc c0 c1, (Tr.rc_div (w := g.hi) (r := c) (c := g.hi - 1 - r) (by omega) (by omega)).1, (Tr.rc_div (w := g.hi) (r := c) (c := g.hi - 1 - r) (by omega) (by omega)).2]
    unfold turnFrom
    rw [show g.hi - 1 - (g.hi - 1 - r) = r from by omega]
  · rw [ln, w', ← h3]
    rw [← h3] at ho
    exact Tr.next_T g1 h1 ho
  · unfold sightRay at hr ⊢
    rw [if_pos ⟨hg, hk⟩] at hr
    have hs := Tr.siT_in (w := g.w) (h := g.hi) (k := k) g1 h1 hk.1 (by have := hk.2; unfold many at this; exact this)
    rw [if_pos ⟨ok', hs.1, by rw [mn]; unfold many; exact hs.2⟩]
    obtain ⟨w, hh, x1, x2, x3, x4, x5⟩ := gOk_nat hg
    unfold sideRays at hr ⊢
    rw [w', hi']
    rw [x1, x2] at hr ⊢
    rw [Int.toNat_natCast, Int.toNat_natCast] at hr ⊢
    have := raysT (k := k.toNat) x3 x4 (by have := hk.2; unfold many at this; omega)
    rw [show ((k.toNat : Nat) : Int) = k from by omega, hr] at this
    exact this
  · have hs := Tr.siT_in (w := g.w) (h := g.hi) (k := k) g1 h1 hk.1 (by have := hk.2; unfold many at this; exact this)
    rw [mn]; unfold many; exact hs
theorem flip_same {g : Gd} (hg : gOk g = true) : Same g (flipG g) (Tr.piF g.w) Tr.deF (Tr.siF g.w g.hi) := by
  obtain ⟨h1, h2, h3⟩ := hi_ok hg
  obtain ⟨g1, g2, g3, g4, g5, g6⟩ := gOk_iff.1 hg
  have ln : (flipG g).cs.length = g.cs.length := movedG_len _ _ _
  have ok' : gOk (flipG g) = true := movedG_ok hg ⟨g1, g2⟩ g4 g5 fun i hi => flipFrom_in hg hi
  have w' : (flipG g).w = g.w := rfl
  have hi' : (flipG g).hi = g.hi := by
    show ((flipG g).cs.length : Int) / (flipG g).w = g.hi
    rw [ln, w']; rfl
  have mn : many (flipG g) = many g := by unfold many; rw [w', hi']
  refine ⟨hg, ok', fun a ha => ?_, fun d hd => by unfold Tr.deF; split <;> (try split) <;> omega, fun a ha => ?_, fun a d ho => ?_, Tr.deF_turn, fun d hd => Tr.deF_back hd, fun k r hk hr => ?_, fun k hk => ?_, mn⟩
  · rw [ln, ← h3]; exact Tr.piF_in g1 (by rw [h3]; exact ha)
  · have hp := Tr.piF_in (w := g.w) (h := g.hi) g1 (by rw [h3]; exact ha)
    unfold flipG
    rw [movedG_at _ _ _ (by rw [← h3]; exact hp)]
    rw [← h3] at ha
    obtain ⟨r, c, rfl, c0, c1, r0, r1, e1, e2⟩ := Tr.rc g1 ha.1 ha.2
    rw [Tr.piF_rc c0 c1, (Tr.rc_div (w := g.w) (r := r) (c := g.w - 1 - c) (by omega) (by omega)).1, (Tr.rc_div (w := g.w) (r := r) (c := g.w - 1 - c) (by omega) (by omega)).2]
    unfold flipFrom
    rw [show r * g.w + g.w - 1 - (g.w - 1 - c) = r * g.w + c from by omega]
  · rw [ln, w', ← h3]
    rw [← h3] at ho
    exact Tr.next_F g1 ho
  · unfold sightRay at hr ⊢
    rw [if_pos ⟨hg, hk⟩] at hr
    have hs := Tr.siF_in (w := g.w) (h := g.hi) (k := k) g1 h1 hk.1 (by have := hk.2; unfold many at this; exact this)
    rw [if_pos ⟨ok', hs.1, by rw [mn]; unfold many; exact hs.2⟩]
    obtain ⟨w, hh, x1, x2, x3, x4, x5⟩ := gOk_nat hg
    unfold sideRays at hr ⊢
    rw [w', hi']
    rw [x1, x2] at hr ⊢
    rw [Int.toNat_natCast, Int.toNat_natCast] at hr ⊢
    have := raysF (k := k.toNat) x3 x4 (by have := hk.2; unfold many at this; omega)
    rw [show ((k.toNat : Nat) : Int) = k from by omega, hr] at this
    exact this
  · have hs := Tr.siF_in (w := g.w) (h := g.hi) (k := k) g1 h1 hk.1 (by have := hk.2; unfold many at this; exact this)
    rw [mn]; unfold many; exact hs
end Go.Proofs.YtambkogocbgbmaaGreat.Id
/- Contracts over the ideal memory: cells turned. -/
namespace Go.Proofs.YtambkogocbgbmaaGreat.Id
open Go.Id
open Go.Proofs
set_option linter.unusedVariables false
set_option maxRecDepth 100000
variable {X : Ctx Tryz.prog} {lo : Nat}
/-- A cell as the code types it. -/
def tyV (a b : Int) : Value := if a = 7 then .iface 158 (.agg #[.int .i64 b]) else .iface (if a = 0 then 159 else if a = 1 then 160 else if a = 2 then 161 else if a = 3 then 162 else if a = 4 then 163 else if a = 5 then 164 else 165) (.agg #[])
theorem cellTyped_v (a b : Int) (hc : cOk (a, b) = true) (h : Hp) : Tri X lo 85 [.agg #[.int .i64 a, .int .i64 b]] h fun v h' => v = .tuple #[tyV a b, .bool true] ∧ Ext h h' := by
  refine enter tbOk mtOk ⟨[], [(2, [0, 1, 2, 3, 4, 5, 6, 7, 8, 9, 10, 11, 12, 13], [0, 1, 3, 7, 0, 16, 48, 112, 240, 496, 1008, 2032, 255, 8191])]⟩ 400 Tryz.func85 rfl rfl rfl fun hlo => ?_
  unfold cOk at hc
  simp only at hc
  refine cnd (fun c1 => ?_) (fun c1 => ?_)
  · refine And.intro (by kernel_rfl) ?_
    have c1 : a = 7 := by simpa using c1
    subst c1
    simp at hc
    refine cnd (fun c2 => ?_) (fun c2 => absurd c2 (by simp [hc.1]))
    have hh : decide (b ≤ 9) = true := decide_eq_true hc.2
    refine And.intro ?_ (Ext.refl _)
    show Value.tuple #[.iface 158 (.agg #[.int .i64 b]), .bool (decide (b ≤ 9))] = _
    rw [hh]; rfl
  · have c1 : a ≠ 7 := by simpa using c1
    rw [if_neg c1] at hc
    simp at hc
    obtain ⟨⟨h0, h6⟩, rfl⟩ := hc
    refine cnd (fun c2 => absurd c2 (by simp; omega)) (fun c2 => ?_)
    refine cnd (fun c3 => absurd c3 (by simp; omega)) (fun c3 => ?_)
    refine cnd (fun c4 => absurd c4 (by simp)) (fun c4 => ?_)
    refine And.intro ⟨h0, by omega⟩ ?_
    have hc : a = 0 ∨ a = 1 ∨ a = 2 ∨ a = 3 ∨ a = 4 ∨ a = 5 ∨ a = 6 := by omega
    rcases hc with rfl | rfl | rfl | rfl | rfl | rfl | rfl <;> exact And.intro rfl (Ext.refl _)
theorem kind0_ok (h : Hp) : Tri X lo 192 [.agg #[]] h fun v h' => v = .int .i64 0 ∧ Ext h h' := by
  refine enter tbOk mtOk ⟨[], []⟩ 400 Tryz.func192 rfl rfl rfl fun hlo => ?_
  exact And.intro rfl (Ext.refl _)
theorem kind1_ok (h : Hp) : Tri X lo 193 [.agg #[]] h fun v h' => v = .int .i64 1 ∧ Ext h h' := by
  refine enter tbOk mtOk ⟨[], []⟩ 400 Tryz.func193 rfl rfl rfl fun hlo => ?_
  exact And.intro rfl (Ext.refl _)
theorem kind6_ok (h : Hp) : Tri X lo 198 [.agg #[]] h fun v h' => v = .int .i64 6 ∧ Ext h h' := by
  refine enter tbOk mtOk ⟨[], []⟩ 400 Tryz.func198 rfl rfl rfl fun hlo => ?_
  exact And.intro rfl (Ext.refl _)
theorem cellSwapped_ok (c : Cl) (hc : cOk c = true) (h : Hp) : Tri X lo 86 [tyV c.1 c.2] h fun v h' => v = .agg #[.int .i64 (swpC c).1, .int .i64 (swpC c).2] ∧ Ext h h' := by
  obtain ⟨a, b⟩ := c
  have ha : (0 ≤ a ∧ a ≤ 7) ∧ (a ≠ 7 → b = 0) := by
    unfold cOk at hc
    simp only at hc
    split at hc
    · omega
    · simp at hc; omega
  have hk : a = 0 ∨ a = 1 ∨ a = 2 ∨ a = 3 ∨ a = 4 ∨ a = 5 ∨ a = 6 ∨ a = 7 := by omega
  obtain ⟨_, hb⟩ := ha
  rcases hk with rfl | rfl | rfl | rfl | rfl | rfl | rfl | rfl
  · refine enter tbOk mtOk ⟨[], []⟩ 400 Tryz.func86 rfl rfl rfl fun hlo => ?_
    refine cndF ?_
    refine cndF ?_
    refine cndF ?_
    refine cndF ?_
    refine cndF ?_
    refine callP (kind0_ok h) ?_
    rintro v h' ⟨rfl, e⟩
    obtain rfl := hb (by decide)
    exact And.intro rfl e
  · refine enter tbOk mtOk ⟨[], []⟩ 400 Tryz.func86 rfl rfl rfl fun hlo => ?_
    refine cndF ?_
    refine cndF ?_
    refine cndF ?_
    refine cndF ?_
    refine cndF ?_
    refine callP (kind1_ok h) ?_
    rintro v h' ⟨rfl, e⟩
    obtain rfl := hb (by decide)
    exact And.intro rfl e
  · refine enter tbOk mtOk ⟨[], []⟩ 400 Tryz.func86 rfl rfl rfl fun hlo => ?_
    refine cndT ?_
    obtain rfl := hb (by decide)
    exact And.intro rfl (Ext.refl _)
  · refine enter tbOk mtOk ⟨[], []⟩ 400 Tryz.func86 rfl rfl rfl fun hlo => ?_
    refine cndF ?_
    refine cndT ?_
    obtain rfl := hb (by decide)
    exact And.intro rfl (Ext.refl _)
  · refine enter tbOk mtOk ⟨[], []⟩ 400 Tryz.func86 rfl rfl rfl fun hlo => ?_
    refine cndF ?_
    refine cndF ?_
    refine cndT ?_
    obtain rfl := hb (by decide)
    exact And.intro rfl (Ext.refl _)
  · refine enter tbOk mtOk ⟨[], []⟩ 400 Tryz.func86 rfl rfl rfl fun hlo => ?_
    refine cndF ?_
    refine cndF ?_
    refine cndF ?_
    refine cndT ?_
    obtain rfl := hb (by decide)
    exact And.intro rfl (Ext.refl _)
  · refine enter tbOk mtOk ⟨[], []⟩ 400 Tryz.func86 rfl rfl rfl fun hlo => ?_
    refine cndF ?_
    refine cndF ?_
    refine cndF ?_
    refine cndF ?_
    refine cndF ?_
    refine callP (kind6_ok h) ?_
    rintro v h' ⟨rfl, e⟩
    obtain rfl := hb (by decide)
    exact And.intro rfl e
  · refine enter tbOk mtOk ⟨[], []⟩ 400 Tryz.func86 rfl rfl rfl fun hlo => ?_
    refine cndF ?_
    refine cndF ?_
    refine cndF ?_
    refine cndF ?_
    refine cndT ?_
    exact And.intro rfl (Ext.refl _)
end Go.Proofs.YtambkogocbgbmaaGreat.Id
