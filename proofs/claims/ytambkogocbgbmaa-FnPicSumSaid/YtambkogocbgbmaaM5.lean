/- For every input the law returns true, and what came in reads as it did (the row of Re). No condition. Texts of this claim, joined: IdIn, In, Re. -/
import Derived.Test.YtambkogocbgbmaaM4
import Derived.Deep.Slices
import Derived.Below
import Derived.ChangeFn
import Derived.ChangeOld
import Derived.WalkKit
import Derived.ProofKit
import Derived.OpenShut
import Derived.Test.YtambkogocbgbmaaRows
import Derived.Conc.LeavingOf
import Derived.ShutString
import Derived.SizedLaws
import Derived.Lib.SmallJoins
/- What comes in, as ideal memory that nobody writes; what is left of it at the run's end. -/
namespace Go.Id
open Go.Conc Go.ChangeShapes Go.WideShapes
set_option linter.unusedVariables false
theorem cell_spot {w : World} {a : Addr} {v : Value} (h : w.cell? a = some v) : a.spot = none ∧ a.block < w.heap.size := by
  unfold World.cell? at h
  split at h
  · rename_i c _ _ hb
    split at h
    · cases h
    · rename_i hs
      refine ⟨?_, (Array.getElem?_eq_some_iff.1 hb).1⟩
      cases hsp : a.spot with
      | none => rfl
      | some _ => rw [hsp] at hs; exact absurd rfl hs
  · cases h
def InOk (W : World) (s : Sim) (h : Hp) : Prop := SimOk (lowOf W) h.n s (fun _ => False) h W
theorem InOk.nil (W : World) : InOk W ⟨fun _ => none, fun _ => 0, fun _ => none⟩ ⟨0, fun _ => .cells [] 0 0⟩ :=
  ⟨fun id c h => (by cases h), fun id c h => (by cases h), fun id c id' c' h => (by cases h), fun id b h => (by cases h), fun b h => h.elim, fun b h => h.elim, fun b h => h, Nat.le_refl _⟩
section
variable {W : World} {s : Sim} {h : Hp} {α : Type} {enc : α → List Value} {sz : Nat} {l : List α} {ys : List Value}
/-- A slice that came in. -/
theorem InOk.slice (I : InOk W s h) (he : ∀ x, (enc x).length = sz) (hz : sz ≠ 0) (A : Option Addr) (cap : Nat) (hl : l.length ≤ cap) (hv : VRm s (l.flatMap enc) ys) (hc : ∀ a, A = some a → ∀ (i : Nat) (v : Value), ys[i]? = some v → W.cell? (a.add i) = some v)
    (hn : A = none → l = [] ∧ cap = 0) (hb : ∀ a, A = some a → l = [] → ∃ b0, b0 < W.heap.size) :
    ∃ s' h' A' fl, InOk W s' h' ∧ s.le s' ∧ Ext h h' ∧ VR s' (.slice A' l.length fl) (.slice A l.length cap) ∧ Sls h' enc sz A' l := by
  cases A with
  | none =>
    obtain ⟨rfl, rfl⟩ := hn rfl
    exact ⟨s, h, none, 0, I, s.le_refl, Ext.refl h, .sl0, rfl⟩
  | some a =>
    have hnone : s.adr h.n = none := by
      cases hx : s.adr h.n with
      | none => rfl
      | some c => exact absurd (I.cells _ c hx).1 (Nat.lt_irrefl _)
    obtain ⟨c, hcap, hcb, hH, hne⟩ : ∃ c : Cel, c.cap = cap ∧ c.b < W.heap.size ∧ Holds W c.b c.o ys ∧ (l.length ≠ 0 → a = ⟨c.b, c.o + 0, none⟩) := by
      by_cases hl0 : l = []
      · obtain ⟨b0, hb0⟩ := hb a rfl hl0
        refine ⟨⟨b0, 0, cap⟩, rfl, hb0, fun i v hv' => ?_, fun h => absurd (by rw [hl0]; rfl) h⟩
        have := hv.1.1
        rw [hl0] at this
        have := (List.getElem?_eq_some_iff.1 hv').1
        simp at *; omega
      · have hy : 0 < ys.length := by
          rw [← hv.1.1, flat_len he]
          exact Nat.mul_pos (List.length_pos_iff.2 hl0) (Nat.pos_of_ne_zero hz)
        have h0 := hc a rfl 0 ys[0] (List.getElem?_eq_getElem hy)
        rw [show a.add 0 = a from rfl] at h0
        obtain ⟨e1, e2⟩ := cell_spot h0
        have ea : a = ⟨a.block, a.off, none⟩ := by cases a; simp only at e1; rw [e1]
        refine ⟨⟨a.block, a.off, cap⟩, rfl, e2, fun i v hv' => ?_, fun _ => ea⟩
        have := hc a rfl i v hv'
        rw [ea, add_none] at this
        exact this
    refine ⟨s.up h.n c 0, h.push (.cells (l.flatMap enc) sz 0), some ⟨h.n, 0, some 0⟩, 2, ?_, ?_, Ext.push _ _, ?_, ?_⟩
    · have hle : s.le (s.up h.n c 0) := Sim.up_le fun c₀ hc₀ => by rw [hnone] at hc₀; cases hc₀
      refine ⟨fun id c' hc' => ?_, fun id c' hc' hlo => ?_, fun id c' id' c'' h1 h2 hlo => ?_, fun id b hb' => ?_, fun b h => h.elim, fun b h => h.elim, fun b h => h, Nat.le_refl _⟩
      · simp only [Sim.up] at hc'
        by_cases hid : id = h.n
        · subst hid
          rw [if_pos rfl] at hc'; cases hc'
          exact ⟨by simp [Hp.push], fun _ => hcb, l.flatMap enc, sz, by simp [Hp.push, Sim.up], ys, hv.mono hle, hH⟩
        · rw [if_neg hid] at hc'
          obtain ⟨g1, g2, cs, sz', g3, ys', g4, g5⟩ := I.cells id c' hc'
          refine ⟨by simp [Hp.push]; omega, fun _ => g2 g1, cs, sz', ?_, ys', g4.mono hle, g5⟩
          simp [Hp.push, Sim.up, hid, g3]
      · simp only [Sim.up] at hc'
        by_cases hid : id = h.n
        · subst hid; exact absurd (show h.n + 1 ≤ h.n from hlo) (by omega)
        · rw [if_neg hid] at hc'; have := (I.cells id c' hc').1; exact absurd (show h.n + 1 ≤ id from hlo) (by omega)
      · simp only [Sim.up] at h1
        by_cases hid : id = h.n
        · subst hid; exact absurd (show h.n + 1 ≤ h.n from hlo) (by omega)
        · rw [if_neg hid] at h1; have := (I.cells id c' h1).1; exact absurd (show h.n + 1 ≤ id from hlo) (by omega)
      · have hb'' : s.mp id = some b := hb'
        have := (I.maps id b hb'').1
        exact ⟨by simp [Hp.push]; omega, fun hlo => absurd (show h.n + 1 ≤ id from hlo) (by omega)⟩
    · exact Sim.up_le fun c₀ hc₀ => by rw [hnone] at hc₀; cases hc₀
    · refine .sl h.n 0 (some 0) l.length 2 a cap c (by simp [Sim.up]) (by simp [Sim.up, epOf]) (fun _ => ⟨fun hx => ?_, fun hx => by cases hx⟩) (fun hx => by cases hx) hl
      rcases hx with hx | hx
      · exact hne hx
      · cases hx
    · exact (Row.push (h := h) (e := 0) (enc := enc) (sz := sz) (l := l)).sls he
end
section
variable {H : Type} {enc : TypeId × Value → H} {P : Program} {W : World} {base : Nat} {spare : Nat → Bool} {held : Bool} {α : Type} {en : α → List Value} {sz : Nat}
theorem cells_get {a : Addr} {n : Nat} {cs : List Value} (h : W.cells? base a n = some cs) : cs.length = n ∧ ∀ i, i < n → W.cell? (a.add i) = cs[i]? := by
  obtain ⟨_, h1, h2⟩ := World.cells?_some h
  exact ⟨h1, h2⟩
/-- A slice of plain data, read. -/
theorem open_plain {t e : TypeId} {v : Value} {x : DataW H × List MemPlace} (ht : P.underlying t = some (.slice e)) (hsz : P.cellsOf e = sz) (hz : sz ≠ 0) (hen : ∀ x, (en x).length = sz)
    (dec : ∀ n cs y, DataW.trod enc P W base spare held n e cs = some y → ∃ q, cs = en q) {fuel : Nat} (h : DataW.trod enc P W base spare held fuel t [v] = some x) :
    ∃ (A : Option Addr) (cap : Nat) (l : List α), v = .slice A l.length cap ∧ l.length ≤ cap ∧ cap ≤ Go.maxLen ∧ (A = none → l = [] ∧ cap = 0) ∧ ∀ a, A = some a → ∀ (i : Nat) (u : Value), (l.flatMap en)[i]? = some u → W.cell? (a.add i) = some u := by
  rcases Go.Deep.open_slice ht h with ⟨hcs, _⟩ | ⟨a, len, cap, m, n, D, Pl, hcs, _, hl, hm, hmm, _, hx⟩
  · simp at hcs; subst hcs
    exact ⟨none, 0, [], rfl, Nat.le_refl _, by unfold Go.maxLen; omega, fun _ => ⟨rfl, rfl⟩, fun a h => by cases h⟩
  · simp at hcs; subst hcs
    have hlm : len ≤ m := by rw [hmm]; split <;> omega
    have each : ∀ i, i < len → ∃ q : α, ∀ k, k < sz → W.cell? ((a.add (i * sz)).add k) = (en q)[k]? := by
      intro i hi
      obtain ⟨cs', h1, h2⟩ := hx i (by omega)
      obtain ⟨q, rfl⟩ := dec _ _ _ h2
      rw [hsz] at h1
      exact ⟨q, (cells_get h1).2⟩
    by_cases h0 : len = 0
    · subst h0
      exact ⟨some a, cap, [], rfl, Nat.zero_le _, hm, fun h => (by cases h), fun a _ i u hu => by simp at hu⟩
    · obtain ⟨q0, hq0⟩ := each 0 (by omega)
      have hs : a.spot = none := by
        have h1 := hq0 0 (by omega)
        have hlt : 0 < (en q0).length := by rw [hen]; omega
        rw [List.getElem?_eq_getElem hlt] at h1
        have : (a.add (0 * sz)).add 0 = a := by simp [Addr.add]
        rw [this] at h1
        exact (cell_spot h1).1
      have ea : a = ⟨a.block, a.off, none⟩ := by cases a; simp only at hs; rw [hs]
      obtain ⟨q, hq⟩ : ∃ q : Nat → α, ∀ i, i < len → ∀ k, k < sz → W.cell? ((a.add (i * sz)).add k) = (en (q i))[k]? := by
        classical
        exact ⟨fun i => if hi : i < len then (each i hi).choose else q0, fun i hi => by simp only [dif_pos hi]; exact (each i hi).choose_spec⟩
      have hlen : ((List.range len).map q).length = len := by simp
      refine ⟨some a, cap, (List.range len).map q, by rw [hlen], by rw [hlen]; exact hl, hm, fun h => (by cases h), fun b hb i u hu => ?_⟩
      cases hb
      have hi : i < len * sz := by
        have := (List.getElem?_eq_some_iff.1 hu).1
        rw [flat_len hen, hlen] at this; exact this
      have hdiv : i / sz < len := Nat.div_lt_of_lt_mul (by rw [Nat.mul_comm]; exact hi)
      have hmod : i % sz < sz := Nat.mod_lt _ (Nat.pos_of_ne_zero hz)
      have hsum : i / sz * sz + i % sz = i := by rw [Nat.mul_comm]; exact Nat.div_add_mod i sz
      have h1 := hq (i / sz) hdiv (i % sz) hmod
      rw [ea, add_none, add_none, Nat.add_assoc, hsum] at h1
      rw [ea, add_none, h1]
      have h2 := flat_get hen ((List.range len).map q) (i / sz) (by rw [hlen]; exact hdiv)
      have h3 : (((List.range len).map q).flatMap en)[i]? = (((((List.range len).map q).flatMap en).drop (i / sz * sz)).take sz)[i % sz]? := by
        rw [List.getElem?_take, if_pos hmod, List.getElem?_drop, hsum]
      rw [h3, h2] at hu
      simp at hu
      rw [← hu]
end
section
variable {P : Program} {W : World} {r : Reach} {b0 : Nat}
theorem block_cell {t : TypeId} {a : Addr} {len cap : Nat} (h : Cell.okWide P W r b0 t (.slice (some a) len cap)) : a.block < W.heap.size := by
  have h' : Cell.ok P W r b0 t (.slice (some a) len cap) := by
    unfold Cell.okWide at h
    split at h <;> first | exact h | (rename_i e; cases e)
  unfold Cell.ok at h'
  split at h' <;> first | exact h'.elim | skip
  all_goals first
    | (rename_i e; cases e; done)
    | (rename_i e _ _ _ _ he; cases he
       obtain ⟨_, _, _, _, row, cells, hs, _⟩ := h'
       unfold World.shape? at hs
       cases hb : W.heap[a.block]? with
       | none => rw [hb] at hs; cases hs
       | some o => exact (Array.getElem?_eq_some_iff.1 hb).1)
theorem block_agg {t : TypeId} {fs : Array Field} {cs : Array Value} (ht : P.underlying t = some (.struct fs)) (h : Value.okWide P W r b0 t (.agg cs)) {i : Nat} {a : Addr} {len cap : Nat} (hi : cs[i]? = some (.slice (some a) len cap)) : a.block < W.heap.size := by
  simp only [Value.okWide, ht] at h
  obtain ⟨cs', he, _, ts, _, _, hx⟩ := h
  cases he
  obtain ⟨u, _, hu⟩ := hx i _ hi
  exact block_cell hu
end
/-! ### at the end -/
open Go.RowKit
theorem below_of {W w' : World} (K : Kept (lowOf W) (fun _ => False) W w') : Below W.heap.size W { w' with tape := W.tape } := ⟨K.os, rfl, K.out, K.size, fun k hk => K.low k hk⟩
theorem kept_frame {W w' : World} (K : Kept (lowOf W) (fun _ => False) W w') (may : MemPlace → Prop) : W.keptBut w' may := by
  obtain ⟨a, b, c⟩ := (below_of K).frame may
  exact ⟨a, b, c⟩
theorem Trod_tape {H : Type} {enc : TypeId × Value → H} {P : Program} {w : World} {tp : Tape} {base : Nat} {spare : Nat → Bool} {held : Bool} {t : TypeId} {v : Value} {d : DataW H} {ps : List MemPlace} (h : DataW.Trod enc P { w with tape := tp } base spare held t v d ps) : DataW.Trod enc P w base spare held t v d ps :=
  DataW.Trod.of_heap (w := { w with tape := tp }) (w' := w) rfl h
end Go.Id
/- A code that comes in: bytes, read only. -/
namespace Go.Proofs.Ytambkogocbgbmaa.Id
open Go.Id Go.Conc Go.Proofs
open Go.ChangeShapes Go.WideShapes Go.ChangeAt Go.RowKit
set_option linter.unusedVariables false
def uF (x : Fin 256) : List Value := [.int .u8 (x.val : Nat)]
section
variable {H : Type} {enc : TypeId × Value → H} {W : World} {base : Nat} {spare : Nat → Bool} {held : Bool}
set_option maxRecDepth 100000
theorem dec_byte (n : Nat) (cs : List Value) (y : DataW H × List MemPlace) (h : DataW.trod enc Try.prog W base spare held n 5 cs = some y) : ∃ q : Fin 256, cs = uF q := by
  obtain ⟨q, e, _, hw⟩ := DataW.trod_int Try.underlying5 h
  have hw : 0 ≤ q ∧ q < 256 := by
    have e1 : IntKind.u8.min = 0 := by decide
    have e2 : IntKind.u8.max = 255 := by decide
    simp [Lit.wf, e1, e2] at hw
    omega
  refine ⟨⟨q.toNat, by omega⟩, ?_⟩
  rw [e]
  show [Value.int .u8 q] = [Value.int .u8 ((q.toNat : Nat) : Int)]
  rw [Int.toNat_of_nonneg hw.1]
theorem cells_byte : Try.prog.cellsOf 5 = 1 := by kernel_rfl
theorem in_bytes {b0 : Nat} {r : Reach} {v : Value} {d : DataW H} {p : List MemPlace} {s : Sim} {h : Hp} (I : InOk W s h) (hv : Value.okWide Try.prog W r b0 22 v) (ht : DataW.Trod enc Try.prog W base spare held 22 v d p) :
    ∃ (s' : Sim) (h' : Hp) (bs : List Nat) (a : Option Addr) (fl : Nat), InOk W s' h' ∧ s.le s' ∧ Ext h h' ∧ VR s' (.slice a bs.length fl) v ∧ Sls h' (fun x : Nat => [Value.int .u8 x]) 1 a bs ∧ bs.length ≤ Go.maxLen ∧ ∀ b ∈ bs, b < 256 := by
  have hv0 : Cell.okWide Try.prog W r b0 22 v := by
    unfold Value.okWide at hv
    rw [Try.underlying22] at hv
    exact hv
  obtain ⟨n, t0⟩ := ht
  have hcl : v.cells.toList = [v] := by
    cases v with
    | agg cs =>
      exfalso
      have h' : Cell.ok Try.prog W r b0 22 (.agg cs) := by
        unfold Cell.okWide at hv0
        split at hv0 <;> first | exact hv0 | (rename_i e; cases e)
      unfold Cell.ok at h'
      split at h' <;> first | exact h'.elim | (rename_i e; cases e) | (rename_i e _; cases e) | (rename_i e _ _; cases e) | (rename_i e _ _ _; cases e)
    | _ => rfl
  rw [hcl] at t0
  obtain ⟨A, cap, l, rfl, hl, hm, hn, hc⟩ := open_plain (en := uF) (sz := 1) Try.underlying22 cells_byte (by decide) (fun _ => rfl) dec_byte t0
  have hpl : ∀ v ∈ l.flatMap uF, plainV v = true ∧ v.oneCell' = true := by
    intro v hv
    obtain ⟨q, _, hq⟩ := List.mem_flatMap.1 hv
    simp only [uF, List.mem_cons, List.not_mem_nil, or_false] at hq
    subst hq; exact ⟨rfl, rfl⟩
  have hblk : ∀ a, A = some a → l = [] → ∃ b0, b0 < W.heap.size := by
    intro a ha hl0
    subst ha
    refine ⟨a.block, block_cell (P := Try.prog) (r := r) (b0 := b0) (t := 22) (len := l.length) (cap := cap) hv0⟩
  obtain ⟨s', h', A', fl, I', l1, e1, v1, s1⟩ := I.slice (enc := uF) (fun _ => rfl) (by decide) A cap hl (VRm.of_plain s hpl) hc hn hblk
  have hfm : ∀ l : List (Fin 256), (l.map fun x => x.val).flatMap (fun x : Nat => [Value.int .u8 x]) = l.flatMap uF := by
    intro l
    induction l with
    | nil => rfl
    | cons x l ih => simp only [List.map_cons, List.flatMap_cons, ih]; rfl
  refine ⟨s', h', l.map fun x => x.val, A', fl, I', l1, e1, by simpa using v1, ?_, by simpa using Nat.le_trans hl hm, fun b hb => ?_⟩
  · cases A' with
    | none =>
      have : l = [] := s1
      subst this; rfl
    | some a =>
      obtain ⟨q1, c, sz, q2, q3⟩ := s1
      exact ⟨q1, c, sz, q2, by rw [hfm, List.length_map]; exact q3⟩
  · obtain ⟨x, _, rfl⟩ := List.mem_map.1 hb
    exact x.isLt
end
end Go.Proofs.Ytambkogocbgbmaa.Id
/- The row of FnPicSum: for every code that comes in, the law returns true, and the code reads as it did. No condition. -/
namespace Go.Proofs.Ytambkogocbgbmaa.fnPicSum
open Go.ChangeShapes Go.WideShapes Go.ChangeAt Go.RowKit Go.Id Go.Conc Go.Proofs.Ytambkogocbgbmaa.Id
set_option linter.unusedVariables false
theorem own : ownKnob Try.prog.godebug = none := by kernel_rfl
theorem laidOut : laidOutB Try.prog = true := by kernel_rfl
set_option maxRecDepth 100000 in
theorem lifted (os : Os) (started : os.Started) (H : Type) (enc : TypeId × Value → H) :
    ReturnsInLeavingWide {} Try.checked os 4 .any (Rows.fnPicSumSpec.pre6 enc Try.prog Try.f4 Rows.fnPicSumRow.domain false) (Rows.fnPicSumSpec.post enc Try.prog Try.f4 false true false false) := by
  refine returnsInLeavingWide_of_change_sized (C := Try.checked) own started Try.func4
    (ChangeSpec.witness6 (enc := enc) (C := Try.checked) false ⟨#[], #[.slice none 0 0], []⟩ 8 (by kernel_rfl) (by kernel_rfl) (by kernel_rfl) (by kernel_rfl)) ?_
  intro W base args ds gs before hval0 hW hcnd hsz0 _
  have hval : ∀ (j : Nat) t v, Try.f4.params[j]? = some t → args[j]? = some v → Value.okWide Try.prog W .any base t v := hval0
  have hW' := hW
  obtain ⟨p, q, hA0, hV, rfl, hfz, hnd⟩ := hW
  have hA : DataW.TrodAll enc Try.prog W 0 (fun _ => true) true Try.f4.params.toList args.toList ds p := hA0
  rw [Try.params4] at hA hval
  obtain ⟨v0, vs0, d0, ds0, p0, q0, hargs, rfl, rfl, h0, r0⟩ := trodAll_cons hA
  obtain ⟨rfl, rfl, rfl⟩ := trodAll_nil r0
  obtain rfl : args = #[v0] := by cases args; simp_all
  obtain ⟨rfl, rfl⟩ := trodVars_none hV
  have k0 := h0
  have lt0 : ∀ x ∈ p0, x.block < W.heap.size := by obtain ⟨m, hm⟩ := k0; exact DataW.trod_lt m _ _ _ hm
  obtain ⟨s, h, bs, a, fl, I, _, _, V, S, hn, hb⟩ := in_bytes (InOk.nil W) (hval 0 22 v0 rfl rfl) h0
  clear hA0 hval0 hsz0
  obtain ⟨M, last, o, w', t', g1, g2, g3, g4⟩ := main_run (lo := h.n) (Post := fun v _ => v = .bool true) (argsr := #[v0]) (args := [.slice a bs.length fl]) Try.func4 rfl (Nat.le_of_ble_eq_true rfl) (by kernel_rfl) I (VRs.cons V (VRs.nil s)) (picSum_R bs a fl h S hb (Nat.le_trans hn (by unfold Go.maxLen; exact Nat.le_refl _)) (Nat.le_refl _))
  refine ⟨M, last, o, w', t', g1, g2, g3, g4.mono fun vr ht => ?_⟩
  obtain ⟨v, h', s', O', rfl, _, _, hv, K⟩ := ht
  obtain rfl : vr = .bool true := VR.bool_inv hv
  have bel := below_of K
  exact ⟨_, _, _, [], _, [], hW', trodAll_mk1 (shut_bool Try.underlying4 _), trodAll_cons_mk (Trod_tape (Below.trod laidOut (by kernel_rfl) (of_decide_eq_true (by kernel_rfl)) k0 bel lt0)) trodAll_mk0, rfl, kept_frame K _, fun h => by cases h⟩
theorem over : Rows.fnPicSumRow.holds Try.pinned (OpenSpec.ofChange Rows.fnPicSumSpec) :=
  OpenClaim.holds_of_wide_leaving 4 Try.f4 rfl rfl rfl rfl rfl rfl rfl ⟨rfl, rfl, rfl, rfl, rfl⟩ rfl rfl rfl rfl rfl (by kernel_rfl) Try.func4 (by kernel_rfl)
    (of_decide_eq_true (by kernel_rfl)) (by unfold Func.isWrapper; first | (rw [if_pos (by decide +kernel)]; kernel_rfl) | (rw [if_neg (by decide +kernel)]; exact ⟨rfl, rfl⟩))
    (fun os started H enc _ => lifted os started H enc)
theorem proved : Rows.FnPicSumSaid := over
#print axioms proved
end Go.Proofs.Ytambkogocbgbmaa.fnPicSum
namespace Go.Proofs.Ytambkogocbgbmaa
/-- The row, under a short name, for the claim. -/
theorem fnPicSum_holds : Rows.FnPicSumSaid := fnPicSum.proved
end Go.Proofs.Ytambkogocbgbmaa
