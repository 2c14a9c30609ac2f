/- For every input the law returns true, and what came in reads as it did (the row of Ruc). No condition. Texts of this claim, joined: IdPf, Ga, Gb, Gc, Gd, Ge, Ea, Ha, Te, Tg, IdR, IdS, IdLo, Td, Hc, Ua, Ub, Uc, IdIn, In, Ruc. -/
import Derived.Test.YtgcbfhdlfajemaaM3
import Derived.Conc.Beside
import Derived.Conc.FxBegin
import Derived.Calls
import Derived.Deep.Slices
import Derived.Below
import Derived.ChangeFn
import Derived.ChangeOld
import Derived.WalkKit
import Derived.ProofKit
import Derived.OpenShut
import Derived.Test.YtgcbfhdlfajemaaRows
import Derived.Conc.LeavingOf
import Derived.ShutString
import Derived.SizedLaws
import Derived.Lib.SmallJoins
/- A region whose order is drawn, where what turns the memory may come in several orders: all of them are walked. -/
namespace Go.Id
open Go.Conc
set_option linter.unusedVariables false
/-- Which operation next: one that turns nothing; one of several that turn the memory. -/
inductive OTr where
  | fin
  | stop
  | fl (i : Nat) (r : OTr)
  | ch (c : Nat) (r alt : OTr)
def OTr.heads : OTr → List Nat
  | .ch c _ a => c :: a.heads
  | _ => []
def OTr.path : OTr → List Nat
  | .fl i r => i :: r.path
  | .ch c r _ => c :: r.path
  | _ => []
def okAt (ops : Array Oper) (q : Bool) (i done : Nat) : Bool := match ops[i]? with
  | none => false
  | some o => match Nat.testBit done i with
    | true => false
    | false => match Nat.beq (pm o &&& done) (pm o) with
      | false => false
      | true => isFl o.op == q
def rdyAll (ops : List (Nat × Oper)) (hs : List Nat) (done : Nat) : Bool := allB (fun p => match Nat.testBit done p.1 with
  | true => true
  | false => match Nat.beq (pm p.2 &&& done) (pm p.2) with
    | false => true
    | true => memN p.1 hs) ops
def ordT (ops : Array Oper) : Bool → OTr → Nat → Bool
  | b, .fin, done => match b with | true => false | false => Nat.beq done (2 ^ ops.size - 1)
  | b, .stop, _ => b
  | b, .fl i r, done => match b with | true => false | false => match okAt ops true i done with
    | false => false
    | true => ordT ops false r (done ||| 2 ^ i)
  | b, .ch c r a, done => match okAt ops false c done with
    | false => false
    | true => match ordT ops false r (done ||| 2 ^ c) with
      | false => false
      | true => match ordT ops true a done with
        | false => false
        | true => match b with
          | true => true
          | false => rdyAll (withIx ops.toList 0) (c :: a.heads) done
def drawOkT (ops : Array Oper) (p : OTr) (bm : List Nat) : Bool := match eqL (bmOf ops.toList) bm with
  | false => false
  | true => match ordT ops false p 0 with
  | false => false
  | true => match rdOkAll (withIx ops.toList 0) with
    | false => false
    | true => match gdOk (withIx ops.toList 0) with
      | false => false
      | true => dstsOk (withIx ops.toList 0)
section
variable {P : Program} (X : Ctx P) (T : Nat → Option TyI) (Mt : Nat → String → Option FuncId) (lo : Nat) (fn : Func) (esc : Hint)
def vcT (ops : Array Oper) (bm : List Nat) (K : Tm → Lv → Hp → Prop) : OTr → List Nat → Tm → Lv → Hp → Prop
  | .fin, _, t, ls, h => K t ls h
  | .stop, _, _, _, _ => True
  | .fl i r, D, t, ls, h => match ops[i]? with
    | none => False
    | some o => vcOp X T Mt lo fn esc ops t ls h o fun t ls h => vcT ops bm K r (i :: D) t ls h
  | .ch c r a, D, t, ls, h => match ops[c]? with
    | none => False
    | some o => (vcOp X T Mt lo fn esc ops t ls h o fun t ls h => reck T lo esc ops (bm.getD c 0) t ls h D (vcT ops bm K r (c :: D) t ls h)) ∧ vcT ops bm K a D t ls h
end
theorem okAt_spec {ops : Array Oper} {q : Bool} {i done : Nat} (h : okAt ops q i done = true) : ∃ o, ops[i]? = some o ∧ Nat.testBit done i = false ∧ (∀ j, Nat.testBit (pm o) j = true → Nat.testBit done j = true) ∧ isFl o.op = q := by
  unfold okAt at h
  split at h
  · cases h
  · rename_i o ho
    split at h
    · cases h
    · rename_i hd
      split at h
      · cases h
      · rename_i h1
        refine ⟨o, ho, hd, fun j hj => ?_, by simpa using h⟩
        have := Nat.eq_of_beq_eq_true h1
        rw [← this, Nat.testBit_and, Bool.and_eq_true] at hj
        exact hj.2
theorem memN_iff {i : Nat} : ∀ {l : List Nat}, memN i l = true → i ∈ l
  | [], h => by cases h
  | j :: r, h => by
    unfold memN at h
    split at h
    · rename_i e; simp [e]
    · simp [memN_iff h]
section
variable {ops : Array Oper}
theorem ordT_fl {i : Nat} {r : OTr} {done : Nat} (h : ordT ops false (.fl i r) done = true) : okAt ops true i done = true ∧ ordT ops false r (done ||| 2 ^ i) = true := by
  unfold ordT at h
  simp only at h
  split at h
  · cases h
  · rename_i h1; exact ⟨h1, h⟩
theorem ordT_ch {b : Bool} {c : Nat} {r a : OTr} {done : Nat} (h : ordT ops b (.ch c r a) done = true) : okAt ops false c done = true ∧ ordT ops false r (done ||| 2 ^ c) = true ∧ ordT ops true a done = true ∧ (b = false → rdyAll (withIx ops.toList 0) (c :: a.heads) done = true) := by
  unfold ordT at h
  split at h
  · cases h
  · rename_i h1
    split at h
    · cases h
    · rename_i h2
      split at h
      · cases h
      · rename_i h3
        refine ⟨h1, h2, h3, fun hb => ?_⟩
        subst hb
        exact h
theorem ordT_all : ∀ {p : OTr} {done : Nat}, ordT ops false p done = true → ∀ i, i < ops.size → Nat.testBit done i = true ∨ i ∈ p.path
  | .fin, done, h, i, hi => by
    unfold ordT at h
    have := Nat.eq_of_beq_eq_true h
    subst this
    exact .inl (by rw [Nat.testBit_two_pow_sub_one]; simpa using hi)
  | .stop, done, h, i, hi => by cases h
  | .fl j r, done, h, i, hi => by
    obtain ⟨_, h3⟩ := ordT_fl h
    rcases ordT_all h3 i hi with h4 | h4
    · rw [Nat.testBit_or, Bool.or_eq_true, Nat.testBit_two_pow] at h4
      rcases h4 with h4 | h4
      · exact .inl h4
      · exact .inr (by simp at h4; simp [OTr.path, h4])
    · exact .inr (by simp [OTr.path, h4])
  | .ch j r a, done, h, i, hi => by
    obtain ⟨_, h3, _⟩ := ordT_ch h
    rcases ordT_all h3 i hi with h4 | h4
    · rw [Nat.testBit_or, Bool.or_eq_true, Nat.testBit_two_pow] at h4
      rcases h4 with h4 | h4
      · exact .inl h4
      · exact .inr (by simp at h4; simp [OTr.path, h4])
    · exact .inr (by simp [OTr.path, h4])
theorem ordT_ready {S : Nat → Prop} : ∀ {p : OTr} {done : Nat}, ordT ops false p done = true → (∀ j, Nat.testBit done j = true → S j) → (∃ i, i ∈ p.path ∧ ¬ S i) → ∃ i o, ¬ S i ∧ ops[i]? = some o ∧ ∀ j, Nat.testBit (pm o) j = true → S j := by
  have key : ∀ {i done : Nat} {q : Bool} {r : OTr} {l : List Nat}, okAt ops q i done = true → (∀ j, Nat.testBit done j = true → S j) → (∃ x, x ∈ i :: l ∧ ¬ S x) → ((∀ j, Nat.testBit (done ||| 2 ^ i) j = true → S j) → (∃ x, x ∈ l ∧ ¬ S x) → ∃ i o, ¬ S i ∧ ops[i]? = some o ∧ ∀ j, Nat.testBit (pm o) j = true → S j) → ∃ i o, ¬ S i ∧ ops[i]? = some o ∧ ∀ j, Nat.testBit (pm o) j = true → S j := by
    intro i done q r l h hd hex ih
    obtain ⟨o, ho, h1, h2, _⟩ := okAt_spec h
    by_cases hs : S i
    · refine ih (fun j hj => ?_) ?_
      · rw [Nat.testBit_or, Bool.or_eq_true, Nat.testBit_two_pow] at hj
        rcases hj with hj | hj
        · exact hd j hj
        · have : i = j := by simpa using hj
          exact this ▸ hs
      · obtain ⟨j, hj, hnj⟩ := hex
        rcases List.mem_cons.1 hj with rfl | hj
        · exact absurd hs hnj
        · exact ⟨j, hj, hnj⟩
    · exact ⟨i, o, hs, ho, fun j hj => hd j (h2 j hj)⟩
  intro p
  induction p with
  | fin => intro done h hd ⟨i, hi, _⟩; cases hi
  | stop => intro done h hd ⟨i, hi, _⟩; cases hi
  | fl i r ih =>
    intro done h hd hex
    obtain ⟨h1, h2⟩ := ordT_fl h
    exact key (r := r) h1 hd hex fun a b => ih h2 a b
  | ch c r a ih _ =>
    intro done h hd hex
    obtain ⟨h1, h2, _⟩ := ordT_ch h
    exact key (r := r) h1 hd hex fun a b => ih h2 a b
theorem drawOk_of (h2 : rdOkAll (withIx ops.toList 0) = true) (h3 : gdOk (withIx ops.toList 0) = true) (h : dstsOk (withIx ops.toList 0) = true) : DrawOk ops := by
  refine ⟨fun i o d k ok hi hk hd hdst hne => ?_, fun i o d hi hl hd hdst => ?_, fun i o j want hi hg => ?_, fun i o k ok d hi hk h4 h5 => ?_⟩
  · have a1 := allB_iff h2 (i, o) (mem_ix.2 hi)
    have a2 := allB_iff a1 d (mem_tmpsOf (by simpa using hd))
    have a3 := allB_iff a2 (k, ok) (mem_ix.2 hk)
    simp only [rdOk1, eqO_iff.2 hdst] at a3
    split at a3
    · rename_i hb; exact absurd (Nat.eq_of_beq_eq_true hb) hne
    · split at a3
      · exact .inl ‹_›
      · split at a3
        · cases a3
        · exact .inr ⟨‹_›, a3⟩
  · have a1 := allB_iff h2 (i, o) (mem_ix.2 hi)
    have a2 := allB_iff a1 d (mem_tmpsOf (by simpa using hd))
    have a3 := allB_iff a2 (i, o) (mem_ix.2 hi)
    simp only [rdOk1, eqO_iff.2 hdst, Nat.beq_refl, hl] at a3
    cases a3
  · have a1 := allB_iff h3 (i, o) (mem_ix.2 hi)
    simp only [hg] at a1
    exact a1
  · have a1 := withIx_get (n := 0) (l := ops.toList) (i := i) (o := o) (by simpa using hi)
    have a2 := withIx_get (n := 0) (l := ops.toList) (i := k) (o := ok) (by simpa using hk)
    exact dsts_of h i k _ _ d a1 a2 h4 h5
theorem drawOkT_spec {p : OTr} {bm : List Nat} (h : drawOkT ops p bm = true) : DrawOk ops ∧ bm = bmOf ops.toList ∧ ordT ops false p 0 = true := by
  unfold drawOkT at h
  split at h
  · cases h
  · rename_i h0
    split at h
    · cases h
    · rename_i h1
      split at h
      · cases h
      · rename_i h2
        split at h
        · cases h
        · rename_i h3
          exact ⟨drawOk_of h2 h3 h, (eqL_eq h0).symm, h1⟩
end
section
variable {P : Program} {X : Ctx P} {T : Nat → Option TyI} {Mt : Nat → String → Option FuncId} {lo : Nat} {f : FuncId} {fn : Func} {esc : Hint} {Post : En} {k : List Item} {ops : Array Oper}
theorem DS.advanceT (K : DrawOk ops) {bm : List Nat} {KK : Tm → Lv → Hp → Prop} {t0 tL : Tm} {S : Nat → Prop} {ls : Lv} {h : Hp} : ∀ (p : OTr) (D : List Nat) (done : Nat) (tE : Tm), ordT ops false p done = true → (∀ j, Nat.testBit done j = true ↔ j ∈ D) → DS T lo fn esc ops t0 S D tL tE ls h → vcT X T Mt lo fn esc ops bm KK p D tE ls h →
    ∃ (p' : OTr) (D' : List Nat) (done' : Nat) (tE' : Tm), ordT ops false p' done' = true ∧ (∀ j, Nat.testBit done' j = true ↔ j ∈ D') ∧ DS T lo fn esc ops t0 S D' tL tE' ls h ∧ vcT X T Mt lo fn esc ops bm KK p' D' tE' ls h ∧ (p' = .fin ∨ ∃ c r a, p' = .ch c r a)
  | .fin, D, done, tE, h1, h2, h3, h4 => ⟨.fin, D, done, tE, h1, h2, h3, h4, .inl rfl⟩
  | .stop, D, done, tE, h1, h2, h3, h4 => by cases h1
  | .ch c r a, D, done, tE, h1, h2, h3, h4 => ⟨.ch c r a, D, done, tE, h1, h2, h3, h4, .inr ⟨c, r, a, rfl⟩⟩
  | .fl i r, D, done, tE, h1, h2, h3, h4 => by
    obtain ⟨ok, e4⟩ := ordT_fl h1
    obtain ⟨o, ho, e1, e2, hf⟩ := okAt_spec ok
    have hi : i ∉ D := fun hx => by rw [(h2 i).2 hx] at e1; cases e1
    unfold vcT at h4
    rw [ho] at h4
    simp only at h4
    obtain ⟨hd, tk, hk, hcase⟩ := vcOp_cases h4
    rcases hcase with ⟨hw, hv⟩ | ⟨hw, hv⟩
    · obtain ⟨sl, k1, k2, k3⟩ := vcS_fl hf hv
      exact DS.advanceT K r (i :: D) _ _ e4 (bits_step h2) (h3.fl K ho hi (fun j hj => (h2 j).1 (e2 j hj)) hf hd hk (fun _ => rfl) (.inl ⟨hw, k2, k3⟩)) k1
    · exact DS.advanceT K r (i :: D) _ _ e4 (bits_step h2) (h3.fl K ho hi (fun j hj => (h2 j).1 (e2 j hj)) hf hd hk (fun _ => rfl) (.inr ⟨hw, rfl⟩)) hv
/-- One of those that may come next. -/
theorem vcT_head {bm : List Nat} {KK : Tm → Lv → Hp → Prop} {D : List Nat} {tE : Tm} {ls : Lv} {h : Hp} {i : Nat} : ∀ {p : OTr} {b : Bool} {done : Nat}, ordT ops b p done = true → vcT X T Mt lo fn esc ops bm KK p D tE ls h → i ∈ p.heads →
    ∃ r o, okAt ops false i done = true ∧ ops[i]? = some o ∧ ordT ops false r (done ||| 2 ^ i) = true ∧ vcOp X T Mt lo fn esc ops tE ls h o fun t ls h => reck T lo esc ops (bm.getD i 0) t ls h D (vcT X T Mt lo fn esc ops bm KK r (i :: D) t ls h)
  | .ch c r a, b, done, h1, h2, hi => by
    obtain ⟨e1, e2, e3, _⟩ := ordT_ch h1
    obtain ⟨o, ho, _⟩ := okAt_spec e1
    unfold vcT at h2
    rw [ho] at h2
    simp only at h2
    rcases List.mem_cons.1 hi with rfl | hi
    · exact ⟨r, o, e1, ho, e2, h2.1⟩
    · exact vcT_head e3 h2.2 hi
  | .fin, _, _, _, _, hi => by cases hi
  | .stop, _, _, _, _, hi => by cases hi
  | .fl _ _, _, _, _, _, hi => by cases hi
theorem simT (hT : TbOk P T) (hM : MtOk P Mt) (K : DrawOk ops) {bm : List Nat} {pl : OTr} (hbm : bm = bmOf ops.toList) (hord : ordT ops false pl 0 = true) {KK : Tm → Lv → Hp → Prop} (hK : ∀ t ls h, KK t ls h → R X lo f fn Post k t ls h) {t0 : Tm} :
    ∀ (fuel tp : Nat) (listed : Array Bool) (E D : List Nat) (r : OTr) (done : Nat) (tL tE : Tm) (ls : Lv) (h : Hp), listed.size = ops.size → (∀ i, listed.getD i false = true ↔ i ∈ E) → E.Nodup → (∀ i ∈ E, i < ops.size) → E.length + fuel = ops.size → DS T lo fn esc ops t0 (· ∈ E) D tL tE ls h →
      ordT ops false r done = true → (∀ j, Nat.testBit done j = true ↔ j ∈ D) → vcT X T Mt lo fn esc ops bm KK r D tE ls h → (r = .fin ∨ ∃ c r' a, r = .ch c r' a) →
      R X lo f fn Post (.inRegion ops (Region.linearise.go .any ops fuel tp listed []) :: k) tL ls h := by
  -- all is done
  have fin : ∀ (E D : List Nat) (r : OTr) (done : Nat) (tL tE : Tm) (ls : Lv) (h : Hp), (∀ i, i < ops.size → i ∈ E) → DS T lo fn esc ops t0 (· ∈ E) D tL tE ls h → ordT ops false r done = true → (∀ j, Nat.testBit done j = true ↔ j ∈ D) → vcT X T Mt lo fn esc ops bm KK r D tE ls h → (r = .fin ∨ ∃ c r' a, r = .ch c r' a) →
      R X lo f fn Post (.inRegion ops [] :: k) tL ls h := by
    intro E D r done tL tE ls h hall H h1 h2 h4 hst
    have hr : r = .fin := by
      rcases hst with rfl | ⟨c, r', a, rfl⟩
      · rfl
      · obtain ⟨o, ho, e1, _⟩ := okAt_spec (ordT_ch h1).1
        have := H.sub c (hall c (Array.getElem?_eq_some_iff.1 ho).1)
        rw [(h2 c).2 this] at e1; cases e1
    subst hr
    refine R_rend (R_n (t' := tE) (fun d x hx => ?_) (hK _ _ _ h4))
    by_cases hw : ∃ (i : Nat) (o : Oper), ops[i]? = some o ∧ o.dst = some d
    · obtain ⟨i, o, ho, hd⟩ := hw
      rw [H.a i o d (hall i (Array.getElem?_eq_some_iff.1 ho).1) ho hd]; exact hx
    · rw [H.b d fun i o _ ho hd => hw ⟨i, o, ho, hd⟩, ← H.c d fun i o _ ho hd => hw ⟨i, o, ho, hd⟩]; exact hx
  intro fuel
  induction fuel with
  | zero =>
    intro tp listed E D r done tL tE ls h hsz hl hn hlt hlen H h1 h2 h4 hstop
    simp only [Region.linearise.go, List.reverse_nil]
    exact fin E D r done tL tE ls h (fun i hi => ordn_full hn hlt (by omega) hi) H h1 h2 h4 hstop
  | succ fuel ih =>
    intro tp listed E D r done tL tE ls h hsz hl hn hlt hlen H h1 h2 h4 hstop
    have hgf : ∀ i, i < ops.size → (listed.getD i true = false ↔ i ∉ E) := by
      intro i hi
      rw [← hl i]
      have hi' : i < listed.size := by omega
      simp [Array.getD, hi']
    have rdy : ∀ (i : Nat) (o : Oper), ops[i]? = some o → (i ∈ Region.ready .any ops listed ↔ i ∉ E ∧ ∀ j, Nat.testBit (pm o) j = true → j ∈ E) := by
      intro i o ho
      rw [ready_iff ho, hgf i (Array.getElem?_eq_some_iff.1 ho).1]
      exact ⟨fun ⟨a, b⟩ => ⟨a, fun j hj => (hl j).1 (b j hj)⟩, fun ⟨a, b⟩ => ⟨a, fun j hj => (hl j).2 (b j hj)⟩⟩
    simp only [Region.linearise.go]
    change R X lo f fn Post (.inRegion ops (match (Region.ready .any ops listed)[tp % (Region.ready .any ops listed).length]? with
      | some i => Region.linearise.go .any ops fuel (tp / (Region.ready .any ops listed).length) (listed.setIfInBounds i true) [i]
      | none => [].reverse) :: k) tL ls h
    cases hi : (Region.ready .any ops listed)[tp % (Region.ready .any ops listed).length]? with
    | none =>
      have hnil : Region.ready .any ops listed = [] := by
        cases hr : Region.ready .any ops listed with
        | nil => rfl
        | cons x xs =>
          rw [hr] at hi
          have hlt : tp % (x :: xs).length < (x :: xs).length := Nat.mod_lt _ (by simp)
          rw [List.getElem?_eq_getElem hlt] at hi; cases hi
      simp only [List.reverse_nil]
      refine fin E D r done tL tE ls h (fun i hi => ?_) H h1 h2 h4 hstop
      refine Classical.byContradiction fun hni => ?_
      have hex : ∃ j, j ∈ pl.path ∧ j ∉ E := by
        rcases ordT_all hord i hi with hx | hx
        · simp at hx
        · exact ⟨i, hx, hni⟩
      obtain ⟨j, o, g1, g2, g3⟩ := ordT_ready (S := (· ∈ E)) hord (fun j hj => by simp at hj) hex
      have := (rdy j o g2).2 ⟨g1, g3⟩
      rw [hnil] at this
      cases this
    | some i =>
      simp only []
      rw [linearise_go_acc, List.reverse_singleton, List.singleton_append]
      have hir := List.mem_of_getElem? hi
      obtain ⟨_, o, ho, _⟩ := mem_ready.1 hir
      obtain ⟨hiE, hpE⟩ := (rdy i o ho).1 hir
      have hisz : i < ops.size := (Array.getElem?_eq_some_iff.1 ho).1
      have hl' : ∀ j, (listed.setIfInBounds i true).getD j false = true ↔ j ∈ i :: E := by
        intro j
        by_cases hji : i = j
        · subst hji
          have : i < listed.size := by omega
          simp [Array.getD, this]
        · rw [List.mem_cons, ← hl j]
          simp only [Array.getD_eq_getD_getElem?, Array.getElem?_setIfInBounds_ne hji]
          constructor
          · exact .inr
          · rintro (rfl | h); exact absurd rfl hji; exact h
      have hSE : ∀ {D : List Nat} {tL tE : Tm} {ls : Lv} {h : Hp}, DS T lo fn esc ops t0 (fun j => j ∈ E ∨ j = i) D tL tE ls h → DS T lo fn esc ops t0 (· ∈ i :: E) D tL tE ls h := by
        intro D tL tE ls h H
        have e : (fun j => j ∈ E ∨ j = i) = (· ∈ i :: E) := by
          funext j
          simp only [List.mem_cons, eq_iff_iff]
          exact ⟨fun h => h.elim .inr .inl, fun h => h.elim .inr .inl⟩
        rw [← e]; exact H
      have next : ∀ (D : List Nat) (r : OTr) (done : Nat) (tL tE : Tm) (ls : Lv) (h : Hp), DS T lo fn esc ops t0 (fun j => j ∈ E ∨ j = i) D tL tE ls h → ordT ops false r done = true → (∀ j, Nat.testBit done j = true ↔ j ∈ D) → vcT X T Mt lo fn esc ops bm KK r D tE ls h →
          R X lo f fn Post (.inRegion ops (Region.linearise.go .any ops fuel (tp / (Region.ready .any ops listed).length) (listed.setIfInBounds i true) []) :: k) tL ls h := by
        intro D r done tL tE ls h H h1 h2 h4
        obtain ⟨r', D', done', tE', g1, g2, g3, g4, g5⟩ := DS.advanceT K r D done tE h1 h2 (hSE H) h4
        exact ih _ _ (i :: E) D' r' done' tL tE' ls h (by simp [hsz]) hl' (List.nodup_cons.2 ⟨hiE, hn⟩) (fun j hj => by rcases List.mem_cons.1 hj with rfl | hj; exact hisz; exact hlt j hj) (by simp; omega) g3 g1 g2 g4 g5
      by_cases hiD : i ∈ D
      · -- it has been walked
        obtain ⟨q1, q2, sl, q3, q4⟩ := H.pend i o hiD hiE ho
        rcases q4 with ⟨e1, ti, e2, e3, e4⟩ | ⟨e1, rfl⟩
        · have hag : ∀ d ∈ tmpsOf o.op.operands.toList, Operand.tmp d ∈ o.op.operands → nlook ti d = nlook tL d := fun d _ hd => H.agree K ho hiE hpE hd (e2 d hd).1 (e2 d hd).2
          have hag' : ∀ d ∈ tmpsOf o.op.operands.toList, nlook ti d = nlook tL d := fun d hd => hag d hd (by
            have : ∀ (l : List Operand) (d : Nat), d ∈ tmpsOf l → Operand.tmp d ∈ l := by
              intro l
              induction l with
              | nil => intro d h; simp [tmpsOf] at h
              | cons x r ih =>
                intro d h
                cases x with
                | tmp j =>
                  simp only [tmpsOf, List.mem_cons] at h
                  rcases h with rfl | h
                  · simp
                  · simp [ih d h]
                | const v => simp only [tmpsOf] at h; simp [ih d h]
                | func v => simp only [tmpsOf] at h; simp [ih d h]
                | global v => simp only [tmpsOf] at h; simp [ih d h]
            simpa using this _ d hd)
          refine R_n (t' := ovl ti tL (tmpsOf o.op.operands.toList)) (fun d x hx => by rw [nlook_ovl hag'] at hx; exact hx) ?_
          have hw := H.wnt K ho hpE e1
          have hwr : ∀ s lb (a : Act), TmOk s lb ls.length (ovl ti tL (tmpsOf o.op.operands.toList)) a.tmps → Region.wanted o (yielded ops a.tmps) = true := fun s lb a tm => (hw.of_n fun j want oj d _ _ _ => nlook_ovl hag' d).real tm
          refine vcS_ok (esc := esc) hT hM ho hwr q2 (K := Is sl ls h) (fun sl' ls' h' hIs => ?_) (vcS_congr (t := ti) (fun x hx => evS_ovl hag' fun d hd => mem_tmpsOf (by subst hd; simpa using hx)) (vcS_of_fl q1 e3))
          obtain ⟨rfl, rfl, rfl⟩ := hIs
          exact next D r done _ tE ls' h' (H.doIt K ho hiD hpE q3 fun d => by rw [nlook_put, nlook_put, nlook_ovl hag']) h1 h2 h4
        · exact R_unwanted ho (fun s lb a tm => (H.wnt K ho hpE e1).real tm) q2 (next D r done _ tE ls h (H.doIt K ho hiD hpE q3 fun d => rfl) h1 h2 h4)
      · -- it is the next that turns the memory
        have hih : i ∈ r.heads := by
          rcases hstop with rfl | ⟨c, r', a, rfl⟩
          · rcases ordT_all h1 i hisz with hx | hx
            · exact absurd ((h2 i).1 hx) hiD
            · cases hx
          · have hall := allB_iff ((ordT_ch h1).2.2.2 rfl) (i, o) (mem_ix.2 ho)
            simp only at hall
            have hdi : Nat.testBit done i = false := by
              cases hx : Nat.testBit done i with
              | false => rfl
              | true => exact absurd ((h2 i).1 hx) hiD
            rw [hdi] at hall
            simp only at hall
            have hpd : Nat.beq (pm o &&& done) (pm o) = true := by
              have e : pm o &&& done = pm o := Nat.eq_of_testBit_eq fun j => by
                rw [Nat.testBit_and]
                cases hj : Nat.testBit (pm o) j with
                | false => rfl
                | true => rw [(h2 j).2 (H.sub j (hpE j hj))]; rfl
              rw [e]; exact Nat.beq_refl _
            rw [hpd] at hall
            exact memN_iff hall
        obtain ⟨r'', o', hok, ho', e4, h4'⟩ := vcT_head h1 h4 hih
        rw [ho] at ho'; cases ho'
        obtain ⟨o', ho', _, _, hfc⟩ := okAt_spec hok
        rw [ho] at ho'; cases ho'
        replace h4 := h4'
        obtain ⟨hd, tk, hk, hcase⟩ := vcOp_cases h4
        have hbmS : ∀ j, Nat.testBit (bm.getD i 0) j = true → j ∈ E := fun j hj => by rw [hbm] at hj; exact bm_in H.cl ho hpE hj
        rcases hcase with ⟨hw, hv⟩ | ⟨hw, hv⟩
        · have hag' : ∀ d ∈ tmpsOf o.op.operands.toList, nlook tk d = nlook tL d := fun d hd => by
            have hdm : Operand.tmp d ∈ o.op.operands := by
              have : ∀ (l : List Operand) (d : Nat), d ∈ tmpsOf l → Operand.tmp d ∈ l := by
                intro l
                induction l with
                | nil => intro d h; simp [tmpsOf] at h
                | cons x r ih =>
                  intro d h
                  cases x with
                  | tmp j =>
                    simp only [tmpsOf, List.mem_cons] at h
                    rcases h with rfl | h
                    · simp
                    · simp [ih d h]
                  | const v => simp only [tmpsOf] at h; simp [ih d h]
                  | func v => simp only [tmpsOf] at h; simp [ih d h]
                  | global v => simp only [tmpsOf] at h; simp [ih d h]
              simpa using this _ d hd
            rw [hk]
            refine H.agree K ho hiE hpE hdm (fun _ _ _ _ _ => rfl) fun hno => H.c d fun m om hm hom hmd => ?_
            have hmi : i ≠ m := by rintro rfl; exact hiD hm
            rcases K.rd i o d m om ho hom hdm hmd hmi with hx | ⟨_, hx⟩
            · rw [hno m om hom hmd] at hx; cases hx
            · exact hiD (H.dcl m om hm hom i hx)
          refine R_n (t' := ovl tk tL (tmpsOf o.op.operands.toList)) (fun d x hx => by rw [nlook_ovl hag'] at hx; exact hx) ?_
          have hw' := H.wnt K ho hpE hw
          have hwr : ∀ s lb (a : Act), TmOk s lb ls.length (ovl tk tL (tmpsOf o.op.operands.toList)) a.tmps → Region.wanted o (yielded ops a.tmps) = true := fun s lb a tm => (hw'.of_n fun j want oj d _ _ _ => nlook_ovl hag' d).real tm
          refine vcS_ok (esc := esc) hT hM ho hwr hd (fun sl' ls' h' hq => ?_) (vcS_congr (t := tk) (fun x hx => evS_ovl hag' fun d hd => mem_tmpsOf (by subst hd; simpa using hx)) hv)
          obtain ⟨hQ, H'⟩ := H.chain K ho hiD hpE hbmS hk (tL' := (ovl tk tL (tmpsOf o.op.operands.toList)).put o.dst sl') (fun d => by rw [nlook_put, nlook_put, nlook_ovl hag']) hq
          exact next (i :: D) r'' _ _ _ ls' h' H' e4 (bits_step h2) hQ
        · refine R_unwanted ho (fun s lb a tm => (H.wnt K ho hpE hw).real tm) hd ?_
          obtain ⟨hQ, H'⟩ := H.chain K ho hiD hpE hbmS hk (tL' := tL.put o.dst (.v undef)) (fun d => rfl) hv
          exact next (i :: D) r'' _ _ _ ls h H' e4 (bits_step h2) hQ
theorem R_drawnT (hT : TbOk P T) (hM : MtOk P Mt) {id : Nat} {p : OTr} {bm : List Nat} {t : Tm} {ls : Lv} {h : Hp} {KK : Tm → Lv → Hp → Prop} (hd : drawOkT ops p bm = true) (H : vcT X T Mt lo fn esc ops bm KK p [] t ls h) (hK : ∀ t ls h, KK t ls h → R X lo f fn Post k t ls h) : R X lo f fn Post (.code (.region id ops true) :: k) t ls h := by
  obtain ⟨K, hbm, hord⟩ := drawOkT_spec hd
  have key : ∀ tp, R X lo f fn Post (.inRegion ops (Region.schedule (P.follows .mixedOrders) ops tp) :: k) t ls h := by
    intro tp
    have hs : Region.schedule (P.follows .mixedOrders) ops tp = Region.linearise.go .any ops ops.size tp (Array.replicate ops.size false) [] := by
      simp only [Region.schedule, hT.mix, Bool.true_or, if_true]; rfl
    rw [hs]
    have H0 : DS T lo fn esc ops t (· ∈ ([] : List Nat)) [] t t ls h := ⟨fun i hi => hi, fun i o hi => (by cases hi), fun i o hi => (by cases hi), fun i o hi => (by cases hi), fun i o d hi => (by cases hi), fun _ _ => rfl, fun _ _ => rfl, fun i o hi => (by cases hi), fun i hi => (by cases hi)⟩
    obtain ⟨r', D', done', tE', g1, g2, g3, g4, g5⟩ := DS.advanceT K p [] 0 t hord (fun j => by simp) H0 H
    exact simT hT hM K hbm hord hK ops.size tp _ [] D' r' done' t tE' ls h (by simp) (fun i => by simp [Array.getD]) List.nodup_nil (fun i hi => by cases hi) (by simp) g3 g1 g2 g4 g5
  intro s O Pr lb w b a cs Stop h1 h2 h3 h4 M tm A
  refine X.step _ _ _ _ rfl fun w₁ r => ⟨_, _, #[], stepG_region_draw, ⟨Nat.le_refl _, fun _ _ _ => rfl, rfl, rfl, fun e he => by simp at he⟩, ?_⟩
  have hr : Rly X.N0 O w { w₁ with drawn := w₁.drawn + 1 } := r.trans ⟨Nat.le_refl _, fun _ _ _ => rfl, rfl, rfl⟩
  rw [grow_drawn]
  exact key _ s O Pr lb _ b a cs Stop h1 h2 h3 h4 (M.rely hr) tm (A.from s.le_refl (OG.refl O w) (kept_rly M hr))
/-- .. in a walk: 'refine drawT .. (by kernel_rfl) ?_'. -/
theorem drawT (hT : TbOk P T) (hM : MtOk P Mt) (esc : Hint) (n : Nat) (p : OTr) (bm : List Nat) {id : Nat} {t : Tm} {ls : Lv} {h : Hp} (hd : drawOkT ops p bm = true) (H : vcT X T Mt lo fn esc ops bm (fun t ls h => vc X T Mt lo f fn esc Post n k t ls h) p [] t ls h) : R X lo f fn Post (.code (.region id ops true) :: k) t ls h :=
  R_drawnT hT hM hd H fun t ls h => vc_ok hT hM n k t ls h
/-- .. told in one way behind it, whatever the order. -/
theorem drawI (hT : TbOk P T) (hM : MtOk P Mt) (esc : Hint) (n : Nat) (p : OTr) (bm : List Nat) (tm : Tm) (lv : Lv) (I : Hp → Prop) {id : Nat} {t : Tm} {ls : Lv} {h : Hp} (hin : tmIn tm lv.length = true) (hd : drawOkT ops p bm = true) (H : vcT X T Mt lo fn esc ops bm (fun t ls h => keeps tm t ∧ pre lv ls ∧ I h) p [] t ls h) (rest : ∀ h, I h → vc X T Mt lo f fn esc Post n k tm lv h) : R X lo f fn Post (.code (.region id ops true) :: k) t ls h :=
  R_drawnT hT hM hd H fun t ls h hK => R_trim hK.1 hin hK.2.1 (vc_ok hT hM n k tm lv h (rest h hK.2.2))
end
end Go.Id
/- Contracts over the ideal memory: what is drawn. -/
namespace Go.Proofs.Ytgcbfhdlfajemaa.Id
open Go.Id
open Go.Proofs
set_option linter.unusedVariables false
set_option maxRecDepth 100000
variable {X : Ctx Try.prog} {lo : Nat}
def uE (x : Nat) : List Value := [.int .u8 x]
/-- A reader of a code: its bytes, its place. -/
structure Rd (lo : Nat) (h : Hp) (rb : Nat) (p : Int) : Prop where
  ex : ∃ (a : Option Addr) (fl : Nat) (bs : List Nat), Bx h rb [.slice a bs.length fl, .int .i64 p] ∧ Sls h uE 1 a bs ∧ bs.length ≤ 2000 ∧ (∀ b ∈ bs, b < 256) ∧ ∀ ad, a = some ad → ad.block < rb
  lo : lo ≤ rb
  p : 0 ≤ p ∧ p ≤ 1000000000
theorem Rd.ext {h h' : Hp} {rb : Nat} {p : Int} (r : Rd lo h rb p) (e : Ext h h') : Rd lo h' rb p := by
  obtain ⟨a, fl, bs, h1, h2, h3⟩ := r.ex
  exact ⟨⟨a, fl, bs, h1.ext e, h2.ext e, h3⟩, r.lo, r.p⟩
theorem Rd.keep {h h' : Hp} {rb : Nat} {p : Int} (r : Rd lo h rb p) (hn : h.n ≤ h'.n) (hg : ∀ i, i ≤ rb → h'.g i = h.g i) : Rd lo h' rb p := by
  obtain ⟨a, fl, bs, h1, h2, h3, h4, h5⟩ := r.ex
  refine ⟨⟨a, fl, bs, ⟨Nat.lt_of_lt_of_le h1.lt hn, (hg _ (Nat.le_refl _)).trans h1.g⟩, ?_, h3, h4, h5⟩, r.lo, r.p⟩
  cases a with
  | none => exact h2
  | some ad => exact ⟨Nat.lt_of_lt_of_le h2.1 hn, by rw [hg _ (Nat.le_of_lt (h5 ad rfl))]; exact h2.2⟩
theorem sls_x1 {α : Type} {j : Nat} {h h' : Hp} (x : Ext1 j h h') {e : α → List Value} {sz : Nat} {a : Option Addr} {l : List α} (s : Sls h e sz a l) (hj : ∀ ad, a = some ad → ad.block ≠ j) : Sls h' e sz a l := by
  cases a with
  | none => exact s
  | some ad => exact ⟨Nat.lt_of_lt_of_le s.1 x.n, by rw [x.g _ s.1 (hj ad rfl)]; exact s.2⟩
theorem xor_ok {x y : Int} (hx : 0 ≤ x ∧ x < 2 ^ 40) (hy : 0 ≤ y ∧ y < 2 ^ 40) : 0 ≤ IntKind.i64.wrap ((BitVec.ofInt IntKind.i64.bits x ^^^ BitVec.ofInt IntKind.i64.bits y).toNat : Int) := by
  have e : ∀ z : Int, 0 ≤ z ∧ z < 2 ^ 40 → (BitVec.ofInt 64 z).toNat < 2 ^ 40 := fun z hz => by
    rw [BitVec.toNat_ofInt]; omega
  have : (BitVec.ofInt 64 x ^^^ BitVec.ofInt 64 y).toNat < 2 ^ 40 := by
    rw [BitVec.toNat_xor]; exact Nat.xor_lt_two_pow (e x hx) (e y hy)
  show 0 ≤ IntKind.i64.wrap ((BitVec.ofInt 64 x ^^^ BitVec.ofInt 64 y).toNat : Int)
  rw [wr (by omega) (by omega)]; omega
theorem pick_ok (rb : Nat) (p n : Int) (h : Hp) (r : Rd lo h rb p) (hn : n ≤ 1000000) (hp : p + 1 ≤ 1000000000) : Tri X lo 46 [.pointer (some ⟨rb, 0, none⟩), .int .i64 n] h fun v h' => ∃ q : Int, v = .int .i64 q ∧ 0 ≤ q ∧ (1 ≤ n → q < n) ∧ (n < 1 → q = 0) ∧ Rd lo h' rb (p + 1) ∧ Ext1 rb h h' := by
  refine enter tbOk mtOk ⟨[], [(7, [0, 1, 2, 3, 4, 5, 6, 7, 8, 9, 10, 11, 12, 13, 14, 15, 16, 17, 18, 19, 20, 21, 22, 23, 24, 25, 26, 27, 28, 29, 30, 31, 32, 33, 34, 35, 36, 37, 38, 39, 40, 41, 42, 43, 44, 45], [0, 1, 3, 7, 0, 0, 32, 96, 224, 480, 1008, 2047, 4095, 8191, 16383, 0, 32768, 98304, 229376, 0, 524288, 1572864, 0, 4194304, 12582912, 29360128, 62914560, 133693440, 268402688, 536838144, 1073709056, 2147450880, 4294967295, 0, 8589934592, 34359738367, 0, 0, 137438953472, 412316860416, 962072674304, 2061584302080, 4329327034368, 8727373545472, 17592186044415, 35184372088831])]⟩ 400 Try.func46 rfl rfl rfl fun hlo => ?_
  obtain ⟨a, fl, bs, h1, h2, h3, h4, h5⟩ := r.ex
  have hp0 := r.p
  have w1 : IntKind.i64.wrap (p + 1) = p + 1 := wr (by omega) (by omega)
  refine ⟨_, h1.ldF (i := 1) rfl, ?_⟩
  refine ⟨_, h1.stF (i := 1) r.lo (Nat.le_of_ble_eq_true rfl), ?_⟩
  have hb2 : Bx (h.set rb (.cells [.slice a bs.length fl, .int .i64 (IntKind.i64.wrap (p + 1))] 0 0)) rb [.slice a bs.length fl, .int .i64 (IntKind.i64.wrap (p + 1))] := h1.set
  have x1 : Ext1 rb h (h.set rb (.cells [.slice a bs.length fl, .int .i64 (IntKind.i64.wrap (p + 1))] 0 0)) := ((Ext.refl h).one rb).set _ (.inl rfl)
  have s2 : Sls (h.set rb (.cells [.slice a bs.length fl, .int .i64 (IntKind.i64.wrap (p + 1))] 0 0)) uE 1 a bs := sls_x1 x1 h2 (fun ad e => Nat.ne_of_lt (h5 ad e))
  have rd2 : Rd lo (h.set rb (.cells [.slice a bs.length fl, .int .i64 (IntKind.i64.wrap (p + 1))] 0 0)) rb (p + 1) := ⟨⟨a, fl, bs, by have hb2' := hb2; rw [w1] at hb2' ⊢; exact hb2', s2, h3, h4, h5⟩, r.lo, by omega⟩
  refine cnd (fun c1 => ?_) (fun c1 => ?_)
  · refine cndT ?_
    have c1 : n < 1 := of_decide_eq_true c1
    exact ⟨0, rfl, Int.le_refl 0, fun h => by omega, fun _ => rfl, rd2, x1⟩
  · have c1 : ¬ n < 1 := of_decide_eq_false c1
    refine ⟨_, hb2.ldF (i := 0) rfl, ?_⟩
    refine cnd (fun c2 => ?_) (fun c2 => ?_)
    · exact ⟨0, rfl, Int.le_refl 0, fun h => by omega, fun _ => rfl, rd2, x1⟩
    · have c2 : bs.length ≠ 0 := by simpa using c2
      have w2 : IntKind.i64.wrap (IntKind.i64.wrap (p + 1) - 1) = p := by rw [w1, wr (by omega) (by omega)]; omega
      refine ⟨_, hb2.ldF (i := 1) rfl, ?_⟩
      refine ⟨_, hb2.ldF (i := 0) rfl, ?_⟩
      have by' : ∀ {j : Nat} (hj : j < bs.length), bs[j] < 256 := fun hj => h4 _ (List.getElem_mem hj)
      refine cnd (fun c3 => ?_) (fun c3 => ?_)
      · rw [w2] at c3
        have c3 : p < bs.length := of_decide_eq_true c3
        refine ⟨_, hb2.ldF (i := 0) rfl, ?_⟩
        have hj : p.toNat < bs.length := by omega
        obtain ⟨a, rfl⟩ := s2.some hj
        refine And.intro ⟨by rw [w2]; omega, by rw [w2]; exact c3⟩ ?_
        have ldb : Ld (h.set rb (.cells [.slice (some a) bs.length fl, .int .i64 (IntKind.i64.wrap (p + 1))] 0 0)) (addA a ((IntKind.i64.wrap (IntKind.i64.wrap (p + 1) - 1)).toNat * 1)) 1 [.int .u8 (bs[p.toNat] : Nat)] := by
          rw [w2]; exact s2.ld (fun _ => rfl) hj
        refine ⟨_, ldb, ?_⟩
        have hb8 := by' hj
        have w3 : IntKind.i64.wrap ((bs[p.toNat] : Nat) : Int) = (bs[p.toNat] : Nat) := wr (by omega) (by omega)
        refine And.intro (by omega) ?_
        refine ⟨_, rfl, ?_, fun hn1 => ?_, fun h => by omega, rd2, x1⟩
        · rw [w3, Int.tmod_eq_emod_of_nonneg (by omega)]; exact Int.emod_nonneg _ (by omega)
        · rw [w3, Int.tmod_eq_emod_of_nonneg (by omega)]; exact Int.emod_lt_of_pos _ (by omega)
      · rw [w2] at c3
        have c3 : ¬ p < bs.length := of_decide_eq_false c3
        have hj : 0 < bs.length := by omega
        obtain ⟨a, rfl⟩ := s2.some hj
        have ldi : ∀ (x : Int), (0 ≤ x ∧ x < bs.length) → ∃ b : Nat, b < 256 ∧ Ld (h.set rb (.cells [.slice (some a) bs.length fl, .int .i64 (IntKind.i64.wrap (p + 1))] 0 0)) (addA a (x.toNat * 1)) 1 [.int .u8 (b : Nat)] := fun x hx => ⟨bs[x.toNat]'(by omega), by' _, s2.ld (fun _ => rfl) (by omega)⟩
        have ln0 : (bs.length : Int) ≠ 0 := by omega
        have md : ∀ y : Int, 0 ≤ y → 0 ≤ y.tmod bs.length ∧ y.tmod bs.length < bs.length := fun y hy => by
          rw [Int.tmod_eq_emod_of_nonneg hy]
          exact ⟨Int.emod_nonneg _ ln0, Int.emod_lt_of_pos _ (by omega)⟩
        have w7 : IntKind.i64.wrap (IntKind.i64.wrap (IntKind.i64.wrap (IntKind.i64.wrap (p + 1) - 1) * 7) + 3) = p * 7 + 3 := by rw [w2, wr (n := p * 7) (by omega) (by omega), wr (by omega) (by omega)]
        refine And.intro (by kernel_rfl) ?_
        refine ⟨_, hb2.ldF (i := 0) rfl, ?_⟩
        refine ⟨_, hb2.ldF (i := 0) rfl, ?_⟩
        refine And.intro ln0 ?_
        refine And.intro (by rw [w2]; exact md p hp0.1) ?_
        obtain ⟨b1, l1, d1⟩ := ldi ((IntKind.i64.wrap (IntKind.i64.wrap (p + 1) - 1)).tmod bs.length) (by rw [w2]; exact md p hp0.1)
        refine ⟨_, d1, ?_⟩
        refine ⟨_, hb2.ldF (i := 0) rfl, ?_⟩
        refine ⟨_, hb2.ldF (i := 0) rfl, ?_⟩
        refine And.intro ln0 ?_
        refine And.intro (by rw [w7]; exact md _ (by omega)) ?_
        obtain ⟨b2, l2, d2⟩ := ldi ((IntKind.i64.wrap (IntKind.i64.wrap (IntKind.i64.wrap (IntKind.i64.wrap (p + 1) - 1) * 7) + 3)).tmod bs.length) (by rw [w7]; exact md _ (by omega))
        refine ⟨_, d2, ?_⟩
        refine ⟨_, hb2.ldF (i := 0) rfl, ?_⟩
        refine And.intro ln0 ?_
        refine And.intro (by decide) ?_
        refine And.intro (by omega) ?_
        have hq : 0 ≤ p.tdiv bs.length ∧ p.tdiv bs.length ≤ p := by
          rw [Int.tdiv_eq_ediv_of_nonneg hp0.1]
          exact ⟨Int.ediv_nonneg hp0.1 (by omega), Int.ediv_le_self _ hp0.1⟩
        have hE : 0 ≤ IntKind.i64.wrap (IntKind.i64.wrap (IntKind.i64.wrap (IntKind.i64.wrap (IntKind.i64.wrap (b1 : Int) * 131) + IntKind.i64.wrap (IntKind.i64.wrap (b2 : Int) * 1117)) + IntKind.i64.wrap (IntKind.i64.wrap (IntKind.i64.wrap (p + 1) - 1) * 29)) + IntKind.i64.wrap (IntKind.i64.wrap ((IntKind.i64.wrap (IntKind.i64.wrap (p + 1) - 1)).tdiv bs.length) * 53)) ∧
            IntKind.i64.wrap (IntKind.i64.wrap (IntKind.i64.wrap (IntKind.i64.wrap (IntKind.i64.wrap (b1 : Int) * 131) + IntKind.i64.wrap (IntKind.i64.wrap (b2 : Int) * 1117)) + IntKind.i64.wrap (IntKind.i64.wrap (IntKind.i64.wrap (p + 1) - 1) * 29)) + IntKind.i64.wrap (IntKind.i64.wrap ((IntKind.i64.wrap (IntKind.i64.wrap (p + 1) - 1)).tdiv bs.length) * 53)) < 2 ^ 40 := by
          rw [w2]
          generalize p.tdiv bs.length = q at hq ⊢
          rw [wr (n := (b1 : Int)) (by omega) (by omega), wr (n := (b2 : Int)) (by omega) (by omega), wr (n := q) (by omega) (by omega), wr (n := (b1 : Int) * 131) (by omega) (by omega), wr (n := (b2 : Int) * 1117) (by omega) (by omega), wr (n := p * 29) (by omega) (by omega), wr (n := q * 53) (by omega) (by omega), wr (n := (b1 : Int) * 131 + (b2 : Int) * 1117) (by omega) (by omega), wr (n := (b1 : Int) * 131 + (b2 : Int) * 1117 + p * 29) (by omega) (by omega), wr (by omega) (by omega)]
          omega
        generalize hEE : IntKind.i64.wrap (IntKind.i64.wrap (IntKind.i64.wrap (IntKind.i64.wrap (IntKind.i64.wrap (b1 : Int) * 131) + IntKind.i64.wrap (IntKind.i64.wrap (b2 : Int) * 1117)) + IntKind.i64.wrap (IntKind.i64.wrap (IntKind.i64.wrap (p + 1) - 1) * 29)) + IntKind.i64.wrap (IntKind.i64.wrap ((IntKind.i64.wrap (IntKind.i64.wrap (p + 1) - 1)).tdiv bs.length) * 53)) = E at hE
        have hX : 0 ≤ IntKind.i64.wrap ((BitVec.ofInt IntKind.i64.bits E ^^^ BitVec.ofInt IntKind.i64.bits (IntKind.i64.wrap (E.tdiv 64))).toNat : Int) := by
          have hd : IntKind.i64.wrap (E.tdiv 64) = E / 64 := by rw [Int.tdiv_eq_ediv_of_nonneg hE.1, wr (by omega) (by omega)]
          rw [hd]
          exact xor_ok hE ⟨by omega, by omega⟩
        refine ⟨_, rfl, ?_, fun hn1 => ?_, fun h => by omega, rd2, x1⟩
        · rw [Int.tmod_eq_emod_of_nonneg hX]; exact Int.emod_nonneg _ (by omega)
        · rw [Int.tmod_eq_emod_of_nonneg hX]; exact Int.emod_lt_of_pos _ (by omega)
end Go.Proofs.Ytgcbfhdlfajemaa.Id
/- Contracts over the ideal memory: cells and grids that are drawn. -/
namespace Go.Proofs.Ytgcbfhdlfajemaa.Id
open Go.Id
open Go.Proofs
set_option linter.unusedVariables false
set_option maxRecDepth 100000
variable {X : Ctx Try.prog} {lo rb : Nat}
/-- A cell was drawn. -/
def DrawC (lo rb : Nat) (p k : Int) (h : Hp) (v : Value) (h' : Hp) : Prop := ∃ (c : Cl) (p' : Int), v = .agg #[.int .i64 c.1, .int .i64 c.2] ∧ Rd lo h' rb p' ∧ (p ≤ p' ∧ p' ≤ p + k) ∧ Ext1 rb h h'
theorem l71Cell_ok (rb : Nat) (p : Int) (h : Hp) (r : Rd lo h rb p) (hp : p + 2 ≤ 1000000000) : Tri X lo 48 [.pointer (some ⟨rb, 0, none⟩)] h (DrawC lo rb p 2 h) := by
  refine enter tbOk mtOk ⟨[], []⟩ 400 Try.func48 rfl rfl rfl fun hlo => ?_
  refine callP (pick_ok rb p 12 h r (by decide) (by omega)) ?_
  rintro v h1 ⟨q, rfl, q1, q2, q3, r1, x1⟩
  have fin : ∀ a b : Int, DrawC lo rb p 2 h (.agg #[.int .i64 a, .int .i64 b]) h1 := fun a b => ⟨(a, b), p + 1, rfl, r1, ⟨by omega, by omega⟩, x1⟩
  refine cnd (fun _ => fin _ _) (fun _ => ?_)
  refine cnd (fun _ => fin _ _) (fun _ => ?_)
  refine cnd (fun _ => fin _ _) (fun _ => ?_)
  refine cnd (fun _ => fin _ _) (fun _ => ?_)
  refine cnd (fun _ => fin _ _) (fun _ => ?_)
  refine cnd (fun _ => fin _ _) (fun _ => ?_)
  refine cnd (fun _ => fin _ _) (fun _ => ?_)
  refine cnd (fun _ => fin _ _) (fun _ => ?_)
  refine cnd (fun _ => ?_) (fun _ => ?_)
  · refine callP (pick_ok rb (p + 1) 9 h1 r1 (by decide) (by omega)) ?_
    rintro v h2 ⟨q', rfl, _, _, _, r2, x2⟩
    exact ⟨(7, _), p + 1 + 1, rfl, r2, ⟨by omega, by omega⟩, x1.trans x2⟩
  · exact fin _ _
theorem Rd.lt {h : Hp} {rb : Nat} {p : Int} (r : Rd lo h rb p) : rb < h.n := by
  obtain ⟨a, fl, bs, h1, h2, h3⟩ := r.ex
  exact h1.lt
theorem l71Off_ok (rb : Nat) (p : Int) (h : Hp) (r : Rd lo h rb p) (hp : p + 2 ≤ 1000000000) : Tri X lo 47 [.pointer (some ⟨rb, 0, none⟩)] h (DrawC lo rb p 2 h) := by
  refine enter tbOk mtOk ⟨[], []⟩ 400 Try.func47 rfl rfl rfl fun hlo => ?_
  let cs : List Cl := [(-1, 0), (8, 0), (7, 0), (7, 10), (1, 1), (0, 0)]
  let h1 := h.push (.cells (cs.flatMap cE) 2 0)
  have e1 : Ext h h1 := Ext.push _ _
  have rw1 : Row h1 h.n 0 cE 2 cs := Row.push
  have lt := r.lt
  refine callP (pick_ok rb p 6 h1 (r.ext e1) (by decide) (by omega)) ?_
  rintro v h2 ⟨q, rfl, q1, q2, q3, r1, x1⟩
  have q2 := q2 (by decide)
  have rw2 : Row h2 h.n 0 cE 2 cs := rw1.ext1 x1 (by omega)
  have hj : q.toNat < cs.length := by show q.toNat < 6; omega
  refine And.intro ⟨q1, q2⟩ ?_
  refine ⟨_, (rw2.sls cE2).ld cE2 hj, ?_⟩
  exact ⟨cs[q.toNat], p + 1, rfl, r1, ⟨by omega, by omega⟩, (e1.one rb).trans x1⟩
/-- A row's part that is one's own. -/
def Dw (lo : Nat) (h : Hp) (sv : Value) (cs : List Cl) : Prop := ∃ a fl, sv = .slice a cs.length fl ∧ match a with
  | none => cs = []
  | some ad => lo ≤ ad.block ∧ ad.block < h.n ∧ ∃ pr po e, ad.spot = some e ∧ ad.off = (pr : List Cl).length * 2 ∧ h.g ad.block = .cells ((pr ++ cs ++ po).flatMap cE) 2 e
theorem Dw.keep {h h' : Hp} {sv : Value} {cs : List Cl} (d : Dw lo h sv cs) (x : Ext1 rb h h') (hb : rb < lo) : Dw lo h' sv cs := by
  obtain ⟨a, fl, rfl, d⟩ := d
  refine ⟨a, fl, rfl, ?_⟩
  cases a with
  | none => exact d
  | some ad =>
    obtain ⟨d1, d2, pr, po, e, d3, d4, d5⟩ := d
    exact ⟨d1, Nat.lt_of_lt_of_le d2 x.n, pr, po, e, d3, d4, by rw [x.g _ d2 (by omega)]; exact d5⟩
theorem Dw.sls {h : Hp} {a : Option Addr} {n fl : Nat} {cs : List Cl} (d : Dw lo h (.slice a n fl) cs) : n = cs.length ∧ Sls h cE 2 a cs := by
  obtain ⟨a', fl', e, d⟩ := d
  cases e
  refine ⟨rfl, ?_⟩
  cases a with
  | none => exact d
  | some ad =>
    obtain ⟨d1, d2, pr, po, e, d3, d4, d5⟩ := d
    refine ⟨d2, _, 2, by rw [d3]; exact d5, ?_⟩
    unfold sub?
    rw [if_pos (by rw [flat_len cE2, d4]; simp; omega)]
    rw [List.append_assoc, List.flatMap_append, d4, ← flat_len cE2 pr, List.drop_left, List.flatMap_append, ← flat_len cE2 cs, List.take_left]
/-- One of its elements is written. -/
theorem Dw.st {lo' : Nat} {h : Hp} {a : Option Addr} {n fl : Nat} {cs : List Cl} (d : Dw lo h (.slice a n fl) cs) (hlo : lo' ≤ lo) {j : Nat} (hj : j < cs.length) (c : Cl) : ∃ ad h', a = some ad ∧ lo ≤ ad.block ∧ St lo' h (addA ad (j * 2)) (cE c) h' ∧ Dw lo h' (.slice (some ad) n fl) (cs.set j c) ∧ (∀ rb, ∀ h0, Ext1 rb h0 h → h0.n ≤ lo → Ext1 rb h0 h') ∧ h.n ≤ h'.n ∧ ∀ i, i < lo → h'.g i = h.g i := by
  obtain ⟨a', fl', e, d⟩ := d
  cases e
  cases a with
  | none => simp at d; subst d; simp at hj
  | some ad =>
    obtain ⟨d1, d2, pr, po, e, d3, d4, d5⟩ := d
    have hg : ∀ (i : Nat), (pr ++ cs ++ po).set (pr.length + i) c = if i < cs.length then pr ++ cs.set i c ++ po else pr ++ cs ++ po.set (i - cs.length) c := by
      intro i
      rw [List.append_assoc, List.set_append_right _ _ (by omega)]
      split
      · rw [List.set_append_left _ _ (by omega), List.append_assoc]; simp
      · rw [List.set_append_right _ _ (by omega), List.append_assoc]; simp
    have hl : pr.length + j < (pr ++ cs ++ po).length := by simp; omega
    have key := flat_set (enc := cE) (sz := 2) cE2 (l := pr ++ cs ++ po) (j := pr.length + j) (f := 0) hl (x := c) (ys := cE c) (by simp [cE]) (setL_all [] _ _ rfl)
    rw [hg, if_pos hj] at key
    refine ⟨ad, h.set ad.block (.cells ((pr ++ cs.set j c ++ po).flatMap cE) 2 e), rfl, d1, ⟨by show lo' ≤ ad.block; omega, d2, _, 2, by show h.g ad.block = _; rw [d5]; congr 1; show e = epOf ad.spot; rw [d3]; rfl, ?_, ?_⟩, ⟨some ad, fl, by simp, d1, d2, pr, po, e, d3, d4, by simp [Hp.set]⟩, fun rb h0 x hx => x.set _ (.inr (by omega)), Nat.le_refl _, fun i hi => by simp only [Hp.set]; rw [if_neg (by omega)]⟩
    · rw [flat_len cE2]; simp only [addA, cE, List.length_cons, List.length_nil, d4]; simp at hl ⊢; omega
    · rw [← key]
      simp only [addA, d4, d3]
      rw [show (pr.length + j) * 2 + 0 = pr.length * 2 + j * 2 from by omega]; rfl
theorem gx_dw {h : Hp} {o : Option (Nat × Nat)} {cs : List Cl} (g : Gx lo h cE 2 o cs) : Dw lo h (gv o cs.length) cs := by
  match o, g with
  | none, g => obtain rfl : cs = [] := g; exact ⟨none, 0, rfl, rfl⟩
  | some (b, e), ⟨g1, g2⟩ => exact ⟨some ⟨b, 0, some e⟩, 1, rfl, g1, g2.lt, [], [], e, rfl, rfl, by simpa using g2.g⟩
theorem gx_re {α : Type} {enc : α → List Value} {sz lo' : Nat} {h : Hp} {o : Option (Nat × Nat)} {l : List α} (g : Gx lo h enc sz o l) (hl : ∀ i, isB o i → lo' ≤ i) : Gx lo' h enc sz o l := by
  match o, g with
  | none, g => exact g
  | some (b, e), ⟨g1, g2⟩ => exact ⟨hl b ⟨e, rfl⟩, g2⟩
structure GS where
  k : Nat
  o : Option (Nat × Nat)
  cs : List Cl
/-- A grid was drawn. -/
def DrawG (lo rb : Nat) (p k : Int) (L : Nat) (h : Hp) (v : Value) (h' : Hp) : Prop := ∃ (w : Int) (sv : Value) (cs : List Cl) (p' : Int), v = .agg #[.int .i64 w, sv] ∧ (-1 ≤ w ∧ w ≤ 6) ∧ Dw h.n h' sv cs ∧ cs.length ≤ L ∧ Rd lo h' rb p' ∧ (p ≤ p' ∧ p' ≤ p + k) ∧ Ext1 rb h h'
theorem l71Grid_ok (rb : Nat) (p : Int) (h : Hp) (r : Rd lo h rb p) (hp : p + 60 ≤ 1000000000) : Tri X lo 97 [.pointer (some ⟨rb, 0, none⟩)] h (fun v h' => ∃ (w : Int) (b e : Nat) (cs : List Cl) (p' : Int), v = .agg #[.int .i64 w, .slice (some ⟨b, 0, some e⟩) cs.length 1] ∧ (1 ≤ w ∧ w ≤ 5) ∧ (1 ≤ cs.length ∧ cs.length ≤ 25) ∧ h.n ≤ b ∧ Row h' b e cE 2 cs ∧ Rd lo h' rb p' ∧ (p ≤ p' ∧ p' ≤ p + 60) ∧ Ext1 rb h h') := by
  refine enter tbOk mtOk ⟨[], [(2, [0, 1, 2, 3, 4, 5, 6], [0, 1, 0, 4, 12, 31, 63]), (5, [0, 1, 2, 3, 4, 5, 6, 7], [0, 1, 0, 4, 12, 31, 63, 127])]⟩ 400 Try.func97 rfl rfl rfl fun hlo => ?_
  refine callP (pick_ok rb p 5 h r (by decide) (by omega)) ?_
  rintro v h1 ⟨q, rfl, q1, q2, q3, r1, x1⟩
  have q2 := q2 (by decide)
  refine And.intro (by kernel_rfl) ?_
  refine callP (pick_ok rb (p + 1) 5 h1 r1 (by decide) (by omega)) ?_
  rintro v h2 ⟨q', rfl, q1', q2', q3', r2, x2⟩
  have q2' := q2' (by decide)
  refine And.intro Is.r ?_
  have w1 : IntKind.i64.wrap (1 + q) = 1 + q := wr (by omega) (by omega)
  have w2 : IntKind.i64.wrap (1 + q') = 1 + q' := wr (by omega) (by omega)
  obtain ⟨tot, ht0, ht⟩ : ∃ tot : Nat, (1 + q) * (1 + q') = (tot : Int) ∧ 1 ≤ tot ∧ tot ≤ 25 := by
    have h1 : (1 : Int) * 1 ≤ (1 + q) * (1 + q') := Int.mul_le_mul (by omega) (by omega) (by omega) (by omega)
    have h2 : (1 + q) * (1 + q') ≤ 5 * 5 := Int.mul_le_mul (by omega) (by omega) (by omega) (by omega)
    exact ⟨((1 + q) * (1 + q')).toNat, by omega, by omega, by omega⟩
  have w3 : IntKind.i64.wrap (IntKind.i64.wrap (1 + q) * IntKind.i64.wrap (1 + q')) = (tot : Int) := by rw [w1, w2, ht0, wr (by omega) (by omega)]
  refine loop (σ := GS) tbOk mtOk ⟨[], [(2, [0, 1, 2, 3, 4, 5, 6], [0, 1, 0, 4, 12, 31, 63]), (5, [0, 1, 2, 3, 4, 5, 6, 7], [0, 1, 0, 4, 12, 31, 63, 127])]⟩ (fun s => [(4, .v (.int .i64 (s.k : Int))), (3, .l 1 0), (2, .l 0 0), (0, .v (.pointer (some ⟨rb, 0, none⟩)))]) (fun s => [[.int .i64 0, .slice none 0 0], [.int .i64 (IntKind.i64.wrap (1 + q)), gv s.o s.cs.length]]) (fun s h' => s.k + s.cs.length = tot ∧ Gx h.n h' cE 2 s.o s.cs ∧ (∃ p', Rd lo h' rb p' ∧ p ≤ p' ∧ p' ≤ p + 2 + 2 * s.cs.length) ∧ Ext1 rb h h') (fun s => s.k) 400 ⟨tot, none, []⟩ (fun _ => rfl) ⟨?_, rfl, rfl, rfl, trivial⟩ ⟨rfl, rfl, trivial⟩ ⟨by simp, rfl, ⟨p + 1 + 1, r2, by omega, by simp; omega⟩, x1.trans x2⟩ (fun s h' hI again => ?_)
  · show some (Sl.v (.int .i64 _)) = _
    rw [w3]
  obtain ⟨k, o, cs⟩ := s
  obtain ⟨i1, i2, ⟨p', r3, i3, i4⟩, x3⟩ := hI
  simp only at i1 i2 i3 i4
  have lt := r.lt
  refine cnd (fun c1 => ?_) (fun c1 => ?_)
  · have c1 : 0 < k := by simpa using c1
    refine And.intro (by kernel_rfl) ?_
    refine callP (l71Cell_ok rb p' h' r3 (by omega)) ?_
    rintro v h3 ⟨c, p2, rfl, r4, i5, x4⟩
    refine And.intro Is.r ?_
    refine And.intro Is.r ?_
    have hn3 := (x3.trans x4).n
    have e4 : Ext h3 (h3.push (.cells ([c].flatMap cE) 2 0)) := Ext.push _ _
    have g4 : Gx h.n (h3.push (.cells ([c].flatMap cE) 2 0)) cE 2 o cs := (i2.keep x4.n fun i hi hb => x4.g i hi (by have := (i2.lt hb).2; omega)).ext e4
    have g1 : Gx 0 (h3.push (.cells ([c].flatMap cE) 2 0)) cE 2 (some (h3.n, 0)) [c] := ⟨Nat.zero_le _, Row.push⟩
    obtain ⟨o', h5, a1, a2, a3⟩ := (gx_re (lo' := lo) g4 fun i hi => by have := (g4.lt hi).2; omega).apps cE2 (by decide) [c] (by unfold Id.maxLen; simp; omega) (by have := e4.n; omega)
    refine ⟨[c].flatMap cE, g1.cells cE2, _, h5, a1, ?_⟩
    obtain ⟨b1, e1, rfl⟩ : ∃ b e, o' = some (b, e) := by
      cases o' with
      | none => exact absurd (show cs ++ [c] = [] from a2) (by simp)
      | some x => exact ⟨x.1, x.2, rfl⟩
    have e4n := e4.n
    have a3n := a3.n
    have k5 : ∀ i, i < h.n → h5.g i = h3.g i := fun i hi => by
      refine (a3.g i (by omega) fun hb => ?_).trans (e4.g i (by omega))
      have := (g4.lt hb).2
      omega
    have x5 : Ext1 rb h h5 := ⟨by omega, fun i hi hj => (k5 i hi).trans ((x3.trans x4).g i hi hj)⟩
    have r5 : Rd lo h5 rb p2 := r4.keep (by omega) fun i hi => k5 i (by omega)
    have fin : Gx h.n h5 cE 2 (some (b1, e1)) (cs ++ [c]) := gx_re a2 fun i hb => by
      rcases a3.b i hb with hb | hb
      · exact (g4.lt hb).2
      · omega
    have hk : IntKind.i64.wrap ((k : Int) - 1) = ((k - 1 : Nat) : Int) := by rw [wr (by omega) (by omega)]; omega
    have hl : (cs ++ [c]).length = cs.length + 1 := by simp
    rcases o with _ | ⟨b0, e0⟩
    all_goals
      refine again ⟨k - 1, some (b1, e1), cs ++ [c]⟩ _ _ _ (by show k - 1 < k; omega) ⟨?_, rfl, rfl, rfl, trivial⟩ ⟨rfl, rfl, trivial⟩ ⟨by show k - 1 + (cs ++ [c]).length = tot; omega, fin, ⟨p2, r5, by omega, by show p2 ≤ p + 2 + 2 * ((cs ++ [c]).length : Int); omega⟩, x5⟩
      show some (Sl.v (.int .i64 (IntKind.i64.wrap ((k : Int) - 1)))) = _
      rw [hk]
  · have c1 : k = 0 := by simpa using c1
    rcases o with _ | ⟨b, e⟩
    · exfalso
      have : cs = [] := i2
      subst this
      simp at i1; omega
    · exact ⟨_, b, e, cs, p', rfl, by omega, by omega, i2.1, i2.2, r3, ⟨by omega, by omega⟩, x3⟩
end Go.Proofs.Ytgcbfhdlfajemaa.Id
/- Contracts over the ideal memory: grids that are drawn, some spoilt. -/
namespace Go.Proofs.Ytgcbfhdlfajemaa.Id
open Go.Id
open Go.Proofs
set_option linter.unusedVariables false
set_option maxRecDepth 100000
variable {X : Ctx Try.prog} {lo rb : Nat}
theorem Dw.mono {lo' : Nat} {h : Hp} {sv : Value} {cs : List Cl} (d : Dw lo h sv cs) (hl : lo' ≤ lo) : Dw lo' h sv cs := by
  obtain ⟨a, fl, rfl, d⟩ := d
  refine ⟨a, fl, rfl, ?_⟩
  cases a with
  | none => exact d
  | some ad => exact ⟨Nat.le_trans hl d.1, d.2⟩
theorem l71Some_ok (rb : Nat) (p : Int) (h : Hp) (r : Rd lo h rb p) (hp : p + 100 ≤ 1000000000) : Tri X lo 66 [.pointer (some ⟨rb, 0, none⟩)] h (DrawG lo rb p 100 40 h) := by
  refine enter tbOk mtOk ⟨[], [(11, [0, 1, 2, 3, 4, 5, 7, 6, 8, 9, 10], [0, 1, 0, 0, 8, 24, 60, 0, 252, 511, 1023])]⟩ 400 Try.func66 rfl rfl rfl fun hlo => ?_
  refine callP (l71Grid_ok rb p h r (by omega)) ?_
  rintro v h1 ⟨w, b, e, cs, p1, rfl, w1, l1, hb, ro, r1, i1, x1⟩
  have lt := r.lt
  have hn1 := x1.n
  have dw : ∀ {h' : Hp} {cs : List Cl} {e : Nat}, Row h' b e cE 2 cs → Dw h.n h' (.slice (some ⟨b, 0, some e⟩) cs.length 1) cs := fun r => gx_dw (o := some (b, _)) ⟨hb, r⟩
  refine callP (pick_ok rb p1 24 h1 r1 (by decide) (by omega)) ?_
  rintro v h2 ⟨q, rfl, q1, q2, q3, r2, x2⟩
  have ro := ro.ext1 x2 (by omega)
  have x2 := x1.trans x2
  refine cnd (fun c1 => ?_) (fun c1 => ?_)
  · exact ⟨w, _, cs, _, rfl, by omega, dw ro, by omega, r2, ⟨by omega, by omega⟩, x2⟩
  · refine callP (pick_ok rb (p1 + 1) 5 h2 r2 (by decide) (by omega)) ?_
    rintro v h3 ⟨q', rfl, q1', q2', q3', r3, x3⟩
    have ro := ro.ext1 x3 (by omega)
    have x3 := x2.trans x3
    have hn3 := x3.n
    have fin : ∀ w sv h', (-1 ≤ w ∧ w ≤ 6) → (∃ cs, Dw h.n h' sv cs ∧ cs.length ≤ 40) → (∃ p', Rd lo h' rb p' ∧ p ≤ p' ∧ p' ≤ p + 100) → Ext1 rb h h' → DrawG lo rb p 100 40 h (.agg #[.int .i64 w, sv]) h' := fun w sv h' a1 a2 a3 a4 => by
      obtain ⟨cs, a2, a2'⟩ := a2
      obtain ⟨p', a3, a3'⟩ := a3
      exact ⟨w, sv, cs, p', rfl, a1, a2, a2', a3, a3', a4⟩
    refine cnd (fun c2 => ?_) (fun c2 => ?_)
    · let ws : List Int := [0, -1, 6]
      have e3 : Ext h3 (h3.push (.cells (ws.flatMap iE) 1 0)) := Ext.push _ _
      have rw3 : Row (h3.push (.cells (ws.flatMap iE) 1 0)) h3.n 0 iE 1 ws := Row.push
      refine callP (pick_ok rb (p1 + 1 + 1) 3 (h3.push (.cells (ws.flatMap iE) 1 0)) (r3.ext e3) (by decide) (by omega)) ?_
      rintro v h4 ⟨q4, rfl, u1, u2, u3, r4, x4⟩
      have u2 := u2 (by decide)
      have rw4 : Row h4 h3.n 0 iE 1 ws := rw3.ext1 x4 (by omega)
      have hj : q4.toNat < ws.length := by show q4.toNat < 3; omega
      refine And.intro ⟨u1, u2⟩ ?_
      refine ⟨_, (rw4.sls (fun _ => rfl)).ld (fun _ => rfl) hj, ?_⟩
      have hw : -1 ≤ ws[q4.toNat] ∧ ws[q4.toNat] ≤ 6 := (by decide : ∀ x ∈ ([0, -1, 6] : List Int), -1 ≤ x ∧ x ≤ 6) _ (List.getElem_mem hj)
      exact fin _ _ h4 hw ⟨cs, dw ((ro.ext e3).ext1 x4 (by omega)), by omega⟩ ⟨_, r4, by omega, by omega⟩ (x3.trans ((e3.one rb).trans x4))
    · refine cnd (fun c3 => ?_) (fun c3 => ?_)
      · refine And.intro ⟨by decide, by omega, by omega⟩ ?_
        obtain ⟨c, cs', rfl⟩ : ∃ c cs', cs = c :: cs' := by
          cases cs with
          | nil => simp at l1
          | cons c cs' => exact ⟨c, cs', rfl⟩
        rw [List.length_cons]
        by_cases hn : cs' = []
        · subst hn
          refine .inr ⟨rfl, ?_⟩
          exact fin _ _ h3 (by omega) ⟨[], ⟨some ⟨b, 0, some e⟩, 2, rfl, hb, ro.lt, [], [c], e, rfl, rfl, ro.g⟩, by simp⟩ ⟨_, r3, by omega, by omega⟩ x3
        · refine .inl ⟨by have := List.length_pos_iff.2 hn; omega, ?_⟩
          refine fin _ _ h3 (by omega) ⟨cs', ⟨some (addA ⟨b, 0, some e⟩ 2), 2, ?_, hb, ro.lt, [c], [], e, rfl, rfl, by show h3.g b = _; simpa using ro.g⟩, by simp at l1; omega⟩ ⟨_, r3, by omega, by omega⟩ x3
          congr 1; omega
      · refine cnd (fun c4 => ?_) (fun c4 => ?_)
        · refine And.intro (by kernel_rfl) ?_
          refine callP (pick_ok rb (p1 + 1 + 1) cs.length h3 r3 (by omega) (by omega)) ?_
          rintro v h4 ⟨q4, rfl, u1, u2, u3, r4, x4⟩
          have u2 := u2 (by omega)
          refine And.intro Is.r ?_
          refine callP (l71Off_ok rb _ h4 r4 (by omega)) ?_
          rintro v h5 ⟨c, p5, rfl, r5, i5, x5⟩
          have ro := (ro.ext1 x4 (by omega)).ext1 x5 (by omega)
          have hj : q4.toNat < cs.length := by omega
          have x5' := (x3.trans x4).trans x5
          refine And.intro Is.r ?_
          refine And.intro ⟨u1, u2⟩ ?_
          refine ⟨_, ro.st cE2 (by omega) hj c, ?_⟩
          refine fin _ _ _ (by omega) ⟨cs.set q4.toNat c, ?_, by rw [List.length_set]; omega⟩ ⟨p5, r5.keep (Nat.le_refl _) fun i hi => by simp only [Hp.set]; rw [if_neg (by omega)], by omega, by omega⟩ (x5'.set _ (.inr hb))
          have := dw (h' := h5.set b (.cells ((cs.set q4.toNat c).flatMap cE) 2 e)) (Row.set ro.lt)
          rwa [List.length_set] at this
        · refine cnd (fun c5 => ?_) (fun c5 => ?_)
          · refine loop (σ := Nat × List Cl) tbOk mtOk ⟨[], [(11, [0, 1, 2, 3, 4, 5, 7, 6, 8, 9, 10], [0, 1, 0, 0, 8, 24, 60, 0, 252, 511, 1023])]⟩ (fun s => [(3, .l 1 0), (2, .l 0 0), (0, .v (.pointer (some ⟨rb, 0, none⟩)))]) (fun s => [[.int .i64 0, .slice none 0 0], [.int .i64 w, .slice (some ⟨b, 0, some s.1⟩) s.2.length 1]]) (fun s h' => (1 ≤ s.2.length ∧ s.2.length ≤ 26) ∧ Row h' b s.1 cE 2 s.2 ∧ Rd lo h' rb (p1 + 1 + 1) ∧ Ext1 rb h h') (fun s => 40 - s.2.length) 400 (e, cs) (fun _ => rfl) ⟨rfl, rfl, rfl, trivial⟩ ⟨rfl, rfl, trivial⟩ ⟨⟨l1.1, Nat.le_trans l1.2 (by decide)⟩, ro, r3, x3⟩ (fun s h' hI again => ?_)
            obtain ⟨e, cs⟩ := s
            obtain ⟨i2, ro, r4, x4⟩ := hI
            simp only at i2
            have w5 : IntKind.i64.wrap (w * 5) = w * 5 := wr (by omega) (by omega)
            refine cnd (fun c6 => ?_) (fun c6 => ?_)
            · have c6 : (cs.length : Int) ≤ w * 5 := by rw [w5] at c6; exact of_decide_eq_true c6
              have e4 : Ext h' (h'.push (.cells ([((0, 0) : Cl)].flatMap cE) 2 0)) := Ext.push _ _
              have g1 : Gx 0 (h'.push (.cells ([((0, 0) : Cl)].flatMap cE) 2 0)) cE 2 (some (h'.n, 0)) [((0, 0) : Cl)] := ⟨Nat.zero_le _, Row.push⟩
              refine ⟨[((0, 0) : Cl)].flatMap cE, g1.cells cE2, _, _, (ro.ext e4).app (m := [((0, 0) : Cl)]) cE2 (by decide) (by omega) (by unfold Id.maxLen; simp; omega), ?_⟩
              have x5 := (x4.trans (e4.one rb)).set (.cells ((cs ++ [((0, 0) : Cl)]).flatMap cE) 2 (e + 1)) (.inr hb)
              refine again (e + 1, cs ++ [((0, 0) : Cl)]) _ _ _ (by show 40 - (cs ++ [((0, 0) : Cl)]).length < 40 - cs.length; simp; omega) ⟨rfl, rfl, rfl, trivial⟩ ⟨rfl, ?_, trivial⟩ ⟨⟨by simp, by simp; omega⟩, Row.set (ro.ext e4).lt, (r4.ext e4).keep (Nat.le_refl _) fun i hi => by simp only [Hp.set]; rw [if_neg (by omega)], x5⟩
              show [Value.int .i64 w, Value.slice (some ⟨b, 0, some (e + 1)⟩) (cs ++ [((0, 0) : Cl)]).length 1] = [Value.int .i64 w, Value.slice (some ⟨b, 0, some (e + 1)⟩) (cs.length + [((0, 0) : Cl)].length) 1]
              rw [List.length_append]
            · exact fin _ _ _ (by omega) ⟨cs, dw ro, by omega⟩ ⟨_, r4, by omega, by omega⟩ x4
          · exact fin _ _ h3 (by omega) ⟨[], ⟨none, 0, rfl, rfl⟩, by simp⟩ ⟨_, r3, by omega, by omega⟩ x3
end Go.Proofs.Ytgcbfhdlfajemaa.Id
/- Contracts over the ideal memory: bright grids are drawn. -/
namespace Go.Proofs.Ytgcbfhdlfajemaa.Id
open Go.Id
open Go.Proofs
set_option linter.unusedVariables false
set_option maxRecDepth 100000
variable {X : Ctx Try.prog} {lo rb : Nat}
end Go.Proofs.Ytgcbfhdlfajemaa.Id
/- Contracts over the ideal memory: what is drawn from a code. -/
namespace Go.Proofs.Ytgcbfhdlfajemaa.Id
open Go.Id
open Go.Proofs
set_option linter.unusedVariables false
set_option maxRecDepth 100000
variable {X : Ctx Try.prog} {lo rb : Nat}
theorem l6Open_ok (a : Option Addr) (fl : Nat) (bs : List Nat) (h : Hp) (hs : Sls h uE 1 a bs) (hn : bs.length ≤ 1048576) (hb : ∀ b ∈ bs, b < 256) : Tri X lo 45 [.slice a bs.length fl] h (fun v h' => v = .pointer (some ⟨h.n, 0, none⟩) ∧ Rd lo h' h.n 0 ∧ Ext h h') := by
  refine enter tbOk mtOk ⟨[10], []⟩ 400 Try.func45 rfl rfl rfl fun hlo => ?_
  refine cnd (fun c1 => ?_) (fun c1 => ?_)
  · have c1 : (2000 : Int) < bs.length := by simpa using c1
    obtain ⟨ad, rfl⟩ := hs.some (show 0 < bs.length by omega)
    refine And.intro ⟨by decide, by decide, by omega⟩ ?_
    have hl : (bs.take 2000).length = 2000 := by rw [List.length_take]; omega
    have cut : ∀ fl' : Nat, Bx (h.push (.cells [.slice (some ad) (bs.take 2000).length fl', .int .i64 0] 0 0)) h.n [.slice (some ad) (bs.take 2000).length fl', .int .i64 0] → Rd lo (h.push (.cells [.slice (some ad) (bs.take 2000).length fl', .int .i64 0] 0 0)) h.n 0 := fun fl' hb' => by
      refine ⟨⟨some ad, fl', bs.take 2000, hb', ?_, by omega, fun b hb' => hb b (List.mem_of_mem_take hb'), fun ad' e => by cases e; exact hs.1⟩, hlo, by omega⟩
      have h1 : Sls h uE 1 (some ad) (bs.take 2000) := by
        obtain ⟨q1, c, sz, q2, q3⟩ := hs
        refine ⟨q1, c, sz, q2, ?_⟩
        obtain ⟨g1, g2⟩ := sub_some q3
        have hfl : (bs.take 2000).flatMap uE = (bs.flatMap uE).take 2000 := by
          have : ∀ (l : List Nat) (n : Nat), (l.take n).flatMap uE = (l.flatMap uE).take n := by
            intro l
            induction l with
            | nil => intro n; simp
            | cons x l ih => intro n; cases n with
              | zero => simp
              | succ n => simp [uE, ih]
          exact this bs 2000
        rw [hl]
        unfold sub?
        rw [if_pos (by omega), hfl, g2, List.take_take, Nat.min_eq_left (by omega)]
      exact h1.ext (Ext.push _ _)
    rw [hl] at cut
    refine .inl ⟨by decide, ?_⟩
    exact ⟨rfl, cut _ Bx.push, Ext.push _ _⟩
  · have c1 : bs.length ≤ 2000 := by simp at c1; omega
    refine ⟨rfl, ⟨⟨a, fl, bs, Bx.push, hs.ext (Ext.push _ _), c1, hb, fun ad e => ?_⟩, hlo, by omega⟩, Ext.push _ _⟩
    subst e; exact hs.1
/-- A grid, drawn. -/
def DrawnG (h : Hp) (v : Value) (h' : Hp) : Prop := ∃ (g : Gd) (a : Option Addr) (fl : Nat), v = .agg #[.int .i64 g.w, .slice a g.cs.length fl] ∧ Dw h.n h' (.slice a g.cs.length fl) g.cs ∧ g.cs.length ≤ 40 ∧ Ext h h'
end Go.Proofs.Ytgcbfhdlfajemaa.Id
/- Contracts over the ideal memory: the laws' own words on grids. -/
namespace Go.Proofs.Ytgcbfhdlfajemaa.Id
open Go.Id
open Go.Proofs
set_option linter.unusedVariables false
set_option maxRecDepth 100000
variable {X : Ctx Try.prog} {lo : Nat}
theorem szCellS_ok (a : Option Addr) (n fl : Nat) (m : Int) (h : Hp) (hm : 0 ≤ m ∧ m ≤ 1048576) (hn : n ≤ 9223372036854775807) : Tri X lo 32 [.slice a n fl, .int .i64 m] h fun v h' => v = .int .i64 (if (n : Int) ≤ m then m - n else -1) ∧ h' = h := by
  refine enter tbOk mtOk ⟨[], []⟩ 400 Try.func32 rfl rfl rfl fun hlo => ?_
  have hw : IntKind.i64.wrap (m - n) = m - n := wr (by omega) (by omega)
  refine cnd (fun c1 => ?_) (fun c1 => ?_)
  · rw [hw] at c1
    have c1 : m - n < 0 := by simpa using c1
    rw [if_neg (by omega)]; exact ⟨rfl, rfl⟩
  · rw [hw] at c1
    have c1 : ¬ m - n < 0 := by simpa using c1
    rw [if_pos (by omega)]
    refine And.intro ?_ rfl
    rw [hw]
theorem szGrid_ok (w : Int) (a : Option Addr) (n fl : Nat) (m : Int) (h : Hp) (hm : 0 ≤ m ∧ m ≤ 1048576) (hn : n ≤ 9223372036854775807) : Tri X lo 7 [.agg #[.int .i64 w, .slice a n fl], .int .i64 m] h fun v h' => v = .int .i64 (if (n : Int) ≤ m then m - n else -1) ∧ h' = h := by
  refine enter tbOk mtOk ⟨[], []⟩ 400 Try.func7 rfl rfl rfl fun hlo => ?_
  refine callP (szCellS_ok a n fl m h hm hn) ?_
  rintro v h1 ⟨rfl, rfl⟩
  refine cnd (fun c1 => ?_) (fun c1 => ?_)
  · by_cases q : (n : Int) ≤ m
    · rw [if_pos q] at c1; simp at c1; omega
    · rw [if_neg q]; exact ⟨rfl, rfl⟩
  · exact ⟨rfl, rfl⟩
theorem toCell_ok (a b : Int) (h : Hp) : Tri X lo 57 [.agg #[.int .i64 a, .int .i64 b]] h fun v h' => v = .agg #[.int .i64 a, .int .i64 b] ∧ h' = h := by
  refine enter tbOk mtOk ⟨[], []⟩ 400 Try.func57 rfl rfl rfl fun hlo => ?_
  exact ⟨rfl, rfl⟩
theorem toCellS_ok (a : Option Addr) (fl : Nat) (cs : List Cl) (h : Hp) (hs : Sls h cE 2 a cs) (hn : cs.length ≤ 1048576) : Tri X lo 36 [.slice a cs.length fl] h fun v h' => ∃ b, v = .slice (some ⟨b, 0, some 0⟩) cs.length 1 ∧ lo ≤ b ∧ h.n ≤ b ∧ Row h' b 0 cE 2 cs ∧ Ext h h' := by
  refine enter tbOk mtOk ⟨[], []⟩ 400 Try.func36 rfl rfl rfl fun hlo => ?_
  refine And.intro ⟨by omega, by omega, by unfold Id.maxLen; omega⟩ ?_
  have r0 : Row (h.push (.cells (zeros [.int .i64 0, .int .i64 0] cs.length) 2 0)) h.n 0 cE 2 (List.replicate cs.length ((0, 0) : Cl)) := by rw [zeros_flat (enc := cE) (z := [.int .i64 0, .int .i64 0]) (x := ((0, 0) : Cl)) rfl cs.length]; exact Row.push
  refine loop (σ := Nat) tbOk mtOk ⟨[], []⟩ (fun i => [(4, .v (.int .i64 (i : Int))), (3, .v (.slice (some ⟨h.n, 0, some 0⟩) cs.length 1)), (0, .v (.slice a cs.length fl))]) (fun _ => []) (fun i h' => i ≤ cs.length ∧ Ext h h' ∧ Row h' h.n 0 cE 2 (cs.take i ++ List.replicate (cs.length - i) ((0, 0) : Cl))) (fun i => cs.length - i) 400 0 (fun _ => rfl) ⟨rfl, rfl, rfl, trivial⟩ trivial ⟨Nat.zero_le _, Ext.push _ _, by simpa using r0⟩ (fun i h' hI again => ?_)
  obtain ⟨i1, i2, i3⟩ := hI
  refine cnd (fun c1 => ?_) (fun c1 => ?_)
  · have c1 : i < cs.length := by simpa using c1
    obtain ⟨a, rfl⟩ := hs.some c1
    refine And.intro ⟨by omega, by omega⟩ ?_
    refine ⟨_, (hs.ext i2).ld cE2 c1, ?_⟩
    refine callP (toCell_ok cs[i].1 cs[i].2 h') ?_
    rintro v h1 ⟨rfl, rfl⟩
    refine And.intro ⟨by omega, by omega⟩ ?_
    have hli : i < (cs.take i ++ List.replicate (cs.length - i) ((0, 0) : Cl)).length := by simp; omega
    refine ⟨_, i3.st cE2 hlo hli cs[i], ?_⟩
    refine again (i + 1) _ _ _ (by omega) ⟨?_, rfl, rfl, trivial⟩ trivial ⟨by omega, i2.set (Nat.le_refl _) _, ?_⟩
    · show some (Sl.v (.int .i64 (IntKind.i64.wrap ((i : Int) + 1)))) = _
      rw [wr (by omega) (by omega)]; rfl
    · have e : cs.take (i + 1) ++ List.replicate (cs.length - (i + 1)) ((0, 0) : Cl) = (cs.take i ++ List.replicate (cs.length - i) ((0, 0) : Cl)).set i cs[i] := by
        rw [List.set_append_right _ _ (by simp; omega), List.take_succ_eq_append_getElem c1, List.append_assoc]
        congr 1
        rw [List.length_take, Nat.min_eq_left (by omega), Nat.sub_self, show cs.length - i = (cs.length - (i + 1)) + 1 from by omega, List.replicate_succ]
        rfl
      rw [e]
      exact Row.set i3.lt
  · have c1 : cs.length = i := by simp at c1; omega
    rw [← c1, List.take_length, Nat.sub_self, List.replicate_zero, List.append_nil] at i3
    exact ⟨h.n, rfl, hlo, Nat.le_refl _, i3, i2⟩
/-- A grid, anew. -/
theorem toGrid_ok (g : Gd) (a : Option Addr) (fl : Nat) (h : Hp) (hs : Sls h cE 2 a g.cs) (hn : g.cs.length ≤ 1048576) : Tri X lo 9 [.agg #[.int .i64 g.w, .slice a g.cs.length fl]] h fun v h' => ∃ b, v = .agg #[.int .i64 g.w, .slice (some ⟨b, 0, some 0⟩) g.cs.length 1] ∧ lo ≤ b ∧ h.n ≤ b ∧ Row h' b 0 cE 2 g.cs ∧ Ext h h' := by
  refine enter tbOk mtOk ⟨[], []⟩ 400 Try.func9 rfl rfl rfl fun hlo => ?_
  refine callP (toCellS_ok a fl g.cs h hs hn) ?_
  rintro v h1 ⟨b, rfl, q1, q2, q3, q4⟩
  exact ⟨b, rfl, q1, q2, q3, q4⟩
theorem eqCell_ok (c d : Cl) (h : Hp) : Tri X lo 65 [.agg #[.int .i64 c.1, .int .i64 c.2], .agg #[.int .i64 d.1, .int .i64 d.2]] h fun v h' => v = .bool (decide (c = d)) ∧ h' = h := by
  refine enter tbOk mtOk ⟨[], []⟩ 400 Try.func65 rfl rfl rfl fun hlo => ?_
  obtain ⟨c1, c2⟩ := c
  obtain ⟨d1, d2⟩ := d
  refine cnd (fun e1 => ?_) (fun e1 => ?_)
  · have e1 : c1 ≠ d1 := by simpa using e1
    exact And.intro (by rw [decide_eq_false (fun e => e1 (congrArg Prod.fst e))]) rfl
  · have e1 : c1 = d1 := by simpa using e1
    refine cnd (fun e2 => ?_) (fun e2 => ?_)
    · have e2 : c2 ≠ d2 := by simpa using e2
      exact And.intro (by rw [decide_eq_false (fun e => e2 (congrArg Prod.snd e))]) rfl
    · have e2 : c2 = d2 := by simpa using e2
      exact And.intro (by rw [e1, e2]; simp) rfl
theorem take_eq {α : Type} {cs ds : List α} {i : Nat} (h1 : i < cs.length) (h2 : i < ds.length) (h : cs.take i = ds.take i) (e : cs[i] = ds[i]) : cs.take (i + 1) = ds.take (i + 1) := by
  rw [List.take_succ_eq_append_getElem h1, List.take_succ_eq_append_getElem h2, h, e]
theorem eqCellS_ok (a b : Option Addr) (fl fl' : Nat) (cs ds : List Cl) (h : Hp) (hs : Sls h cE 2 a cs) (hs' : Sls h cE 2 b ds) (hn : cs.length ≤ 1048576) : Tri X lo 40 [.slice a cs.length fl, .slice b ds.length fl'] h fun v h' => v = .bool (decide (cs = ds)) ∧ h' = h := by
  refine enter tbOk mtOk ⟨[], [(6, [0, 1, 2, 3, 4, 5, 6, 7, 8, 9], [0, 0, 3, 7, 0, 0, 48, 112, 255, 511])]⟩ 400 Try.func40 rfl rfl rfl fun hlo => ?_
  refine cnd (fun c1 => ?_) (fun c1 => ?_)
  · have c1 : cs.length ≠ ds.length := by simp at c1; omega
    exact And.intro (by rw [decide_eq_false (fun e => c1 (congrArg List.length e))]) rfl
  · have c1 : cs.length = ds.length := by simp at c1; omega
    refine loop (σ := Nat) tbOk mtOk ⟨[], [(6, [0, 1, 2, 3, 4, 5, 6, 7, 8, 9], [0, 0, 3, 7, 0, 0, 48, 112, 255, 511])]⟩ (fun i => [(5, .v (.int .i64 (i : Int))), (0, .v (.slice a cs.length fl)), (1, .v (.slice b ds.length fl'))]) (fun _ => []) (fun i h' => i ≤ cs.length ∧ h' = h ∧ cs.take i = ds.take i) (fun i => cs.length - i) 400 0 (fun _ => rfl) ⟨rfl, rfl, rfl, trivial⟩ trivial ⟨Nat.zero_le _, rfl, rfl⟩ (fun i h' hI again => ?_)
    obtain ⟨i1, rfl, i3⟩ := hI
    refine cnd (fun c2 => ?_) (fun c2 => ?_)
    · have c2 : i < cs.length := by simpa using c2
      have c2' : i < ds.length := by omega
      obtain ⟨a, rfl⟩ := hs.some c2
      obtain ⟨b, rfl⟩ := hs'.some c2'
      refine And.intro (by kernel_rfl) ?_
      refine And.intro ⟨by omega, by omega⟩ ?_
      refine ⟨_, hs.ld cE2 c2, ?_⟩
      refine And.intro ⟨by omega, by omega⟩ ?_
      refine ⟨_, hs'.ld cE2 c2', ?_⟩
      refine callP (eqCell_ok cs[i] ds[i] _) ?_
      rintro v h1 ⟨rfl, rfl⟩
      refine cnd (fun c3 => ?_) (fun c3 => ?_)
      · have c3 : cs[i] ≠ ds[i] := by simpa using c3
        refine And.intro ?_ rfl
        rw [decide_eq_false (fun e => c3 (by subst e; rfl))]
      · have c3 : cs[i] = ds[i] := by simpa using c3
        refine again (i + 1) _ _ _ (by omega) ⟨?_, rfl, rfl, trivial⟩ trivial ⟨by omega, rfl, take_eq c2 c2' i3 c3⟩
        show some (Sl.v (.int .i64 (IntKind.i64.wrap ((i : Int) + 1)))) = _
        rw [wr (by omega) (by omega)]; rfl
    · have c2 : cs.length = i := by simp at c2; omega
      refine And.intro ?_ rfl
      rw [← c2, List.take_length, c1, List.take_length] at i3
      rw [i3]; simp
theorem eqIntS_ok (a b : Option Addr) (fl fl' : Nat) (cs ds : List Int) (h : Hp) (hs : Sls h iE 1 a cs) (hs' : Sls h iE 1 b ds) (hn : cs.length ≤ 1048576) : Tri X lo 11 [.slice a cs.length fl, .slice b ds.length fl'] h fun v h' => v = .bool (decide (cs = ds)) ∧ h' = h := by
  refine enter tbOk mtOk ⟨[], [(6, [0, 1, 2, 3, 4, 5, 6, 7, 8], [0, 0, 3, 7, 0, 0, 48, 112, 255])]⟩ 400 Try.func11 rfl rfl rfl fun hlo => ?_
  refine cnd (fun c1 => ?_) (fun c1 => ?_)
  · have c1 : cs.length ≠ ds.length := by simp at c1; omega
    exact And.intro (by rw [decide_eq_false (fun e => c1 (congrArg List.length e))]) rfl
  · have c1 : cs.length = ds.length := by simp at c1; omega
    refine loop (σ := Nat) tbOk mtOk ⟨[], [(6, [0, 1, 2, 3, 4, 5, 6, 7, 8], [0, 0, 3, 7, 0, 0, 48, 112, 255])]⟩ (fun i => [(5, .v (.int .i64 (i : Int))), (0, .v (.slice a cs.length fl)), (1, .v (.slice b ds.length fl'))]) (fun _ => []) (fun i h' => i ≤ cs.length ∧ h' = h ∧ cs.take i = ds.take i) (fun i => cs.length - i) 400 0 (fun _ => rfl) ⟨rfl, rfl, rfl, trivial⟩ trivial ⟨Nat.zero_le _, rfl, rfl⟩ (fun i h' hI again => ?_)
    obtain ⟨i1, rfl, i3⟩ := hI
    refine cnd (fun c2 => ?_) (fun c2 => ?_)
    · have c2 : i < cs.length := by simpa using c2
      have c2' : i < ds.length := by omega
      obtain ⟨a, rfl⟩ := hs.some c2
      obtain ⟨b, rfl⟩ := hs'.some c2'
      refine And.intro (by kernel_rfl) ?_
      refine And.intro ⟨by omega, by omega⟩ ?_
      refine ⟨_, hs.ld (fun _ => rfl) c2, ?_⟩
      refine And.intro ⟨by omega, by omega⟩ ?_
      refine ⟨_, hs'.ld (fun _ => rfl) c2', ?_⟩
      refine cnd (fun c3 => ?_) (fun c3 => ?_)
      · have c3 : cs[i] ≠ ds[i] := by simpa using c3
        refine And.intro ?_ rfl
        rw [decide_eq_false (fun e => c3 (by subst e; rfl))]
      · have c3 : cs[i] = ds[i] := by simpa using c3
        refine again (i + 1) _ _ _ (by omega) ⟨?_, rfl, rfl, trivial⟩ trivial ⟨by omega, rfl, take_eq c2 c2' i3 c3⟩
        show some (Sl.v (.int .i64 (IntKind.i64.wrap ((i : Int) + 1)))) = _
        rw [wr (by omega) (by omega)]; rfl
    · have c2 : cs.length = i := by simp at c2; omega
      refine And.intro ?_ rfl
      rw [← c2, List.take_length, c1, List.take_length] at i3
      rw [i3]; simp
instance : DecidableEq Gd := fun a b => if h : a.w = b.w ∧ a.cs = b.cs then isTrue (by cases a; cases b; simp only at h; rw [h.1, h.2]) else isFalse fun e => h (by subst e; exact ⟨rfl, rfl⟩)
theorem eqGrid_ok (g g' : Gd) (a b : Option Addr) (fl fl' : Nat) (h : Hp) (hs : Sls h cE 2 a g.cs) (hs' : Sls h cE 2 b g'.cs) (hn : g.cs.length ≤ 1048576) : Tri X lo 12 [.agg #[.int .i64 g.w, .slice a g.cs.length fl], .agg #[.int .i64 g'.w, .slice b g'.cs.length fl']] h fun v h' => v = .bool (decide (g = g')) ∧ h' = h := by
  refine enter tbOk mtOk ⟨[], []⟩ 400 Try.func12 rfl rfl rfl fun hlo => ?_
  obtain ⟨w, cs⟩ := g
  obtain ⟨w', cs'⟩ := g'
  refine cnd (fun e1 => ?_) (fun e1 => ?_)
  · have e1 : w ≠ w' := by simpa using e1
    exact And.intro (by rw [decide_eq_false (fun e => e1 (congrArg Gd.w e))]) rfl
  · have e1 : w = w' := by simpa using e1
    refine callP (eqCellS_ok a b fl fl' cs cs' h hs hs' hn) ?_
    rintro v h1 ⟨rfl, rfl⟩
    refine cnd (fun e2 => ?_) (fun e2 => ?_)
    · have e2 : cs ≠ cs' := by simpa using e2
      exact And.intro (by rw [decide_eq_false (fun e => e2 (congrArg Gd.cs e))]) rfl
    · have e2 : cs = cs' := by simpa using e2
      exact And.intro (by rw [e1, e2]; simp) rfl
def marks (k : Int) (n : Nat) : List Int := (List.range n).map fun (i : Nat) => k + i
theorem marks_len (k : Int) (n : Nat) : (marks k n).length = n := by simp [marks]
theorem marks_get (k : Int) (n i : Nat) (hi : i < (marks k n).length) : (marks k n)[i] = k + i := by simp [marks]
theorem marks_set (k : Int) {l : List Int} {i : Nat} (hi : i < l.length) : (marks k i ++ l.drop i).set i (k + i) = marks k (i + 1) ++ l.drop (i + 1) := by
  rw [List.set_append_right _ _ (by rw [marks_len]; exact Nat.le_refl _), marks_len, Nat.sub_self, List.drop_eq_getElem_cons hi, List.set_cons_zero]
  simp [marks, List.range_succ]
/-- All places are marked. -/
theorem markIntS_ok (o : Option (Nat × Nat)) (l : List Int) (k : Int) (h : Hp) (hg : Gx lo h iE 1 o l) (hn : l.length ≤ 1048576) (hk : 0 ≤ k ∧ k ≤ 2 ^ 40) : Tri X lo 14 [gv o l.length, .int .i64 k] h fun v h' => v = .int .i64 (k + l.length) ∧ Gx lo h' iE 1 o (marks k l.length) ∧ h'.n = h.n ∧ ∀ i, ¬isB o i → h'.g i = h.g i := by
  match o, hg with
  | none, hg =>
    have hg : l = [] := hg
    subst hg
    refine enter tbOk mtOk ⟨[], []⟩ 400 Try.func14 rfl rfl rfl fun hlo => ?_
    refine loop (σ := Unit) tbOk mtOk ⟨[], []⟩ (fun i => [(5, .v (.int .i64 0)), (0, .v (.slice none 0 0)), (1, .v (.int .i64 k))]) (fun _ => []) (fun _ h' => h' = h) (fun _ => 0) 400 () (fun _ => rfl) ⟨rfl, rfl, rfl, trivial⟩ trivial rfl (fun i h' hI again => ?_)
    subst hI
    refine cndF ?_
    exact ⟨by simp, rfl, rfl, fun _ _ => rfl⟩
  | some (b, e), ⟨g1, g2⟩ =>
    refine enter tbOk mtOk ⟨[], []⟩ 400 Try.func14 rfl rfl rfl fun hlo => ?_
    refine loop (σ := Nat) tbOk mtOk ⟨[], []⟩ (fun i => [(5, .v (.int .i64 (i : Int))), (0, .v (.slice (some ⟨b, 0, some e⟩) l.length 1)), (1, .v (.int .i64 (k + i)))]) (fun _ => []) (fun i h' => i ≤ l.length ∧ Row h' b e iE 1 (marks k i ++ l.drop i) ∧ h'.n = h.n ∧ ∀ j, ¬isB (some (b, e)) j → h'.g j = h.g j) (fun i => l.length - i) 400 0 (fun _ => rfl) ⟨rfl, rfl, ?_, trivial⟩ trivial ⟨Nat.zero_le _, g2, rfl, fun _ _ => rfl⟩ (fun i h' hI again => ?_)
    · show some (Sl.v (.int .i64 k)) = some (Sl.v (.int .i64 (k + ((0 : Nat) : Int))))
      simp
    obtain ⟨i1, i2, i3, i4⟩ := hI
    refine cnd (fun c1 => ?_) (fun c1 => ?_)
    · have c1 : i < l.length := by simp at c1; omega
      refine And.intro ⟨by omega, by omega⟩ ?_
      refine ⟨_, i2.st (fun _ => rfl) g1 (j := i) (by simp [marks]; omega) (k + i), ?_⟩
      refine again (i + 1) _ _ _ (by omega) ⟨?_, rfl, ?_, trivial⟩ trivial ⟨by omega, ?_, i3, fun j hj => ?_⟩
      · show some (Sl.v (.int .i64 (IntKind.i64.wrap ((i : Int) + 1)))) = _
        rw [wr (by omega) (by omega)]; rfl
      · show some (Sl.v (.int .i64 (IntKind.i64.wrap (k + (i : Int) + 1)))) = some (Sl.v (.int .i64 (k + ((i + 1 : Nat) : Int))))
        rw [wr (by omega) (by omega), Int.add_assoc]; rfl
      · rw [← marks_set k c1]
        exact Row.set i2.lt
      · simp only [Hp.set]
        rw [if_neg (fun e => hj ⟨_, by rw [e]⟩)]
        exact i4 j hj
    · have c1 : l.length = i := by simp at c1; omega
      rw [← c1, List.drop_length, List.append_nil] at i2
      refine ⟨by rw [c1], ⟨g1, i2⟩, i3, i4⟩
/-- The marks are there still. -/
theorem heldIntS_ok (a : Option Addr) (fl n : Nat) (k : Int) (h : Hp) (hs : Sls h iE 1 a (marks k n)) (hn : n ≤ 1048576) (hk : 0 ≤ k ∧ k ≤ 2 ^ 40) : Tri X lo 15 [.slice a n fl, .int .i64 k] h fun v h' => v = .int .i64 (k + n) ∧ h' = h := by
  refine enter tbOk mtOk ⟨[], []⟩ 400 Try.func15 rfl rfl rfl fun hlo => ?_
  refine loop (σ := Nat) tbOk mtOk ⟨[], []⟩ (fun i => [(5, .v (.int .i64 (i : Int))), (0, .v (.slice a n fl)), (1, .v (.int .i64 (k + i)))]) (fun _ => []) (fun i h' => i ≤ n ∧ h' = h) (fun i => n - i) 400 0 (fun _ => rfl) ⟨rfl, rfl, ?_, trivial⟩ trivial ⟨Nat.zero_le _, rfl⟩ (fun i h' hI again => ?_)
  · show some (Sl.v (.int .i64 k)) = some (Sl.v (.int .i64 (k + ((0 : Nat) : Int))))
    simp
  obtain ⟨i1, rfl⟩ := hI
  refine cnd (fun c1 => ?_) (fun c1 => ?_)
  · have c1 : i < n := by simp at c1; omega
    have hi : i < (marks k n).length := by rw [marks_len]; exact c1
    obtain ⟨a, rfl⟩ := hs.some hi
    have hld := hs.ld (fun _ => rfl) hi
    rw [marks_get] at hld
    refine And.intro ⟨by omega, by omega⟩ ?_
    refine ⟨_, hld, ?_⟩
    refine cnd (fun c2 => ?_) (fun c2 => ?_)
    · simp at c2
    · refine again (i + 1) _ _ _ (by omega) ⟨?_, rfl, ?_, trivial⟩ trivial ⟨by omega, rfl⟩
      · show some (Sl.v (.int .i64 (IntKind.i64.wrap ((i : Int) + 1)))) = _
        rw [wr (by omega) (by omega)]; rfl
      · show some (Sl.v (.int .i64 (IntKind.i64.wrap (k + (i : Int) + 1)))) = some (Sl.v (.int .i64 (k + ((i + 1 : Nat) : Int))))
        rw [wr (by omega) (by omega), Int.add_assoc]; rfl
  · have c1 : n = i := by simp at c1; omega
    exact ⟨by rw [c1], rfl⟩
theorem markCellS_ok (b e : Nat) (l : List Cl) (k : Int) (h : Hp) (hb : lo ≤ b) (hr : Row h b e cE 2 l) (hn : l.length ≤ 1048576) (hk : 0 ≤ k ∧ k ≤ 2 ^ 40) : Tri X lo 41 [.slice (some ⟨b, 0, some e⟩) l.length 1, .int .i64 k] h fun v h' => v = .int .i64 (k + 2 * l.length) ∧ h'.n = h.n ∧ ∀ i, i ≠ b → h'.g i = h.g i := by
  refine enter tbOk mtOk ⟨[], []⟩ 400 Try.func41 rfl rfl rfl fun hlo => ?_
  refine loop (σ := Nat) tbOk mtOk ⟨[], []⟩ (fun i => [(5, .v (.int .i64 (i : Int))), (0, .v (.slice (some ⟨b, 0, some e⟩) l.length 1)), (1, .v (.int .i64 (k + 2 * i)))]) (fun _ => []) (fun i h' => i ≤ l.length ∧ (∃ m : List Cl, m.length = l.length ∧ Row h' b e cE 2 m) ∧ h'.n = h.n ∧ ∀ j, j ≠ b → h'.g j = h.g j) (fun i => l.length - i) 400 0 (fun _ => rfl) ⟨rfl, rfl, ?_, trivial⟩ trivial ⟨Nat.zero_le _, ⟨l, rfl, hr⟩, rfl, fun _ _ => rfl⟩ (fun i h' hI again => ?_)
  · show some (Sl.v (.int .i64 k)) = some (Sl.v (.int .i64 (k + 2 * ((0 : Nat) : Int))))
    simp
  obtain ⟨i1, ⟨m, hm, i2⟩, i3, i4⟩ := hI
  refine cnd (fun c1 => ?_) (fun c1 => ?_)
  · have c1 : i < l.length := by simp at c1; omega
    have ci : i < m.length := by omega
    refine And.intro ⟨by omega, by omega⟩ ?_
    refine ⟨_, i2.stF cE2 hb (f := 0) (ys := [.int .i64 (k + 2 * i)]) (x := (k + 2 * i, m[i].2)) ci (Nat.le_of_ble_eq_true rfl) rfl, ?_⟩
    have r2 : Row (h'.set b (.cells ((m.set i (k + 2 * (i : Int), m[i].2)).flatMap cE) 2 e)) b e cE 2 (m.set i (k + 2 * (i : Int), m[i].2)) := Row.set i2.lt
    have hw : IntKind.i64.wrap (k + 2 * (i : Int) + 1) = k + 2 * (i : Int) + 1 := wr (by omega) (by omega)
    refine And.intro ⟨by omega, by omega⟩ ?_
    have ci2 : i < (m.set i (k + 2 * (i : Int), m[i].2)).length := by rw [List.length_set]; exact ci
    refine ⟨_, r2.stF cE2 hb (f := 1) (ys := [.int .i64 (IntKind.i64.wrap (k + 2 * (i : Int) + 1))]) (x := (k + 2 * i, IntKind.i64.wrap (k + 2 * (i : Int) + 1))) ci2 (Nat.le_of_ble_eq_true rfl) (by simp [cE, setL]), ?_⟩
    refine again (i + 1) _ _ _ (by omega) ⟨?_, rfl, ?_, trivial⟩ trivial ⟨by omega, ⟨_, ?_, Row.set r2.lt⟩, i3, fun j hj => ?_⟩
    · show some (Sl.v (.int .i64 (IntKind.i64.wrap ((i : Int) + 1)))) = _
      rw [wr (by omega) (by omega)]; rfl
    · show some (Sl.v (.int .i64 (IntKind.i64.wrap (IntKind.i64.wrap (k + 2 * (i : Int) + 1) + 1)))) = some (Sl.v (.int .i64 (k + 2 * ((i + 1 : Nat) : Int))))
      rw [hw, wr (by omega) (by omega)]
      congr 3; omega
    · rw [List.length_set, List.length_set]; exact hm
    · simp only [Hp.set]
      rw [if_neg hj, if_neg hj]; exact i4 j hj
  · have c1 : l.length = i := by simp at c1; omega
    exact ⟨by rw [c1], i3, i4⟩
theorem markGrid_ok (w : Int) (b e : Nat) (l : List Cl) (k : Int) (h : Hp) (hb : lo ≤ b) (hr : Row h b e cE 2 l) (hn : l.length ≤ 1048576) (hk : 0 ≤ k ∧ k ≤ 2 ^ 40) : Tri X lo 13 [.agg #[.int .i64 w, .slice (some ⟨b, 0, some e⟩) l.length 1], .int .i64 k] h fun v h' => v = .int .i64 (k + 2 * l.length) ∧ h'.n = h.n ∧ ∀ i, i ≠ b → h'.g i = h.g i := by
  refine enter tbOk mtOk ⟨[], []⟩ 400 Try.func13 rfl rfl rfl fun hlo => ?_
  refine callP (markCellS_ok b e l k h hb hr hn hk) ?_
  rintro v h1 q
  obtain ⟨rfl, q2⟩ := q
  exact ⟨rfl, q2⟩
theorem gx_sl {α : Type} {h : Hp} {enc : α → List Value} {sz : Nat} {o : Option (Nat × Nat)} {l : List α} (g : Gx lo h enc sz o l) (he : ∀ x, (enc x).length = sz) : ∃ a fl, gv o l.length = .slice a l.length fl ∧ Sls h enc sz a l := by
  match o, g with
  | none, g => exact ⟨none, 0, by rw [show l = [] from g]; rfl, g⟩
  | some (b, e), g => exact ⟨_, 1, rfl, g.2.sls he⟩
theorem eqIntS_gx {o o' : Option (Nat × Nat)} {cs ds : List Int} {h : Hp} {lo' lo'' : Nat} (hs : Gx lo' h iE 1 o cs) (hs' : Gx lo'' h iE 1 o' ds) (hn : cs.length ≤ 1048576) : Tri X lo 11 [gv o cs.length, gv o' ds.length] h fun v h' => v = .bool (decide (cs = ds)) ∧ h' = h := by
  obtain ⟨a, fl, p1, p2⟩ := gx_sl hs fun _ => rfl
  obtain ⟨b, fl', p3, p4⟩ := gx_sl hs' fun _ => rfl
  rw [p1, p3]
  exact eqIntS_ok a b fl fl' cs ds h p2 p4 hn
theorem heldIntS_gx {o : Option (Nat × Nat)} {n : Nat} {k : Int} {h : Hp} {lo' : Nat} (hs : Gx lo' h iE 1 o (marks k n)) (hn : n ≤ 1048576) (hk : 0 ≤ k ∧ k ≤ 2 ^ 40) : Tri X lo 15 [gv o n, .int .i64 k] h fun v h' => v = .int .i64 (k + n) ∧ h' = h := by
  obtain ⟨a, fl, p1, p2⟩ := gx_sl hs fun _ => rfl
  rw [marks_len] at p1
  rw [p1]
  exact heldIntS_ok a fl n k h p2 hn hk
end Go.Proofs.Ytgcbfhdlfajemaa.Id
/- Contracts over the ideal memory: the laws' words ll.. -/
namespace Go.Proofs.Ytgcbfhdlfajemaa.Id
open Go.Id
open Go.Proofs
set_option linter.unusedVariables false
set_option maxRecDepth 100000
variable {X : Ctx Try.prog} {lo : Nat}
theorem llInts_ok (a b : Option Addr) (fl fl' : Nat) (cs ds : List Int) (h : Hp) (hs : Sls h iE 1 a cs) (hs' : Sls h iE 1 b ds) (hn : cs.length ≤ 1048576) : Tri X lo 17 [.slice a cs.length fl, .slice b ds.length fl'] h fun v h' => v = .bool (decide (cs = ds)) ∧ h' = h := by
  refine enter tbOk mtOk ⟨[], [(6, [0, 1, 2, 3, 4, 5, 6, 7, 8], [0, 0, 3, 7, 0, 0, 48, 112, 255])]⟩ 400 Try.func17 rfl rfl rfl fun hlo => ?_
  refine cnd (fun c1 => ?_) (fun c1 => ?_)
  · have c1 : cs.length ≠ ds.length := by simp at c1; omega
    exact And.intro (by rw [decide_eq_false (fun e => c1 (congrArg List.length e))]) rfl
  · have c1 : cs.length = ds.length := by simp at c1; omega
    refine loop (σ := Nat) tbOk mtOk ⟨[], [(6, [0, 1, 2, 3, 4, 5, 6, 7, 8], [0, 0, 3, 7, 0, 0, 48, 112, 255])]⟩ (fun i => [(5, .v (.int .i64 (i : Int))), (0, .v (.slice a cs.length fl)), (1, .v (.slice b ds.length fl'))]) (fun _ => []) (fun i h' => i ≤ cs.length ∧ h' = h ∧ cs.take i = ds.take i) (fun i => cs.length - i) 400 0 (fun _ => rfl) ⟨rfl, rfl, rfl, trivial⟩ trivial ⟨Nat.zero_le _, rfl, rfl⟩ (fun i h' hI again => ?_)
    obtain ⟨i1, rfl, i3⟩ := hI
    refine cnd (fun c2 => ?_) (fun c2 => ?_)
    · have c2 : i < cs.length := by simpa using c2
      have c2' : i < ds.length := by omega
      obtain ⟨a, rfl⟩ := hs.some c2
      obtain ⟨b, rfl⟩ := hs'.some c2'
      refine And.intro (by kernel_rfl) ?_
      refine And.intro ⟨by omega, by omega⟩ ?_
      refine ⟨_, hs.ld (fun _ => rfl) c2, ?_⟩
      refine And.intro ⟨by omega, by omega⟩ ?_
      refine ⟨_, hs'.ld (fun _ => rfl) c2', ?_⟩
      refine cnd (fun c3 => ?_) (fun c3 => ?_)
      · have c3 : cs[i] ≠ ds[i] := by simpa using c3
        refine And.intro ?_ rfl
        rw [decide_eq_false (fun e => c3 (by subst e; rfl))]
      · have c3 : cs[i] = ds[i] := by simpa using c3
        refine again (i + 1) _ _ _ (by omega) ⟨?_, rfl, rfl, trivial⟩ trivial ⟨by omega, rfl, take_eq c2 c2' i3 c3⟩
        show some (Sl.v (.int .i64 (IntKind.i64.wrap ((i : Int) + 1)))) = _
        rw [wr (by omega) (by omega)]; rfl
    · have c2 : cs.length = i := by simp at c2; omega
      refine And.intro ?_ rfl
      rw [← c2, List.take_length, c1, List.take_length] at i3
      rw [i3]; simp
instance : DecidableEq Gd := fun a b => if h : a.w = b.w ∧ a.cs = b.cs then isTrue (by cases a; cases b; simp only at h; rw [h.1, h.2]) else isFalse fun e => h (by subst e; exact ⟨rfl, rfl⟩)
theorem llInts_gx {o o' : Option (Nat × Nat)} {cs ds : List Int} {h : Hp} {lo' lo'' : Nat} (hs : Gx lo' h iE 1 o cs) (hs' : Gx lo'' h iE 1 o' ds) (hn : cs.length ≤ 1048576) : Tri X lo 17 [gv o cs.length, gv o' ds.length] h fun v h' => v = .bool (decide (cs = ds)) ∧ h' = h := by
  obtain ⟨a, fl, p1, p2⟩ := gx_sl hs fun _ => rfl
  obtain ⟨b, fl', p3, p4⟩ := gx_sl hs' fun _ => rfl
  rw [p1, p3]
  exact llInts_ok a b fl fl' cs ds h p2 p4 hn
end Go.Proofs.Ytgcbfhdlfajemaa.Id
/- Contracts over the ideal memory: a sight that is drawn; the laws' helpers on sights. -/
namespace Go.Proofs.Ytgcbfhdlfajemaa.Id
open Go.Id
open Go.Proofs
set_option linter.unusedVariables false
set_option maxRecDepth 100000
variable {X : Ctx Try.prog} {lo : Nat}
theorem sSightMany_ok (g : Gd) (ad : Option Addr) (fl : Nat) (h : Hp) (hs : Sls h cE 2 ad g.cs) (hn : (g.cs.length : Int) < 2 ^ 31) : Tri X lo 43 [.agg #[.int .i64 g.w, .slice ad g.cs.length fl]] h fun v h' => v = .int .i64 (if gOk g then many g else 0) ∧ Ext h h' := by
  refine enter tbOk mtOk ⟨[], []⟩ 400 Try.func43 rfl rfl rfl fun hlo => ?_
  refine callP (sGridOk_ok g.w ad fl g.cs h hs hn) ?_
  rintro v h1 ⟨rfl, e1⟩
  refine cnd (fun c1 => ?_) (fun c1 => ?_)
  · have hg : gOk g = false := by simpa using c1
    refine And.intro ?_ e1
    rw [hg]; rfl
  · have hg : gOk g = true := by simpa using c1
    refine callP (l3Many_ok g ad fl h1 hg hn) ?_
    rintro v h2 ⟨rfl, e2⟩
    refine And.intro ?_ (e1.trans e2)
    rw [hg]; rfl
theorem l71Sight_ok (rb : Nat) (p : Int) (g : Gd) (ad : Option Addr) (fl : Nat) (h : Hp) (r : Rd lo h rb p) (hp : p + 3 ≤ 1000000000) (hs : Sls h cE 2 ad g.cs) (hn : (g.cs.length : Int) < 2 ^ 31) : Tri X lo 67 [.pointer (some ⟨rb, 0, none⟩), .agg #[.int .i64 g.w, .slice ad g.cs.length fl]] h fun v h' => (∃ k : Int, v = .int .i64 k ∧ -1 ≤ k ∧ k ≤ 20) ∧ Ext1 rb h h' := by
  refine enter tbOk mtOk ⟨[], []⟩ 400 Try.func67 rfl rfl rfl fun hlo => ?_
  refine callP (sSightMany_ok g ad fl h hs hn) ?_
  rintro v h1 ⟨rfl, e1⟩
  obtain ⟨n, hN, hn0, hn20⟩ : ∃ n : Int, n = (if gOk g then many g else 0) ∧ 0 ≤ n ∧ n ≤ 20 := by
    refine ⟨_, rfl, ?_⟩
    split
    · rename_i hg
      have := many_le g hg
      omega
    · omega
  rw [← hN]
  have r1 := r.ext e1
  have tail : ∀ (h2 : Hp), Ext1 rb h h2 → (∃ p', Rd lo h2 rb p' ∧ p' + 1 ≤ 1000000000) → Tri X lo 46 [.pointer (some ⟨rb, 0, none⟩), .int .i64 3] (h2.push (.cells [.int .i64 (-1), .int .i64 n, .int .i64 20] 1 0)) fun v h' => ∃ q : Int, v = .int .i64 q ∧ 0 ≤ q ∧ q < 3 ∧ Ext1 rb (h2.push (.cells [.int .i64 (-1), .int .i64 n, .int .i64 20] 1 0)) h' := fun h2 x2 ⟨p', r2, hp'⟩ => (pick_ok rb p' 3 _ (r2.ext (Ext.push _ _)) (by decide) hp').mono fun v h' ⟨q, a1, a2, a3, _, _, a6⟩ => ⟨q, a1, a2, a3 (by decide), a6⟩
  have lt := r1.lt
  have rdL : ∀ (h2 h3 : Hp) (q : Int), rb < h2.n → 0 ≤ q → q < 3 → Ext1 rb (h2.push (.cells [.int .i64 (-1), .int .i64 n, .int .i64 20] 1 0)) h3 → ∃ k : Int, Ld h3 (addA ⟨h2.n, 0, some 0⟩ (q.toNat * 1)) 1 (inE k) ∧ -1 ≤ k ∧ k ≤ 20 := fun h2 h3 q l2 q1 q2 x => by
    have r0 : Row (h2.push (.cells [.int .i64 (-1), .int .i64 n, .int .i64 20] 1 0)) h2.n 0 inE 1 [-1, n, 20] := Row.push (l := [-1, n, 20]) (enc := inE)
    have hj : q.toNat < [-1, n, 20].length := by show q.toNat < 3; omega
    refine ⟨_, ((r0.ext1 x (by omega)).sls (fun _ => rfl)).ld (fun _ => rfl) hj, ?_⟩
    have : ∀ y ∈ [-1, n, 20], -1 ≤ y ∧ y ≤ 20 := by
      intro y hy
      simp at hy
      rcases hy with rfl | rfl | rfl <;> omega
    exact this _ (List.getElem_mem hj)
  refine cnd (fun c1 => ?_) (fun c1 => ?_)
  · refine cndT ?_
    refine callP (tail h1 (e1.one rb) ⟨p, r1, by omega⟩) ?_
    rintro v h3 ⟨q, rfl, q1, q2, x3⟩
    obtain ⟨y, ld, y1, y2⟩ := rdL h1 h3 q lt q1 q2 x3
    refine And.intro ⟨q1, q2⟩ ?_
    refine ⟨_, ld, ?_⟩
    exact And.intro ⟨y, rfl, y1, y2⟩ (((e1.trans (Ext.push _ _)).one rb).trans x3)
  · have c1 : n ≠ 0 := of_decide_eq_false c1
    refine callP (pick_ok rb p 24 h1 r1 (by decide) (by omega)) ?_
    rintro v h2 ⟨q, rfl, q1, q2, q3, r2, x2⟩
    have l2 := r2.lt
    refine cnd (fun c2 => ?_) (fun c2 => ?_)
    · refine callP (tail h2 ((e1.one rb).trans x2) ⟨_, r2, by omega⟩) ?_
      rintro v h3 ⟨q', rfl, q1', q2', x3⟩
      obtain ⟨y, ld, y1, y2⟩ := rdL h2 h3 q' l2 q1' q2' x3
      refine And.intro ⟨q1', q2'⟩ ?_
      refine ⟨_, ld, ?_⟩
      exact And.intro ⟨y, rfl, y1, y2⟩ (((e1.one rb).trans x2).trans (((Ext.push _ _).one rb).trans x3))
    · refine callP (pick_ok rb (p + 1) n h2 r2 (by omega) (by omega)) ?_
      rintro v h3 ⟨q', rfl, q1', q2', q3', r3, x3⟩
      have q2' := q2' (by omega)
      exact And.intro ⟨q', rfl, by omega, by omega⟩ (((e1.one rb).trans x2).trans x3)
theorem llHas_ok (l : List Int) (a : Option Addr) (fl : Nat) (n : Int) (h : Hp) (hs : Sls h inE 1 a l) (hn : l.length ≤ 1048576) : Tri X lo 19 [.slice a l.length fl, .int .i64 n] h fun v h' => v = .bool (decide (n ∈ l)) ∧ h' = h := by
  refine enter tbOk mtOk ⟨[], []⟩ 400 Try.func19 rfl rfl rfl fun hlo => ?_
  refine loop (σ := Nat) tbOk mtOk ⟨[], []⟩ (fun i => [(5, .v (.int .i64 (i : Int))), (4, .v (.bool false)), (0, .v (.slice a l.length fl)), (1, .v (.int .i64 n))]) (fun _ => []) (fun i h' => i ≤ l.length ∧ h' = h ∧ n ∉ l.take i) (fun i => l.length - i) 400 0 (fun _ => rfl) ⟨rfl, rfl, rfl, rfl, trivial⟩ trivial ⟨Nat.zero_le _, rfl, by simp⟩ (fun i h' hI again => ?_)
  obtain ⟨i1, rfl, i3⟩ := hI
  refine cnd (fun c2 => ?_) (fun c2 => ?_)
  · have c2 : i < l.length := by simpa using c2
    obtain ⟨a, rfl⟩ := hs.some c2
    refine And.intro ⟨by omega, by omega⟩ ?_
    refine ⟨_, hs.ld (fun _ => rfl) c2, ?_⟩
    refine cnd (fun c3 => ?_) (fun c3 => ?_)
    · have c3 : l[i] = n := by simpa using c3
      refine And.intro ?_ rfl
      rw [decide_eq_true (c3 ▸ List.getElem_mem c2)]
    · have c3 : l[i] ≠ n := by simpa using c3
      have wq : IntKind.i64.wrap ((i : Int) + 1) = ((i + 1 : Nat) : Int) := wz (by omega) (by omega)
      refine again (i + 1) _ _ _ (by omega) ⟨vI wq, rfl, rfl, rfl, trivial⟩ trivial ⟨by omega, rfl, ?_⟩
      rw [List.take_succ_eq_append_getElem c2]
      intro hm
      rcases List.mem_append.1 hm with q | q
      · exact i3 q
      · exact c3 (List.mem_singleton.1 q).symm
  · have c2 : l.length = i := by simp at c2; omega
    refine And.intro ?_ rfl
    rw [← c2, List.take_length] at i3
    rw [decide_eq_false i3]
theorem TrailVisits_ok (g : Gd) (k : Int) (ad : Option Addr) (fl : Nat) (h : Hp) (hs : Sls h cE 2 ad g.cs) (hn : (g.cs.length : Int) < 2 ^ 31) : Tri X lo 18 [.agg #[.int .i64 g.w, .slice ad g.cs.length fl], .int .i64 k] h fun v h' => (∃ o, v = gv o (trail g k).1.length ∧ Gw h.n h' vE 3 o (trail g k).1) ∧ Ext h h' := by
  refine enter tbOk mtOk ⟨[], []⟩ 400 Try.func18 rfl rfl rfl fun hlo => ?_
  obtain ⟨hT, hm, _⟩ := trail_ok g k
  refine callP (trailOf_ok g k (trail g k) ad fl h hs hn hT hm) ?_
  rintro v h1 ⟨o1, o2, rfl, g1, g2, e1⟩
  exact And.intro ⟨o1, rfl, g1⟩ e1
/-- A grid and a sight, drawn. -/
def DrawnGK (h : Hp) (v : Value) (h' : Hp) : Prop := ∃ (g : Gd) (a : Option Addr) (fl : Nat) (k : Int), v = .tuple #[.agg #[.int .i64 g.w, .slice a g.cs.length fl], .int .i64 k] ∧ Dw h.n h' (.slice a g.cs.length fl) g.cs ∧ g.cs.length ≤ 40 ∧ (-1 ≤ k ∧ k ≤ 20) ∧ Ext h h'
theorem DrawSightRay_ok (a : Option Addr) (fl : Nat) (bs : List Nat) (h : Hp) (hs : Sls h uE 1 a bs) (hn : bs.length ≤ 1048576) (hb : ∀ b ∈ bs, b < 256) : Tri X lo 42 [.slice a bs.length fl] h (DrawnGK h) := by
  refine enter tbOk mtOk ⟨[], [(3, [0, 1, 2, 3, 4, 5], [0, 0, 0, 6, 15, 31])]⟩ 400 Try.func42 rfl rfl rfl fun hlo => ?_
  refine callP (l6Open_ok a fl bs h hs hn hb) ?_
  rintro v h1 ⟨rfl, r1, x1⟩
  refine callP (l71Some_ok h.n 0 h1 r1 (by decide)) ?_
  rintro v h2 ⟨w, sv, cs, p, rfl, w1, d, l, r2, i2, x2⟩
  obtain ⟨a', fl', rfl, _⟩ := id d
  have sl := d.sls.2
  refine And.intro (by kernel_rfl) ?_
  refine callP (l71Sight_ok h.n p ⟨w, cs⟩ a' fl' h2 r2 (by omega) sl (by show (cs.length : Int) < _; omega)) ?_
  rintro v h3 ⟨⟨k, rfl, k1, k2⟩, x3⟩
  refine And.intro Is.r ?_
  have n1 := r1.lt
  exact ⟨⟨w, cs⟩, a', fl', k, rfl, (d.keep x3 n1).mono x1.n, l, ⟨k1, k2⟩, (x2.trans x3).out x1 (Nat.le_refl _)⟩
theorem DrawTrailFoot_ok (a : Option Addr) (fl : Nat) (bs : List Nat) (h : Hp) (hs : Sls h uE 1 a bs) (hn : bs.length ≤ 1048576) (hb : ∀ b ∈ bs, b < 256) : Tri X lo 16 [.slice a bs.length fl] h (DrawnGK h) := by
  refine enter tbOk mtOk ⟨[], []⟩ 400 Try.func16 rfl rfl rfl fun hlo => ?_
  refine callP (DrawSightRay_ok a fl bs h hs hn hb) ?_
  rintro v h1 ⟨g, a', fl', k, rfl, q⟩
  exact ⟨g, a', fl', k, rfl, q⟩
theorem DrawTrailEnds_ok (a : Option Addr) (fl : Nat) (bs : List Nat) (h : Hp) (hs : Sls h uE 1 a bs) (hn : bs.length ≤ 1048576) (hb : ∀ b ∈ bs, b < 256) : Tri X lo 20 [.slice a bs.length fl] h (DrawnGK h) := by
  refine enter tbOk mtOk ⟨[], []⟩ 400 Try.func20 rfl rfl rfl fun hlo => ?_
  refine callP (DrawSightRay_ok a fl bs h hs hn hb) ?_
  rintro v h1 ⟨g, a', fl', k, rfl, q⟩
  exact ⟨g, a', fl', k, rfl, q⟩
theorem DrawTrailVisits_ok (a : Option Addr) (fl : Nat) (bs : List Nat) (h : Hp) (hs : Sls h uE 1 a bs) (hn : bs.length ≤ 1048576) (hb : ∀ b ∈ bs, b < 256) : Tri X lo 26 [.slice a bs.length fl] h (DrawnGK h) := by
  refine enter tbOk mtOk ⟨[], []⟩ 400 Try.func26 rfl rfl rfl fun hlo => ?_
  refine callP (DrawSightRay_ok a fl bs h hs hn hb) ?_
  rintro v h1 ⟨g, a', fl', k, rfl, q⟩
  exact ⟨g, a', fl', k, rfl, q⟩
end Go.Proofs.Ytgcbfhdlfajemaa.Id
/- Contracts over the ideal memory: where light goes, how it ends, as the laws compare it. -/
namespace Go.Proofs.Ytgcbfhdlfajemaa.Id
open Go.Id
open Go.Proofs
set_option linter.unusedVariables false
set_option maxRecDepth 100000
variable {X : Ctx Try.prog} {lo : Nat}
theorem TrailEnds_ok (g : Gd) (k : Int) (ad : Option Addr) (fl : Nat) (h : Hp) (hs : Sls h cE 2 ad g.cs) (hn : (g.cs.length : Int) < 2 ^ 31) : Tri X lo 21 [.agg #[.int .i64 g.w, .slice ad g.cs.length fl], .int .i64 k] h fun v h' => (∃ o, v = gv o (trail g k).2.length ∧ Gw h.n h' vE 3 o (trail g k).2) ∧ Ext h h' := by
  refine enter tbOk mtOk ⟨[], []⟩ 400 Try.func21 rfl rfl rfl fun hlo => ?_
  obtain ⟨hT, hm, _⟩ := trail_ok g k
  refine callP (trailOf_ok g k (trail g k) ad fl h hs hn hT hm) ?_
  rintro v h1 ⟨o1, o2, rfl, g1, g2, e1⟩
  exact And.intro ⟨o2, rfl, g2⟩ e1
theorem trail_not {g : Gd} {k : Int} (c1 : decide (gOk g = true ∧ 0 ≤ k ∧ k < many g) = false) : trail g k = ([], []) := by
  have c1 : ¬ (gOk g = true ∧ 0 ≤ k ∧ k < many g) := of_decide_eq_false c1
  have := (trail_ok g k).1
  unfold IsTrail sightRay at this
  rw [if_neg c1] at this; exact this
theorem sTrailVisits_ok (g : Gd) (k : Int) (ad : Option Addr) (fl : Nat) (h : Hp) (hs : Sls h cE 2 ad g.cs) (hn : (g.cs.length : Int) < 2 ^ 31) : Tri X lo 29 [.agg #[.int .i64 g.w, .slice ad g.cs.length fl], .int .i64 k] h fun v h' => (∃ o, v = gv o (trail g k).1.length ∧ Gw h.n h' vE 3 o (trail g k).1) ∧ Ext h h' := by
  refine enter tbOk mtOk ⟨[], []⟩ 400 Try.func29 rfl rfl rfl fun hlo => ?_
  refine callP (l11Is_ok g k ad fl h hs hn) ?_
  rintro v h1 ⟨rfl, e1⟩
  refine cnd (fun c1 => ?_) (fun c1 => ?_)
  · have hT := trail_not (k := k) (g := g) (by
      cases hd : decide (gOk g = true ∧ 0 ≤ k ∧ k < many g) with
      | true => rw [hd] at c1; cases c1
      | false => rfl)
    rw [hT]
    exact And.intro ⟨some (h1.n, 0), rfl, e1.n, (Row.push (l := ([] : List V3)) (enc := vE)).p vE3⟩ (e1.trans (Ext.push _ _))
  · have c1 : gOk g = true ∧ 0 ≤ k ∧ k < many g := by simpa using c1
    obtain ⟨kn, rfl⟩ : ∃ kn : Nat, k = kn := ⟨k.toNat, by omega⟩
    refine callP (l11Go_ok g kn ad fl h1 (hs.ext e1) c1.1 c1.2.2) ?_
    rintro v h2 ⟨wb, o1, o2, rfl, m⟩
    refine ⟨_, m.bx.ldF (i := 2) rfl, ?_⟩
    have n1 := e1.n
    exact And.intro ⟨o1, rfl, m.g1.up fun i hi => by have := m.l1 i hi; omega⟩ (e1.trans m.ext)
theorem sTrailEnds_ok (g : Gd) (k : Int) (ad : Option Addr) (fl : Nat) (h : Hp) (hs : Sls h cE 2 ad g.cs) (hn : (g.cs.length : Int) < 2 ^ 31) : Tri X lo 23 [.agg #[.int .i64 g.w, .slice ad g.cs.length fl], .int .i64 k] h fun v h' => (∃ o, v = gv o (trail g k).2.length ∧ Gw h.n h' vE 3 o (trail g k).2) ∧ Ext h h' := by
  refine enter tbOk mtOk ⟨[], []⟩ 400 Try.func23 rfl rfl rfl fun hlo => ?_
  refine callP (l11Is_ok g k ad fl h hs hn) ?_
  rintro v h1 ⟨rfl, e1⟩
  refine cnd (fun c1 => ?_) (fun c1 => ?_)
  · have hT := trail_not (k := k) (g := g) (by
      cases hd : decide (gOk g = true ∧ 0 ≤ k ∧ k < many g) with
      | true => rw [hd] at c1; cases c1
      | false => rfl)
    rw [hT]
    exact And.intro ⟨some (h1.n, 0), rfl, e1.n, (Row.push (l := ([] : List V3)) (enc := vE)).p vE3⟩ (e1.trans (Ext.push _ _))
  · have c1 : gOk g = true ∧ 0 ≤ k ∧ k < many g := by simpa using c1
    obtain ⟨kn, rfl⟩ : ∃ kn : Nat, k = kn := ⟨k.toNat, by omega⟩
    refine callP (l11Go_ok g kn ad fl h1 (hs.ext e1) c1.1 c1.2.2) ?_
    rintro v h2 ⟨wb, o1, o2, rfl, m⟩
    refine ⟨_, m.bx.ldF (i := 3) rfl, ?_⟩
    have n1 := e1.n
    exact And.intro ⟨o2, rfl, m.g2.up fun i hi => by have := m.l2 i hi; omega⟩ (e1.trans m.ext)
theorem llEnds_ok (a b : Option Addr) (fl fl' : Nat) (cs ds : List V3) (h : Hp) (hs : Sls h vE 3 a cs) (hs' : Sls h vE 3 b ds) (hn : cs.length ≤ 1048576) : Tri X lo 22 [.slice a cs.length fl, .slice b ds.length fl'] h fun v h' => v = .bool (decide (cs = ds)) ∧ h' = h := by
  refine enter tbOk mtOk ⟨[], [(6, [0, 1, 2, 3, 4, 5, 6, 7, 8], [0, 0, 3, 7, 0, 0, 48, 112, 255])]⟩ 400 Try.func22 rfl rfl rfl fun hlo => ?_
  refine cnd (fun c1 => ?_) (fun c1 => ?_)
  · have c1 : cs.length ≠ ds.length := by simp at c1; omega
    exact And.intro (by rw [decide_eq_false (fun e => c1 (congrArg List.length e))]) rfl
  · have c1 : cs.length = ds.length := by simp at c1; omega
    refine loop (σ := Nat) tbOk mtOk ⟨[], [(6, [0, 1, 2, 3, 4, 5, 6, 7, 8], [0, 0, 3, 7, 0, 0, 48, 112, 255])]⟩ (fun i => [(5, .v (.int .i64 (i : Int))), (0, .v (.slice a cs.length fl)), (1, .v (.slice b ds.length fl'))]) (fun _ => []) (fun i h' => i ≤ cs.length ∧ h' = h ∧ cs.take i = ds.take i) (fun i => cs.length - i) 400 0 (fun _ => rfl) ⟨rfl, rfl, rfl, trivial⟩ trivial ⟨Nat.zero_le _, rfl, rfl⟩ (fun i h' hI again => ?_)
    obtain ⟨i1, rfl, i3⟩ := hI
    refine cnd (fun c2 => ?_) (fun c2 => ?_)
    · have c2 : i < cs.length := by simpa using c2
      have c2' : i < ds.length := by omega
      obtain ⟨a, rfl⟩ := hs.some c2
      obtain ⟨b, rfl⟩ := hs'.some c2'
      refine And.intro (by kernel_rfl) ?_
      refine And.intro ⟨by omega, by omega⟩ ?_
      refine ⟨_, hs.ld vE3 c2, ?_⟩
      refine And.intro ⟨by omega, by omega⟩ ?_
      refine ⟨_, hs'.ld vE3 c2', ?_⟩
      refine cnd (fun c3 => ?_) (fun c3 => ?_)
      · refine And.intro ?_ rfl
        have c3 : cs[i] ≠ ds[i] := fun e => by rw [e] at c3; simp at c3
        rw [decide_eq_false (fun e => c3 (by subst e; rfl))]
      · have c3 : cs[i] = ds[i] := by
          have c3' : ¬ ¬ (cs[i].1 = ds[i].1 ∧ cs[i].2.1 = ds[i].2.1 ∧ cs[i].2.2 = ds[i].2.2) := fun q => by
            have : (!(cs[i].fst == ds[i].fst && (cs[i].snd.fst == ds[i].snd.fst && (cs[i].snd.snd == ds[i].snd.snd && true)))) = false := c3
            apply q
            simpa [and_assoc] using this
          obtain ⟨e1, e2, e3⟩ := Classical.not_not.1 c3'
          exact Prod.ext e1 (Prod.ext e2 e3)
        have wq : IntKind.i64.wrap ((i : Int) + 1) = ((i + 1 : Nat) : Int) := wz (by omega) (by omega)
        exact again (i + 1) _ _ _ (by omega) ⟨vI wq, rfl, rfl, trivial⟩ trivial ⟨by omega, rfl, take_eq c2 c2' i3 c3⟩
    · have c2 : cs.length = i := by simp at c2; omega
      refine And.intro ?_ rfl
      rw [← c2, List.take_length, c1, List.take_length] at i3
      rw [i3]; simp
theorem llVisits_ok (a b : Option Addr) (fl fl' : Nat) (cs ds : List V3) (h : Hp) (hs : Sls h vE 3 a cs) (hs' : Sls h vE 3 b ds) (hn : cs.length ≤ 1048576) : Tri X lo 28 [.slice a cs.length fl, .slice b ds.length fl'] h fun v h' => v = .bool (decide (cs = ds)) ∧ h' = h := by
  refine enter tbOk mtOk ⟨[], [(6, [0, 1, 2, 3, 4, 5, 6, 7, 8], [0, 0, 3, 7, 0, 0, 48, 112, 255])]⟩ 400 Try.func28 rfl rfl rfl fun hlo => ?_
  refine cnd (fun c1 => ?_) (fun c1 => ?_)
  · have c1 : cs.length ≠ ds.length := by simp at c1; omega
    exact And.intro (by rw [decide_eq_false (fun e => c1 (congrArg List.length e))]) rfl
  · have c1 : cs.length = ds.length := by simp at c1; omega
    refine loop (σ := Nat) tbOk mtOk ⟨[], [(6, [0, 1, 2, 3, 4, 5, 6, 7, 8], [0, 0, 3, 7, 0, 0, 48, 112, 255])]⟩ (fun i => [(5, .v (.int .i64 (i : Int))), (0, .v (.slice a cs.length fl)), (1, .v (.slice b ds.length fl'))]) (fun _ => []) (fun i h' => i ≤ cs.length ∧ h' = h ∧ cs.take i = ds.take i) (fun i => cs.length - i) 400 0 (fun _ => rfl) ⟨rfl, rfl, rfl, trivial⟩ trivial ⟨Nat.zero_le _, rfl, rfl⟩ (fun i h' hI again => ?_)
    obtain ⟨i1, rfl, i3⟩ := hI
    refine cnd (fun c2 => ?_) (fun c2 => ?_)
    · have c2 : i < cs.length := by simpa using c2
      have c2' : i < ds.length := by omega
      obtain ⟨a, rfl⟩ := hs.some c2
      obtain ⟨b, rfl⟩ := hs'.some c2'
      refine And.intro (by kernel_rfl) ?_
      refine And.intro ⟨by omega, by omega⟩ ?_
      refine ⟨_, hs.ld vE3 c2, ?_⟩
      refine And.intro ⟨by omega, by omega⟩ ?_
      refine ⟨_, hs'.ld vE3 c2', ?_⟩
      refine cnd (fun c3 => ?_) (fun c3 => ?_)
      · refine And.intro ?_ rfl
        have c3 : cs[i] ≠ ds[i] := fun e => by rw [e] at c3; simp at c3
        rw [decide_eq_false (fun e => c3 (by subst e; rfl))]
      · have c3 : cs[i] = ds[i] := by
          have c3' : ¬ ¬ (cs[i].1 = ds[i].1 ∧ cs[i].2.1 = ds[i].2.1 ∧ cs[i].2.2 = ds[i].2.2) := fun q => by
            have : (!(cs[i].fst == ds[i].fst && (cs[i].snd.fst == ds[i].snd.fst && (cs[i].snd.snd == ds[i].snd.snd && true)))) = false := c3
            apply q
            simpa [and_assoc] using this
          obtain ⟨e1, e2, e3⟩ := Classical.not_not.1 c3'
          exact Prod.ext e1 (Prod.ext e2 e3)
        have wq : IntKind.i64.wrap ((i : Int) + 1) = ((i + 1 : Nat) : Int) := wz (by omega) (by omega)
        exact again (i + 1) _ _ _ (by omega) ⟨vI wq, rfl, rfl, trivial⟩ trivial ⟨by omega, rfl, take_eq c2 c2' i3 c3⟩
    · have c2 : cs.length = i := by simp at c2; omega
      refine And.intro ?_ rfl
      rw [← c2, List.take_length, c1, List.take_length] at i3
      rw [i3]; simp
theorem llSight_ok (g : Gd) (k : Int) (ad : Option Addr) (fl : Nat) (h : Hp) (hs : Sls h cE 2 ad g.cs) (hn : (g.cs.length : Int) < 2 ^ 31) : Tri X lo 24 [.agg #[.int .i64 g.w, .slice ad g.cs.length fl], .int .i64 k] h fun v h' => v = .bool (decide (0 ≤ k ∧ k < if gOk g then many g else 0)) ∧ Ext h h' := by
  refine enter tbOk mtOk ⟨[], []⟩ 400 Try.func24 rfl rfl rfl fun hlo => ?_
  refine cnd (fun c1 => ?_) (fun c1 => ?_)
  · refine callP (sSightMany_ok g ad fl h hs hn) ?_
    rintro v h1 ⟨rfl, e1⟩
    refine And.intro ?_ e1
    have c1 : 0 ≤ k := by simpa using c1
    show Value.bool (decide (k < _)) = _
    congr 1
    simp [c1]
  · refine And.intro ?_ (Ext.refl h)
    have c1 : ¬ 0 ≤ k := by simpa using c1
    simp [c1]
def kind2 (k : Int) : Int := if k = 3 then 2 else if k = 5 then 4 else k
def kinds (cs : List Cl) (k : Int) : Nat := (cs.filter fun c => decide (kind2 c.1 = k)).length
theorem llKinds_ok (g : Gd) (k : Int) (ad : Option Addr) (fl : Nat) (h : Hp) (hs : Sls h cE 2 ad g.cs) (hn : (g.cs.length : Int) < 2 ^ 31) : Tri X lo 44 [.agg #[.int .i64 g.w, .slice ad g.cs.length fl], .int .i64 k] h fun v h' => v = .int .i64 (kinds g.cs k) ∧ h' = h := by
  refine enter tbOk mtOk ⟨[], []⟩ 400 Try.func44 rfl rfl rfl fun hlo => ?_
  refine loop (σ := Nat) tbOk mtOk ⟨[], []⟩ (fun i => [(6, .v (.int .i64 (i : Int))), (5, .v (.int .i64 (kinds (g.cs.take i) k))), (1, .v (.int .i64 k)), (2, .l 0 0)]) (fun _ => [[.int .i64 g.w, .slice ad g.cs.length fl]]) (fun i h' => i ≤ g.cs.length ∧ h' = h) (fun i => g.cs.length - i) 400 0 (fun _ => rfl) ⟨rfl, rfl, rfl, rfl, trivial⟩ ⟨rfl, trivial⟩ ⟨Nat.zero_le _, rfl⟩ (fun i h' hI again => ?_)
  obtain ⟨i1, rfl⟩ := hI
  refine cnd (fun c1 => ?_) (fun c1 => ?_)
  · have c1 : i < g.cs.length := by simpa using c1
    obtain ⟨ad, rfl⟩ := hs.some c1
    have htk : kinds (g.cs.take (i + 1)) k = kinds (g.cs.take i) k + if kind2 g.cs[i].1 = k then 1 else 0 := by
      unfold kinds
      rw [List.take_succ_eq_append_getElem c1, List.filter_append, List.length_append]
      by_cases q : kind2 g.cs[i].1 = k <;> simp [q]
    have hle : kinds (g.cs.take i) k ≤ i := by
      unfold kinds
      refine Nat.le_trans (List.length_filter_le _ _) ?_
      rw [List.length_take]; omega
    have wq : IntKind.i64.wrap ((i : Int) + 1) = ((i + 1 : Nat) : Int) := wz (by omega) (by omega)
    have wn : IntKind.i64.wrap ((kinds (g.cs.take i) k : Int) + 1) = ((kinds (g.cs.take i) k + 1 : Nat) : Int) := wz (by omega) (by omega)
    refine And.intro ⟨by omega, by omega⟩ ?_
    refine ⟨_, ld_sub (hs.ld cE2 c1) (j := 0) (m := 1) rfl, ?_⟩
    have wy : kind2 g.cs[i].1 = k → kinds (g.cs.take (i + 1)) k = kinds (g.cs.take i) k + 1 := fun q => by rw [htk, if_pos q]
    have wo : kind2 g.cs[i].1 ≠ k → kinds (g.cs.take (i + 1)) k = kinds (g.cs.take i) k := fun q => by rw [htk, if_neg q]; rfl
    generalize g.cs[i] = c at *
    have py : kind2 c.1 = k → some (Sl.v (.int .i64 (IntKind.i64.wrap ((kinds (g.cs.take i) k : Int) + 1)))) = some (Sl.v (.int .i64 (kinds (g.cs.take (i + 1)) k : Int))) := fun q => by rw [wn, wy q]
    have po : kind2 c.1 ≠ k → some (Sl.v (.int .i64 (kinds (g.cs.take i) k : Int))) = some (Sl.v (.int .i64 (kinds (g.cs.take (i + 1)) k : Int))) := fun q => by rw [wo q]
    refine cnd (fun c1 => ?_) (fun c1 => ?_) -- c.fst == 3
    · have c1 : c.1 = 3 := by simpa using c1
      have hk : kind2 c.1 = 2 := by unfold kind2; rw [if_pos c1]
      refine cndF ?_
      refine cnd (fun c2 => ?_) (fun c2 => ?_) -- 2 == k
      · exact again (i + 1) _ _ _ (by omega) ⟨vI wq, py (hk.trans (by simpa using c2)), rfl, rfl, trivial⟩ ⟨rfl, trivial⟩ ⟨by omega, rfl⟩
      · exact again (i + 1) _ _ _ (by omega) ⟨vI wq, po (by rw [hk]; simpa using c2), rfl, rfl, trivial⟩ ⟨rfl, trivial⟩ ⟨by omega, rfl⟩
    · have c1 : c.1 ≠ 3 := by simpa using c1
      refine cnd (fun c2 => ?_) (fun c2 => ?_) -- c.fst == 5
      · have c2 : c.1 = 5 := by simpa using c2
        have hk : kind2 c.1 = 4 := by unfold kind2; rw [if_neg c1, if_pos c2]
        refine cnd (fun c3 => ?_) (fun c3 => ?_) -- 4 == k
        · exact again (i + 1) _ _ _ (by omega) ⟨vI wq, py (hk.trans (by simpa using c3)), rfl, rfl, trivial⟩ ⟨rfl, trivial⟩ ⟨by omega, rfl⟩
        · exact again (i + 1) _ _ _ (by omega) ⟨vI wq, po (by rw [hk]; simpa using c3), rfl, rfl, trivial⟩ ⟨rfl, trivial⟩ ⟨by omega, rfl⟩
      · have c2 : c.1 ≠ 5 := by simpa using c2
        have hk : kind2 c.1 = c.1 := by unfold kind2; rw [if_neg c1, if_neg c2]
        refine cnd (fun c3 => ?_) (fun c3 => ?_) -- c.fst == k
        · exact again (i + 1) _ _ _ (by omega) ⟨vI wq, py (hk.trans (by simpa using c3)), rfl, rfl, trivial⟩ ⟨rfl, trivial⟩ ⟨by omega, rfl⟩
        · exact again (i + 1) _ _ _ (by omega) ⟨vI wq, po (by rw [hk]; simpa using c3), rfl, rfl, trivial⟩ ⟨rfl, trivial⟩ ⟨by omega, rfl⟩
  · have c1 : g.cs.length = i := by simp at c1; omega
    rw [← c1, List.take_length]
    exact And.intro rfl rfl
theorem llClear_ok (g : Gd) (ad : Option Addr) (fl : Nat) (h : Hp) (hs : Sls h cE 2 ad g.cs) (hn : (g.cs.length : Int) < 2 ^ 31) : Tri X lo 25 [.agg #[.int .i64 g.w, .slice ad g.cs.length fl]] h fun v h' => v = .bool (decide (kinds g.cs 4 = 0 ∧ kinds g.cs 6 = 0)) ∧ h' = h := by
  refine enter tbOk mtOk ⟨[], []⟩ 400 Try.func25 rfl rfl rfl fun hlo => ?_
  refine callP (llKinds_ok g 4 ad fl h hs hn) ?_
  rintro v h1 ⟨rfl, rfl⟩
  refine cnd (fun c1 => ?_) (fun c1 => ?_)
  · have c1 : kinds g.cs 4 = 0 := by simpa using c1
    refine callP (llKinds_ok g 6 ad fl h1 hs hn) ?_
    rintro v h2 ⟨rfl, rfl⟩
    refine And.intro ?_ rfl
    show Value.bool (((kinds g.cs 6 : Nat) : Int) == 0) = _
    congr 1
    rw [Bool.eq_iff_iff]
    simp [c1]
  · have c1 : kinds g.cs 4 ≠ 0 := by simpa using c1
    refine And.intro ?_ rfl
    simp [c1]
end Go.Proofs.Ytgcbfhdlfajemaa.Id
/- The company of goroutines that only leave: goroutine 0's. -/
namespace Go.Id
open Go.Conc
open Go.ConcN (sumTo upd sumTo_upd upd_ne upd_same)
set_option linter.unusedVariables false
def blockOf : Loc → Option Nat
  | .cell a => some a.block
  | .obj r => some r
  | _ => none
/-- Goroutine 0 is g, in w; all others only leave; what has been done is known to it; no place that is shunned is in its reach. -/
structure Frm (P : Program) (N0 : Nat → Prop) (O : Nat → Prop) (g : Goroutine) (w : World) (gs : Array Goroutine) (t : Trace) (q : Nat → Nat) (Shun : Loc → Prop) : Prop where
  zero : gs[0]? = some g
  lv : Leavers P t gs q
  past : Past Shun w.heap.size t
  shun : ∀ l b, Shun l → blockOf l = some b → ¬ (N0 b ∨ O b)
  old : ∀ l b, Shun l → blockOf l = some b → b < w.heap.size
  now : ∀ b, O b → b < w.heap.size
  base : ∀ b, N0 b → b < w.heap.size
  num : ∀ op ∈ t, op.g < gs.size
def JM (P : Program) (N0 : Nat → Prop) (Stop : (Nat → Prop) → Goroutine → World → Prop) (O : Nat → Prop) (g : Goroutine) (w : World) : Prop :=
  ∀ w₁, Rly N0 O w w₁ → ∀ gs sl t q Shun, Frm P N0 O g w₁ gs t q Shun →
    ∃ N gs' sl' t' q' Shun' g' w' O', runNT P N (crowd gs w₁ sl) t = (.next (crowd gs' w' sl'), t') ∧ Frm P N0 O' g' w' gs' t' q' Shun' ∧ Stop O' g' w'
section
variable {P : Program} {N0 : Nat → Prop} {O : Nat → Prop} {g : Goroutine} {w : World}
theorem evL_of {Shun : Loc → Prop} {B : Nat} (hs : ∀ l b, Shun l → blockOf l = some b → ¬ (N0 b ∨ O b)) (hb : ∀ b, (N0 b ∨ O b) → b < B) {e : Event} (h : EvOk N0 O e) : EvL Shun B e := by
  obtain ⟨loc, wr, sy⟩ := e
  unfold EvOk at h
  cases loc with
  | cell a =>
    simp only at h
    obtain ⟨rfl, h⟩ := h
    have hin : N0 a.block ∨ O a.block := by cases wr <;> simp at h <;> first | exact h | exact .inr h
    exact evL_cell a wr (fun hS => hs _ _ hS rfl hin) (hb _ hin)
  | obj r =>
    simp only at h
    obtain ⟨rfl, h⟩ := h
    refine ⟨fun x hx hS => ?_, by simp, by simp, ?_⟩
    · simp only [MemAct.ofEvent, MemAct.touch?, Option.some.injEq] at hx
      subst hx
      exact absurd (.inr h) (hs _ _ hS rfl)
    · have := hb _ (.inr h)
      simpa [MemAct.ofEvent, MemAct.low, Loc.low] using this
  | mark m =>
    cases m <;> simp only at h
    exact ⟨fun x hx => by simp [MemAct.ofEvent, MemAct.touch?] at hx, by simp, by simp, trivial⟩
  | output => exact h.elim
  | goroutines => exact h.elim
theorem rly_at (w : World) (d : Nat) : Rly N0 O w (w.at d) := ⟨Nat.le_refl _, fun _ _ _ => rfl, rfl, rfl⟩
theorem ofEvents_g {g : Nat} {fn : FuncId} {pos : String} {es : Array Event} {op : MemOp} (h : op ∈ MemOp.ofEvents g fn pos es) : op.g = g := by
  rw [ofEvents_eq] at h
  obtain ⟨e, _, rfl⟩ := Array.mem_map.1 h
  rfl
theorem JM.stop {Stop : (Nat → Prop) → Goroutine → World → Prop} (h : ∀ w₁, Rly N0 O w w₁ → Stop O g w₁) : JM P N0 Stop O g w :=
  fun w₁ r gs sl t q Shun F => ⟨0, gs, sl, t, q, Shun, g, w₁, O, rfl, F, h w₁ r⟩
theorem JM.step {Stop : (Nat → Prop) → Goroutine → World → Prop} (hrun : g.status = .running)
    (h : ∀ w₁, Rly N0 O w w₁ → ∃ g' w₂ es, stepG P true g w₁ = .go g' w₂ es ∧ Guar N0 O w₁ w₂ es ∧ JM P N0 Stop (grow O w₁ w₂) g' w₂) : JM P N0 Stop O g w := by
  intro w₁ r gs sl t q Shun F
  have key : ∀ (M : Nat) (gs : Array Goroutine) (w₁ : World) (sl : Option (Nat × Nat)) (t : Trace) (q : Nat → Nat), Rly N0 O w w₁ → sumTo gs.size q ≤ M → Frm P N0 O g w₁ gs t q Shun →
      ∃ N gs' sl' t' q' Shun' g' w' O', runNT P N (crowd gs w₁ sl) t = (.next (crowd gs' w' sl'), t') ∧ Frm P N0 O' g' w' gs' t' q' Shun' ∧ Stop O' g' w' := by
    intro M
    induction M with
    | zero | succ M ih =>
      intro gs w₁ sl t q r hM F
      have haw : ∀ x ∈ gs, awake x := by
        intro x hx
        obtain ⟨i, hi, rfl⟩ := Array.mem_iff_getElem.1 hx
        rcases Nat.eq_zero_or_pos i with rfl | hpos
        · have : gs[0] = g := by simpa [Array.getElem?_eq_getElem hi] using F.zero
          rw [this]; exact awake_of (.inl hrun)
        · exact awake_of ((F.lv.old i _ hpos (Array.getElem?_eq_getElem hi)).status.elim .inl fun x => .inr (.inr x))
      obtain ⟨i, x, d, sl', hi, hg, hst⟩ := crowd_pick (P := P) (w := w₁) (sl := sl) haw ⟨0, g, F.zero, hrun⟩
      rcases Nat.eq_zero_or_pos i with rfl | hpos
      · -- goroutine 0 takes its step
        obtain rfl : x = g := by rw [F.zero] at hi; exact (Option.some.inj hi).symm
        obtain ⟨g', w₂, es, hgo, hG, hJ⟩ := h (w₁.at d) (r.trans (rly_at w₁ d))
        have hrunT := runT_crowd_go (P := P) (sl := sl') (i := 0) hi (show stepG P (0 == 0) x (w₁.at d) = _ from hgo)
        have hsz : ((gs.map (woken P x g' w₂)).setIfInBounds 0 g').size = gs.size := by simp
        have hlt : 0 < gs.size := (Array.getElem?_eq_some_iff.1 F.zero).1
        have hsize : w₁.heap.size ≤ w₂.heap.size := hG.size
        obtain ⟨N, gs', sl'', t', q', Shun', g'', w', O', hr, F', hS⟩ := hJ w₂ (Rly.refl _ _ _) ((gs.map (woken P x g' w₂)).setIfInBounds 0 g') sl' (t ++ MemOp.ofEvents 0 x.frame.fn x.frame.place es) q Shun
          ⟨by simp [hlt], ⟨fun j y hj hy => by
              have hne : 0 ≠ j := by omega
              rw [Array.getElem?_setIfInBounds_ne hne, Array.getElem?_map] at hy
              obtain ⟨z, hz, rfl⟩ := Option.map_eq_some_iff.1 hy
              have hq := F.lv.old j z hj hz
              rw [woken_quitsD hq, Deaf_other t (by omega) _ (fun op hop => ofEvents_g hop)]
              exact hq, fun j hj => by
              rw [Deaf_other t (g' := 0) (by simp at hj; omega) _ (fun op hop => ofEvents_g hop)]
              exact F.lv.above j (by simpa using hj)⟩,
            (F.past.own fun e he => evL_of F.shun (fun b hb => hb.elim (F.base _) (F.now b)) (hG.evs e he)).mono hsize,
            fun l b hl hb => by
              rintro (h | h | ⟨h, _⟩)
              · exact F.shun l b hl hb (.inl h)
              · exact F.shun l b hl hb (.inr h)
              · have := F.old l b hl hb; have h' : w₁.heap.size ≤ b := h; omega,
            fun l b hl hb => Nat.lt_of_lt_of_le (F.old l b hl hb) hsize,
            fun b hb => hb.elim (fun h => Nat.lt_of_lt_of_le (F.now b h) hsize) (·.2), fun b hb => Nat.lt_of_lt_of_le (F.base b hb) hsize,
            fun op hop => by rw [hsz]; exact (Array.mem_append.1 hop).elim (F.num op) fun x => by rw [ofEvents_g x]; exact hlt⟩
        exact ⟨N + 1, gs', sl'', t', q', Shun', g'', w', O', by simp only [runNT, hst, hrunT]; exact hr, F', hS⟩
      · -- a leaver slips
        have hq := F.lv.old i x hpos hi
        have hi0 : (i == 0) = false := by simp; omega
        have hlt : i < gs.size := (Array.getElem?_eq_some_iff.1 hi).1
        cases hqi : q i with
        | zero => rw [hqi] at hq; rw [hq.1] at hg; cases hg
        | succ k =>
          rw [hqi] at hq
          rcases hq with ⟨hf, _⟩ | ⟨_, g', es, hm, hstp, hq'⟩
          · rw [hf] at hg; cases hg
          have hsum : sumTo gs.size (upd q i k) + (k + 1) = sumTo gs.size q + k := by
            have := sumTo_upd q k id hlt
            simpa [hqi] using this
          first
          | (exfalso; omega)
          | (have hrunT := runT_crowd_go (P := P) (sl := sl') (i := i) hi (by rw [hi0]; exact hstp (w₁.at d))
             have hsz : ((gs.map (woken P x g' (w₁.at d))).setIfInBounds i g').size = gs.size := by simp
             obtain ⟨N, gs', sl'', t', q', Shun', g'', w', O', hr, F', hS⟩ := ih ((gs.map (woken P x g' (w₁.at d))).setIfInBounds i g') (w₁.at d) sl' (t ++ MemOp.ofEvents i x.frame.fn x.frame.place es) (upd q i k) (r.trans (rly_at w₁ d)) (by rw [hsz]; omega)
               ⟨by
                 have hne : i ≠ 0 := by omega
                 rw [Array.getElem?_setIfInBounds_ne hne, Array.getElem?_map, F.zero]
                 simp [woken_run hrun],
               ⟨fun j y hj hy => by
                 by_cases hji : i = j
                 · subst hji
                   rw [Array.getElem?_setIfInBounds_self_of_lt (by simpa using hlt)] at hy
                   obtain rfl := Option.some.inj hy
                   rw [upd_same, Deaf_own]
                   exact hq'
                 · rw [Array.getElem?_setIfInBounds_ne hji, Array.getElem?_map] at hy
                   obtain ⟨z, hz, rfl⟩ := Option.map_eq_some_iff.1 hy
                   have hqj := F.lv.old j z hj hz
                   rw [woken_quitsD hqj, upd_ne q k (Ne.symm hji), Deaf_other t hji _ (fun op hop => ofEvents_g hop)]
                   exact hqj, fun j hj => by
                 rw [Deaf_other t (g' := i) (by simp at hj; omega) _ (fun op hop => ofEvents_g hop)]
                 exact F.lv.above j (by simpa using hj)⟩,
               F.past.mute (by omega) hm, F.shun, F.old, F.now, F.base,
               fun op hop => by rw [hsz]; exact (Array.mem_append.1 hop).elim (F.num op) fun x => by rw [ofEvents_g x]; exact hlt⟩
             exact ⟨N + 1, gs', sl'', t', q', Shun', g'', w', O', by simp only [runNT, hst, hrunT]; exact hr, F', hS⟩)
  exact key _ gs w₁ sl t q r (Nat.le_refl _) F
end
def mainCtx (P : Program) (N0 : Nat → Prop) : Ctx P where
  main := true
  N0 := N0
  J := JM P N0
  rely := fun Stop O g w w₁ h r w₂ r₂ => h w₂ (r.trans r₂)
  step := fun Stop O g w hr h => JM.step hr h
end Go.Id
/- A whole run: from the entry of goroutine 0's function to the end. -/
namespace Go.Id
open Go.Conc
set_option linter.unusedVariables false
section
variable {P : Program} {fn : Func} {f : FuncId} {lo : Nat} {Post : Value → Hp → Prop} {h : Hp}
theorem stepG_done {b : Frame} {a : Act} {w w' : World} {todo : List Item} {v : Value} (hn : b.kind = .normal) (hd : a.defers = []) (hf : P.funcs[b.fn]? = some fn) (hi : P.inits.idxOf? b.fn = none) (hr : (results fn a.tmps).run P w = .ok v w') :
    stepG P true (G { b.at a todo with mode := .returning } []) w = .ended (.done v) w' (seen P b.fn ((results fn a.tmps).events P w #[])) := by
  simp [G, stepG, unwind, doReturn, Frame.at, hn, hd, hf, hr, hi, GStep.after]
def lowOf (W : World) : Nat → Prop := fun b => b < W.heap.size
/-- What is known at the run's end. -/
def Told (N0 : Nat → Prop) (lo : Nat) (Post : Value → Hp → Prop) (W : World) (s : Sim) (vr : Value) (w' : World) : Prop :=
  ∃ v h' s' O', Post v h' ∧ s.le s' ∧ SimOk N0 lo s' O' h' w' ∧ VR s' v vr ∧ Kept N0 (fun _ => False) W w'
theorem Told.at {N0 : Nat → Prop} {W : World} {s : Sim} {vr : Value} {w w₁ : World} (H : Told N0 lo Post W s vr w) (r : AtRel w w₁) : Told N0 lo Post W s vr w₁ := by
  obtain ⟨d, rfl⟩ := r
  obtain ⟨v, h', s', O', h1, h2, h3, h4, h5⟩ := H
  exact ⟨v, h', s', O', h1, h2, h3.rely (rly_at w d), h4, h5.trans ⟨fun _ h => h.elim, fun _ _ => rfl, Nat.le_refl _, rfl, rfl⟩⟩
theorem main_run {c : Code} {args : List Value} (hf : P.funcs[f]? = some fn) (hb : fn.body = some c) (hlen : args.length ≤ fn.ntmps) (hi : P.inits.idxOf? f = none) {W : World} {argsr : Array Value} {s : Sim} (S : SimOk (lowOf W) lo s (fun _ => False) h W) (ha : VRs s args argsr.toList)
    (H : R (mainCtx P (lowOf W)) lo f fn (.ret Post) [.code c] (argsTm 0 args) [] h) :
    ∃ M last o w' t', runNT P (M + 1) (solo (G (Frame.enter P f argsr .normal) []) W) #[] = (.ended o w', t') ∧ runN P M (solo (G (Frame.enter P f argsr .normal) []) W) = .next last ∧ step P last = .ended o w' ∧ Go.Conc.Good P (fun vr w' => Told (lowOf W) lo Post W s vr w') last o w' t' := by
  have hsz : args.length = argsr.size := by simpa using ha.1
  let Stop : (Nat → Prop) → Goroutine → World → Prop := fun O g w => ∃ (a' : Act) (todo : List Item) (vr : Value), g = G { (base f).at a' todo with mode := .returning } [] ∧ a'.defers = [] ∧ Reads P (lowOf W) O fn a'.tmps w vr ∧ Told (lowOf W) lo Post W s vr w
  have hJ : JM P (lowOf W) Stop (fun _ => False) (G (Frame.enter P f argsr .normal) []) W := by
    rw [enter_at argsr hf hb]
    refine H s (fun _ => False) (fun _ => False) (fun _ => 0) W (base f) { tmps := argsr ++ Array.replicate (fn.ntmps - argsr.size) undef, defers := [] } [] Stop rfl (by simp [base]) rfl (by simp; omega) ⟨S, ⟨fun j cs hj => by simp at hj, fun j j' hj => by simp at hj⟩, fun b hb => hb.elim⟩ ?_ ?_
    · intro j x hx
      obtain ⟨v, rfl, _, h3⟩ := look_args _ _ _ _ hx
      have hj : j < argsr.size := by rw [← hsz]; exact (List.getElem?_eq_some_iff.1 (by simpa using h3)).1
      exact ⟨argsr[j], by simp [Array.getElem?_append, hj], ha.2 j v _ (by simpa using h3) (by simp [hj])⟩
    · intro v vr h' s' O' w' h1 h2 h3 h4 h5 h6 h7 a' todo hd hrd
      refine JM.stop fun w₁ r => ⟨a', todo, vr, rfl, hd, fun w'' hw => hrd w'' (r.trans hw), v, h', s', O', h1, h2, h3.rely r, h4, ?_⟩
      exact h7.trans ⟨fun _ h => h.elim, fun b hb => r.2.1 b (h3.base _ hb) (.inl hb), r.1, r.2.2.1, r.2.2.2⟩
  obtain ⟨N, gs', sl', t', q', Shun', g', w', O', hr, F, a', todo, vr, rfl, hd, hrd, htold⟩ := hJ W (Rly.refl _ _ _) #[G (Frame.enter P f argsr .normal) []] none #[] (fun _ => 0) (fun _ => False)
    ⟨by simp, leavers_one P _, past_nil.mono (Nat.zero_le _), fun _ _ h => h.elim, fun _ _ h => h.elim, fun _ h => h.elim, fun _ h => h, fun op hop => by simp at hop⟩
  have hend : Goes P true AtRel (fun _ _ _ => False) (AtEnd P Shun' w'.heap.size fun vr w' => Told (lowOf W) lo Post W s vr w') 0 (G { (base f).at a' todo with mode := .returning } []) w' := by
    rintro w₁ ⟨d, rfl⟩
    obtain ⟨x, w₂, g1, ⟨rfl, rfl⟩, g3⟩ := hrd (w'.at d) (rly_at w' d)
    exact ⟨rfl, x, _, stepG_done (b := base f) rfl hd hf hi g1, fun e he => evL_of F.shun (fun b hb => hb.elim (F.base _) (F.now b)) (g3 #[] (fun e he => by simp at he) e (mem_seen he)), htold.at ⟨d, rfl⟩⟩
  obtain ⟨K, last, o, w₃, t₃, k1, k2, k3, k4⟩ := beside_ends (D := fun _ _ _ => False) (fun _ _ _ h => h.elim) (sl := sl') F.zero F.lv F.past hend
  rw [solo_eq_crowd]
  refine ⟨N + K, last, o, w₃, t₃, ?_, ?_, k3, k4⟩
  · rw [Nat.add_assoc, runNT_add, hr]; exact k1
  · have hrn : runN P N (crowd #[G (Frame.enter P f argsr .normal) []] W none) = .next (crowd gs' w' sl') := by
      rw [← runNT_fst P N _ #[], hr]
    rw [runN_add, hrn]; exact k2
end
end Go.Id
/- A goroutine alone: what is walked there is the kit's own contract of a lone call. -/
namespace Go.Id
open Go.Conc
set_option linter.unusedVariables false
section
variable {P : Program} {fn : Func} {f : FuncId} {lo : Nat} {Post : Value → Hp → Prop} {h : Hp}
def loneG (g : Goroutine) (w : World) : Machine := { world := w, gs := #[g], rest := { timers := #[], alone := none, slice := none } }
theorem step_loneG {g g' : Goroutine} {w w' : World} {es : Array Event} (hr : g.status = .running) (h : stepG P true g w = .go g' w' es) : step P (loneG g w) = .next (loneG g' w') := by
  have hm : move P (loneG g w) = .goroutine (loneG g w) 0 := by
    simp [move, ask, askOn, loneG, runnable_eq, due, ahead, Goroutine.canRun, List.range_succ, choose, pure, Sem.run, Question.forced, hr]
  rw [step, stepT, hm]
  simp [runT, loneG, Array.swapAt!, h]
def JL (P : Program) (N0 : Nat → Prop) (Stop : (Nat → Prop) → Goroutine → World → Prop) (O : Nat → Prop) (g : Goroutine) (w : World) : Prop :=
  ∀ w₁, Rly N0 O w w₁ → ∃ g' w' O', Steps P (loneG g w₁) (loneG g' w') ∧ Stop O' g' w'
def loneCtx (P : Program) (N0 : Nat → Prop) : Ctx P where
  main := true
  N0 := N0
  J := JL P N0
  rely := fun Stop O g w w₁ h r w₂ r₂ => h w₂ (r.trans r₂)
  step := fun Stop O g w hr h w₁ r => by
    obtain ⟨g', w₂, es, h1, h2, h3⟩ := h w₁ r
    obtain ⟨g'', w', O', h4, h5⟩ := h3 w₂ (Rly.refl _ _ _)
    exact ⟨g'', w', O', Steps.head (step_loneG hr h1) h4, h5⟩
theorem lone_run {c : Code} {args : List Value} (hf : P.funcs[f]? = some fn) (hb : fn.body = some c) (hlen : args.length ≤ fn.ntmps) {W : World} {argsr : Array Value} {s : Sim} (S : SimOk (lowOf W) lo s (fun _ => False) h W) (ha : VRs s args argsr.toList)
    (H : R (loneCtx P (lowOf W)) lo f fn (.ret Post) [.code c] (argsTm 0 args) [] h) :
    Calls P f argsr W fun e w' => ∃ vr, e = .returned vr ∧ Told (lowOf W) lo Post W s vr w' := by
  intro cs
  have hsz : args.length = argsr.size := by simpa using ha.1
  let Stop : (Nat → Prop) → Goroutine → World → Prop := fun O g w => ∃ (a' : Act) (todo : List Item) (vr : Value), g = G { (base f).at a' todo with mode := .returning } cs ∧ a'.defers = [] ∧ Reads P (lowOf W) O fn a'.tmps w vr ∧ Told (lowOf W) lo Post W s vr w
  have hJ : JL P (lowOf W) Stop (fun _ => False) (G (Frame.enter P f argsr .normal) cs) W := by
    rw [enter_at argsr hf hb]
    refine H s (fun _ => False) (fun _ => False) (fun _ => 0) W (base f) { tmps := argsr ++ Array.replicate (fn.ntmps - argsr.size) undef, defers := [] } cs Stop rfl (by simp [base]) rfl (by simp; omega) ⟨S, ⟨fun j cs hj => by simp at hj, fun j j' hj => by simp at hj⟩, fun b hb => hb.elim⟩ ?_ ?_
    · intro j x hx
      obtain ⟨v, rfl, _, h3⟩ := look_args _ _ _ _ hx
      have hj : j < argsr.size := by rw [← hsz]; exact (List.getElem?_eq_some_iff.1 (by simpa using h3)).1
      exact ⟨argsr[j], by simp [Array.getElem?_append, hj], ha.2 j v _ (by simpa using h3) (by simp [hj])⟩
    · intro v vr h' s' O' w' h1 h2 h3 h4 h5 h6 h7 a' todo hd hrd w₁ r
      refine ⟨_, w₁, O', Steps.refl _ _, a', todo, vr, rfl, hd, fun w'' hw => hrd w'' (r.trans hw), v, h', s', O', h1, h2, h3.rely r, h4, ?_⟩
      exact h7.trans ⟨fun _ h => h.elim, fun b hb => r.2.1 b (h3.base _ hb) (.inl hb), r.1, r.2.2.1, r.2.2.2⟩
  obtain ⟨g', w', O', hr, a', todo, vr, rfl, hd, hrd, htold⟩ := hJ W (Rly.refl _ _ _)
  obtain ⟨x, w₂, g1, ⟨rfl, rfl⟩, g3⟩ := hrd w' (Rly.refl _ _ _)
  exact ⟨.returned x, w₂, _, ⟨_, rfl, htold⟩, hr, rfl, rfl, hd, rfl, fn, hf, g1⟩
end
end Go.Id
/- The law FnExactTrailFoot over the ideal memory. -/
namespace Go.Proofs.Ytgcbfhdlfajemaa.Id
open Go.Id
open Go.Proofs
set_option linter.unusedVariables false
set_option maxRecDepth 100000
variable {X : Ctx Try.prog} {lo : Nat}
/-- A function's code. -/
def bodyO (fn : Func) : Code := match fn.body with | some c => c | none => .skip
theorem eqIntS_sl {o o' : Option (Nat × Nat)} {cs ds : List Int} {h : Hp} {lo' lo'' : Nat} (hs : GR lo' h o cs) (hs' : Gw lo'' h inE 1 o' ds) (hn : cs.length ≤ 1048576) : Tri X lo 11 [gv o cs.length, gv o' ds.length] h fun v h' => v = .bool (decide (cs = ds)) ∧ h' = h := by
  obtain ⟨a, fl, p1, p2⟩ := hs.sl
  obtain ⟨b, fl', p3, p4⟩ := gw_sls hs'
  rw [p1, p3]
  exact eqIntS_ok a b fl fl' cs ds h p2 p4 hn
theorem heldIntS_gr {o : Option (Nat × Nat)} {n : Nat} {k : Int} {h : Hp} {lo' : Nat} (hs : GR lo' h o (marks k n)) (hn : n ≤ 1048576) (hk : 0 ≤ k ∧ k ≤ 2 ^ 40) : Tri X lo 15 [gv o n, .int .i64 k] h fun v h' => v = .int .i64 (k + n) ∧ h' = h := by
  obtain ⟨a, fl, p1, p2⟩ := hs.sl
  rw [marks_len] at p1
  rw [p1]
  exact heldIntS_ok a fl n k h p2 hn hk
theorem markIntS_gr (o : Option (Nat × Nat)) (l : List Int) (k : Int) (h : Hp) (hg : GR lo h o l) (hn : l.length ≤ 1048576) (hk : 0 ≤ k ∧ k ≤ 2 ^ 40) : Tri X lo 14 [gv o l.length, .int .i64 k] h fun v h' => v = .int .i64 (k + l.length) ∧ GR lo h' o (marks k l.length) ∧ h'.n = h.n ∧ ∀ i, ¬isB o i → h'.g i = h.g i := by
  match o, hg with
  | none, hg =>
    have hg : l = [] := hg
    subst hg
    exact (markIntS_ok none [] k h rfl (by simp) hk).mono fun v h' ⟨a1, a2, a3, a4⟩ => ⟨a1, a2, a3, a4⟩
  | some (b, e), ⟨g1, r, g2⟩ =>
    refine enter tbOk mtOk ⟨[], []⟩ 400 Try.func14 rfl rfl rfl fun hlo => ?_
    refine loop (σ := Nat) tbOk mtOk ⟨[], []⟩ (fun i => [(5, .v (.int .i64 (i : Int))), (0, .v (.slice (some ⟨b, 0, some e⟩) l.length 1)), (1, .v (.int .i64 (k + i)))]) (fun _ => []) (fun i h' => i ≤ l.length ∧ Row h' b e iE 1 (marks k i ++ (l ++ r).drop i) ∧ h'.n = h.n ∧ ∀ j, ¬isB (some (b, e)) j → h'.g j = h.g j) (fun i => l.length - i) 400 0 (fun _ => rfl) ⟨rfl, rfl, ?_, trivial⟩ trivial ⟨Nat.zero_le _, g2, rfl, fun _ _ => rfl⟩ (fun i h' hI again => ?_)
    · show some (Sl.v (.int .i64 k)) = some (Sl.v (.int .i64 (k + ((0 : Nat) : Int))))
      simp
    obtain ⟨i1, i2, i3, i4⟩ := hI
    refine cnd (fun c1 => ?_) (fun c1 => ?_)
    · have c1 : i < l.length := by simp at c1; omega
      have c1' : i < (l ++ r).length := by rw [List.length_append]; omega
      refine And.intro ⟨by omega, by omega⟩ ?_
      refine ⟨_, i2.st (fun _ => rfl) g1 (j := i) (by simp [marks]; omega) (k + i), ?_⟩
      refine again (i + 1) _ _ _ (by omega) ⟨?_, rfl, ?_, trivial⟩ trivial ⟨by omega, ?_, i3, fun j hj => ?_⟩
      · show some (Sl.v (.int .i64 (IntKind.i64.wrap ((i : Int) + 1)))) = _
        rw [wr (by omega) (by omega)]; rfl
      · show some (Sl.v (.int .i64 (IntKind.i64.wrap (k + (i : Int) + 1)))) = some (Sl.v (.int .i64 (k + ((i + 1 : Nat) : Int))))
        rw [wr (by omega) (by omega), Int.add_assoc]; rfl
      · rw [← marks_set k c1']
        exact Row.set i2.lt
      · simp only [Hp.set]
        rw [if_neg (fun e => hj ⟨_, by rw [e]⟩)]
        exact i4 j hj
    · have c1 : l.length = i := by simp at c1; omega
      rw [← c1, List.drop_left] at i2
      refine ⟨by rw [c1], ⟨g1, r, i2⟩, i3, i4⟩
theorem footG_len (g : Gd) (k : Int) : (footG g k).length ≤ g.cs.length := by
  unfold footG footL; rw [List.length_map]; exact Nat.le_trans (List.length_filter_le _ _) (by simp)
theorem exactTrailFoot_R (g : Gd) (k : Int) (a : Option Addr) (fl : Nat) (h : Hp) (hs : Sls h cE 2 a g.cs) (hn : g.cs.length ≤ 9223372036854775807) (hlo : lo ≤ h.n) :
    R X lo 3 Try.f3 (.ret fun v _ => v = .bool true) [.code (bodyO Try.f3)] (argsTm 0 [.agg #[.int .i64 g.w, .slice a g.cs.length fl], .int .i64 k]) [] h := by
  refine more tbOk mtOk ⟨[], [(10, [0, 1, 2, 3, 4], [0, 0, 2, 7, 15])]⟩ 400 ?_
  refine callP (szGrid_ok g.w a g.cs.length fl 1048576 h ⟨by decide, by decide⟩ hn) ?_
  rintro v h1 ⟨rfl, rfl⟩
  refine cnd (fun c1 => rfl) (fun c1 => ?_)
  have hn1 : g.cs.length ≤ 1048576 := by
    by_cases q : (g.cs.length : Int) ≤ 1048576
    · omega
    · rw [if_neg q] at c1; simp at c1
  have hn2 : (g.cs.length : Int) < 2 ^ 31 := by omega
  have hpl : (footG g k).length ≤ 1048576 := by have := footG_len g k; omega
  refine callP (toGrid_ok g a fl _ hs hn1) ?_
  rintro v h2 ⟨b1, rfl, q1, q2, q3, q4⟩
  refine callP (sTrailFoot_ok g k _ _ h2 (q3.sls cE2) hn2) ?_
  rintro v h3 ⟨⟨bw, ew, rfl, w1, w3⟩, w4⟩
  refine callP (toGrid_ok g a fl _ (hs.ext (q4.trans w4)) hn1) ?_
  rintro v h4 ⟨b2, rfl, x1, x2, x3, x4⟩
  refine callP (TrailFoot_ok g k _ _ _ (x3.sls cE2) hn2) ?_
  rintro v h5 ⟨⟨o, rfl, p2⟩, p4⟩
  generalize hP : footG g k = L at *
  have p3 : ∀ b, isB o b → h4.n ≤ b := fun b hb => (p2.lt hb).2
  have gw : Gx 0 h5 inE 1 (some (bw, ew)) L := ⟨Nat.zero_le _, (w3.ext x4).ext p4⟩
  refine callP (eqIntS_sl p2 (o' := some (bw, ew)) (gw.w fun _ => rfl) hpl) ?_
  rintro v h5' ⟨rfl, rfl⟩
  refine cnd (fun c => by simp at c) (fun _ => ?_)
  refine And.intro (by kernel_rfl) ?_
  have e5 := ((q4.trans w4).trans x4).trans p4
  refine callP (toGrid_ok g a fl _ (hs.ext e5) hn1) ?_
  rintro v h6 ⟨b3, rfl, y1, y2, y3, y4⟩
  refine And.intro Is.r ?_
  have x6 : Row h6 b2 0 cE 2 g.cs := (x3.ext p4).ext y4
  refine callP (eqGrid_ok g g _ _ _ _ _ (x6.sls cE2) (y3.sls cE2) hn1) ?_
  rintro v h6' ⟨rfl, rfl⟩
  refine cnd (fun c => by simp at c) (fun _ => ?_)
  refine callP (markGrid_ok g.w b2 0 g.cs 1 _ x1 x6 hn1 (by decide)) ?_
  rintro v h7 ⟨rfl, m1, m2⟩
  have lb2 : b2 < h4.n := x3.lt
  have lbw : bw < h3.n := w3.lt
  have n34 := x4.n
  have n45 := p4.n
  have n56 := y4.n
  refine cnd (fun c => absurd (of_decide_eq_true c) (by omega)) (fun _ => ?_)
  have p7 : GR h4.n h7 o L := (p2.ext y4).keep (by omega) fun i hi hb => m2 i (by have := p3 i hb; omega)
  have g7 : Gx 0 h7 inE 1 (some (bw, ew)) L := (gw.ext y4).keep (by omega) fun i hi hb => m2 i (by have := isB_eq hb; omega)
  refine callP (eqIntS_sl p7 (o' := some (bw, ew)) (g7.w fun _ => rfl) hpl) ?_
  rintro v h7' ⟨rfl, rfl⟩
  refine cnd (fun c => by simp at c) (fun _ => ?_)
  have n14 : lo ≤ h4.n := by have := (q4.trans w4).n; omega
  refine callP (markIntS_gr o L 1 _ (p7.up fun i hb => by have := p3 i hb; omega) hpl (by decide)) ?_
  rintro v h8 ⟨rfl, p8, m3, m4⟩
  refine callP (heldIntS_gr p8 hpl (by decide)) ?_
  rintro v h8' ⟨rfl, rfl⟩
  refine cnd (fun c => absurd (of_decide_eq_true c) (by omega)) (fun _ => ?_)
  refine cnd (fun c => by simp at c) (fun _ => ?_)
  have g8 : Gx 0 h8' inE 1 (some (bw, ew)) L := g7.keep (by omega) fun i hi hb => m4 i fun q => by have := p3 i q; have := isB_eq hb; omega
  have e3 := q4.trans w4
  have n03 := e3.n
  have e8 : Ext h1 h8' := ⟨by have := (e5.trans y4).n; omega, fun i hi => (m4 i fun q => by have := p3 i q; omega).trans ((m2 i (by omega)).trans ((e5.trans y4).g i hi))⟩
  refine callP (toGrid_ok g a fl _ (hs.ext e8) hn1) ?_
  rintro v h9 ⟨b4, rfl, z1, z2, z3, z4⟩
  refine callP (TrailFoot_ok g k _ _ _ (z3.sls cE2) hn2) ?_
  rintro v h10 ⟨⟨o', rfl, r2⟩, r4⟩
  rw [hP] at r2 ⊢
  refine callP (eqIntS_sl r2 (o' := some (bw, ew)) (((g8.ext z4).ext r4).w fun _ => rfl) hpl) ?_
  rintro v h10' ⟨rfl, rfl⟩
  refine cnd (fun c => by simp at c) (fun _ => ?_)
  refine callP (heldIntS_gr ((p8.ext z4).ext r4) hpl (by decide)) ?_
  rintro v h11 ⟨rfl, rfl⟩
  refine cnd (fun c => absurd (of_decide_eq_true c) (by omega)) (fun _ => ?_)
  refine cnd (fun c => by simp at c) (fun _ => ?_)
  rfl
end Go.Proofs.Ytgcbfhdlfajemaa.Id
/- Lamps that are turned into other lamps or into walls: light goes as it went. No program in sight. -/
namespace Go.Proofs.Ytgcbfhdlfajemaa.Id
open Go.Id
open Go.Proofs
set_option linter.unusedVariables false
/-- An end, where a lamp may have become a wall. -/
def rek (kd : Int → Int) (e : V3) : V3 := if e.1 = 2 ∧ kd e.2.1 = 1 then (1, e.2.1, e.2.2) else e
def tmap (kd : Int → Int) (t : Tr.Tr) : Tr.Tr := (t.1, t.2.map (rek kd))
theorem rek_en (kd : Int → Int) (a wt : Int) : (Tr.en 3 a wt).map (rek kd) = Tr.en 3 a wt := by
  unfold Tr.en
  split
  · simp [rek]
  · rfl
theorem lv_lamps {w n : Int} {kd : Int → Int} {sg : Int → Int → Int} {f f' : Int → Int → Int → Option Tr.Tr} (h : ∀ a d wt, f' a d wt = (f a d wt).map (tmap kd)) (a d wt : Int) : Tr.lv w n sg f' a d wt = (Tr.lv w n sg f a d wt).map (tmap kd) := by
  unfold Tr.lv
  split
  · simp [tmap]
  · split
    · exact h _ _ _
    · simp [tmap, rek]
theorem go_lamps {w n : Int} {kd kd' : Int → Int} {sg : Int → Int → Int} (hk : ∀ a, kd' a = kd a ∨ (kd a = 7 ∧ kd' a = 1)) : ∀ (q : Nat) (a d wt : Int), Tr.go w n kd' sg q a d wt = (Tr.go w n kd sg q a d wt).map (tmap kd')
  | 0, a, d, wt => rfl
  | q + 1, a, d, wt => by
    have ih := go_lamps (w := w) (n := n) (sg := sg) hk q
    have l := lv_lamps (w := w) (n := n) (sg := sg) (kd := kd') ih
    rw [Tr.go, Tr.go]
    by_cases h0 : wt = 0
    · rw [if_pos h0, if_pos h0]; simp [tmap]
    rw [if_neg h0, if_neg h0]
    rcases hk a with e | ⟨e7, e1⟩
    · rw [e]
      by_cases h1 : kd a = 1
      · rw [if_pos h1, if_pos h1]; simp [tmap, rek]
      rw [if_neg h1, if_neg h1]
      by_cases h7 : kd a = 7
      · rw [if_pos h7, if_pos h7]; simp [tmap, rek, e, h7]
      rw [if_neg h7, if_neg h7]
      by_cases h6 : kd a = 6
      · rw [if_pos h6, if_pos h6, l]
        cases Tr.lv w n sg (Tr.go w n kd sg q) a d (wt / 2) with
        | none => rfl
        | some t => simp [tmap, rek_en]
      rw [if_neg h6, if_neg h6]
      by_cases h4 : kd a = 4 ∨ kd a = 5
      · rw [if_pos h4, if_pos h4, l, l]
        cases Tr.lv w n sg (Tr.go w n kd sg q) a d (wt / 2) with
        | none => rfl
        | some t =>
          cases Tr.lv w n sg (Tr.go w n kd sg q) a (Tr.dirT (kd a) d) (wt / 2) with
          | none => rfl
          | some u => simp [tmap, rek_en]
      · rw [if_neg h4, if_neg h4, l]
        cases Tr.lv w n sg (Tr.go w n kd sg q) a (Tr.dirT (kd a) d) wt with
        | none => rfl
        | some t => simp [tmap]
    · rw [if_pos e1, if_neg (by omega), if_pos e7]
      simp [tmap, rek, e1]
/-- Only lamps are turned: into lamps or walls. -/
structure Relit (g g' : Gd) : Prop where
  w : g'.w = g.w
  n : g'.cs.length = g.cs.length
  c : ∀ (i : Nat) (c c' : Cl), g.cs[i]? = some c → g'.cs[i]? = some c' → (c.1 ≠ 7 ∧ c' = c) ∨ (c.1 = 7 ∧ (c'.1 = 7 ∨ c'.1 = 1) ∧ cOk c' = true)
variable {g g' : Gd}
theorem Relit.ok (r : Relit g g') (hg : gOk g = true) : gOk g' = true := by
  obtain ⟨h1, h2, h3, h4, h5, h6⟩ := gOk_iff.1 hg
  refine gOk_iff.2 ⟨by rw [r.w]; exact h1, by rw [r.w]; exact h2, by rw [r.n]; exact h3, by rw [r.w, r.n]; exact h4, by rw [r.w, r.n]; exact h5, fun c' hc' => ?_⟩
  obtain ⟨i, hi, he⟩ := List.getElem_of_mem hc'
  have hi' : i < g.cs.length := by rw [← r.n]; exact hi
  rcases r.c i g.cs[i] c' (List.getElem?_eq_getElem hi') (by rw [List.getElem?_eq_getElem hi, he]) with ⟨_, e⟩ | ⟨_, _, e⟩
  · rw [e]; exact h6 _ (List.getElem_mem hi')
  · exact e
theorem Relit.kd (r : Relit g g') (a : Int) : kdG g' a = kdG g a ∨ (kdG g a = 7 ∧ kdG g' a = 1) := by
  unfold kdG
  by_cases hi : a.toNat < g.cs.length
  · have hi' : a.toNat < g'.cs.length := by rw [r.n]; exact hi
    rw [List.getElem?_eq_getElem hi, List.getElem?_eq_getElem hi']
    simp only [Option.getD_some]
    rcases r.c a.toNat _ _ (List.getElem?_eq_getElem hi) (List.getElem?_eq_getElem hi') with ⟨_, e⟩ | ⟨e1, e2, _⟩
    · exact .inl (by rw [e])
    · rcases e2 with e2 | e2
      · exact .inl (by rw [e1, e2])
      · exact .inr ⟨e1, e2⟩
  · have hi' : ¬ a.toNat < g'.cs.length := by rw [r.n]; exact hi
    rw [List.getElem?_eq_none (by omega), List.getElem?_eq_none (by omega)]
    exact .inl rfl
theorem Relit.hi (r : Relit g g') : g'.hi = g.hi := by unfold Gd.hi; rw [r.w, r.n]
theorem Relit.many (r : Relit g g') : many g' = many g := by unfold Id.many; rw [r.w, r.hi]
theorem Relit.sg (r : Relit g g') (hg : gOk g = true) : sightOf g' = sightOf g := by
  funext a d
  unfold sightOf sideRays
  rw [r.ok hg, hg, r.w, r.hi]
theorem Relit.ray (r : Relit g g') (hg : gOk g = true) (k : Int) : sightRay g' k = sightRay g k := by
  unfold sightRay sideRays
  rw [r.ok hg, hg, r.w, r.hi, r.many]
theorem isTrail_det {k : Int} {T T' : Tr.Tr} (h : IsTrail g k T) (h' : IsTrail g k T') : T = T' := by
  unfold IsTrail at h h'
  split at h
  · rename_i e
    rw [e] at h'; rw [h]; exact h'.symm
  · rename_i e
    rw [e] at h'
    obtain ⟨q, hq⟩ := h
    obtain ⟨q', hq'⟩ := h'
    exact Tr.go_det hq hq'
theorem Relit.trail (r : Relit g g') (hg : gOk g = true) (k : Int) : trail g' k = tmap (kdG g') (trail g k) := by
  refine isTrail_det (trail_ok g' k).1 ?_
  have h := (trail_ok g k).1
  unfold IsTrail at h ⊢
  rw [r.ray hg]
  cases e : sightRay g k with
  | none =>
    rw [e] at h
    have h : Id.trail g k = ([], []) := h
    show tmap (kdG g') (Id.trail g k) = ([], [])
    rw [h]; rfl
  | some rr =>
    rw [e] at h
    have h : ∃ q, Tr.go g.w g.cs.length (kdG g) (sightOf g) q rr.1 rr.2 64 = some (Id.trail g k) := h
    show ∃ q, Tr.go g'.w g'.cs.length (kdG g') (sightOf g') q rr.1 rr.2 64 = some (tmap (kdG g') (Id.trail g k))
    obtain ⟨q, hq⟩ := h
    refine ⟨q, ?_⟩
    rw [r.w, r.n, r.sg hg, go_lamps r.kd, hq]; rfl
/-- How bright it is, by the lamps' brightness. -/
def litBy (f : Int → Int) : List V3 → Int
  | [] => 0
  | e :: l => (if e.1 = 2 then e.2.2 * f e.2.1 else 0) + litBy f l
theorem lightOf_by (g : Gd) : ∀ l, lightOf g l = litBy (ltG g) l
  | [] => rfl
  | e :: l => by rw [lightOf, litBy, lightOf_by g l]
theorem litBy_rek (f kd : Int → Int) : ∀ l, litBy f (l.map (rek kd)) = litBy (fun a => if kd a = 1 then 0 else f a) l
  | [] => rfl
  | e :: l => by
    rw [List.map_cons, litBy, litBy, litBy_rek f kd l]
    have : (if (rek kd e).1 = 2 then (rek kd e).2.2 * f (rek kd e).2.1 else 0) = (if e.1 = 2 then e.2.2 * (if kd e.2.1 = 1 then 0 else f e.2.1) else 0) := by
      by_cases h2 : e.1 = 2
      · by_cases h1 : kd e.2.1 = 1
        · have : rek kd e = (1, e.2.1, e.2.2) := if_pos ⟨h2, h1⟩
          rw [this]; simp [h2, h1]
        · have : rek kd e = e := if_neg (fun h => h1 h.2)
          rw [this, if_pos h2, if_pos h2, if_neg h1]
      · have : rek kd e = e := if_neg (fun h => h2 h.1)
        rw [this, if_neg h2, if_neg h2]
    rw [this]
theorem litBy_congr {f f' : Int → Int} : ∀ {l : List V3}, (∀ e ∈ l, e.1 = 2 → f e.2.1 = f' e.2.1) → litBy f l = litBy f' l
  | [], _ => rfl
  | e :: l, h => by
    rw [litBy, litBy, litBy_congr fun e' he' => h e' (List.mem_cons_of_mem _ he')]
    congr 1
    by_cases h2 : e.1 = 2
    · rw [if_pos h2, if_pos h2, h e List.mem_cons_self h2]
    · rw [if_neg h2, if_neg h2]
theorem litBy_mul (f : Int → Int) (m : Int) : ∀ l, litBy (fun a => m * f a) l = m * litBy f l
  | [] => by simp [litBy]
  | e :: l => by
    rw [litBy, litBy, litBy_mul f m l, Int.mul_add]
    congr 1
    split
    · rw [← Int.mul_assoc, ← Int.mul_assoc, Int.mul_comm e.2.2]
    · simp
theorem litBy_add (f f' : Int → Int) : ∀ l, litBy (fun a => f a + f' a) l = litBy f l + litBy f' l
  | [] => rfl
  | e :: l => by
    rw [litBy, litBy, litBy, litBy_add f f' l]
    split
    · rw [Int.mul_add]; omega
    · omega
theorem litBy_le {f f' : Int → Int} : ∀ {l : List V3}, (∀ e ∈ l, e.1 = 2 → 0 ≤ e.2.2 ∧ f e.2.1 ≤ f' e.2.1) → litBy f l ≤ litBy f' l
  | [], _ => Int.le_refl _
  | e :: l, h => by
    rw [litBy, litBy]
    have h1 := litBy_le (l := l) fun e' he' => h e' (List.mem_cons_of_mem _ he')
    by_cases h2 : e.1 = 2
    · rw [if_pos h2, if_pos h2]
      obtain ⟨a, b⟩ := h e List.mem_cons_self h2
      have := Int.mul_le_mul_of_nonneg_left b a
      omega
    · rw [if_neg h2, if_neg h2]; omega
/-- How bright it is where the lamps were turned. -/
theorem Relit.light (r : Relit g g') (hg : gOk g = true) (k : Int) : lightAt g' k = litBy (fun a => if kdG g' a = 1 then 0 else ltG g' a) (Id.trail g k).2 := by
  unfold lightAt
  rw [r.trail hg, lightOf_by, ← litBy_rek]; rfl
/-- What ends at a lamp ends at one. -/
theorem trail_lamp (g : Gd) (k : Int) : ∀ e ∈ (trail g k).2, e.1 = 2 → (0 ≤ e.2.1 ∧ e.2.1 < g.cs.length) ∧ kdG g e.2.1 = 7 ∧ 0 ≤ e.2.2 := by
  intro e he h2
  have h := (trail_ok g k).1
  have hE := (trail_ok g k).2.2.1 e he
  refine ⟨hE.1 h2, ?_, hE.2.1⟩
  unfold IsTrail at h
  split at h
  · rw [h] at he; cases he
  · rename_i rr hr
    obtain ⟨q, hq⟩ := h
    obtain ⟨hg, h1, h2'⟩ := sightRay_ok hr
    obtain ⟨g1, g2, g3, g4, g5, g6⟩ := gOk_iff.1 hg
    have := (Tr.go_ends g1 g5 q _ _ _ _ ⟨h1, h2'⟩ (by decide) hq).1 e he
    obtain ⟨_, _, h⟩ := this
    rcases h with h | h | h | h
    · omega
    · omega
    · exact h.2.2.1
    · omega
theorem pic_get {g : Gd} {i : Nat} (hi : i < (pic g).length) : (pic g)[i] = lightAt g i := by simp [pic]
theorem lightOf_rng {g : Gd} (hg : ∀ c ∈ g.cs, cOk c = true) : ∀ l : List V3, (∀ e ∈ l, 0 ≤ e.2.2 ∧ e.2.2 ≤ 64) → 0 ≤ lightOf g l ∧ lightOf g l ≤ 576 * l.length
  | [], _ => by simp [lightOf]
  | e :: l, h => by
    have h1 := lightOf_rng hg l fun e' he' => h e' (List.mem_cons_of_mem _ he')
    have h2 := lite_ok hg (h e List.mem_cons_self)
    have e1 : lightOf g (e :: l) = lite g e + lightOf g l := rfl
    rw [e1, List.length_cons]; omega
theorem lightAt_rng (g : Gd) (k : Int) : 0 ≤ lightAt g k ∧ lightAt g k ≤ 34560000 := by
  obtain ⟨_, h2, h3, h4, _⟩ := trail_ok g k
  unfold lightAt
  by_cases he : (trail g k).2 = []
  · rw [he]; simp [lightOf]
  · have := lightOf_rng (h4 he) _ fun e he => (h3 e he).2
    omega
end Go.Proofs.Ytgcbfhdlfajemaa.Id
/- A cell that is not visited changes nothing. No program in sight. -/
namespace Go.Proofs.Ytgcbfhdlfajemaa.Id
open Go.Id
open Go.Proofs
set_option linter.unusedVariables false
theorem lv_off {w n : Int} {kd kd' : Int → Int} {sg : Int → Int → Int} {f f' : Int → Int → Int → Option Tr.Tr} (h : ∀ a d wt t, f a d wt = some t → (∀ v ∈ t.1, kd' v.1 = kd v.1) → f' a d wt = some t) (a d wt : Int) (t : Tr.Tr) (ht : Tr.lv w n sg f a d wt = some t) (hv : ∀ v ∈ t.1, kd' v.1 = kd v.1) : Tr.lv w n sg f' a d wt = some t := by
  unfold Tr.lv at ht ⊢
  split
  · rename_i h0; rw [if_pos h0] at ht; exact ht
  · rename_i h0
    rw [if_neg h0] at ht
    split
    · rename_i a' ha
      rw [ha] at ht
      exact h _ _ _ _ ht hv
    · rename_i ha
      rw [ha] at ht
      exact ht
theorem go_off {w n : Int} {kd kd' : Int → Int} {sg : Int → Int → Int} : ∀ (q : Nat) (a d wt : Int) (t : Tr.Tr), Tr.go w n kd sg q a d wt = some t → (∀ v ∈ t.1, kd' v.1 = kd v.1) → Tr.go w n kd' sg q a d wt = some t
  | 0, _, _, _, _, h, _ => by cases h
  | q + 1, a, d, wt, t, h, hv => by
    have ih := lv_off (w := w) (n := n) (sg := sg) (go_off (w := w) (n := n) (kd := kd) (kd' := kd') (sg := sg) q)
    by_cases h0 : wt = 0
    · rw [Tr.go, if_pos h0] at h ⊢; exact h
    have hh : kd' a = kd a := by
      obtain ⟨l, hl⟩ := Tr.go_head h0 h
      exact hv (a, d, wt) (by rw [hl]; exact List.mem_cons_self ..)
    rw [Tr.go, if_neg h0] at h ⊢
    rw [hh]
    by_cases h1 : kd a = 1
    · rw [if_pos h1] at h ⊢; exact h
    rw [if_neg h1] at h ⊢
    by_cases h7 : kd a = 7
    · rw [if_pos h7] at h ⊢; exact h
    rw [if_neg h7] at h ⊢
    by_cases h6 : kd a = 6
    · rw [if_pos h6] at h ⊢
      obtain ⟨u, hu, h⟩ := Tr.bind_some h
      cases h
      rw [ih a d (wt / 2) u hu fun v hm => hv v (by simp [hm])]; rfl
    rw [if_neg h6] at h ⊢
    by_cases h4 : kd a = 4 ∨ kd a = 5
    · rw [if_pos h4] at h ⊢
      obtain ⟨u, hu, h⟩ := Tr.bind_some h
      obtain ⟨x, hx, h⟩ := Tr.bind_some h
      cases h
      rw [ih a d (wt / 2) u hu fun v hm => hv v (by simp [hm]), Option.bind_some, ih a _ (wt / 2) x hx fun v hm => hv v (by simp [hm])]; rfl
    · rw [if_neg h4] at h ⊢
      obtain ⟨u, hu, h⟩ := Tr.bind_some h
      cases h
      rw [ih a _ wt u hu fun v hm => hv v (by simp [hm])]; rfl
/-- A grid with another cell. -/
def putG (g : Gd) (at_ : Nat) (c : Cl) : Gd := ⟨g.w, g.cs.set at_ c⟩
section
variable {g : Gd} {at_ : Nat} {c : Cl}
theorem putG_ok (hg : gOk g = true) (hc : cOk c = true) : gOk (putG g at_ c) = true := by
  obtain ⟨h1, h2, h3, h4, h5, h6⟩ := gOk_iff.1 hg
  refine gOk_iff.2 ⟨h1, h2, by simpa [putG] using h3, by simpa [putG] using h4, by simpa [putG] using h5, fun x hx => ?_⟩
  rcases List.mem_or_eq_of_mem_set hx with q | q
  · exact h6 x q
  · rw [q]; exact hc
theorem putG_len : (putG g at_ c).cs.length = g.cs.length := by simp [putG]
theorem putG_hi : (putG g at_ c).hi = g.hi := by unfold Gd.hi; rw [putG_len]; rfl
theorem putG_many : many (putG g at_ c) = many g := by unfold many; rw [putG_hi]; rfl
theorem putG_sg (hg : gOk g = true) (hc : cOk c = true) : sightOf (putG g at_ c) = sightOf g := by
  funext a d
  unfold sightOf sideRays
  rw [putG_ok hg hc, hg, putG_hi]; rfl
theorem putG_ray (hg : gOk g = true) (hc : cOk c = true) (k : Int) : sightRay (putG g at_ c) k = sightRay g k := by
  unfold sightRay sideRays
  rw [putG_ok hg hc, hg, putG_hi, putG_many]; rfl
theorem putG_kd {a : Int} (h0 : 0 ≤ a) (ha : a ≠ at_) : kdG (putG g at_ c) a = kdG g a := by
  unfold kdG putG
  simp only
  rw [List.getElem?_set_ne (by omega)]
theorem putG_lt {a : Int} (h0 : 0 ≤ a) (ha : a ≠ at_) : ltG (putG g at_ c) a = ltG g a := by
  unfold ltG putG
  simp only
  rw [List.getElem?_set_ne (by omega)]
theorem foot_mem {k : Int} {x : Int} : x ∈ footG g k ↔ ∃ v ∈ (trail g k).1, v.1 = x := by
  show x ∈ footL _ _ ↔ _
  rw [footL_mem]
  exact ⟨fun q => q.2, fun ⟨v, hv, e⟩ => ⟨by rw [← e]; exact trail_vis g k v hv, v, hv, e⟩⟩
/-- Not visited: it changes nothing. -/
theorem trail_put (hg : gOk g = true) (hc : cOk c = true) {k : Int} (hn : (at_ : Int) ∉ footG g k) : trail (putG g at_ c) k = trail g k := by
  refine isTrail_det (trail_ok (putG g at_ c) k).1 ?_
  have h := (trail_ok g k).1
  have hvis := trail_vis g k
  unfold IsTrail at h ⊢
  rw [putG_ray hg hc]
  cases e : sightRay g k with
  | none => rw [e] at h; exact h
  | some r =>
    rw [e] at h
    obtain ⟨q, hq⟩ := h
    refine ⟨q, ?_⟩
    rw [putG_len, putG_sg hg hc]
    exact go_off q _ _ _ _ hq fun v hv => putG_kd (hvis v hv).1 fun e => hn (foot_mem.2 ⟨v, hv, e⟩)
theorem foot_put (hg : gOk g = true) (hc : cOk c = true) {k : Int} (hn : (at_ : Int) ∉ footG g k) : footG (putG g at_ c) k = footG g k := by
  unfold footG
  rw [trail_put hg hc hn, putG_len]
end
end Go.Proofs.Ytgcbfhdlfajemaa.Id
/- Contracts over the ideal memory: copies. -/
namespace Go.Proofs.Ytgcbfhdlfajemaa.Id
open Go.Id
open Go.Proofs
set_option linter.unusedVariables false
set_option maxRecDepth 100000
variable {X : Ctx Try.prog} {lo : Nat}
theorem sls_cells {α : Type} {h : Hp} {enc : α → List Value} {sz fl : Nat} {a : Option Addr} {cs : List α} (hs : Sls h enc sz a cs) : SlCells h (.slice a cs.length fl) sz (cs.flatMap enc) := by
  cases a with
  | none =>
    obtain rfl : cs = [] := hs
    rfl
  | some ad =>
    obtain ⟨_, c, sz', h1, h2⟩ := hs
    show if cs.length = 0 then _ else _
    split
    · rename_i hl
      rw [List.length_eq_zero_iff.1 hl]; rfl
    · exact ⟨c, sz', h1, h2⟩
theorem CloneC_ok (a : Option Addr) (fl : Nat) (cs : List Cl) (h : Hp) (hs : Sls h cE 2 a cs) (hn : cs.length ≤ 1048576) : Tri X lo 69 [.slice a cs.length fl] h fun v h' => (∃ o, v = gv o cs.length ∧ Gx h.n h' cE 2 o cs) ∧ Ext h h' := by
  refine enter tbOk mtOk ⟨[], []⟩ 400 Try.func69 rfl rfl rfl fun hlo => ?_
  cases a with
  | none =>
    obtain rfl : cs = [] := hs
    refine cndT ?_
    exact And.intro ⟨none, rfl, rfl⟩ (Ext.refl h)
  | some ad =>
    refine cndF ?_
    have e1 : Ext h (h.push (.cells (([] : List Cl).flatMap cE) 2 0)) := Ext.push _ _
    have r1 : Row (h.push (.cells (([] : List Cl).flatMap cE) 2 0)) h.n 0 cE 2 ([] : List Cl) := Row.push
    have ap := r1.app (m := cs) (lo := lo) cE2 (by decide) hlo (by unfold Id.maxLen; simp; omega)
    have ap' : Ap lo (h.push (.cells (([] : List Cl).flatMap cE) 2 0)) 2 (.slice (some ⟨h.n, 0, some 0⟩) 0 1) (cs.flatMap cE) cs.length (.slice (some ⟨h.n, 0, some 1⟩) cs.length 1) ((h.push (.cells (([] : List Cl).flatMap cE) 2 0)).set h.n (.cells (cs.flatMap cE) 2 1)) := by simpa using ap
    refine ⟨cs.flatMap cE, sls_cells (hs.ext e1), _, _, ap', ?_⟩
    exact And.intro ⟨some (h.n, 1), rfl, Nat.le_refl _, Row.set r1.lt⟩ (e1.set (Nat.le_refl _) _)
theorem gOk_len {g : Gd} (hg : gOk g = true) : g.cs.length ≤ 25 := by
  obtain ⟨g1, g2, _, g4, _⟩ := gOk_iff.1 hg
  omega
theorem gridCopy_ok (g : Gd) (a : Option Addr) (fl : Nat) (h : Hp) (hs : Sls h cE 2 a g.cs) (hn : g.cs.length ≤ 1048576) : Tri X lo 52 [.agg #[.int .i64 g.w, .slice a g.cs.length fl]] h fun v h' => (∃ o, v = .agg #[.int .i64 g.w, gv o g.cs.length] ∧ Gx h.n h' cE 2 o g.cs) ∧ Ext h h' := by
  refine enter tbOk mtOk ⟨[], [(1, [0, 1, 2, 3, 4, 5, 6], [0, 1, 0, 4, 12, 31, 63])]⟩ 400 Try.func52 rfl rfl rfl fun hlo => ?_
  refine And.intro (by kernel_rfl) ?_
  refine callP (CloneC_ok a fl g.cs h hs hn) ?_
  rintro v h1 ⟨⟨o, rfl, q1⟩, e1⟩
  refine And.intro Is.r ?_
  rcases o with _ | ⟨b, e⟩
  · exact And.intro ⟨none, rfl, q1⟩ e1
  · exact And.intro ⟨some (b, e), rfl, q1⟩ e1
theorem GridPut_ok (g : Gd) (i : Nat) (c : Cl) (a : Option Addr) (fl : Nat) (h : Hp) (hs : Sls h cE 2 a g.cs) (hg : gOk g = true) (hc : cOk c = true) (hi : i < g.cs.length) (hn : (g.cs.length : Int) < 2 ^ 31) : Tri X lo 31 [.agg #[.int .i64 g.w, .slice a g.cs.length fl], .int .i64 (i : Int), .agg #[.int .i64 c.1, .int .i64 c.2]] h fun v h' => (∃ o, v = .tuple #[.agg #[.int .i64 g.w, gv o g.cs.length], .bool true] ∧ Gx h.n h' cE 2 o (g.cs.set i c)) ∧ Ext h h' := by
  refine enter tbOk mtOk ⟨[], []⟩ 400 Try.func31 rfl rfl rfl fun hlo => ?_
  refine callP (GridOk_ok g.w a fl g.cs h hs hn) ?_
  rintro v h1 ⟨rfl, e1⟩
  rw [show gOk ⟨g.w, g.cs⟩ = true from hg]
  refine cndF ?_
  refine callP (cOk_ok c.1 c.2 h1) ?_
  rintro v h2 ⟨rfl, e2⟩
  rw [show cOk (c.1, c.2) = true from hc]
  refine cndF ?_
  refine cndF ?_
  refine cnd (fun c1 => absurd (of_decide_eq_true c1) (by omega)) (fun _ => ?_)
  refine callP (gridCopy_ok g a fl h2 ((hs.ext e1).ext e2) (by have := gOk_len hg; omega)) ?_
  rintro v h3 ⟨⟨o, rfl, q1⟩, e3⟩
  have n12 := (e1.trans e2).n
  match o, q1 with
  | none, q1 =>
    have : g.cs = [] := q1
    rw [this] at hi; simp at hi
  | some (b, e), q1 =>
    refine And.intro ⟨by omega, by omega⟩ ?_
    refine ⟨_, q1.2.st cE2 (by have := q1.1; omega) hi c, ?_⟩
    refine And.intro ⟨some (b, e), rfl, by have := q1.1; omega, Row.set q1.2.lt⟩ (((e1.trans e2).trans e3).set (by have := q1.1; omega) _)
end Go.Proofs.Ytgcbfhdlfajemaa.Id
/- The law FnTrailUnseen over the ideal memory. -/
namespace Go.Proofs.Ytgcbfhdlfajemaa.Id
open Go.Id
open Go.Proofs
set_option linter.unusedVariables false
set_option maxRecDepth 100000
variable {X : Ctx Try.prog} {lo : Nat}
theorem DrawCellOk_ok (a : Option Addr) (fl : Nat) (bs : List Nat) (h : Hp) (hs : Sls h uE 1 a bs) (hn : bs.length ≤ 1048576) (hb : ∀ b ∈ bs, b < 256) : Tri X lo 27 [.slice a bs.length fl] h fun v h' => (∃ c : Cl, v = .agg #[.int .i64 c.1, .int .i64 c.2]) ∧ Ext h h' := by
  refine enter tbOk mtOk ⟨[], []⟩ 400 Try.func27 rfl rfl rfl fun hlo => ?_
  refine callP (l6Open_ok a fl bs h hs hn hb) ?_
  rintro v h1 ⟨rfl, r1, x1⟩
  refine callP (pick_ok h.n 0 2 h1 r1 (by decide) (by omega)) ?_
  rintro v h2 ⟨q, rfl, _, _, _, r2, x2⟩
  refine cnd (fun _ => ?_) (fun _ => ?_)
  · refine callP (l71Off_ok h.n _ h2 r2 (by omega)) ?_
    rintro v h3 ⟨c, p', rfl, _, _, x3⟩
    exact And.intro ⟨c, rfl⟩ ((x2.trans x3).out x1 (Nat.le_refl _))
  · refine callP (l71Cell_ok h.n _ h2 r2 (by omega)) ?_
    rintro v h3 ⟨c, p', rfl, _, _, x3⟩
    exact And.intro ⟨c, rfl⟩ ((x2.trans x3).out x1 (Nat.le_refl _))
theorem trailUnseen_R (bs : List Nat) (a : Option Addr) (fl : Nat) (bs2 : List Nat) (a2 : Option Addr) (fl2 : Nat) (h : Hp) (hs : Sls h uE 1 a bs) (hb : ∀ b ∈ bs, b < 256) (hn : bs.length ≤ 9223372036854775807) (hs2 : Sls h uE 1 a2 bs2) (hb2 : ∀ b ∈ bs2, b < 256) (hn2 : bs2.length ≤ 9223372036854775807) (hlo : lo ≤ h.n) :
    R X lo 6 Try.f6 (.ret fun v _ => v = .bool true) [.code (bodyO Try.f6)] (argsTm 0 [.slice a bs.length fl, .slice a2 bs2.length fl2]) [] h := by
  refine more tbOk mtOk ⟨[], [(13, [0, 1, 2, 3, 4, 5, 6, 7, 8, 9, 11, 10, 12, 13, 14, 15, 16, 18, 19, 17, 20, 21, 22, 23, 24, 25], [0, 1, 3, 7, 7, 31, 63, 127, 255, 255, 1023, 255, 4095, 8191, 16383, 32767, 32767, 131071, 32767, 32767, 1048575, 2097151, 4194303, 8388607, 16777215, 33554431])]⟩ 400 ?_
  refine cnd (fun c1 => cndT rfl) (fun c1 => ?_)
  have hm1 : bs.length ≤ 1048576 := by simp at c1; omega
  refine cnd (fun c1 => rfl) (fun c1 => ?_)
  have hm2 : bs2.length ≤ 1048576 := by simp at c1; omega
  refine callP (DrawTrailVisits_ok a fl bs h hs hm1 hb) ?_
  rintro v h1 ⟨g, ga, gf, k, rfl, d1, gl, kk, e1⟩
  have gs := d1.sls.2
  have hg2 : (g.cs.length : Int) < 2 ^ 31 := by omega
  refine callP (DrawCellOk_ok a2 fl2 bs2 h1 (hs2.ext e1) hm2 hb2) ?_
  rintro v h2 ⟨⟨c, rfl⟩, e2⟩
  have gs2 := gs.ext e2
  obtain ⟨_, ⟨t2, t3⟩, _⟩ := trail_ok g k
  refine callP (TrailVisits_ok g k ga gf h2 gs2 hg2) ?_
  rintro v h3 ⟨⟨o, rfl, p2⟩, e3⟩
  have gs3 := gs2.ext e3
  refine callP (sTrailVisits_ok g k ga gf h3 gs3 hg2) ?_
  rintro v h4 ⟨⟨o', rfl, w2⟩, e4⟩
  have gs4 := gs3.ext e4
  obtain ⟨va, vf, q1, q2⟩ := gw_sls (p2.ext e4)
  obtain ⟨va', vf', q3, q4⟩ := gw_sls w2
  rw [q1, q3]
  refine callP (llVisits_ok va va' vf vf' (trail g k).1 (trail g k).1 h4 q2 q4 (by omega)) ?_
  rintro v h4' ⟨rfl, rfl⟩
  refine cnd (fun c => by simp at c) (fun _ => ?_)
  refine callP (llSight_ok g k ga gf h4' gs4 hg2) ?_
  rintro v h5 ⟨rfl, e5⟩
  have last : ∀ (h5 : Hp), Ext h4' h5 → CallP X lo 29 [.agg #[.int .i64 g.w, .slice ga g.cs.length gf], .int .i64 k] h5 (fun v h6 => CallP X lo 28 [.slice va (trail g k).1.length vf, v] h6 fun v _ => v = .bool true) := by
    intro h5 e5
    refine callP (sTrailVisits_ok g k ga gf h5 (gs4.ext e5) hg2) ?_
    rintro v h6 ⟨⟨o6, rfl, w6⟩, e6⟩
    obtain ⟨va6, vf6, q5, q6⟩ := gw_sls w6
    rw [q5]
    refine callP (llVisits_ok va va6 vf vf6 (trail g k).1 (trail g k).1 h6 ((q2.ext e5).ext e6) q6 (by omega)) ?_
    rintro v h6' ⟨rfl, rfl⟩
    simp
  refine cnd (fun cs => cndT (last h5 e5)) (fun cs => ?_)
  refine callP (sCellOk_ok c.1 c.2 h5) ?_
  rintro v h6 ⟨rfl, e6⟩
  refine cnd (fun cc => last h6 (e5.trans e6)) (fun cc => ?_)
  have hc : cOk c = true := by
    have : (!cOk (c.1, c.2)) = false := cc
    simpa using this
  have hsg : 0 ≤ k ∧ k < if gOk g then many g else 0 := by
    by_cases q : 0 ≤ k ∧ k < if gOk g then many g else 0
    · exact q
    · rw [decide_eq_false q] at cs; cases cs
  have hg : gOk g = true := by
    by_cases q : gOk g = true
    · exact q
    · rw [if_neg q] at hsg; omega
  have gs6 := (gs4.ext e5).ext e6
  refine callP (TrailFoot_ok g k ga gf h6 gs6 hg2) ?_
  rintro v h7 ⟨⟨of, rfl, f2⟩, e7⟩
  obtain ⟨fa, ff, u1, u2⟩ := f2.sl
  rw [u1]
  have gs7 := gs6.ext e7
  have q7 := ((q2.ext e5).ext e6).ext e7
  have fl1 : (footG g k).length ≤ 40 := by have := footG_len g k; omega
  have hTV : ∀ (at_ : Nat), (at_ : Int) ∉ footG g k → trail (putG g at_ c) k = trail g k := fun at_ q => trail_put hg hc q
  refine loop (σ := Nat) tbOk mtOk ⟨[], [(13, [0, 1, 2, 3, 4, 5, 6, 7, 8, 9, 11, 10, 12, 13, 14, 15, 16, 18, 19, 17, 20, 21, 22, 23, 24, 25], [0, 1, 3, 7, 7, 31, 63, 127, 255, 255, 1023, 255, 4095, 8191, 16383, 32767, 32767, 131071, 32767, 32767, 1048575, 2097151, 4194303, 8388607, 16777215, 33554431])]⟩ (fun i => [(10, .v (.int .i64 (i : Int))), (8, .v (.slice va (trail g k).1.length vf)), (9, .v (.slice fa (footG g k).length ff)), (6, .v (.int .i64 k)), (5, .l 0 0), (7, .l 1 0)]) (fun _ => [[.int .i64 g.w, .slice ga g.cs.length gf], [.int .i64 c.1, .int .i64 c.2]]) (fun i h' => i ≤ g.cs.length ∧ Ext h7 h') (fun i => g.cs.length - i) 400 0 (fun _ => rfl) ⟨rfl, rfl, rfl, rfl, rfl, rfl, trivial⟩ ⟨rfl, rfl, trivial⟩ ⟨Nat.zero_le _, Ext.refl _⟩ (fun i h' hI again => ?_)
  obtain ⟨i1, i2⟩ := hI
  refine cnd (fun c1 => ?_) (fun c1 => rfl)
  have c1 : i < g.cs.length := by simpa using c1
  have wq : IntKind.i64.wrap ((i : Int) + 1) = ((i + 1 : Nat) : Int) := wz (by omega) (by omega)
  refine callP (GridPut_ok g i c ga gf h' (gs7.ext i2) hg hc c1 hg2) ?_
  rintro v h8 ⟨⟨og, rfl, pg⟩, e8⟩
  obtain ⟨og1, og2, rfl⟩ : ∃ b e, og = some (b, e) := by
    cases og with
    | none =>
      have : g.cs.set i c = [] := pg
      have := congrArg List.length this
      simp at this; rw [this] at c1; simp at c1
    | some x => exact ⟨x.1, x.2, rfl⟩
  have i3 := i2.trans e8
  refine And.intro (by kernel_rfl) ?_
  refine cndF ?_
  refine callP (llHas_ok (footG g k) fa ff (i : Int) h8 (u2.ext i3) (by omega)) ?_
  rintro v h9 ⟨rfl, rfl⟩
  by_cases hin : (i : Int) ∈ footG g k
  · rw [decide_eq_true hin]
    refine cndF ?_
    refine cndF ?_
    exact again (i + 1) _ _ _ (by omega) ⟨vI wq, rfl, rfl, rfl, rfl, rfl, trivial⟩ ⟨rfl, rfl, trivial⟩ ⟨by omega, i3⟩
  · rw [decide_eq_false hin]
    have hT := hTV i hin
    have ps : Sls h9 cE 2 (some ⟨og1, 0, some og2⟩) (putG g i c).cs := pg.2.sls cE2
    have pl : ((putG g i c).cs.length : Int) < 2 ^ 31 := by rw [putG_len]; exact hg2
    refine cndT ?_
    have ea := TrailVisits_ok (X := X) (lo := lo) (putG g i c) k (some ⟨og1, 0, some og2⟩) 1 h9 ps pl
    rw [putG_len, hT] at ea
    refine callP ea ?_
    rintro v h10 ⟨⟨o10, rfl, p10⟩, e10⟩
    obtain ⟨x1, x2, x3, x4⟩ := gw_sls p10
    rw [x3]
    refine callP (llVisits_ok x1 va x2 vf (trail g k).1 (trail g k).1 h10 x4 ((q7.ext i3).ext e10) (by omega)) ?_
    rintro v h10' ⟨rfl, rfl⟩
    refine cnd (fun c => by simp at c) (fun _ => ?_)
    have eb := TrailEnds_ok (X := X) (lo := lo) (putG g i c) k (some ⟨og1, 0, some og2⟩) 1 h10' (ps.ext e10) pl
    rw [putG_len, hT] at eb
    refine callP eb ?_
    rintro v h11 ⟨⟨o11, rfl, p11⟩, e11⟩
    obtain ⟨y1, y2, y3, y4⟩ := gw_sls p11
    rw [y3]
    refine And.intro Is.r ?_
    refine callP (TrailEnds_ok g k ga gf h11 (((gs7.ext i3).ext e10).ext e11) hg2) ?_
    rintro v h12 ⟨⟨o12, rfl, p12⟩, e12⟩
    obtain ⟨z1, z2, z3, z4⟩ := gw_sls p12
    rw [z3]
    refine callP (llEnds_ok y1 z1 y2 z2 (trail g k).2 (trail g k).2 h12 (y4.ext e12) z4 (by omega)) ?_
    rintro v h12' ⟨rfl, rfl⟩
    refine cnd (fun c => by simp at c) (fun _ => ?_)
    exact again (i + 1) _ _ _ (by omega) ⟨vI wq, rfl, rfl, rfl, rfl, rfl, trivial⟩ ⟨rfl, rfl, trivial⟩ ⟨by omega, ((i3.trans e10).trans e11).trans e12⟩
end Go.Proofs.Ytgcbfhdlfajemaa.Id
/- What comes in, as ideal memory that nobody writes; what is left of it at the run's end. -/
namespace Go.Id
open Go.Conc Go.ChangeShapes Go.WideShapes
set_option linter.unusedVariables false
theorem cell_spot {w : World} {a : Addr} {v : Value} (h : w.cell? a = some v) : a.spot = none ∧ a.block < w.heap.size := by
  unfold World.cell? at h
  split at h
  · rename_i c _ _ hb
    split at h
    · cases h
    · rename_i hs
      refine ⟨?_, (Array.getElem?_eq_some_iff.1 hb).1⟩
      cases hsp : a.spot with
      | none => rfl
      | some _ => rw [hsp] at hs; exact absurd rfl hs
  · cases h
def InOk (W : World) (s : Sim) (h : Hp) : Prop := SimOk (lowOf W) h.n s (fun _ => False) h W
theorem InOk.nil (W : World) : InOk W ⟨fun _ => none, fun _ => 0, fun _ => none⟩ ⟨0, fun _ => .cells [] 0 0⟩ :=
  ⟨fun id c h => (by cases h), fun id c h => (by cases h), fun id c id' c' h => (by cases h), fun id b h => (by cases h), fun b h => h.elim, fun b h => h.elim, fun b h => h, Nat.le_refl _⟩
section
variable {W : World} {s : Sim} {h : Hp} {α : Type} {enc : α → List Value} {sz : Nat} {l : List α} {ys : List Value}
/-- A slice that came in. -/
theorem InOk.slice (I : InOk W s h) (he : ∀ x, (enc x).length = sz) (hz : sz ≠ 0) (A : Option Addr) (cap : Nat) (hl : l.length ≤ cap) (hv : VRm s (l.flatMap enc) ys) (hc : ∀ a, A = some a → ∀ (i : Nat) (v : Value), ys[i]? = some v → W.cell? (a.add i) = some v)
    (hn : A = none → l = [] ∧ cap = 0) (hb : ∀ a, A = some a → l = [] → ∃ b0, b0 < W.heap.size) :
    ∃ s' h' A' fl, InOk W s' h' ∧ s.le s' ∧ Ext h h' ∧ VR s' (.slice A' l.length fl) (.slice A l.length cap) ∧ Sls h' enc sz A' l := by
  cases A with
  | none =>
    obtain ⟨rfl, rfl⟩ := hn rfl
    exact ⟨s, h, none, 0, I, s.le_refl, Ext.refl h, .sl0, rfl⟩
  | some a =>
    have hnone : s.adr h.n = none := by
      cases hx : s.adr h.n with
      | none => rfl
      | some c => exact absurd (I.cells _ c hx).1 (Nat.lt_irrefl _)
    obtain ⟨c, hcap, hcb, hH, hne⟩ : ∃ c : Cel, c.cap = cap ∧ c.b < W.heap.size ∧ Holds W c.b c.o ys ∧ (l.length ≠ 0 → a = ⟨c.b, c.o + 0, none⟩) := by
      by_cases hl0 : l = []
      · obtain ⟨b0, hb0⟩ := hb a rfl hl0
        refine ⟨⟨b0, 0, cap⟩, rfl, hb0, fun i v hv' => ?_, fun h => absurd (by rw [hl0]; rfl) h⟩
        have := hv.1.1
        rw [hl0] at this
        have := (List.getElem?_eq_some_iff.1 hv').1
        simp at *; omega
      · have hy : 0 < ys.length := by
          rw [← hv.1.1, flat_len he]
          exact Nat.mul_pos (List.length_pos_iff.2 hl0) (Nat.pos_of_ne_zero hz)
        have h0 := hc a rfl 0 ys[0] (List.getElem?_eq_getElem hy)
        rw [show a.add 0 = a from rfl] at h0
        obtain ⟨e1, e2⟩ := cell_spot h0
        have ea : a = ⟨a.block, a.off, none⟩ := by cases a; simp only at e1; rw [e1]
        refine ⟨⟨a.block, a.off, cap⟩, rfl, e2, fun i v hv' => ?_, fun _ => ea⟩
        have := hc a rfl i v hv'
        rw [ea, add_none] at this
        exact this
    refine ⟨s.up h.n c 0, h.push (.cells (l.flatMap enc) sz 0), some ⟨h.n, 0, some 0⟩, 2, ?_, ?_, Ext.push _ _, ?_, ?_⟩
    · have hle : s.le (s.up h.n c 0) := Sim.up_le fun c₀ hc₀ => by rw [hnone] at hc₀; cases hc₀
      refine ⟨fun id c' hc' => ?_, fun id c' hc' hlo => ?_, fun id c' id' c'' h1 h2 hlo => ?_, fun id b hb' => ?_, fun b h => h.elim, fun b h => h.elim, fun b h => h, Nat.le_refl _⟩
      · simp only [Sim.up] at hc'
        by_cases hid : id = h.n
        · subst hid
          rw [if_pos rfl] at hc'; cases hc'
          exact ⟨by simp [Hp.push], fun _ => hcb, l.flatMap enc, sz, by simp [Hp.push, Sim.up], ys, hv.mono hle, hH⟩
        · rw [if_neg hid] at hc'
          obtain ⟨g1, g2, cs, sz', g3, ys', g4, g5⟩ := I.cells id c' hc'
          refine ⟨by simp [Hp.push]; omega, fun _ => g2 g1, cs, sz', ?_, ys', g4.mono hle, g5⟩
          simp [Hp.push, Sim.up, hid, g3]
      · simp only [Sim.up] at hc'
        by_cases hid : id = h.n
        · subst hid; exact absurd (show h.n + 1 ≤ h.n from hlo) (by omega)
        · rw [if_neg hid] at hc'; have := (I.cells id c' hc').1; exact absurd (show h.n + 1 ≤ id from hlo) (by omega)
      · simp only [Sim.up] at h1
        by_cases hid : id = h.n
        · subst hid; exact absurd (show h.n + 1 ≤ h.n from hlo) (by omega)
        · rw [if_neg hid] at h1; have := (I.cells id c' h1).1; exact absurd (show h.n + 1 ≤ id from hlo) (by omega)
      · have hb'' : s.mp id = some b := hb'
        have := (I.maps id b hb'').1
        exact ⟨by simp [Hp.push]; omega, fun hlo => absurd (show h.n + 1 ≤ id from hlo) (by omega)⟩
    · exact Sim.up_le fun c₀ hc₀ => by rw [hnone] at hc₀; cases hc₀
    · refine .sl h.n 0 (some 0) l.length 2 a cap c (by simp [Sim.up]) (by simp [Sim.up, epOf]) (fun _ => ⟨fun hx => ?_, fun hx => by cases hx⟩) (fun hx => by cases hx) hl
      rcases hx with hx | hx
      · exact hne hx
      · cases hx
    · exact (Row.push (h := h) (e := 0) (enc := enc) (sz := sz) (l := l)).sls he
end
section
variable {H : Type} {enc : TypeId × Value → H} {P : Program} {W : World} {base : Nat} {spare : Nat → Bool} {held : Bool} {α : Type} {en : α → List Value} {sz : Nat}
theorem cells_get {a : Addr} {n : Nat} {cs : List Value} (h : W.cells? base a n = some cs) : cs.length = n ∧ ∀ i, i < n → W.cell? (a.add i) = cs[i]? := by
  obtain ⟨_, h1, h2⟩ := World.cells?_some h
  exact ⟨h1, h2⟩
/-- A slice of plain data, read. -/
theorem open_plain {t e : TypeId} {v : Value} {x : DataW H × List MemPlace} (ht : P.underlying t = some (.slice e)) (hsz : P.cellsOf e = sz) (hz : sz ≠ 0) (hen : ∀ x, (en x).length = sz)
    (dec : ∀ n cs y, DataW.trod enc P W base spare held n e cs = some y → ∃ q, cs = en q) {fuel : Nat} (h : DataW.trod enc P W base spare held fuel t [v] = some x) :
    ∃ (A : Option Addr) (cap : Nat) (l : List α), v = .slice A l.length cap ∧ l.length ≤ cap ∧ cap ≤ Go.maxLen ∧ (A = none → l = [] ∧ cap = 0) ∧ ∀ a, A = some a → ∀ (i : Nat) (u : Value), (l.flatMap en)[i]? = some u → W.cell? (a.add i) = some u := by
  rcases Go.Deep.open_slice ht h with ⟨hcs, _⟩ | ⟨a, len, cap, m, n, D, Pl, hcs, _, hl, hm, hmm, _, hx⟩
  · simp at hcs; subst hcs
    exact ⟨none, 0, [], rfl, Nat.le_refl _, by unfold Go.maxLen; omega, fun _ => ⟨rfl, rfl⟩, fun a h => by cases h⟩
  · simp at hcs; subst hcs
    have hlm : len ≤ m := by rw [hmm]; split <;> omega
    have each : ∀ i, i < len → ∃ q : α, ∀ k, k < sz → W.cell? ((a.add (i * sz)).add k) = (en q)[k]? := by
      intro i hi
      obtain ⟨cs', h1, h2⟩ := hx i (by omega)
      obtain ⟨q, rfl⟩ := dec _ _ _ h2
      rw [hsz] at h1
      exact ⟨q, (cells_get h1).2⟩
    by_cases h0 : len = 0
    · subst h0
      exact ⟨some a, cap, [], rfl, Nat.zero_le _, hm, fun h => (by cases h), fun a _ i u hu => by simp at hu⟩
    · obtain ⟨q0, hq0⟩ := each 0 (by omega)
      have hs : a.spot = none := by
        have h1 := hq0 0 (by omega)
        have hlt : 0 < (en q0).length := by rw [hen]; omega
        rw [List.getElem?_eq_getElem hlt] at h1
        have : (a.add (0 * sz)).add 0 = a := by simp [Addr.add]
        rw [this] at h1
        exact (cell_spot h1).1
      have ea : a = ⟨a.block, a.off, none⟩ := by cases a; simp only at hs; rw [hs]
      obtain ⟨q, hq⟩ : ∃ q : Nat → α, ∀ i, i < len → ∀ k, k < sz → W.cell? ((a.add (i * sz)).add k) = (en (q i))[k]? := by
        classical
        exact ⟨fun i => if hi : i < len then (each i hi).choose else q0, fun i hi => by simp only [dif_pos hi]; exact (each i hi).choose_spec⟩
      have hlen : ((List.range len).map q).length = len := by simp
      refine ⟨some a, cap, (List.range len).map q, by rw [hlen], by rw [hlen]; exact hl, hm, fun h => (by cases h), fun b hb i u hu => ?_⟩
      cases hb
      have hi : i < len * sz := by
        have := (List.getElem?_eq_some_iff.1 hu).1
        rw [flat_len hen, hlen] at this; exact this
      have hdiv : i / sz < len := Nat.div_lt_of_lt_mul (by rw [Nat.mul_comm]; exact hi)
      have hmod : i % sz < sz := Nat.mod_lt _ (Nat.pos_of_ne_zero hz)
      have hsum : i / sz * sz + i % sz = i := by rw [Nat.mul_comm]; exact Nat.div_add_mod i sz
      have h1 := hq (i / sz) hdiv (i % sz) hmod
      rw [ea, add_none, add_none, Nat.add_assoc, hsum] at h1
      rw [ea, add_none, h1]
      have h2 := flat_get hen ((List.range len).map q) (i / sz) (by rw [hlen]; exact hdiv)
      have h3 : (((List.range len).map q).flatMap en)[i]? = (((((List.range len).map q).flatMap en).drop (i / sz * sz)).take sz)[i % sz]? := by
        rw [List.getElem?_take, if_pos hmod, List.getElem?_drop, hsum]
      rw [h3, h2] at hu
      simp at hu
      rw [← hu]
end
section
variable {P : Program} {W : World} {r : Reach} {b0 : Nat}
theorem block_cell {t : TypeId} {a : Addr} {len cap : Nat} (h : Cell.okWide P W r b0 t (.slice (some a) len cap)) : a.block < W.heap.size := by
  have h' : Cell.ok P W r b0 t (.slice (some a) len cap) := by
    unfold Cell.okWide at h
    split at h <;> first | exact h | (rename_i e; cases e)
  unfold Cell.ok at h'
  split at h' <;> first | exact h'.elim | skip
  all_goals first
    | (rename_i e; cases e; done)
    | (rename_i e _ _ _ _ he; cases he
       obtain ⟨_, _, _, _, row, cells, hs, _⟩ := h'
       unfold World.shape? at hs
       cases hb : W.heap[a.block]? with
       | none => rw [hb] at hs; cases hs
       | some o => exact (Array.getElem?_eq_some_iff.1 hb).1)
theorem block_agg {t : TypeId} {fs : Array Field} {cs : Array Value} (ht : P.underlying t = some (.struct fs)) (h : Value.okWide P W r b0 t (.agg cs)) {i : Nat} {a : Addr} {len cap : Nat} (hi : cs[i]? = some (.slice (some a) len cap)) : a.block < W.heap.size := by
  simp only [Value.okWide, ht] at h
  obtain ⟨cs', he, _, ts, _, _, hx⟩ := h
  cases he
  obtain ⟨u, _, hu⟩ := hx i _ hi
  exact block_cell hu
end
/-! ### at the end -/
open Go.RowKit
theorem below_of {W w' : World} (K : Kept (lowOf W) (fun _ => False) W w') : Below W.heap.size W { w' with tape := W.tape } := ⟨K.os, rfl, K.out, K.size, fun k hk => K.low k hk⟩
theorem kept_frame {W w' : World} (K : Kept (lowOf W) (fun _ => False) W w') (may : MemPlace → Prop) : W.keptBut w' may := by
  obtain ⟨a, b, c⟩ := (below_of K).frame may
  exact ⟨a, b, c⟩
theorem Trod_tape {H : Type} {enc : TypeId × Value → H} {P : Program} {w : World} {tp : Tape} {base : Nat} {spare : Nat → Bool} {held : Bool} {t : TypeId} {v : Value} {d : DataW H} {ps : List MemPlace} (h : DataW.Trod enc P { w with tape := tp } base spare held t v d ps) : DataW.Trod enc P w base spare held t v d ps :=
  DataW.Trod.of_heap (w := { w with tape := tp }) (w' := w) rfl h
end Go.Id
/- A code that comes in: bytes, read only. -/
namespace Go.Proofs.Ytgcbfhdlfajemaa.Id
open Go.Id Go.Conc Go.Proofs
open Go.ChangeShapes Go.WideShapes Go.ChangeAt Go.RowKit
set_option linter.unusedVariables false
def uF (x : Fin 256) : List Value := [.int .u8 (x.val : Nat)]
section
variable {H : Type} {enc : TypeId × Value → H} {W : World} {base : Nat} {spare : Nat → Bool} {held : Bool}
set_option maxRecDepth 100000
theorem dec_byte (n : Nat) (cs : List Value) (y : DataW H × List MemPlace) (h : DataW.trod enc Try.prog W base spare held n 5 cs = some y) : ∃ q : Fin 256, cs = uF q := by
  obtain ⟨q, e, _, hw⟩ := DataW.trod_int Try.underlying5 h
  have hw : 0 ≤ q ∧ q < 256 := by
    have e1 : IntKind.u8.min = 0 := by decide
    have e2 : IntKind.u8.max = 255 := by decide
    simp [Lit.wf, e1, e2] at hw
    omega
  refine ⟨⟨q.toNat, by omega⟩, ?_⟩
  rw [e]
  show [Value.int .u8 q] = [Value.int .u8 ((q.toNat : Nat) : Int)]
  rw [Int.toNat_of_nonneg hw.1]
theorem cells_byte : Try.prog.cellsOf 5 = 1 := by kernel_rfl
theorem in_bytes {b0 : Nat} {r : Reach} {v : Value} {d : DataW H} {p : List MemPlace} {s : Sim} {h : Hp} (I : InOk W s h) (hv : Value.okWide Try.prog W r b0 37 v) (ht : DataW.Trod enc Try.prog W base spare held 37 v d p) :
    ∃ (s' : Sim) (h' : Hp) (bs : List Nat) (a : Option Addr) (fl : Nat), InOk W s' h' ∧ s.le s' ∧ Ext h h' ∧ VR s' (.slice a bs.length fl) v ∧ Sls h' (fun x : Nat => [Value.int .u8 x]) 1 a bs ∧ bs.length ≤ Go.maxLen ∧ ∀ b ∈ bs, b < 256 := by
  have hv0 : Cell.okWide Try.prog W r b0 37 v := by
    unfold Value.okWide at hv
    rw [Try.underlying37] at hv
    exact hv
  obtain ⟨n, t0⟩ := ht
  have hcl : v.cells.toList = [v] := by
    cases v with
    | agg cs =>
      exfalso
      have h' : Cell.ok Try.prog W r b0 37 (.agg cs) := by
        unfold Cell.okWide at hv0
        split at hv0 <;> first | exact hv0 | (rename_i e; cases e)
      unfold Cell.ok at h'
      split at h' <;> first | exact h'.elim | (rename_i e; cases e) | (rename_i e _; cases e) | (rename_i e _ _; cases e) | (rename_i e _ _ _; cases e)
    | _ => rfl
  rw [hcl] at t0
  obtain ⟨A, cap, l, rfl, hl, hm, hn, hc⟩ := open_plain (en := uF) (sz := 1) Try.underlying37 cells_byte (by decide) (fun _ => rfl) dec_byte t0
  have hpl : ∀ v ∈ l.flatMap uF, plainV v = true ∧ v.oneCell' = true := by
    intro v hv
    obtain ⟨q, _, hq⟩ := List.mem_flatMap.1 hv
    simp only [uF, List.mem_cons, List.not_mem_nil, or_false] at hq
    subst hq; exact ⟨rfl, rfl⟩
  have hblk : ∀ a, A = some a → l = [] → ∃ b0, b0 < W.heap.size := by
    intro a ha hl0
    subst ha
    refine ⟨a.block, block_cell (P := Try.prog) (r := r) (b0 := b0) (t := 37) (len := l.length) (cap := cap) hv0⟩
  obtain ⟨s', h', A', fl, I', l1, e1, v1, s1⟩ := I.slice (enc := uF) (fun _ => rfl) (by decide) A cap hl (VRm.of_plain s hpl) hc hn hblk
  have hfm : ∀ l : List (Fin 256), (l.map fun x => x.val).flatMap (fun x : Nat => [Value.int .u8 x]) = l.flatMap uF := by
    intro l
    induction l with
    | nil => rfl
    | cons x l ih => simp only [List.map_cons, List.flatMap_cons, ih]; rfl
  refine ⟨s', h', l.map fun x => x.val, A', fl, I', l1, e1, by simpa using v1, ?_, by simpa using Nat.le_trans hl hm, fun b hb => ?_⟩
  · cases A' with
    | none =>
      have : l = [] := s1
      subst this; rfl
    | some a =>
      obtain ⟨q1, c, sz, q2, q3⟩ := s1
      exact ⟨q1, c, sz, q2, by rw [hfm, List.length_map]; exact q3⟩
  · obtain ⟨x, _, rfl⟩ := List.mem_map.1 hb
    exact x.isLt
end
end Go.Proofs.Ytgcbfhdlfajemaa.Id
/- The row of FnTrailUnseen: for every code that comes in, the law returns true, and the code reads as it did. No condition. -/
namespace Go.Proofs.Ytgcbfhdlfajemaa.fnTrailUnseen
open Go.ChangeShapes Go.WideShapes Go.ChangeAt Go.RowKit Go.Id Go.Conc Go.Proofs.Ytgcbfhdlfajemaa.Id
set_option linter.unusedVariables false
theorem own : ownKnob Try.prog.godebug = none := by kernel_rfl
theorem laidOut : laidOutB Try.prog = true := by kernel_rfl
set_option maxRecDepth 100000 in
theorem lifted (os : Os) (started : os.Started) (H : Type) (enc : TypeId × Value → H) :
    ReturnsInHanded {} Try.checked os 6 .any (Rows.fnTrailUnseenSpec.pre6 enc Try.prog Try.f6 Rows.fnTrailUnseenRow.domain false) (Rows.fnTrailUnseenSpec.post enc Try.prog Try.f6 false true false false) := by
  refine returnsInHanded_of_change_sized (C := Try.checked) own started (by kernel_rfl) Try.func6
    (ChangeSpec.witness6 (enc := enc) (C := Try.checked) false ⟨#[], #[.slice none 0 0, .slice none 0 0], []⟩ 8 (by kernel_rfl) (by kernel_rfl) (by kernel_rfl) (by kernel_rfl)) ?_
  intro W base args ds gs before hval0 hW hcnd hsz0 _
  have hval : ∀ (j : Nat) t v, Try.f6.params[j]? = some t → args[j]? = some v → Value.okWide Try.prog W .any base t v := hval0
  have hW' := hW
  obtain ⟨p, q, hA0, hV, rfl, hfz, hnd⟩ := hW
  have hA : DataW.TrodAll enc Try.prog W 0 (fun _ => true) true Try.f6.params.toList args.toList ds p := hA0
  rw [Try.params6] at hA hval
  obtain ⟨v0, vs0, d0, ds0, p0, q0, hargs, rfl, rfl, h0, r0⟩ := trodAll_cons hA
  obtain ⟨v1, vs1, d1, ds1, p1, q1, hargs1, rfl, rfl, h1, r1⟩ := trodAll_cons r0
  obtain ⟨rfl, rfl, rfl⟩ := trodAll_nil r1
  obtain rfl : args = #[v0, v1] := by cases args; simp_all
  obtain ⟨rfl, rfl⟩ := trodVars_none hV
  have k0 := h0
  have k1 := h1
  have lt0 : ∀ x ∈ p0, x.block < W.heap.size := by obtain ⟨m, hm⟩ := k0; exact DataW.trod_lt m _ _ _ hm
  have lt1 : ∀ x ∈ p1, x.block < W.heap.size := by obtain ⟨m, hm⟩ := k1; exact DataW.trod_lt m _ _ _ hm
  obtain ⟨s0, h0', bs, a, fl, I0, _, _, V0, S0, hn, hb⟩ := in_bytes (InOk.nil W) (hval 0 37 v0 rfl rfl) h0
  obtain ⟨s, h, bs2, a2, fl2, I, l1, e1, V, S, hn2, hb2⟩ := in_bytes I0 (hval 1 37 v1 rfl rfl) h1
  clear hA0 hval0 hsz0
  refine (lone_run (lo := h.n) (Post := fun v _ => v = .bool true) (argsr := #[v0, v1]) (args := [.slice a bs.length fl, .slice a2 bs2.length fl2]) Try.func6 rfl (Nat.le_of_ble_eq_true rfl) I (VRs.cons (V0.mono l1) (VRs.cons V (VRs.nil s))) (trailUnseen_R bs a fl bs2 a2 fl2 h (S0.ext e1) hb (Nat.le_trans hn (by unfold Go.maxLen; exact Nat.le_refl _)) S hb2 (Nat.le_trans hn2 (by unfold Go.maxLen; exact Nat.le_refl _)) (Nat.le_refl _))).mono fun e W' he => ?_
  obtain ⟨vr, rfl, v, h', s', O', rfl, _, _, hv, K⟩ := he
  obtain rfl : vr = .bool true := VR.bool_inv hv
  have bel := below_of K
  exact ⟨_, rfl, _, _, _, [], _, [], hW', trodAll_mk1 (shut_bool Try.underlying4 _), trodAll_cons_mk (Trod_tape (Below.trod laidOut (by kernel_rfl) (of_decide_eq_true (by kernel_rfl)) k0 bel lt0)) (trodAll_cons_mk (Trod_tape (Below.trod laidOut (by kernel_rfl) (of_decide_eq_true (by kernel_rfl)) k1 bel lt1)) trodAll_mk0), rfl, kept_frame K _, fun h => by cases h⟩
theorem over : Rows.fnTrailUnseenRow.holds Try.pinned (OpenSpec.ofChange Rows.fnTrailUnseenSpec) :=
  OpenClaim.holds_of_wide 6 Try.f6 rfl rfl rfl rfl rfl rfl rfl ⟨rfl, rfl, rfl, rfl, rfl⟩ rfl rfl rfl rfl rfl (by kernel_rfl) Try.func6 (by kernel_rfl)
    (of_decide_eq_true (by kernel_rfl)) (by unfold Func.isWrapper; first | (rw [if_pos (by decide +kernel)]; kernel_rfl) | (rw [if_neg (by decide +kernel)]; exact ⟨rfl, rfl⟩))
    (fun os started H enc _ => lifted os started H enc)
theorem proved : Rows.FnTrailUnseenSaid := over
#print axioms proved
end Go.Proofs.Ytgcbfhdlfajemaa.fnTrailUnseen
namespace Go.Proofs.Ytgcbfhdlfajemaa
/-- The row, under a short name, for the claim. -/
theorem fnTrailUnseen_holds : Rows.FnTrailUnseenSaid := fnTrailUnseen.proved
end Go.Proofs.Ytgcbfhdlfajemaa
