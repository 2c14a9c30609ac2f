/- Texts of this claim, joined: IdW, IdX, IdY, IdY2, IdZ1, IdZ2, IdZ3, IdZ4, IdS, IdZ5, IdZ6, IdZ7, IdAA, IdAB, IdAC, IdAD, IdAE, IdAF, IdAG, IdAH, IdAI, IdAJ, IdAK, IdQc. -/
import Derived.Test.YtambkogocbgbmaaGreatM2
import Derived.Conc.WgGenN3
import Derived.Conc.CrowdStepW
import Derived.Conc.CrowdComm
import Derived.Conc.BesideWords
import Derived.Conc.LoneSelect
import Derived.Conc.TokenWalk
/- The workers' phase: where each goroutine stands. -/
namespace Go.Id
open Go.Conc
open Go.ConcN (ShN RelBy WgLive PayAt Has RW DWs AtD4 AtD3 AtD2 AtD1 AtK1 AtR0 sumTo upd sumTo_upd upd_ne upd_same)
open Go.ConcR (KK wgBlock WgAt stA smA rd wr mk Payload Aside2 DC0)
set_option linter.unusedVariables false
variable [Payload]
/-- What the phase is about: the program, the group's type and block, the channel's block, the blocks that nobody writes, how many workers, what the i-th leaves behind (its value, with its own blocks). -/
structure Ph where
  P : Program
  ty : TypeId
  Wg : Nat
  Ch : Nat
  fro : Nat → Prop
  n : Nat
  Res : Nat → Value → (Nat → Prop) → World → Prop
section
variable (Y : Ph)
/-! ### a worker: 'C' is a block of its own -/
/-- Done, at its word 'release and merge'. -/
def AtRr (C pn : Nat) (g : Goroutine) (w : World) : Prop :=
  g.status = .running ∧ ∃ g', stepG Y.P false g w = .go g' w #[mk (.releaseMerge (stA Y.Wg))] ∧ ∃ m, Goes Y.P false (RW Y.ty Y.Wg C pn 0 0) DC0 (AtK1 Y.P Y.ty Y.Wg C pn 0 1) m g' w
/-- It stands at the send of its row; behind it comes Done. -/
def AtSend (i : Nat) (O : Nat → Prop) (g : Goroutine) (w : World) : Prop :=
  g.status = .running ∧ ∃ (v z : Value) (g₂ : Goroutine) (C pn : Nat) (x : Value), O C ∧ Has C 0 x w ∧ Y.Res i v O w ∧ stepG Y.P false g w = .comm g₂ #[Go.Conc.scase Y.Ch v z] true .send w #[] ∧
    ∀ w', WgLive Y.ty Y.Wg w' → Has C 0 x w' → ∃ m, Goes Y.P false (RW Y.ty Y.Wg C pn 0 0) DC0 (AtRr Y C pn) m (g₂.finishComm Y.P #[Go.Conc.scase Y.Ch v z] .send 0 undef false) w'
/-- A worker's situation: stage, rank, fuel, deafness, its own blocks. -/
inductive WS (i : Nat) : Nat → Rk → Nat → Nat → (Nat → Prop) → Goroutine → World → Prop
  | work {ρ : Rk} {O : Nat → Prop} {g : Goroutine} {w : World} : GTr Y.P false Y.fro (AtSend Y i) ρ O g w → WS i 8 ρ 0 0 O g w
  | r0 {ρ : Rk} {O : Nat → Prop} {g : Goroutine} {w : World} {m C pn : Nat} : O C → Goes Y.P false (RW Y.ty Y.Wg C pn 0 0) DC0 (AtRr Y C pn) m g w → WS i 7 ρ m 0 O g w
  | k1 {ρ : Rk} {O : Nat → Prop} {g : Goroutine} {w : World} {m C pn : Nat} : O C → Goes Y.P false (RW Y.ty Y.Wg C pn 0 0) DC0 (AtK1 Y.P Y.ty Y.Wg C pn 0 1) m g w → WS i 6 ρ m 0 O g w
  | d1 {ρ : Rk} {O : Nat → Prop} {g : Goroutine} {w : World} {m C pn : Nat} : O C → Goes Y.P false (RW Y.ty Y.Wg C pn 0 0) DC0 (AtD1 Y.P Y.ty Y.Wg C pn 0 1) m g w → WS i 5 ρ m 1 O g w
  | d2 {ρ : Rk} {O : Nat → Prop} {g : Goroutine} {w : World} {m C pn : Nat} : O C → Goes Y.P false (RW Y.ty Y.Wg C pn 0 0) DC0 (AtD2 Y.P Y.ty Y.Wg C pn 0 1) m g w → WS i 4 ρ m 1 O g w
  | d3 {ρ : Rk} {O : Nat → Prop} {g : Goroutine} {w : World} {m C pn : Nat} : O C → Goes Y.P false (RW Y.ty Y.Wg C pn 0 0) DC0 (AtD3 Y.P Y.ty Y.Wg C pn 0 1) m g w → WS i 3 ρ m 1 O g w
  | d4 {ρ : Rk} {O : Nat → Prop} {g : Goroutine} {w : World} {m C pn : Nat} : O C → Goes Y.P false (RW Y.ty Y.Wg C pn 0 0) DC0 (AtD4 Y.P Y.ty Y.Wg) m g w → WS i 2 ρ m 1 O g w
  | quit {ρ : Rk} {O : Nat → Prop} {g : Goroutine} {w : World} {q d : Nat} : QuitsD Y.P q d g → WS i 1 ρ q d O g w
/-! ### the starter; 'O': its own blocks -/
/-- What it suffers in the library. -/
def RS (O : Nat → Prop) (w w₁ : World) : Prop := Rly Y.fro O w w₁ ∧ (WgLive Y.ty Y.Wg w → WgLive Y.ty Y.Wg w₁)
section
variable (O : Nat → Prop)
variable (Fin : (Nat → Prop) → Goroutine → World → Prop)
/-- Wait has returned. -/
def AtAcq (g : Goroutine) (w : World) : Prop :=
  g.status = .running ∧ ∃ g', stepG Y.P true g w = .go g' w #[mk (.acquire (stA Y.Wg))] ∧ Fin O g' w
def AtKe (g : Goroutine) (w : World) : Prop :=
  g.status = .running ∧ ∃ g', stepG Y.P true g w = .go g' w #[mk .enable] ∧ ∃ m, Goes Y.P true (RS Y O) DC0 (AtAcq Y O Fin) m g' w
def AtW4 (g : Goroutine) (w : World) : Prop :=
  g.status = .running ∧ (WgAt Y.ty Y.Wg w 0 0 → ∃ g', stepG Y.P true g w = .go g' w #[rd (stA Y.Wg)] ∧ ∃ m, Goes Y.P true (RS Y O) DC0 (AtKe Y O Fin) m g' w)
def AtW3 (g : Goroutine) (w : World) : Prop :=
  g.status = .running ∧ g.offers = none ∧
    ((∃ st, WgAt Y.ty Y.Wg w st 0) → stepG Y.P true g w = .go { g with status := .blocked } w #[]) ∧
    (WgAt Y.ty Y.Wg w 0 1 → ∃ g', stepG Y.P true g w = .go g' (w.setCell (smA Y.Wg) (.int .u32 0)) (semEvents (smA Y.Wg)) ∧ ∃ m, Goes Y.P true (RS Y O) DC0 (AtW4 Y O Fin) m g' (w.setCell (smA Y.Wg) (.int .u32 0)))
/-- The first waiter's word. -/
def AtSw (g : Goroutine) (w : World) : Prop :=
  g.status = .running ∧ ∃ g', stepG Y.P true g w = .go g' w #[mk (.write (smA Y.Wg))] ∧ ∃ m, Goes Y.P true (RS Y O) DC0 (AtW3 Y O Fin) m g' w
def AtW2 (Anch : Goroutine → World → Prop) (vs : Nat) (g : Goroutine) (w : World) : Prop :=
  g.status = .running ∧ ∀ v : Nat, v < 2147483648 → WgAt Y.ty Y.Wg w (v * KK) 0 →
    (v = vs → ∃ g', stepG Y.P true g w = .go g' (w.setCell (stA Y.Wg) (.int .u64 (v * KK + 1))) #[rd (stA Y.Wg), wr (stA Y.Wg)] ∧ ∃ m, Goes Y.P true (RS Y O) DC0 (AtSw Y O Fin) m g' (w.setCell (stA Y.Wg) (.int .u64 (v * KK + 1)))) ∧
    (v ≠ vs → ∃ g', stepG Y.P true g w = .go g' w #[rd (stA Y.Wg)] ∧ ∃ m, Goes Y.P true (RS Y O) DC0 Anch m g' w)
def AtW1 (Anch : Goroutine → World → Prop) (g : Goroutine) (w : World) : Prop :=
  g.status = .running ∧ ∀ v : Nat, v < 2147483648 → WgAt Y.ty Y.Wg w (v * KK) 0 → ∃ g', stepG Y.P true g w = .go g' w #[rd (stA Y.Wg)] ∧
    (v = 0 → ∃ m, Goes Y.P true (RS Y O) DC0 (AtKe Y O Fin) m g' w) ∧ (v ≠ 0 → ∃ m, Goes Y.P true (RS Y O) DC0 (AtW2 Y O Fin Anch v) m g' w)
def AtKd (Anch : Goroutine → World → Prop) (g : Goroutine) (w : World) : Prop :=
  g.status = .running ∧ ∃ g', stepG Y.P true g w = .go g' w #[mk .disable] ∧ ∃ m, Goes Y.P true (RS Y O) DC0 Anch m g' w
end
/-- It stands at the entry of Wait: 'Anch' is the head of Wait's loop. -/
def AtWait (Fin : (Nat → Prop) → Goroutine → World → Prop) (O : Nat → Prop) (g : Goroutine) (w : World) : Prop :=
  WgLive Y.ty Y.Wg w → ∃ Anch : Goroutine → World → Prop, (∀ g w, Anch g w → g.status = .running) ∧ (∀ g w, Anch g w → ∃ m, Goes Y.P true (RS Y O) DC0 (AtW1 Y O Fin Anch) m g w) ∧ ∃ m, Goes Y.P true (RS Y O) DC0 (AtKd Y O Anch) m g w
section
variable (i : Nat) (Next : (Nat → Prop) → Goroutine → World → Prop)
/-- It stands at the go statement: the blocks 'n' go over to the child. -/
def AtGo (O : Nat → Prop) (g : Goroutine) (w : World) : Prop :=
  g.status = .running ∧ ∃ (g' child : Goroutine) (n : Nat → Prop), stepG Y.P true g w = .spawn g' child w #[] ∧ child.status = .running ∧ (∀ b, n b → O b) ∧ (∃ ρ, GTr Y.P false Y.fro (AtSend Y i) ρ n child w) ∧ ∃ ρ, GTr Y.P true Y.fro Next ρ (fun b => O b ∧ ¬ n b) g' w
variable (O : Nat → Prop)
def AtKeS (g : Goroutine) (w : World) : Prop :=
  g.status = .running ∧ ∃ g', stepG Y.P true g w = .go g' w #[mk .enable] ∧ ∃ ρ, GTr Y.P true Y.fro (AtGo Y i Next) ρ O g' w
def AtSr (g : Goroutine) (w : World) : Prop :=
  g.status = .running ∧ ∃ g', stepG Y.P true g w = .go g' w #[mk (.read (smA Y.Wg))] ∧ ∃ m, Goes Y.P true (RS Y O) DC0 (AtKeS Y i Next O) m g' w
def AtA1 (g : Goroutine) (w : World) : Prop :=
  g.status = .running ∧ ∀ v : Nat, v < 2147483647 → WgAt Y.ty Y.Wg w (v * KK) 0 →
    ∃ g', stepG Y.P true g w = .go g' (w.setCell (stA Y.Wg) (.int .u64 ((v + 1) * KK))) #[rd (stA Y.Wg), wr (stA Y.Wg)] ∧
      (v = 0 → ∃ m, Goes Y.P true (RS Y O) DC0 (AtSr Y i Next O) m g' (w.setCell (stA Y.Wg) (.int .u64 ((v + 1) * KK)))) ∧ (v ≠ 0 → ∃ m, Goes Y.P true (RS Y O) DC0 (AtKeS Y i Next O) m g' (w.setCell (stA Y.Wg) (.int .u64 ((v + 1) * KK))))
def AtKdS (g : Goroutine) (w : World) : Prop :=
  g.status = .running ∧ ∃ g', stepG Y.P true g w = .go g' w #[mk .disable] ∧ ∃ m, Goes Y.P true (RS Y O) DC0 (AtA1 Y i Next O) m g' w
end
/-- It stands at the entry of Add. -/
def AtAdd (i : Nat) (Next : (Nat → Prop) → Goroutine → World → Prop) (O : Nat → Prop) (g : Goroutine) (w : World) : Prop :=
  WgLive Y.ty Y.Wg w → ∃ m, Goes Y.P true (RS Y O) DC0 (AtKdS Y i Next O) m g w
/-- r workers are still to be started. -/
def Starts (Fin : (Nat → Prop) → Goroutine → World → Prop) : Nat → (Nat → Prop) → Goroutine → World → Prop
  | 0, O, g, w => AtWait Y Fin O g w
  | r + 1, O, g, w => AtAdd Y (Y.n - (r + 1)) (Starts Fin r) O g w
end
end Go.Id
/- The workers' phase: who suffers what; the starter's situation; what holds at every moment. -/
namespace Go.Id
open Go.Conc
open Go.ConcN (ShN RelBy WgLive PayAt Has RW DWs AtD4 AtD3 AtD2 AtD1 AtK1 AtR0 sumTo upd sumTo_upd upd_ne upd_same)
open Go.ConcR (KK wgBlock WgAt stA smA rd wr mk Payload Aside2 DC0)
set_option linter.unusedVariables false
/-- Blocks of T alone have turned. -/
structure Turns (T : Nat → Prop) (w w' : World) : Prop where
  size : w.heap.size ≤ w'.heap.size
  keep : ∀ b, b < w.heap.size → ¬ T b → w'.heap[b]? = w.heap[b]?
  os : w'.os = w.os
  out : w'.output = w.output
theorem Turns.at (T : Nat → Prop) (w : World) (d : Nat) : Turns T w (w.at d) := ⟨Nat.le_refl _, fun _ _ _ => rfl, rfl, rfl⟩
theorem Turns.refl (T : Nat → Prop) (w : World) : Turns T w w := ⟨Nat.le_refl _, fun _ _ _ => rfl, rfl, rfl⟩
theorem Turns.of_guar {N0 : Nat → Prop} {O : Nat → Prop} {w w' : World} {es : Array Event} (h : Guar N0 O w w' es) : Turns O w w' := ⟨h.size, h.keep, h.os, h.out⟩
theorem Turns.rly {T N0 O : Nat → Prop} {w w' : World} (h : Turns T w w') (h1 : ∀ b, T b → ¬ N0 b) (h2 : ∀ b, T b → ¬ O b) : Rly N0 O w w' :=
  ⟨h.size, fun b hb ho => h.keep b hb fun ht => ho.elim (h1 b ht) (h2 b ht), h.os, h.out⟩
theorem Turns.of_aside {b : Nat} {w w' : World} (h : Aside b w w') : Turns (fun x => x = b) w w' := ⟨Nat.le_of_eq h.size.symm, fun x _ hx => h.block x hx, h.os, h.output⟩
theorem Turns.mono {T T' : Nat → Prop} {w w' : World} (h : Turns T w w') (hT : ∀ b, T b → T' b) : Turns T' w w' := ⟨h.size, fun b hb hn => h.keep b hb fun ht => hn (hT b ht), h.os, h.out⟩
set_option linter.unusedSectionVars false
section
variable [Payload] {Y : Ph}
theorem live_of {ty : TypeId} {Wg : Nat} {T : Nat → Prop} {w w' : World} (h : Turns T w w') (hT : ¬ T Wg) (hl : WgLive ty Wg w) : WgLive ty Wg w' := by
  obtain ⟨st, sm, hl⟩ := hl
  have hlt : Wg < w.heap.size := (Array.getElem?_eq_some_iff.1 hl).1
  exact ⟨st, sm, (h.keep Wg hlt hT).trans hl⟩
theorem at_of {ty : TypeId} {Wg : Nat} {T : Nat → Prop} {w w' : World} (h : Turns T w w') (hT : ¬ T Wg) {st sm : Int} (hl : WgAt ty Wg w st sm) : WgAt ty Wg w' st sm := by
  have hlt : Wg < w.heap.size := (Array.getElem?_eq_some_iff.1 hl).1
  exact (h.keep Wg hlt hT).trans hl
/-- A worker's rely in Done, where its own block and the group's life are kept. -/
theorem rw_of {ty : TypeId} {Wg C pn : Nat} {w w' : World} (hC : w'.heap[C]? = w.heap[C]?) (hl : WgLive ty Wg w → WgLive ty Wg w') : RW ty Wg C pn 0 0 w w' :=
  ⟨fun b hb => by omega, hl, fun ⟨cs, hc, hn⟩ => ⟨cs, hC.trans hc, hn⟩, by simp [World.cell?, hC]⟩
theorem WS.rely {i s m d : Nat} {ρ : Rk} {O : Nat → Prop} {g : Goroutine} {w w' : World} (h : WS Y i s ρ m d O g w) (hr : Rly Y.fro O w w') (hO : ∀ b, O b → b < w.heap.size) (hl : WgLive Y.ty Y.Wg w → WgLive Y.ty Y.Wg w') : WS Y i s ρ m d O g w' := by
  have tr : ∀ C pn a b c, RW Y.ty Y.Wg C pn 0 0 a b → RW Y.ty Y.Wg C pn 0 0 b c → RW Y.ty Y.Wg C pn 0 0 a c := fun _ _ _ _ _ h1 h2 => h1.trans h2
  have hc : ∀ C, O C → w'.heap[C]? = w.heap[C]? := fun C ho => hr.2.1 C (hO C ho) (.inr ho)
  cases h with
  | work h => exact .work (h.rely hr)
  | r0 ho h => exact .r0 ho (Goes.rely (tr _ _) h (rw_of (hc _ ho) hl))
  | k1 ho h => exact .k1 ho (Goes.rely (tr _ _) h (rw_of (hc _ ho) hl))
  | d1 ho h => exact .d1 ho (Goes.rely (tr _ _) h (rw_of (hc _ ho) hl))
  | d2 ho h => exact .d2 ho (Goes.rely (tr _ _) h (rw_of (hc _ ho) hl))
  | d3 ho h => exact .d3 ho (Goes.rely (tr _ _) h (rw_of (hc _ ho) hl))
  | d4 ho h => exact .d4 ho (Goes.rely (tr _ _) h (rw_of (hc _ ho) hl))
  | quit h => exact .quit h
theorem GTr.running {P : Program} {main : Bool} {N0 : Nat → Prop} {Stop : (Nat → Prop) → Goroutine → World → Prop} {ρ : Rk} {O : Nat → Prop} {g : Goroutine} {w : World} (h : GTr P main N0 Stop ρ O g w) (hS : ∀ O g w, Stop O g w → g.status = .running) : g.status = .running := by
  cases ρ with
  | mk ι f => exact h.elim (fun x => hS _ _ _ (x w (Rly.refl _ _ _))) (·.1)
theorem WS.status {i s m d : Nat} {ρ : Rk} {O : Nat → Prop} {g : Goroutine} {w : World} (h : WS Y i s ρ m d O g w) : g.status = .running ∨ g.status = .finished := by
  cases h with
  | work h => exact .inl (h.running fun O g w x => x.1)
  | r0 ho h => exact .inl (Goes.running (fun _ _ x => x.1) w (RW.refl w) h)
  | k1 ho h => exact .inl (Goes.running (fun _ _ x => x.1) w (RW.refl w) h)
  | d1 ho h => exact .inl (Goes.running (fun _ _ x => x.1) w (RW.refl w) h)
  | d2 ho h => exact .inl (Goes.running (fun _ _ x => x.1) w (RW.refl w) h)
  | d3 ho h => exact .inl (Goes.running (fun _ _ x => x.1) w (RW.refl w) h)
  | d4 ho h => exact .inl (Goes.running (fun _ _ x => x.1) w (RW.refl w) h)
  | quit h => exact h.status
theorem WS.running {i s m d : Nat} {ρ : Rk} {O : Nat → Prop} {g : Goroutine} {w : World} (h : WS Y i s ρ m d O g w) (hs : s ≠ 1) : g.status = .running := by
  cases h with
  | work h => exact h.running fun O g w x => x.1
  | r0 ho h => exact Goes.running (fun _ _ x => x.1) w (RW.refl w) h
  | k1 ho h => exact Goes.running (fun _ _ x => x.1) w (RW.refl w) h
  | d1 ho h => exact Goes.running (fun _ _ x => x.1) w (RW.refl w) h
  | d2 ho h => exact Goes.running (fun _ _ x => x.1) w (RW.refl w) h
  | d3 ho h => exact Goes.running (fun _ _ x => x.1) w (RW.refl w) h
  | d4 ho h => exact Goes.running (fun _ _ x => x.1) w (RW.refl w) h
  | quit h => exact absurd rfl hs
theorem WS.woken {i s m d : Nat} {ρ : Rk} {O : Nat → Prop} {g : Goroutine} {w : World} (h : WS Y i s ρ m d O g w) (a a' : Goroutine) (w' : World) : woken Y.P a a' w' g = g := by
  unfold Go.Conc.woken
  split
  · exact again_running _ h.status
  · rfl
/-! ### the starter -/
inductive Tg where
  | sp (r s : Nat) | kd0 | kd | anch | w1 | w2 (vs : Nat) | sw | w3 | blk | w4 | ke | acq
def phi (n v : Nat) : Tg → Nat
  | .sp r s => 8 * n + 16 + 16 * r + s
  | .kd0 => 8 * n + 8
  | .kd => 8 * n + 7
  | .anch => 8 * v + 6
  | .w1 => 8 * v + 5
  | .w2 vs => 8 * vs + 4
  | .sw => 6
  | .w3 => 5
  | .blk => 5
  | .w4 => 4
  | .ke => 3
  | .acq => 2
theorem RS.trans {O : Nat → Prop} {a b c : World} (h : RS Y O a b) (h' : RS Y O b c) : RS Y O a c := ⟨h.1.trans h'.1, h'.2 ∘ h.2⟩
theorem RS.refl (O : Nat → Prop) (w : World) : RS Y O w w := ⟨Rly.refl _ _ _, id⟩
section
variable (Y) (Fin : (Nat → Prop) → Goroutine → World → Prop)
def AncOk (O : Nat → Prop) (Anch : Goroutine → World → Prop) : Prop := (∀ g w, Anch g w → g.status = .running) ∧ ∀ g w, Anch g w → ∃ m, Goes Y.P true (RS Y O) DC0 (AtW1 Y O Fin Anch) m g w
/-- tag, how many are started, rank, fuel, deafness, its own blocks. -/
inductive CS : Tg → Nat → Rk → Nat → Nat → (Nat → Prop) → Goroutine → World → Prop
  | spt {r : Nat} {ρ : Rk} {O : Nat → Prop} {g : Goroutine} {w : World} : r < Y.n → GTr Y.P true Y.fro (AtAdd Y (Y.n - (r + 1)) (Starts Y Fin r)) ρ O g w → CS (.sp r 6) (Y.n - (r + 1)) ρ 0 0 O g w
  | skd {r m : Nat} {ρ : Rk} {O : Nat → Prop} {g : Goroutine} {w : World} : r < Y.n → Goes Y.P true (RS Y O) DC0 (AtKdS Y (Y.n - (r + 1)) (Starts Y Fin r) O) m g w → CS (.sp r 5) (Y.n - (r + 1)) ρ m 0 O g w
  | sa1 {r m : Nat} {ρ : Rk} {O : Nat → Prop} {g : Goroutine} {w : World} : r < Y.n → Goes Y.P true (RS Y O) DC0 (AtA1 Y (Y.n - (r + 1)) (Starts Y Fin r) O) m g w → CS (.sp r 4) (Y.n - (r + 1)) ρ m 1 O g w
  | ssr {r m : Nat} {ρ : Rk} {O : Nat → Prop} {g : Goroutine} {w : World} : r < Y.n → Goes Y.P true (RS Y O) DC0 (AtSr Y (Y.n - (r + 1)) (Starts Y Fin r) O) m g w → CS (.sp r 3) (Y.n - (r + 1)) ρ m 1 O g w
  | ske {r m : Nat} {ρ : Rk} {O : Nat → Prop} {g : Goroutine} {w : World} : r < Y.n → Goes Y.P true (RS Y O) DC0 (AtKeS Y (Y.n - (r + 1)) (Starts Y Fin r) O) m g w → CS (.sp r 2) (Y.n - (r + 1)) ρ m 1 O g w
  | sgo {r : Nat} {ρ : Rk} {O : Nat → Prop} {g : Goroutine} {w : World} : r < Y.n → GTr Y.P true Y.fro (AtGo Y (Y.n - (r + 1)) (Starts Y Fin r)) ρ O g w → CS (.sp r 1) (Y.n - (r + 1)) ρ 0 0 O g w
  | kd0 {ρ : Rk} {O : Nat → Prop} {g : Goroutine} {w : World} : GTr Y.P true Y.fro (AtWait Y Fin) ρ O g w → CS .kd0 Y.n ρ 0 0 O g w
  | kd {m : Nat} {ρ : Rk} {O : Nat → Prop} {Anch : Goroutine → World → Prop} {g : Goroutine} {w : World} : AncOk Y Fin O Anch → Goes Y.P true (RS Y O) DC0 (AtKd Y O Anch) m g w → CS .kd Y.n ρ m 0 O g w
  | anch {m : Nat} {ρ : Rk} {O : Nat → Prop} {Anch : Goroutine → World → Prop} {g : Goroutine} {w : World} : AncOk Y Fin O Anch → Goes Y.P true (RS Y O) DC0 Anch m g w → CS .anch Y.n ρ m 1 O g w
  | w1 {m : Nat} {ρ : Rk} {O : Nat → Prop} {Anch : Goroutine → World → Prop} {g : Goroutine} {w : World} : AncOk Y Fin O Anch → Goes Y.P true (RS Y O) DC0 (AtW1 Y O Fin Anch) m g w → CS .w1 Y.n ρ m 1 O g w
  | w2 {vs m : Nat} {ρ : Rk} {O : Nat → Prop} {Anch : Goroutine → World → Prop} {g : Goroutine} {w : World} : AncOk Y Fin O Anch → Goes Y.P true (RS Y O) DC0 (AtW2 Y O Fin Anch vs) m g w → CS (.w2 vs) Y.n ρ m 1 O g w
  | sw {m : Nat} {ρ : Rk} {O : Nat → Prop} {g : Goroutine} {w : World} : Goes Y.P true (RS Y O) DC0 (AtSw Y O Fin) m g w → CS .sw Y.n ρ m 1 O g w
  | w3 {m : Nat} {ρ : Rk} {O : Nat → Prop} {g : Goroutine} {w : World} : Goes Y.P true (RS Y O) DC0 (AtW3 Y O Fin) m g w → CS .w3 Y.n ρ (m + 1) 1 O g w
  | blk {ρ : Rk} {O : Nat → Prop} {g : Goroutine} {w : World} : (∀ w₁, RS Y O w w₁ → AtW3 Y O Fin g w₁) → CS .blk Y.n ρ 0 1 O { g with status := .blocked } w
  | w4 {m : Nat} {ρ : Rk} {O : Nat → Prop} {g : Goroutine} {w : World} : Goes Y.P true (RS Y O) DC0 (AtW4 Y O Fin) m g w → CS .w4 Y.n ρ m 1 O g w
  | ke {m : Nat} {ρ : Rk} {O : Nat → Prop} {g : Goroutine} {w : World} : Goes Y.P true (RS Y O) DC0 (AtKe Y O Fin) m g w → CS .ke Y.n ρ m 1 O g w
  | acq {m : Nat} {ρ : Rk} {O : Nat → Prop} {g : Goroutine} {w : World} : Goes Y.P true (RS Y O) DC0 (AtAcq Y O Fin) m g w → CS .acq Y.n ρ m 0 O g w
end
section
variable {Fin : (Nat → Prop) → Goroutine → World → Prop} {tag : Tg} {j m d : Nat} {ρ : Rk} {O : Nat → Prop} {g : Goroutine} {w w' : World}
theorem CS.rely (h : CS Y Fin tag j ρ m d O g w) (hr : RS Y O w w') : CS Y Fin tag j ρ m d O g w' := by
  have tr : ∀ a b c, RS Y O a b → RS Y O b c → RS Y O a c := fun _ _ _ h1 h2 => h1.trans h2
  cases h with
  | spt h1 h => exact .spt h1 (h.rely hr.1)
  | skd h1 h => exact .skd h1 (Goes.rely tr h hr)
  | sa1 h1 h => exact .sa1 h1 (Goes.rely tr h hr)
  | ssr h1 h => exact .ssr h1 (Goes.rely tr h hr)
  | ske h1 h => exact .ske h1 (Goes.rely tr h hr)
  | sgo h1 h => exact .sgo h1 (h.rely hr.1)
  | kd0 h => exact .kd0 (h.rely hr.1)
  | kd h1 h => exact .kd h1 (Goes.rely tr h hr)
  | anch h1 h => exact .anch h1 (Goes.rely tr h hr)
  | w1 h1 h => exact .w1 h1 (Goes.rely tr h hr)
  | w2 h1 h => exact .w2 h1 (Goes.rely tr h hr)
  | sw h => exact .sw (Goes.rely tr h hr)
  | w3 h => exact .w3 (Goes.rely tr h hr)
  | blk h => exact .blk fun w₁ h₁ => h w₁ (hr.trans h₁)
  | w4 h => exact .w4 (Goes.rely tr h hr)
  | ke h => exact .ke (Goes.rely tr h hr)
  | acq h => exact .acq (Goes.rely tr h hr)
theorem CS.status (hl : WgLive Y.ty Y.Wg w) (h : CS Y Fin tag j ρ m d O g w) : g.status = .running ∨ (g.status = .blocked ∧ tag = .blk) := by
  have atree : ∀ (i r : Nat), GTr Y.P true Y.fro (AtAdd Y i (Starts Y Fin r)) ρ O g w → g.status = .running := fun i r h => by
    cases ρ with
    | mk ι f =>
      rcases h with h | h
      · obtain ⟨m, hm⟩ := h w (Rly.refl _ _ _) hl
        exact Goes.running (fun _ _ x => x.1) w (RS.refl O w) hm
      · exact h.1
  have wtree : GTr Y.P true Y.fro (AtWait Y Fin) ρ O g w → g.status = .running := fun h => by
    cases ρ with
    | mk ι f =>
      rcases h with h | h
      · obtain ⟨A, _, _, m, hm⟩ := h w (Rly.refl _ _ _) hl
        exact Goes.running (fun _ _ x => x.1) w (RS.refl O w) hm
      · exact h.1
  cases h with
  | spt h1 h => exact .inl (atree _ _ h)
  | skd h1 h => exact .inl (Goes.running (fun _ _ x => x.1) w (RS.refl O w) h)
  | sa1 h1 h => exact .inl (Goes.running (fun _ _ x => x.1) w (RS.refl O w) h)
  | ssr h1 h => exact .inl (Goes.running (fun _ _ x => x.1) w (RS.refl O w) h)
  | ske h1 h => exact .inl (Goes.running (fun _ _ x => x.1) w (RS.refl O w) h)
  | sgo h1 h => exact .inl (h.running fun O g w x => x.1)
  | kd0 h => exact .inl (wtree h)
  | kd h1 h => exact .inl (Goes.running (fun _ _ x => x.1) w (RS.refl O w) h)
  | anch h1 h => exact .inl (Goes.running (fun _ _ x => h1.1 _ _ x) w (RS.refl O w) h)
  | w1 h1 h => exact .inl (Goes.running (fun _ _ x => x.1) w (RS.refl O w) h)
  | w2 h1 h => exact .inl (Goes.running (fun _ _ x => x.1) w (RS.refl O w) h)
  | sw h => exact .inl (Goes.running (fun _ _ x => x.1) w (RS.refl O w) h)
  | w3 h => exact .inl (Goes.running (fun _ _ x => x.1) w (RS.refl O w) h)
  | blk h => exact .inr ⟨rfl, rfl⟩
  | w4 h => exact .inl (Goes.running (fun _ _ x => x.1) w (RS.refl O w) h)
  | ke h => exact .inl (Goes.running (fun _ _ x => x.1) w (RS.refl O w) h)
  | acq h => exact .inl (Goes.running (fun _ _ x => x.1) w (RS.refl O w) h)
end
end
end Go.Id
/- The workers' phase: what holds of the machine and the trace at every moment, and how it is kept. -/
namespace Go.Id
open Go.Conc
open Go.ConcN (ShN RelBy WgLive PayAt Has RW DWs AtD4 AtD3 AtD2 AtD1 AtK1 AtR0 sumTo upd sumTo_upd upd_ne upd_same)
open Go.ConcR (KK wgBlock WgAt stA smA rd wr mk Payload Aside2 DC0)
set_option linter.unusedVariables false
set_option linter.unusedSectionVars false
structure WX where
  stage : Nat
  rank : Rk
  fuel : Nat
  deaf : Nat
  own : Nat → Prop
def updX (D : Nat → WX) (i : Nat) (x : WX) : Nat → WX := fun a => if a = i then x else D a
theorem updX_same (D : Nat → WX) (i : Nat) (x : WX) : updX D i x i = x := by simp [updX]
theorem updX_ne (D : Nat → WX) {i a : Nat} (x : WX) (h : a ≠ i) : updX D i x a = D a := by simp [updX, h]
variable [Payload]
def famOf (Y : Ph) (c j : Nat) (D : Nat → WX) : Fam := ⟨fun k b => c ≤ k ∧ k < c + j ∧ (D (k - c)).own b, Y.fro⟩
/-- What lies in the channel. -/
def CO (Y : Ph) (j : Nat) (D : Nat → WX) (w : World) : Prop :=
  ∃ (buf : Array Value) (s : Nat) (L : List Nat), w.heap[Y.Ch]? = some (.chan Y.n buf false s 0 false) ∧ L.length = buf.size ∧ L.Nodup ∧ (∀ i, i ∈ L ↔ i < j ∧ (D i).stage ≤ 7) ∧ ∀ (p i : Nat) (v : Value), L[p]? = some i → buf[p]? = some v → Y.Res i v (D i).own w
structure Com (Y : Ph) (Shun : Loc → Prop) (c j : Nat) (gs : Array Goroutine) (w : World) (t : Trace) (D : Nat → WX) (d0 : Nat) (O0 : Nat → Prop) (q : Nat → Nat) : Prop where
  c0 : 0 < c
  size : gs.size = c + j
  old : ∀ i g, 0 < i → i < c → gs[i]? = some g → QuitsD Y.P (q i) (Deaf t i) g
  wk : ∀ i, i < j → ∃ g, gs[c + i]? = some g ∧ WS Y i (D i).stage (D i).rank (D i).fuel (D i).deaf (D i).own g w
  pt : PT Shun Y.Wg (famOf Y c j D) c j w.heap.size t
  fam : (famOf Y c j D).Ok Shun w.heap.size
  shW : ∀ l, ShN Y.Wg l → Shun l
  shO : ∀ l b, Shun l → blockOf l = some b → ¬ O0 b
  shL : ∀ l b, Shun l → blockOf l = some b → b < w.heap.size
  own0 : ∀ b, O0 b → b < w.heap.size ∧ ¬ Y.fro b ∧ b ≠ Y.Ch ∧ ∀ i, i < j → ¬ (D i).own b
  ownW : ∀ i, i < j → ∀ b, (D i).own b → b ≠ Y.Ch
  fro : ∀ b, Y.fro b → b < w.heap.size ∧ b ≠ Y.Ch
  wgl : Y.Wg < w.heap.size ∧ Y.Wg ≠ Y.Ch
  deaf0 : Deaf t 0 = d0
  deafW : ∀ i, i < j → Deaf t (c + i) = (D i).deaf
  rel : ∀ i, i < j → (D i).stage ≤ 6 → ∃ r, RelBy (stA Y.Wg) t (c + i) r
  chan : CO Y j D w
structure PhOk (Y : Ph) : Prop where
  res : ∀ i v O w w', Y.Res i v O w → Rly Y.fro O w w' → Y.Res i v O w'
section
variable {Y : Ph} {Shun : Loc → Prop} {c j : Nat} {gs gs' : Array Goroutine} {w w' : World} {t u : Trace} {D : Nat → WX} {d0 : Nat} {O0 : Nat → Prop} {q : Nat → Nat}
theorem sh_wg {Wg : Nat} : ShN Wg (.cell ⟨Wg, 0, none⟩) := ⟨_, rfl, rfl⟩
theorem Com.ownWg (h : Com Y Shun c j gs w t D d0 O0 q) {i : Nat} (hi : i < j) : ¬ (D i).own Y.Wg := fun ho =>
  h.fam.osh (c + i) _ Y.Wg ⟨by omega, by omega, by rw [show c + i - c = i by omega]; exact ho⟩ rfl (h.shW _ sh_wg)
theorem Com.own_one (h : Com Y Shun c j gs w t D d0 O0 q) {i k b : Nat} (hi : i < j) (hk : k < j) (h1 : (D i).own b) (h2 : (D k).own b) : i = k := by
  have := h.fam.one (c + i) (c + k) b ⟨by omega, by omega, by rw [show c + i - c = i by omega]; exact h1⟩ ⟨by omega, by omega, by rw [show c + k - c = k by omega]; exact h2⟩
  omega
theorem Com.own_fro (h : Com Y Shun c j gs w t D d0 O0 q) {i b : Nat} (hi : i < j) (h1 : (D i).own b) : ¬ Y.fro b :=
  h.fam.ofr (c + i) b ⟨by omega, by omega, by rw [show c + i - c = i by omega]; exact h1⟩
theorem Com.own_low (h : Com Y Shun c j gs w t D d0 O0 q) {i b : Nat} (hi : i < j) (h1 : (D i).own b) : b < w.heap.size :=
  h.fam.low (c + i) b ⟨by omega, by omega, by rw [show c + i - c = i by omega]; exact h1⟩
theorem Com.fro_wg (h : Com Y Shun c j gs w t D d0 O0 q) : ¬ Y.fro Y.Wg := fun ho => h.fam.fsh _ Y.Wg ho rfl (h.shW _ sh_wg)
/-- What is in the channel is kept where its block and what is the workers' own is. -/
theorem CO.keep (K : PhOk Y) (h : CO Y j D w) (hc : w'.heap[Y.Ch]? = w.heap[Y.Ch]?) (hr : ∀ i, i < j → Rly Y.fro (D i).own w w') : CO Y j D w' := by
  obtain ⟨buf, s, L, h1, h2, h3, h4, h5⟩ := h
  exact ⟨buf, s, L, hc.trans h1, h2, h3, h4, fun p i v hp hv => K.res _ _ _ _ _ (h5 p i v hp hv) (hr i ((h4 i).1 (List.mem_of_getElem? hp)).1)⟩
/-- Another's step lets the old and the workers stand. -/
theorem Com.same (h : Com Y Shun c j gs w t D d0 O0 q) (a a' : Goroutine) (w' : World) {k : Nat} (hk : 0 < k) : (gs.map (woken Y.P a a' w'))[k]? = gs[k]? := by
  rw [Array.getElem?_map]
  cases hx : gs[k]? with
  | none => rfl
  | some x =>
    rw [Option.map_some]
    rcases Nat.lt_or_ge k c with hlt | hge
    · rw [woken_quitsD (h.old k x hk hlt hx)]
    · have hlt : k < c + j := by have := (Array.getElem?_eq_some_iff.1 hx).1; rw [h.size] at this; exact this
      obtain ⟨y, hy, hs⟩ := h.wk (k - c) (by omega)
      rw [show c + (k - c) = k by omega, hx] at hy
      cases hy
      rw [hs.woken]
theorem famOf_congr {D' : Nat → WX} (h : ∀ i, i < j → (D' i).own = (D i).own) : famOf Y c j D' = famOf Y c j D := by
  unfold famOf
  congr 1
  funext k b
  exact propext ⟨fun ⟨h1, h2, h3⟩ => ⟨h1, h2, by rw [← h _ (by omega)]; exact h3⟩, fun ⟨h1, h2, h3⟩ => ⟨h1, h2, by rw [h _ (by omega)]; exact h3⟩⟩
theorem relBy_other {a : Addr} {k r g : Nat} (h : RelBy a t k r) (hu : ∀ op ∈ u, op.g = g) (hg : g ≠ k) : RelBy a (t ++ u) k r := h.appOther hu hg
/-- A DRAW. -/
theorem Com.at (K : PhOk Y) (h : Com Y Shun c j gs w t D d0 O0 q) (d : Nat) : Com Y Shun c j gs (w.at d) t D d0 O0 q :=
  ⟨h.c0, h.size, h.old, fun i hi => let ⟨g, hg, hs⟩ := h.wk i hi; ⟨g, hg, hs.rely (rly_at w d) (fun b hb => h.own_low hi hb) id⟩, h.pt, h.fam, h.shW, h.shO, h.shL, h.own0, h.ownW, h.fro, h.wgl, h.deaf0, h.deafW, h.rel, h.chan.keep K rfl fun i _ => rly_at w d⟩
/-- A STEP OF WORKER i. -/
theorem Com.stepW (h : Com Y Shun c j gs w t D d0 O0 q) {i : Nat} (hi : i < j) {g' : Goroutine} {x : WX} (hgs : gs'.size = gs.size) (hgi : gs'[c + i]? = some g') (hgo : ∀ k, 0 < k → k ≠ c + i → gs'[k]? = gs[k]?)
    {T : Nat → Prop} (hT : Turns T w w') (hTo : ∀ b, T b → (D i).own b ∨ b = Y.Wg ∨ b = Y.Ch) (hl : WgLive Y.ty Y.Wg w → WgLive Y.ty Y.Wg w')
    (hs : WS Y i x.stage x.rank x.fuel x.deaf x.own g' w') (ho : ∀ b, (D i).own b → x.own b) (hn : ∀ b, x.own b → (D i).own b ∨ (w.heap.size ≤ b ∧ b < w'.heap.size))
    (hok : ∀ op ∈ u, OkW' Y.Wg (famOf Y c j (updX D i x)) (c + i) w'.heap.size op) (hd : Deaf (t ++ u) (c + i) = x.deaf) (hr : x.stage ≤ 6 → ∃ r, RelBy (stA Y.Wg) (t ++ u) (c + i) r) (hco : CO Y j (updX D i x) w') :
    Com Y Shun c j gs' w' (t ++ u) (updX D i x) d0 O0 q := by
  have hg : ∀ op ∈ u, op.g = c + i := fun op hop => (hok op hop).1
  have fam' : (famOf Y c j (updX D i x)).Ok Shun w'.heap.size := by
    have cs : ∀ k b, (famOf Y c j (updX D i x)).own k b → (famOf Y c j D).own k b ∨ (k = c + i ∧ w.heap.size ≤ b ∧ b < w'.heap.size) := by
      rintro k b ⟨k1, k2, k3⟩
      by_cases e : k - c = i
      · rw [e, updX_same] at k3
        rcases hn b k3 with z | z
        · exact .inl ⟨k1, k2, by rw [e]; exact z⟩
        · exact .inr ⟨by omega, z⟩
      · rw [updX_ne D _ e] at k3; exact .inl ⟨k1, k2, k3⟩
    refine ⟨fun k k' b h1 h2 => ?_, fun k b h1 => ?_, fun k l b h1 hb => ?_, h.fam.fsh, fun k b h1 => ?_⟩
    · rcases cs k b h1 with z | ⟨z, z2, _⟩ <;> rcases cs k' b h2 with y | ⟨y, y2, _⟩
      · exact h.fam.one k k' b z y
      · have := h.fam.low k b z; omega
      · have := h.fam.low k' b y; omega
      · omega
    · rcases cs k b h1 with z | ⟨z, z2, _⟩
      · exact h.fam.ofr k b z
      · intro hf; have := (h.fro b hf).1; omega
    · rcases cs k b h1 with z | ⟨z, z2, _⟩
      · exact h.fam.osh k l b z hb
      · intro hS; have := h.shL l b hS hb; omega
    · rcases cs k b h1 with z | ⟨z, z2, z3⟩
      · exact Nat.lt_of_lt_of_le (h.fam.low k b z) hT.size
      · exact z3
  have rly : ∀ k, k < j → k ≠ i → Rly Y.fro (D k).own w w' := fun k hk e => hT.rly (fun b hb hf => by
      rcases hTo b hb with z | z | z
      · exact h.own_fro hi z hf
      · exact h.fro_wg (z ▸ hf)
      · exact (h.fro b hf).2 z) (fun b hb hf => by
      rcases hTo b hb with z | z | z
      · exact e (h.own_one hk hi hf z)
      · exact h.ownWg hk (z ▸ hf)
      · exact h.ownW k hk b hf z)
  have hle := hT.size
  refine ⟨h.c0, by rw [hgs, h.size], fun k g k1 k2 hk => ?_, fun k hk => ?_, ?_, fam', h.shW, h.shO, fun l b a1 a2 => Nat.lt_of_lt_of_le (h.shL l b a1 a2) hle, fun b hb => ?_, fun k hk b hb => ?_, fun b hb => ⟨Nat.lt_of_lt_of_le (h.fro b hb).1 hle, (h.fro b hb).2⟩, ⟨Nat.lt_of_lt_of_le h.wgl.1 hle, h.wgl.2⟩, ?_, fun k hk => ?_, fun k hk hst => ?_, hco⟩
  · rw [hgo k k1 (by omega)] at hk
    rw [Deaf_other t (by omega) _ hg]
    exact h.old k g k1 k2 hk
  · by_cases e : k = i
    · subst e; exact ⟨g', hgi, by rw [updX_same]; exact hs⟩
    · obtain ⟨y, hy, hs'⟩ := h.wk k hk
      refine ⟨y, by rw [hgo _ (by have := h.c0; omega) (by omega)]; exact hy, ?_⟩
      rw [updX_ne D _ e]
      exact hs'.rely (rly k hk e) (fun b hb => h.own_low hk hb) hl
  · have h0 : PT Shun Y.Wg (famOf Y c j (updX D i x)) c j w.heap.size t := h.pt.fresh rfl (by
        rintro k b ⟨k1, k2, k3⟩
        refine ⟨k1, k2, ?_⟩
        by_cases e : k - c = i
        · rw [e, updX_same]; rw [e] at k3; exact ho b k3
        · rw [updX_ne D _ e]; exact k3) (by
        rintro k b ⟨k1, k2, k3⟩
        by_cases e : k - c = i
        · rw [e, updX_same] at k3
          rcases hn b k3 with z | z
          · exact .inl ⟨k1, k2, by rw [e]; exact z⟩
          · exact .inr z.1
        · rw [updX_ne D _ e] at k3; exact .inl ⟨k1, k2, k3⟩)
    have h1 : PT Shun Y.Wg (famOf Y c j (updX D i x)) c j w'.heap.size t := ⟨h0.clean, h0.known0, h0.knownK, h0.quiet, fun op hop => MemAct.low_mono hle (h0.seen op hop), h0.gs, h0.over, h0.norel⟩
    exact h1.appW fam' h.shW (by omega) (by omega) (by have := h.c0; omega) (Nat.le_refl _) hok
  · obtain ⟨a1, a2, a3, a4⟩ := h.own0 b hb
    refine ⟨by omega, a2, a3, fun k hk hf => ?_⟩
    by_cases e : k = i
    · subst e
      rw [updX_same] at hf
      rcases hn b hf with z | z
      · exact a4 k hk z
      · omega
    · rw [updX_ne D _ e] at hf; exact a4 k hk hf
  · by_cases e : k = i
    · subst e
      rw [updX_same] at hb
      rcases hn b hb with z | z
      · exact h.ownW k hk b z
      · intro e
        obtain ⟨buf, s, L, hc, _⟩ := h.chan
        have := (Array.getElem?_eq_some_iff.1 hc).1
        omega
    · rw [updX_ne D _ e] at hb; exact h.ownW k hk b hb
  · rw [Deaf_other t (by have := h.c0; omega) _ hg, h.deaf0]
  · by_cases e : k = i
    · subst e; rw [updX_same]; exact hd
    · rw [Deaf_other t (by omega) _ hg, updX_ne D _ e, h.deafW k hk]
  · by_cases e : k = i
    · subst e; rw [updX_same] at hst; exact hr hst
    · rw [updX_ne D _ e] at hst
      obtain ⟨r, hr⟩ := h.rel k hk hst
      exact ⟨r, relBy_other hr hg (by omega)⟩
/-- A STEP OF THE STARTER's. -/
theorem Com.step0 (K : PhOk Y) (h : Com Y Shun c j gs w t D d0 O0 q) {d' : Nat} {O0' : Nat → Prop} (hgs : gs'.size = gs.size) (hgo : ∀ k, 0 < k → gs'[k]? = gs[k]?)
    {T : Nat → Prop} (hT : Turns T w w') (hTo : ∀ b, T b → O0 b ∨ b = Y.Wg) (hl : WgLive Y.ty Y.Wg w → WgLive Y.ty Y.Wg w') (hn : ∀ b, O0' b → O0 b ∨ (w.heap.size ≤ b ∧ b < w'.heap.size))
    (hok : ∀ op ∈ u, Ok0' Shun Y.Wg (famOf Y c j D) c j w'.heap.size op) (hd : Deaf (t ++ u) 0 = d') : Com Y Shun c j gs' w' (t ++ u) D d' O0' q := by
  have hg : ∀ op ∈ u, op.g = 0 := fun op hop => (hok op hop).1
  have hle := hT.size
  have rly : ∀ k, k < j → Rly Y.fro (D k).own w w' := fun k hk => hT.rly (fun b hb hf => by
      rcases hTo b hb with z | z
      · exact (h.own0 b z).2.1 hf
      · exact h.fro_wg (z ▸ hf)) (fun b hb hf => by
      rcases hTo b hb with z | z
      · exact (h.own0 b z).2.2.2 k hk hf
      · exact h.ownWg hk (z ▸ hf))
  have fam' : (famOf Y c j D).Ok Shun w'.heap.size := ⟨h.fam.one, h.fam.ofr, h.fam.osh, h.fam.fsh, fun k b hb => Nat.lt_of_lt_of_le (h.fam.low k b hb) hle⟩
  have hcl : Y.Ch < w.heap.size := by obtain ⟨buf, s, L, hc, _⟩ := h.chan; exact (Array.getElem?_eq_some_iff.1 hc).1
  refine ⟨h.c0, by rw [hgs, h.size], fun k g k1 k2 hk => ?_, fun k hk => ?_, ?_, fam', h.shW, fun l b a1 a2 ho => ?_, fun l b a1 a2 => Nat.lt_of_lt_of_le (h.shL l b a1 a2) hle, fun b hb => ?_, h.ownW, fun b hb => ⟨Nat.lt_of_lt_of_le (h.fro b hb).1 hle, (h.fro b hb).2⟩, ⟨Nat.lt_of_lt_of_le h.wgl.1 hle, h.wgl.2⟩, hd, fun k hk => ?_, fun k hk hst => ?_, ?_⟩
  · rw [hgo k k1] at hk
    rw [Deaf_other t (by omega) _ hg]
    exact h.old k g k1 k2 hk
  · obtain ⟨y, hy, hs'⟩ := h.wk k hk
    exact ⟨y, by rw [hgo _ (by have := h.c0; omega)]; exact hy, hs'.rely (rly k hk) (fun b hb => h.own_low hk hb) hl⟩
  · exact h.pt.app0 h.fam h.shW h.c0 hle hok
  · rcases hn b ho with z | z
    · exact h.shO l b a1 a2 z
    · have := h.shL l b a1 a2; omega
  · rcases hn b hb with z | z
    · obtain ⟨a1, a2, a3, a4⟩ := h.own0 b z
      exact ⟨by omega, a2, a3, a4⟩
    · exact ⟨z.2, fun hf => by have := (h.fro b hf).1; omega, by omega, fun k hk hf => by have := h.own_low hk hf; omega⟩
  · rw [Deaf_other t (by have := h.c0; omega) _ hg, h.deafW k hk]
  · obtain ⟨r, hr⟩ := h.rel k hk hst
    exact ⟨r, relBy_other hr hg (by have := h.c0; omega)⟩
  · refine h.chan.keep K (hT.keep Y.Ch hcl fun ht => ?_) rly
    rcases hTo _ ht with z | z
    · exact (h.own0 _ z).2.2.1 rfl
    · exact h.wgl.2 z.symm
end
end Go.Id
/- The workers' phase: an elder goroutine's step; a worker is started. -/
namespace Go.Id
open Go.Conc
open Go.ConcN (ShN RelBy WgLive PayAt Has RW DWs AtD4 AtD3 AtD2 AtD1 AtK1 AtR0 sumTo upd sumTo_upd upd_ne upd_same)
open Go.ConcR (KK wgBlock WgAt stA smA rd wr mk Payload Aside2 DC0)
set_option linter.unusedVariables false
set_option linter.unusedSectionVars false
variable [Payload]
section
variable {Y : Ph} {Shun : Loc → Prop} {c j : Nat} {gs gs' : Array Goroutine} {w w' : World} {t u : Trace} {D : Nat → WX} {d0 : Nat} {O0 : Nat → Prop} {q : Nat → Nat}
/-- A leaver slips. -/
theorem Com.stepL (h : Com Y Shun c j gs w t D d0 O0 q) {i k : Nat} (hi : 0 < i) (hic : i < c) {g' : Goroutine} (hgs : gs'.size = gs.size) (hgi : gs'[i]? = some g') (hgo : ∀ k, 0 < k → k ≠ i → gs'[k]? = gs[k]?)
    (hq : QuitsD Y.P k (Deaf (t ++ u) i) g') (hu : ∀ op ∈ u, op.g = i ∧ op.act.touch? = none ∧ op.act.low w.heap.size ∧ op.act ≠ .mark (.release (stA Y.Wg))) : Com Y Shun c j gs' w (t ++ u) D d0 O0 (upd q i k) := by
  have hg : ∀ op ∈ u, op.g = i := fun op hop => (hu op hop).1
  refine ⟨h.c0, by rw [hgs, h.size], fun k' g k1 k2 hk => ?_, fun k' hk => ?_, h.pt.mute (by omega) hu, h.fam, h.shW, h.shO, h.shL, h.own0, h.ownW, h.fro, h.wgl, by rw [Deaf_other t (by omega) _ hg, h.deaf0], fun k' hk => by rw [Deaf_other t (by omega) _ hg, h.deafW k' hk], fun k' hk hst => ?_, h.chan⟩
  · by_cases e : k' = i
    · subst e; rw [hgi] at hk; cases hk; rw [upd_same]; exact hq
    · rw [hgo k' k1 e] at hk
      rw [upd_ne q k e, Deaf_other t (Ne.symm e) _ hg]
      exact h.old k' g k1 k2 hk
  · obtain ⟨y, hy, hs'⟩ := h.wk k' hk
    exact ⟨y, by rw [hgo _ (by omega) (by omega)]; exact hy, hs'⟩
  · obtain ⟨r, hr⟩ := h.rel k' hk hst
    exact ⟨r, relBy_other hr hg (by omega)⟩
/-- A go STATEMENT: worker j is pushed behind all; the blocks 'n' go over to it. -/
theorem Com.spawn (h : Com Y Shun c j gs w t D d0 O0 q) {a' child : Goroutine} {n : Nat → Prop} {x : WX} (hn : ∀ b, n b → O0 b) (hx : x.stage = 8 ∧ x.deaf = 0 ∧ x.own = n ∧ x.fuel = 0) (hs : GTr Y.P false Y.fro (AtSend Y j) x.rank n child w) (h0 : d0 = 0)
    {e1 e2 : MemOp} (he1 : e1.g = 0 ∧ e1.act = .go (c + j)) (he2 : e2.g = c + j ∧ e2.act = .start) : Com Y Shun c (j + 1) ((gs.setIfInBounds 0 a').push child) w (t ++ #[e1, e2]) (updX D j x) 0 (fun b => O0 b ∧ ¬ n b) q := by
  subst h0
  have hD : ∀ k, k < j → updX D j x k = D k := fun k hk => updX_ne D x (by omega)
  have hsz : (gs.setIfInBounds 0 a').size = c + j := by simp [h.size]
  have get : ∀ k, 0 < k → k < c + j → ((gs.setIfInBounds 0 a').push child)[k]? = gs[k]? := fun k k1 k2 => by
    rw [Array.getElem?_push, if_neg (by omega), Array.getElem?_setIfInBounds_ne (by omega)]
  have hk0 : Deaf t (c + j) = 0 := Go.ConcN.Deaf_absent fun i op hi e => by have := h.pt.gs op (Array.mem_of_getElem? hi); omega
  have dd : ∀ g, Deaf (t ++ #[e1, e2]) g = Deaf t g := fun g => Go.ConcN.Deaf_still t g _ fun op hop => by
    simp only [List.mem_toArray, List.mem_cons, List.not_mem_nil, or_false] at hop
    rcases hop with rfl | rfl
    · rw [he1.2]; exact ⟨by simp, by simp⟩
    · rw [he2.2]; exact ⟨by simp, by simp⟩
  have cs : ∀ k b, (famOf Y c (j + 1) (updX D j x)).own k b → (famOf Y c j D).own k b ∨ (k = c + j ∧ n b) := by
    rintro k b ⟨k1, k2, k3⟩
    by_cases e : k - c = j
    · rw [e, updX_same, hx.2.2.1] at k3; exact .inr ⟨by omega, k3⟩
    · rw [updX_ne D _ e] at k3; exact .inl ⟨k1, by omega, k3⟩
  have fam' : (famOf Y c (j + 1) (updX D j x)).Ok Shun w.heap.size := by
    refine ⟨fun k k' b h1 h2 => ?_, fun k b h1 => ?_, fun k l b h1 hb => ?_, h.fam.fsh, fun k b h1 => ?_⟩
    · rcases cs k b h1 with z | ⟨z, z2⟩ <;> rcases cs k' b h2 with y | ⟨y, y2⟩
      · exact h.fam.one k k' b z y
      · exact absurd z.2.2 ((h.own0 b (hn b y2)).2.2.2 _ (by have := z.1; have := z.2.1; omega))
      · exact absurd y.2.2 ((h.own0 b (hn b z2)).2.2.2 _ (by have := y.1; have := y.2.1; omega))
      · omega
    · rcases cs k b h1 with z | ⟨z, z2⟩
      · exact h.fam.ofr k b z
      · exact (h.own0 b (hn b z2)).2.1
    · rcases cs k b h1 with z | ⟨z, z2⟩
      · exact h.fam.osh k l b z hb
      · exact fun hS => h.shO l b hS hb (hn b z2)
    · rcases cs k b h1 with z | ⟨z, z2⟩
      · exact h.fam.low k b z
      · exact (h.own0 b (hn b z2)).1
  refine ⟨h.c0, by simp [h.size]; omega, fun k g k1 k2 hk => ?_, fun k hk => ?_, ?_, fam', h.shW, fun l b a1 a2 ho => h.shO l b a1 a2 ho.1, h.shL, fun b hb => ?_, fun k hk b hb => ?_, h.fro, h.wgl, by rw [dd, h.deaf0], fun k hk => ?_, fun k hk hst => ?_, ?_⟩
  · rw [get k k1 (by omega)] at hk
    rw [dd]; exact h.old k g k1 k2 hk
  · by_cases e : k = j
    · subst e
      refine ⟨child, by rw [Array.getElem?_push, if_pos (by omega)], ?_⟩
      rw [updX_same]
      obtain ⟨s, ρ, f, d, o⟩ := x
      simp only at hx
      obtain ⟨rfl, rfl, rfl, rfl⟩ := hx
      exact .work hs
    · obtain ⟨y, hy, hs'⟩ := h.wk k (by omega)
      exact ⟨y, by rw [get _ (by have := h.c0; omega) (by omega)]; exact hy, by rw [hD k (by omega)]; exact hs'⟩
  · refine h.pt.fork h.c0 fam' rfl (fun k b hk => ?_) he1 he2 h.deaf0
    constructor
    · rintro ⟨k1, k2, k3⟩
      exact ⟨k1, by omega, by rw [updX_ne D _ (by omega)] at k3; exact k3⟩
    · rintro ⟨k1, k2, k3⟩
      exact ⟨k1, by omega, by rw [updX_ne D _ (by omega)]; exact k3⟩
  · obtain ⟨a1, a2, a3, a4⟩ := h.own0 b hb.1
    refine ⟨a1, a2, a3, fun k hk hf => ?_⟩
    by_cases e : k = j
    · subst e; rw [updX_same, hx.2.2.1] at hf; exact hb.2 hf
    · rw [updX_ne D _ e] at hf; exact a4 k (by omega) hf
  · by_cases e : k = j
    · subst e; rw [updX_same, hx.2.2.1] at hb; exact (h.own0 b (hn b hb)).2.2.1
    · rw [updX_ne D _ e] at hb; exact h.ownW k (by omega) b hb
  · by_cases e : k = j
    · subst e; rw [dd, hk0, updX_same, hx.2.1]
    · rw [dd, updX_ne D _ e, h.deafW k (by omega)]
  · by_cases e : k = j
    · subst e; rw [updX_same, hx.1] at hst; omega
    · rw [updX_ne D _ e] at hst
      obtain ⟨r, hr⟩ := h.rel k (by omega) hst
      refine ⟨r, Go.ConcN.RelBy.appNot hr fun op hop => ?_⟩
      simp only [List.mem_toArray, List.mem_cons, List.not_mem_nil, or_false] at hop
      have := h.c0
      rcases hop with rfl | rfl
      · rw [he1.1]; omega
      · rw [he2.1]; omega
  · obtain ⟨buf, s, L, h1, h2, h3, h4, h5⟩ := h.chan
    refine ⟨buf, s, L, h1, h2, h3, fun i => ?_, fun p i v hp hv => ?_⟩
    · by_cases e : i = j
      · subst e; rw [updX_same, hx.1, h4]; omega
      · rw [updX_ne D _ e, h4]; constructor <;> (rintro ⟨z1, z2⟩; exact ⟨by omega, z2⟩)
    · have := ((h4 i).1 (List.mem_of_getElem? hp)).1
      rw [updX_ne D _ (by omega)]; exact h5 p i v hp hv
end
end Go.Id
/- The workers' phase: the measure, the invariant, the master law of a worker's step. -/
namespace Go.Id
open Go.Conc
open Go.ConcN (ShN RelBy WgLive PayAt Has RW DWs AtD4 AtD3 AtD2 AtD1 AtK1 AtR0 sumTo upd sumTo_upd upd_ne upd_same CTag WD Vc cnt)
open Go.ConcR (KK wgBlock WgAt stA smA rd wr mk Payload Aside2 DC0 again_blocked)
set_option linter.unusedVariables false
set_option linter.unusedSectionVars false
/-! ### ranks side by side -/
noncomputable def Rk.pair (a : Rk) : Rk → Rk :=
  Rk.rec (motive := fun _ => Rk → Rk) (fun ι f ihf => fun b => Rk.rec (motive := fun _ => Rk) (fun κ g ihg => .mk (ι ⊕ κ) (fun x => match x with | .inl i => ihf i (.mk κ g) | .inr k => ihg k)) b) a
theorem Rk.pair_left {a a' : Rk} (h : Rk.lt a' a) (b : Rk) : Rk.lt (a'.pair b) (a.pair b) := by
  cases a with
  | mk ι f =>
    obtain ⟨i, rfl⟩ := h
    cases b with
    | mk κ g => exact ⟨Sum.inl i, rfl⟩
theorem Rk.pair_right {b b' : Rk} (h : Rk.lt b' b) (a : Rk) : Rk.lt (a.pair b') (a.pair b) := by
  cases b with
  | mk κ g =>
    obtain ⟨i, rfl⟩ := h
    cases a with
    | mk ι f => exact ⟨Sum.inr i, rfl⟩
noncomputable def sumR : Nat → (Nat → WX) → Rk
  | 0, _ => .mk Empty fun x => x.elim
  | j + 1, D => (sumR j D).pair (D j).rank
theorem sumR_congr {D D' : Nat → WX} : ∀ {j : Nat}, (∀ i, i < j → (D' i).rank = (D i).rank) → sumR j D' = sumR j D
  | 0, _ => rfl
  | j + 1, h => by simp only [sumR]; rw [sumR_congr (fun i hi => h i (by omega)), h j (by omega)]
theorem sumR_lt {D : Nat → WX} {i : Nat} {x : WX} (hx : Rk.lt x.rank (D i).rank) : ∀ {j : Nat}, i < j → Rk.lt (sumR j (updX D i x)) (sumR j D)
  | j + 1, h => by
    simp only [sumR]
    rcases Nat.lt_or_ge i j with hlt | hge
    · rw [updX_ne D x (show j ≠ i by omega)]
      exact Rk.pair_left (sumR_lt hx hlt) _
    · obtain rfl : i = j := by omega
      rw [updX_same, sumR_congr (D := D) (D' := updX D i x) (fun k hk => by rw [updX_ne D x (by omega)])]
      exact Rk.pair_right hx _
/-- The measure's order. -/
def Lt3 : (Nat × Rk × Nat) → (Nat × Rk × Nat) → Prop := Prod.Lex (· < ·) (Prod.Lex Rk.lt (· < ·))
theorem Lt3.wf : WellFounded Lt3 := (Prod.lex Nat.lt_wfRel (Prod.lex ⟨Rk.lt, Rk.wf⟩ Nat.lt_wfRel)).wf
theorem Lt3.one {a a' : Nat} {r r' : Rk} {f f' : Nat} (h : a' < a) : Lt3 (a', r', f') (a, r, f) := .left _ _ h
theorem Lt3.two {a a' : Nat} {r r' : Rk} {f f' : Nat} (h : a' = a) (h' : Rk.lt r' r) : Lt3 (a', r', f') (a, r, f) := by subst h; exact .right _ (.left _ _ h')
theorem Lt3.three {a a' : Nat} {r r' : Rk} {f f' : Nat} (h : a' = a) (h' : r' = r) (h'' : f' < f) : Lt3 (a', r', f') (a, r, f) := by subst h; subst h'; exact .right _ (.right _ h'')
/-! ### as the kit's law of the group's state sees it -/
def toW (x : WX) : WD := ⟨if x.stage = 8 then 7 else x.stage, x.fuel, x.deaf⟩
def toD (D : Nat → WX) : Nat → WD := fun i => toW (D i)
theorem toD_upd (D : Nat → WX) (i : Nat) (x : WX) : toD (updX D i x) = upd (toD D) i (toW x) := by
  funext a
  unfold toD updX upd
  split <;> rfl
def toC : Tg → CTag
  | .sp r s => .sp r s
  | .kd0 => .kd
  | .kd => .kd
  | .anch => .anch
  | .w1 => .w1
  | .w2 vs => .w2 vs
  | .sw => .w3
  | .w3 => .w3
  | .blk => .blk
  | .w4 => .w4
  | .ke => .ke
  | .acq => .acq
def Ssum (j : Nat) (D : Nat → WX) : Nat := sumTo j fun i => (D i).stage
def Fsum (j : Nat) (D : Nat → WX) : Nat := sumTo j fun i => (D i).fuel
theorem sumTo_updX (D : Nat → WX) (x : WX) (φ : WX → Nat) {i : Nat} : ∀ {j : Nat}, i < j → sumTo j (fun a => φ (updX D i x a)) + φ (D i) = sumTo j (fun a => φ (D a)) + φ x
  | j + 1, h => by
    rcases Nat.lt_or_ge i j with hlt | hge
    · have := sumTo_updX D x φ hlt
      simp only [sumTo, updX_ne D x (show j ≠ i by omega)]
      omega
    · obtain rfl : i = j := by omega
      simp only [sumTo, updX_same]
      rw [Go.ConcN.sumTo_congr (g := fun a => φ (D a)) (fun a ha => by rw [updX_ne D x (by omega)])]
      omega
theorem phi_mono (n : Nat) {v v' : Nat} (h : v' ≤ v) (tag : Tg) : phi n v' tag ≤ phi n v tag := by
  cases tag <;> simp only [phi] <;> omega
theorem phi_retag (n v : Nat) {tag tag' : Tg} (e : tag' = tag ∨ (tag = .blk ∧ tag' = .w3)) : phi n v tag' = phi n v tag := by
  rcases e with rfl | ⟨rfl, rfl⟩ <;> rfl
variable [Payload]
section
variable (Y : Ph) (Fin : (Nat → Prop) → Goroutine → World → Prop) (Shun : Loc → Prop) (c : Nat)
noncomputable def mu (j : Nat) (D : Nat → WX) (tag : Tg) (ρ0 : Rk) (f0 : Nat) (q : Nat → Nat) : Nat × Rk × Nat := (phi Y.n (Vc j (toD D)) tag + Ssum j D, ρ0.pair (sumR j D), f0 + 2 * Fsum j D + 2 * sumTo c q)
def Inv (μ : Nat × Rk × Nat) (m : Machine) (t : Trace) : Prop :=
  ∃ (gs : Array Goroutine) (w : World) (sl : Option (Nat × Nat)) (j : Nat) (D : Nat → WX) (tag : Tg) (ρ0 : Rk) (f0 d0 : Nat) (O0 : Nat → Prop) (q : Nat → Nat) (a : Goroutine) (st sm : Int),
    m = crowd gs w sl ∧ gs[0]? = some a ∧ CS Y Fin tag j ρ0 f0 d0 O0 a w ∧ Com Y Shun c j gs w t D d0 O0 q ∧ WgAt Y.ty Y.Wg w st sm ∧ Go.ConcN.Mode j (toD D) (toC tag) st sm ∧ μ = mu Y c j D tag ρ0 f0 q
end
section
variable {Y : Ph} {Fin : (Nat → Prop) → Goroutine → World → Prop} {Shun : Loc → Prop} {c j : Nat} {gs : Array Goroutine} {w w' : World} {sl : Option (Nat × Nat)} {t u : Trace} {D : Nat → WX} {tag : Tg} {ρ0 : Rk} {f0 d0 : Nat} {O0 : Nat → Prop} {q : Nat → Nat} {a : Goroutine} {st sm : Int}
/-- UNDER ANOTHER's STEP: as it stood; or, blocked, it is let try again. -/
theorem CS.wokenBy (hl : WgLive Y.ty Y.Wg w') (h : CS Y Fin tag j ρ0 f0 d0 O0 a w) (hr : RS Y O0 w w') (g g' : Goroutine) :
    ∃ tag' f', CS Y Fin tag' j ρ0 f' d0 O0 (woken Y.P g g' w' a) w' ∧ f' ≤ f0 + 1 ∧ (tag' = tag ∨ (tag = .blk ∧ tag' = .w3)) ∧ (mayWake Y.P g = true → g'.status = .running → tag' ≠ .blk) := by
  have h' := h.rely hr
  unfold Go.Conc.woken
  split
  · rcases h'.status hl with hs | ⟨_, rfl⟩
    · refine ⟨tag, f0, by rw [again_running _ (.inl hs)]; exact h', by omega, .inl rfl, fun _ _ e => ?_⟩
      subst e
      cases h' with
      | blk hb => simp at hs
    · cases h' with
      | blk hb =>
        rename_i g0
        have h3 := hb w' (RS.refl _ w')
        exact ⟨.w3, 0 + 1, by rw [again_blocked h3.1 h3.2.1]; exact .w3 (Goes.stop hb), by omega, .inr ⟨rfl, rfl⟩, fun _ _ => by simp⟩
  · rename_i hc
    exact ⟨tag, f0, h', by omega, .inl rfl, fun h1 h2 => absurd (by simp [h1, h2]) hc⟩
theorem rs_of {T : Nat → Prop} (hT : Turns T w w') (hf : ∀ b, T b → ¬ Y.fro b) (ho : ∀ b, T b → ¬ O0 b) (hl : WgLive Y.ty Y.Wg w → WgLive Y.ty Y.Wg w') : RS Y O0 w w' := ⟨hT.rly hf ho, hl⟩
/-- What a worker turns lies aside of the starter's. -/
theorem Com.aside (h : Com Y Shun c j gs w t D d0 O0 q) {i : Nat} (hi : i < j) {T : Nat → Prop} (hTo : ∀ b, T b → (D i).own b ∨ b = Y.Wg ∨ b = Y.Ch) : (∀ b, T b → ¬ Y.fro b) ∧ (∀ b, T b → ¬ O0 b) := by
  refine ⟨fun b hb hf => ?_, fun b hb ho => ?_⟩
  · rcases hTo b hb with z | z | z
    · exact h.own_fro hi z hf
    · exact h.fro_wg (z ▸ hf)
    · exact (h.fro b hf).2 z
  · rcases hTo b hb with z | z | z
    · exact (h.own0 b ho).2.2.2 i hi z
    · exact h.shO _ b (h.shW _ sh_wg) (by rw [z]; rfl) ho
    · exact (h.own0 b ho).2.2.1 z
/-- WHATEVER STEP OF WORKER i. -/
theorem workerStep (ha : gs[0]? = some a) (hcs : CS Y Fin tag j ρ0 f0 d0 O0 a w) (hcom : Com Y Shun c j gs w t D d0 O0 q)
    {i : Nat} (hi : i < j) {g g' : Goroutine} {es : Array Event} {x : WX} {st' sm' : Int} (hg : gs[c + i]? = some g) (hgo : stepG Y.P false g w = .go g' w' es)
    {T : Nat → Prop} (hT : Turns T w w') (hTo : ∀ b, T b → (D i).own b ∨ b = Y.Wg) (hTc : ¬ T Y.Ch) (K : PhOk Y)
    (hs : WS Y i x.stage x.rank x.fuel x.deaf x.own g' w') (ho : ∀ b, (D i).own b → x.own b) (hn : ∀ b, x.own b → (D i).own b ∨ (w.heap.size ≤ b ∧ b < w'.heap.size))
    (hRi : ∀ v, (D i).stage ≤ 7 → Y.Res i v (D i).own w → Y.Res i v x.own w')
    (hok : ∀ op ∈ MemOp.ofEvents (c + i) g.frame.fn g.frame.place es, OkW' Y.Wg (famOf Y c j (updX D i x)) (c + i) w'.heap.size op)
    (hdeaf : deafBehind (D i).deaf es = x.deaf) (h7 : x.stage ≤ 7 ↔ (D i).stage ≤ 7)
    (hrel : x.stage ≤ 6 → ∃ r, RelBy (stA Y.Wg) (t ++ MemOp.ofEvents (c + i) g.frame.fn g.frame.place es) (c + i) r)
    (hwg : WgAt Y.ty Y.Wg w' st' sm')
    (hmode : ∀ tag', (tag' = tag ∨ (tag = .blk ∧ tag' = .w3)) → (mayWake Y.P g = true → g'.status = .running → tag' ≠ .blk) → Go.ConcN.Mode j (toD (updX D i x)) (toC tag') st' sm')
    (hlt : (x.stage < (D i).stage ∧ cnt (toW x) ≤ cnt (toD D i)) ∨ (x.stage = (D i).stage ∧ cnt (toW x) = cnt (toD D i) ∧ (Rk.lt x.rank (D i).rank ∨ (x.rank = (D i).rank ∧ x.fuel + 1 = (D i).fuel)))) :
    ∃ m₁ ops μ', runT Y.P (crowd gs w sl) (c + i) = (.next m₁, ops) ∧ Lt3 μ' (mu Y c j D tag ρ0 f0 q) ∧ Inv Y Fin Shun c μ' m₁ (t ++ ops) := by
  have c0 := hcom.c0
  have hlive : WgLive Y.ty Y.Wg w' := ⟨_, _, hwg⟩
  have hTo' : ∀ b, T b → (D i).own b ∨ b = Y.Wg ∨ b = Y.Ch := fun b hb => (hTo b hb).imp id .inl
  have has := hcom.aside hi hTo'
  obtain ⟨tag', f', hcs', hf', htag, hwk⟩ := hcs.wokenBy hlive (rs_of hT has.1 has.2 fun _ => hlive) g g'
  have hrun := runT_crowd_go (P := Y.P) (sl := sl) (i := c + i) hg (by rw [show (c + i == 0) = false by simp; omega]; exact hgo)
  have e1 := sumTo_upd (toD D) (toW x) cnt hi
  rw [← toD_upd] at e1
  have e2 := sumTo_updX D x WX.stage hi
  have e3 := sumTo_updX D x WX.fuel hi
  have hci : c + i < gs.size := (Array.getElem?_eq_some_iff.1 hg).1
  have hcl : Y.Ch < w.heap.size := by obtain ⟨buf, s, L, hc, _⟩ := hcom.chan; exact (Array.getElem?_eq_some_iff.1 hc).1
  have rlyK : ∀ k, k < j → k ≠ i → Rly Y.fro (D k).own w w' := fun k hk e => hT.rly has.1 fun b hb hf => by
    rcases hTo b hb with z | z
    · exact e (hcom.own_one hk hi hf z)
    · exact hcom.ownWg hk (z ▸ hf)
  have hco : CO Y j (updX D i x) w' := by
    obtain ⟨buf, s, L, h1, h2, h3, h4, h5⟩ := hcom.chan
    refine ⟨buf, s, L, (hT.keep _ hcl hTc).trans h1, h2, h3, fun k => ?_, fun p k v hp hv => ?_⟩
    · by_cases e : k = i
      · subst e; rw [updX_same, h4, h7]
      · rw [updX_ne D _ e, h4]
    · have hk := (h4 k).1 (List.mem_of_getElem? hp)
      by_cases e : k = i
      · subst e; rw [updX_same]; exact hRi v hk.2 (h5 p k v hp hv)
      · rw [updX_ne D _ e]; exact K.res _ _ _ _ _ (h5 p k v hp hv) (rlyK k hk.1 e)
  have hcom' := hcom.stepW (gs' := (gs.map (woken Y.P g g' w')).setIfInBounds (c + i) g') (u := MemOp.ofEvents (c + i) g.frame.fn g.frame.place es) hi (by simp) (by simp [hci]) (fun k k1 k2 => by rw [Array.getElem?_setIfInBounds_ne (Ne.symm k2)]; exact hcom.same g g' w' k1) hT hTo' (fun _ => hlive) hs ho hn hok (by rw [Deaf_own, hcom.deafW i hi]; exact hdeaf) hrel hco
  refine ⟨_, _, mu Y c j (updX D i x) tag' ρ0 f' q, hrun, ?_, _, w', sl, j, updX D i x, tag', ρ0, f', d0, O0, q, woken Y.P g g' w' a, st', sm', rfl, by rw [Array.getElem?_setIfInBounds_ne (by omega), Array.getElem?_map, ha]; rfl, hcs', hcom', hwg, hmode tag' htag hwk, rfl⟩
  unfold mu
  rw [phi_retag Y.n _ htag]
  have ev : Vc j (toD (updX D i x)) + cnt (toD D i) = Vc j (toD D) + cnt (toW x) := e1
  have es' : Ssum j (updX D i x) + (D i).stage = Ssum j D + x.stage := e2
  have ef : Fsum j (updX D i x) + (D i).fuel = Fsum j D + x.fuel := e3
  rcases hlt with ⟨h1, h2⟩ | ⟨h1, h2, h3⟩
  · refine Lt3.one ?_
    have := phi_mono Y.n (v' := Vc j (toD (updX D i x))) (v := Vc j (toD D)) (by omega) tag
    omega
  · have ev' : Vc j (toD (updX D i x)) = Vc j (toD D) := by omega
    rcases h3 with h3 | ⟨h3, h4⟩
    · exact Lt3.two (by rw [ev']; omega) (Rk.pair_right (sumR_lt h3 hi) _)
    · refine Lt3.three (by rw [ev']; omega) ?_ (by omega)
      rw [sumR_congr (D := D) fun k hk => ?_]
      by_cases e : k = i
      · subst e; rw [updX_same, h3]
      · rw [updX_ne D _ e]
end
end Go.Id
/- The workers' phase: a step of a worker's keeps the invariant and lowers the measure. -/
namespace Go.Id
open Go.Conc
open Go.ConcN (ShN RelBy WgLive PayAt Has RW DWs AtD4 AtD3 AtD2 AtD1 AtK1 AtR0 sumTo upd sumTo_upd upd_ne upd_same CTag WD Vc cnt Vc_upd Vc_le others_uncounted isW3 OpenSt pend)
open Go.ConcR (KK wgBlock WgAt stA smA rd wr mk Payload Aside2 DC0 again_blocked Bk bk_of_mute ofEvent_loc_mark ofEvent_cell ofEvent_mk)
set_option linter.unusedVariables false
set_option linter.unusedSectionVars false
theorem nodup_le {n : Nat} : ∀ {L : List Nat}, L.Nodup → (∀ x ∈ L, x < n) → L.length ≤ n := by
  induction n with
  | zero => intro L _ h; cases L with
    | nil => simp
    | cons x L => exact absurd (h x (by simp)) (by omega)
  | succ n ih =>
    intro L hn h
    by_cases hm : n ∈ L
    · have h1 := ih (hn.erase n) (fun x hx => by
        have := (hn.mem_erase_iff).1 hx
        have := h x this.2
        omega)
      rw [List.length_erase_of_mem hm] at h1
      omega
    · have := ih hn (fun x hx => by
        have := h x hx
        have : x ≠ n := fun e => hm (e ▸ hx)
        omega)
      omega
theorem Turns.chan {w : World} {c cap : Nat} {buf : Array Value} {cl : Bool} {s r : Nat} {tm : Bool} : Turns (fun b => b = c) w (w.setChan c cap buf cl s r tm) :=
  ⟨by simp [World.setChan], fun b _ hb => by simp only [World.setChan]; rw [Array.getElem?_setIfInBounds_ne (Ne.symm hb)], rfl, rfl⟩
theorem okW_book {Wg B k : Nat} {F : Fam} {fn : FuncId} {pos : String} {es : Array Event} (hB : Wg < B) (h : ∀ e ∈ es, Bk Wg e ∨ e = mk (.releaseMerge (stA Wg))) : ∀ op ∈ MemOp.ofEvents k fn pos es, OkW' Wg F k B op := by
  intro op hop
  rw [ofEvents_eq] at hop
  obtain ⟨e, he, rfl⟩ := Array.mem_map.1 hop
  rcases h e he with (h1 | h1 | ⟨a, wr, rfl, ha⟩) | rfl
  · simp only [ofEvent_loc_mark h1]; exact ⟨rfl, trivial, by simp, fun x hx => by simp only at hx; cases hx⟩
  · simp only [ofEvent_loc_mark h1]; exact ⟨rfl, trivial, by simp, fun x hx => by simp only at hx; cases hx⟩
  · refine ⟨rfl, by simp only [ofEvent_cell]; show a.block < B; omega, by simp [ofEvent_cell], fun x hx => ?_⟩
    simp only [ofEvent_cell, MemAct.touch?, Option.some.injEq] at hx
    subst hx
    exact .inl ⟨⟨a, rfl, ha⟩, by simp⟩
  · refine ⟨rfl, hB, by simp [ofEvent_mk], fun x hx => ?_⟩
    simp [ofEvent_mk, MemAct.touch?] at hx
/-- A worker's private accesses. -/
theorem okW_priv {Wg B k : Nat} {F : Fam} {fro O : Nat → Prop} {fn : FuncId} {pos : String} {es : Array Event} (hf : F.fro = fro) (hO : ∀ b, O b → F.own k b) (hb : ∀ b, (fro b ∨ O b) → b < B) (h : ∀ e ∈ es, EvOk fro O e) : ∀ op ∈ MemOp.ofEvents k fn pos es, OkW' Wg F k B op := by
  intro op hop
  rw [ofEvents_eq] at hop
  obtain ⟨e, he, rfl⟩ := Array.mem_map.1 hop
  have h := h e he
  obtain ⟨loc, wr, sy⟩ := e
  unfold EvOk at h
  cases loc with
  | cell a =>
    simp only at h
    obtain ⟨rfl, h⟩ := h
    have hin : fro a.block ∨ O a.block := by cases wr <;> simp at h <;> first | exact h | exact .inr h
    refine ⟨rfl, hb _ hin, by simp [MemAct.ofEvent], fun x hx => .inr ?_⟩
    simp [MemAct.ofEvent, MemAct.touch?] at hx
    subst hx
    refine ⟨by simp, a.block, rfl, ?_⟩
    cases wr with
    | true => simp at h; exact .inl (hO _ h)
    | false => exact hin.elim (fun z => .inr ⟨by rw [hf]; exact z, rfl⟩) (fun z => .inl (hO _ z))
  | obj r =>
    simp only at h
    obtain ⟨rfl, h⟩ := h
    refine ⟨rfl, by have := hb _ (.inr h); simpa [MemAct.ofEvent, MemAct.low, Loc.low] using this, by simp [MemAct.ofEvent], fun x hx => .inr ?_⟩
    simp [MemAct.ofEvent, MemAct.touch?] at hx
    subst hx
    exact ⟨by simp, r, rfl, .inl (hO _ h)⟩
  | mark m =>
    cases m <;> simp only at h
    exact ⟨rfl, trivial, by simp [MemAct.ofEvent], fun x hx => by simp [MemAct.ofEvent, MemAct.touch?] at hx⟩
  | output => exact h.elim
  | goroutines => exact h.elim
theorem deaf_priv {fro O : Nat → Prop} {es : Array Event} (h : ∀ e ∈ es, EvOk fro O e) (d : Nat) : deafBehind d es = d :=
  deafBehind_still (fun e he => by
    have h := h e he
    obtain ⟨loc, wr, sy⟩ := e
    unfold EvOk at h
    cases loc with
    | mark m => cases m <;> simp only at h; exact ⟨by simp, by simp⟩
    | _ => exact ⟨by simp, by simp⟩) d
variable [Payload]
section
variable {Y : Ph} {Fin : (Nat → Prop) → Goroutine → World → Prop} {Shun : Loc → Prop} {c j : Nat} {gs : Array Goroutine} {w w' : World} {sl : Option (Nat × Nat)} {t u : Trace} {D : Nat → WX} {tag : Tg} {ρ0 : Rk} {f0 d0 : Nat} {O0 : Nat → Prop} {q : Nat → Nat} {a : Goroutine} {st sm : Int}
theorem CS.bound (h : CS Y Fin tag j ρ0 f0 d0 O0 a w) : j + pend (toC tag) ≤ Y.n := by
  cases h <;> simp only [toC, pend] <;> (try simp) <;> omega
theorem isW3_blk {tag' : Tg} (e : tag' = tag ∨ (tag = .blk ∧ tag' = .w3)) : toC tag' = toC tag ∨ (toC tag = .blk ∧ toC tag' = .w3) := by
  rcases e with rfl | ⟨rfl, rfl⟩
  · exact .inl rfl
  · exact .inr ⟨rfl, rfl⟩
theorem toW_stage (x : WX) (h : x.stage ≠ 8) : (toW x).stage = x.stage := by simp [toW, h]
theorem getw {i : Nat} : (toD D i).stage = if (D i).stage = 8 then 7 else (D i).stage := rfl
set_option maxHeartbeats 1600000 in
theorem stepWorker (K : PhOk Y) (hn : Y.n < 2147483648) (ha : gs[0]? = some a) (hcs : CS Y Fin tag j ρ0 f0 d0 O0 a w) (hcom : Com Y Shun c j gs w t D d0 O0 q) (hwg : WgAt Y.ty Y.Wg w st sm) (hmode : Go.ConcN.Mode j (toD D) (toC tag) st sm)
    (hoff : ∀ (k : Nat) (g : Goroutine), gs[k]? = some g → offersAt g Y.Ch false = []) {i : Nat} (hi : i < j) {g : Goroutine} (hg : gs[c + i]? = some g) (hrun : g.status = .running) :
    ∃ m₁ ops μ', runT Y.P (crowd gs w sl) (c + i) = (.next m₁, ops) ∧ Lt3 μ' (mu Y c j D tag ρ0 f0 q) ∧ Inv Y Fin Shun c μ' m₁ (t ++ ops) := by
  obtain ⟨g₁, hg₁, hs⟩ := hcom.wk i hi
  obtain rfl : g = g₁ := by rw [hg] at hg₁; exact Option.some.inj hg₁
  have hb := hcs.bound
  have hVj := Vc_le j (toD D)
  have hdk : Deaf t (c + i) = (D i).deaf := hcom.deafW i hi
  have hlive : WgLive Y.ty Y.Wg w := ⟨_, _, hwg⟩
  generalize hx0 : D i = x0 at hs
  obtain ⟨s, ρ, m, dd, O⟩ := x0
  simp only at hs
  have hst : (D i).stage = s := by rw [hx0]
  have hra : (D i).rank = ρ := by rw [hx0]
  have hfu : (D i).fuel = m := by rw [hx0]
  have hde : (D i).deaf = dd := by rw [hx0]
  have how : (D i).own = O := by rw [hx0]
  rw [hde] at hdk
  -- a step of the library's: at most the group's block turns
  have bookG : ∀ {g' : Goroutine} {w' : World} {es : Array Event} {s' m' dd' : Nat} {st' sm' : Int}, s ≤ 7 → s' ≤ 7 → stepG Y.P false g w = .go g' w' es → Aside Y.Wg w w' → WgAt Y.ty Y.Wg w' st' sm' → (∀ e ∈ es, Bk Y.Wg e ∨ e = mk (.releaseMerge (stA Y.Wg))) →
      WS Y i s' ρ m' dd' O g' w' → deafBehind dd es = dd' → (s' ≤ 6 → ∃ r, RelBy (stA Y.Wg) (t ++ MemOp.ofEvents (c + i) g.frame.fn g.frame.place es) (c + i) r) →
      (∀ tag', (tag' = tag ∨ (tag = .blk ∧ tag' = .w3)) → (mayWake Y.P g = true → g'.status = .running → tag' ≠ .blk) → Go.ConcN.Mode j (upd (toD D) i ⟨s', m', dd'⟩) (toC tag') st' sm') → ((s' < s ∧ cnt ⟨s', m', dd'⟩ ≤ cnt (toD D i)) ∨ (s' = s ∧ m' + 1 = m)) →
      ∃ m₁ ops μ', runT Y.P (crowd gs w sl) (c + i) = (.next m₁, ops) ∧ Lt3 μ' (mu Y c j D tag ρ0 f0 q) ∧ Inv Y Fin Shun c μ' m₁ (t ++ ops) := by
    intro g' w' es s' m' dd' st' sm' h7 h7' hgo hAs hwg' hbk hs' hdd hrel hmode' hlt
    have tW : toW ⟨s', ρ, m', dd', O⟩ = ⟨s', m', dd'⟩ := by simp only [toW]; rw [if_neg (by omega)]
    have hT := Turns.of_aside hAs
    refine workerStep (x := ⟨s', ρ, m', dd', O⟩) ha hcs hcom hi hg hgo hT (fun b hb => .inr hb) (fun e => hcom.wgl.2 e.symm) K hs' (fun b hb => by rw [how] at hb; exact hb) (fun b hb => .inl (by rw [how]; exact hb)) (fun v _ hv => ?_) (okW_book (Nat.lt_of_lt_of_le hcom.wgl.1 hT.size) hbk) (by rw [hde]; exact hdd) ⟨fun _ => by rw [hst]; exact h7, fun _ => h7'⟩ hrel hwg' (fun tag' e1 e2 => by rw [toD_upd, tW]; exact hmode' tag' e1 e2) ?_
    · rw [how] at hv
      refine K.res _ _ _ _ _ hv (hT.rly (fun b hb hf => hcom.fro_wg (hb ▸ hf)) fun b hb ho => hcom.ownWg hi (by rw [how]; exact hb ▸ ho))
    · rw [tW, hst, hra, hfu]
      rcases hlt with ⟨h1, h2⟩ | ⟨h1, h2⟩
      · exact .inl ⟨h1, h2⟩
      · refine .inr ⟨h1, ?_, .inr ⟨rfl, h2⟩⟩
        have : (toD D i).stage = s := by rw [getw, if_neg (by omega), hst]
        simp only [cnt, this, h1]
  have book : ∀ {g' : Goroutine} {w' : World} {es : Array Event} {s' m' dd' : Nat} {st' sm' : Int}, s ≤ 6 → s' ≤ 6 → stepG Y.P false g w = .go g' w' es → Aside Y.Wg w w' → WgAt Y.ty Y.Wg w' st' sm' → (∀ e ∈ es, Bk Y.Wg e) →
      (∀ jx e, es[jx]? = some e → (MemAct.ofEvent e).touch? = none ∨ 0 < deafBehind dd (es.extract 0 jx)) → WS Y i s' ρ m' dd' O g' w' → deafBehind dd es = dd' →
      (∀ tag', (tag' = tag ∨ (tag = .blk ∧ tag' = .w3)) → (mayWake Y.P g = true → g'.status = .running → tag' ≠ .blk) → Go.ConcN.Mode j (upd (toD D) i ⟨s', m', dd'⟩) (toC tag') st' sm') → ((s' < s ∧ cnt ⟨s', m', dd'⟩ ≤ cnt (toD D i)) ∨ (s' = s ∧ m' + 1 = m)) →
      ∃ m₁ ops μ', runT Y.P (crowd gs w sl) (c + i) = (.next m₁, ops) ∧ Lt3 μ' (mu Y c j D tag ρ0 f0 q) ∧ Inv Y Fin Shun c μ' m₁ (t ++ ops) :=
    fun h6 h6' hgo hAs hwg' hbk hd hs' hdd hmode' hlt => bookG (by omega) (by omega) hgo hAs hwg' (fun e he => .inl (hbk e he)) hs' hdd
      (fun _ => by obtain ⟨r, hr⟩ := hcom.rel i hi (by omega); exact ⟨r, hr.book hdk _ _ hbk hd⟩) hmode' hlt
  -- an idle step: nothing turns, nothing is listed
  have idle : ∀ {g' : Goroutine} {m' : Nat}, s ≤ 7 → stepG Y.P false g w = .go g' w #[] → WS Y i s ρ m' dd O g' w → m' + 1 = m →
      ∃ m₁ ops μ', runT Y.P (crowd gs w sl) (c + i) = (.next m₁, ops) ∧ Lt3 μ' (mu Y c j D tag ρ0 f0 q) ∧ Inv Y Fin Shun c μ' m₁ (t ++ ops) := by
    intro g' m' h7 hgo hs' hm
    refine bookG h7 h7 hgo (.refl Y.Wg w) hwg (by simp) hs' rfl (fun h6 => ?_) (fun tag' e _ => ?_) (.inr ⟨rfl, hm⟩)
    · obtain ⟨r, hr⟩ := hcom.rel i hi (by omega)
      exact ⟨r, by simpa [ofEvents_eq] using hr⟩
    · have := hmode.same (i := i) m' dd
      rw [show (toD D i).stage = s by rw [getw, if_neg (by omega), hst]] at this
      exact this.retag (isW3_blk e)
  have hsD : s ≠ 8 → (toD D i).stage = s := fun h => by rw [getw, if_neg (by omega), hst]
  cases hs with
  | work h =>
    have h8 : (toD D i).stage = 7 := by rw [getw, if_pos hst]
    cases ρ with
    | mk ι f =>
    rcases h with h | ⟨_, h⟩
    · -- the send
      obtain ⟨_, v, z, g₂, C, pn, x, hC, hHas, hres, hcm, hk⟩ := h w (Rly.refl _ _ _)
      obtain ⟨buf, sn, L, h1, h2, h3, h4, h5⟩ := hcom.chan
      have hCc : C ≠ Y.Ch := hcom.ownW i hi C (by rw [how]; exact hC)
      have hiL : i ∉ L := fun e => by have := ((h4 i).1 e).2; omega
      have hroom : buf.size < Y.n := by
        have := nodup_le (n := Y.n) (L := i :: L) (List.nodup_cons.2 ⟨hiL, h3⟩) (fun x hx => by
          rcases List.mem_cons.1 hx with rfl | hx
          · omega
          · have := ((h4 x).1 hx).1; omega)
        simp only [List.length_cons] at this
        omega
      have hrunT := crowd_send_room (P := Y.P) (sl := sl) (i := c + i) hg (by rw [show (c + i == 0) = false by have := hcom.c0; simp; omega]; exact hcm) h1 hroom (partners_nil fun k g' hk' => by
        rw [Array.getElem?_setIfInBounds] at hk'
        split at hk'
        · split at hk'
          · cases hk'; exact offersAt_ph _ _
          · cases hk'
        · exact hoff k g' hk')
      have hT : Turns (fun b => b = Y.Ch) w (w.setChan Y.Ch Y.n (buf.push v) false (sn + 1) 0 false) := Turns.chan
      have hcl : Y.Ch < w.heap.size := (Array.getElem?_eq_some_iff.1 h1).1
      have hci : c + i < gs.size := (Array.getElem?_eq_some_iff.1 hg).1
      have hTo : ∀ b, b = Y.Ch → (D i).own b ∨ b = Y.Wg ∨ b = Y.Ch := fun b hb => .inr (.inr hb)
      have has := hcom.aside hi hTo
      have hlive' := live_of hT (fun e => hcom.wgl.2 e) hlive
      have hwg' := at_of hT (fun e => hcom.wgl.2 e) hwg
      have rlyO : ∀ k, k < j → Rly Y.fro (D k).own w (w.setChan Y.Ch Y.n (buf.push v) false (sn + 1) 0 false) := fun k hk => hT.rly has.1 fun b hb ho => hcom.ownW k hk b ho hb
      obtain ⟨m₂, hk⟩ := hk (w.setChan Y.Ch Y.n (buf.push v) false (sn + 1) 0 false) hlive' (by
        have : (w.setChan Y.Ch Y.n (buf.push v) false (sn + 1) 0 false).cell? ⟨C, 0, none⟩ = w.cell? ⟨C, 0, none⟩ := cell_of_heap (hT.keep C (hcom.own_low hi (by rw [how]; exact hC)) hCc)
        exact this.trans hHas)
      have hcom' := hcom.stepW (x := ⟨7, .mk ι f, m₂, 0, O⟩) (gs' := gs.setIfInBounds (c + i) (g₂.finishComm Y.P #[scase Y.Ch v z] .send 0 undef false)) (u := MemOp.ofEvents (c + i) g.frame.fn g.frame.place #[] ++ #[{ g := c + i, fn := g₂.frame.fn, pos := g₂.frame.place, act := .send Y.Ch sn }, { g := c + i, fn := g₂.frame.fn, pos := g₂.frame.place, act := .sendDone Y.Ch sn }]) hi (by simp) (by simp [hci]) (fun k k1 k2 => by rw [Array.getElem?_setIfInBounds_ne (Ne.symm k2)]) hT hTo (fun _ => hlive') (.r0 hC hk) (fun b hb => by rw [how] at hb; exact hb) (fun b hb => .inl (by rw [how]; exact hb)) (fun op hop => ?_) ?_ (fun h => absurd h (by simp)) ?_
      · refine ⟨_, _, mu Y c j (updX D i ⟨7, .mk ι f, m₂, 0, O⟩) tag ρ0 f0 q, hrunT, ?_, _, _, sl, j, updX D i ⟨7, .mk ι f, m₂, 0, O⟩, tag, ρ0, f0, d0, O0, q, a, st, sm, rfl, by rw [Array.getElem?_setIfInBounds_ne (by have := hcom.c0; omega)]; exact ha, hcs.rely (rs_of hT has.1 has.2 fun _ => hlive'), hcom', hwg', ?_, rfl⟩
        · refine Lt3.one ?_
          have e1 := Vc_upd (toD D) (toW ⟨7, .mk ι f, m₂, 0, O⟩) hi
          rw [← toD_upd] at e1
          have c1 : cnt (toW ⟨7, .mk ι f, m₂, 0, O⟩) = cnt (toD D i) := by simp [cnt, toW, h8]
          have e2 : Ssum j (updX D i ⟨7, .mk ι f, m₂, 0, O⟩) + (D i).stage = Ssum j D + 7 := sumTo_updX D _ WX.stage hi
          rw [show Vc j (toD (updX D i ⟨7, .mk ι f, m₂, 0, O⟩)) = Vc j (toD D) by omega]
          omega
        · rw [toD_upd]
          have := hmode.same (i := i) m₂ 0
          rw [h8] at this
          exact this
      · have : op ∈ (#[{ g := c + i, fn := g₂.frame.fn, pos := g₂.frame.place, act := .send Y.Ch sn }, { g := c + i, fn := g₂.frame.fn, pos := g₂.frame.place, act := .sendDone Y.Ch sn }] : Array MemOp) := by
          rcases Array.mem_append.1 hop with z | z
          · simp [ofEvents_eq] at z
          · exact z
        simp only [List.mem_toArray, List.mem_cons, List.not_mem_nil, or_false] at this
        have hs' := hT.size
        rcases this with rfl | rfl
        · exact ⟨rfl, Nat.lt_of_lt_of_le hcl hs', by simp, fun x hx => by simp [MemAct.touch?] at hx⟩
        · exact ⟨rfl, Nat.lt_of_lt_of_le hcl hs', by simp, fun x hx => by simp [MemAct.touch?] at hx⟩
      · have : MemOp.ofEvents (c + i) g.frame.fn g.frame.place #[] = #[] := by simp [ofEvents_eq]
        rw [this, Array.empty_append, Go.ConcN.Deaf_still, hdk]
        intro op hop
        simp only [List.mem_toArray, List.mem_cons, List.not_mem_nil, or_false] at hop
        rcases hop with rfl | rfl <;> exact ⟨by simp, by simp⟩
      · refine ⟨buf.push v, sn + 1, L ++ [i], by simp [World.setChan, hcl], by simp [h2], ?_, fun k => ?_, fun p k v' hp hv => ?_⟩
        · rw [List.nodup_append]
          exact ⟨h3, by simp, fun x hx y hy => by simp at hy; subst hy; exact fun e => hiL (e ▸ hx)⟩
        · rw [List.mem_append, h4]
          by_cases e : k = i
          · subst e; rw [updX_same]; simp; omega
          · rw [updX_ne D _ e]; simp [e]
        · rw [List.getElem?_append] at hp
          rw [Array.getElem?_push] at hv
          split at hp
          · rename_i hlt
            rw [if_neg (by omega)] at hv
            have hk' := (h4 k).1 (List.mem_of_getElem? hp)
            have hki : k ≠ i := fun e => hiL (e ▸ List.mem_of_getElem? hp)
            rw [updX_ne D _ hki]
            exact K.res _ _ _ _ _ (h5 p k v' hp hv) (rlyO k hk'.1)
          · rename_i hge
            have hp0 : p = L.length := by
              have := (List.getElem?_eq_some_iff.1 hp).1
              simp at this; omega
            subst hp0
            simp at hp
            subst hp
            rw [if_pos (by omega)] at hv
            cases hv
            rw [updX_same]
            have := rlyO _ hi
            rw [how] at this
            exact K.res _ _ _ _ _ hres this
    · obtain ⟨g', w', es, ix, hgo, hG, hg'⟩ := h w (Rly.refl _ _ _)
      have hT := Turns.of_guar hG
      have hTW : ¬ O Y.Wg := fun ho => hcom.ownWg hi (by rw [how]; exact ho)
      have hTC : ¬ O Y.Ch := fun ho => hcom.ownW i hi _ (by rw [how]; exact ho) rfl
      refine workerStep (x := ⟨8, f ix, 0, 0, grow O w w'⟩) ha hcs hcom hi hg hgo hT (fun b hb => .inl (by rw [how]; exact hb)) hTC K (.work hg') (fun b hb => .inl (by rw [how] at hb; exact hb)) (fun b hb => by rw [how]; exact hb) (fun v h7 => by omega) ?_ (by rw [hde]; exact deaf_priv hG.evs 0) ⟨fun h => absurd h (by simp), fun h => by omega⟩ (fun h => absurd h (by simp)) (at_of hT hTW hwg) (fun tag' e _ => ?_) (.inr ⟨hst.symm, ?_, .inl ?_⟩)
      · refine okW_priv (O := O) rfl (fun b hb => ⟨by omega, by omega, ?_⟩) (fun b hb => ?_) hG.evs
        · rw [show c + i - c = i by omega, updX_same]; exact .inl hb
        · rcases hb with hb | hb
          · exact Nat.lt_of_lt_of_le (hcom.fro b hb).1 hT.size
          · exact Nat.lt_of_lt_of_le (hcom.own_low hi (by rw [how]; exact hb)) hT.size
      · rw [toD_upd]
        have := hmode.same (i := i) 0 0
        rw [h8] at this
        exact this.retag (isW3_blk e)
      · simp only [cnt, h8]; simp [toW]
      · rw [hra]; exact ⟨ix, rfl⟩
  | r0 hC h =>
    rcases Goes.cases h with hstop | ⟨m', rfl, hstep⟩
    · obtain ⟨_, g', hgo, m₂, hk⟩ := hstop w (RW.refl w)
      refine bookG (s' := 6) (by omega) (by omega) hgo (.refl Y.Wg w) hwg (by intro e he; simp at he; exact .inr he) (.k1 hC hk) (by simp [deafBehind, mk]) (fun _ => ⟨t.size, RelBy.new hdk _ _⟩) (fun tag' e _ => ?_) (.inl ⟨by omega, ?_⟩)
      · exact (hmode.counted hi (by rw [hsD (by omega)]; omega) (.inl rfl) _ _).retag (isW3_blk e)
      · simp [cnt, hsD]
    · obtain ⟨g', w', es, hgo, ⟨rfl, rfl⟩, hg'⟩ := hstep w (RW.refl w)
      exact idle (by omega) hgo (.r0 hC hg') rfl
  | k1 hC h =>
    rcases Goes.cases h with hstop | ⟨m', rfl, hstep⟩
    · obtain ⟨_, g', hgo, m₂, hk⟩ := hstop w (RW.refl w)
      refine book (s' := 5) (by omega) (by omega) hgo (.refl Y.Wg w) hwg (by intro e he; simp at he; subst he; exact .inl rfl) (by intro jx e he; exact .inl (by have := Array.mem_of_getElem? he; simp at this; subst this; rfl)) (.d1 hC hk) (by simp [deafBehind, mk]) (fun tag' e _ => ?_) (.inl ⟨by omega, ?_⟩)
      · exact (hmode.counted hi (by rw [hsD (by omega)]; omega) (.inr rfl) _ _).retag (isW3_blk e)
      · simp [cnt, hsD]
    · obtain ⟨g', w', es, hgo, ⟨rfl, rfl⟩, hg'⟩ := hstep w (RW.refl w)
      exact idle (by omega) hgo (.k1 hC hg') rfl
  | d1 hC h =>
    rcases Goes.cases h with hstop | ⟨m', rfl, hstep⟩
    · obtain ⟨_, hall⟩ := hstop w (RW.refl w)
      have hsD := hsD (by omega)
      have hc1 : cnt (toD D i) = 1 := by simp [cnt, hsD]
      have hV1 : 1 ≤ Vc j (toD D) := by have := Go.ConcN.le_sumTo (f := fun x => cnt (toD D x)) hi; simp only [Vc]; omega
      have bk2 : ∀ e ∈ #[rd (stA Y.Wg), wr (stA Y.Wg)], Bk Y.Wg e := by intro e he; simp at he; rcases he with rfl | rfl <;> exact Go.ConcN.bk_cell _ _ rfl
      have df2 : ∀ jx e, (#[rd (stA Y.Wg), wr (stA Y.Wg)] : Array Event)[jx]? = some e → (MemAct.ofEvent e).touch? = none ∨ 0 < deafBehind 1 ((#[rd (stA Y.Wg), wr (stA Y.Wg)] : Array Event).extract 0 jx) := by
        intro jx e he
        match jx, he with
        | 0, _ => exact .inr (by simp [deafBehind])
        | 1, _ => exact .inr (by simp [deafBehind, rd])
        | jx + 2, he => simp at he
      have hq0 : ∀ q, cnt (⟨1, q, 1⟩ : WD) = 0 := fun _ => rfl
      have opq : ∀ q, OpenSt j (toD D) → OpenSt j (upd (toD D) i ⟨1, q, 1⟩) := fun q h a ha => by
        by_cases e : a = i
        · subst e; rw [upd_same]; simp
        · rw [upd_ne (toD D) _ e]; exact h a ha
      have hm := hmode
      generalize htg : toC tag = tg at hm hb
      cases hm with
      | opn h1 h2 h3 =>
        obtain ⟨v, hv⟩ : ∃ v, Vc j (toD D) + pend tg = v + 1 := ⟨Vc j (toD D) + pend tg - 1, by omega⟩
        rw [hv] at hwg
        have hw1 : WgAt Y.ty Y.Wg w (((v : Nat) + 1) * KK + ((0 : Nat) : Int)) 0 := by simpa using hwg
        obtain ⟨g', hgo, _, hq⟩ := hall v 0 (by omega) (by omega) hw1
        obtain ⟨qq, hq⟩ := hq (by omega)
        have hv' : Vc j (upd (toD D) i ⟨1, qq, 1⟩) + pend tg = v := by have := Vc_upd (toD D) (⟨1, qq, 1⟩ : WD) hi; have := hq0 qq; omega
        refine book (s' := 1) (by omega) (by omega) hgo (aside_setCell w (stA Y.Wg) _) (hwg.setSt _) bk2 df2 (.quit hq) rfl (fun tag' et _ => Go.ConcN.Mode.retag ?_ (by have := isW3_blk et; rw [htg] at this; exact this)) (.inl ⟨by omega, by simp [cnt]⟩)
        have e : ((v : Nat) : Int) * KK + ((0 : Nat) : Int) = ((Vc j (upd (toD D) i ⟨1, qq, 1⟩) + pend tg : Nat) : Int) * KK := by rw [hv']; simp
        rw [e]
        exact .opn h1 (opq qq h2) (fun vs ev => by have := h3 vs ev; omega)
      | reg h1 h2 h3 =>
        obtain ⟨v, hv⟩ : ∃ v, Vc j (toD D) = v + 1 := ⟨Vc j (toD D) - 1, by omega⟩
        rw [hv] at hwg
        have hw1 : WgAt Y.ty Y.Wg w (((v : Nat) + 1) * KK + ((1 : Nat) : Int)) 0 := by simpa using hwg
        obtain ⟨g', hgo, hl, hq⟩ := hall v 1 (by omega) (by omega) hw1
        by_cases hv0 : v = 0
        · subst hv0
          obtain ⟨m₂, hk⟩ := hl ⟨rfl, rfl⟩
          refine book (s' := 4) (by omega) (by omega) hgo (aside_setCell w (stA Y.Wg) _) (hwg.setSt _) bk2 df2 (.d2 hC hk) rfl (fun tag' et _ => Go.ConcN.Mode.retag ?_ (by have := isW3_blk et; rw [htg] at this; exact this)) (.inl ⟨by omega, by simp [cnt]⟩)
          have hoth : ∀ a, a < j → a ≠ i → (toD D a).stage = 1 := fun a ha e => by
            have c0 := others_uncounted hi hv hc1 a ha e
            have := h2 a ha
            simp only [cnt] at c0
            split at c0 <;> omega
          have := Go.ConcN.Mode.last (j := j) (D := upd (toD D) i ⟨4, m₂, 1⟩) (tag := tg) i h1 hi (by rw [upd_same]; simp) (fun a ha e => by rw [upd_ne (toD D) _ e]; exact hoth a ha e)
          rw [upd_same] at this
          simpa using this
        · obtain ⟨qq, hq⟩ := hq (by omega)
          have hv' : Vc j (upd (toD D) i ⟨1, qq, 1⟩) = v := by have := Vc_upd (toD D) (⟨1, qq, 1⟩ : WD) hi; have := hq0 qq; omega
          refine book (s' := 1) (by omega) (by omega) hgo (aside_setCell w (stA Y.Wg) _) (hwg.setSt _) bk2 df2 (.quit hq) rfl (fun tag' et _ => Go.ConcN.Mode.retag ?_ (by have := isW3_blk et; rw [htg] at this; exact this)) (.inl ⟨by omega, by simp [cnt]⟩)
          have e : ((v : Nat) : Int) * KK + ((1 : Nat) : Int) = ((Vc j (upd (toD D) i ⟨1, qq, 1⟩) : Nat) : Int) * KK + 1 := by rw [hv']; simp
          rw [e]
          exact .reg h1 (opq qq h2) (by omega)
      | last L _ h2 h3 h4 =>
        by_cases e : i = L
        · subst e; omega
        · have := h4 i hi e; omega
      | sema h2 => have := h2 i hi; omega
      | fin _ h2 => have := h2 i hi; omega
    · obtain ⟨g', w', es, hgo, ⟨rfl, rfl⟩, hg'⟩ := hstep w (RW.refl w)
      exact idle (by omega) hgo (.d1 hC hg') rfl
  | d2 hC h =>
    rcases Goes.cases h with hstop | ⟨m', rfl, hstep⟩
    · obtain ⟨_, hx⟩ := hstop w (RW.refl w)
      have hsD := hsD (by omega)
      obtain ⟨hW3, hoth, rfl, rfl⟩ := hmode.isLast hi (by omega)
      simp only [hsD] at hwg
      obtain ⟨g', hgo, m₂, hk⟩ := hx (by simpa using hwg)
      refine book (s' := 3) (by omega) (by omega) hgo (.refl Y.Wg w) hwg (by intro e he; simp at he; subst he; exact Go.ConcN.bk_cell _ _ rfl) (by intro jx e he; match jx, he with | 0, _ => exact .inr (by simp [deafBehind]) | jx + 1, he => simp at he) (.d3 hC hk) rfl (fun tag' et _ => Go.ConcN.Mode.retag ?_ (isW3_blk et)) (.inl ⟨by omega, by simp [cnt]⟩)
      have := Go.ConcN.Mode.last (j := j) (D := upd (toD D) i ⟨3, m₂, 1⟩) (tag := toC tag) i hW3 hi (by rw [upd_same]; simp) (fun a ha e => by rw [upd_ne (toD D) _ e]; exact hoth a ha e)
      rw [upd_same] at this
      simpa using this
    · obtain ⟨g', w', es, hgo, ⟨rfl, rfl⟩, hg'⟩ := hstep w (RW.refl w)
      exact idle (by omega) hgo (.d2 hC hg') rfl
  | d3 hC h =>
    rcases Goes.cases h with hstop | ⟨m', rfl, hstep⟩
    · obtain ⟨_, hx⟩ := hstop w (RW.refl w)
      have hsD := hsD (by omega)
      obtain ⟨hW3, hoth, rfl, rfl⟩ := hmode.isLast hi (by omega)
      simp only [hsD] at hwg
      obtain ⟨g', hgo, m₂, hk⟩ := hx (by simpa using hwg)
      refine book (s' := 2) (by omega) (by omega) hgo (aside_setCell w (stA Y.Wg) _) (hwg.setSt 0) (by intro e he; simp at he; subst he; exact Go.ConcN.bk_cell _ _ rfl) (by intro jx e he; match jx, he with | 0, _ => exact .inr (by simp [deafBehind]) | jx + 1, he => simp at he) (.d4 hC hk) rfl (fun tag' et _ => Go.ConcN.Mode.retag ?_ (isW3_blk et)) (.inl ⟨by omega, by simp [cnt]⟩)
      have := Go.ConcN.Mode.last (j := j) (D := upd (toD D) i ⟨2, m₂, 1⟩) (tag := toC tag) i hW3 hi (by rw [upd_same]; simp) (fun a ha e => by rw [upd_ne (toD D) _ e]; exact hoth a ha e)
      rw [upd_same] at this
      simpa using this
    · obtain ⟨g', w', es, hgo, ⟨rfl, rfl⟩, hg'⟩ := hstep w (RW.refl w)
      exact idle (by omega) hgo (.d3 hC hg') rfl
  | d4 hC h =>
    rcases Goes.cases h with hstop | ⟨m', rfl, hstep⟩
    · obtain ⟨_, hmw, hx⟩ := hstop w (RW.refl w)
      have hsD := hsD (by omega)
      obtain ⟨hW3, hoth, rfl, rfl⟩ := hmode.isLast hi (by omega)
      simp only [hsD] at hwg
      obtain ⟨g', hgo, qq, hq⟩ := hx (by simpa using hwg)
      have hrun' : g'.status = .running := by
        cases qq with
        | zero => exact absurd hq.2 (by decide)
        | succ qq => exact hq.elim (fun x => absurd x.2 (by decide)) (fun x => x.1)
      refine book (s' := 1) (by omega) (by omega) hgo (aside_setCell w (smA Y.Wg) _) (hwg.setSm 1) (es := semEvents (smA Y.Wg)) ?_ ?_ (.quit hq) (by simp [deafBehind, semEvents]) ?_ (.inl ⟨by omega, by simp [cnt]⟩)
      · intro e he
        simp [semEvents] at he
        rcases he with rfl | rfl | rfl | rfl
        · exact .inl rfl
        · exact Go.ConcN.bk_cell _ _ rfl
        · exact Go.ConcN.bk_cell _ _ rfl
        · exact .inr (.inl rfl)
      · intro jx e he
        match jx, he with
        | 0, he => simp [semEvents] at he; subst he; exact .inl rfl
        | 1, _ => exact .inr (by simp [deafBehind, semEvents])
        | 2, _ => exact .inr (by simp [deafBehind, semEvents])
        | 3, he => simp [semEvents] at he; subst he; exact .inl rfl
        | jx + 4, he => simp [semEvents] at he
      · intro tag' ht hw
        have hnb := hw hmw hrun'
        have e3 : toC tag' = .w3 := by
          rcases ht with rfl | ⟨_, rfl⟩
          · cases tag' <;> first | rfl | exact hW3.elim | exact absurd rfl hnb
          · rfl
        rw [e3]
        simp only [if_true]
        exact .sema fun a ha => by
          by_cases e : a = i
          · subst e; rw [upd_same]
          · rw [upd_ne (toD D) _ e]; exact hoth a ha e
    · obtain ⟨g', w', es, hgo, ⟨rfl, rfl⟩, hg'⟩ := hstep w (RW.refl w)
      exact idle (by omega) hgo (.d4 hC hg') rfl
  | quit h =>
    cases m with
    | zero => rw [h.1] at hrun; cases hrun
    | succ qq =>
      rcases h with ⟨hf, _⟩ | ⟨_, g', es, hmute, hstep, hq⟩
      · rw [hf] at hrun; cases hrun
      · have hbk : ∀ e ∈ es, Bk Y.Wg e := fun e he => bk_of_mute (hmute e he)
        have hno : ∀ jx e, es[jx]? = some e → (MemAct.ofEvent e).touch? = none ∨ 0 < deafBehind dd (es.extract 0 jx) := fun jx e he => .inl (by
          rcases bk_of_mute (Wg := Y.Wg) (hmute e (Array.mem_of_getElem? he)) with h1 | h1 | ⟨a, wr, rfl, _⟩
          · rw [ofEvent_loc_mark h1]; rfl
          · rw [ofEvent_loc_mark h1]; rfl
          · have := hmute _ (Array.mem_of_getElem? he); simp [Event.mute] at this)
        refine book (s' := 1) (by omega) (by omega) (hstep w) (.refl Y.Wg w) hwg hbk hno (.quit hq) rfl (fun tag' et _ => Go.ConcN.Mode.retag ?_ (isW3_blk et)) (.inr ⟨rfl, rfl⟩)
        have := hmode.same (i := i) qq (deafBehind dd es)
        rwa [hsD (by omega)] at this
end
end Go.Id
/- The workers' phase: a step of the starter's. -/
namespace Go.Id
open Go.Conc
open Go.ConcN (ShN RelBy WgLive PayAt Has RW DWs AtD4 AtD3 AtD2 AtD1 AtK1 AtR0 sumTo upd sumTo_upd upd_ne upd_same CTag WD Vc cnt Vc_upd Vc_le others_uncounted isW3 OpenSt pend isOpen isFin AllQuit)
open Go.ConcR (KK wgBlock WgAt stA smA rd wr mk Payload Aside2 DC0 again_blocked Bk bk_of_mute ofEvent_loc_mark ofEvent_cell ofEvent_mk)
set_option linter.unusedVariables false
set_option linter.unusedSectionVars false
/-- What the starter lists in the library. -/
def Bk0 (Wg : Nat) (e : Event) : Prop := Bk Wg e ∨ e = mk (.read (smA Wg)) ∨ e = mk (.write (smA Wg)) ∨ e = mk (.acquire (stA Wg))
theorem ok0_book {Shun : Loc → Prop} {Wg B c j : Nat} {F : Fam} {fn : FuncId} {pos : String} {es : Array Event} (hB : Wg < B) (h : ∀ e ∈ es, Bk0 Wg e) : ∀ op ∈ MemOp.ofEvents 0 fn pos es, Ok0' Shun Wg F c j B op := by
  intro op hop
  rw [ofEvents_eq] at hop
  obtain ⟨e, he, rfl⟩ := Array.mem_map.1 hop
  rcases h e he with (h1 | h1 | ⟨a, wr, rfl, ha⟩) | rfl | rfl | rfl
  · simp only [ofEvent_loc_mark h1]; exact ⟨rfl, trivial, by simp, fun x hx => by simp only at hx; cases hx⟩
  · simp only [ofEvent_loc_mark h1]; exact ⟨rfl, trivial, by simp, fun x hx => by simp only at hx; cases hx⟩
  · refine ⟨rfl, by simp only [ofEvent_cell]; show a.block < B; omega, by simp [ofEvent_cell], fun x hx => ?_⟩
    simp only [ofEvent_cell, MemAct.touch?, Option.some.injEq] at hx
    subst hx
    exact .inl ⟨⟨a, rfl, ha⟩, by simp⟩
  · refine ⟨rfl, hB, by simp [ofEvent_mk], fun x hx => ?_⟩
    simp [ofEvent_mk, MemAct.touch?] at hx
    subst hx
    exact .inl ⟨⟨_, rfl, rfl⟩, by simp⟩
  · refine ⟨rfl, hB, by simp [ofEvent_mk], fun x hx => ?_⟩
    simp [ofEvent_mk, MemAct.touch?] at hx
    subst hx
    exact .inl ⟨⟨_, rfl, rfl⟩, by simp⟩
  · refine ⟨rfl, hB, by simp [ofEvent_mk], fun x hx => ?_⟩
    simp [ofEvent_mk, MemAct.touch?] at hx
variable [Payload]
section
variable {Y : Ph} {Fin : (Nat → Prop) → Goroutine → World → Prop} {Shun : Loc → Prop} {c j : Nat} {gs : Array Goroutine} {w w' : World} {sl : Option (Nat × Nat)} {t u : Trace} {D : Nat → WX} {tag : Tg} {ρ0 : Rk} {f0 d0 : Nat} {O0 : Nat → Prop} {q : Nat → Nat} {a : Goroutine} {st sm : Int}
theorem Com.ok0_priv (h : Com Y Shun c j gs w t D d0 O0 q) {B : Nat} (hB : w.heap.size ≤ B) {fn : FuncId} {pos : String} {es : Array Event} (he : ∀ e ∈ es, EvOk Y.fro O0 e) : ∀ op ∈ MemOp.ofEvents 0 fn pos es, Ok0' Shun Y.Wg (famOf Y c j D) c j B op := by
  intro op hop
  rw [ofEvents_eq] at hop
  obtain ⟨e, hm, rfl⟩ := Array.mem_map.1 hop
  have he := he e hm
  obtain ⟨loc, wr, sy⟩ := e
  have low : ∀ b, (Y.fro b ∨ O0 b) → b < B := fun b hb => hb.elim (fun z => Nat.lt_of_lt_of_le (h.fro b z).1 hB) (fun z => Nat.lt_of_lt_of_le (h.own0 b z).1 hB)
  have key : ∀ (l : Loc) (b : Nat), blockOf l = some b → (Y.fro b ∨ O0 b) → ¬ Shun l ∧ ∀ k, c ≤ k → k < c + j → ¬ (famOf Y c j D).own k b := fun l b hl hb => hb.elim (fun z => ⟨h.fam.fsh l b z hl, fun k _ _ ho => h.fam.ofr k b ho z⟩) (fun z => ⟨fun hs => h.shO l b hs hl z, fun k k1 k2 ho => (h.own0 b z).2.2.2 (k - c) (by omega) ho.2.2⟩)
  unfold EvOk at he
  cases loc with
  | cell a =>
    simp only at he
    obtain ⟨rfl, he⟩ := he
    have hin : Y.fro a.block ∨ O0 a.block := by cases wr <;> simp at he <;> first | exact he | exact .inr he
    refine ⟨rfl, low _ hin, by simp [MemAct.ofEvent], fun x hx => .inr ?_⟩
    simp [MemAct.ofEvent, MemAct.touch?] at hx
    subst hx
    refine ⟨(key _ a.block rfl hin).1, fun b hb => ?_⟩
    simp [blockOf] at hb
    subst hb
    refine ⟨(key (.cell a) _ rfl hin).2, fun hw hf => ?_⟩
    subst hw
    simp at he
    exact (h.own0 _ he).2.1 hf
  | obj r =>
    simp only at he
    obtain ⟨rfl, he⟩ := he
    refine ⟨rfl, by have := low _ (.inr he); simpa [MemAct.ofEvent, MemAct.low, Loc.low] using this, by simp [MemAct.ofEvent], fun x hx => .inr ?_⟩
    simp [MemAct.ofEvent, MemAct.touch?] at hx
    subst hx
    refine ⟨(key (.obj r) r rfl (.inr he)).1, fun b hb => ?_⟩
    simp [blockOf] at hb
    subst hb
    exact ⟨(key (.obj r) _ rfl (.inr he)).2, fun _ hf => (h.own0 _ he).2.1 hf⟩
  | mark m =>
    cases m <;> simp only at he
    exact ⟨rfl, trivial, by simp [MemAct.ofEvent], fun x hx => by simp [MemAct.ofEvent, MemAct.touch?] at hx⟩
  | output => exact he.elim
  | goroutines => exact he.elim
/-- WHATEVER STEP OF THE STARTER's THAT IS NEITHER A go STATEMENT NOR THE LAST. -/
theorem callerStep (K : PhOk Y) (ha : gs[0]? = some a) (hcom : Com Y Shun c j gs w t D d0 O0 q) {a' : Goroutine} {es : Array Event} {tag' : Tg} {ρ' : Rk} {f' : Nat} {O0' : Nat → Prop} {st' sm' : Int}
    (hgo : stepG Y.P true a w = .go a' w' es) {T : Nat → Prop} (hT : Turns T w w') (hTo : ∀ b, T b → O0 b ∨ b = Y.Wg) (hn : ∀ b, O0' b → O0 b ∨ (w.heap.size ≤ b ∧ b < w'.heap.size))
    (hok : ∀ op ∈ MemOp.ofEvents 0 a.frame.fn a.frame.place es, Ok0' Shun Y.Wg (famOf Y c j D) c j w'.heap.size op) (hcs' : CS Y Fin tag' j ρ' f' (deafBehind d0 es) O0' a' w') (hwg : WgAt Y.ty Y.Wg w' st' sm') (hmode : Go.ConcN.Mode j (toD D) (toC tag') st' sm')
    (hlt : phi Y.n (Vc j (toD D)) tag' < phi Y.n (Vc j (toD D)) tag ∨ (phi Y.n (Vc j (toD D)) tag' = phi Y.n (Vc j (toD D)) tag ∧ (Rk.lt ρ' ρ0 ∨ (ρ' = ρ0 ∧ f' < f0)))) :
    ∃ m₁ ops μ', runT Y.P (crowd gs w sl) 0 = (.next m₁, ops) ∧ Lt3 μ' (mu Y c j D tag ρ0 f0 q) ∧ Inv Y Fin Shun c μ' m₁ (t ++ ops) := by
  have hrun := runT_crowd_go (P := Y.P) (sl := sl) (i := 0) ha (by simpa using hgo)
  have hlt0 : 0 < gs.size := (Array.getElem?_eq_some_iff.1 ha).1
  refine ⟨_, _, mu Y c j D tag' ρ' f' q, hrun, ?_, _, w', sl, j, D, tag', ρ', f', deafBehind d0 es, O0', q, a', st', sm', rfl, by simp [hlt0], hcs', hcom.step0 K (by simp) (fun k k1 => by rw [Array.getElem?_setIfInBounds_ne (by omega)]; exact hcom.same a a' w' k1) hT hTo (fun _ => ⟨_, _, hwg⟩) hn hok (by rw [Deaf_own, hcom.deaf0]), hwg, hmode, rfl⟩
  unfold mu
  rcases hlt with h | ⟨h1, h | ⟨h2, h3⟩⟩
  · exact Lt3.one (by omega)
  · exact Lt3.two (by omega) (Rk.pair_left h _)
  · exact Lt3.three (by omega) (by rw [h2]) (by omega)
/-- What is left when the phase has ended. -/
def Ended (Y : Ph) (Fin : (Nat → Prop) → Goroutine → World → Prop) (Shun : Loc → Prop) (c : Nat) (m : Machine) (t : Trace) : Prop :=
  ∃ gs w sl D O0 q a, m = crowd gs w sl ∧ gs[0]? = some a ∧ Fin O0 a w ∧ Com Y Shun c Y.n gs w t D 0 O0 q ∧ (∀ i, i < Y.n → (D i).stage = 1) ∧ Past Shun w.heap.size t
theorem GTr.ix {ι : Type} {f : ι → Rk} {i : ι} : Rk.lt (f i) (.mk ι f) := ⟨i, rfl⟩
theorem mode_open {j : Nat} {D : Nat → WD} {tg tg' : CTag} {st sm : Int} (h : Go.ConcN.Mode j D tg st sm) (h1 : isOpen tg) (h2 : isOpen tg') (hp : pend tg' = pend tg) (hw : ∀ vs, tg' ≠ .w2 vs) : Go.ConcN.Mode j D tg' st sm := by
  cases h with
  | opn a1 a2 a3 => rw [← hp]; exact .opn h2 a2 (fun vs e => absurd e (hw vs))
  | reg a1 _ _ => cases tg <;> first | exact a1.elim | exact h1.elim
  | last L a1 _ _ _ => cases tg <;> first | exact a1.elim | exact h1.elim
  | sema _ => exact h1.elim
  | fin a1 _ => cases tg <;> first | exact a1.elim | exact h1.elim
theorem mode_st {j : Nat} {D : Nat → WD} {tg : CTag} {st sm : Int} (h : Go.ConcN.Mode j D tg st sm) (h1 : isOpen tg) : st = ((Vc j D + pend tg : Nat) : Int) * KK ∧ sm = 0 ∧ OpenSt j D ∧ (∀ vs, tg = .w2 vs → Vc j D ≤ vs ∧ 1 ≤ vs) := by
  cases h with
  | opn a1 a2 a3 => exact ⟨rfl, rfl, a2, a3⟩
  | reg a1 _ _ => cases tg <;> first | exact a1.elim | exact h1.elim
  | last L a1 _ _ _ => cases tg <;> first | exact a1.elim | exact h1.elim
  | sema _ => exact h1.elim
  | fin a1 _ => cases tg <;> first | exact a1.elim | exact h1.elim
theorem mode_fin {j : Nat} {D : Nat → WD} {tg : CTag} {st sm : Int} (h : Go.ConcN.Mode j D tg st sm) (h1 : isFin tg) : st = 0 ∧ sm = 0 ∧ AllQuit j D := by
  cases h with
  | opn a1 _ _ => cases tg <;> first | exact a1.elim | exact h1.elim
  | reg a1 _ _ => cases tg <;> first | exact a1.elim | exact h1.elim
  | last L a1 _ _ _ => cases tg <;> first | exact a1.elim | exact h1.elim
  | sema _ => exact h1.elim
  | fin a1 a2 => exact ⟨rfl, rfl, a2⟩
theorem quit_of {j : Nat} {D : Nat → WD} (h : OpenSt j D) (hv : Vc j D = 0) : AllQuit j D := fun i hi => by
  have := Go.ConcN.le_sumTo (f := fun x => cnt (D x)) hi
  simp only [Vc] at hv
  have h1 := h i hi
  simp only [cnt] at this hv
  rw [hv] at this
  split at this <;> omega
theorem hmode_blk {j : Nat} {D : Nat → WD} {st : Int} (h : Go.ConcN.Mode j D .w3 st 0) : Go.ConcN.Mode j D .blk st 0 := by
  cases h with
  | opn a1 _ _ => exact a1.elim
  | reg a1 a2 a3 => exact .reg trivial a2 a3
  | last L a1 a2 a3 a4 => exact .last L trivial a2 a3 a4
  | fin a1 _ => exact a1.elim
set_option maxHeartbeats 1600000 in
theorem stepCaller (K : PhOk Y) (hn : Y.n < 2147483648) (ha : gs[0]? = some a) (hcs : CS Y Fin tag j ρ0 f0 d0 O0 a w) (hcom : Com Y Shun c j gs w t D d0 O0 q) (hwg : WgAt Y.ty Y.Wg w st sm) (hmode : Go.ConcN.Mode j (toD D) (toC tag) st sm) (hrun : a.status = .running) :
    (∃ m₁ ops, runT Y.P (crowd gs w sl) 0 = (.next m₁, ops) ∧ Ended Y Fin Shun c m₁ (t ++ ops)) ∨ ∃ m₁ ops μ', runT Y.P (crowd gs w sl) 0 = (.next m₁, ops) ∧ Lt3 μ' (mu Y c j D tag ρ0 f0 q) ∧ Inv Y Fin Shun c μ' m₁ (t ++ ops) := by
  have hVj := Vc_le j (toD D)
  have hbnd := hcs.bound
  have hlive : WgLive Y.ty Y.Wg w := ⟨_, _, hwg⟩
  -- a step of the library's: at most the group's block turns
  have book : ∀ {a' : Goroutine} {w' : World} {es : Array Event} {tag' : Tg} {ρ' : Rk} {f' : Nat} {st' sm' : Int}, stepG Y.P true a w = .go a' w' es → Aside Y.Wg w w' → WgAt Y.ty Y.Wg w' st' sm' → (∀ e ∈ es, Bk0 Y.Wg e) → CS Y Fin tag' j ρ' f' (deafBehind d0 es) O0 a' w' →
      Go.ConcN.Mode j (toD D) (toC tag') st' sm' → (phi Y.n (Vc j (toD D)) tag' < phi Y.n (Vc j (toD D)) tag ∨ (phi Y.n (Vc j (toD D)) tag' = phi Y.n (Vc j (toD D)) tag ∧ (Rk.lt ρ' ρ0 ∨ (ρ' = ρ0 ∧ f' < f0)))) →
      ∃ m₁ ops μ', runT Y.P (crowd gs w sl) 0 = (.next m₁, ops) ∧ Lt3 μ' (mu Y c j D tag ρ0 f0 q) ∧ Inv Y Fin Shun c μ' m₁ (t ++ ops) :=
    fun hgo hAs hwg' hbk hcs' hmode' hlt => callerStep K ha hcom hgo (Turns.of_aside hAs) (fun b hb => .inr hb) (fun b hb => .inl hb) (ok0_book (Nat.lt_of_lt_of_le hcom.wgl.1 (Turns.of_aside hAs).size) hbk) hcs' hwg' hmode' hlt
  have idle : ∀ {a' : Goroutine} {f' : Nat}, stepG Y.P true a w = .go a' w #[] → CS Y Fin tag j ρ0 f' d0 O0 a' w → f' < f0 →
      ∃ m₁ ops μ', runT Y.P (crowd gs w sl) 0 = (.next m₁, ops) ∧ Lt3 μ' (mu Y c j D tag ρ0 f0 q) ∧ Inv Y Fin Shun c μ' m₁ (t ++ ops) :=
    fun hgo hcs' hlt => book hgo (.refl Y.Wg w) hwg (by simp) (by simpa [deafBehind] using hcs') hmode (.inr ⟨rfl, .inr ⟨rfl, hlt⟩⟩)
  have tree : ∀ {a' : Goroutine} {w' : World} {es : Array Event} {ρ' : Rk}, stepG Y.P true a w = .go a' w' es → Guar Y.fro O0 w w' es → CS Y Fin tag j ρ' 0 d0 (grow O0 w w') a' w' → Rk.lt ρ' ρ0 →
      ∃ m₁ ops μ', runT Y.P (crowd gs w sl) 0 = (.next m₁, ops) ∧ Lt3 μ' (mu Y c j D tag ρ0 f0 q) ∧ Inv Y Fin Shun c μ' m₁ (t ++ ops) :=
    fun hgo hG hcs' hlt => callerStep K ha hcom hgo (Turns.of_guar hG) (fun b hb => .inl hb) (fun b hb => hb) (hcom.ok0_priv hG.size hG.evs) (by rw [deaf_priv hG.evs]; exact hcs') (at_of (Turns.of_guar hG) (fun ho => hcom.shO _ Y.Wg (hcom.shW _ sh_wg) rfl ho) hwg) hmode (.inr ⟨rfl, .inl hlt⟩)
  have bmk : ∀ {m : Mark}, (m = .disable ∨ m = .enable) → ∀ e ∈ #[mk m], Bk0 Y.Wg e := by
    intro m hm e he
    simp at he; subst he
    rcases hm with rfl | rfl
    · exact .inl (.inl rfl)
    · exact .inl (.inr (.inl rfl))
  have openM : ∀ {tg : Tg}, isOpen (toC tag) → isOpen (toC tg) → pend (toC tg) = pend (toC tag) → (∀ vs, toC tg ≠ .w2 vs) → Go.ConcN.Mode j (toD D) (toC tg) st sm := fun h1 h2 h3 h4 => mode_open hmode h1 h2 h3 h4
  have bk2 : ∀ e ∈ #[rd (stA Y.Wg), wr (stA Y.Wg)], Bk0 Y.Wg e := by intro e he; simp at he; rcases he with rfl | rfl <;> exact .inl (Go.ConcN.bk_cell _ _ rfl)
  have bk1 : ∀ e ∈ #[rd (stA Y.Wg)], Bk0 Y.Wg e := by intro e he; simp at he; subst he; exact .inl (Go.ConcN.bk_cell _ _ rfl)
  have atW1 : ∀ {Anch : Goroutine → World → Prop}, AncOk Y Fin O0 Anch → AtW1 Y O0 Fin Anch a w → isOpen (toC tag) → pend (toC tag) = 0 → j = Y.n → 8 * Vc j (toD D) + 5 ≤ phi Y.n (Vc j (toD D)) tag → d0 = 1 →
      ∃ m₁ ops μ', runT Y.P (crowd gs w sl) 0 = (.next m₁, ops) ∧ Lt3 μ' (mu Y c j D tag ρ0 f0 q) ∧ Inv Y Fin Shun c μ' m₁ (t ++ ops) := by
    intro Anch hA hW ho hp hj hph hd
    subst hj
    subst hd
    obtain ⟨_, hall⟩ := hW
    obtain ⟨e1, rfl, e3, e4⟩ := mode_st hmode ho
    rw [hp, Nat.add_zero] at e1
    subst e1
    obtain ⟨g', hgo, hz, hnz⟩ := hall _ (by omega) hwg
    by_cases hv : Vc Y.n (toD D) = 0
    · obtain ⟨m₂, hk⟩ := hz hv
      refine book (tag' := .ke) hgo (.refl Y.Wg w) hwg bk1 (by simpa [deafBehind, rd] using CS.ke (ρ := ρ0) hk) ?_ (.inl (Nat.lt_of_lt_of_le (show (3 : Nat) < 8 * Vc Y.n (toD D) + 5 by omega) hph))
      rw [hv]
      have := Go.ConcN.Mode.fin (tag := .ke) trivial (quit_of e3 hv)
      show Go.ConcN.Mode Y.n (toD D) .ke _ 0
      simpa using this
    · obtain ⟨m₂, hk⟩ := hnz hv
      refine book (tag' := .w2 (Vc Y.n (toD D))) hgo (.refl Y.Wg w) hwg bk1 (by simpa [deafBehind, rd] using CS.w2 (ρ := ρ0) hA hk) ?_ (.inl (Nat.lt_of_lt_of_le (show 8 * Vc Y.n (toD D) + 4 < 8 * Vc Y.n (toD D) + 5 by omega) hph))
      have := Go.ConcN.Mode.opn (tag := .w2 (Vc Y.n (toD D))) trivial e3 (fun vs e => by cases e; omega)
      simpa [pend, toC] using this
  cases hcs with
  | spt h1 h =>
    rename_i r
    cases ρ0 with
    | mk ι f =>
    rcases h with h | ⟨_, h⟩
    · obtain ⟨m, hm⟩ := h w (Rly.refl _ _ _) hlive
      rcases Goes.cases hm with hstop | ⟨m', rfl, hstep⟩
      · obtain ⟨_, g', hgo, m₂, hk⟩ := hstop w (RS.refl _ w)
        exact .inr (book (tag' := .sp r 4) hgo (.refl Y.Wg w) hwg (bmk (.inl rfl)) (by simpa [deafBehind, mk] using CS.sa1 (ρ := .mk ι f) h1 hk) (openM trivial trivial rfl (by simp [toC])) (.inl (by simp only [phi]; omega)))
      · obtain ⟨g', w', es, hgo, ⟨rfl, rfl⟩, hg'⟩ := hstep w (RS.refl _ w)
        exact .inr (book (tag' := .sp r 5) hgo (.refl Y.Wg w') hwg (by simp) (by simpa [deafBehind] using CS.skd (ρ := .mk ι f) h1 hg') (openM trivial trivial rfl (by simp [toC])) (.inl (by simp only [phi]; omega)))
    · obtain ⟨g', w', es, ix, hgo, hG, hg'⟩ := h w (Rly.refl _ _ _)
      exact .inr (tree hgo hG (.spt h1 hg') GTr.ix)
  | skd h1 h =>
    rename_i r
    rcases Goes.cases h with hstop | ⟨m', rfl, hstep⟩
    · obtain ⟨_, g', hgo, m₂, hk⟩ := hstop w (RS.refl _ w)
      exact .inr (book (tag' := .sp r 4) hgo (.refl Y.Wg w) hwg (bmk (.inl rfl)) (by simpa [deafBehind, mk] using CS.sa1 (ρ := ρ0) h1 hk) (openM trivial trivial rfl (by simp [toC])) (.inl (by simp only [phi]; omega)))
    · obtain ⟨g', w', es, hgo, ⟨rfl, rfl⟩, hg'⟩ := hstep w (RS.refl _ w)
      exact .inr (idle hgo (.skd h1 hg') (by omega))
  | sa1 h1 h =>
    rename_i r
    rcases Goes.cases h with hstop | ⟨m', rfl, hstep⟩
    · obtain ⟨_, hall⟩ := hstop w (RS.refl _ w)
      obtain ⟨e1, rfl, e3, _⟩ := mode_st hmode trivial
      have hp : pend (toC (.sp r 4)) = 0 := rfl
      rw [hp, Nat.add_zero] at e1
      subst e1
      obtain ⟨g', hgo, hz, hnz⟩ := hall _ (by omega) hwg
      have hst : WgAt Y.ty Y.Wg (w.setCell (stA Y.Wg) (.int .u64 ((Vc (Y.n - (r + 1)) (toD D) + 1) * KK))) ((Vc (Y.n - (r + 1)) (toD D) + 1) * KK) 0 := hwg.setSt _
      by_cases hv : Vc (Y.n - (r + 1)) (toD D) = 0
      · obtain ⟨m₂, hk⟩ := hz hv
        exact .inr (book (tag' := .sp r 3) hgo (aside_setCell w (stA Y.Wg) _) hst bk2 (by simpa [deafBehind, rd, wr] using CS.ssr (ρ := ρ0) h1 hk) (Go.ConcN.Mode.opn (tag := .sp r 3) trivial e3 (by simp)) (.inl (by simp only [phi]; omega)))
      · obtain ⟨m₂, hk⟩ := hnz hv
        exact .inr (book (tag' := .sp r 2) hgo (aside_setCell w (stA Y.Wg) _) hst bk2 (by simpa [deafBehind, rd, wr] using CS.ske (ρ := ρ0) h1 hk) (Go.ConcN.Mode.opn (tag := .sp r 2) trivial e3 (by simp)) (.inl (by simp only [phi]; omega)))
    · obtain ⟨g', w', es, hgo, ⟨rfl, rfl⟩, hg'⟩ := hstep w (RS.refl _ w)
      exact .inr (idle hgo (.sa1 h1 hg') (by omega))
  | ssr h1 h =>
    rename_i r
    rcases Goes.cases h with hstop | ⟨m', rfl, hstep⟩
    · obtain ⟨_, g', hgo, m₂, hk⟩ := hstop w (RS.refl _ w)
      exact .inr (book (tag' := .sp r 2) hgo (.refl Y.Wg w) hwg (by intro e he; simp at he; subst he; exact .inr (.inl rfl)) (by simpa [deafBehind, mk] using CS.ske (ρ := ρ0) h1 hk) (openM trivial trivial rfl (by simp [toC])) (.inl (by simp only [phi]; omega)))
    · obtain ⟨g', w', es, hgo, ⟨rfl, rfl⟩, hg'⟩ := hstep w (RS.refl _ w)
      exact .inr (idle hgo (.ssr h1 hg') (by omega))
  | ske h1 h =>
    rename_i r
    rcases Goes.cases h with hstop | ⟨m', rfl, hstep⟩
    · obtain ⟨_, g', hgo, ρ', hk⟩ := hstop w (RS.refl _ w)
      exact .inr (book (tag' := .sp r 1) hgo (.refl Y.Wg w) hwg (bmk (.inr rfl)) (by simpa [deafBehind, mk] using CS.sgo h1 hk) (openM trivial trivial rfl (by simp [toC])) (.inl (by simp only [phi]; omega)))
    · obtain ⟨g', w', es, hgo, ⟨rfl, rfl⟩, hg'⟩ := hstep w (RS.refl _ w)
      exact .inr (idle hgo (.ske h1 hg') (by omega))
  | sgo h1 h =>
    rename_i r
    cases ρ0 with
    | mk ι f =>
    rcases h with h | ⟨_, h⟩
    · obtain ⟨_, g', child, n, hsp, hcr, hnO, ⟨ρw, hw⟩, ρn, hnx⟩ := h w (Rly.refl _ _ _)
      have hrunT := runT_crowd_spawn (P := Y.P) (sl := sl) (i := 0) ha (by simpa using hsp)
      have hlt0 : 0 < gs.size := (Array.getElem?_eq_some_iff.1 ha).1
      generalize hj : Y.n - (r + 1) = j at *
      have hcom' := hcom.spawn (a' := g') (child := child) (n := n) (x := ⟨8, ρw, 0, 0, n⟩) hnO ⟨rfl, rfl, rfl, rfl⟩ hw rfl (e1 := { g := 0, fn := a.frame.fn, pos := a.frame.place, act := .go (c + j) }) (e2 := { g := c + j, fn := child.frame.fn, pos := a.frame.place, act := .start }) ⟨rfl, rfl⟩ ⟨rfl, rfl⟩
      obtain ⟨e1, rfl, e3, _⟩ := mode_st hmode trivial
      have hV : Vc (j + 1) (toD (updX D j ⟨8, ρw, 0, 0, n⟩)) = Vc j (toD D) + 1 := by
        simp only [Vc, sumTo]
        rw [Go.ConcN.sumTo_congr (g := fun i => cnt (toD D i)) (fun k hk => by simp only [toD]; rw [updX_ne D _ (by omega)])]
        simp [toD, updX_same, toW, cnt]
      have hS : Ssum (j + 1) (updX D j ⟨8, ρw, 0, 0, n⟩) = Ssum j D + 8 := by
        simp only [Ssum, sumTo]
        rw [Go.ConcN.sumTo_congr (g := fun i => (D i).stage) (fun k hk => by rw [updX_ne D _ (by omega)])]
        simp [updX_same]
      have hop : OpenSt (j + 1) (toD (updX D j ⟨8, ρw, 0, 0, n⟩)) := fun k hk => by
        by_cases e : k = j
        · subst e; simp [toD, updX_same, toW]
        · simp only [toD]; rw [updX_ne D _ e]; exact e3 k (by omega)
      have hmd : ∀ tg, isOpen (toC tg) → pend (toC tg) = 0 → (∀ vs, toC tg ≠ .w2 vs) → Go.ConcN.Mode (j + 1) (toD (updX D j ⟨8, ρw, 0, 0, n⟩)) (toC tg) st 0 := fun tg h1 h2 h3 => by
        have := Go.ConcN.Mode.opn (j := j + 1) (D := toD (updX D j ⟨8, ρw, 0, 0, n⟩)) (tag := toC tg) h1 hop (fun vs e => absurd e (h3 vs))
        rw [h2, Nat.add_zero, hV] at this
        rw [e1]; exact this
      have hops : ((MemOp.ofEvents 0 a.frame.fn a.frame.place #[]).push { g := 0, fn := a.frame.fn, pos := a.frame.place, act := .go gs.size } |>.push { g := gs.size, fn := child.frame.fn, pos := a.frame.place, act := .start }) = #[({ g := 0, fn := a.frame.fn, pos := a.frame.place, act := .go (c + j) } : MemOp), { g := c + j, fn := child.frame.fn, pos := a.frame.place, act := .start }] := by
        rw [hcom.size]; simp [ofEvents_eq]
      rw [hops] at hrunT
      cases r with
      | zero =>
        refine .inr ⟨_, _, mu Y c (j + 1) (updX D j ⟨8, ρw, 0, 0, n⟩) .kd0 ρn 0 q, hrunT, Lt3.one ?_, _, w, sl, j + 1, updX D j ⟨8, ρw, 0, 0, n⟩, .kd0, ρn, 0, 0, _, q, g', st, 0, rfl, by rw [Array.getElem?_push, if_neg (by simp; omega)]; simp [hlt0], ?_, hcom', hwg, hmd .kd0 trivial rfl (by simp [toC]), rfl⟩
        · rw [hS]; simp only [phi]; omega
        · rw [show j + 1 = Y.n by omega]
          exact .kd0 hnx
      | succ r =>
        refine .inr ⟨_, _, mu Y c (j + 1) (updX D j ⟨8, ρw, 0, 0, n⟩) (.sp r 6) ρn 0 q, hrunT, Lt3.one ?_, _, w, sl, j + 1, updX D j ⟨8, ρw, 0, 0, n⟩, .sp r 6, ρn, 0, 0, _, q, g', st, 0, rfl, by rw [Array.getElem?_push, if_neg (by simp; omega)]; simp [hlt0], ?_, hcom', hwg, hmd (.sp r 6) trivial rfl (by simp [toC]), rfl⟩
        · rw [hS]; simp only [phi]; omega
        · have := CS.spt (Fin := Fin) (show r < Y.n by omega) hnx
          rw [show Y.n - (r + 1) = j + 1 by omega] at this
          exact this
    · obtain ⟨g', w', es, ix, hgo, hG, hg'⟩ := h w (Rly.refl _ _ _)
      exact .inr (tree hgo hG (.sgo h1 hg') GTr.ix)
  | kd0 h =>
    cases ρ0 with
    | mk ι f =>
    rcases h with h | ⟨_, h⟩
    · obtain ⟨A, hA1, hA2, m, hm⟩ := h w (Rly.refl _ _ _) hlive
      rcases Goes.cases hm with hstop | ⟨m', rfl, hstep⟩
      · obtain ⟨_, g', hgo, m₂, hk⟩ := hstop w (RS.refl _ w)
        exact .inr (book (tag' := .anch) hgo (.refl Y.Wg w) hwg (bmk (.inl rfl)) (by simpa [deafBehind, mk] using CS.anch (ρ := .mk ι f) ⟨hA1, hA2⟩ hk) (openM trivial trivial rfl (by simp [toC])) (.inl (by simp only [phi]; omega)))
      · obtain ⟨g', w', es, hgo, ⟨rfl, rfl⟩, hg'⟩ := hstep w (RS.refl _ w)
        exact .inr (book (tag' := .kd) hgo (.refl Y.Wg w') hwg (by simp) (by simpa [deafBehind] using CS.kd (ρ := .mk ι f) ⟨hA1, hA2⟩ hg') (openM trivial trivial rfl (by simp [toC])) (.inl (by simp only [phi]; omega)))
    · obtain ⟨g', w', es, ix, hgo, hG, hg'⟩ := h w (Rly.refl _ _ _)
      exact .inr (tree hgo hG (.kd0 hg') GTr.ix)
  | kd hA h =>
    rcases Goes.cases h with hstop | ⟨m', rfl, hstep⟩
    · obtain ⟨_, g', hgo, m₂, hk⟩ := hstop w (RS.refl _ w)
      exact .inr (book (tag' := .anch) hgo (.refl Y.Wg w) hwg (bmk (.inl rfl)) (by simpa [deafBehind, mk] using CS.anch (ρ := ρ0) hA hk) (openM trivial trivial rfl (by simp [toC])) (.inl (by simp only [phi]; omega)))
    · obtain ⟨g', w', es, hgo, ⟨rfl, rfl⟩, hg'⟩ := hstep w (RS.refl _ w)
      exact .inr (idle hgo (.kd hA hg') (by omega))
  | anch hA h =>
    rcases Goes.cases h with hstop | ⟨m', rfl, hstep⟩
    · obtain ⟨m, hm⟩ := hA.2 _ _ (hstop w (RS.refl _ w))
      rcases Goes.cases hm with hs1 | ⟨m', rfl, hstep⟩
      · exact .inr (atW1 hA (hs1 w (RS.refl _ w)) trivial (by rfl) (by rfl) (by simp only [phi]; omega) rfl)
      · obtain ⟨g', w', es, hgo, ⟨rfl, rfl⟩, hg'⟩ := hstep w (RS.refl _ w)
        exact .inr (book (tag' := .w1) hgo (.refl Y.Wg w') hwg (by simp) (by simpa [deafBehind] using CS.w1 (ρ := ρ0) hA hg') (openM trivial trivial rfl (by simp [toC])) (.inl (by simp only [phi]; omega)))
    · obtain ⟨g', w', es, hgo, ⟨rfl, rfl⟩, hg'⟩ := hstep w (RS.refl _ w)
      exact .inr (idle hgo (.anch hA hg') (by omega))
  | w1 hA h =>
    rcases Goes.cases h with hstop | ⟨m', rfl, hstep⟩
    · exact .inr (atW1 hA (hstop w (RS.refl _ w)) trivial (by rfl) (by rfl) (by simp only [phi]; omega) rfl)
    · obtain ⟨g', w', es, hgo, ⟨rfl, rfl⟩, hg'⟩ := hstep w (RS.refl _ w)
      exact .inr (idle hgo (.w1 hA hg') (by omega))
  | w2 hA h =>
    rename_i vs A
    rcases Goes.cases h with hstop | ⟨m', rfl, hstep⟩
    · obtain ⟨_, hall⟩ := hstop w (RS.refl _ w)
      obtain ⟨e1, rfl, e3, e4⟩ := mode_st hmode trivial
      have hp : pend (toC (.w2 vs)) = 0 := rfl
      rw [hp, Nat.add_zero] at e1
      subst e1
      obtain ⟨h1, h2⟩ := e4 vs rfl
      obtain ⟨hz, hnz⟩ := hall _ (by omega) hwg
      by_cases hv : Vc Y.n (toD D) = vs
      · obtain ⟨g', hgo, m₂, hk⟩ := hz hv
        exact .inr (book (tag' := .sw) hgo (aside_setCell w (stA Y.Wg) _) (hwg.setSt _) bk2 (by simpa [deafBehind, rd, wr] using CS.sw (ρ := ρ0) hk) (Go.ConcN.Mode.reg (tag := .w3) trivial e3 (by omega)) (.inl (by simp only [phi]; omega)))
      · obtain ⟨g', hgo, m₂, hk⟩ := hnz hv
        exact .inr (book (tag' := .anch) hgo (.refl Y.Wg w) hwg bk1 (by simpa [deafBehind, rd] using CS.anch (ρ := ρ0) hA hk) (openM trivial trivial rfl (by simp [toC])) (.inl (by simp only [phi]; omega)))
    · obtain ⟨g', w', es, hgo, ⟨rfl, rfl⟩, hg'⟩ := hstep w (RS.refl _ w)
      exact .inr (idle hgo (.w2 hA hg') (by omega))
  | sw h =>
    rcases Goes.cases h with hstop | ⟨m', rfl, hstep⟩
    · obtain ⟨_, g', hgo, m₂, hk⟩ := hstop w (RS.refl _ w)
      exact .inr (book (tag' := .w3) hgo (.refl Y.Wg w) hwg (by intro e he; simp at he; subst he; exact .inr (.inr (.inl rfl))) (by simpa [deafBehind, mk] using CS.w3 (ρ := ρ0) hk) hmode (.inl (by simp only [phi]; omega)))
    · obtain ⟨g', w', es, hgo, ⟨rfl, rfl⟩, hg'⟩ := hstep w (RS.refl _ w)
      exact .inr (idle hgo (.sw hg') (by omega))
  | w3 h =>
    rcases Goes.cases h with hstop | ⟨m', rfl, hstep⟩
    · obtain ⟨_, hoff, hb, hs⟩ := hstop w (RS.refl _ w)
      have blocks : sm = 0 → ∃ m₁ ops μ', runT Y.P (crowd gs w sl) 0 = (.next m₁, ops) ∧ Lt3 μ' (mu Y c Y.n D .w3 ρ0 _ q) ∧ Inv Y Fin Shun c μ' m₁ (t ++ ops) := fun h0 => by
        subst h0
        exact book (tag' := .blk) (hb ⟨_, hwg⟩) (.refl Y.Wg w) hwg (by simp) (by simpa [deafBehind] using CS.blk (ρ := ρ0) hstop) (hmode_blk hmode) (.inr ⟨rfl, .inr ⟨rfl, by omega⟩⟩)
      cases hmode with
      | opn h1 _ _ => exact h1.elim
      | fin h1 _ => exact h1.elim
      | reg h1 h2 h3 => exact .inr (blocks rfl)
      | last L h1 h2 h3 h4 => exact .inr (blocks rfl)
      | sema h2 =>
        obtain ⟨g', hgo, m₂, hk⟩ := hs hwg
        exact .inr (book (tag' := .w4) hgo (aside_setCell w (smA Y.Wg) _) (hwg.setSm 0) (by
          intro e he
          simp [semEvents] at he
          rcases he with rfl | rfl | rfl | rfl
          · exact .inl (.inl rfl)
          · exact .inl (Go.ConcN.bk_cell _ _ rfl)
          · exact .inl (Go.ConcN.bk_cell _ _ rfl)
          · exact .inl (.inr (.inl rfl))) (by simpa [deafBehind, semEvents] using CS.w4 (ρ := ρ0) hk) (Go.ConcN.Mode.fin (tag := .w4) trivial h2) (.inl (by simp only [phi]; omega)))
    · obtain ⟨g', w', es, hgo, ⟨rfl, rfl⟩, hg'⟩ := hstep w (RS.refl _ w)
      exact .inr (idle hgo (.w3 hg') (by omega))
  | blk h => simp at hrun
  | w4 h =>
    rcases Goes.cases h with hstop | ⟨m', rfl, hstep⟩
    · obtain ⟨_, hx⟩ := hstop w (RS.refl _ w)
      obtain ⟨rfl, rfl, hq⟩ := mode_fin hmode trivial
      obtain ⟨g', hgo, m₂, hk⟩ := hx hwg
      exact .inr (book (tag' := .ke) hgo (.refl Y.Wg w) hwg bk1 (by simpa [deafBehind, rd] using CS.ke (ρ := ρ0) hk) (Go.ConcN.Mode.fin (tag := .ke) trivial hq) (.inl (by simp only [phi]; omega)))
    · obtain ⟨g', w', es, hgo, ⟨rfl, rfl⟩, hg'⟩ := hstep w (RS.refl _ w)
      exact .inr (idle hgo (.w4 hg') (by omega))
  | ke h =>
    rcases Goes.cases h with hstop | ⟨m', rfl, hstep⟩
    · obtain ⟨_, g', hgo, m₂, hk⟩ := hstop w (RS.refl _ w)
      obtain ⟨rfl, rfl, hq⟩ := mode_fin hmode trivial
      exact .inr (book (tag' := .acq) hgo (.refl Y.Wg w) hwg (bmk (.inr rfl)) (by simpa [deafBehind, mk] using CS.acq (ρ := ρ0) hk) (Go.ConcN.Mode.fin (tag := .acq) trivial hq) (.inl (by simp only [phi]; omega)))
    · obtain ⟨g', w', es, hgo, ⟨rfl, rfl⟩, hg'⟩ := hstep w (RS.refl _ w)
      exact .inr (idle hgo (.ke hg') (by omega))
  | acq h =>
    rcases Goes.cases h with hstop | ⟨m', rfl, hstep⟩
    · obtain ⟨_, g', hgo, hk⟩ := hstop w (RS.refl _ w)
      obtain ⟨rfl, rfl, hq⟩ := mode_fin hmode trivial
      have hst1 : ∀ i, i < Y.n → (D i).stage = 1 := fun i hi => by
        have := hq i hi
        rw [getw] at this
        split at this <;> omega
      have hrunT := runT_crowd_go (P := Y.P) (sl := sl) (i := 0) ha (by simpa using hgo)
      have hlt0 : 0 < gs.size := (Array.getElem?_eq_some_iff.1 ha).1
      have e1 : MemOp.ofEvents 0 a.frame.fn a.frame.place #[mk (.acquire (stA Y.Wg))] = #[{ g := 0, fn := a.frame.fn, pos := a.frame.place, act := .mark (.acquire (stA Y.Wg)) }] := by rw [ofEvents_eq]; simp [ofEvent_mk]
      have hcom' := hcom.step0 (gs' := (gs.map (woken Y.P a g' w)).setIfInBounds 0 g') (u := MemOp.ofEvents 0 a.frame.fn a.frame.place #[mk (.acquire (stA Y.Wg))]) (d' := 0) (O0' := O0) K (by simp) (fun k k1 => by rw [Array.getElem?_setIfInBounds_ne (by omega)]; exact hcom.same a g' w k1) (Turns.refl (fun _ => False) w) (fun b hb => hb.elim) id (fun b hb => .inl hb) (ok0_book hcom.wgl.1 (by intro e he; simp at he; subst he; exact .inr (.inr (.inr rfl)))) (by rw [Deaf_own, hcom.deaf0]; simp [deafBehind, mk])
      have hy : (t ++ #[({ g := 0, fn := a.frame.fn, pos := a.frame.place, act := .mark (.acquire (stA Y.Wg)) } : MemOp)])[t.size]? = some { g := 0, fn := a.frame.fn, pos := a.frame.place, act := .mark (.acquire (stA Y.Wg)) } := by simp
      refine .inl ⟨_, _, hrunT, _, w, sl, D, O0, q, g', rfl, by simp [hlt0], hk, hcom', hst1, ?_⟩
      refine hcom'.pt.end hcom'.deaf0 (q := t.size) ?_ ?_ ?_ (fun i hi => ?_)
      · rw [e1, act?_of hy]
      · rw [e1]; simp [Trace.g?]
      · rw [e1]; exact ⟨0, by simp [Trace.g?], by rw [deaf_old (Nat.le_refl _)]; exact hcom.deaf0⟩
      · obtain ⟨r, hr⟩ := hcom.rel i hi (by rw [hst1 i hi]; omega)
        refine ⟨r, relBy_other hr (g := 0) (fun op hop => ?_) (by have := hcom.c0; omega), lt_of_act? hr.act⟩
        rw [e1] at hop; simp at hop; rw [hop]
    · obtain ⟨g', w', es, hgo, ⟨rfl, rfl⟩, hg'⟩ := hstep w (RS.refl _ w)
      exact .inr (idle hgo (.acq hg') (by omega))
end
end Go.Id
/- The workers' phase: the machine runs through it, on whatever tape. -/
namespace Go.Id
open Go.Conc
open Go.ConcN (ShN RelBy WgLive sumTo upd sumTo_upd upd_ne upd_same CTag WD Vc cnt exists_counted)
open Go.ConcR (KK WgAt stA smA rd wr mk Payload DC0 bk_of_mute ofEvent_loc_mark)
set_option linter.unusedVariables false
set_option linter.unusedSectionVars false
variable [Payload]
section
variable {Y : Ph} {Fin : (Nat → Prop) → Goroutine → World → Prop} {Shun : Loc → Prop} {c j : Nat} {gs : Array Goroutine} {w w' : World} {sl : Option (Nat × Nat)} {t u : Trace} {D : Nat → WX} {tag : Tg} {ρ0 : Rk} {f0 d0 : Nat} {O0 : Nat → Prop} {q : Nat → Nat} {a : Goroutine} {st sm : Int}
theorem statuses (ha : gs[0]? = some a) (hcs : CS Y Fin tag j ρ0 f0 d0 O0 a w) (hcom : Com Y Shun c j gs w t D d0 O0 q) (hl : WgLive Y.ty Y.Wg w) : ∀ (k : Nat) (g : Goroutine), gs[k]? = some g → (g.status = .running ∨ g.status = .finished) ∨ (k = 0 ∧ g.status = .blocked ∧ g.offers = none) := by
  intro k g hk
  rcases Nat.eq_zero_or_pos k with rfl | hp
  · rw [ha] at hk; cases hk
    rcases hcs.status hl with h | ⟨h, rfl⟩
    · exact .inl (.inl h)
    · refine .inr ⟨rfl, h, ?_⟩
      cases hcs with
      | blk hb => exact (hb w (RS.refl _ w)).2.1
  · rcases Nat.lt_or_ge k c with hlt | hge
    · exact .inl (hcom.old k g hp hlt hk).status
    · have hlt : k < c + j := by have := (Array.getElem?_eq_some_iff.1 hk).1; rw [hcom.size] at this; exact this
      obtain ⟨y, hy, hs⟩ := hcom.wk (k - c) (by omega)
      rw [show c + (k - c) = k by omega, hk] at hy
      cases hy
      exact .inl hs.status
theorem all_awake (ha : gs[0]? = some a) (hcs : CS Y Fin tag j ρ0 f0 d0 O0 a w) (hcom : Com Y Shun c j gs w t D d0 O0 q) (hl : WgLive Y.ty Y.Wg w) : ∀ g ∈ gs, awake g := by
  intro g hg tm
  obtain ⟨i, hi⟩ := Array.mem_iff_getElem?.1 hg
  rcases statuses ha hcs hcom hl i g hi with (h | h) | ⟨_, h, _⟩ <;> rw [h] <;> simp
theorem no_offers (ha : gs[0]? = some a) (hcs : CS Y Fin tag j ρ0 f0 d0 O0 a w) (hcom : Com Y Shun c j gs w t D d0 O0 q) (hl : WgLive Y.ty Y.Wg w) (r : Nat) : ∀ (k : Nat) (g : Goroutine), gs[k]? = some g → offersAt g r false = [] := by
  intro k g hk
  rcases statuses ha hcs hcom hl k g hk with (h | h) | ⟨_, h, ho⟩
  · exact offersAt_of_not_blocked (by rw [h]; simp) _ _
  · exact offersAt_of_not_blocked (by rw [h]; simp) _ _
  · unfold offersAt; simp [ho]
theorem someone_runs (ha : gs[0]? = some a) (hcs : CS Y Fin tag j ρ0 f0 d0 O0 a w) (hcom : Com Y Shun c j gs w t D d0 O0 q) (hl : WgLive Y.ty Y.Wg w) (hmode : Go.ConcN.Mode j (toD D) (toC tag) st sm) : ∃ (i : Nat) (g : Goroutine), gs[i]? = some g ∧ g.status = .running := by
  rcases hcs.status hl with hs | ⟨_, rfl⟩
  · exact ⟨0, a, ha, hs⟩
  · have wk : ∀ i, i < j → (toD D i).stage ≠ 1 → ∃ (i : Nat) (g : Goroutine), gs[i]? = some g ∧ g.status = .running := fun i hi h => by
      obtain ⟨g, hg, hs⟩ := hcom.wk i hi
      exact ⟨c + i, g, hg, hs.running (fun e => h (by rw [getw, if_neg (by omega), e]))⟩
    cases hmode with
    | opn h1 _ _ => exact h1.elim
    | reg _ _ h3 =>
      obtain ⟨i, hi, h5⟩ := exists_counted h3
      exact wk i hi (by omega)
    | last L _ h2 h3 _ => exact wk L h2 (by omega)
    | fin h1 _ => exact h1.elim
/-- A leaver's step. -/
theorem stepLeaver (ha : gs[0]? = some a) (hcs : CS Y Fin tag j ρ0 f0 d0 O0 a w) (hcom : Com Y Shun c j gs w t D d0 O0 q) (hwg : WgAt Y.ty Y.Wg w st sm) (hmode : Go.ConcN.Mode j (toD D) (toC tag) st sm)
    {i : Nat} (hi : 0 < i) (hic : i < c) {g : Goroutine} (hg : gs[i]? = some g) (hrun : g.status = .running) :
    ∃ m₁ ops μ', runT Y.P (crowd gs w sl) i = (.next m₁, ops) ∧ Lt3 μ' (mu Y c j D tag ρ0 f0 q) ∧ Inv Y Fin Shun c μ' m₁ (t ++ ops) := by
  have hq := hcom.old i g hi hic hg
  have hlt : i < gs.size := (Array.getElem?_eq_some_iff.1 hg).1
  cases hqi : q i with
  | zero => rw [hqi] at hq; rw [hq.1] at hrun; cases hrun
  | succ k =>
    rw [hqi] at hq
    rcases hq with ⟨hf, _⟩ | ⟨_, g', es, hm, hstp, hq'⟩
    · rw [hf] at hrun; cases hrun
    have hrunT := runT_crowd_go (P := Y.P) (sl := sl) (i := i) hg (by rw [show (i == 0) = false by simp; omega]; exact hstp w)
    obtain ⟨tag', f', hcs', hf', htag, hwk⟩ := hcs.wokenBy ⟨_, _, hwg⟩ (RS.refl O0 w) g g'
    have hcom' := hcom.stepL (k := k) (gs' := (gs.map (woken Y.P g g' w)).setIfInBounds i g') (u := MemOp.ofEvents i g.frame.fn g.frame.place es) hi hic (g' := g') (by simp) (by simp [hlt]) (fun k k1 k2 => by rw [Array.getElem?_setIfInBounds_ne (Ne.symm k2)]; exact hcom.same g g' w k1) (by rw [Deaf_own]; exact hq') (fun op hop => by
      rw [ofEvents_eq] at hop
      obtain ⟨e, he, rfl⟩ := Array.mem_map.1 hop
      refine ⟨rfl, touch_mute (hm e he), low_mute (hm e he) _, fun e' => ?_⟩
      have := hm e he
      obtain ⟨loc, wr, sy⟩ := e
      cases loc <;> simp_all [Event.mute, MemAct.ofEvent])
    refine ⟨_, _, mu Y c j D tag' ρ0 f' (upd q i k), hrunT, ?_, _, w, sl, j, D, tag', ρ0, f', d0, O0, upd q i k, woken Y.P g g' w a, st, sm, rfl, by rw [Array.getElem?_setIfInBounds_ne (by omega), Array.getElem?_map, ha]; rfl, hcs', hcom', hwg, hmode.retag (isW3_blk htag), rfl⟩
    unfold mu
    rw [phi_retag Y.n _ htag]
    have := sumTo_upd q k id hic
    simp only [id] at this
    have e2 : sumTo c (upd q i k) + q i = sumTo c q + k := this
    exact Lt3.three rfl rfl (by omega)
theorem phase_step (K : PhOk Y) (hn : Y.n < 2147483648) : ∀ μ m t, Inv Y Fin Shun c μ m t →
    (∃ m' ops, stepT Y.P m = (.next m', ops) ∧ Ended Y Fin Shun c m' (t ++ ops)) ∨ (∃ m' ops μ', stepT Y.P m = (.next m', ops) ∧ Lt3 μ' μ ∧ Inv Y Fin Shun c μ' m' (t ++ ops)) := by
  rintro μ m t ⟨gs, w, sl, j, D, tag, ρ0, f0, d0, O0, q, a, st, sm, rfl, ha, hcs, hcom, hwg, hmode, rfl⟩
  have hl : WgLive Y.ty Y.Wg w := ⟨_, _, hwg⟩
  obtain ⟨i, g, d, sl', hg, hrun, hstep⟩ := crowd_pick (P := Y.P) (w := w) (sl := sl) (all_awake ha hcs hcom hl) (someone_runs ha hcs hcom hl hmode)
  rw [hstep]
  have hcs' := hcs.rely (show RS Y O0 w (w.at d) from ⟨rly_at w d, id⟩)
  have hcom' := hcom.at K d
  have hwg' : WgAt Y.ty Y.Wg (w.at d) st sm := hwg
  rcases Nat.eq_zero_or_pos i with rfl | hp
  · rw [ha] at hg; cases hg
    exact stepCaller K hn ha hcs' hcom' hwg' hmode hrun
  · rcases Nat.lt_or_ge i c with hlt | hge
    · exact .inr (stepLeaver ha hcs' hcom' hwg' hmode hp hlt hg hrun)
    · have hlt : i < c + j := by have := (Array.getElem?_eq_some_iff.1 hg).1; rw [hcom.size] at this; exact this
      have := stepWorker (sl := sl') K hn ha hcs' hcom' hwg' hmode (no_offers ha hcs' hcom' ⟨_, _, hwg'⟩ Y.Ch) (i := i - c) (by omega) (g := g) (by rw [show c + (i - c) = i by omega]; exact hg) hrun
      rw [show c + (i - c) = i by omega] at this
      exact .inr this
/-- THE WHOLE PHASE, on whatever tape. -/
theorem phase_runs (K : PhOk Y) (hn : Y.n < 2147483648) : ∀ μ m t, Inv Y Fin Shun c μ m t → ∃ N m' t', runNT Y.P N m t = (.next m', t') ∧ Ended Y Fin Shun c m' t' := by
  intro μ
  induction μ using Lt3.wf.induction with
  | _ μ ih =>
    intro m t h
    rcases phase_step K hn μ m t h with ⟨m', ops, h1, h2⟩ | ⟨m', ops, μ', h1, h2, h3⟩
    · exact ⟨1, m', t ++ ops, by simp only [runNT, h1], h2⟩
    · obtain ⟨N, m'', t'', h4, h5⟩ := ih μ' h2 m' (t ++ ops) h3
      exact ⟨N + 1, m'', t'', by simp only [runNT, h1]; exact h4, h5⟩
end
end Go.Id
/- A whole run: from the entry of goroutine 0's function to the end. -/
namespace Go.Id
open Go.Conc
set_option linter.unusedVariables false
section
variable {P : Program} {fn : Func} {f : FuncId} {lo : Nat} {Post : Value → Hp → Prop} {h : Hp}
theorem stepG_done {b : Frame} {a : Act} {w w' : World} {todo : List Item} {v : Value} (hn : b.kind = .normal) (hd : a.defers = []) (hf : P.funcs[b.fn]? = some fn) (hi : P.inits.idxOf? b.fn = none) (hr : (results fn a.tmps).run P w = .ok v w') :
    stepG P true (G { b.at a todo with mode := .returning } []) w = .ended (.done v) w' (seen P b.fn ((results fn a.tmps).events P w #[])) := by
  simp [G, stepG, unwind, doReturn, Frame.at, hn, hd, hf, hr, hi, GStep.after]
def lowOf (W : World) : Nat → Prop := fun b => b < W.heap.size
/-- What is known at the run's end. -/
def Told (N0 : Nat → Prop) (lo : Nat) (Post : Value → Hp → Prop) (W : World) (s : Sim) (vr : Value) (w' : World) : Prop :=
  ∃ v h' s' O', Post v h' ∧ s.le s' ∧ SimOk N0 lo s' O' h' w' ∧ VR s' v vr ∧ Kept N0 (fun _ => False) W w'
theorem Told.at {N0 : Nat → Prop} {W : World} {s : Sim} {vr : Value} {w w₁ : World} (H : Told N0 lo Post W s vr w) (r : AtRel w w₁) : Told N0 lo Post W s vr w₁ := by
  obtain ⟨d, rfl⟩ := r
  obtain ⟨v, h', s', O', h1, h2, h3, h4, h5⟩ := H
  exact ⟨v, h', s', O', h1, h2, h3.rely (rly_at w d), h4, h5.trans ⟨fun _ h => h.elim, fun _ _ => rfl, Nat.le_refl _, rfl, rfl⟩⟩
theorem main_run {c : Code} {args : List Value} (hf : P.funcs[f]? = some fn) (hb : fn.body = some c) (hlen : args.length ≤ fn.ntmps) (hi : P.inits.idxOf? f = none) {W : World} {argsr : Array Value} {s : Sim} (S : SimOk (lowOf W) lo s (fun _ => False) h W) (ha : VRs s args argsr.toList)
    (H : R (mainCtx P (lowOf W)) lo f fn (.ret Post) [.code c] (argsTm 0 args) [] h) :
    ∃ M last o w' t', runNT P (M + 1) (solo (G (Frame.enter P f argsr .normal) []) W) #[] = (.ended o w', t') ∧ runN P M (solo (G (Frame.enter P f argsr .normal) []) W) = .next last ∧ step P last = .ended o w' ∧ Good P (fun vr w' => Told (lowOf W) lo Post W s vr w') last o w' t' := by
  have hsz : args.length = argsr.size := by simpa using ha.1
  let Stop : (Nat → Prop) → Goroutine → World → Prop := fun O g w => ∃ (a' : Act) (todo : List Item) (vr : Value), g = G { (base f).at a' todo with mode := .returning } [] ∧ a'.defers = [] ∧ Reads P (lowOf W) O fn a'.tmps w vr ∧ Told (lowOf W) lo Post W s vr w
  have hJ : JM P (lowOf W) Stop (fun _ => False) (G (Frame.enter P f argsr .normal) []) W := by
    rw [enter_at argsr hf hb]
    refine H s (fun _ => False) (fun _ => False) (fun _ => 0) W (base f) { tmps := argsr ++ Array.replicate (fn.ntmps - argsr.size) undef, defers := [] } [] Stop rfl (by simp [base]) rfl (by simp; omega) ⟨S, ⟨fun j cs hj => by simp at hj, fun j j' hj => by simp at hj⟩, fun b hb => hb.elim⟩ ?_ ?_
    · intro j x hx
      obtain ⟨v, rfl, _, h3⟩ := look_args _ _ _ _ hx
      have hj : j < argsr.size := by rw [← hsz]; exact (List.getElem?_eq_some_iff.1 (by simpa using h3)).1
      exact ⟨argsr[j], by simp [Array.getElem?_append, hj], ha.2 j v _ (by simpa using h3) (by simp [hj])⟩
    · intro v vr h' s' O' w' h1 h2 h3 h4 h5 h6 h7 a' todo hd hrd
      refine JM.stop fun w₁ r => ⟨a', todo, vr, rfl, hd, fun w'' hw => hrd w'' (r.trans hw), v, h', s', O', h1, h2, h3.rely r, h4, ?_⟩
      exact h7.trans ⟨fun _ h => h.elim, fun b hb => r.2.1 b (h3.base _ hb) (.inl hb), r.1, r.2.2.1, r.2.2.2⟩
  obtain ⟨N, gs', sl', t', q', Shun', g', w', O', hr, F, a', todo, vr, rfl, hd, hrd, htold⟩ := hJ W (Rly.refl _ _ _) #[G (Frame.enter P f argsr .normal) []] none #[] (fun _ => 0) (fun _ => False)
    ⟨by simp, leavers_one P _, past_nil.mono (Nat.zero_le _), fun _ _ h => h.elim, fun _ _ h => h.elim, fun _ h => h.elim, fun _ h => h, fun op hop => by simp at hop⟩
  have hend : Goes P true AtRel (fun _ _ _ => False) (AtEnd P Shun' w'.heap.size fun vr w' => Told (lowOf W) lo Post W s vr w') 0 (G { (base f).at a' todo with mode := .returning } []) w' := by
    rintro w₁ ⟨d, rfl⟩
    obtain ⟨x, w₂, g1, ⟨rfl, rfl⟩, g3⟩ := hrd (w'.at d) (rly_at w' d)
    exact ⟨rfl, x, _, stepG_done (b := base f) rfl hd hf hi g1, fun e he => evL_of F.shun (fun b hb => hb.elim (F.base _) (F.now b)) (g3 #[] (fun e he => by simp at he) e (mem_seen he)), htold.at ⟨d, rfl⟩⟩
  obtain ⟨K, last, o, w₃, t₃, k1, k2, k3, k4⟩ := beside_ends (D := fun _ _ _ => False) (fun _ _ _ h => h.elim) (sl := sl') F.zero F.lv F.past hend
  rw [solo_eq_crowd]
  refine ⟨N + K, last, o, w₃, t₃, ?_, ?_, k3, k4⟩
  · rw [Nat.add_assoc, runNT_add, hr]; exact k1
  · have hrn : runN P N (crowd #[G (Frame.enter P f argsr .normal) []] W none) = .next (crowd gs' w' sl') := by
      rw [← runNT_fst P N _ #[], hr]
    rw [runN_add, hrn]; exact k2
end
end Go.Id
/- From a frame into the phase and out of it. -/
namespace Go.Id
open Go.Conc
open Go.ConcN (ShN RelBy WgLive sumTo upd sumTo_upd upd_ne upd_same CTag WD Vc cnt)
open Go.ConcR (KK WgAt stA smA rd wr mk Payload DC0)
set_option linter.unusedVariables false
set_option linter.unusedSectionVars false
section
variable {P : Program} {N0 : Nat → Prop} {O : Nat → Prop} {g : Goroutine} {w : World} {gs : Array Goroutine} {sl : Option (Nat × Nat)} {t : Trace} {q : Nat → Nat} {Shun : Loc → Prop}
/-- The leavers slip till goroutine 0 is picked. -/
theorem Frm.pick (hrun : g.status = .running) : ∀ (M : Nat) (gs : Array Goroutine) (w : World) (sl : Option (Nat × Nat)) (t : Trace) (q : Nat → Nat), sumTo gs.size q ≤ M → Frm P N0 O g w gs t q Shun →
    ∃ N gs' d sl' sl'' t' q', runNT P N (crowd gs w sl) t = (.next (crowd gs' (w.at d) sl'), t') ∧ Frm P N0 O g (w.at d) gs' t' q' Shun ∧ ∃ d', stepT P (crowd gs' (w.at d) sl') = runT P (crowd gs' ((w.at d).at d') sl'') 0 := by
  intro M
  induction M with
  | zero | succ M ih =>
    intro gs w sl t q hM F
    have haw : ∀ x ∈ gs, awake x := by
      intro x hx
      obtain ⟨i, hi, rfl⟩ := Array.mem_iff_getElem.1 hx
      rcases Nat.eq_zero_or_pos i with rfl | hpos
      · have : gs[0] = g := by simpa [Array.getElem?_eq_getElem hi] using F.zero
        rw [this]; exact awake_of (.inl hrun)
      · exact awake_of ((F.lv.old i _ hpos (Array.getElem?_eq_getElem hi)).status.elim .inl fun x => .inr (.inr x))
    obtain ⟨i, x, d, sl', hi, hg, hst⟩ := crowd_pick (P := P) (w := w) (sl := sl) haw ⟨0, g, F.zero, hrun⟩
    rcases Nat.eq_zero_or_pos i with rfl | hpos
    · exact ⟨0, gs, w.drawn, sl, sl', t, q, rfl, F, d, hst⟩
    · have hq := F.lv.old i x hpos hi
      have hi0 : (i == 0) = false := by simp; omega
      have hlt : i < gs.size := (Array.getElem?_eq_some_iff.1 hi).1
      cases hqi : q i with
      | zero => rw [hqi] at hq; rw [hq.1] at hg; cases hg
      | succ k =>
        rw [hqi] at hq
        rcases hq with ⟨hf, _⟩ | ⟨_, g', es, hm, hstp, hq'⟩
        · rw [hf] at hg; cases hg
        have hsum : sumTo gs.size (upd q i k) + (k + 1) = sumTo gs.size q + k := by
          have := sumTo_upd q k id hlt
          simpa [hqi] using this
        first
        | (exfalso; omega)
        | (have hrunT := runT_crowd_go (P := P) (sl := sl') (i := i) hi (by rw [hi0]; exact hstp (w.at d))
           have hsz : ((gs.map (woken P x g' (w.at d))).setIfInBounds i g').size = gs.size := by simp
           obtain ⟨N, gs', d₂, sl₂, sl₃, t', q', hr, F', d₃, h3⟩ := ih ((gs.map (woken P x g' (w.at d))).setIfInBounds i g') (w.at d) sl' (t ++ MemOp.ofEvents i x.frame.fn x.frame.place es) (upd q i k) (by rw [hsz]; omega)
             ⟨by
               have hne : i ≠ 0 := by omega
               rw [Array.getElem?_setIfInBounds_ne hne, Array.getElem?_map, F.zero]
               simp [woken_run hrun],
             ⟨fun j y hj hy => by
               by_cases hji : i = j
               · subst hji
                 rw [Array.getElem?_setIfInBounds_self_of_lt (by simpa using hlt)] at hy
                 obtain rfl := Option.some.inj hy
                 rw [upd_same, Deaf_own]
                 exact hq'
               · rw [Array.getElem?_setIfInBounds_ne hji, Array.getElem?_map] at hy
                 obtain ⟨z, hz, rfl⟩ := Option.map_eq_some_iff.1 hy
                 have hqj := F.lv.old j z hj hz
                 rw [woken_quitsD hqj, upd_ne q k (Ne.symm hji), Deaf_other t hji _ (fun op hop => ofEvents_g hop)]
                 exact hqj, fun j hj => by
               rw [Deaf_other t (g' := i) (by simp at hj; omega) _ (fun op hop => ofEvents_g hop)]
               exact F.lv.above j (by simpa using hj)⟩,
             F.past.mute (by omega) hm, F.shun, F.old, F.now, F.base,
             fun op hop => by rw [hsz]; exact (Array.mem_append.1 hop).elim (F.num op) fun x => by rw [ofEvents_g x]; exact hlt⟩
           exact ⟨N + 1, gs', d₂, sl₂, sl₃, t', q', by simp only [runNT, hst, hrunT]; exact hr, F', d₃, h3⟩)
end
end Go.Id
/- The whole phase, from the making of the group on, as a step of goroutine 0's company. -/
namespace Go.Id
open Go.Conc
open Go.ConcN (ShN RelBy WgLive sumTo upd sumTo_upd upd_ne upd_same CTag WD Vc cnt)
open Go.ConcR (KK WgAt stA smA rd wr mk Payload DC0)
set_option linter.unusedVariables false
set_option linter.unusedSectionVars false
variable [Payload]
/-- What is known when the phase has ended. -/
structure PhEnd (Y : Ph) (D : Nat → WX) (O0 : Nat → Prop) (w : World) : Prop where
  chan : CO Y Y.n D w
  all : ∀ i, i < Y.n → (D i).stage = 1
  own0 : ∀ b, O0 b → b < w.heap.size ∧ ¬ Y.fro b ∧ b ≠ Y.Ch ∧ b ≠ Y.Wg ∧ ∀ i, i < Y.n → ¬ (D i).own b
  own : ∀ i, i < Y.n → ∀ b, (D i).own b → b < w.heap.size ∧ ¬ Y.fro b ∧ b ≠ Y.Ch ∧ b ≠ Y.Wg ∧ ∀ k, k < Y.n → (D k).own b → k = i
  wg : Y.Wg < w.heap.size
/-- The group is made at address Y.Wg; the starter's script follows. -/
structure PhBegin (Pr : Program) (N0 O : Nat → Prop) (Stop : (Nat → Prop) → Goroutine → World → Prop) (r : Nat) (Y : Ph) (w₁ w₂ : World) (g' : Goroutine) : Prop where
  P : Y.P = Pr
  wg : Y.Wg = w₁.heap.size
  n : Y.n = r + 1
  lt : Y.n < 2147483648
  ok : PhOk Y
  fro : ∀ b, Y.fro b ↔ (N0 b ∨ O b) ∧ b ≠ Y.Ch
  ch : O Y.Ch
  chan : ∃ s, w₂.heap[Y.Ch]? = some (.chan Y.n #[] false s 0 false)
  grp : WgAt Y.ty Y.Wg w₂ 0 0
  run : ∃ (Fin : (Nat → Prop) → Goroutine → World → Prop) (ρ : Rk), GTr Y.P true Y.fro (AtAdd Y 0 (Starts Y Fin r)) ρ (fun _ => False) g' w₂ ∧
    ∀ D O0 a w', Fin O0 a w' → PhEnd Y D O0 w' → JM Pr N0 Stop (fun b => O b ∨ O0 b ∨ ∃ i, i < Y.n ∧ (D i).own b) a w'
set_option maxHeartbeats 1000000 in
theorem phase_JM {P : Program} {N0 O : Nat → Prop} {Stop : (Nat → Prop) → Goroutine → World → Prop} {g : Goroutine} {w : World} {r : Nat} (hrun : g.status = .running)
    (h : ∀ w₁, Rly N0 O w w₁ → ∃ g' w₂ es Y, stepG P true g w₁ = .go g' w₂ es ∧ Guar N0 O w₁ w₂ es ∧ w₁.heap.size < w₂.heap.size ∧ PhBegin P N0 O Stop r Y w₁ w₂ g') : JM P N0 Stop O g w := by
  intro w₁ hr gs sl t q S F
  obtain ⟨N, gs₁, d, sl₁, sl₂, t₁, q₁, hN, F₁, d', hst⟩ := Frm.pick hrun _ gs w₁ sl t q (Nat.le_refl _) F
  have hr₁ := (hr.trans (rly_at w₁ d)).trans (rly_at (w₁.at d) d')
  generalize hwx : (w₁.at d).at d' = wx at *
  have F₂ : Frm P N0 O g wx gs₁ t₁ q₁ S := by rw [← hwx]; exact ⟨F₁.zero, F₁.lv, F₁.past, F₁.shun, F₁.old, F₁.now, F₁.base, F₁.num⟩
  obtain ⟨g', w₂, es, Y, hgo, hG, hsz, B⟩ := h wx hr₁
  obtain ⟨Fin, ρ, htr, hcont⟩ := B.run
  obtain ⟨hYP, hwg, hn, hlt, hK, hfro, hch, ⟨sn, hchan⟩, hgrp, _⟩ := B
  subst hYP
  have hpos : 0 < gs₁.size := (Array.getElem?_eq_some_iff.1 F₂.zero).1
  have hrunT := runT_crowd_go (P := Y.P) (sl := sl₂) (i := 0) F₂.zero (show stepG Y.P (0 == 0) g wx = _ from hgo)
  have hlow : ∀ b, (N0 b ∨ O b) → b < Y.Wg := fun b hb => by rw [hwg]; exact hb.elim (F₂.base b) (F₂.now b)
  have hpast : Past S Y.Wg (t₁ ++ MemOp.ofEvents 0 g.frame.fn g.frame.place es) := by
    rw [hwg]
    exact F₂.past.own fun e he => evL_of F₂.shun (fun b hb => by have := hlow b hb; omega) (hG.evs e he)
  have hcl : Y.Ch < Y.Wg := hlow _ (.inr hch)
  have hnum : ∀ op ∈ t₁ ++ MemOp.ofEvents 0 g.frame.fn g.frame.place es, op.g < gs₁.size := fun op hop => (Array.mem_append.1 hop).elim (F₂.num op) fun x => by rw [ofEvents_g x]; exact hpos
  let D0 : Nat → WX := fun _ => ⟨0, .mk Empty (fun x => x.elim), 0, 0, fun _ => False⟩
  have hsW : ∀ l b, ShN Y.Wg l → blockOf l = some b → b = Y.Wg := by
    rintro l b ⟨ad, rfl, hb⟩ h2
    simp [blockOf] at h2
    omega
  have hfb : ∀ b, Y.fro b → b < Y.Wg := fun b hb => hlow b ((hfro b).1 hb).1
  have hcom : Com Y (fun l => S l ∨ ShN Y.Wg l) gs₁.size 0 ((gs₁.map (woken Y.P g g' w₂)).setIfInBounds 0 g') w₂ (t₁ ++ MemOp.ofEvents 0 g.frame.fn g.frame.place es) D0 0 (fun _ => False) q₁ := by
    refine ⟨hpos, by simp, fun i x k1 k2 hk => ?_, fun i hi => by omega, PT.begin hpast (by omega) (fun op hop => hnum op hop) (fun k b hb => by have := hb.1; have := hb.2.1; omega), ⟨fun k k' b h1 _ => by have := h1.1; have := h1.2.1; omega, fun k b h1 => by have := h1.1; have := h1.2.1; omega, fun k l b h1 => by have := h1.1; have := h1.2.1; omega, fun l b hb hl hs => ?_, fun k b h1 => by have := h1.1; have := h1.2.1; omega⟩, fun l hl => .inr hl, fun l b _ _ hf => hf, fun l b hs hl => ?_, fun b hf => hf.elim, fun i hi => by omega, fun b hb => ⟨by have := hfb b hb; omega, ((hfro b).1 hb).2⟩, ⟨by omega, by omega⟩, hpast.hears, fun i hi => by omega, fun i hi => by omega, ⟨#[], sn, [], hchan, rfl, by simp, fun i => by simp, fun p i v hp => by simp at hp⟩⟩
    · rw [Array.getElem?_setIfInBounds_ne (by omega), Array.getElem?_map] at hk
      obtain ⟨z, hz, rfl⟩ := Option.map_eq_some_iff.1 hk
      have hq := F₂.lv.old i z k1 hz
      rw [woken_quitsD hq, Deaf_other t₁ (g' := 0) (by omega) _ (fun op hop => ofEvents_g hop)]
      exact hq
    · rcases hs with hs | hs
      · exact F₂.shun l b hs hl ((hfro b).1 hb).1
      · have := hsW l b hs hl; have := hfb b hb; omega
    · rcases hs with hs | hs
      · have := F₂.old l b hs hl; omega
      · have := hsW l b hs hl; omega
  have hInv : Inv Y Fin (fun l => S l ∨ ShN Y.Wg l) gs₁.size (mu Y gs₁.size 0 D0 (.sp r 6) ρ 0 q₁) (crowd ((gs₁.map (woken Y.P g g' w₂)).setIfInBounds 0 g') w₂ sl₂) (t₁ ++ MemOp.ofEvents 0 g.frame.fn g.frame.place es) := by
    refine ⟨_, w₂, sl₂, 0, D0, .sp r 6, ρ, 0, 0, fun _ => False, q₁, g', 0, 0, rfl, by simp [hpos], ?_, hcom, hgrp, ?_, rfl⟩
    · have e : Y.n - (r + 1) = 0 := by omega
      have := CS.spt (Y := Y) (Fin := Fin) (r := r) (by omega) (by rw [e]; exact htr)
      rw [e] at this
      exact this
    · have := Go.ConcN.Mode.opn (j := 0) (D := toD D0) (tag := .sp r 6) trivial (fun i hi => by omega) (fun vs e => by cases e)
      show Go.ConcN.Mode 0 (toD D0) (.sp r 6) 0 0
      simpa [Vc, sumTo, Go.ConcN.pend] using this
  obtain ⟨N₂, m', t', hN₂, gs₃, w₃, sl₃, D, O0, q₃, a, rfl, ha, hFin, hcom₃, hst1, hpast₃⟩ := phase_runs hK hlt _ _ _ hInv
  have hend : PhEnd Y D O0 w₃ := by
    refine ⟨hcom₃.chan, hst1, fun b hb => ?_, fun i hi b hb => ⟨hcom₃.own_low hi hb, hcom₃.own_fro hi hb, hcom₃.ownW i hi b hb, fun e => hcom₃.ownWg hi (e ▸ hb), fun k hk hk' => hcom₃.own_one hk hi hk' hb⟩, hcom₃.wgl.1⟩
    obtain ⟨a1, a2, a3, a4⟩ := hcom₃.own0 b hb
    exact ⟨a1, a2, a3, fun e => hcom₃.shO _ b (hcom₃.shW _ sh_wg) (by rw [e]; rfl) hb, a4⟩
  have hJ := hcont D O0 a w₃ hFin hend
  have F₃ : Frm Y.P N0 (fun b => O b ∨ O0 b ∨ ∃ i, i < Y.n ∧ (D i).own b) a w₃ gs₃ t' (fun i => if i < gs₁.size then q₃ i else (D (i - gs₁.size)).fuel) (fun l => S l ∨ ShN Y.Wg l) := by
    refine ⟨ha, ⟨fun i x k1 hk => ?_, fun k hk => ?_⟩, hpast₃, fun l b hs hl => ?_, hcom₃.shL, fun b hb => ?_, fun b hb => by have := hlow b (.inl hb); have := hcom₃.wgl.1; omega, fun op hop => by rw [hcom₃.size]; exact hcom₃.pt.gs op hop⟩
    · rcases Nat.lt_or_ge i gs₁.size with hlt | hge
      · simp only [if_pos hlt]; exact hcom₃.old i x k1 hlt hk
      · simp only [if_neg (Nat.not_lt.2 hge)]
        have hlt : i < gs₁.size + Y.n := by have := (Array.getElem?_eq_some_iff.1 hk).1; rw [hcom₃.size] at this; exact this
        obtain ⟨y, hy, hs⟩ := hcom₃.wk (i - gs₁.size) (by omega)
        rw [show gs₁.size + (i - gs₁.size) = i by omega, hk] at hy
        cases hy
        have hd := hcom₃.deafW (i - gs₁.size) (by omega)
        rw [show gs₁.size + (i - gs₁.size) = i by omega] at hd
        rw [hst1 _ (by omega)] at hs
        rw [hd]
        generalize hx : D (i - gs₁.size) = x0 at hs
        obtain ⟨s, ρ', m, dd, o⟩ := x0
        simp only at hs
        cases hs with
        | quit hq => exact hq
    · exact Go.ConcN.Deaf_absent fun i op hi e => by have := hcom₃.pt.gs op (Array.mem_of_getElem? hi); rw [hcom₃.size] at hk; omega
    · have key : ¬ (O0 b ∨ ∃ i, i < Y.n ∧ (D i).own b) := by
        rintro (ho | ⟨i, hi, ho⟩)
        · exact hcom₃.shO l b hs hl ho
        · exact hcom₃.fam.osh (gs₁.size + i) l b ⟨by omega, by omega, by rw [show gs₁.size + i - gs₁.size = i by omega]; exact ho⟩ hl hs
      rintro (hb | hb | hb)
      · rcases hs with hs | hs
        · exact F₂.shun l b hs hl (.inl hb)
        · have := hsW l b hs hl; have := hlow b (.inl hb); omega
      · rcases hs with hs | hs
        · exact F₂.shun l b hs hl (.inr hb)
        · have := hsW l b hs hl; have := hlow b (.inr hb); omega
      · exact key hb
    · rcases hb with hb | hb | ⟨i, hi, hb⟩
      · have := hlow b (.inr hb); have := hcom₃.wgl.1; omega
      · exact (hcom₃.own0 b hb).1
      · exact hcom₃.own_low hi hb
  obtain ⟨N₄, gs', sl', t'', q', Shun', g'', w', O', hr', F', hS⟩ := hJ w₃ (Rly.refl _ _ _) gs₃ sl₃ t' _ _ F₃
  refine ⟨N + (1 + (N₂ + N₄)), gs', sl', t'', q', Shun', g'', w', O', ?_, F', hS⟩
  rw [runNT_add, hN]
  simp only
  rw [runNT_add]
  have h1 : runNT Y.P 1 (crowd gs₁ (w₁.at d) sl₁) t₁ = (.next (crowd ((gs₁.map (woken Y.P g g' w₂)).setIfInBounds 0 g') w₂ sl₂), t₁ ++ MemOp.ofEvents 0 g.frame.fn g.frame.place es) := by
    simp only [runNT, hst, hrunT]
  rw [h1]
  simp only
  rw [runNT_add, hN₂]
  exact hr'
end Go.Id
/- A bounded walk that lists nothing and turns nothing, as a tree. -/
namespace Go.Id
open Go.Conc
open Go.ConcR (DC0)
set_option linter.unusedVariables false
theorem goes_tree {P : Program} {main : Bool} {N0 O : Nat → Prop} {Stop : (Nat → Prop) → Goroutine → World → Prop} : ∀ {m : Nat} {g : Goroutine} {w : World},
    Goes P main (Rly N0 O) DC0 (fun g w => ∃ ρ, GTr P main N0 Stop ρ O g w) m g w → ∃ ρ, GTr P main N0 Stop ρ O g w
  | 0, g, w, h => h w (Rly.refl _ _ _)
  | m + 1, g, w, h => by
    rcases h with h | ⟨hs, h⟩
    · exact h w (Rly.refl _ _ _)
    · refine JW.step hs fun w₁ r => ?_
      obtain ⟨g', w', es, hgo, ⟨rfl, rfl⟩, hg'⟩ := goes_elim (h w₁ r)
      refine ⟨g', w', #[], hgo, guar_idle _ _ _, ?_⟩
      rw [grow_self]
      exact goes_tree hg'
end Go.Id
/- The starter's walk through the group's Add(1), in company of workers that allocate. -/
namespace Go.Id
open Go.Conc Go.RowKit Go.Conc.Lib Go.ConcR.Gen
open Go.ConcN (WgLive)
open Go.ConcN.Gen
open Go.ConcR (KK WgAt stA smA rd wr mk Payload DC0)
set_option linter.unusedVariables false
set_option linter.unusedSectionVars false
variable [Payload] {L : WgLink}
theorem fr_rely {Y : Ph} {O : Nat → Prop} {F : World → Prop} (hF2 : ∀ w w', Rly Y.fro O w w' → F w → F w') {w w₁ : World} (h : F w ∧ WgLive Y.ty Y.Wg w) (r : RS Y O w w₁) : F w₁ ∧ WgLive Y.ty Y.Wg w₁ := ⟨hF2 _ _ r.1 h.1, r.2 h.2⟩
theorem fo_rely {N0 O : Nat → Prop} {F : World → Prop} (hF2 : ∀ w w', Rly N0 O w w' → F w → F w') {w w₁ : World} (h : F w) (r : Rly N0 O w w₁) : F w₁ := hF2 _ _ r h
theorem rly_set {N0 O : Nat → Prop} {w : World} {a : Addr} {v : Value} (h : ¬ N0 a.block ∧ ¬ O a.block) : Rly N0 O w (w.setCell a v) :=
  ⟨by simp [World.setCell], fun b _ hb => Below.heap_setCell w a v b (by rintro rfl; exact hb.elim h.1 h.2), by simp [World.setCell], by simp [World.setCell]⟩
section
variable {Y : Ph} {O : Nat → Prop} {F : World → Prop} {i : Nat} {Next : (Nat → Prop) → Goroutine → World → Prop}
  {b₀ : Frame} {a₀ : Act} {ops₀ : Array Oper} {i₀ : Nat} {rest₀ : List Nat} {k₀ : List Item} {cs : List Frame}
set_option maxRecDepth 100000 in
set_option maxHeartbeats 8000000 in
/-- Behind Add's entry. -/
theorem add_walk (H : WgLib Y.P L) (hty : Y.ty = L.tWg) (hW : ¬ Y.fro Y.Wg ∧ ¬ O Y.Wg) (hF2 : ∀ w w', Rly Y.fro O w w' → F w → F w')
    (hT : ∀ w, F w → ∃ ρ, GTr Y.P true Y.fro (AtGo Y i Next) ρ O (G (b₀.at (a₀.put ((ops₀[i₀]?).bind (·.dst)) (.tuple #[])) (.inRegion ops₀ rest₀ :: k₀)) cs) w) (w : World) (hF : F w) (hlv : WgLive Y.ty Y.Wg w) :
    Goes Y.P true (RS Y O) DC0 (AtKdS Y i Next O) 12 (G (Frame.enter Y.P L.add #[.pointer (some ⟨Y.Wg, 0, none⟩), .int .i64 1] .normal) (b₀.at a₀ (.inRegion ops₀ (i₀ :: rest₀) :: k₀) :: cs)) w := by
  replace hF := And.intro hF hlv
  clear hlv
  rcases Y with ⟨P, ty, Wg, Ch, fro, n, Res⟩
  dsimp only at H hty hW hF2 hT hF ⊢
  lib_facts
  rw [enter_at _ H.f_add rfl]
  walk_nrmf addFn
  u_c stepG_seq (fr_rely hF2) hF
  u_cond true (fr_rely hF2) hF
  u_c stepG_seq (fr_rely hF2) hF
  u_c stepG_seq (fr_rely hF2) hF
  u_reg (fr_rely hF2) hF
  u_op (fr_rely hF2) hF
  u_op (fr_rely hF2) hF
  u_c stepG_region_end (fr_rely hF2) hF
  u_cond false (fr_rely hF2) hF
  u_c stepG_skip (fr_rely hF2) hF
  u_c stepG_seq (fr_rely hF2) hF
  u_reg (fr_rely hF2) hF
  refine Goes.stop (fun w₁ h₁ => ?_)
  replace hF := fr_rely hF2 hF h₁
  clear h₁
  refine ⟨rfl, _, stepG_mark0 .disable (by simp) rfl rfl (by k_ne) rfl H.f_disable (x_disable_n L) (x_disable_b L) (x_disable_x L) (x_disable_f L), 40, ?_⟩
  walk_nrm
  u_c stepG_region_end (fr_rely hF2) hF
  u_reg (fr_rely hF2) hF
  u_defer (fr_rely hF2) hF
  u_c stepG_region_end (fr_rely hF2) hF
  u_c stepG_seq (fr_rely hF2) hF
  u_reg (fr_rely hF2) hF
  u_op (fr_rely hF2) hF
  u_c stepG_region_end (fr_rely hF2) hF
  u_c stepG_seq (fr_rely hF2) hF
  u_c stepG_seq (fr_rely hF2) hF
  u_reg (fr_rely hF2) hF
  u_bub (fr_rely hF2) hF
  u_c stepG_region_end (fr_rely hF2) hF
  u_cond false (fr_rely hF2) hF
  u_c stepG_skip (fr_rely hF2) hF
  u_c stepG_seq (fr_rely hF2) hF
  u_reg (fr_rely hF2) hF
  u_op (fr_rely hF2) hF
  u_op (fr_rely hF2) hF
  u_op (fr_rely hF2) hF
  u_op (fr_rely hF2) hF
  u_op (fr_rely hF2) hF
  u_op (fr_rely hF2) hF
  u_call H.f_uAdd (nm_uAdd L) uAddFn (fr_rely hF2) hF
  u_c stepG_seq (fr_rely hF2) hF
  u_reg (fr_rely hF2) hF
  u_op (fr_rely hF2) hF
  u_c stepG_region_end (fr_rely hF2) hF
  u_c stepG_seq (fr_rely hF2) hF
  u_reg (fr_rely hF2) hF
  u_op (fr_rely hF2) hF
  u_op (fr_rely hF2) hF
  u_op (fr_rely hF2) hF
  u_op (fr_rely hF2) hF
  refine Goes.stop (fun w₂ h₂ => ?_)
  replace hF := fr_rely hF2 hF h₂
  clear h₂
  refine ⟨rfl, fun v hv hw => ?_⟩
  have hc := hw.cellSt
  obtain ⟨V, hV⟩ : ∃ V : Int, V = (v : Int) + 1 := ⟨_, rfl⟩
  obtain ⟨S, hS⟩ : ∃ S : Int, S = V * KK := ⟨_, rfl⟩
  have e0 : IntKind.u64.wrap ((v : Int) * KK + 4294967296) = S := by rw [IntKind.wrap_u64, hS, hV]; simp only [KK]; omega
  rw [← hV, ← hS]
  refine ⟨_, (stepG_add_atomic rfl rfl (by k_ne) rfl H.f_addU64 (x_addU64_n L) (x_addU64_b L) (x_addU64_x L) .u64 (x_addU64_f L) rfl rfl hw.cellSt (hw.thaw 0)).trans (by rw [e0]; rfl), fun hz => ?_, fun hz => ?_⟩
  · -- the first
    have z : S = 4294967296 := by rw [hS, hV, hz]; simp [KK]
    subst z
    replace hF : F (w₂.setCell (stA Wg) (.int .u64 4294967296)) ∧ WgLive ty Wg (w₂.setCell (stA Wg) (.int .u64 4294967296)) := ⟨hF2 _ _ (rly_set hW) hF.1, ⟨_, _, hw.setSt _⟩⟩
    clear hw hc e0 hS
    refine ⟨110, ?_⟩
    walk_nrm
    u_op (fr_rely hF2) hF
    u_c stepG_region_end (fr_rely hF2) hF
    u_c stepG_ret' (fr_rely hF2) hF
    u_leave1 H.f_uAdd (fr_rely hF2) hF
    u_op (fr_rely hF2) hF
    u_c stepG_region_end (fr_rely hF2) hF
    u_c stepG_seq (fr_rely hF2) hF
    u_c stepG_seq (fr_rely hF2) hF
    u_reg (fr_rely hF2) hF
    u_op (fr_rely hF2) hF
    u_op (fr_rely hF2) hF
    u_op (fr_rely hF2) hF
    u_op (fr_rely hF2) hF
    u_skip (fr_rely hF2) hF
    u_skip (fr_rely hF2) hF
    u_op (fr_rely hF2) hF
    u_c stepG_region_end (fr_rely hF2) hF
    u_cond false (fr_rely hF2) hF
    u_c stepG_skip (fr_rely hF2) hF
    u_c stepG_seq (fr_rely hF2) hF
    u_reg (fr_rely hF2) hF
    u_op (fr_rely hF2) hF
    u_op (fr_rely hF2) hF
    u_op (fr_rely hF2) hF
    u_op (fr_rely hF2) hF
    u_c stepG_region_end (fr_rely hF2) hF
    u_c stepG_seq (fr_rely hF2) hF
    u_reg (fr_rely hF2) hF
    u_op (fr_rely hF2) hF
    u_op (fr_rely hF2) hF
    u_op (fr_rely hF2) hF
    u_op (fr_rely hF2) hF
    u_c stepG_region_end (fr_rely hF2) hF
    u_c stepG_seq (fr_rely hF2) hF
    u_c stepG_seq (fr_rely hF2) hF
    u_reg (fr_rely hF2) hF
    u_op (fr_rely hF2) hF
    u_op (fr_rely hF2) hF
    u_op (fr_rely hF2) hF
    u_op (fr_rely hF2) hF
    u_op (fr_rely hF2) hF
    u_op (fr_rely hF2) hF
    u_op (fr_rely hF2) hF
    u_op (fr_rely hF2) hF
    u_op (fr_rely hF2) hF
    u_op (fr_rely hF2) hF
    u_c stepG_region_end (fr_rely hF2) hF
    u_cond true (fr_rely hF2) hF
    u_reg (fr_rely hF2) hF
    u_op (fr_rely hF2) hF
    u_op (fr_rely hF2) hF
    u_op (fr_rely hF2) hF
    u_conv H.underlying_tPU32 H.room_tU32 (WgLive.cell1 hF.2).choose_spec (fr_rely hF2) hF
    refine Goes.stop (fun w₃ h₃ => ?_)
    replace hF := fr_rely hF2 hF h₃
    clear h₃
    refine ⟨rfl, _, stepG_markAt .read (by simp) rfl rfl (by k_ne) rfl H.f_raceRead (x_raceRead_n L) (x_raceRead_b L) (x_raceRead_x L) (x_raceRead_f L) (ad := ⟨Wg, 1, none⟩) (by simp [Act.eval]), 60, ?_⟩
    walk_nrm
    u_c stepG_region_end (fr_rely hF2) hF
    u_c stepG_seq (fr_rely hF2) hF
    u_c stepG_seq (fr_rely hF2) hF
    u_reg (fr_rely hF2) hF
    u_op (fr_rely hF2) hF
    u_op (fr_rely hF2) hF
    u_c stepG_region_end (fr_rely hF2) hF
    u_cond false (fr_rely hF2) hF
    u_c stepG_skip (fr_rely hF2) hF
    u_c stepG_seq (fr_rely hF2) hF
    u_c stepG_seq (fr_rely hF2) hF
    u_reg (fr_rely hF2) hF
    u_op (fr_rely hF2) hF
    u_op (fr_rely hF2) hF
    u_op (fr_rely hF2) hF
    u_skip (fr_rely hF2) hF
    u_skip (fr_rely hF2) hF
    u_op (fr_rely hF2) hF
    u_op (fr_rely hF2) hF
    u_skip (fr_rely hF2) hF
    u_skip (fr_rely hF2) hF
    u_skip (fr_rely hF2) hF
    u_skip (fr_rely hF2) hF
    u_op (fr_rely hF2) hF
    u_c stepG_region_end (fr_rely hF2) hF
    u_cond false (fr_rely hF2) hF
    u_c stepG_skip (fr_rely hF2) hF
    u_c stepG_seq (fr_rely hF2) hF
    u_c stepG_seq (fr_rely hF2) hF
    u_reg (fr_rely hF2) hF
    u_op (fr_rely hF2) hF
    u_op (fr_rely hF2) hF
    u_op (fr_rely hF2) hF
    u_skip (fr_rely hF2) hF
    u_skip (fr_rely hF2) hF
    u_op (fr_rely hF2) hF
    u_c stepG_region_end (fr_rely hF2) hF
    u_cond true (fr_rely hF2) hF
    u_c stepG_ret' (fr_rely hF2) hF
    refine Goes.stop (fun w₃ h₃ => ?_)
    replace hF := (fr_rely hF2 hF h₃).1
    clear h₃
    refine ⟨rfl, _, stepG_unwind_entry (v := .tuple #[]) (evs := #[mk .enable]) rfl H.f_enable (x_enable_n L) (x_enable_b L) (x_enable_x L) (x_enable_f L) (by simp [Extern.Race.none_]) (by simp [mk]) (by simp [mk]), ?_⟩
    refine goes_tree (m := 2) ?_
    u_leave0 H.f_add (fo_rely hF2) hF
    exact Goes.stop fun w₁ r => hT _ (hF2 _ _ r hF)
  · have a1 : S / 4294967296 = V := by rw [hS]; simp only [KK]; omega
    have b1 : bits .and .u64 S 2147483648 = 0 := by rw [hS, hV]; have := Go.ConcN.st_flag (v + 1) 0 (by omega) (by omega); simpa [KK] using this
    have b2 : bits .and .u64 S 2147483647 = 0 := by rw [hS, hV]; have := Go.ConcN.st_waiters (v + 1) 0 (by omega) (by omega); simpa [KK] using this
    have c1 : IntKind.i32.wrap V = V := by rw [IntKind.wrap_i32]; omega
    have hV1 : 1 < V := by omega
    have hV2 : V < 2147483648 := by omega
    have q1 : (V == 1) = false := by simp; omega
    have q2 : decide (V = 1) = false := decide_eq_false (by omega)
    have q3 : decide (V < 0) = false := decide_eq_false (by omega)
    have q4 : decide (0 < V) = true := decide_eq_true (by omega)
    have q5 : (V == 0) = false := by simp; omega
    have q6 : decide (V = 0) = false := decide_eq_false (by omega)
    refine ⟨110, ?_⟩
    replace hF : F (w₂.setCell (stA Wg) (.int .u64 S)) ∧ WgLive ty Wg (w₂.setCell (stA Wg) (.int .u64 S)) := ⟨hF2 _ _ (rly_set hW) hF.1, ⟨_, _, hw.setSt _⟩⟩
    clear hw hc e0 hS hV
    walk_nrm
    u_op (fr_rely hF2) hF
    u_c stepG_region_end (fr_rely hF2) hF
    u_c stepG_ret' (fr_rely hF2) hF
    u_leave1 H.f_uAdd (fr_rely hF2) hF
    u_op (fr_rely hF2) hF
    u_c stepG_region_end (fr_rely hF2) hF
    u_c stepG_seq (fr_rely hF2) hF
    u_c stepG_seq (fr_rely hF2) hF
    u_reg (fr_rely hF2) hF
    u_op (fr_rely hF2) hF
    u_op (fr_rely hF2) hF
    u_op (fr_rely hF2) hF
    u_op (fr_rely hF2) hF
    u_skip (fr_rely hF2) hF
    u_skip (fr_rely hF2) hF
    u_op (fr_rely hF2) hF
    u_c stepG_region_end (fr_rely hF2) hF
    u_cond false (fr_rely hF2) hF
    u_c stepG_skip (fr_rely hF2) hF
    u_c stepG_seq (fr_rely hF2) hF
    u_reg (fr_rely hF2) hF
    u_op (fr_rely hF2) hF
    u_op (fr_rely hF2) hF
    u_op (fr_rely hF2) hF
    u_op (fr_rely hF2) hF
    u_c stepG_region_end (fr_rely hF2) hF
    u_c stepG_seq (fr_rely hF2) hF
    u_reg (fr_rely hF2) hF
    u_op (fr_rely hF2) hF
    u_op (fr_rely hF2) hF
    u_op (fr_rely hF2) hF
    u_op (fr_rely hF2) hF
    u_c stepG_region_end (fr_rely hF2) hF
    u_c stepG_seq (fr_rely hF2) hF
    u_c stepG_seq (fr_rely hF2) hF
    u_reg (fr_rely hF2) hF
    u_op (fr_rely hF2) hF
    u_op (fr_rely hF2) hF
    u_op (fr_rely hF2) hF
    u_op (fr_rely hF2) hF
    u_op (fr_rely hF2) hF
    u_op (fr_rely hF2) hF
    u_op (fr_rely hF2) hF
    u_op (fr_rely hF2) hF
    u_op (fr_rely hF2) hF
    u_op (fr_rely hF2) hF
    u_c stepG_region_end (fr_rely hF2) hF
    u_cond false (fr_rely hF2) hF
    u_c stepG_skip (fr_rely hF2) hF
    u_c stepG_seq (fr_rely hF2) hF
    u_c stepG_seq (fr_rely hF2) hF
    u_reg (fr_rely hF2) hF
    u_op (fr_rely hF2) hF
    u_op (fr_rely hF2) hF
    u_c stepG_region_end (fr_rely hF2) hF
    u_cond false (fr_rely hF2) hF
    u_c stepG_skip (fr_rely hF2) hF
    u_c stepG_seq (fr_rely hF2) hF
    u_c stepG_seq (fr_rely hF2) hF
    u_reg (fr_rely hF2) hF
    u_op (fr_rely hF2) hF
    u_op (fr_rely hF2) hF
    u_op (fr_rely hF2) hF
    u_skip (fr_rely hF2) hF
    u_skip (fr_rely hF2) hF
    u_op (fr_rely hF2) hF
    u_op (fr_rely hF2) hF
    u_skip (fr_rely hF2) hF
    u_skip (fr_rely hF2) hF
    u_skip (fr_rely hF2) hF
    u_skip (fr_rely hF2) hF
    u_op (fr_rely hF2) hF
    u_c stepG_region_end (fr_rely hF2) hF
    u_cond false (fr_rely hF2) hF
    u_c stepG_skip (fr_rely hF2) hF
    u_c stepG_seq (fr_rely hF2) hF
    u_c stepG_seq (fr_rely hF2) hF
    u_reg (fr_rely hF2) hF
    u_op (fr_rely hF2) hF
    u_op (fr_rely hF2) hF
    u_op (fr_rely hF2) hF
    u_skip (fr_rely hF2) hF
    u_skip (fr_rely hF2) hF
    u_op (fr_rely hF2) hF
    u_c stepG_region_end (fr_rely hF2) hF
    u_cond true (fr_rely hF2) hF
    u_c stepG_ret' (fr_rely hF2) hF
    refine Goes.stop (fun w₃ h₃ => ?_)
    replace hF := (fr_rely hF2 hF h₃).1
    clear h₃
    refine ⟨rfl, _, stepG_unwind_entry (v := .tuple #[]) (evs := #[mk .enable]) rfl H.f_enable (x_enable_n L) (x_enable_b L) (x_enable_x L) (x_enable_f L) (by simp [Extern.Race.none_]) (by simp [mk]) (by simp [mk]), ?_⟩
    refine goes_tree (m := 2) ?_
    u_leave0 H.f_add (fo_rely hF2) hF
    exact Goes.stop fun w₁ r => hT _ (hF2 _ _ r hF)
end
end Go.Id
/- The starter's walk through the group's Wait, in company of workers that allocate. -/
namespace Go.Id
open Go.Conc Go.RowKit Go.Conc.Lib Go.ConcR.Gen
open Go.ConcN (WgLive)
open Go.ConcN.Gen
open Go.ConcR (KK WgAt stA smA rd wr mk Payload DC0)
set_option linter.unusedVariables false
set_option linter.unusedSectionVars false
variable [Payload] {L : WgLink}
/-- At the head of Wait's loop. -/
def AncW (L : WgLink) (Y : Ph) (F : World → Prop) (c : Frame) (cs : List Frame) (g : Goroutine) (w : World) : Prop :=
  ∃ T : Array Value, g = G ((base L.wait).at ⟨T, []⟩ [.code (L7 L), .inLoop (L7 L), .inBlock 0]) (c :: cs) ∧ T.size = 84 ∧ T[0]? = some (.pointer (some ⟨Y.Wg, 0, none⟩)) ∧ F w ∧ WgLive Y.ty Y.Wg w
/-- What is left of Wait behind its last mark: in whatever company, to the caller. -/
def Leaves (P : Program) (g' : Goroutine) (g : Goroutine) (w : World) : Prop := ∃ m, Goes P true (fun _ _ => True) DC0 (fun x _ => x = g') m g w
theorem tr_rely (h : True) (_ : True) : True := h
section
variable {Y : Ph} {O : Nat → Prop} {F : World → Prop} {Fin : (Nat → Prop) → Goroutine → World → Prop}
  {b₀ : Frame} {a₀ : Act} {ops₀ : Array Oper} {i₀ : Nat} {rest₀ : List Nat} {k₀ : List Item} {cs : List Frame}
set_option maxRecDepth 100000 in
set_option maxHeartbeats 8000000 in
/-- From the loop's head. -/
theorem wait_round (H : WgLib Y.P L) (hty : Y.ty = L.tWg) (hW : ¬ Y.fro Y.Wg ∧ ¬ O Y.Wg) (hF2 : ∀ w w', Rly Y.fro O w w' → F w → F w')
    (hT : ∀ g w, F w → Leaves Y.P (G (b₀.at (a₀.put ((ops₀[i₀]?).bind (·.dst)) (.tuple #[])) (.inRegion ops₀ rest₀ :: k₀)) cs) g w → Fin O g w) (g : Goroutine) (w : World) (hA : AncW L Y F (b₀.at a₀ (.inRegion ops₀ (i₀ :: rest₀) :: k₀)) cs g w) :
    ∃ m, Goes Y.P true (RS Y O) DC0 (AtW1 Y O Fin (AncW L Y F (b₀.at a₀ (.inRegion ops₀ (i₀ :: rest₀) :: k₀)) cs)) m g w := by
  obtain ⟨T, rfl, hT84, t0, hF⟩ := hA
  obtain ⟨v0, v1, v2, v3, v4, v5, v6, v7, v8, v9, v10, v11, v12, v13, v14, v15, v16, v17, v18, v19, v20, v21, v22, v23, v24, v25, v26, v27, v28, v29, v30, v31, v32, v33, v34, v35, v36, v37, v38, v39, v40, v41, v42, v43, v44, v45, v46, v47, v48, v49, v50, v51, v52, v53, v54, v55, v56, v57, v58, v59, v60, v61, v62, v63, v64, v65, v66, v67, v68, v69, v70, v71, v72, v73, v74, v75, v76, v77, v78, v79, v80, v81, v82, v83, rfl⟩ := array84 T hT84
  simp only [List.getElem?_toArray, List.getElem?_cons_zero, Option.some.injEq] at t0
  subst t0
  rcases Y with ⟨P, ty, Wg, Ch, fro, n, Res⟩
  dsimp only at H hty hW hF2 hT hF ⊢
  lib_facts
  refine ⟨30, ?_⟩
  simp only [L7, body_wait, waitFn, Option.getD_some]
  u_c stepG_block (fr_rely hF2) hF
  u_c stepG_seq (fr_rely hF2) hF
  u_reg (fr_rely hF2) hF
  u_op (fr_rely hF2) hF
  u_op (fr_rely hF2) hF
  u_op (fr_rely hF2) hF
  u_call H.f_uLoad (nm_uLoad L) uLoadFn (fr_rely hF2) hF
  u_c stepG_seq (fr_rely hF2) hF
  u_reg (fr_rely hF2) hF
  u_op (fr_rely hF2) hF
  u_c stepG_region_end (fr_rely hF2) hF
  u_c stepG_seq (fr_rely hF2) hF
  u_reg (fr_rely hF2) hF
  u_op (fr_rely hF2) hF
  u_op (fr_rely hF2) hF
  u_op (fr_rely hF2) hF
  refine Goes.stop (fun w₁ h₁ => ?_)
  replace hF := fr_rely hF2 hF h₁
  clear h₁
  refine ⟨rfl, fun v hv hw => ?_⟩
  obtain ⟨S, hS⟩ : ∃ S : Int, S = (v : Int) * KK := ⟨_, rfl⟩
  rw [← hS] at hw
  refine ⟨_, stepG_load_atomic (v := S) rfl rfl (by k_ne) rfl H.f_loadU64 (x_loadU64_n L) (x_loadU64_b L) (x_loadU64_x L) .u64 (x_loadU64_f L) rfl hw.cellSt, fun hz => ⟨50, ?_⟩, fun hz => ⟨60, ?_⟩⟩
  · -- it reads 0
    have z : S = 0 := by rw [hS, hz]; simp
    subst z
    clear hw hS
    walk_nrm
    u_op (fr_rely hF2) hF
    u_c stepG_region_end (fr_rely hF2) hF
    u_c stepG_ret' (fr_rely hF2) hF
    u_leave1 H.f_uLoad (fr_rely hF2) hF
    u_op (fr_rely hF2) hF
    u_c stepG_region_end (fr_rely hF2) hF
    u_c stepG_seq (fr_rely hF2) hF
    u_reg (fr_rely hF2) hF
    u_op (fr_rely hF2) hF
    u_op (fr_rely hF2) hF
    u_op (fr_rely hF2) hF
    u_op (fr_rely hF2) hF
    u_c stepG_region_end (fr_rely hF2) hF
    u_c stepG_seq (fr_rely hF2) hF
    u_reg (fr_rely hF2) hF
    u_op (fr_rely hF2) hF
    u_op (fr_rely hF2) hF
    u_op (fr_rely hF2) hF
    u_op (fr_rely hF2) hF
    u_c stepG_region_end (fr_rely hF2) hF
    u_c stepG_seq (fr_rely hF2) hF
    u_c stepG_seq (fr_rely hF2) hF
    u_reg (fr_rely hF2) hF
    u_op (fr_rely hF2) hF
    u_op (fr_rely hF2) hF
    u_c stepG_region_end (fr_rely hF2) hF
    u_cond true (fr_rely hF2) hF
    u_c stepG_seq (fr_rely hF2) hF
    u_cond true (fr_rely hF2) hF
    u_c stepG_seq (fr_rely hF2) hF
    u_reg (fr_rely hF2) hF
    refine Goes.stop (fun w₅ h₅ => ?_)
    replace hF := fr_rely hF2 hF h₅
    clear h₅
    refine ⟨rfl, _, stepG_mark0 .enable (by simp) rfl rfl (by k_ne) rfl H.f_enable (x_enable_n L) (x_enable_b L) (x_enable_x L) (x_enable_f L), 12, ?_⟩
    walk_nrm
    u_c stepG_region_end (fr_rely hF2) hF
    u_reg (fr_rely hF2) hF
    u_op (fr_rely hF2) hF
    u_conv H.underlying_tWgP H.room_tWg (WgLive.cell0 hF.2).choose_spec (fr_rely hF2) hF
    refine Goes.stop (fun w₆ h₆ => ?_)
    replace hF := (fr_rely hF2 hF h₆).1
    clear h₆
    refine ⟨rfl, _, stepG_markAt .acquire (by simp) rfl rfl (by k_ne) rfl H.f_acquire (x_acquire_n L) (x_acquire_b L) (x_acquire_x L) (x_acquire_f L) (by simp [Act.eval, stA]), hT _ _ hF ⟨50, ?_⟩⟩
    have hF0 : True := trivial
    walk_nrm
    u_c stepG_region_end tr_rely hF0
    u_c stepG_seq tr_rely hF0
    u_c stepG_seq tr_rely hF0
    u_reg tr_rely hF0
    u_op tr_rely hF0
    u_op tr_rely hF0
    u_op tr_rely hF0
    u_op tr_rely hF0
    u_op tr_rely hF0
    u_op tr_rely hF0
    u_op tr_rely hF0
    u_op tr_rely hF0
    u_skip tr_rely hF0
    u_skip tr_rely hF0
    u_op tr_rely hF0
    u_c stepG_region_end tr_rely hF0
    u_cond false tr_rely hF0
    u_c stepG_skip tr_rely hF0
    u_c stepG_ret' tr_rely hF0
    u_leave0 H.f_wait tr_rely hF0
    exact Goes.stop fun _ _ => rfl
  · -- it reads more
    have hvp : 0 < v := by omega
    have a1 : S / 4294967296 = (v : Int) := by rw [hS]; simp only [KK]; omega
    have b1 : bits .and .u64 S 2147483648 = 0 := by rw [hS]; have := Go.ConcN.st_flag v 0 (by omega) (by omega); simpa [KK] using this
    have b2 : bits .and .u64 S 2147483647 = 0 := by rw [hS]; have := Go.ConcN.st_waiters v 0 (by omega) (by omega); simpa [KK] using this
    have c1 : IntKind.i32.wrap (v : Int) = (v : Int) := by rw [IntKind.wrap_i32]; omega
    have w1 : IntKind.u64.wrap (S + 1) = S + 1 := by rw [IntKind.wrap_u64, hS]; simp only [KK]; omega
    have q3 : decide ((v : Int) < 0) = false := decide_eq_false (by omega)
    have q4 : decide (0 < (v : Int)) = true := decide_eq_true (by omega)
    have q5 : ((v : Int) == 0) = false := by simp; omega
    have q6 : decide ((v : Int) = 0) = false := decide_eq_false (by omega)
    clear hw
    revert hS
    walk_nrm
    intro hS
    have hS' : ∀ x : Nat, (x : Int) * KK = S → x = v := fun x hx => by rw [hS] at hx; simp only [KK] at hx; omega
    have hS2 : (v : Int) * KK = S := hS.symm
    clear hS
    revert hS' hS2
    intro hS' hS2
    generalize hZ : ((v : Int) * KK = S) = Z at hS2
    clear hz
    u_op (fr_rely hF2) hF
    u_c stepG_region_end (fr_rely hF2) hF
    u_c stepG_ret' (fr_rely hF2) hF
    u_leave1 H.f_uLoad (fr_rely hF2) hF
    u_op (fr_rely hF2) hF
    u_c stepG_region_end (fr_rely hF2) hF
    u_c stepG_seq (fr_rely hF2) hF
    u_reg (fr_rely hF2) hF
    u_op (fr_rely hF2) hF
    u_op (fr_rely hF2) hF
    u_op (fr_rely hF2) hF
    u_op (fr_rely hF2) hF
    u_c stepG_region_end (fr_rely hF2) hF
    u_c stepG_seq (fr_rely hF2) hF
    u_reg (fr_rely hF2) hF
    u_op (fr_rely hF2) hF
    u_op (fr_rely hF2) hF
    u_op (fr_rely hF2) hF
    u_op (fr_rely hF2) hF
    u_c stepG_region_end (fr_rely hF2) hF
    u_c stepG_seq (fr_rely hF2) hF
    u_c stepG_seq (fr_rely hF2) hF
    u_reg (fr_rely hF2) hF
    u_op (fr_rely hF2) hF
    u_op (fr_rely hF2) hF
    u_c stepG_region_end (fr_rely hF2) hF
    u_cond false (fr_rely hF2) hF
    u_c stepG_skip (fr_rely hF2) hF
    u_c stepG_seq (fr_rely hF2) hF
    u_reg (fr_rely hF2) hF
    u_op (fr_rely hF2) hF
    u_op (fr_rely hF2) hF
    u_op (fr_rely hF2) hF
    u_op (fr_rely hF2) hF
    u_op (fr_rely hF2) hF
    u_op (fr_rely hF2) hF
    u_call H.f_uCas (nm_uCas L) uCasFn (fr_rely hF2) hF
    u_c stepG_seq (fr_rely hF2) hF
    u_reg (fr_rely hF2) hF
    u_op (fr_rely hF2) hF
    u_c stepG_region_end (fr_rely hF2) hF
    u_c stepG_seq (fr_rely hF2) hF
    u_reg (fr_rely hF2) hF
    u_op (fr_rely hF2) hF
    u_op (fr_rely hF2) hF
    u_op (fr_rely hF2) hF
    u_op (fr_rely hF2) hF
    u_op (fr_rely hF2) hF
    rw [← hZ] at hS2
    refine Goes.stop (fun w₂ h₂ => ?_)
    replace hF := fr_rely hF2 hF h₂
    clear h₂
    refine ⟨rfl, fun v' hv' hw => ⟨fun e => ?_, fun e => ?_⟩⟩
    · -- it hits
      subst e
      rw [hS2] at hw ⊢
      refine ⟨_, (stepG_cas_hit (v := S) (n := S + 1) rfl rfl (by k_ne) rfl H.f_casU64 (x_casU64_n L) (x_casU64_b L) (x_casU64_x L) .u64 (x_casU64_f L) rfl rfl rfl hw.cellSt (hw.thaw 0)).trans (by rfl), 70, ?_⟩
      replace hF : F (w₂.setCell (stA Wg) (.int .u64 (S + 1))) ∧ WgLive ty Wg (w₂.setCell (stA Wg) (.int .u64 (S + 1))) := ⟨hF2 _ _ (rly_set hW) hF.1, ⟨_, _, hw.setSt _⟩⟩
      clear hw hS2 hS'
      walk_nrm
      u_op (fr_rely hF2) hF
      u_c stepG_region_end (fr_rely hF2) hF
      u_c stepG_ret' (fr_rely hF2) hF
      u_leave1 H.f_uCas (fr_rely hF2) hF
      u_c stepG_region_end (fr_rely hF2) hF
      u_cond true (fr_rely hF2) hF
      u_c stepG_seq (fr_rely hF2) hF
      u_c stepG_seq (fr_rely hF2) hF
      u_reg (fr_rely hF2) hF
      u_op (fr_rely hF2) hF
      u_op (fr_rely hF2) hF
      u_op (fr_rely hF2) hF
      u_op (fr_rely hF2) hF
      u_c stepG_region_end (fr_rely hF2) hF
      u_cond true (fr_rely hF2) hF
      u_reg (fr_rely hF2) hF
      u_op (fr_rely hF2) hF
      u_op (fr_rely hF2) hF
      u_op (fr_rely hF2) hF
      u_conv H.underlying_tPU32 H.room_tU32 (WgLive.cell1 hF.2).choose_spec (fr_rely hF2) hF
      refine Goes.stop (fun w₃ h₃ => ?_)
      replace hF := fr_rely hF2 hF h₃
      clear h₃
      refine ⟨rfl, _, stepG_markAt .write (by simp) rfl rfl (by k_ne) rfl H.f_raceWrite (x_raceWrite_n L) (x_raceWrite_b L) (x_raceWrite_x L) (x_raceWrite_f L) (ad := ⟨Wg, 1, none⟩) (by simp [Act.eval]), 60, ?_⟩
      walk_nrm
      u_c stepG_region_end (fr_rely hF2) hF
      u_c stepG_seq (fr_rely hF2) hF
      u_reg (fr_rely hF2) hF
      u_op (fr_rely hF2) hF
      u_c stepG_region_end (fr_rely hF2) hF
      u_c stepG_seq (fr_rely hF2) hF
      u_c stepG_seq (fr_rely hF2) hF
      u_reg (fr_rely hF2) hF
      u_op (fr_rely hF2) hF
      u_op (fr_rely hF2) hF
      u_op (fr_rely hF2) hF
      u_op (fr_rely hF2) hF
      u_skip (fr_rely hF2) hF
      u_op (fr_rely hF2) hF
      u_c stepG_region_end (fr_rely hF2) hF
      u_cond false (fr_rely hF2) hF
      u_c stepG_skip (fr_rely hF2) hF
      u_c stepG_seq (fr_rely hF2) hF
      u_reg (fr_rely hF2) hF
      u_op (fr_rely hF2) hF
      u_op (fr_rely hF2) hF
      u_op (fr_rely hF2) hF
      u_op (fr_rely hF2) hF
      refine Goes.stop (fun w₃ h₃ => ?_)
      replace hF := fr_rely hF2 hF h₃
      clear h₃
      refine ⟨rfl, rfl, fun ⟨st, hw⟩ => stepG_semacquire_wait rfl rfl rfl H.f_semacquire (x_semacquire_n L) (x_semacquire_b L) (x_semacquire_x L) (x_semacquire_f L) (by simp [Act.eval, smA]) hw.cellSm, fun hf => ?_⟩
      refine ⟨_, (stepG_semacquire (n := 1) rfl rfl (by k_ne) rfl H.f_semacquire (x_semacquire_n L) (x_semacquire_b L) (x_semacquire_x L) (x_semacquire_f L) (by simp [Act.eval, smA]) hf.cellSm (by k_ne) (hf.thaw 1)).trans (by rfl), 30, ?_⟩
      replace hF : F (w₃.setCell (smA Wg) (.int .u32 0)) ∧ WgLive ty Wg (w₃.setCell (smA Wg) (.int .u32 0)) := ⟨hF2 _ _ (rly_set hW) hF.1, ⟨_, _, hf.setSm 0⟩⟩
      clear hf
      walk_nrm
      u_c stepG_region_end (fr_rely hF2) hF
      u_c stepG_seq (fr_rely hF2) hF
      u_reg (fr_rely hF2) hF
      u_op (fr_rely hF2) hF
      u_op (fr_rely hF2) hF
      u_op (fr_rely hF2) hF
      u_call H.f_uLoad (nm_uLoad L) uLoadFn (fr_rely hF2) hF
      u_c stepG_seq (fr_rely hF2) hF
      u_reg (fr_rely hF2) hF
      u_op (fr_rely hF2) hF
      u_c stepG_region_end (fr_rely hF2) hF
      u_c stepG_seq (fr_rely hF2) hF
      u_reg (fr_rely hF2) hF
      u_op (fr_rely hF2) hF
      u_op (fr_rely hF2) hF
      u_op (fr_rely hF2) hF
      refine Goes.stop (fun w₄ h₄ => ?_)
      replace hF := fr_rely hF2 hF h₄
      clear h₄
      refine ⟨rfl, fun hw => ⟨_, stepG_load_atomic (v := 0) rfl rfl (by k_ne) rfl H.f_loadU64 (x_loadU64_n L) (x_loadU64_b L) (x_loadU64_x L) .u64 (x_loadU64_f L) rfl hw.cellSt, 30, ?_⟩⟩
      clear hw
      walk_nrm
      u_op (fr_rely hF2) hF
      u_c stepG_region_end (fr_rely hF2) hF
      u_c stepG_ret' (fr_rely hF2) hF
      u_leave1 H.f_uLoad (fr_rely hF2) hF
      u_op (fr_rely hF2) hF
      u_op (fr_rely hF2) hF
      u_c stepG_region_end (fr_rely hF2) hF
      u_c stepG_seq (fr_rely hF2) hF
      u_cond true (fr_rely hF2) hF
      u_c stepG_seq (fr_rely hF2) hF
      u_reg (fr_rely hF2) hF
      refine Goes.stop (fun w₅ h₅ => ?_)
      replace hF := fr_rely hF2 hF h₅
      clear h₅
      refine ⟨rfl, _, stepG_mark0 .enable (by simp) rfl rfl (by k_ne) rfl H.f_enable (x_enable_n L) (x_enable_b L) (x_enable_x L) (x_enable_f L), 12, ?_⟩
      walk_nrm
      u_c stepG_region_end (fr_rely hF2) hF
      u_reg (fr_rely hF2) hF
      u_op (fr_rely hF2) hF
      u_conv H.underlying_tWgP H.room_tWg (WgLive.cell0 hF.2).choose_spec (fr_rely hF2) hF
      refine Goes.stop (fun w₆ h₆ => ?_)
      replace hF := (fr_rely hF2 hF h₆).1
      clear h₆
      refine ⟨rfl, _, stepG_markAt .acquire (by simp) rfl rfl (by k_ne) rfl H.f_acquire (x_acquire_n L) (x_acquire_b L) (x_acquire_x L) (x_acquire_f L) (by simp [Act.eval, stA]), hT _ _ hF ⟨50, ?_⟩⟩
      have hF0 : True := trivial
      walk_nrm
      u_c stepG_region_end tr_rely hF0
      u_c stepG_seq tr_rely hF0
      u_c stepG_seq tr_rely hF0
      u_reg tr_rely hF0
      u_op tr_rely hF0
      u_c stepG_region_end tr_rely hF0
      u_cond false tr_rely hF0
      u_c stepG_skip tr_rely hF0
      u_c stepG_ret' tr_rely hF0
      u_leave0 H.f_wait tr_rely hF0
      exact Goes.stop fun _ _ => rfl
    · -- it misses
      refine ⟨_, stepG_cas_miss (v := (v' : Int) * KK) (old := S) (n := S + 1) rfl rfl (by k_ne) rfl H.f_casU64 (x_casU64_n L) (x_casU64_b L) (x_casU64_x L) .u64 (x_casU64_f L) rfl rfl rfl hw.cellSt (hw.thaw 0) (fun hx => e (hS' v' hx)), 20, ?_⟩
      clear hw hS' hS2 e hZ
      walk_nrm
      u_op (fr_rely hF2) hF
      u_c stepG_region_end (fr_rely hF2) hF
      u_c stepG_ret' (fr_rely hF2) hF
      u_leave1 H.f_uCas (fr_rely hF2) hF
      u_c stepG_region_end (fr_rely hF2) hF
      u_cond false (fr_rely hF2) hF
      u_c stepG_skip (fr_rely hF2) hF
      u_c stepG_inBlock (fr_rely hF2) hF
      u_c stepG_inLoop (fr_rely hF2) hF
      refine Goes.stop (fun w₃ h₃ => ?_)
      exact ⟨_, by rfl, by rfl, by rfl, fr_rely hF2 hF h₃⟩
set_option maxRecDepth 100000 in
set_option maxHeartbeats 8000000 in
/-- Behind Wait's entry. -/
theorem wait_start (H : WgLib Y.P L) (hty : Y.ty = L.tWg) (hF2 : ∀ w w', Rly Y.fro O w w' → F w → F w') (w : World) (hF : F w) (hlv : WgLive Y.ty Y.Wg w) :
    Goes Y.P true (RS Y O) DC0 (AtKd Y O (AncW L Y F (b₀.at a₀ (.inRegion ops₀ (i₀ :: rest₀) :: k₀)) cs)) 3 (G (Frame.enter Y.P L.wait #[.pointer (some ⟨Y.Wg, 0, none⟩)] .normal) (b₀.at a₀ (.inRegion ops₀ (i₀ :: rest₀) :: k₀) :: cs)) w := by
  replace hF := And.intro hF hlv
  clear hlv
  rcases Y with ⟨P, ty, Wg, Ch, fro, n, Res⟩
  dsimp only at H hty hF2 hF ⊢
  lib_facts
  rw [enter_at _ H.f_wait rfl]
  walk_nrmf waitFn
  u_c stepG_seq (fr_rely hF2) hF
  u_cond true (fr_rely hF2) hF
  u_reg (fr_rely hF2) hF
  refine Goes.stop (fun w₁ h₁ => ?_)
  replace hF := fr_rely hF2 hF h₁
  clear h₁
  refine ⟨rfl, _, stepG_mark0 .disable (by simp) rfl rfl (by k_ne) rfl H.f_disable (x_disable_n L) (x_disable_b L) (x_disable_x L) (x_disable_f L), 3, ?_⟩
  walk_nrm
  u_c stepG_region_end (fr_rely hF2) hF
  u_c stepG_block (fr_rely hF2) hF
  u_c stepG_loop (fr_rely hF2) hF
  refine Goes.stop (fun w₃ h₃ => ?_)
  exact ⟨_, by rfl, by rfl, by rfl, fr_rely hF2 hF h₃⟩
end
end Go.Id
/- A worker's walk into Done, up to where it releases: by the kit's own law of Done, which is followed step by step. -/
namespace Go.Id
open Go.Conc Go.RowKit Go.Conc.Lib Go.ConcR.Gen
open Go.ConcN (WgLive RW Has DWs AtR0 AtK1)
open Go.ConcN.Gen
open Go.ConcR (KK WgAt stA smA rd wr mk Payload DC0)
set_option linter.unusedVariables false
set_option linter.unusedSectionVars false
/-- Two tellings of one walk: where the first stands at its stop, the second has not stopped yet, or stops there. -/
theorem goes_both {P : Program} {R : World → World → Prop} {D : World → World → Array Event → Prop} {StA StK StB : Goroutine → World → Prop} (rf : ∀ w, R w w) (tr : ∀ a b c, R a b → R b c → R a c)
    (hno : ∀ g w g', stepG P false g w = .go g' w #[] → ¬ StK g w) (key : ∀ n g w, StA g w → Goes P false R D StK n g w → StB g w) :
    ∀ (m n : Nat) (g : Goroutine) (w : World), Goes P false R DC0 StA m g w → Goes P false R D StK n g w → Goes P false R DC0 StB m g w
  | 0, n, g, w, h, h' => fun w₁ r => key n g w₁ (h w₁ r) (h'.rely tr r)
  | m + 1, n, g, w, h, h' => by
    rcases h with h | ⟨hs, h⟩
    · exact .inl fun w₁ r => key n g w₁ (h w₁ r) (h'.rely tr r)
    · refine .inr ⟨hs, fun w₁ r => ?_⟩
      obtain ⟨g', w', es, hgo, ⟨e1, rfl⟩, hg⟩ := goes_elim (h w₁ r)
      rw [hgo, goes_go]
      refine ⟨⟨e1, rfl⟩, ?_⟩
      rw [e1] at hgo hg ⊢
      cases n with
      | zero => exact absurd (h' w₁ r) (hno _ _ _ hgo)
      | succ n =>
        rcases h' with h' | ⟨_, h'⟩
        · exact absurd (h' w₁ r) (hno _ _ _ hgo)
        · have h2 := h' w₁ r
          rw [hgo, goes_go] at h2
          exact goes_both rf tr hno key m n g' w₁ hg h2.2
variable [Payload] {L : WgLink}
theorem RW.refl {ty : TypeId} {Wg C n Low i : Nat} (w : World) : RW ty Wg C n Low i w w := ⟨fun _ _ _ _ => rfl, id, id, rfl⟩
theorem RW.trans {ty : TypeId} {Wg C n Low i : Nat} (a b c : World) (h : RW ty Wg C n Low i a b) (h' : RW ty Wg C n Low i b c) : RW ty Wg C n Low i a c :=
  ⟨fun k h1 h2 h3 => (h'.low k h1 h2 h3).trans (h.low k h1 h2 h3), fun x => h'.live (h.live x), fun x => h'.pay (h.pay x), h'.cell.trans h.cell⟩
/-- Where it is about to say 'disable'. -/
def AtDis (P : Program) (g : Goroutine) (w : World) : Prop := ∃ g', stepG P false g w = .go g' w #[mk .disable]
/-- Where it is about to say 'release and merge'. -/
def AtRelM (P : Program) (ty : TypeId) (Wg C n : Nat) (g : Goroutine) (w : World) : Prop :=
  ∃ g', stepG P false g w = .go g' w #[mk (.releaseMerge (stA Wg))] ∧ ∃ m, Goes P false (RW ty Wg C n 0 0) DC0 (AtDis P) m g' w
theorem rel_is {P : Program} {ty : TypeId} {Wg C pn n : Nat} {v : Value} {g : Goroutine} {w : World} (h : AtRelM P ty Wg C pn g w)
    (h' : Goes P false (RW ty Wg C pn 0 0) (DWs Wg (fun _ _ => False) (fun _ _ => False) C pn 1) (AtR0 P ty Wg C pn 0 1 v) n g w) : AtR0 P ty Wg C pn 0 1 v g w := by
  obtain ⟨g', hst, m, hg'⟩ := h
  have hstop : AtR0 P ty Wg C pn 0 1 v g w ∨ ∃ n', Goes P false (RW ty Wg C pn 0 0) (DWs Wg (fun _ _ => False) (fun _ _ => False) C pn 1) (AtR0 P ty Wg C pn 0 1 v) n' g' w := by
    cases n with
    | zero => exact .inl (h' w (RW.refl w))
    | succ n =>
      rcases h' with h' | ⟨_, h'⟩
      · exact .inl (h' w (RW.refl w))
      · have h2 := h' w (RW.refl w)
        rw [hst, goes_go] at h2
        exact .inr ⟨n, h2.2⟩
  rcases hstop with h | ⟨n', h2⟩
  · exact h
  · have hno : ∀ g w g', stepG P false g w = .go g' w #[] → ¬ AtR0 P ty Wg C pn 0 1 v g w := by
      rintro g w g' h1 ⟨_, _, g₂, h3, _⟩
      rw [h1] at h3
      injection h3 with _ _ h4
      cases h4
    have hF := goes_both (StB := fun _ _ => False) RW.refl RW.trans hno (fun n g w hd hk => by
      obtain ⟨g₁, h1⟩ := hd
      have hne : ¬ AtR0 P ty Wg C pn 0 1 v g w := by
        rintro ⟨_, _, g₂, h3, _⟩
        rw [h1] at h3
        injection h3 with _ _ h4
        simp [mk] at h4
      cases n with
      | zero => exact hne (hk w (RW.refl w))
      | succ n =>
        rcases hk with hk | ⟨_, hk⟩
        · exact hne (hk w (RW.refl w))
        · have h3 := hk w (RW.refl w)
          rw [h1, goes_go] at h3
          exact (h3.1.2 (mk .disable) (by simp)).2.1 rfl) m n' g' w hg' h2
    exfalso
    have key : ∀ (m : Nat) (g : Goroutine) (w : World), Goes P false (RW ty Wg C pn 0 0) DC0 (fun _ _ => False) m g w → False := by
      intro m
      induction m with
      | zero => exact fun g w h => h w (RW.refl w)
      | succ m ih =>
        intro g w h
        rcases h with h | ⟨_, h⟩
        · exact h w (RW.refl w)
        · obtain ⟨g', w', es, _, _, h3⟩ := goes_elim (h w (RW.refl w))
          exact ih _ _ h3
    exact key _ _ _ hF
set_option maxRecDepth 100000 in
set_option maxHeartbeats 8000000 in
/-- Behind the send: the worker's end, the deferred Done. -/
theorem done_walk {Y : Ph} (H : WgLib Y.P L) (hty : Y.ty = L.tWg) {b : Frame} {T : Array Value} {ops : Array Oper} {cs : List Frame} {qt C pn : Nat} {x : Value} (hT : QuitsD Y.P qt 0 (G { b.at ⟨T, []⟩ [] with mode := .returning } cs)) (w : World) (hl : WgLive Y.ty Y.Wg w) (hc : Has C 0 x w) :
    Goes Y.P false (RW Y.ty Y.Wg C pn 0 0) DC0 (AtRr Y C pn) 30 (G (b.at ⟨T, [dcall L.done #[.pointer (some ⟨Y.Wg, 0, none⟩)]]⟩ [.inRegion ops []]) cs) w := by
  have hK := And.intro hl hc
  clear hl hc
  rcases Y with ⟨P, ty, Wg, Ch, fro, n, Res⟩
  dsimp only at H hty hT hK ⊢
  subst hty
  u_c stepG_region_end kn_rely hK
  u_c stepG_end kn_rely hK
  u_unwB kn_rely hK H.f_done (nm_done L) doneFn
  have hA := @doneN _ L P H (fun _ _ => False) (fun _ _ => False) Wg C pn 0 1 x { b.at ⟨T, []⟩ [] with mode := .returning } cs qt rfl hT
  simp only [body_done, doneFn, Option.getD_some] at hA
  refine goes_both (StA := AtRelM P L.tWg Wg C pn) RW.refl RW.trans ?_ (fun n g w h h' => ?_) 27 23 _ _ ?_ (hA _ hK)
  · rintro g w g' h1 ⟨_, _, g₂, h3, _⟩
    rw [h1] at h3
    injection h3 with _ _ h4
    cases h4
  · obtain ⟨h1, _, g', h2, h3⟩ := rel_is h h'
    exact ⟨h1, g', h2, h3⟩
  clear hA
  lib_facts
  u_reg kn_rely hK
  u_op kn_rely hK
  u_in kn_rely hK
  refine goes_call rfl rfl (by k_ne) rfl H.f_add (nm_add L) rfl ⟨by u_nil, ?_⟩
  walk_nrmf addFn
  u_c stepG_seq kn_rely hK
  u_cond true kn_rely hK
  u_c stepG_seq kn_rely hK
  u_c stepG_seq kn_rely hK
  u_reg kn_rely hK
  u_op kn_rely hK
  u_op kn_rely hK
  u_c stepG_region_end kn_rely hK
  u_cond true kn_rely hK
  u_reg kn_rely hK
  u_op kn_rely hK
  u_conv H.underlying_tWgP H.room_tWg (WgLive.cell0 hK.1).choose_spec kn_rely hK
  refine Goes.stop (fun w₁ h₁ => ?_)
  replace hK := kn_rely hK h₁
  clear h₁
  refine ⟨_, stepG_markAt .releaseMerge (by simp) rfl rfl (by k_ne) rfl H.f_relMerge (x_relMerge_n L) (x_relMerge_b L) (x_relMerge_x L) (x_relMerge_f L) (by simp [Act.eval, stA]), 10, ?_⟩
  walk_nrm
  u_c stepG_region_end kn_rely hK
  u_c stepG_seq kn_rely hK
  u_reg kn_rely hK
  refine Goes.stop (fun w₁ h₁ => ?_)
  exact ⟨_, stepG_mark0 .disable (by simp) rfl rfl (by k_ne) rfl H.f_disable (x_disable_n L) (x_disable_b L) (x_disable_x L) (x_disable_f L)⟩
end Go.Id
/- A worker, from its birth to its send and its end: its body is walked over the ideal memory. -/
namespace Go.Id
open Go.Conc Go.RowKit Go.Conc.Lib Go.ConcR.Gen
open Go.ConcN (WgLive Has)
open Go.ConcN.Gen
open Go.ConcR (WgAt stA smA Payload DC0)
set_option linter.unusedVariables false
set_option linter.unusedSectionVars false
section
variable {P : Program} {f : FuncId} {fn : Func} {c : Code} {w : World}
/-- The frame below a goroutine's function. -/
noncomputable def bot (P : Program) : Frame := { (default : Frame) with fn := P.funcs.size, defers := [], mode := .panicking [goexitEntry] }
theorem born_step (hf : P.funcs[f]? = some fn) (hname : (fn.name == "runtime.NumGoroutine") = false) (hb : fn.body = some c) (cap : Array Value) :
    stepG P false (born P { target := .fn (.func f) cap, args := #[] }) w = .go (G ((baseD f).at { tmps := cap ++ Array.replicate (fn.ntmps - cap.size) undef, defers := [] } [.code c]) [bot P]) w #[] := by
  have h1 : ¬ fn.name = "runtime.NumGoroutine" := by simpa using hname
  rw [← enter_atD cap hf hb]
  simp [born, G, stepG, unwind, callDeferred, invoke, callFunc, hf, h1, hb, GStep.after, seen_none, bot]
theorem quits_tail (hf : P.funcs[f]? = some fn) (hr : fn.results = #[]) (T : Array Value) : QuitsD P 2 0 (G { (baseD f).at ⟨T, []⟩ [] with mode := .returning } [bot P]) := by
  refine QuitsD.ctl (g' := G (bot P) []) rfl (fun w => ?_) ?_
  · simp [G, stepG, unwind, doReturn, results, Frame.at, baseD, bot, hf, hr, seen, GStep.after, goexitEntry]
  refine QuitsD.ctl (g' := { G (bot P) [] with status := .finished }) rfl (fun w => ?_) ⟨rfl, rfl⟩
  simp [G, stepG, unwind, bot, goexitEntry, Frame.catches]
  rfl
end
section
variable {P : Program} {main : Bool} {N0 : Nat → Prop} {Stop : (Nat → Prop) → Goroutine → World → Prop} {O : Nat → Prop}
/-- A step that turns nothing. -/
theorem JW.idle {g g' : Goroutine} {w : World} (hr : g.status = .running) (hs : ∀ w₁, Rly N0 O w w₁ → stepG P main g w₁ = .go g' w₁ #[]) (h : ∀ w₁, Rly N0 O w w₁ → JW P main N0 Stop O g' w₁) : JW P main N0 Stop O g w :=
  JW.step hr fun w₁ r => ⟨g', w₁, #[], hs w₁ r, guar_idle _ _ _, by rw [grow_self]; exact h w₁ r⟩
end
variable [Payload] {L : WgLink}
/-- Where a worker's walk is to stand: at its send. -/
structure SendsAt (Y : Ph) (lo : Nat) (i : Nat) (k : List Item) (t : Tm) (h : Hp) : Prop where
  ex : ∃ (ops : Array Oper) (j : Nat) (o : Oper) (x y : Operand) (v : Value), k = [.inRegion ops [j]] ∧ ops[j]? = some o ∧ o.guard = none ∧ o.dst = none ∧ o.op = .send x y ∧ ev t x = some (.chan (some Y.Ch)) ∧ ev t y = some v ∧
    ∀ s O w vr, SimOk Y.fro lo s O h w → VR s v vr → (∀ b, O b → Y.Wg < b) → Y.Res i vr O w ∧ ∃ C z, O C ∧ Has C 0 z w
theorem has_rely {N0 O : Nat → Prop} {C : Nat} {z : Value} {w w₁ : World} (hC : O C) (hb : C < w.heap.size) (h : Has C 0 z w) (r : Rly N0 O w w₁) : Has C 0 z w₁ := by
  unfold Has at h ⊢
  unfold World.cell? at h ⊢
  rw [show w₁.heap[(⟨C, 0, none⟩ : Addr).block]? = w.heap[(⟨C, 0, none⟩ : Addr).block]? from r.2.1 C hb (.inr hC)]
  exact h
/-- At the send. -/
theorem at_send {Y : Ph} (H : WgLib Y.P L) (hty : Y.ty = L.tWg) (K : PhOk Y) {f : FuncId} {fn : Func} (hf : Y.P.funcs[f]? = some fn) (hres : fn.results = #[]) {lo i : Nat} {k : List Item} {t : Tm} {h : Hp} {lb : Nat → Nat} {s : Sim} {O Pr : Nat → Prop} {ls : Lv} {w : World} {T : Array Value}
    (S : SendsAt Y lo i k t h) (M : Mem Y.fro lo s O Pr lb ls h w) (tm : TmOk s lb ls.length t T) (hOb : ∀ b, O b → Y.Wg < b) : AtSend Y i O (G ((baseD f).at ⟨T, [dcall L.done #[.pointer (some ⟨Y.Wg, 0, none⟩)]]⟩ k) [bot Y.P]) w := by
  obtain ⟨ops, j, o, x, y, v, rfl, ho, hg, hd, hop, hx, hy, hP⟩ := S.ex
  have hx' : (⟨T, [dcall L.done #[.pointer (some ⟨Y.Wg, 0, none⟩)]]⟩ : Act).eval x = .chan (some Y.Ch) := by
    have := ev_ok (a := ⟨T, [dcall L.done #[.pointer (some ⟨Y.Wg, 0, none⟩)]]⟩) tm hx
    generalize Act.eval ⟨T, [dcall L.done #[.pointer (some ⟨Y.Wg, 0, none⟩)]]⟩ x = z at this
    cases this; rfl
  have hy' := ev_ok (a := ⟨T, [dcall L.done #[.pointer (some ⟨Y.Wg, 0, none⟩)]]⟩) tm hy
  generalize hvr : Act.eval ⟨T, [dcall L.done #[.pointer (some ⟨Y.Wg, 0, none⟩)]]⟩ y = vr at hy'
  obtain ⟨hR, C, z, hC, hHas⟩ := hP s O w vr M.sim hy' hOb
  have hcomm : ∀ w, stepG Y.P false (G ((baseD f).at ⟨T, [dcall L.done #[.pointer (some ⟨Y.Wg, 0, none⟩)]]⟩ [.inRegion ops [j]]) [bot Y.P]) w = .comm (G ((baseD f).at ⟨T, [dcall L.done #[.pointer (some ⟨Y.Wg, 0, none⟩)]]⟩ [.inRegion ops [j]]) [bot Y.P]) #[scase Y.Ch vr (.tuple #[])] true .send w #[] := by
    intro w
    have hr : (execOp (Act.eval ⟨T, [dcall L.done #[.pointer (some ⟨Y.Wg, 0, none⟩)]]⟩) o).run Y.P w = .ok (.comm #[scase Y.Ch vr (.tuple #[])] true .send) w := by
      unfold execOp
      simp [hop, hx', hvr, scase, pure]
    rw [stepG_comm ho (by simp [Region.wanted, hg]) (by simp [baseD]) hr]
    have he : (execOp (Act.eval ⟨T, [dcall L.done #[.pointer (some ⟨Y.Wg, 0, none⟩)]]⟩) o).events Y.P w #[] = #[] := by
      unfold execOp
      simp [hop]
    unfold listed
    rw [he, seen_none]
  refine ⟨rfl, vr, .tuple #[], _, C, 0, z, hC, hHas, hR, hcomm w, fun w' hl hh => ?_⟩
  have hfin : (G ((baseD f).at ⟨T, [dcall L.done #[.pointer (some ⟨Y.Wg, 0, none⟩)]]⟩ [.inRegion ops [j]]) [bot Y.P]).finishComm Y.P #[Go.Conc.scase Y.Ch vr (.tuple #[])] .send 0 undef false = G ((baseD f).at ⟨T, [dcall L.done #[.pointer (some ⟨Y.Wg, 0, none⟩)]]⟩ [.inRegion ops []]) [bot Y.P] := by
    have e : ((baseD f).at ⟨T, [dcall L.done #[.pointer (some ⟨Y.Wg, 0, none⟩)]]⟩ [.inRegion ops [j]]).finish undef = (baseD f).at ⟨T, [dcall L.done #[.pointer (some ⟨Y.Wg, 0, none⟩)]]⟩ [.inRegion ops []] := by
      rw [Frame.finish_at, ho]; simp [hd, Act.put]
    simp only [Goroutine.finishComm, G, commResult, e]
  rw [hfin]
  exact ⟨30, done_walk H hty (quits_tail hf hres T) w' hl hh⟩
/-- THE WORKER, from its birth. -/
theorem worker_tree {Y : Ph} (H : WgLib Y.P L) (hty : Y.ty = L.tWg) (K : PhOk Y) {fW : FuncId} {fn : Func} {dop : Oper} {rest : Code} {rid : Nat} {ats : Array TypeId} (hf : Y.P.funcs[fW]? = some fn) (hname : (fn.name == "runtime.NumGoroutine") = false) (hb : fn.body = some (.seq (.region rid #[dop] false) rest))
    (hdop : dop.op = .defer { callee := .value (.func L.done), args := #[.tmp 0], argTypes := ats }) (hdg : dop.guard = none) (hdd : dop.dst = none) (hres : fn.results = #[]) {lo i : Nat} {t : Tm} {h : Hp} {s : Sim} {n : Nat → Prop} {w : World} {cap : Array Value}
    (hcap : cap[0]? = some (.pointer (some ⟨Y.Wg, 0, none⟩))) (hlen : cap.size ≤ fn.ntmps) (S : SimOk Y.fro lo s n h w) (hnW : ∀ b, n b → Y.Wg < b) (hWw : Y.Wg < w.heap.size) (tm : TmOk s (fun _ => 0) 0 t (cap ++ Array.replicate (fn.ntmps - cap.size) undef))
    (HR : R (treeCtx Y.P false Y.fro) lo fW fn (.mid [dcall L.done #[.pointer (some ⟨Y.Wg, 0, none⟩)]] fun k t _ h => SendsAt Y lo i k t h) [.code rest] t [] h) :
    JW Y.P false Y.fro (AtSend Y i) n (born Y.P { target := .fn (.func fW) cap, args := #[] }) w := by
  refine JW.idle rfl (fun w₁ _ => born_step hf hname hb cap) fun w₁ r₁ => ?_
  refine JW.idle rfl (fun w₁ _ => stepG_seq) fun w₂ r₂ => ?_
  refine JW.idle rfl (fun w₁ _ => stepG_region) fun w₃ r₃ => ?_
  have h0 : (#[dop] : Array Oper)[0]? = some dop := rfl
  have hev : (⟨cap ++ Array.replicate (fn.ntmps - cap.size) undef, []⟩ : Act).eval (.tmp 0) = .pointer (some ⟨Y.Wg, 0, none⟩) := by
    have h1 : 0 < cap.size := (Array.getElem?_eq_some_iff.1 hcap).1
    simp [Act.eval, Array.getD_eq_getD_getElem?, Array.getElem?_append, h1]
    have := (Array.getElem?_eq_some_iff.1 hcap).2
    exact this
  refine JW.idle rfl (fun w₁ _ => by
    have := stepG_defer (P := Y.P) (main := false) (b := baseD fW) (a := ⟨cap ++ Array.replicate (fn.ntmps - cap.size) undef, []⟩) (k := [.code rest]) (cs := [bot Y.P]) (w := w₁) (rest := []) h0 (by simp [Region.wanted, hdg]) (by simp [baseD]) hdop
    simp only [hdd, Act.put, List.map_toArray, List.map_cons, List.map_nil, hev] at this
    exact this) fun w₄ r₄ => ?_
  refine JW.idle rfl (fun w₁ _ => stepG_region_end) fun w₅ r₅ => ?_
  have hr := (((r₁.trans r₂).trans r₃).trans r₄).trans r₅
  refine HR s n (fun _ => False) (fun _ => 0) w₅ (baseD fW) ⟨cap ++ Array.replicate (fn.ntmps - cap.size) undef, [dcall L.done #[.pointer (some ⟨Y.Wg, 0, none⟩)]]⟩ [bot Y.P] (AtSend Y i) rfl (by simp [baseD]) rfl (by simp; omega) ⟨S.rely hr, ⟨fun j cs hj => by simp at hj, fun j j' hj => by simp at hj⟩, fun _ hb => hb.elim⟩ tm ?_
  rintro k' t' ls' h' s' O' lb' w' ⟨T', ds⟩ hK hle M' tm' hdef hsz hO hkept
  cases hdef
  exact JW.stop fun w₁ r => at_send H hty K hf hres hK (M'.rely r) tm' fun b hb => (hO.2 b hb).elim (hnW b) fun x => by have := hr.1; omega
end Go.Id
/- The starter, from the group on to behind Wait: its own pieces are walked over the ideal memory, the library's by their laws. -/
namespace Go.Id
open Go.Conc Go.RowKit Go.Conc.Lib Go.ConcR.Gen
open Go.ConcN (WgLive Has)
open Go.ConcN.Gen
open Go.ConcR (WgAt stA smA Payload DC0)
set_option linter.unusedVariables false
set_option linter.unusedSectionVars false
/-! ### fewer ids -/
open Classical in
/-- Of the ids, these. -/
noncomputable def Sim.only (s : Sim) (D : Nat → Prop) (M : Nat → Prop := fun _ => False) : Sim := { adr := fun i => if D i then s.adr i else none, ep := s.ep, mp := fun i => if M i then s.mp i else none }
theorem only_adr {s : Sim} {D M : Nat → Prop} {i : Nat} {c : Cel} (h : (s.only D M).adr i = some c) : D i ∧ s.adr i = some c := by
  simp only [Sim.only] at h; split at h
  · exact ⟨‹_›, h⟩
  · cases h
theorem only_mp {s : Sim} {D M : Nat → Prop} {i b : Nat} (h : (s.only D M).mp i = some b) : M i ∧ s.mp i = some b := by
  simp only [Sim.only] at h; split at h
  · exact ⟨‹_›, h⟩
  · cases h
theorem only_of {s : Sim} {D M : Nat → Prop} {i : Nat} {c : Cel} (hd : D i) (h : s.adr i = some c) : (s.only D M).adr i = some c := by simp [Sim.only, hd, h]
/-- No address, or one of these. -/
def flatIn (D : Nat → Prop) : Value → Prop
  | .pointer (some a) => D a.block
  | .slice (some a) _ _ => D a.block
  | v => plainV v = true
theorem VR.only {s : Sim} {D M : Nat → Prop} {v vr : Value} (hf : flatIn D v) (h : VR s v vr) : VR (s.only D M) v vr := by
  cases h with
  | ptr id off sp a c ha he hh => exact .ptr id off sp a c (only_of hf ha) he hh
  | sl id off sp n fl a cap c ha he hh h0 hn => exact .sl id off sp n fl a cap c (only_of hf ha) he hh h0 hn
  | bool b => exact .bool b
  | int k n => exact .int k n
  | float k n => exact .float k n
  | complex k n m => exact .complex k n m
  | str x => exact .str x
  | ptr0 => exact .ptr0
  | sl0 => exact .sl0
  | map0 => exact .map0
  | map r b h => simp [flatIn, plainV] at hf
  | chan r => exact .chan r
  | fn f x y x' y' hx hy h1 h2 =>
    simp only [flatIn, plainV, Bool.and_eq_true, beq_iff_eq] at hf
    exact .fn f x y x' y' hx hy (fun i v w h => by have := (Array.getElem?_eq_some_iff.1 h).1; omega) (fun i v w h => by have := (Array.getElem?_eq_some_iff.1 h).1; omega)
  | fn0 => exact .fn0
  | if0 => exact .if0
  | iface t v w h => simp [flatIn, plainV] at hf
  | agg x y hs h h1 => simp [flatIn, plainV] at hf
  | tup x y hs h =>
    simp only [flatIn, plainV, beq_iff_eq] at hf
    exact .tup x y hs fun i v w h => by have := (Array.getElem?_eq_some_iff.1 h).1; omega
theorem plain_inv {s : Sim} {v vr : Value} (hf : plainV v = true) (h : VR s v vr) : vr = v := by
  cases h with
  | fn f x y x' y' hx hy h1 h2 =>
    simp only [plainV, Bool.and_eq_true, beq_iff_eq] at hf
    obtain rfl := Array.eq_empty_of_size_eq_zero hf.1
    obtain rfl := Array.eq_empty_of_size_eq_zero hf.2
    obtain rfl := Array.eq_empty_of_size_eq_zero (xs := x') (by rw [← hx]; rfl)
    obtain rfl := Array.eq_empty_of_size_eq_zero (xs := y') (by rw [← hy]; rfl)
    rfl
  | tup x y hs h =>
    simp only [plainV, beq_iff_eq] at hf
    obtain rfl := Array.eq_empty_of_size_eq_zero hf
    obtain rfl := Array.eq_empty_of_size_eq_zero (xs := y) (by rw [← hs]; rfl)
    rfl
  | bool b => rfl
  | int k n => rfl
  | float k n => rfl
  | complex k n m => rfl
  | str x => rfl
  | ptr0 => rfl
  | sl0 => rfl
  | map0 => rfl
  | chan r => rfl
  | fn0 => rfl
  | if0 => rfl
  | ptr => simp [plainV] at hf
  | sl => simp [plainV] at hf
  | map => simp [plainV] at hf
  | iface => simp [plainV] at hf
  | agg => simp [plainV] at hf
/-- The blocks that one works on may be others, where no id is one's own. -/
theorem SimOk.reset {N0 : Nat → Prop} {lo : Nat} {s : Sim} {O O' : Nat → Prop} {h : Hp} {w w' : World} (H : SimOk N0 lo s O h w) (hn : h.n = lo) (hk : ∀ b, N0 b → w'.heap[b]? = w.heap[b]?) (hsz : w.heap.size ≤ w'.heap.size)
    (hO : ∀ b, O' b → b < w'.heap.size ∧ ¬ N0 b) : SimOk N0 lo s O' h w' :=
  ⟨fun i c hc => let ⟨h1, h2, cs, sz, h3, ys, h4, h5⟩ := H.cells i c hc; ⟨h1, h2, cs, sz, h3, ys, h4, h5.of_heap (hk _ (h2 (hn ▸ h1)))⟩,
   fun i c hc hl => absurd (H.cells i c hc).1 (by omega), fun i c j c' h1 h2 hl => absurd (H.cells i c h1).1 (by omega), fun i b hb => ⟨(H.maps i b hb).1, fun hl => absurd (H.maps i b hb).1 (by omega)⟩,
   fun b hb => (hO b hb).1, fun b hb => (hO b hb).2, fun b hb => Nat.lt_of_lt_of_le (H.base b hb) hsz, H.lohi⟩
/-- What a child is given: what lies below 'lo', and one object of plain data, whose block goes over to it. -/
theorem SimOk.hand {N0 : Nat → Prop} {lo : Nat} {s s' : Sim} {O O' : Nat → Prop} {h h' : Hp} {w w' : World} (H : SimOk N0 lo s O h w) (hn : h.n = lo) (hk : ∀ b, N0 b → w'.heap[b]? = w.heap[b]?) (hsz : w.heap.size ≤ w'.heap.size)
    (H' : SimOk N0 lo s' O' h' w') (hle : s.le s') (hg : ∀ i, i < lo → h'.g i = h.g i) {id : Nat} {c : Cel} (hid : lo ≤ id) (hc : s'.adr id = some c) {cs : List Value} {sz e : Nat} (ho : h'.g id = .cells cs sz e) (hp : ∀ v ∈ cs, plainV v = true) :
    SimOk N0 lo (s'.only (fun i => (i < lo ∧ s.adr i ≠ none) ∨ i = id) fun i => i < lo ∧ s.mp i ≠ none) (fun b => b = c.b) h' w' ∧ s.le (s'.only (fun i => (i < lo ∧ s.adr i ≠ none) ∨ i = id) fun i => i < lo ∧ s.mp i ≠ none) := by
  have hl : s.le (s'.only (fun i => (i < lo ∧ s.adr i ≠ none) ∨ i = id) fun i => i < lo ∧ s.mp i ≠ none) := by
    refine ⟨fun i c hc => ?_, fun i b hb => ?_⟩
    · obtain ⟨c', h1, h2, h3⟩ := hle.adr i c hc
      exact ⟨c', only_of (.inl ⟨hn ▸ (H.cells i c hc).1, by rw [hc]; simp⟩) h1, h2, h3⟩
    · simp only [Sim.only]
      rw [if_pos ⟨hn ▸ (H.maps i b hb).1, by rw [hb]; simp⟩]
      exact hle.mp i b hb
  have H0 : SimOk N0 lo s (fun _ => False) h w' := H.reset hn hk hsz fun _ hb => hb.elim
  refine ⟨⟨fun i c' hc' => ?_, fun i c' hc' hli => ?_, fun i c₁ j c₂ h1 h2 => H'.apart i c₁ j c₂ (only_adr h1).2 (only_adr h2).2, fun i b hb => ⟨(H'.maps i b (only_mp hb).2).1, fun hl => absurd (only_mp hb).1.1 (by omega)⟩, fun b hb => hb ▸ H'.now _ (H'.own id c hc hid).1, fun b hb => hb ▸ H'.new _ (H'.own id c hc hid).1, H'.base, H'.lohi⟩, hl⟩
  · replace hc' := only_adr hc'
    obtain ⟨hd, hc'⟩ := hc'
    rcases hd with ⟨hd1, hd2⟩ | rfl
    · cases hc0 : s.adr i with
      | none => exact absurd hc0 hd2
      | some c0 =>
        obtain ⟨g1, g2, cs0, sz0, g3, ys, g4, g5⟩ := H0.cells i c0 hc0
        obtain ⟨c'', e1, e2, e3⟩ := hle.adr i c0 hc0
        obtain rfl : c'' = c' := by rw [hc'] at e1; exact (Option.some.inj e1).symm
        obtain ⟨k1, k2, cs1, sz1, k3, _⟩ := H'.cells i c'' hc'
        rw [hg i hd1, g3] at k3
        injection k3 with e4 e5 e6
        obtain rfl := e3 e6
        exact ⟨k1, k2, cs0, sz0, by rw [hg i hd1, g3]; exact congrArg _ e6, ys, g4.mono hl, g5⟩
    · obtain rfl : c = c' := by rw [hc] at hc'; exact Option.some.inj hc'
      obtain ⟨k1, k2, cs1, sz1, k3, ys, k4, k5⟩ := H'.cells i c hc
      rw [ho] at k3
      injection k3 with e4 e5 e6
      subst e4
      have hys : ys = cs := by
        apply List.ext_getElem?
        intro j
        cases hj : cs[j]? with
        | none =>
          rw [List.getElem?_eq_none_iff] at hj ⊢
          rw [← k4.1.1]; exact hj
        | some v =>
          obtain ⟨u, hu, hv⟩ := k4.1.get hj
          rw [hu]
          have hpv := hp v (List.mem_of_getElem? hj)
          rw [plain_inv hpv hv]
      subst hys
      exact ⟨k1, k2, _, _, by rw [ho]; exact congrArg _ e6, _, ⟨VRs.of_plain _ hp, k4.2⟩, k5⟩
  · replace hc' := only_adr hc'
    obtain ⟨hd, hc'⟩ := hc'
    rcases hd with ⟨hd1, _⟩ | rfl
    · omega
    · obtain rfl : c = c' := by rw [hc] at hc'; exact Option.some.inj hc'
      obtain ⟨_, k⟩ := H'.own i c hc hli
      exact ⟨rfl, k⟩
/-- A value that lies below 'lo' is what it was. -/
theorem VR.back {N0 : Nat → Prop} {lo : Nat} {s s' : Sim} {O O' : Nat → Prop} {h h' : Hp} {w w' : World} (H : SimOk N0 lo s O h w) (H' : SimOk N0 lo s' O' h' w') (hg : ∀ i, i < lo → h'.g i = h.g i) (hle : s.le s') {v vr : Value}
    (hf : flatIn (fun i => i < lo ∧ s.adr i ≠ none) v) (hv : VR s' v vr) : VR s v vr := by
  have key : ∀ id c', id < lo → s.adr id ≠ none → s'.adr id = some c' → s.adr id = some c' ∧ s'.ep id = s.ep id := by
    intro id c' hl hn hc'
    cases hc : s.adr id with
    | none => exact absurd hc hn
    | some c =>
      obtain ⟨c'', h1, h2, h3⟩ := hle.adr id c hc
      obtain rfl : c'' = c' := by rw [hc'] at h1; exact (Option.some.inj h1).symm
      obtain ⟨_, _, cs, sz, g1, _⟩ := H.cells id c hc
      obtain ⟨_, _, cs', sz', g2, _⟩ := H'.cells id c'' hc'
      rw [hg id hl, g1] at g2
      injection g2 with _ _ e
      exact ⟨by rw [h3 e], e.symm⟩
  cases hv with
  | ptr id off sp a c ha he hh => obtain ⟨e1, e2⟩ := key id c hf.1 hf.2 ha; exact .ptr id off sp a c e1 (by omega) (by rw [← e2]; exact hh)
  | sl id off sp n fl a cap c ha he hh h0 hn => obtain ⟨e1, e2⟩ := key id c hf.1 hf.2 ha; exact .sl id off sp n fl a cap c e1 (by omega) (by rw [← e2]; exact hh) h0 hn
  | bool b => exact .bool b
  | int k n => exact .int k n
  | float k n => exact .float k n
  | complex k n m => exact .complex k n m
  | str x => exact .str x
  | ptr0 => exact .ptr0
  | sl0 => exact .sl0
  | map0 => exact .map0
  | map r b h => simp [flatIn, plainV] at hf
  | chan r => exact .chan r
  | fn f x y x' y' hx hy h1 h2 =>
    simp only [flatIn, plainV, Bool.and_eq_true, beq_iff_eq] at hf
    exact .fn f x y x' y' hx hy (fun i v w h => by have := (Array.getElem?_eq_some_iff.1 h).1; omega) (fun i v w h => by have := (Array.getElem?_eq_some_iff.1 h).1; omega)
  | fn0 => exact .fn0
  | if0 => exact .if0
  | iface t v w h => simp [flatIn, plainV] at hf
  | agg x y hs h h1 => simp [flatIn, plainV] at hf
  | tup x y hs h =>
    simp only [flatIn, plainV, beq_iff_eq] at hf
    exact .tup x y hs fun i v w h => by have := (Array.getElem?_eq_some_iff.1 h).1; omega
/-- What may be carried on in temporaries. -/
def slIn (D : Nat → Prop) : Sl → Prop
  | .v v => flatIn D v
  | .b _ | .r _ => True
  | _ => False
def Carry (D : Nat → Prop) (t t' : Tm) : Prop := ∀ j x, look t' j = some x → look t j = some x ∧ slIn D x
theorem Carry.tm {N0 : Nat → Prop} {lo : Nat} {s s' : Sim} {O O' : Nat → Prop} {h h' : Hp} {w w' : World} (H : SimOk N0 lo s O h w) (H' : SimOk N0 lo s' O' h' w') (hg : ∀ i, i < lo → h'.g i = h.g i) (hle : s.le s') {t t' : Tm} {lb lb' : Nat → Nat} {n n' : Nat} {T : Array Value}
    (hc : Carry (fun i => i < lo ∧ s.adr i ≠ none) t t') (tm : TmOk s' lb' n' t T) : TmOk s lb n t' T := by
  intro j x hx
  obtain ⟨h1, h2⟩ := hc j x hx
  obtain ⟨vr, h3, h4⟩ := tm j x h1
  refine ⟨vr, h3, ?_⟩
  cases x with
  | v v => exact VR.back H H' hg hle h2 h4
  | b q => exact h4
  | r v => exact h4
  | l a b => exact h2.elim
  | c a b => exact h2.elim
/-- What a closure's function finds. -/
def capTm : Nat → List (Bool × Value) → Tm
  | _, [] => []
  | i, (q, v) :: r => (i, match q with | true => .r v | false => .v v) :: capTm (i + 1) r
theorem look_cap : ∀ (cs : List (Bool × Value)) (i j : Nat) (x : Sl), look (capTm i cs) j = some x → ∃ q v, cs[j - i]? = some (q, v) ∧ i ≤ j ∧ x = (match q with | true => .r v | false => .v v)
  | [], i, j, x, h => by simp [capTm, look] at h
  | (q, v) :: r, i, j, x, h => by
    simp only [capTm, look] at h
    split at h
    · rename_i e; subst e; exact ⟨q, v, by simp, Nat.le_refl _, (Option.some.inj h).symm⟩
    · obtain ⟨q', v', h1, h2, h3⟩ := look_cap r (i + 1) j x h
      exact ⟨q', v', by rw [show j - i = (j - (i + 1)) + 1 from by omega]; simpa using h1, by omega, h3⟩
theorem cap_tm {s : Sim} {D M : Nat → Prop} {caps : List (Bool × Value)} {ws : List Value} (hlen : caps.length = ws.length) (h : ∀ (i : Nat) (q : Bool) (v w : Value), caps[i]? = some (q, v) → ws[i]? = some w → (match q with | true => w = v | false => VR s v w))
    (hf : ∀ v, (false, v) ∈ caps → flatIn D v) {lb : Nat → Nat} {n : Nat} (T : Array Value) : TmOk (s.only D M) lb n (capTm 0 caps) (ws.toArray ++ T) := by
  intro j x hx
  obtain ⟨q, v, h1, _, rfl⟩ := look_cap caps 0 j x hx
  simp only [Nat.sub_zero] at h1
  have hj : j < ws.length := by rw [← hlen]; exact (List.getElem?_eq_some_iff.1 h1).1
  have h2 := h j q v ws[j] h1 (List.getElem?_eq_getElem hj)
  refine ⟨ws[j], by simp [Array.getElem?_append, hj], ?_⟩
  cases q with
  | true => exact h2
  | false => exact VR.only (hf v (List.mem_of_getElem? h1)) h2
end Go.Id
/- The starter's script: what its walk over the ideal memory must come by; then it is the phase's starter. -/
namespace Go.Id
open Go.Conc Go.RowKit Go.Conc.Lib Go.ConcR.Gen
open Go.ConcN (WgLive Has)
open Go.ConcN.Gen
open Go.ConcR (WgAt stA smA Payload DC0)
set_option linter.unusedVariables false
set_option linter.unusedSectionVars false
variable [Payload] {L : WgLink}
section
variable (Y : Ph) (L : WgLink) (lo : Nat) (s0 : Sim) (h0 : Hp) (f : FuncId) (fn : Func)
def ptrW : Value := .pointer (some ⟨Y.Wg, 0, none⟩)
/-- The child that a closure makes is worker i. -/
structure ChildOk (i : Nat) (fW : FuncId) (caps : List (Bool × Value)) (h : Hp) : Prop where
  ex : ∃ (fnW : Func) (dop : Oper) (rest : Code) (rid : Nat) (ats : Array TypeId) (id : Nat) (cs : List Value) (sz e : Nat) (p : Value) (off : Nat) (sp : Option Nat),
    Y.P.funcs[fW]? = some fnW ∧ (fnW.name == "runtime.NumGoroutine") = false ∧ fnW.body = some (.seq (.region rid #[dop] false) rest) ∧ dop.op = .defer { callee := .value (.func L.done), args := #[.tmp 0], argTypes := ats } ∧ dop.guard = none ∧ dop.dst = none ∧ fnW.results = #[] ∧
    caps[0]? = some (true, ptrW Y) ∧ caps.length ≤ fnW.ntmps ∧ (∀ v, (false, v) ∈ caps → flatIn (fun j => (j < lo ∧ s0.adr j ≠ none) ∨ j = id) v) ∧ lo ≤ id ∧ h.g id = .cells cs sz e ∧ (∀ v ∈ cs, plainV v = true) ∧
    (false, .pointer (some ⟨id, off, sp⟩)) ∈ caps ∧
    R (treeCtx Y.P false Y.fro) lo fW fnW (.mid [dcall L.done #[ptrW Y]] fun k t _ h => SendsAt Y lo i k t h) [.code rest] (capTm 0 caps) [] h
/-- At the go statement of worker i; 'Next': what is walked to behind it, from the old memory. -/
structure GoAt (i : Nat) (Next : En) (k : List Item) (t : Tm) (h : Hp) : Prop where
  ext : ∀ j, j < lo → h.g j = h0.g j
  ex : ∃ (ops : Array Oper) (j : Nat) (rest : List Nat) (k1 : List Item) (o : Oper) (c : Operand) (ats : Array TypeId) (fW : FuncId) (caps : List (Bool × Value)) (t' : Tm),
    k = .inRegion ops (j :: rest) :: k1 ∧ ops[j]? = some o ∧ o.guard = none ∧ o.dst = none ∧ o.op = .go { callee := .value c, args := #[], argTypes := ats } ∧ evS t c = some (.c fW caps) ∧ (∃ jc, c = .tmp jc) ∧ ChildOk Y L lo s0 i fW caps h ∧
    Carry (fun i => i < lo ∧ s0.adr i ≠ none) t t' ∧ R (treeCtx Y.P true Y.fro) lo f fn Next (.inRegion ops rest :: k1) t' [] h0
/-- At the call of Add. -/
structure AddAt (Next : En) (k : List Item) (t : Tm) (ls : Lv) (h : Hp) : Prop where
  ex : ∃ (ops : Array Oper) (j : Nat) (rest : List Nat) (k1 : List Item) (o : Oper) (x : Operand) (ats : Array TypeId),
    k = .inRegion ops (j :: rest) :: k1 ∧ ops[j]? = some o ∧ o.guard = none ∧ o.op = .call { callee := .value (.func L.add), args := #[x, .const (.int .i64 1)], argTypes := ats } ∧ evS t x = some (.r (ptrW Y)) ∧ dstOk fn.ntmps o.dst = true ∧
    R (treeCtx Y.P true Y.fro) lo f fn Next (.inRegion ops rest :: k1) (t.put o.dst (.v (.tuple #[]))) ls h
/-- At the call of Wait. -/
structure WaitAt (tE : Tm) (kE : List Item) (k : List Item) (t : Tm) (h : Hp) : Prop where
  ext : ∀ j, j < lo → h.g j = h0.g j
  ex : ∃ (ops : Array Oper) (j : Nat) (rest : List Nat) (k1 : List Item) (o : Oper) (x : Operand) (ats : Array TypeId),
    k = .inRegion ops (j :: rest) :: k1 ∧ ops[j]? = some o ∧ o.guard = none ∧ o.op = .call { callee := .value (.func L.wait), args := #[x], argTypes := ats } ∧ evS t x = some (.r (ptrW Y)) ∧ dstOk fn.ntmps o.dst = true ∧
    Carry (fun i => i < lo ∧ s0.adr i ≠ none) (t.put o.dst (.v (.tuple #[]))) tE ∧ kE = .inRegion ops rest :: k1
/-- r workers are still to be started. -/
def SpFrom (tE : Tm) (kE : List Item) : Nat → List Item → Tm → Lv → Hp → Prop
  | 0, k, t, ls, h => WaitAt Y L lo s0 h0 fn tE kE k t h
  | r + 1, k, t, ls, h => AddAt Y L lo f fn (.mid [] fun k t _ h => GoAt Y L lo s0 h0 f fn (Y.n - (r + 1)) (.mid [] (SpFrom tE kE r)) k t h) k t ls h
end
/-- What is known when the starter is through: its frame, its temporaries. -/
def StEnd (Y : Ph) (lo : Nat) (s0 : Sim) (h0 : Hp) (f : FuncId) (fn : Func) (tE : Tm) (kE : List Item) (b : Frame) (cs : List Frame) (w0 : World) (O : Nat → Prop) (g : Goroutine) (w : World) : Prop :=
  (∀ b, O b → b < w.heap.size ∧ ¬ Y.fro b ∧ Y.Wg < b) ∧ (∀ b, Y.fro b → w.heap[b]? = w0.heap[b]?) ∧ w0.heap.size ≤ w.heap.size ∧ w.os = w0.os ∧ w.output = w0.output ∧
  ∃ a : Act, a.defers = [] ∧ a.tmps.size = fn.ntmps ∧ TmOk s0 (fun _ => 0) 0 tE a.tmps ∧ Leaves Y.P (G (b.at a kE) cs) g w
section
variable {Y : Ph} {lo : Nat} {s0 : Sim} {h0 : Hp} {f : FuncId} {fn : Func} {tE : Tm} {kE : List Item} {b : Frame} {cs : List Frame} {w0 : World}
theorem raw_eval {s : Sim} {lb : Nat → Nat} {n : Nat} {t : Tm} {a : Act} {x : Operand} {v : Value} (tm : TmOk s lb n t a.tmps) (h : evS t x = some (.r v)) : a.eval x = v := by
  cases x with
  | tmp j =>
    obtain ⟨vr, h1, h2⟩ := tm j _ h
    have h2 : vr = v := h2
    subst h2
    simp [Act.eval, Array.getD_eq_getD_getElem?, h1]
  | const u => simp only [evS] at h; split at h <;> cases h
  | func g => cases h
  | global g => cases h
theorem run_go {P : Program} {a : Act} {w : World} {o : Oper} {c : Operand} {ats : Array TypeId} {fW : FuncId} {ws : Array Value} (hop : o.op = .go { callee := .value c, args := #[], argTypes := ats }) (hc : ∃ jc, c = .tmp jc) (hv : a.eval c = .func (.func fW) #[] ws) :
    (execOp a.eval o).run P w = .ok (.spawn { target := .fn (.func fW) ws, args := #[] }) w ∧ (execOp a.eval o).events P w #[] = #[] := by
  obtain ⟨jc, rfl⟩ := hc
  constructor
  · unfold execOp
    simp only [hop, resolve, hv, Deferred.ofValue]
    simp
  · unfold execOp
    simp only [hop, resolve, hv, Deferred.ofValue]
    simp
theorem add_at (H : WgLib Y.P L) (hty : Y.ty = L.tWg) (hWf : ¬ Y.fro Y.Wg) {i : Nat} {Next : (Nat → Prop) → Goroutine → World → Prop} {NE : En} (hNE : NE.ds = []) {k : List Item} {t : Tm} {ls : Lv} {h : Hp} (A : AddAt Y L lo f fn NE k t ls h)
    {s : Sim} {O Pr : Nat → Prop} {lb : Nat → Nat} {w : World} {a : Act} (hbf : b.fn = f) (hbk : b.kind ≠ .early) (hd : a.defers = []) (hsz : a.tmps.size = fn.ntmps) (M : Mem Y.fro lo s O Pr lb ls h w) (tm : TmOk s lb ls.length t a.tmps) (hOW : ∀ b, O b → Y.Wg < b)
    (hA : ∀ w₁, Rly Y.fro O w w₁ → Aft (treeCtx Y.P true Y.fro) lo fn NE s O Pr w₁ b cs (AtGo Y i Next)) : AtAdd Y i Next O (G (b.at a k) cs) w := by
  obtain ⟨ops, j, rest, k1, o, x, ats, rfl, ho, hg, hop, hx, hdst, HR⟩ := A.ex
  intro hlv
  refine ⟨13, Goes.step rfl fun w₁ r₁ => ?_⟩
  have hxe : a.eval x = ptrW Y := raw_eval tm hx
  rw [stepG_enter ho (by simp [Region.wanted, hg]) hbk (run_call_body hop H.f_add (nm_add L) rfl), goes_go]
  have hl : listed Y.P b.fn a o w₁ = #[] := by unfold listed; rw [events_call_body hop H.f_add (nm_add L) rfl]; exact seen_none _ _
  refine ⟨⟨rfl, hl⟩, ?_⟩
  have he : (#[x, .const (.int .i64 1)] : Array Operand).map a.eval = #[.pointer (some ⟨Y.Wg, 0, none⟩), .int .i64 1] := by simp only [List.map_toArray, List.map_cons, List.map_nil, hxe]; rfl
  rw [he]
  refine add_walk (F := fun w' => Rly Y.fro O w w') H hty ⟨hWf, fun h => Nat.lt_irrefl _ (hOW _ h)⟩ (fun _ _ r h => h.trans r) (fun w' hw' => ?_) w₁ r₁.1 (r₁.2 hlv)
  have hb : (ops[j]?).bind (·.dst) = o.dst := by rw [ho]; rfl
  rw [hb]
  exact HR s O Pr lb w' b (a.put o.dst (.tuple #[])) cs (AtGo Y i Next) hbf hbk (by rw [put_defers, hd, hNE]) (by rw [put_size]; exact hsz) (M.rely hw') (tm.put (by rw [hsz]; exact dstOk_lt hdst) (VR.plain s rfl)) (hA w' hw')
theorem wait_at (H : WgLib Y.P L) (hty : Y.ty = L.tWg) (hWf : ¬ Y.fro Y.Wg) (B0 : SimOk Y.fro lo s0 (fun _ => False) h0 w0) (hn : h0.n = lo) {k : List Item} {t : Tm} {h : Hp} (A : WaitAt Y L lo s0 h0 fn tE kE k t h)
    {s : Sim} {O Pr : Nat → Prop} {lb : Nat → Nat} {ls : Lv} {w : World} {a : Act} (hbk : b.kind ≠ .early) (hd : a.defers = []) (hsz : a.tmps.size = fn.ntmps) (M : Mem Y.fro lo s O Pr lb ls h w) (tm : TmOk s lb ls.length t a.tmps) (hle : s0.le s) (hOW : ∀ b, O b → Y.Wg < b)
    (hK : Kept Y.fro (fun _ => False) w0 w) : AtWait Y (StEnd Y lo s0 h0 f fn tE kE b cs w0) O (G (b.at a k) cs) w := by
  obtain ⟨ops, j, rest, k1, o, x, ats, rfl, ho, hg, hop, hx, hdst, hC, rfl⟩ := A.ex
  intro hlv
  have hxe : a.eval x = ptrW Y := raw_eval tm hx
  have hb : (ops[j]?).bind (·.dst) = o.dst := by rw [ho]; rfl
  refine ⟨AncW L Y (fun w' => Rly Y.fro O w w') (b.at a (.inRegion ops (j :: rest) :: k1)) cs, ?_, wait_round H hty ⟨hWf, fun h => Nat.lt_irrefl _ (hOW _ h)⟩ (fun _ _ r h => h.trans r) ?_, 4, Goes.step rfl fun w₁ r₁ => ?_⟩
  · rintro g w ⟨T, rfl, _⟩; rfl
  · intro g w' hw' hl
    rw [hb] at hl
    have M' := M.rely hw'
    have hK' : Kept Y.fro (fun _ => False) w0 w' := hK.trans ⟨fun _ h => h.elim, fun b hb => hw'.2.1 b (M.sim.base b hb) (.inl hb), hw'.1, hw'.2.2.1, hw'.2.2.2⟩
    refine ⟨fun b hb => ⟨M'.sim.now b hb, M'.sim.new b hb, hOW b hb⟩, hK'.low, hK'.size, hK'.os, hK'.out, a.put o.dst (.tuple #[]), by rw [put_defers]; exact hd, by rw [put_size]; exact hsz, ?_, hl⟩
    have B1 := B0.reset (O' := fun _ => False) hn hK'.low hK'.size fun _ h => h.elim
    exact Carry.tm B1 M'.sim A.ext hle hC (tm.put (by rw [hsz]; exact dstOk_lt hdst) (VR.plain s rfl))
  · rw [stepG_enter ho (by simp [Region.wanted, hg]) hbk (run_call_body hop H.f_wait (nm_wait L) rfl), goes_go]
    have hl : listed Y.P b.fn a o w₁ = #[] := by unfold listed; rw [events_call_body hop H.f_wait (nm_wait L) rfl]; exact seen_none _ _
    refine ⟨⟨rfl, hl⟩, ?_⟩
    have he : (#[x] : Array Operand).map a.eval = #[.pointer (some ⟨Y.Wg, 0, none⟩)] := by simp [hxe, ptrW]
    rw [he]
    exact wait_start H hty (fun _ _ r h => h.trans r) w₁ r₁.1 (r₁.2 hlv)
theorem go_at (H : WgLib Y.P L) (hty : Y.ty = L.tWg) (K : PhOk Y) (B0 : SimOk Y.fro lo s0 (fun _ => False) h0 w0) (hn : h0.n = lo) {i : Nat} {Next : (Nat → Prop) → Goroutine → World → Prop} {NE : En} (hNE : NE.ds = []) {k : List Item} {t : Tm} {h : Hp}
    (A : GoAt Y L lo s0 h0 f fn i NE k t h) {s : Sim} {O Pr : Nat → Prop} {lb : Nat → Nat} {ls : Lv} {w : World} {a : Act} (hbf : b.fn = f) (hbk : b.kind ≠ .early) (hd : a.defers = []) (hsz : a.tmps.size = fn.ntmps) (M : Mem Y.fro lo s O Pr lb ls h w) (tm : TmOk s lb ls.length t a.tmps) (hle : s0.le s) (hOW : ∀ b, O b → Y.Wg < b) (hW0 : Y.Wg < w0.heap.size)
    (hK : Kept Y.fro (fun _ => False) w0 w)
    (hA : ∀ n : Nat → Prop, (∀ b, n b → O b) → SimOk Y.fro lo s0 (fun b => O b ∧ ¬ n b) h0 w → Aft (treeCtx Y.P true Y.fro) lo fn NE s0 (fun b => O b ∧ ¬ n b) (fun _ => False) w b cs Next) : AtGo Y i Next O (G (b.at a k) cs) w := by
  obtain ⟨ops, j, rest, k1, o, c, ats, fW, caps, t', rfl, ho, hg, hdst, hop, hc, hct, hCh, hCar, HR⟩ := A.ex
  obtain ⟨fnW, dop, restW, rid, atsW, id, cs1, sz, e, p, off, sp, c1, c2, c3, c4, c5, c6, c7, c8, c9, c10, c11, c12, c13, c14, HW⟩ := hCh.ex
  -- the closure's value
  obtain ⟨ws, hv, hlen, hcap⟩ : ∃ ws : List Value, a.eval c = .func (.func fW) #[] ws.toArray ∧ caps.length = ws.length ∧ ∀ (i : Nat) (q : Bool) (v w : Value), caps[i]? = some (q, v) → ws[i]? = some w → (match q with | true => w = v | false => VR s v w) := by
    obtain ⟨jc, rfl⟩ := hct
    obtain ⟨vr, h1, ws, h2, h3, h4⟩ := tm jc _ hc
    exact ⟨ws, by simp [Act.eval, Array.getD_eq_getD_getElem?, h1, h2], h3, h4⟩
  -- the block that goes over
  obtain ⟨ip, hip⟩ := List.mem_iff_getElem?.1 c14
  have hipl : ip < ws.length := by rw [← hlen]; exact (List.getElem?_eq_some_iff.1 hip).1
  have hvp : VR s (.pointer (some ⟨id, off, sp⟩)) ws[ip] := hcap ip false _ _ hip (List.getElem?_eq_getElem hipl)
  obtain ⟨cel, hcel⟩ : ∃ cel, s.adr id = some cel := by
    generalize ws[ip] = z at hvp
    cases hvp with
    | ptr _ _ _ _ cel ha _ _ => exact ⟨cel, ha⟩
  have hOc := (M.sim.own id cel hcel c11).1
  obtain ⟨r1, r2⟩ := run_go (P := Y.P) (w := w) hop hct hv
  have hst : stepG Y.P true (G (b.at a (.inRegion ops (j :: rest) :: k1)) cs) w = .spawn (G (b.at a (.inRegion ops rest :: k1)) cs) (born Y.P { target := .fn (.func fW) ws.toArray, args := #[] }) w #[] := by
    have h1 := stepG_spawn (P := Y.P) (main := true) (b := b) (a := a) (k := k1) (cs := cs) (w := w) (rest := rest) ho (by simp [Region.wanted, hg]) hbk r1 rfl
    rw [hdst] at h1
    have h2 : listed Y.P b.fn a o w = #[] := by unfold listed; rw [r2, seen_none]
    rw [h2] at h1
    exact h1
  obtain ⟨S1, L1⟩ := SimOk.hand B0 hn hK.low hK.size M.sim hle A.ext c11 hcel c12 c13
  refine ⟨rfl, _, _, fun b => b = cel.b, hst, rfl, fun b hb => hb ▸ hOc, ?_, ?_⟩
  · refine worker_tree H hty K c1 c2 c3 c4 c5 c6 c7 (cap := ws.toArray) (t := capTm 0 caps) ?_ (by simp; omega) S1 (fun b hb => hb ▸ hOW _ hOc) (by have := hK.size; omega) ?_ HW
    · have h0 : 0 < ws.length := by rw [← hlen]; exact (List.getElem?_eq_some_iff.1 c8).1
      have := hcap 0 true _ ws[0] c8 (List.getElem?_eq_getElem h0)
      simp only at this
      simp [List.getElem?_eq_getElem h0, this, ptrW]
    · exact cap_tm hlen hcap c10 _
  · have S2 : SimOk Y.fro lo s0 (fun b => O b ∧ ¬ b = cel.b) h0 w := B0.reset hn hK.low hK.size fun b hb => ⟨M.sim.now b hb.1, M.sim.new b hb.1⟩
    have T2 : TmOk s0 (fun _ => 0) 0 t' a.tmps := Carry.tm (B0.reset (O' := fun _ => False) hn hK.low hK.size fun _ h => h.elim) M.sim A.ext hle hCar tm
    exact HR s0 (fun b => O b ∧ ¬ b = cel.b) (fun _ => False) (fun _ => 0) w b a cs Next hbf hbk (by rw [hd, hNE]) hsz ⟨S2, ⟨fun j cs hj => by simp at hj, fun j j' hj => by simp at hj⟩, fun _ hb => hb.elim⟩ T2 (hA _ (fun b hb => hb ▸ hOc) S2)
theorem starts_ok (H : WgLib Y.P L) (hty : Y.ty = L.tWg) (K : PhOk Y) (hWf : ¬ Y.fro Y.Wg) (hbf : b.fn = f) (hbk : b.kind ≠ .early) (B0 : SimOk Y.fro lo s0 (fun _ => False) h0 w0) (hW0 : Y.Wg < w0.heap.size) (hn : h0.n = lo) :
    ∀ (r : Nat) (s : Sim) (O Pr : Nat → Prop) (w : World), s0.le s → Kept Y.fro (fun _ => False) w0 w → (∀ b, O b → Y.Wg < b) →
      Aft (treeCtx Y.P true Y.fro) lo fn (.mid [] (SpFrom Y L lo s0 h0 f fn tE kE r)) s O Pr w b cs (Starts Y (StEnd Y lo s0 h0 f fn tE kE b cs w0) r)
  | 0, s, O, Pr, w, hle, hk, hOW => by
    intro k' t' ls' h' s' O' lb' w' a' hK' hle' M' tm' hdef hsz hO hkept
    refine JW.stop fun w₁ r₁ => ?_
    have hk₁ : Kept Y.fro (fun _ => False) w0 w₁ := (hk.trans (hkept.less fun _ h => h.elim)).trans ⟨fun _ h => h.elim, fun b hb => r₁.2.1 b (M'.sim.base b hb) (.inl hb), r₁.1, r₁.2.2.1, r₁.2.2.2⟩
    exact wait_at H hty hWf B0 hn hK' hbk hdef hsz (M'.rely r₁) tm' (hle.trans hle') (fun b h => (hO.2 b h).elim (hOW b) fun x => by have := hk.size; omega) hk₁
  | r + 1, s, O, Pr, w, hle, hk, hOW => by
    intro k' t' ls' h' s' O' lb' w' a' hK' hle' M' tm' hdef hsz hO hkept
    refine JW.stop fun w₁ r₁ => ?_
    have hk₁ : Kept Y.fro (fun _ => False) w0 w₁ := (hk.trans (hkept.less fun _ h => h.elim)).trans ⟨fun _ h => h.elim, fun b hb => r₁.2.1 b (M'.sim.base b hb) (.inl hb), r₁.1, r₁.2.2.1, r₁.2.2.2⟩
    have hOW' : ∀ b, O' b → Y.Wg < b := fun b h => (hO.2 b h).elim (hOW b) fun x => by have := hk.size; omega
    refine add_at H hty hWf rfl hK' hbf hbk hdef hsz (M'.rely r₁) tm' hOW' fun w₂ r₂ => ?_
    have hk₂ : Kept Y.fro (fun _ => False) w0 w₂ := hk₁.trans ⟨fun _ h => h.elim, fun b hb => r₂.2.1 b ((M'.rely r₁).sim.base b hb) (.inl hb), r₂.1, r₂.2.2.1, r₂.2.2.2⟩
    intro k3 t3 ls3 h3 s3 O3 lb3 w3 a3 hK3 hle3 M3 tm3 hdef3 hsz3 hO3 hkept3
    refine JW.stop fun w₄ r₄ => ?_
    have hk₄ : Kept Y.fro (fun _ => False) w0 w₄ := (hk₂.trans (hkept3.less fun _ h => h.elim)).trans ⟨fun _ h => h.elim, fun b hb => r₄.2.1 b (M3.sim.base b hb) (.inl hb), r₄.1, r₄.2.2.1, r₄.2.2.2⟩
    refine go_at H hty K B0 hn rfl hK3 hbf hbk hdef3 hsz3 (M3.rely r₄) tm3 ((hle.trans hle').trans hle3) (fun b h => (hO3.2 b h).elim (hOW' b) fun x => by have := hk₂.size; omega) hW0 hk₄ fun n hn' S => ?_
    exact starts_ok H hty K hWf hbf hbk B0 hW0 hn r s0 _ _ w₄ s0.le_refl hk₄ fun b h => (hO3.2 b h.1).elim (hOW' b) fun x => by have := hk₂.size; omega
end
end Go.Id
/- Goroutine 0 beside leavers: a channel of its own is closed, and received from. -/
namespace Go.Id
open Go.Conc
open Go.ConcN (sumTo)
open Go.ConcR (DC0)
set_option linter.unusedVariables false
set_option linter.unusedSectionVars false
section
variable {P : Program} {N0 : Nat → Prop} {O : Nat → Prop} {g : Goroutine} {w : World} {Stop : (Nat → Prop) → Goroutine → World → Prop}
theorem offersAt_none {g : Goroutine} (h : g.status = .running ∨ g.status = .finished) (c : Nat) (send : Bool) : offersAt g c send = [] := by
  unfold offersAt
  rcases h with h | h <;> rw [h]
theorem Frm.partners {gs : Array Goroutine} {t : Trace} {q : Nat → Nat} {Shun : Loc → Prop} (F : Frm P N0 O g w gs t q Shun) (c : Nat) (send : Bool) : Go.partners (gs.setIfInBounds 0 ph) c send = [] := by
  refine partners_nil fun j x hx => ?_
  rcases Nat.eq_zero_or_pos j with rfl | hj
  · have hlt : 0 < gs.size := (Array.getElem?_eq_some_iff.1 F.zero).1
    rw [Array.getElem?_setIfInBounds_self_of_lt hlt] at hx
    cases hx
    exact offersAt_none (.inr rfl) c send
  · rw [Array.getElem?_setIfInBounds_ne (by omega)] at hx
    exact offersAt_none (F.lv.old j x hj hx).status c send
/-- A step of the machine that is goroutine 0's own. -/
theorem JM.move (hrun : g.status = .running) (h : ∀ w₁, Rly N0 O w w₁ → ∀ gs t q Shun, Frm P N0 O g w₁ gs t q Shun → ∃ g' w₂ gs' u, (∀ sl, runT P (crowd gs w₁ sl) 0 = (.next (crowd gs' w₂ sl), u)) ∧ gs'.size = gs.size ∧ gs'[0]? = some g' ∧ (∀ j x, 0 < j → gs[j]? = some x → gs'[j]? = some x) ∧
      w₁.heap.size ≤ w₂.heap.size ∧ (∀ op ∈ u, op.g = 0 ∧ (∀ b, op.act.touch? = some b → Shun b.loc → b.kind ≠ .plain) ∧ op.act.low w₂.heap.size) ∧ Deaf (t ++ u) 0 = Deaf t 0 ∧ JM P N0 Stop (grow O w₁ w₂) g' w₂) : JM P N0 Stop O g w := by
  intro w₁ hr gs sl t q S F
  obtain ⟨N, gs₁, d, sl₁, sl₂, t₁, q₁, hN, F₁, d', hst⟩ := Frm.pick hrun _ gs w₁ sl t q (Nat.le_refl _) F
  have hr₁ := (hr.trans (rly_at w₁ d)).trans (rly_at (w₁.at d) d')
  generalize hwx : (w₁.at d).at d' = wx at *
  have F₂ : Frm P N0 O g wx gs₁ t₁ q₁ S := by rw [← hwx]; exact ⟨F₁.zero, F₁.lv, F₁.past, F₁.shun, F₁.old, F₁.now, F₁.base, F₁.num⟩
  obtain ⟨g', w₂, gs', u, hrunT, hsz, h0, hold, hsize, hu, hdeaf, hJ⟩ := h wx hr₁ gs₁ t₁ q₁ S F₂
  have hlt : 0 < gs₁.size := (Array.getElem?_eq_some_iff.1 F₂.zero).1
  have F₃ : Frm P N0 (grow O wx w₂) g' w₂ gs' (t₁ ++ u) q₁ S := by
    refine ⟨h0, ⟨fun j y hj hy => ?_, fun j hj => ?_⟩, (F₂.past.mono hsize).app0 (fun op hop => (hu op hop).1) (fun op hop => (hu op hop).2.1) hdeaf (fun op hop => (hu op hop).2.2), fun l b hl hb => ?_, fun l b hl hb => Nat.lt_of_lt_of_le (F₂.old l b hl hb) hsize,
      fun b hb => hb.elim (fun h => Nat.lt_of_lt_of_le (F₂.now b h) hsize) (·.2), fun b hb => Nat.lt_of_lt_of_le (F₂.base b hb) hsize, fun op hop => ?_⟩
    · have hjl : j < gs₁.size := by rw [← hsz]; exact (Array.getElem?_eq_some_iff.1 hy).1
      have := hold j _ hj (Array.getElem?_eq_getElem hjl)
      rw [hy] at this
      cases this
      rw [Deaf_other t₁ (g' := 0) (by omega) _ (fun op hop => (hu op hop).1)]
      exact F₂.lv.old j _ hj (Array.getElem?_eq_getElem hjl)
    · rw [Deaf_other t₁ (g' := 0) (by omega) _ (fun op hop => (hu op hop).1)]
      exact F₂.lv.above j (by omega)
    · rintro (h | h | ⟨h, _⟩)
      · exact F₂.shun l b hl hb (.inl h)
      · exact F₂.shun l b hl hb (.inr h)
      · have := F₂.old l b hl hb; omega
    · rw [hsz]; exact (Array.mem_append.1 hop).elim (F₂.num op) fun x => by rw [(hu op x).1]; exact hlt
  obtain ⟨N₄, gs₄, sl', t'', q', Shun', g'', w', O', hr', F', hS⟩ := hJ w₂ (Rly.refl _ _ _) gs' sl₂ (t₁ ++ u) q₁ S F₃
  refine ⟨N + (1 + N₄), gs₄, sl', t'', q', Shun', g'', w', O', ?_, F', hS⟩
  rw [runNT_add, hN]
  simp only
  rw [runNT_add]
  have h1 : runNT P 1 (crowd gs₁ (w₁.at d) sl₁) t₁ = (.next (crowd gs' w₂ sl₂), t₁ ++ u) := by
    simp only [runNT, hst, hrunT sl₂]
  rw [h1]
  exact hr'
/-- Steps that turn nothing. -/
theorem JM.goes {g' : Goroutine} : ∀ (m : Nat) (g : Goroutine) (w : World), Goes P true (fun _ _ => True) DC0 (fun x _ => x = g') m g w → (∀ w₁, Rly N0 O w w₁ → JM P N0 Stop O g' w₁) → JM P N0 Stop O g w
  | 0, g, w, h, hJ => by
    obtain rfl := h w trivial
    exact hJ w (Rly.refl _ _ _)
  | m + 1, g, w, h, hJ => by
    rcases h with h | ⟨hs, h⟩
    · obtain rfl := h w trivial
      exact hJ w (Rly.refl _ _ _)
    · refine JM.step hs fun w₁ r => ?_
      obtain ⟨g₁, w', es, hgo, ⟨e1, rfl⟩, hg'⟩ := goes_elim (h w₁ trivial)
      subst e1
      refine ⟨g₁, _, #[], hgo, guar_idle _ _ _, ?_⟩
      rw [grow_self]
      exact JM.goes m g₁ _ hg' fun w₂ r₂ => hJ w₂ (r.trans r₂)
end
section
variable {P : Program} {N0 : Nat → Prop} {O : Nat → Prop} {w : World} {Stop : (Nat → Prop) → Goroutine → World → Prop} {b : Frame} {a : Act} {k : List Item} {cs : List Frame} {ops : Array Oper} {i : Nat} {rest : List Nat} {o : Oper}
/-- A channel of one's own is closed. -/
theorem JM.close {x : Operand} {ats : Array TypeId} (ho : ops[i]? = some o) (hg : o.guard = none) (hk : b.kind ≠ .early) (hop : o.op = .call { callee := .builtin .close, args := #[x], argTypes := ats }) {c cap s r : Nat} {buf : Array Value} {tm : Bool}
    (hx : a.eval x = .chan (some c)) (hO : O c) (hc : w.heap[c]? = some (.chan cap buf false s r tm)) (hlt : c < w.heap.size) (hq : (P.funcs[b.fn]?).any (·.norace) = false)
    (hJ : ∀ w₁, Rly N0 O w w₁ → JM P N0 Stop O (G (b.at (a.put o.dst (.tuple #[])) (.inRegion ops rest :: k)) cs) (w₁.setChan c cap buf true s r tm)) : JM P N0 Stop O (G (b.at a (.inRegion ops (i :: rest) :: k)) cs) w := by
  refine JM.move rfl fun w₁ hr gs t q S F => ?_
  have hc₁ : w₁.heap[c]? = some (.chan cap buf false s r tm) := (hr.2.1 c hlt (.inr hO)).trans hc
  have hst := stepG_close (P := P) (main := true) (b := b) (a := a) (kk := k) (cs := cs) (w := w₁) (rest := rest) ho (by simp [Region.wanted, hg]) hk hop hx hc₁ hq
  have hsz : (w₁.setChan c cap buf true s r tm).heap.size = w₁.heap.size := by simp [World.setChan]
  refine ⟨G (b.at (a.put o.dst (.tuple #[])) (.inRegion ops rest :: k)) cs, w₁.setChan c cap buf true s r tm, _, _, fun sl => runT_crowd_go (P := P) (sl := sl) (i := 0) F.zero (show stepG P (0 == 0) _ w₁ = _ from hst), by simp, ?_, fun j y hj hy => ?_, by rw [hsz]; exact Nat.le_refl _, fun op hop => ?_, ?_, ?_⟩
  · have := (Array.getElem?_eq_some_iff.1 F.zero).1; simp [this]
  · rw [Array.getElem?_setIfInBounds_ne (by omega), Array.getElem?_map, hy]
    simp [woken_quitsD (F.lv.old j y hj hy)]
  · rw [ofEvents_eq] at hop
    obtain ⟨e, he, rfl⟩ := Array.mem_map.1 hop
    have hlow : c < (w₁.setChan c cap buf true s r tm).heap.size := by rw [hsz]; exact F.now c hO
    simp only [closeEvents, List.mem_toArray, List.mem_cons, List.not_mem_nil, or_false] at he
    rcases he with rfl | rfl
    · refine ⟨rfl, fun x hx hs => ?_, hlow⟩
      simp only [MemAct.ofEvent, MemAct.touch?, Option.some.injEq] at hx
      subst hx
      exact absurd (.inr hO) (F.shun _ c hs rfl)
    · exact ⟨rfl, fun x hx hs => absurd hx (by simp [MemAct.ofEvent, MemAct.touch?]), hlow⟩
  · rw [Deaf_own]; rfl
  · have : grow O w₁ (w₁.setChan c cap buf true s r tm) = O := by funext b'; unfold grow; rw [hsz]; exact propext ⟨fun h => h.elim id fun h => absurd h.1 (by omega), .inl⟩
    rw [this]
    exact hJ w₁ hr
theorem run_recv {x : Operand} {ct : TypeId} {co : Bool} {c : Nat} {dir : ChanDir} {e : TypeId} {ti : TyI} (hop : o.op = .recv ct x co) (hx : a.eval x = .chan (some c)) (hu : P.underlying ct = some (.chan dir e)) (ht : TyOk P e ti) (w : World) :
    ∃ z, z.cells = ti.zero.toArray ∧ (execOp a.eval o).run P w = .ok (.comm #[rcase c z] true (.recv co)) w ∧ (execOp a.eval o).events P w #[] = #[] := by
  have hd : Dz P (fun _ => False) (execOp a.eval o) w fun nx w' => (∃ z, z.cells = ti.zero.toArray ∧ nx = .comm #[rcase c z] true (.recv co)) ∧ w' = w := by
    unfold execOp
    rw [hop]
    refine Dz.bind (Q := fun d w' => d = .chan dir e ∧ w' = w) (Dz.underlying hu ⟨rfl, rfl⟩) ?_
    rintro d w' ⟨rfl, rfl⟩
    refine Dz.bind (Q := fun z w'' => z.cells = ti.zero.toArray ∧ w'' = w') (Dz.zeroValue ht fun _ hz => ⟨hz, rfl⟩) ?_
    rintro z w'' ⟨hz, rfl⟩
    exact Dz.pure ⟨⟨z, hz, by simp only [hx, rcase]⟩, rfl⟩
  obtain ⟨nx, w', h1, ⟨⟨z, hz, rfl⟩, rfl⟩, h3⟩ := hd
  exact ⟨z, hz, h1, Array.eq_empty_iff_forall_not_mem.2 fun e he => h3 #[] (fun e he => by simp at he) e he⟩
theorem stepG_recv {x : Operand} {ct : TypeId} {dir : ChanDir} {e : TypeId} {ti : TyI} {c : Nat} (ho : ops[i]? = some o) (hg : o.guard = none) (hk : b.kind ≠ .early) (hop : o.op = .recv ct x true) (hx : a.eval x = .chan (some c)) (hu : P.underlying ct = some (.chan dir e)) (ht : TyOk P e ti) (w : World) :
    ∃ z, z.cells = ti.zero.toArray ∧ stepG P (0 == 0) (G (b.at a (.inRegion ops (i :: rest) :: k)) cs) w = .comm (G (b.at a (.inRegion ops (i :: rest) :: k)) cs) #[rcase c z] true (.recv true) w #[] := by
  obtain ⟨z, hz, r1, r2⟩ := run_recv (P := P) hop hx hu ht w
  have := stepG_comm (P := P) (main := true) (b := b) (a := a) (k := k) (cs := cs) (w := w) (rest := rest) ho (by simp [Region.wanted, hg]) hk r1
  have h2 : listed P b.fn a o w = #[] := by unfold listed; rw [r2, seen_none]
  rw [h2] at this
  exact ⟨z, hz, this⟩
theorem fin_recv {c : Nat} {z v : Value} {q : Bool} (ho : ops[i]? = some o) : (G (b.at a (.inRegion ops (i :: rest) :: k)) cs).finishComm P #[rcase c z] (.recv true) 0 v q = G (b.at (a.put o.dst (.tuple #[v, .bool q])) (.inRegion ops rest :: k)) cs := by
  have e : (b.at a (.inRegion ops (i :: rest) :: k)).finish (.tuple #[v, .bool q]) = b.at (a.put o.dst (.tuple #[v, .bool q])) (.inRegion ops rest :: k) := by
    rw [Frame.finish_at, ho]; rfl
  simp only [Goroutine.finishComm, G, commResult, e]
/-- A value is received out of the buffer of one's own channel. -/
theorem JM.recv {x : Operand} {ct : TypeId} {dir : ChanDir} {e : TypeId} {ti : TyI} (ho : ops[i]? = some o) (hg : o.guard = none) (hk : b.kind ≠ .early) (hop : o.op = .recv ct x true) (hu : P.underlying ct = some (.chan dir e)) (ht : TyOk P e ti)
    {c cap s r : Nat} {v : Value} {buf : List Value} {tm : Bool} (hx : a.eval x = .chan (some c)) (hO : O c) (hc : w.heap[c]? = some (.chan cap (v :: buf).toArray true s r tm)) (hlt : c < w.heap.size)
    (hJ : ∀ w₁, Rly N0 O w w₁ → JM P N0 Stop O (G (b.at (a.put o.dst (.tuple #[v, .bool true])) (.inRegion ops rest :: k)) cs) (w₁.setChan c cap buf.toArray true s (r + 1) tm)) : JM P N0 Stop O (G (b.at a (.inRegion ops (i :: rest) :: k)) cs) w := by
  refine JM.move rfl fun w₁ hr gs t q S F => ?_
  have hc₁ : w₁.heap[c]? = some (.chan cap (v :: buf).toArray true s r tm) := (hr.2.1 c hlt (.inr hO)).trans hc
  obtain ⟨z, hz, hst⟩ := stepG_recv (P := P) (b := b) (k := k) (cs := cs) (rest := rest) ho hg hk hop hx hu ht w₁
  have hsz : (w₁.setChan c cap buf.toArray true s (r + 1) tm).heap.size = w₁.heap.size := by simp [World.setChan]
  have hrun := fun sl => crowd_recv_buf (sl := sl) (i := 0) F.zero hst hc₁ (by simp) (F.partners c true)
  have e1 : (v :: buf).toArray.getD 0 undef = v := rfl
  simp only [List.extract_toArray, List.extract_eq_take_drop, List.size_toArray, List.length_cons, Nat.add_sub_cancel, List.drop_succ_cons, List.drop_zero, List.take_length, e1, fin_recv ho] at hrun
  refine ⟨G (b.at (a.put o.dst (.tuple #[v, .bool true])) (.inRegion ops rest :: k)) cs, _, _, _, hrun, by simp, ?_, fun j y hj hy => ?_, by rw [hsz]; exact Nat.le_refl _, ?_, ?_, ?_⟩
  · exact Array.getElem?_setIfInBounds_self_of_lt (Array.getElem?_eq_some_iff.1 F.zero).1
  · rw [Array.getElem?_setIfInBounds_ne (by omega)]; exact hy
  · intro op hop
    have hlow : c < (w₁.setChan c cap buf.toArray true s (r + 1) tm).heap.size := by rw [hsz]; exact F.now c hO
    simp [ofEvents_eq] at hop
    rcases hop with rfl | rfl <;> exact ⟨rfl, fun x hx => by simp [MemAct.touch?] at hx, hlow⟩
  · simp only [ofEvents_eq, List.map_toArray, List.map_nil, Array.empty_append]
    rw [show ∀ x y : MemOp, (#[x, y] : Array MemOp) = [x, y].toArray from fun _ _ => rfl, Deaf_append]
    rfl
  · have : grow O w₁ (w₁.setChan c cap buf.toArray true s (r + 1) tm) = O := by funext b'; unfold grow; rw [hsz]; exact propext ⟨fun h => h.elim id fun h => absurd h.1 (by omega), .inl⟩
    rw [this]
    exact hJ w₁ hr
/-- One's own channel is closed and empty. -/
theorem JM.recvEnd {x : Operand} {ct : TypeId} {dir : ChanDir} {e : TypeId} {ti : TyI} (ho : ops[i]? = some o) (hg : o.guard = none) (hk : b.kind ≠ .early) (hop : o.op = .recv ct x true) (hu : P.underlying ct = some (.chan dir e)) (ht : TyOk P e ti)
    {c cap s r : Nat} {tm : Bool} (hx : a.eval x = .chan (some c)) (hO : O c) (hc : w.heap[c]? = some (.chan cap #[] true s r tm)) (hlt : c < w.heap.size)
    (hJ : ∀ z w₁, z.cells = ti.zero.toArray → Rly N0 O w w₁ → JM P N0 Stop O (G (b.at (a.put o.dst (.tuple #[z, .bool false])) (.inRegion ops rest :: k)) cs) w₁) : JM P N0 Stop O (G (b.at a (.inRegion ops (i :: rest) :: k)) cs) w := by
  refine JM.move rfl fun w₁ hr gs t q S F => ?_
  have hc₁ : w₁.heap[c]? = some (.chan cap #[] true s r tm) := (hr.2.1 c hlt (.inr hO)).trans hc
  obtain ⟨z, hz, hst⟩ := stepG_recv (P := P) (b := b) (k := k) (cs := cs) (rest := rest) ho hg hk hop hx hu ht w₁
  have hrun := fun sl => crowd_recv_closed (sl := sl) (i := 0) F.zero hst hc₁ (F.partners c true)
  simp only [fin_recv ho] at hrun
  refine ⟨G (b.at (a.put o.dst (.tuple #[z, .bool false])) (.inRegion ops rest :: k)) cs, _, _, _, hrun, by simp, ?_, fun j y hj hy => ?_, Nat.le_refl _, ?_, ?_, ?_⟩
  · exact Array.getElem?_setIfInBounds_self_of_lt (Array.getElem?_eq_some_iff.1 F.zero).1
  · rw [Array.getElem?_setIfInBounds_ne (by omega)]; exact hy
  · intro op hop
    have hlow : c < w₁.heap.size := F.now c hO
    simp [ofEvents_eq] at hop
    subst hop
    exact ⟨rfl, fun x hx => by simp [MemAct.touch?] at hx, hlow⟩
  · simp only [ofEvents_eq, List.map_toArray, List.map_nil, Array.empty_append]
    rw [show ∀ x : MemOp, (#[x] : Array MemOp) = [x].toArray from fun _ => rfl, Deaf_append]
    rfl
  · rw [grow_self]
    exact hJ z w₁ hz hr
end
end Go.Id
/- What a worker leaves behind is taken over into goroutine 0's ideal memory: its objects under new numbers. -/
namespace Go.Id
open Go.Conc
set_option linter.unusedVariables false
set_option linter.unusedSectionVars false
/-- A value's ids, moved on. -/
def shV (d : Nat) : Value → Value
  | .pointer (some a) => .pointer (some { a with block := a.block + d })
  | .slice (some a) n f => .slice (some { a with block := a.block + d }) n f
  | v => v
def shO (d : Nat) : Ob → Ob
  | .cells c sz e => .cells (c.map (shV d)) sz e
  | .map es => .map es
/-- D's objects hold addresses into D alone. -/
structure Closed (D : Nat → Prop) (lo : Nat) (h : Hp) : Prop where
  low : ∀ i, D i → lo ≤ i ∧ i < h.n
  cells : ∀ i, D i → ∃ cs sz e, h.g i = .cells cs sz e ∧ ∀ v ∈ cs, flatIn D v
/-- In h' stand D's objects of h, moved on by d. -/
structure Moved (D : Nat → Prop) (d : Nat) (h h' : Hp) : Prop where
  g : ∀ i, D i → i + d < h'.n ∧ h'.g (i + d) = shO d (h.g i)
def joinH (d : Nat) (h hw : Hp) : Hp := ⟨hw.n + d, fun j => if j < h.n then h.g j else shO d (hw.g (j - d))⟩
open Classical in
noncomputable def joinS (n d : Nat) (s sw : Sim) (D : Nat → Prop) : Sim :=
  ⟨fun j => if j < n then s.adr j else if D (j - d) then sw.adr (j - d) else none, fun j => if j < n then s.ep j else sw.ep (j - d), fun j => if j < n then s.mp j else none⟩
theorem flat_cases {D : Nat → Prop} {v : Value} (h : flatIn D v) : plainV v = true ∨ (∃ a, v = .pointer (some a) ∧ D a.block) ∨ (∃ a n f, v = .slice (some a) n f ∧ D a.block) := by
  unfold flatIn at h
  split at h
  · exact .inr (.inl ⟨_, rfl, h⟩)
  · exact .inr (.inr ⟨_, _, _, rfl, h⟩)
  · exact .inl h
theorem shV_plain {d : Nat} {v : Value} (h : plainV v = true) : shV d v = v := by
  unfold shV
  split
  · simp [plainV] at h
  · simp [plainV] at h
  · rfl
section
variable {N0 fro : Nat → Prop} {lo low : Nat} {s sw : Sim} {O Ow : Nat → Prop} {h hw : Hp} {w : World} {D : Nat → Prop}
theorem join_adr_old {n d j : Nat} (hj : j < n) : (joinS n d s sw D).adr j = s.adr j := by simp [joinS, hj]
theorem join_adr_new {n d i : Nat} (hi : n ≤ i + d) (hD : D i) : (joinS n d s sw D).adr (i + d) = sw.adr i := by simp [joinS, show ¬ i + d < n by omega, hD]
theorem join_ep_new {n d i : Nat} (hi : n ≤ i + d) : (joinS n d s sw D).ep (i + d) = sw.ep i := by simp [joinS, show ¬ i + d < n by omega]
theorem join_adr_inv {n d j : Nat} {c : Cel} (h : (joinS n d s sw D).adr j = some c) (hd : low + d = n) : (j < n ∧ s.adr j = some c) ∨ ∃ i, j = i + d ∧ n ≤ j ∧ D i ∧ sw.adr i = some c := by
  simp only [joinS] at h
  split at h
  · exact .inl ⟨‹_›, h⟩
  · split at h
    · exact .inr ⟨j - d, by omega, by omega, ‹_›, h⟩
    · cases h
theorem VR.join {n d : Nat} (hd : low + d = n) (hD : ∀ i, D i → low ≤ i) {v vr : Value} (hf : flatIn D v) (hv : VR sw v vr) : VR (joinS n d s sw D) (shV d v) vr := by
  rcases flat_cases hf with hp | ⟨a, rfl, ha⟩ | ⟨a, k, f, rfl, ha⟩
  · rw [shV_plain hp, plain_inv hp hv]; exact VR.plain _ hp
  · have hl := hD _ ha
    cases hv with
    | ptr id off sp a' c h1 h2 h3 =>
      simp only at ha hl
      exact .ptr (id + d) off sp a' c (by rw [join_adr_new (by omega) ha]; exact h1) (by rw [join_ep_new (by omega)]; exact h2) (by rw [join_ep_new (by omega)]; exact h3)
  · have hl := hD _ ha
    cases hv with
    | sl id off sp n' fl a' cap c h1 h2 h3 h4 h5 =>
      simp only at ha hl
      exact .sl (id + d) off sp _ _ a' cap c (by rw [join_adr_new (by omega) ha]; exact h1) (by rw [join_ep_new (by omega)]; exact h2) (by rw [join_ep_new (by omega)]; exact h3) h4 h5
/-- THE JOINING. -/
theorem SimOk.join (S : SimOk N0 lo s O h w) (Sw : SimOk fro low sw Ow hw w) {d : Nat} (hd : low + d = h.n) (C : Closed D low hw) (hO : ∀ b, Ow b → O b) (hR : ∀ b, Ow b → ¬ Rng s lo b) (hlh : low ≤ hw.n) :
    SimOk N0 lo (joinS h.n d s sw D) O (joinH d h hw) w ∧ s.le (joinS h.n d s sw D) ∧ Ext h (joinH d h hw) ∧ Moved D d hw (joinH d h hw) := by
  have hD : ∀ i, D i → low ≤ i := fun i hi => (C.low i hi).1
  have old : ∀ i c, s.adr i = some c → (joinS h.n d s sw D).adr i = some c ∧ (joinS h.n d s sw D).ep i = s.ep i := fun i c hc => by
    have hi := (S.cells i c hc).1
    exact ⟨by rw [join_adr_old hi]; exact hc, by simp [joinS, hi]⟩
  have hle : s.le (joinS h.n d s sw D) := ⟨fun i c hc => ⟨c, (old i c hc).1, Nat.le_of_eq (old i c hc).2.symm, fun _ => rfl⟩, fun i b hb => by
    have hi := (S.maps i b hb).1
    simp [joinS, hi, hb]⟩
  have hext : Ext h (joinH d h hw) := ⟨by simp only [joinH]; omega, fun i hi => by simp [joinH, hi]⟩
  have hN : h.n ≤ (joinH d h hw).n := hext.n
  have bl : ∀ i c, D i → sw.adr i = some c → Ow c.b := fun i c hi hc => (Sw.own i c hc (hD i hi)).1
  refine ⟨⟨fun j c hc => ?_, fun j c hc hl => ?_, fun j c k c' h1 h2 hl hjk => ?_, fun j b hb => ?_, S.now, S.new, S.base, Nat.le_trans S.lohi hN⟩, hle, hext, ⟨fun i hi => ?_⟩⟩
  · rcases join_adr_inv hc hd with ⟨hj, hc⟩ | ⟨i, rfl, hj, hi, hc⟩
    · obtain ⟨h1, h2, cs, sz, h3, ys, h4, h5⟩ := S.cells j c hc
      exact ⟨by omega, h2, cs, sz, by rw [hext.g j hj, h3, (old j c hc).2], ys, h4.mono hle, h5⟩
    · obtain ⟨h1, h2, cs, sz, h3, ys, h4, h5⟩ := Sw.cells i c hc
      obtain ⟨cs', sz', e', g1, g2⟩ := C.cells i hi
      rw [h3] at g1
      injection g1 with e1 e2 e3
      subst e1
      refine ⟨by simp only [joinH]; omega, fun hx => absurd S.lohi (by omega), cs.map (shV d), sz, ?_, ys, ⟨⟨by simpa using h4.1.1, fun k v u a b => ?_⟩, h4.2⟩, h5⟩
      · rw [join_ep_new hj]
        simp only [joinH]
        rw [if_neg (by omega), Nat.add_sub_cancel, h3]
        rfl
      · rw [List.getElem?_map] at a
        obtain ⟨v', hv', rfl⟩ := Option.map_eq_some_iff.1 a
        exact VR.join hd hD (g2 v' (List.mem_of_getElem? hv')) (h4.1.2 k v' u hv' b)
  · rcases join_adr_inv hc hd with ⟨hj, hc⟩ | ⟨i, rfl, hj, hi, hc⟩
    · obtain ⟨h1, h2, rc, ty, h3, cs, sz, e, h4, h5⟩ := S.own j c hc hl
      exact ⟨h1, h2, rc, ty, h3, cs, sz, e, by rw [hext.g j hj, h4], h5⟩
    · obtain ⟨h1, h2, rc, ty, h3, cs, sz, e, h4, h5, h6⟩ := Sw.own i c hc (hD i hi)
      refine ⟨hO _ h1, h2, rc, ty, h3, cs.map (shV d), sz, e, ?_, by simpa using h5, h6⟩
      simp only [joinH]
      rw [if_neg (by omega), Nat.add_sub_cancel, h4]
      rfl
  · rcases join_adr_inv h1 hd with ⟨hj, h1⟩ | ⟨i, rfl, hj, hi, h1⟩ <;> rcases join_adr_inv h2 hd with ⟨hk, h2⟩ | ⟨i', rfl, hk, hi', h2⟩
    · exact S.apart j c k c' h1 h2 hl hjk
    · intro e
      exact hR _ (bl i' c' hi' h2) (.inl ⟨j, c, h1, hl, e⟩)
    · intro e
      by_cases hkl : lo ≤ k
      · exact hR _ (bl i c hi h1) (.inl ⟨k, c', h2, hkl, e.symm⟩)
      · exact S.new _ (hO _ (bl i c hi h1)) (e ▸ (S.cells k c' h2).2.1 (by omega))
    · exact Sw.apart i c i' c' h1 h2 (hD i hi) (by rintro rfl; exact hjk rfl)
  · simp only [joinS] at hb
    split at hb
    · rename_i hj
      obtain ⟨h1, hx⟩ := S.maps j b hb
      refine ⟨by omega, fun h2 => ?_⟩
      obtain ⟨h3, h4, h5, es, en, ck, h6, h7, h8, h9⟩ := hx h2
      refine ⟨h3, fun k c hc => ?_, fun k hkl hk => ?_, es, en, ck, by rw [hext.g j hj, h6], h7, h8, fun i k v e a1 a2 => ?_⟩
      · rcases join_adr_inv hc hd with ⟨hk, hc⟩ | ⟨i, rfl, hk, hi, hc⟩
        · exact h4 k c hc
        · rintro rfl
          exact hR _ (bl i c hi hc) (.inr ⟨j, hb, h2⟩)
      · simp only [joinS] at hk
        split at hk
        · exact h5 k hkl hk
        · cases hk
      · obtain ⟨e1, e2, e3⟩ := h9 i k v e a1 a2
        exact ⟨e1, e2.mono hle, e3⟩
    · cases hb
  · have := C.low i hi
    refine ⟨by simp only [joinH]; omega, ?_⟩
    simp only [joinH]
    rw [if_neg (by omega), Nat.add_sub_cancel]
theorem join_rng {d : Nat} (S : SimOk N0 lo s O h w) (Sw : SimOk fro low sw Ow hw w) (hd : low + d = h.n) (C : Closed D low hw) {b : Nat} (hb : Rng (joinS h.n d s sw D) lo b) : Rng s lo b ∨ Ow b := by
  rcases hb with ⟨j, c, hc, hl, rfl⟩ | ⟨j, hb⟩
  · rcases join_adr_inv hc hd with ⟨hj, hc⟩ | ⟨i, rfl, hj, hi, hc⟩
    · exact .inl (.inl ⟨j, c, hc, hl, rfl⟩)
    · exact .inr (Sw.own i c hc (C.low i hi).1).1
  · obtain ⟨hb, hl⟩ := hb
    simp only [joinS] at hb
    split at hb
    · exact .inl (.inr ⟨j, hb, hl⟩)
    · cases hb
end
end Go.Id
/- The phase as a step of goroutine 0's walk: from the making of the group to behind Wait, with all that the workers left. -/
namespace Go.Id
open Go.Conc Go.RowKit Go.Conc.Lib Go.ConcR.Gen
open Go.ConcN (WgLive Has)
open Go.ConcR (WgAt wgBlock stA smA Payload DC0)
set_option linter.unusedVariables false
set_option linter.unusedSectionVars false
/-- What is told of a worker's slice is kept where it is moved, and where the memory grows. -/
structure RdOk (Rd : Nat → Nat → Nat → Value → Hp → Prop) : Prop where
  move : ∀ i p q sl D d lo h h', Closed D lo h → Moved D d h h' → flatIn D sl → Rd i p q sl h → Rd i (p + d) (q + d) (shV d sl) h'
  ext : ∀ i p q sl h h', Ext h h' → Rd i p q sl h → Rd i p q sl h'
/-- What worker i leaves behind. -/
def LeftBy (fro : Nat → Prop) (low Wg : Nat) (Rd : Nat → Nat → Nat → Value → Hp → Prop) (i : Nat) (v : Value) (O : Nat → Prop) (w : World) : Prop :=
  (∀ b, O b → Wg < b) ∧ ∃ sw hw D sl, SimOk fro low sw O hw w ∧ low ≤ hw.n ∧ Closed D low hw ∧ flatIn D sl ∧ VR sw (.agg #[.int .i64 i, sl]) v ∧ Rd i low hw.n sl hw
theorem LeftBy.ok {P : Program} {ty : TypeId} {Wg Ch n low : Nat} {fro : Nat → Prop} {Rd : Nat → Nat → Nat → Value → Hp → Prop} : PhOk ⟨P, ty, Wg, Ch, fro, n, LeftBy fro low Wg Rd⟩ :=
  ⟨fun i v O w w' ⟨h0, sw, hw, D, sl, h1, h2⟩ r => ⟨h0, sw, hw, D, sl, h1.rely r, h2⟩⟩
section
variable {N0 fro : Nat → Prop} {lo low Wg : Nat} {s : Sim} {O : Nat → Prop} {h : Hp} {w : World} {Rd : Nat → Nat → Nat → Value → Hp → Prop} {own : Nat → Nat → Prop} {V : Nat → Value}
theorem join_row {sw sx : Sim} {D : Nat → Prop} {n d i : Nat} (hd : low + d = n) (hD : ∀ i, D i → low ≤ i) {sl v : Value} (hf : flatIn D sl) (hv : VR sw (.agg #[.int .i64 i, sl]) v) : VR (joinS n d sx sw D) (.agg #[.int .i64 i, shV d sl]) v := by
  cases hv with
  | agg x y hs hh h1 =>
    refine .agg _ _ (by simpa using hs) (fun k u u' a b => ?_) h1
    rcases k with _ | _ | k
    · simp at a; subst a
      have := hh 0 (.int .i64 i) u' (by simp) b
      rw [plain_inv rfl this]; exact VR.int _ _
    · simp at a; subst a
      exact VR.join hd hD hf (hh 1 sl u' (by simp) b)
    · simp at a
theorem join_all (K : RdOk Rd) (S : SimOk N0 lo s O h w) (hlow : low ≤ h.n) (n : Nat) (hO : ∀ i, i < n → ∀ b, own i b → O b) (hap : ∀ i k b, i < n → k < n → own i b → own k b → i = k) (hR : ∀ i, i < n → ∀ b, own i b → ¬ Rng s lo b)
    (hL : ∀ i, i < n → LeftBy fro low Wg Rd i (V i) (own i) w) : ∀ m, m ≤ n → ∃ (s' : Sim) (h' : Hp) (sl : Nat → Value) (c : Nat → Nat), SimOk N0 lo s' O h' w ∧ s.le s' ∧ Ext h h' ∧ (∀ i, i < m → VR s' (.agg #[.int .i64 i, sl i]) (V i) ∧ Rd i (c i) (c (i + 1)) (sl i) h') ∧ (c 0 = h.n ∧ (∀ i, i < m → c i ≤ c (i + 1)) ∧ c m = h'.n) ∧ ∀ b, Rng s' lo b → Rng s lo b ∨ ∃ i, i < m ∧ own i b := by
  intro m
  induction m with
  | zero => exact fun _ => ⟨s, h, fun _ => undef, fun _ => h.n, S, s.le_refl, Ext.refl h, fun i hi => by omega, ⟨rfl, fun i hi => by omega, rfl⟩, fun b hb => .inl hb⟩
  | succ m ih =>
    intro hm
    obtain ⟨s', h', sl, c, S', l', e', v', ⟨c0, c1, c2⟩, r'⟩ := ih (by omega)
    obtain ⟨_, sw, hw, D, x, Sw, hlh, C, hf, hv, hr⟩ := hL m (by omega)
    have hle : low ≤ h'.n := Nat.le_trans hlow e'.n
    have hd : low + (h'.n - low) = h'.n := by omega
    obtain ⟨j1, j2, j3, j4⟩ := S'.join Sw hd C (hO m (by omega)) (fun b hb hx => by
      rcases r' b hx with hx | ⟨i, hi, hx⟩
      · exact hR m (by omega) b hb hx
      · have := hap i m b (by omega) (by omega) hx hb; omega) hlh
    refine ⟨_, _, fun i => if i = m then shV (h'.n - low) x else sl i, fun i => if i = m + 1 then hw.n + (h'.n - low) else c i, j1, l'.trans j2, e'.trans j3, fun i hi => ?_, ⟨?_, fun i hi => ?_, ?_⟩, fun b hb => ?_⟩
    · by_cases he : i = m
      · subst he
        simp only [if_true, if_neg (show ¬ i = i + 1 by omega)]
        refine ⟨join_row hd (fun i hi => (C.low i hi).1) hf hv, ?_⟩
        have := K.move _ _ _ _ _ _ _ _ _ C j4 hf hr
        rw [hd] at this
        rw [c2]; exact this
      · simp only [if_neg he, if_neg (show ¬ i = m + 1 by omega), if_neg (show ¬ i + 1 = m + 1 by omega)]
        obtain ⟨a1, a2⟩ := v' i (by omega)
        exact ⟨a1.mono j2, K.ext _ _ _ _ _ _ j3 a2⟩
    · simp only [if_neg (show ¬ 0 = m + 1 by omega)]; exact c0
    · by_cases he : i = m
      · subst he
        simp only [if_true, if_neg (show ¬ i = i + 1 by omega), c2]; omega
      · simp only [if_neg (show ¬ i = m + 1 by omega), if_neg (show ¬ i + 1 = m + 1 by omega)]; exact c1 i (by omega)
    · simp only [if_true]; rfl
    · rcases join_rng S' Sw hd C hb with hb | hb
      · rcases r' b hb with hb | ⟨i, hi, hb⟩
        · exact .inl hb
        · exact .inr ⟨i, by omega, hb⟩
      · exact .inr ⟨m, by omega, hb⟩
end
/-! ### the group's block -/
section
variable {P : Program} {b : Frame} {a : Act} {k : List Item} {cs : List Frame} {w : World} {ops : Array Oper} {i : Nat} {rest : List Nat} {o : Oper}
theorem stepG_alloc {main : Bool} {e : TypeId} {ti : TyI} (ho : ops[i]? = some o) (hg : o.guard = none) (hk : b.kind ≠ .early) (hop : o.op = .alloc e) (ht : TyOk P e ti) :
    stepG P main (G (b.at a (.inRegion ops (i :: rest) :: k)) cs) w = .go (G (b.at (a.put o.dst (.pointer (some ⟨w.heap.size, 0, none⟩))) (.inRegion ops rest :: k)) cs) { w with heap := w.heap.push (.cells ti.zero.toArray e (0, 0)) } #[] := by
  have hd : Dz P (fun _ => False) (execOp a.eval o) w fun nx w' => nx = .value (.pointer (some ⟨w.heap.size, 0, none⟩)) ∧ w' = { w with heap := w.heap.push (.cells ti.zero.toArray e (0, 0)) } := by
    unfold execOp
    rw [hop]
    refine dz_val ?_
    unfold Instr.alloc
    refine Dz.bind (Q := fun z w' => z.cells = ti.zero.toArray ∧ w' = w) (Dz.zeroValue ht fun z hz => ⟨hz, rfl⟩) ?_
    rintro z w' ⟨hz, rfl⟩
    simp only [newVar]
    refine Dz.bind (Q := fun ad w'' => ad = ⟨w'.heap.size, 0, none⟩ ∧ w'' = { w' with heap := w'.heap.push (.cells ti.zero.toArray e (0, 0)) }) (Dz.newRow (by rw [hz]; exact ⟨rfl, rfl⟩)) ?_
    rintro ad w'' ⟨rfl, rfl⟩
    exact Dz.pure ⟨rfl, rfl⟩
  obtain ⟨nx, w', h1, ⟨rfl, rfl⟩, h3⟩ := hd
  rw [stepG_value ho (by simp [Region.wanted, hg]) hk h1]
  have h2 : listed P b.fn a o w = #[] := by
    unfold listed
    rw [Array.eq_empty_iff_forall_not_mem.2 fun e he => h3 #[] (fun e he => by simp at he) e he, seen_none]
  rw [h2]
theorem stepG_makeChan {main : Bool} {ct e : TypeId} {dir : ChanDir} {ti : TyI} {n : Nat} (ho : ops[i]? = some o) (hg : o.guard = none) (hk : b.kind ≠ .early) (hop : o.op = .makeChan ct (.const (.int .i64 n))) (hu : P.underlying ct = some (.chan dir e)) (ht : TyOk P e ti) (hn : n ≤ 1000) :
    stepG P main (G (b.at a (.inRegion ops (i :: rest) :: k)) cs) w = .go (G (b.at (a.put o.dst (.chan (some w.heap.size))) (.inRegion ops rest :: k)) cs) { w with heap := w.heap.push (.chan n #[] false 0 0 false) } #[] := by
  obtain ⟨info, h1, h2, _, h4⟩ := ht.info
  have hb : (info.bytes : Int) * n ≤ 281474976710544 := by
    have : info.bytes * n ≤ 4096 * 1000 := Nat.mul_le_mul h4 hn
    omega
  have hr : (execOp a.eval o).run P w = .ok (.value (.chan (some w.heap.size))) { w with heap := w.heap.push (.chan n #[] false 0 0 false) } := by
    unfold execOp
    rw [hop]
    simp only [Act.eval]
    rw [Sem.run_bind, run_makeChan hu h1 _ n (by omega) hb]
    rfl
  have he : (execOp a.eval o).events P w #[] = #[] := by
    unfold execOp
    rw [hop]
    simp only [Act.eval]
    rw [Sem.events_bind, events_makeChan hu h1 _ n (by omega) hb, run_makeChan hu h1 _ n (by omega) hb]
    rfl
  rw [stepG_value ho (by simp [Region.wanted, hg]) hk hr]
  have h2 : listed P b.fn a o w = #[] := by unfold listed; rw [he, seen_none]
  rw [h2]
end
variable [Payload] {L : WgLink}
/-- Goroutine 0's memory behind the phase. -/
theorem SimOk.behind {N0 : Nat → Prop} {lo : Nat} {s : Sim} {O O' : Nat → Prop} {h : Hp} {w w' : World} (S : SimOk N0 lo s O h w) {Ch : Nat} (hCh : O Ch) (hR : ¬ Rng s lo Ch) (hk : ∀ b, (N0 b ∨ O b) → b ≠ Ch → w'.heap[b]? = w.heap[b]?) (hsz : w.heap.size ≤ w'.heap.size) (hO : ∀ b, O b → O' b)
    (hnow : ∀ b, O' b → b < w'.heap.size) (hnew : ∀ b, O' b → ¬ N0 b) : SimOk N0 lo s O' h w' := by
  have ne : ∀ i c, s.adr i = some c → c.b ≠ Ch := by
    rintro i c hc rfl
    by_cases hl : lo ≤ i
    · exact hR (.inl ⟨i, c, hc, hl, rfl⟩)
    · exact S.new _ hCh ((S.cells i c hc).2.1 (by omega))
  refine ⟨fun i c hc => ?_, fun i c hc hl => ?_, S.apart, fun i b hb => ?_, hnow, hnew, fun b hb => Nat.lt_of_lt_of_le (S.base b hb) hsz, S.lohi⟩
  · obtain ⟨h1, h2, cs, sz, h3, ys, h4, h5⟩ := S.cells i c hc
    exact ⟨h1, h2, cs, sz, h3, ys, h4, h5.of_heap (hk _ (S.bl hc) (ne i c hc))⟩
  · obtain ⟨h1, h2, rc, ty, h3, h4⟩ := S.own i c hc hl
    exact ⟨hO _ h1, h2, rc, ty, (hk _ (.inr h1) (ne i c hc)).trans h3, h4⟩
  · obtain ⟨h1, hx⟩ := S.maps i b hb
    refine ⟨h1, fun hl => ?_⟩
    obtain ⟨h3, h4, h5, es, en, ck, h6, h7, h8⟩ := hx hl
    exact ⟨hO _ h3, h4, h5, es, en, ck, h6, (hk _ (.inr h3) (by rintro rfl; exact hR (.inr ⟨i, hb, hl⟩))).trans h7, h8⟩
/-- What is known behind Wait. -/
structure Behind (N0 : Nat → Prop) (lo : Nat) (s : Sim) (O : Nat → Prop) (h : Hp) (w : World) (Ch n : Nat) (Rd : Nat → Nat → Nat → Value → Hp → Prop) (s' : Sim) (h' : Hp) (O' : Nat → Prop) (w' : World) (sl : Nat → Value) (buf : List Value) (Lp : List Nat) (sn : Nat) : Prop where
  le : s.le s'
  ext : Ext h h'
  sim : SimOk N0 lo s' O' h' w'
  og : OG O w O'
  kept : Kept N0 (fun b => O b ∧ b ≠ Ch) w w'
  rng : ∀ b, Rng s' lo b → Rng s lo b ∨ ¬ O b
  ch : w'.heap[Ch]? = some (.chan n buf.toArray false sn 0 false)
  len : Lp.length = n ∧ buf.length = n
  perm : Lp.Nodup ∧ ∀ i, i ∈ Lp ↔ i < n
  row : ∀ (p i : Nat) (v : Value), Lp[p]? = some i → buf[p]? = some v → VR s' (.agg #[.int .i64 i, sl i]) v
  rd : ∃ c : Nat → Nat, c 0 = h.n ∧ (∀ i, i < n → c i ≤ c (i + 1)) ∧ c n = h'.n ∧ ∀ i, i < n → Rd i (c i) (c (i + 1)) (sl i) h'
theorem phase_R {P : Program} (H : WgLib P L) {N0 : Nat → Prop} {lo : Nat} {f : FuncId} {fn : Func} {Stop : (Nat → Prop) → Goroutine → World → Prop} {b : Frame} {cs : List Frame} (hbf : b.fn = f) (hbk : b.kind ≠ .early) {ops : Array Oper} {j : Nat} {rest : List Nat} {k1 : List Item} {o : Oper} {d : Nat}
    (ho : ops[j]? = some o) (hg : o.guard = none) (hop : o.op = .alloc L.tWg) (hdst : o.dst = some d) (hdl : d < fn.ntmps) {ti : TyI} (ht : TyOk P L.tWg ti) (htz : ti.zero = [.int .u64 0, .int .u32 0]) {Rd : Nat → Nat → Nat → Value → Hp → Prop} (K : RdOk Rd) {t t1 tE : Tm} {kE : List Item} {h : Hp}
    {s : Sim} {O Pr : Nat → Prop} {lb : Nat → Nat} {ls : Lv} {w : World} {a : Act} (M : Mem N0 lo s O Pr lb ls h w) (tm : TmOk s lb ls.length t a.tmps) (hd : a.defers = []) (hsz : a.tmps.size = fn.ntmps) {Ch sn r : Nat} (hCh : O Ch) (hChan : w.heap[Ch]? = some (.chan (r + 1) #[] false sn 0 false)) (hChR : ¬ Rng s lo Ch)
    (hr : r + 1 < 2147483648) (hCar : Carry (fun i => i < h.n ∧ s.adr i ≠ none) t t1)
    (HSp : ∀ (Wg : Nat) (fro : Nat → Prop), R (treeCtx P true fro) h.n f fn (.mid [] (SpFrom ⟨P, L.tWg, Wg, Ch, fro, r + 1, LeftBy fro h.n Wg Rd⟩ L h.n s h f fn tE kE (r + 1))) (.inRegion ops rest :: k1) ((d, .r (.pointer (some ⟨Wg, 0, none⟩))) :: t1) [] h)
    (hEnd : ∀ w₀, Rly N0 O w w₀ → ∀ s' h' O' w' sl buf Lp sn' a', Behind N0 lo s O h w₀ Ch (r + 1) Rd s' h' O' w' sl buf Lp sn' → a'.defers = [] → a'.tmps.size = fn.ntmps → TmOk s' (fun _ => 0) 0 tE a'.tmps → JM P N0 Stop O' (G (b.at a' kE) cs) w') :
    JM P N0 Stop O (G (b.at a (.inRegion ops (j :: rest) :: k1)) cs) w := by
  refine phase_JM (r := r) rfl fun w₁ r₁ => ?_
  have M₁ := M.rely r₁
  have hlt : Ch < w₁.heap.size := M₁.sim.now _ hCh
  have hch₁ : w₁.heap[Ch]? = some (.chan (r + 1) #[] false sn 0 false) := (r₁.2.1 Ch (M.sim.now _ hCh) (.inr hCh)).trans hChan
  obtain ⟨w₂, hw₂⟩ : ∃ w₂ : World, w₂ = { w₁ with heap := w₁.heap.push (.cells ti.zero.toArray L.tWg (0, 0)) } := ⟨_, rfl⟩
  have hsz₂ : w₂.heap.size = w₁.heap.size + 1 := by rw [hw₂]; simp
  have hold : ∀ b, b < w₁.heap.size → w₂.heap[b]? = w₁.heap[b]? := fun b hb => by rw [hw₂]; simp [Array.getElem?_push, show b ≠ w₁.heap.size by omega]
  have hst := stepG_alloc (P := P) (main := true) (b := b) (a := a) (k := k1) (cs := cs) (w := w₁) (rest := rest) ho hg hbk hop ht
  rw [← hw₂, hdst] at hst
  -- the phase
  obtain ⟨fro, hfro⟩ : ∃ fro : Nat → Prop, fro = fun b => (N0 b ∨ O b) ∧ b ≠ Ch := ⟨_, rfl⟩
  have hfl : ∀ b, fro b → b < w₁.heap.size := fun b hb => by rw [hfro] at hb; exact hb.1.elim (M₁.sim.base b) (M₁.sim.now b)
  obtain ⟨Y, hY⟩ : ∃ Y : Ph, Y = ⟨P, L.tWg, w₁.heap.size, Ch, fro, r + 1, LeftBy fro h.n w₁.heap.size Rd⟩ := ⟨_, rfl⟩
  have B0 : SimOk fro h.n s (fun _ => False) h w₂ := by
    refine ⟨fun i c hc => ?_, fun i c hc hl => ?_, fun i c i' c' h1 h2 hl => ?_, fun i b hb => ⟨(M₁.sim.maps i b hb).1, fun hl => absurd (M₁.sim.maps i b hb).1 (by omega)⟩, fun _ hb => hb.elim, fun _ hb => hb.elim, fun b hb => by have := hfl b hb; omega, Nat.le_refl _⟩
    · obtain ⟨h1, h2, cs, sz, h3, ys, h4, h5⟩ := M₁.sim.cells i c hc
      have hne : c.b ≠ Ch := by
        rintro rfl
        by_cases hl : lo ≤ i
        · exact hChR (.inl ⟨i, c, hc, hl, rfl⟩)
        · exact M₁.sim.new _ hCh (h2 (by omega))
      have hbl := M₁.sim.bl hc
      exact ⟨h1, fun _ => by rw [hfro]; exact ⟨hbl, hne⟩, cs, sz, h3, ys, h4, h5.of_heap (hold _ (hbl.elim (M₁.sim.base _) (M₁.sim.now _)))⟩
    · exact absurd (M₁.sim.cells i c hc).1 (by omega)
    · exact absurd (M₁.sim.cells i c h1).1 (by omega)
  have hWf : ¬ fro w₁.heap.size := fun h => by have := hfl _ h; omega
  have T0 : TmOk s (fun _ => 0) 0 ((d, .r (.pointer (some ⟨w₁.heap.size, 0, none⟩))) :: t1) (a.put (some d) (.pointer (some ⟨w₁.heap.size, 0, none⟩))).tmps := by
    have h1 : TmOk s (fun _ => 0) 0 t1 a.tmps := by
      intro i x hx
      obtain ⟨e1, e2⟩ := hCar i x hx
      obtain ⟨vr, e3, e4⟩ := tm i x e1
      refine ⟨vr, e3, ?_⟩
      cases x with
      | v v => exact e4
      | b q => exact e4
      | r v => exact e4
      | l a b => exact e2.elim
      | c a b => exact e2.elim
    exact h1.put (d := some d) (x := .r _) (by rintro _ ⟨⟩; omega) rfl
  have hwg : WgAt L.tWg w₁.heap.size w₂ 0 0 := by
    unfold WgAt wgBlock
    rw [hw₂, htz]
    simp
  refine ⟨_, w₂, #[], Y, hst, ⟨by omega, fun b hb _ => hold b hb, by rw [hw₂], by rw [hw₂], fun e he => by simp at he⟩, by omega, ?_⟩
  have hSt := starts_ok (Y := Y) (L := L) (lo := h.n) (s0 := s) (h0 := h) (f := f) (fn := fn) (tE := tE) (kE := kE) (b := b) (cs := cs) (w0 := w₂) (by rw [hY]; exact H) (by rw [hY]) (by rw [hY]; exact LeftBy.ok) (by rw [hY]; exact hWf) hbf hbk (by rw [hY]; exact B0) (by rw [hY]; simp only; omega) rfl
    (r + 1) s (fun _ => False) (fun _ => False) w₂ s.le_refl (Kept.refl _ _ _) (fun _ h => h.elim)
  have hR := HSp w₁.heap.size fro
  rw [← hY] at hR
  have hrun := hR s (fun _ => False) (fun _ => False) (fun _ => 0) w₂ b (a.put (some d) (.pointer (some ⟨w₁.heap.size, 0, none⟩))) cs _ hbf hbk (by rw [put_defers]; exact hd) (by rw [put_size]; exact hsz) ⟨B0, ⟨fun j cs hj => by simp at hj, fun j j' hj => by simp at hj⟩, fun _ hb => hb.elim⟩ T0 (by rw [hY] at hSt ⊢; exact hSt)
  obtain ⟨ρ, hρ⟩ := hrun
  refine ⟨by rw [hY], by rw [hY], by rw [hY], by rw [hY]; exact hr, by rw [hY]; exact LeftBy.ok, fun b => by rw [hY, hfro], by rw [hY]; exact hCh, ⟨sn, by rw [hY]; exact (hold Ch hlt).trans hch₁⟩, by rw [hY]; exact hwg, StEnd Y h.n s h f fn tE kE b cs w₂, ρ, ?_, ?_⟩
  · have hS : ∀ (Z : Ph) (Fin : (Nat → Prop) → Goroutine → World → Prop), Z.n = r + 1 → Starts Z Fin (r + 1) = AtAdd Z 0 (Starts Z Fin r) := fun Z Fin hz => by
      funext O g w
      simp only [Starts, hz, Nat.sub_self]
    have hρ' := hρ
    rw [hS _ _ rfl] at hρ'
    rw [hY]
    exact hρ'
  intro D O0 g' w' hFin hE
  obtain ⟨f1, f2, f3, f4, f5, a', f6, f7, f8, m, f9⟩ := hFin
  rw [hY] at f9
  refine JM.goes m g' w' f9 fun w₃ r₃ => ?_
  obtain ⟨O', hO'⟩ : ∃ O' : Nat → Prop, O' = fun b => O b ∨ O0 b ∨ ∃ i, i < Y.n ∧ (D i).own b := ⟨_, rfl⟩
  rw [← hO'] at r₃ ⊢
  have hOO : ∀ b, O b → O' b := fun b hb => by rw [hO']; exact .inl hb
  have hnow : ∀ b, O' b → b < w'.heap.size := fun b hb => by
    rw [hO'] at hb
    rcases hb with hb | hb | ⟨i, hi, hb⟩
    · have := M₁.sim.now b hb; omega
    · exact (hE.own0 b hb).1
    · exact (hE.own i hi b hb).1
  have hYf : Y.fro = fro := by rw [hY]
  have hYc : Y.Ch = Ch := by rw [hY]
  have hYn : Y.n = r + 1 := by rw [hY]
  have hYw : Y.Wg = w₁.heap.size := by rw [hY]
  have hnfro : ∀ b, ¬ fro b → b ≠ Ch → ¬ (N0 b ∨ O b) := fun b h1 h2 h3 => h1 (by rw [hfro]; exact ⟨h3, h2⟩)
  have hnew : ∀ b, O' b → ¬ N0 b := fun b hb h0 => by
    rw [hO'] at hb
    rcases hb with hb | hb | ⟨i, hi, hb⟩
    · exact M₁.sim.new b hb h0
    · obtain ⟨_, e1, e2, _⟩ := hE.own0 b hb
      rw [hYf] at e1; rw [hYc] at e2
      exact hnfro b e1 e2 (.inl h0)
    · obtain ⟨_, e1, e2, _⟩ := hE.own i hi b hb
      rw [hYf] at e1; rw [hYc] at e2
      exact hnfro b e1 e2 (.inl h0)
  have hkeep : ∀ b, (N0 b ∨ O b) → b ≠ Ch → w₃.heap[b]? = w₁.heap[b]? := fun b hb hc => by
    have hfb : Y.fro b := by rw [hYf, hfro]; exact ⟨hb, hc⟩
    have hlb := hb.elim (M₁.sim.base b) (M₁.sim.now b)
    exact (r₃.2.1 b (by omega) (hb.imp id (hOO b))).trans ((f2 b hfb).trans (hold b hlb))
  have hsz3 : w₁.heap.size ≤ w₃.heap.size := by have := r₃.1; omega
  have S3 : SimOk N0 lo s O' h w₃ := M₁.sim.behind hCh hChR hkeep hsz3 hOO (fun b hb => Nat.lt_of_lt_of_le (hnow b hb) r₃.1) hnew
  obtain ⟨buf, s1, Lp, c1, c2, c3, c4, c5⟩ := hE.chan
  rw [hYc, hYn] at c1
  have c4' : ∀ i, i ∈ Lp ↔ i < r + 1 := fun i => by rw [c4 i, hYn]; exact ⟨fun h => h.1, fun h => ⟨h, by rw [hE.all i (by omega)]; omega⟩⟩
  have hlen : Lp.length = r + 1 := by
    have h1 : Lp.Perm (List.range (r + 1)) := (List.perm_ext_iff_of_nodup c3 List.nodup_range).2 fun i => by rw [c4' i]; simp
    simpa using h1.length_eq
  have hV : ∀ i : Nat, ∃ v : Value, ∀ (p : Nat) (v' : Value), Lp[p]? = some i → buf[p]? = some v' → v' = v := by
    intro i
    by_cases hi : i ∈ Lp
    · obtain ⟨p, hp⟩ := List.mem_iff_getElem?.1 hi
      have hpl : p < buf.size := by rw [← c2]; exact (List.getElem?_eq_some_iff.1 hp).1
      refine ⟨buf[p], fun p' v' h1 h2 => ?_⟩
      have hp1 := (List.getElem?_eq_some_iff.1 hp)
      have hp2 := (List.getElem?_eq_some_iff.1 h1)
      have : p' = p := by
        rcases Nat.lt_trichotomy p' p with hlt | heq | hlt
        · exact absurd (hp2.2.trans hp1.2.symm) (List.pairwise_iff_getElem.1 c3 p' p hp2.1 hp1.1 hlt)
        · exact heq
        · exact absurd (hp1.2.trans hp2.2.symm) (List.pairwise_iff_getElem.1 c3 p p' hp1.1 hp2.1 hlt)
      subst this
      rw [Array.getElem?_eq_getElem hpl] at h2
      exact (Option.some.inj h2).symm
    · exact ⟨undef, fun p v' h1 _ => absurd (List.mem_of_getElem? h1) hi⟩
  obtain ⟨V, hV⟩ := Classical.axiomOfChoice hV
  have hown : ∀ i, i < r + 1 → ∀ b, (D i).own b → O' b := fun i hi b hb => by rw [hO']; exact .inr (.inr ⟨i, by omega, hb⟩)
  have hLf : ∀ i, i < r + 1 → LeftBy fro h.n w₁.heap.size Rd i (V i) (D i).own w₃ := by
    intro i hi
    obtain ⟨p, hp⟩ := List.mem_iff_getElem?.1 ((c4' i).2 hi)
    have hpl : p < buf.size := by rw [← c2]; exact (List.getElem?_eq_some_iff.1 hp).1
    have h5 := c5 p i buf[p] hp (Array.getElem?_eq_getElem hpl)
    rw [hV i p buf[p] hp (Array.getElem?_eq_getElem hpl)] at h5
    have hYr : Y.Res = LeftBy fro h.n w₁.heap.size Rd := by rw [hY]
    rw [hYr] at h5
    have hrl : Rly fro (D i).own w' w₃ := ⟨r₃.1, fun b hb hc => r₃.2.1 b hb (hc.elim (fun hc => by rw [hfro] at hc; exact hc.1.imp id (hOO b)) fun hc => .inr (hown i hi b hc)), r₃.2.2.1, r₃.2.2.2⟩
    exact (LeftBy.ok (P := P) (ty := L.tWg) (Wg := w₁.heap.size) (Ch := Ch) (n := r + 1)).res i (V i) (D i).own w' w₃ h5 hrl
  have hrng : ∀ b, Rng s lo b → fro b := by
    intro b hb
    have hob : O b := by
      rcases hb with ⟨i, c, hc, hl, rfl⟩ | ⟨i, hb, hl⟩
      · exact (M₁.sim.own i c hc hl).1
      · exact ((M₁.sim.maps i b hb).2 hl).1
    rw [hfro]
    exact ⟨.inr hob, by rintro rfl; exact hChR hb⟩
  obtain ⟨s', h', sl, cc, j1, j2, j3, j4, ⟨jc0, jc1, jc2⟩, j5⟩ := join_all K S3 (Nat.le_refl _) (r + 1) hown (fun i k b hi hk h1 h2 => (hE.own i (by omega) b h1).2.2.2.2 k (by omega) h2 |>.symm) (fun i hi b hb hx => by
    have := (hE.own i (by omega) b hb).2.1
    rw [hYf] at this
    exact this (hrng b hx)) hLf (r + 1) (Nat.le_refl _)
  have hch3 : w₃.heap[Ch]? = some (.chan (r + 1) buf false s1 0 false) := (r₃.2.1 Ch (hnow Ch (hOO Ch hCh)) (.inr (hOO Ch hCh))).trans c1
  refine hEnd w₁ r₁ s' h' O' w₃ sl buf.toList Lp s1 a' ⟨j2, j3, j1, ⟨hOO, fun b hb => ?_⟩, ⟨fun b hb => hkeep b (.inr hb.1) hb.2, fun b hb => hkeep b (.inl hb) (by rintro rfl; exact M₁.sim.new _ hCh hb), hsz3, ?_, ?_⟩, fun b hb => ?_, by simpa using hch3, ⟨hlen, by simpa [← c2] using hlen⟩, ⟨c3, c4'⟩, fun p i v h1 h2 => ?_, ⟨cc, jc0, jc1, jc2, fun i hi => (j4 i hi).2⟩⟩ f6 f7 ?_
  · rw [hO'] at hb
    rcases hb with hb | hb | ⟨i, hi, hb⟩
    · exact .inl hb
    · have := (f1 b hb).2.2; omega
    · have := (hLf i (by omega)).1 b hb; omega
  · exact r₃.2.2.1.trans (f4.trans (by rw [hw₂]))
  · exact r₃.2.2.2.trans (f5.trans (by rw [hw₂]))
  · rcases j5 b hb with hb | ⟨i, hi, hb⟩
    · exact .inl hb
    · obtain ⟨_, e1, e2, _⟩ := hE.own i (by omega) b hb
      rw [hYf] at e1; rw [hYc] at e2
      exact .inr fun h => hnfro b e1 e2 (.inr h)
  · have hi : i < r + 1 := (c4' i).1 (List.mem_of_getElem? h1)
    have := (j4 i hi).1
    rw [hV i p v h1 (by simpa using h2)]
    exact this
  · exact f8.mono j2 (Nat.le_refl _) fun _ _ => rfl
end Go.Id
/- Goroutine 0's walk beside a channel of its own; rows that grow, whole. -/
namespace Go.Id
open Go.Conc
set_option linter.unusedVariables false
set_option linter.unusedSectionVars false
variable [Go.ConcR.Payload]
section
variable {P : Program} {N0 : Nat → Prop} {lo : Nat} {s : Sim} {O Pr Pr' : Nat → Prop} {lb : Nat → Nat} {ls : Lv} {h : Hp} {w : World}
theorem Mem.less (M : Mem N0 lo s O Pr lb ls h w) (hp : ∀ b, Pr' b → Pr b) : Mem N0 lo s O Pr' lb ls h w :=
  ⟨M.sim, ⟨fun j cs hj => let ⟨a1, a2, a3, a4⟩ := M.loc.cell j cs hj; ⟨a1, a2, fun hx => a3 (hp _ hx), a4⟩, M.loc.inj⟩, fun b hb => M.pr b (hp b hb)⟩
/-- The channel's block is turned. -/
theorem Mem.chan {Ch : Nat} (M : Mem N0 lo s O Pr lb ls h w) (hC : Pr Ch) {w' : World} (hk : ∀ b, b ≠ Ch → w'.heap[b]? = w.heap[b]?) (hsz : w'.heap.size = w.heap.size) : Mem N0 lo s O Pr lb ls h w' := by
  refine ⟨M.sim.behind (M.pr Ch hC).1 (M.pr Ch hC).2 (fun b _ hb => hk b hb) (by omega) (fun _ h => h) (fun b hb => by have := M.sim.now b hb; omega) M.sim.new, ⟨fun j cs hj => ?_, M.loc.inj⟩, M.pr⟩
  obtain ⟨a1, a2, a3, rc, ty, a4, a5⟩ := M.loc.cell j cs hj
  exact ⟨a1, a2, a3, rc, ty, (hk _ (by intro e; rw [e] at a3; exact a3 hC)).trans a4, a5⟩
end
section
variable (P : Program) (N0 : Nat → Prop) (lo : Nat) (f : FuncId) (fn : Func) (E : En) (Ch cap : Nat)
/-- As R, for goroutine 0, beside its channel Ch: what it holds, whether it is closed. -/
def RC (ib : List Value) (cl : Bool) (k : List Item) (t : Tm) (ls : Lv) (h : Hp) : Prop :=
  ∀ s (O Pr : Nat → Prop) lb w (b : Frame) (a : Act) cs Stop (buf : List Value) (sn rn : Nat), b.fn = f → b.kind ≠ .early → a.defers = E.ds → a.tmps.size = fn.ntmps → Mem N0 lo s O (fun b => Pr b ∨ b = Ch) lb ls h w → ¬ Pr Ch →
    TmOk s lb ls.length t a.tmps → w.heap[Ch]? = some (.chan cap buf.toArray cl sn rn false) → VRs s ib buf → (cl = false → rn = 0) → Aft (mainCtx P N0) lo fn E s O Pr w b cs Stop → JM P N0 Stop O (G (b.at a k) cs) w
end
section
variable {P : Program} {N0 : Nat → Prop} {lo : Nat} {f : FuncId} {fn : Func} {E : En} {Ch cap : Nat} {ib : List Value} {cl : Bool} {k : List Item} {t : Tm} {ls : Lv} {h : Hp} {ops : Array Oper} {i : Nat} {rest : List Nat} {o : Oper}
theorem RC.done (H : R (mainCtx P N0) lo f fn E k t ls h) : RC P N0 lo f fn E Ch cap ib cl k t ls h :=
  fun s O Pr lb w b a cs Stop buf sn rn h1 h2 h3 h4 M hn tm hc hv hz A => H s O Pr lb w b a cs Stop h1 h2 h3 h4 (M.less fun _ => .inl) tm A
/-- A piece of the walk. -/
theorem RC.seg {K : List Item → Tm → Lv → Hp → Prop} (hE : E.ds = []) (H : R (mainCtx P N0) lo f fn (.mid [] K) k t ls h) (hK : ∀ k' t' ls' h', K k' t' ls' h' → RC P N0 lo f fn E Ch cap ib cl k' t' ls' h') : RC P N0 lo f fn E Ch cap ib cl k t ls h := by
  intro s O Pr lb w b a cs Stop buf sn rn h1 h2 h3 h4 M hn tm hc hv hz A
  refine H s O (fun b => Pr b ∨ b = Ch) lb w b a cs Stop h1 h2 (h3.trans hE) h4 M tm ?_
  intro k' t' ls' h' s' O' lb' w' a' hk hle M' tm' hd hsz hO hkept
  exact hK k' t' ls' h' hk s' O' Pr lb' w' b a' cs Stop buf sn rn h1 h2 (hd.trans hE.symm) hsz M' hn tm' ((hkept.pr Ch (.inr rfl)).trans hc) ⟨hv.1, fun i v w a b => (hv.2 i v w a b).mono hle⟩ hz (A.from hle hO (hkept.less fun _ => .inl))
theorem RC.trim {t' : Tm} {ls' : Lv} (ht : keeps t' t) (hi : tmIn t' ls'.length = true) (hp : pre ls' ls) (H : RC P N0 lo f fn E Ch cap ib cl k t' ls' h) : RC P N0 lo f fn E Ch cap ib cl k t ls h := by
  intro s O Pr lb w b a cs Stop buf sn rn h1 h2 h3 h4 M hn tm hc hv hz A
  have hg := pre_get hp
  have hlen : ls'.length ≤ ls.length := by
    rcases Nat.lt_or_ge ls.length ls'.length with hlt | hge
    · have := hg ls.length _ (List.getElem?_eq_getElem hlt)
      simp at this
    · exact hge
  refine H s O Pr lb w b a cs Stop buf sn rn h1 h2 h3 h4 ⟨M.sim, ⟨fun j cs hj => M.loc.cell j cs (hg j cs hj), fun i j h1 h2 => M.loc.inj i j (by omega) (by omega)⟩, M.pr⟩ hn (fun i x hx => ?_) hc hv hz A
  obtain ⟨vr, e1, e2⟩ := tm i x (keeps_sub ht i x hx)
  refine ⟨vr, e1, ?_⟩
  cases x with
  | l j off => exact ⟨tmIn_ok hi i j off hx, e2.2⟩
  | _ => exact e2
/-- The channel is made. -/
theorem R_makeChan {ct e : TypeId} {dir : ChanDir} {ti : TyI} {n : Nat} (ho : ops[i]? = some o) (hg : o.guard = none) (hop : o.op = .makeChan ct (.const (.int .i64 n))) (hu : P.underlying ct = some (.chan dir e)) (ht : TyOk P e ti) (hn : n ≤ 1000) (hd : dstOk fn.ntmps o.dst = true)
    (H : ∀ Ch, RC P N0 lo f fn E Ch n [] false (.inRegion ops rest :: k) (t.put o.dst (.v (.chan (some Ch)))) ls h) : R (mainCtx P N0) lo f fn E (.inRegion ops (i :: rest) :: k) t ls h := by
  intro s O Pr lb w b a cs Stop h1 h2 h3 h4 M tm A
  refine JM.step rfl fun w₁ r => ?_
  have M₁ := M.rely r
  obtain ⟨w₂, hw₂⟩ : ∃ w₂ : World, w₂ = { w₁ with heap := w₁.heap.push (.chan n #[] false 0 0 false) } := ⟨_, rfl⟩
  have hst := stepG_makeChan (P := P) (main := true) (b := b) (a := a) (k := k) (cs := cs) (w := w₁) (rest := rest) ho hg h2 hop hu ht hn
  rw [← hw₂] at hst
  have hsz : w₂.heap.size = w₁.heap.size + 1 := by rw [hw₂]; simp
  have hold : ∀ b, b < w₁.heap.size → w₂.heap[b]? = w₁.heap[b]? := fun b hb => by rw [hw₂]; simp [Array.getElem?_push, show b ≠ w₁.heap.size by omega]
  have hKp : Kept N0 Pr w₁ w₂ := ⟨fun b hb => hold b (M₁.sim.now b (M₁.pr b hb).1), fun b hb => hold b (M₁.sim.base b hb), by omega, by rw [hw₂], by rw [hw₂]⟩
  refine ⟨_, w₂, #[], hst, ⟨by omega, fun b hb _ => hold b hb, by rw [hw₂], by rw [hw₂], fun e he => by simp at he⟩, ?_⟩
  have hrl : Rly N0 O w₁ w₂ := ⟨by omega, fun b hb _ => hold b hb, by rw [hw₂], by rw [hw₂]⟩
  have M₂ := M₁.rely hrl
  have hgr : ∀ b, grow O w₁ w₂ b → O b ∨ b = w₁.heap.size := fun b hb => hb.elim .inl fun x => .inr (by omega)
  have hrng : ¬ Rng s lo w₁.heap.size := by
    rintro (⟨i, c, hc, hl, he⟩ | ⟨i, hb, hl⟩)
    · have := M₁.sim.now _ (M₁.sim.own i c hc hl).1; omega
    · have := M₁.sim.now _ ((M₁.sim.maps i _ hb).2 hl).1; omega
  have S₂ : SimOk N0 lo s (grow O w₁ w₂) h w₂ := by
    refine ⟨M₂.sim.cells, fun i c hc hl => ?_, M₂.sim.apart, fun i b hb => ?_, fun b hb => ?_, fun b hb => ?_, M₂.sim.base, M₂.sim.lohi⟩
    · obtain ⟨x, y⟩ := M₂.sim.own i c hc hl; exact ⟨.inl x, y⟩
    · obtain ⟨x, y⟩ := M₂.sim.maps i b hb
      exact ⟨x, fun hl => let ⟨z, y⟩ := y hl; ⟨.inl z, y⟩⟩
    · rcases hgr b hb with hb | rfl
      · exact M₂.sim.now b hb
      · omega
    · rcases hgr b hb with hb | rfl
      · exact M₂.sim.new b hb
      · exact fun h => by have := M₁.sim.base _ h; omega
  have hlt : ∀ j cs, ls[j]? = some cs → lb j < w₁.heap.size := fun j cs hj => M₁.sim.now _ (M₁.loc.cell j cs hj).1
  refine H w₁.heap.size s (grow O w₁ w₂) Pr lb w₂ b (a.put o.dst (.chan (some w₁.heap.size))) cs Stop [] 0 0 h1 h2 (by rw [put_defers]; exact h3) (by rw [put_size]; exact h4) ⟨S₂, ⟨fun j cs hj => ?_, M₂.loc.inj⟩, fun b hb => ?_⟩ ?_ ?_ ?_ (VRs.nil s) (fun _ => rfl) ?_
  · obtain ⟨a1, a2, a3, a4⟩ := M₂.loc.cell j cs hj
    exact ⟨.inl a1, a2, fun hx => hx.elim a3 fun e => by have := hlt j cs hj; omega, a4⟩
  · rcases hb with hb | rfl
    · exact ⟨.inl (M₁.pr b hb).1, (M₁.pr b hb).2⟩
    · exact ⟨.inr ⟨Nat.le_refl _, by omega⟩, hrng⟩
  · intro h; have := M₁.sim.now _ (M₁.pr _ h).1; omega
  · exact tm.put (by rw [h4]; exact dstOk_lt hd) (VR.chan _)
  · rw [hw₂]; simp
  · exact A.from s.le_refl (OG.grow r.1) ((kept_rly M r).trans hKp)
theorem chan_set {w : World} {c cap' s' r' : Nat} {buf' : Array Value} {q' tm' : Bool} (hlt : c < w.heap.size) : (w.setChan c cap' buf' q' s' r' tm').heap[c]? = some (.chan cap' buf' q' s' r' tm') ∧ (w.setChan c cap' buf' q' s' r' tm').heap.size = w.heap.size ∧ ∀ b, b ≠ c → (w.setChan c cap' buf' q' s' r' tm').heap[b]? = w.heap[b]? := by
  refine ⟨?_, by simp [World.setChan], fun b hb => ?_⟩
  · simp [World.setChan, Array.getElem?_setIfInBounds_self_of_lt hlt]
  · simp only [World.setChan]
    rw [Array.getElem?_setIfInBounds_ne (Ne.symm hb)]
theorem ch_eval {s : Sim} {lb : Nat → Nat} {a : Act} {x : Operand} {c : Nat} (tm : TmOk s lb ls.length t a.tmps) (hx : ev t x = some (.chan (some c))) : a.eval x = .chan (some c) := by
  have := ev_ok tm hx
  generalize a.eval x = z at this
  cases this; rfl
theorem RC.close {x : Operand} {ats : Array TypeId} (ho : ops[i]? = some o) (hg : o.guard = none) (hop : o.op = .call { callee := .builtin .close, args := #[x], argTypes := ats }) (hx : ev t x = some (.chan (some Ch))) (hd : dstOk fn.ntmps o.dst = true) (hq : (P.funcs[f]?).any (·.norace) = false)
    (H : RC P N0 lo f fn E Ch cap ib true (.inRegion ops rest :: k) (t.put o.dst (.v (.tuple #[]))) ls h) : RC P N0 lo f fn E Ch cap ib false (.inRegion ops (i :: rest) :: k) t ls h := by
  intro s O Pr lb w b a cs Stop buf sn rn h1 h2 h3 h4 M hn tm hc hv hz A
  have hO := (M.pr Ch (.inr rfl)).1
  refine JM.close (w := w) ho hg h2 hop (ch_eval tm hx) hO hc (M.sim.now _ hO) (by rw [h1]; exact hq) fun w₁ r => ?_
  have M₁ := M.rely r
  obtain ⟨c1, c2, c3⟩ := chan_set (cap' := cap) (buf' := buf.toArray) (q' := true) (s' := sn) (r' := rn) (tm' := false) (M₁.sim.now _ hO)
  refine H s O Pr lb _ b _ cs Stop buf sn rn h1 h2 (by rw [put_defers]; exact h3) (by rw [put_size]; exact h4) (M₁.chan (.inr rfl) c3 c2) hn (tm.put (by rw [h4]; exact dstOk_lt hd) (VR.plain s rfl)) c1 hv (fun e => by cases e) ?_
  refine A.from s.le_refl (OG.refl O w) ((kept_rly (M.less fun _ => .inl) r).trans ⟨fun b hb => c3 b (by rintro rfl; exact hn hb), fun b hb => c3 b (by rintro rfl; exact M₁.sim.new _ hO hb), by omega, rfl, rfl⟩)
theorem RC.recv {x : Operand} {ct e : TypeId} {dir : ChanDir} {ti : TyI} {v : Value} (ho : ops[i]? = some o) (hg : o.guard = none) (hop : o.op = .recv ct x true) (hu : P.underlying ct = some (.chan dir e)) (ht : TyOk P e ti) (hx : ev t x = some (.chan (some Ch))) (hd : dstOk fn.ntmps o.dst = true)
    (H : RC P N0 lo f fn E Ch cap ib true (.inRegion ops rest :: k) (t.put o.dst (.v (.tuple #[v, .bool true]))) ls h) : RC P N0 lo f fn E Ch cap (v :: ib) true (.inRegion ops (i :: rest) :: k) t ls h := by
  intro s O Pr lb w b a cs Stop buf sn rn h1 h2 h3 h4 M hn tm hc hv hz A
  have hO := (M.pr Ch (.inr rfl)).1
  obtain ⟨vr, buf', rfl⟩ : ∃ vr buf', buf = vr :: buf' := by
    cases buf with
    | nil => have := hv.1; simp at this
    | cons a l => exact ⟨a, l, rfl⟩
  have hv0 : VR s v vr := hv.2 0 v vr rfl rfl
  have hv' : VRs s ib buf' := ⟨by simpa using hv.1, fun i v w a b => hv.2 (i + 1) v w (by simpa using a) (by simpa using b)⟩
  refine JM.recv (w := w) ho hg h2 hop hu ht (ch_eval tm hx) hO hc (M.sim.now _ hO) fun w₁ r => ?_
  have M₁ := M.rely r
  obtain ⟨c1, c2, c3⟩ := chan_set (cap' := cap) (buf' := buf'.toArray) (q' := true) (s' := sn) (r' := rn + 1) (tm' := false) (M₁.sim.now _ hO)
  refine H s O Pr lb _ b _ cs Stop buf' sn (rn + 1) h1 h2 (by rw [put_defers]; exact h3) (by rw [put_size]; exact h4) (M₁.chan (.inr rfl) c3 c2) hn (tm.put (by rw [h4]; exact dstOk_lt hd) ?_) c1 hv' (fun e => by cases e) ?_
  · refine .tup _ _ rfl fun j x y hx hy => ?_
    rcases j with _ | _ | j
    · simp at hx hy; subst hx; subst hy; exact hv0
    · simp at hx hy; subst hx; subst hy; exact .bool _
    · simp at hx
  refine A.from s.le_refl (OG.refl O w) ((kept_rly (M.less fun _ => .inl) r).trans ⟨fun b hb => c3 b (by rintro rfl; exact hn hb), fun b hb => c3 b (by rintro rfl; exact M₁.sim.new _ hO hb), by omega, rfl, rfl⟩)
theorem RC.recvEnd {x : Operand} {ct e : TypeId} {dir : ChanDir} {ti : TyI} (ho : ops[i]? = some o) (hg : o.guard = none) (hop : o.op = .recv ct x true) (hu : P.underlying ct = some (.chan dir e)) (ht : TyOk P e ti) (hx : ev t x = some (.chan (some Ch))) (hd : dstOk fn.ntmps o.dst = true)
    (H : ∀ z, R (mainCtx P N0) lo f fn E (.inRegion ops rest :: k) (t.put o.dst (.v (.tuple #[z, .bool false]))) ls h) : RC P N0 lo f fn E Ch cap [] true (.inRegion ops (i :: rest) :: k) t ls h := by
  intro s O Pr lb w b a cs Stop buf sn rn h1 h2 h3 h4 M hn tm hc hv hz A
  have hO := (M.pr Ch (.inr rfl)).1
  obtain rfl : buf = [] := by
    cases buf with
    | nil => rfl
    | cons a l => have := hv.1; simp at this
  refine JM.recvEnd (w := w) ho hg h2 hop hu ht (ch_eval tm hx) hO hc (M.sim.now _ hO) fun z w₁ hzz r => ?_
  have hvz : VR s z z := by
    cases z with
    | agg a =>
      refine .agg _ _ rfl (fun j x y hx hy => ?_) fun y hy => ?_
      · rw [hx] at hy; cases hy
        have : x ∈ ti.zero := by
          have h5 : x ∈ a := Array.mem_of_getElem? hx
          have h6 : a = ti.zero.toArray := hzz
          rw [h6] at h5; simpa using h5
        exact VR.plain s (ht.plain x this).1
      · have h6 : a = ti.zero.toArray := hzz
        rw [h6] at hy
        exact (ht.plain y (by simpa using hy)).2
    | _ =>
      refine VR.plain s (ht.plain _ ?_).1
      have h6 := congrArg Array.toList hzz
      simp only [Value.cells] at h6
      rw [← h6]; simp
  refine H z s O Pr lb _ b _ cs Stop h1 h2 (by rw [put_defers]; exact h3) (by rw [put_size]; exact h4) ((M.rely r).less fun _ => .inl) (tm.put (by rw [h4]; exact dstOk_lt hd) ?_) (A.from s.le_refl (OG.refl O w) (kept_rly (M.less fun _ => .inl) r))
  refine .tup _ _ rfl fun j x y hx hy => ?_
  rcases j with _ | _ | j
  · simp at hx hy; subst hx; subst hy; exact hvz
  · simp at hx hy; subst hx; subst hy; exact .bool _
  · simp at hx
end
end Go.Id
/- The phase, beside the channel: from the group's making to behind Wait. -/
namespace Go.Id
open Go.Conc Go.RowKit Go.Conc.Lib
open Go.ConcR (Payload)
set_option linter.unusedVariables false
set_option linter.unusedSectionVars false
variable [Payload] {L : WgLink}
/-- No address but one's own. -/
def flatS : Sl → Prop
  | .v (.pointer (some _)) | .v (.slice (some _) _ _) => True
  | .v v => plainV v = true
  | .b _ | .r _ => True
  | _ => False
theorem slIn_v {D : Nat → Prop} {v : Value} (h : flatIn D v) : slIn D (.v v) := h
theorem carry_of {N0 : Nat → Prop} {lo : Nat} {s : Sim} {O : Nat → Prop} {h : Hp} {w : World} {lb : Nat → Nat} {n : Nat} {T : Array Value} {t t1 : Tm} (S : SimOk N0 lo s O h w) (tm : TmOk s lb n t T) (hC : ∀ j x, look t1 j = some x → look t j = some x ∧ flatS x) :
    Carry (fun i => i < h.n ∧ s.adr i ≠ none) t t1 := by
  intro j x hx
  obtain ⟨h1, h2⟩ := hC j x hx
  refine ⟨h1, ?_⟩
  obtain ⟨vr, h3, h4⟩ := tm j x h1
  cases x with
  | v v =>
    have h4 : VR s v vr := h4
    cases h4 with
    | ptr id off sp a c ha he hh => exact slIn_v ⟨(S.cells id c ha).1, by rw [ha]; simp⟩
    | sl id off sp n fl a cap c ha he hh h0 hn => exact slIn_v ⟨(S.cells id c ha).1, by rw [ha]; simp⟩
    | _ => first | exact slIn_v h2 | exact slIn_v rfl
  | b q => trivial
  | r v => trivial
  | l a b => exact h2
  | c a b => exact h2
section
variable {P : Program} {N0 : Nat → Prop} {lo : Nat} {f : FuncId} {fn : Func} {E : En} {Ch : Nat} {k1 kE : List Item} {t t1 tE : Tm} {ls : Lv} {h : Hp} {ops : Array Oper} {j : Nat} {rest : List Nat} {o : Oper}
theorem RC.phase (H : WgLib P L) {d r : Nat} (ho : ops[j]? = some o) (hg : o.guard = none) (hop : o.op = .alloc L.tWg) (hdst : o.dst = some d) (hdl : d < fn.ntmps) {ti : TyI} (ht : TyOk P L.tWg ti) (htz : ti.zero = [.int .u64 0, .int .u32 0]) {Rd : Nat → Nat → Nat → Value → Hp → Prop} (K : RdOk Rd) (hr : r + 1 < 2147483648) (hE : E.ds = [])
    (hC : ∀ j x, look t1 j = some x → look t j = some x ∧ flatS x)
    (HSp : ∀ s : Sim, (∀ j a, look t1 j = some (.v (.pointer (some a))) → a.block < h.n ∧ s.adr a.block ≠ none) → ∀ (Wg : Nat) (fro : Nat → Prop), R (treeCtx P true fro) h.n f fn (.mid [] (SpFrom ⟨P, L.tWg, Wg, Ch, fro, r + 1, LeftBy fro h.n Wg Rd⟩ L h.n s h f fn tE kE (r + 1))) (.inRegion ops rest :: k1) ((d, .r (.pointer (some ⟨Wg, 0, none⟩))) :: t1) [] h)
    (hEnd : ∀ (sl : Nat → Value) (Lp : List Nat) (c : Nat → Nat) (h' : Hp), Ext h h' → Lp.Nodup → (∀ i, i ∈ Lp ↔ i < r + 1) → c 0 = h.n → (∀ i, i < r + 1 → c i ≤ c (i + 1)) → c (r + 1) = h'.n → (∀ i, i < r + 1 → Rd i (c i) (c (i + 1)) (sl i) h') →
      RC P N0 lo f fn E Ch (r + 1) (Lp.map fun (i : Nat) => Value.agg #[.int .i64 i, sl i]) false kE tE [] h') :
    RC P N0 lo f fn E Ch (r + 1) [] false (.inRegion ops (j :: rest) :: k1) t ls h := by
  intro s O Pr lb w b a cs Stop buf sn rn h1 h2 h3 h4 M hn tm hc hv hz A
  obtain rfl : buf = [] := by
    cases buf with
    | nil => rfl
    | cons a l => have := hv.1; simp at this
  have hCar := carry_of M.sim tm hC
  have hp : ∀ j a, look t1 j = some (.v (.pointer (some a))) → a.block < h.n ∧ s.adr a.block ≠ none := fun j a hj => (hCar j _ hj).2
  have hO := (M.pr Ch (.inr rfl)).1
  have hR := (M.pr Ch (.inr rfl)).2
  -- nothing was received yet
  obtain rfl := hz rfl
  refine phase_R H h1 h2 ho hg hop hdst hdl ht htz K M tm (h3.trans hE) h4 hO hc hR hr hCar (HSp s hp) ?_
  intro w₀ r₀ s' h' O' w' sl buf' Lp sn' a' B hd hsz tm'
  obtain ⟨cc, c0, c1, c2, c3⟩ := B.rd
  refine hEnd sl Lp cc h' B.ext B.perm.1 B.perm.2 c0 c1 c2 c3 s' O' Pr lb w' b a' cs Stop buf' sn' 0 h1 h2 (hd.trans hE.symm) hsz ⟨B.sim, ⟨fun j cs hj => by simp at hj, fun j j' hj => by simp at hj⟩, fun b hb => ?_⟩ hn ?_ B.ch ?_ (fun _ => rfl) ?_
  · exact ⟨B.og.1 b (M.pr b hb).1, fun hx => (B.rng b hx).elim (M.pr b hb).2 fun hx => hx (M.pr b hb).1⟩
  · intro j x hx
    obtain ⟨vr, e1, e2⟩ := tm' j x hx
    refine ⟨vr, e1, ?_⟩
    cases x with
    | l a b => exact absurd e2.1 (by omega)
    | _ => exact e2
  · refine ⟨by simp [B.len.1, B.len.2], fun p v u hv hu => ?_⟩
    rw [List.getElem?_map] at hv
    obtain ⟨i, hi, rfl⟩ := Option.map_eq_some_iff.1 hv
    exact B.row p i u hi hu
  · refine A.from B.le (B.og.of (OG.refl O w) r₀.1) ((kept_rly (M.less fun _ => .inl) r₀).trans (B.kept.less fun b hb => ⟨(M.pr b (.inl hb)).1, by rintro rfl; exact hn hb⟩))
end
end Go.Id
/- Words of the walk: an element of a row is turned. -/
namespace Go.Id
set_option linter.unusedVariables false
theorem setL_pre (p : List Value) : ∀ (ys c : List Value) (o : Nat), setL (p ++ c) (p.length + o) ys = p ++ setL c o ys
  | [], c, o => rfl
  | y :: ys, c, o => by
    unfold setL
    have : (p ++ c).set (p.length + o) y = p ++ c.set o y := by rw [List.set_append_right _ _ (by omega)]; congr 2; omega
    rw [this, Nat.add_assoc]; exact setL_pre p ys _ _
theorem setL_suf (q : List Value) : ∀ (ys c : List Value) (o : Nat), o + ys.length ≤ c.length → setL (c ++ q) o ys = setL c o ys ++ q
  | [], c, o, _ => rfl
  | y :: ys, c, o, h => by
    simp only [List.length_cons] at h
    unfold setL
    rw [List.set_append_left _ _ (by omega)]
    exact setL_suf q ys _ _ (by rw [List.length_set]; omega)
section
variable {α : Type}
theorem flat_set {enc : α → List Value} {sz : Nat} (he : ∀ x, (enc x).length = sz) {l : List α} {j f : Nat} (hj : j < l.length) {x : α} {ys : List Value} (hf : f + ys.length ≤ sz) (hx : setL (enc l[j]) f ys = enc x) : setL (l.flatMap enc) (j * sz + f) ys = (l.set j x).flatMap enc := by
  have e1 : l.flatMap enc = (l.take j).flatMap enc ++ (enc l[j] ++ (l.drop (j + 1)).flatMap enc) := by
    conv => lhs; rw [← List.take_append_drop j l, List.flatMap_append, List.drop_eq_getElem_cons hj, List.flatMap_cons]
  have e2 : (l.set j x).flatMap enc = (l.take j).flatMap enc ++ (enc x ++ (l.drop (j + 1)).flatMap enc) := by
    rw [List.set_eq_take_append_cons_drop, if_pos hj, List.flatMap_append, List.flatMap_cons]
  have hl : ((l.take j).flatMap enc).length = j * sz := by rw [flat_len he, List.length_take, Nat.min_eq_left (Nat.le_of_lt hj)]
  rw [e1, e2, ← hl, setL_pre, setL_suf _ _ _ _ (by rw [he]; exact hf), hx]
/-- A part of the element j is turned. -/
theorem Row.stF {lo : Nat} {h : Hp} {b e : Nat} {enc : α → List Value} {sz : Nat} {l : List α} (r : Row h b e enc sz l) (he : ∀ x, (enc x).length = sz) (hlo : lo ≤ b) {j f : Nat} (hj : j < l.length) {x : α} {ys : List Value} (hf : f + ys.length ≤ sz) (hx : setL (enc l[j]) f ys = enc x) :
    St lo h (addA (addA ⟨b, 0, .some e⟩ (j * sz)) f) ys (h.set b (.cells ((l.set j x).flatMap enc) sz e)) := by
  refine ⟨hlo, r.lt, _, sz, r.g, ?_, ?_⟩
  · have : (j + 1) * sz ≤ l.length * sz := Nat.mul_le_mul_right _ hj
    rw [Nat.add_mul] at this
    rw [flat_len he]; simp only [addA]; omega
  · rw [← flat_set he hj hf hx]
    simp only [addA, Nat.zero_add]; rfl
theorem Row.st {lo : Nat} {h : Hp} {b e : Nat} {enc : α → List Value} {sz : Nat} {l : List α} (r : Row h b e enc sz l) (he : ∀ x, (enc x).length = sz) (hlo : lo ≤ b) {j : Nat} (hj : j < l.length) (x : α) :
    St lo h (addA ⟨b, 0, .some e⟩ (j * sz)) (enc x) (h.set b (.cells ((l.set j x).flatMap enc) sz e)) := by
  have := r.stF he hlo (f := 0) (x := x) (ys := enc x) hj (by rw [he]; omega) (setL_all [] _ _ (by rw [he, he]))
  exact this
theorem zeros_flat {enc : α → List Value} {z : List Value} {x : α} (hz : enc x = z) : ∀ n, zeros z n = (List.replicate n x).flatMap enc
  | 0 => rfl
  | n + 1 => by rw [zeros, List.replicate_succ, List.flatMap_cons, hz, zeros_flat hz n]
end
/-! ### rows that grow, whole -/
section
variable {α : Type}
def Gx (lo : Nat) (h : Hp) (enc : α → List Value) (sz : Nat) (o : Option (Nat × Nat)) (l : List α) : Prop :=
  match o with
  | none => l = []
  | some (b, e) => lo ≤ b ∧ Row h b e enc sz l
variable {lo : Nat} {h h' : Hp} {enc : α → List Value} {sz : Nat} {o : Option (Nat × Nat)} {l : List α}
theorem Gx.w (g : Gx lo h enc sz o l) (he : ∀ x, (enc x).length = sz) : Gw lo h enc sz o l := by
  match o, g with
  | none, g => exact g
  | some (b, e), ⟨g1, g2⟩ => exact ⟨g1, g2.p he⟩
theorem Gx.lt (g : Gx lo h enc sz o l) {i : Nat} (hi : isB o i) : i < h.n ∧ lo ≤ i := by
  obtain ⟨e, rfl⟩ := hi
  exact ⟨g.2.lt, g.1⟩
theorem Gx.keep (g : Gx lo h enc sz o l) (hn : h.n ≤ h'.n) (hg : ∀ i, i < h.n → isB o i → h'.g i = h.g i) : Gx lo h' enc sz o l := by
  match o, g with
  | none, g => exact g
  | some (b, e), ⟨g1, g2⟩ => exact ⟨g1, Nat.lt_of_lt_of_le g2.lt hn, by rw [hg b g2.lt ⟨e, rfl⟩]; exact g2.g⟩
theorem Gx.ext (g : Gx lo h enc sz o l) (x : Ext h h') : Gx lo h' enc sz o l := g.keep x.n fun i hi _ => x.g i hi
theorem Gx.cells (g : Gx lo h enc sz o l) (he : ∀ x, (enc x).length = sz) : SlCells h (gv o l.length) sz (l.flatMap enc) := by
  match o, g with
  | none, g => subst g; rfl
  | some (b, e), ⟨g1, g2⟩ =>
    show if l.length = 0 then _ else _
    split
    · rename_i hl
      rw [List.length_eq_zero_iff.1 hl]; rfl
    · obtain ⟨_, c, sz', h1, h2⟩ := g2.sls he
      exact ⟨c, sz', h1, h2⟩
theorem Gx.apps (g : Gx lo h enc sz o l) (he : ∀ x, (enc x).length = sz) (hz : sz ≠ 0) (m : List α) (hm : l.length + m.length ≤ Id.maxLen) (hlo : lo ≤ h.n) :
    ∃ o' h', Ap lo h sz (gv o l.length) (m.flatMap enc) m.length (gv o' (l ++ m).length) h' ∧ Gx lo h' enc sz o' (l ++ m) ∧ Grow o o' h h' := by
  match o, g with
  | none, g =>
    subst g
    by_cases hm0 : m.length = 0
    · obtain rfl := List.length_eq_zero_iff.1 hm0
      exact ⟨none, h, ⟨hz, by simp, rfl, rfl⟩, rfl, ⟨Nat.le_refl _, fun _ _ _ => rfl, fun i hi => .inl hi⟩⟩
    · refine ⟨some (h.n, 0), h.push (.cells (m.flatMap enc) sz 0), ⟨hz, flat_len he m, ?_⟩, ⟨hlo, Row.push⟩, ⟨by simp [Hp.push], fun i hi _ => by simp [Hp.push]; omega, fun i hi => .inr (by obtain ⟨e, hh⟩ := hi; cases hh; exact Nat.le_refl _)⟩⟩
      show (if m.length = 0 then _ else _)
      rw [if_neg hm0]
      exact ⟨by simpa using hm, rfl, rfl⟩
  | some (b, e), ⟨g1, g2⟩ =>
    refine ⟨some (b, e + 1), h.set b (.cells ((l ++ m).flatMap enc) sz (e + 1)), ?_, ⟨g1, Row.set g2.lt⟩, ⟨Nat.le_refl _, fun i hi hb => ?_, fun i hi => .inl ?_⟩⟩
    · have := g2.app (m := m) (lo := lo) he hz g1 hm
      rw [List.length_append]
      exact this
    · simp only [Hp.set]; rw [if_neg]; intro e'; subst e'; exact hb ⟨e, rfl⟩
    · obtain ⟨e', hh⟩ := hi; cases hh; exact ⟨e, rfl⟩
end
end Go.Id
