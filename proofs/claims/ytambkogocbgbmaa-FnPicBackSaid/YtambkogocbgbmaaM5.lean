/- For every input the law returns true, and what came in reads as it did (the row of Rh). No condition. Texts of this claim, joined: Ia, Ib, Ic, Ie, Ja, Jb, Jc, IdIn, In, Rh. -/
import Derived.Test.YtambkogocbgbmaaM4
import Derived.Deep.Slices
import Derived.Below
import Derived.ChangeFn
import Derived.ChangeOld
import Derived.WalkKit
import Derived.ProofKit
import Derived.OpenShut
import Derived.Test.YtambkogocbgbmaaRows
import Derived.Conc.LeavingOf
import Derived.ShutString
import Derived.SizedLaws
import Derived.Lib.SmallJoins
/- Contracts over the ideal memory: PicTo. -/
namespace Go.Proofs.Ytambkogocbgbmaa.Id
open Go.Id Go.Conc Go.Conc.Lib
open Go.Proofs
set_option linter.unusedVariables false
set_option maxRecDepth 100000
section
variable {X : Ctx Try.prog} {lo : Nat}
theorem PicTo1r_ok (g : Gd) (k : Int) (T : Tr.Tr) (ad : Option Addr) (fl gp mp : Nat) (h : Hp) (hb : Bx h gp [.int .i64 g.w, .slice ad g.cs.length fl]) (hmb : Bx h mp [.int .i64 (many g)]) (hg : gOk g = true) (hs : Sls h cE 2 ad g.cs) (hn : (g.cs.length : Int) < 2 ^ 31) (hT : IsTrail g k T) (hm : T.1.length ≤ 20000 ∧ T.2.length ≤ 60000) (hE : EOk g T.2) (hO : ∀ e ∈ T.2, e.1 = 0 → 0 ≤ e.2.1 ∧ e.2.1 < many g) : Tri X lo 43 [.int .i64 k, .pointer (some ⟨mp, 0, none⟩), .pointer (some ⟨gp, 0, none⟩)] h fun v h' => (∃ b e, v = .slice (some ⟨b, 0, some e⟩) (toRow g T.2).length 1 ∧ h.n ≤ b ∧ Row h' b e iE 1 (toRow g T.2)) ∧ Ext h h' := by
  refine enter tbOk mtOk ⟨[], [(6, [0, 1, 2, 3, 4, 5, 6, 7, 8, 9], [0, 0, 2, 7, 15, 0, 32, 127, 255, 511])]⟩ 400 Try.func43 rfl rfl rfl fun hlo => ?_
  refine ⟨_, hmb.ld rfl, ?_⟩
  have hmany : 1 ≤ many g ∧ many g ≤ 20 := by
    obtain ⟨h1, h2, _⟩ := hi_ok hg
    obtain ⟨g1, g2, _⟩ := gOk_iff.1 hg
    unfold many; omega
  refine And.intro (by unfold Id.maxLen; omega) ?_
  refine ⟨_, (hb.ext (Ext.push _ _)).ld rfl, ?_⟩
  have xp := Ext.push h (.cells (zeros [.int .i64 0] (many g).toNat) 1 0)
  refine callP (trailOf_ok g k T ad fl _ (hs.ext xp) hn hT hm) ?_
  rintro v h1 ⟨o1, o2, rfl, g1, g2, e1⟩
  obtain ⟨a2, f2, q2, s2, s3⟩ := gw_sls' g2
  rw [q2]
  have hr0 : Row h1 h.n 0 iE 1 (toRow g (T.2.take 0)) := by
    have := (Row.push (h := h) (e := 0) (enc := iE) (sz := 1) (l := toRow g (T.2.take 0)))
    have hz : zeros [.int .i64 0] (many g).toNat = (toRow g (T.2.take 0)).flatMap iE := by
      rw [flat_iE, List.take_zero]; unfold toRow
      generalize (many g).toNat = m
      have hzz : ∀ m : Nat, zeros [Value.int .i64 0] m = List.replicate m (Value.int .i64 0) := fun m => by
        induction m with
        | zero => rfl
        | succ m ih => rw [zeros, ih]; rfl
      rw [hzz]
      simp [Tr.outs]
      induction m with
      | zero => rfl
      | succ m ih => rw [List.range_succ, List.map_append, ← ih, List.replicate_succ']; rfl
    rw [← hz] at this
    exact this.ext e1
  refine loop (σ := Nat) tbOk mtOk ⟨[], [(6, [0, 1, 2, 3, 4, 5, 6, 7, 8, 9], [0, 0, 2, 7, 15, 0, 32, 127, 255, 511])]⟩ (fun i => [(15, .v (.int .i64 (i : Int))), (14, .v (.int .i64 (T.2.length : Int))), (13, .v (.slice a2 T.2.length f2)), (5, .v (.slice (some ⟨h.n, 0, some 0⟩) (many g).toNat 1))]) (fun _ => []) (fun i h' => i ≤ T.2.length ∧ Ext h h' ∧ Ext1 h.n h1 h' ∧ Row h' h.n 0 iE 1 (toRow g (T.2.take i)) ∧ ∀ x, 0 ≤ Tr.outs x (T.2.take i) ∧ Tr.outs x (T.2.take i) ≤ 64 * i) (fun i => T.2.length - i) 380 0 (fun _ => rfl) ⟨rfl, rfl, rfl, rfl, trivial⟩ trivial ⟨by omega, xp.trans e1, (Ext.refl _).one _, hr0, fun x => ⟨Int.le_refl 0, by show (0 : Int) ≤ 64 * ((0 : Nat) : Int); decide⟩⟩ (fun i h' hI again => ?_)
  obtain ⟨i1, i2, i3, i4, i5⟩ := hI
  refine cnd (fun c1 => ?_) (fun c1 => ?_)
  · have c1 : i < T.2.length := by simpa using c1
    obtain ⟨a2, rfl⟩ := s2.some c1
    obtain ⟨_, he2⟩ := hE T.2[i] (List.getElem_mem c1)
    have he0 := hO T.2[i] (List.getElem_mem c1)
    have hld := (sls_ext1 i3 s2 (by have := s3 _ rfl; simp only [Hp.push] at this; omega)).ld vE3 c1
    have hsn : ∀ x, Tr.outs x (T.2.take (i + 1)) = Tr.outs x (T.2.take i) + Tr.outs x [T.2[i]] := fun x => outs_take c1
    generalize T.2[i] = e at *
    refine And.intro ⟨by omega, by omega⟩ ?_
    refine ⟨_, hld, ?_⟩
    have hw : IntKind.i64.wrap ((i : Int) + 1) = ((i + 1 : Nat) : Int) := wr (by omega) (by omega)
    refine cnd (fun c2 => ?_) (fun c2 => ?_)
    · have c2 : e.1 = 0 := by simpa using c2
      obtain ⟨j0, j1⟩ := he0 c2
      have hj : e.2.1.toNat < (toRow g (T.2.take i)).length := by rw [toRow_len]; omega
      have hjj : ((e.2.1.toNat : Nat) : Int) = e.2.1 := by omega
      have ldj : Ld h' (addA ⟨h.n, 0, some 0⟩ (e.2.1.toNat * 1)) 1 [.int .i64 (Tr.outs e.2.1 (T.2.take i))] := by
        have := (i4.sls (fun _ => rfl)).ld (fun _ => rfl) hj
        rw [toRow_get hj, hjj] at this
        exact this
      refine And.intro (by kernel_rfl) ?_
      refine And.intro ⟨j0, by omega⟩ ?_
      refine ⟨_, ldj, ?_⟩
      refine And.intro ⟨j0, by omega⟩ ?_
      refine ⟨_, row_st i4 hlo hj, ?_⟩
      have ho : ∀ x, Tr.outs x (T.2.take (i + 1)) = Tr.outs x (T.2.take i) + (if e.2.1 = x then e.2.2 else 0) := fun x => by
        rw [hsn]; simp [Tr.outs, c2]
      have hwv : IntKind.i64.wrap (Tr.outs e.2.1 (T.2.take i) + e.2.2) = Tr.outs e.2.1 (T.2.take i) + e.2.2 := by
        have := i5 e.2.1
        rw [wr (by omega) (by omega)]
      have hrow : toRow g (T.2.take (i + 1)) = (toRow g (T.2.take i)).set e.2.1.toNat (IntKind.i64.wrap (Tr.outs e.2.1 (T.2.take i) + e.2.2)) := by
        rw [hwv]
        refine List.ext_getElem (by simp [toRow]) fun n h1 h2 => ?_
        rw [toRow_get h1, List.getElem_set, ho]
        by_cases hn : e.2.1.toNat = n
        · rw [if_pos hn, if_pos (by omega), ← hn, hjj]
        · rw [if_neg hn, if_neg (by omega), Int.add_zero, toRow_get]
      refine again (i + 1) _ _ _ (by omega) ⟨?_, rfl, rfl, rfl, trivial⟩ trivial ⟨by omega, i2.set (Nat.le_refl _) _, i3.set _ (.inl rfl), by rw [hrow]; exact Row.set i4.lt, fun x => by rw [ho]; have := i5 x; split <;> omega⟩
      show some (Sl.v (.int .i64 (IntKind.i64.wrap ((i : Int) + 1)))) = _
      rw [hw]
    · have c2 : e.1 ≠ 0 := by simpa using c2
      have ho : ∀ x, Tr.outs x (T.2.take (i + 1)) = Tr.outs x (T.2.take i) := fun x => by rw [hsn]; simp [Tr.outs, c2]
      have hrow : toRow g (T.2.take (i + 1)) = toRow g (T.2.take i) := by unfold toRow; simp only [ho]
      refine again (i + 1) _ _ _ (by omega) ⟨?_, rfl, rfl, rfl, trivial⟩ trivial ⟨by omega, i2, i3, by rw [hrow]; exact i4, fun x => by rw [ho]; have := i5 x; omega⟩
      show some (Sl.v (.int .i64 (IntKind.i64.wrap ((i : Int) + 1)))) = _
      rw [hw]
  · have c1 : T.2.length = i := by simp at c1; omega
    rw [← c1, List.take_length] at i4
    refine And.intro ⟨h.n, 0, ?_, Nat.le_refl _, i4⟩ i2
    rw [toRow_len]
end
/-- A row that is a slice of its own. -/
def RowEl (f : Int → List Int) (k : Int) (v : Value) (h : Hp) : Prop := ∃ b e, v = .slice (some ⟨b, 0, some e⟩) (f k).length 1 ∧ Row h b e iE 1 (f k)
theorem elRow (f : Int → List Int) : ElOk (RowEl f) := by
  refine ⟨?_, ?_, ?_, ?_, ?_⟩
  · rintro k v h ⟨b, e, rfl, r⟩; exact ⟨rfl, rfl⟩
  · rintro k v h b' ⟨b, e, rfl, r⟩ hb
    obtain rfl : b = b' := Option.some.inj hb
    exact r.lt
  · rintro k v h h' ⟨b, e, rfl, r⟩ hn hg
    exact ⟨b, e, rfl, Nat.lt_of_lt_of_le r.lt hn, by rw [hg b rfl]; exact r.g⟩
  · rintro k v h ⟨b, e, rfl, r⟩
    refine .inr ⟨_, _, _, _, _, _, rfl, r.g, fun u hu => ?_⟩
    rw [flat_iE] at hu
    obtain ⟨x, _, rfl⟩ := List.mem_map.1 hu
    rfl
  · rintro k v h h' d ⟨b, e, rfl, r⟩ hm
    obtain ⟨m1, m2⟩ := hm b rfl
    refine ⟨b + d, e, rfl, m1, ?_⟩
    rw [m2, r.g, flat_iE]
    simp [shO, shV]
variable {N0 : Nat → Prop} {lo : Nat}
/-- A picture's row, from sight k. -/
noncomputable def rowTo (g : Gd) (k : Int) : List Int := toRow g (trail g k).2
/-- What PicTo yields. -/
def PicToP (lo : Nat) (g : Gd) (h : Hp) (v : Value) (h' : Hp) : Prop := (∃ o L, v = gv o L.length ∧ Gx lo h' vE1 1 o L ∧ (L.length : Int) = (if gOk g then many g else 0) ∧ (∀ (j : Nat) (x : Value), L[j]? = some x → RowEl (rowTo g) j x h') ∧ (∀ b ∈ blks L, h.n ≤ b ∧ ¬ isB o b) ∧ (∀ b, isB o b → h.n ≤ b) ∧ (blks L).Pairwise (· < ·)) ∧ Ext h h'
theorem PicTo_ok (g : Gd) (ad : Option Addr) (fl : Nat) (h : Hp) (hs : Sls h cE 2 ad g.cs) (hn : (g.cs.length : Int) < 2 ^ 31) : Tri (mainCtx Try.prog N0) lo 18 [.agg #[.int .i64 g.w, .slice ad g.cs.length fl]] h (PicToP lo g h) := by
  refine enter tbOk mtOk ⟨[1,3], []⟩ 400 Try.func18 rfl rfl rfl fun hlo => ?_
  have hb : Bx (h.push (.cells [.int .i64 g.w, .slice ad g.cs.length fl] 0 0)) h.n [.int .i64 g.w, .slice ad g.cs.length fl] := Bx.push
  refine ⟨_, hb.ld rfl, ?_⟩
  refine callP (GridOk_ok g.w ad fl g.cs _ (hs.ext (Ext.push _ _)) hn) ?_
  rintro v h1 ⟨rfl, e1⟩
  have e2 : Ext h h1 := (Ext.push _ _).trans e1
  refine cnd (fun c1 => ?_) (fun c1 => ?_)
  · have hg : gOk g = false := by simpa using c1
    refine ⟨⟨none, [], rfl, rfl, by rw [hg]; rfl, fun j x hx => by simp at hx, fun b hb => by simp [blks] at hb, fun b hb => (by obtain ⟨e, hh⟩ := hb; cases hh), by simp [blks]⟩, e2⟩
  · have hg : gOk g = true := by simpa using c1
    refine ⟨_, (hb.ext e1).ld rfl, ?_⟩
    refine callP (SightMany_ok g ad fl h1 (hs.ext e2) hn) ?_
    rintro v h2 ⟨rfl, e3⟩
    rw [if_pos hg]
    have m0 : Bx (h2.push (.cells [.int .i64 0] 0 0)) h2.n [.int .i64 0] := Bx.push
    have e4 : Ext h2 (h2.push (.cells [.int .i64 0] 0 0)) := Ext.push _ _
    have hlo2 : lo ≤ h2.n := by have := e2.n; have := e3.n; omega
    refine ⟨(h2.push (.cells [.int .i64 0] 0 0)).set h2.n (.cells [.int .i64 (many g)] 0 0), m0.st hlo2 rfl, ?_⟩
    have m1 : Bx ((h2.push (.cells [.int .i64 0] 0 0)).set h2.n (.cells [.int .i64 (many g)] 0 0)) h2.n [.int .i64 (many g)] := m0.set
    have e5 : Ext h2 ((h2.push (.cells [.int .i64 0] 0 0)).set h2.n (.cells [.int .i64 (many g)] 0 0)) := e4.set (Nat.le_refl _) _
    generalize (h2.push (.cells [.int .i64 0] 0 0)).set h2.n (.cells [.int .i64 (many g)] 0 0) = h3 at *
    have e6 := e3.trans e5
    refine ⟨_, (hb.ext (e1.trans e6)).ld rfl, ?_⟩
    obtain ⟨w, hh, q1, q2, q3, q4, q5⟩ := gOk_nat hg
    have hm := many_nat q1 q2
    have S := sidesS_ok (N0 := N0) (lo := lo) (elRow (rowTo g)) w hh q3 q4 ad g.cs.length fl q5 (fOf := 43) (cp := [.pointer (some ⟨h2.n, 0, none⟩), .pointer (some ⟨h.n, 0, none⟩)]) (h := h3)
      (fun fro lo' k h' x _ k0 k1 => (PicTo1r_ok g k (trail g k) ad fl h.n h2.n h' ((hb.ext (e1.trans e6)).ext x) (m1.ext x) hg (hs.ext ((e2.trans e6).trans x)) hn (trail_ok g k).1 (trail_ok g k).2.1 (trail_ok g k).2.2.1 (trail_ok g k).2.2.2.2).mono fun v h'' ⟨⟨b, e, a1, a2, a3⟩, a4⟩ => ⟨⟨b, e, a1, a3⟩, a4, fun b' hb => (by subst a1; obtain rfl : b = b' := Option.some.inj hb; exact a2)⟩) (fun k v h ⟨b, e, hv, _⟩ => ⟨_, _, _, hv⟩)
    rw [← q1] at S
    refine callP S ?_
    rintro v h4 ⟨o, L, rfl, g1, g2, g3, g4, g5, g6, e7⟩
    have e8 := e2.trans e6
    refine ⟨⟨o, L, rfl, g1, ?_, g3, fun b hb => ⟨Nat.le_trans e8.n (g5 b hb).1, (g5 b hb).2.2⟩, fun b hb => Nat.le_trans e8.n (g6 b hb), g4⟩, e8.trans e7⟩
    rw [g2, hg, if_pos rfl, hm, q1]
end Go.Proofs.Ytambkogocbgbmaa.Id
/- Contracts over the ideal memory: spec's PicTo. -/
namespace Go.Proofs.Ytambkogocbgbmaa.Id
open Go.Id
open Go.Proofs
set_option linter.unusedVariables false
set_option maxRecDepth 100000
variable {X : Ctx Try.prog} {lo : Nat}
/-- A row of rows. -/
structure RowsAt (h : Hp) (b e : Nat) (g : Gd) (L : List Value) (lo : Nat) : Prop where
  r : Row h b e vE1 1 L
  el : ∀ (j : Nat) (x : Value), L[j]? = some x → RowEl (rowTo g) j x h
  bk : ∀ c ∈ blks L, lo ≤ c ∧ c ≠ b
theorem RowsAt.ext {h h' : Hp} {b e : Nat} {g : Gd} {L : List Value} (r : RowsAt h b e g L lo) (x : Ext h h') : RowsAt h' b e g L lo := ⟨r.r.ext x, fun j v hv => (elRow _).ext (r.el j v hv) x, r.bk⟩
theorem toRow_nil (g : Gd) : toRow g [] = List.replicate (many g).toNat 0 := by
  apply List.ext_getElem (by simp [toRow])
  intro i h1 h2
  simp [toRow, Tr.outs]
def SPicToP (lo : Nat) (g : Gd) (h : Hp) (v : Value) (h' : Hp) : Prop := (∃ b e L, v = .slice (some ⟨b, 0, some e⟩) L.length 1 ∧ h.n ≤ b ∧ RowsAt h' b e g L h.n ∧ (L.length : Int) = if gOk g then many g else 0) ∧ Ext h h'
theorem sPicTo_ok (g : Gd) (ad : Option Addr) (fl : Nat) (h : Hp) (hs : Sls h cE 2 ad g.cs) (hn : (g.cs.length : Int) < 2 ^ 31) : Tri X lo 20 [.agg #[.int .i64 g.w, .slice ad g.cs.length fl]] h (SPicToP lo g h) := by
  refine enter tbOk mtOk ⟨[], [(13, [0, 1, 2, 3, 4, 5, 6, 7, 8, 9, 10, 11, 12, 13, 14, 15, 16, 17, 18, 19, 20, 21], [0, 0, 0, 6, 14, 30, 0, 0, 0, 384, 896, 1920, 4032, 8128, 0, 0, 49152, 114688, 245760, 524224, 1048575, 2097151])]⟩ 400 Try.func20 rfl rfl rfl fun hlo => ?_
  have e0 : Ext h (h.push (.cells (([] : List Value).flatMap vE1) 1 0)) := Ext.push _ _
  have r0 : Row (h.push (.cells (([] : List Value).flatMap vE1) 1 0)) h.n 0 vE1 1 [] := Row.push
  have nb : ∀ (e : Nat) (h' : Hp), Row h' h.n e vE1 1 [] → RowsAt h' h.n e g [] h.n := fun e h' r => ⟨r, fun j x hx => by simp at hx, fun c hc => by simp [blks] at hc⟩
  refine callP (sGridOk_ok g.w ad fl g.cs (h.push (.cells (([] : List Value).flatMap vE1) 1 0)) (hs.ext e0) hn) ?_
  rintro v h1 ⟨rfl, e1⟩
  have e01 := e0.trans e1
  refine cnd (fun c1 => ?_) (fun c1 => ?_)
  · have hg : gOk g = false := by simpa using c1
    exact ⟨⟨h.n, 0, [], rfl, Nat.le_refl _, nb _ _ (r0.ext e1), by rw [hg]; rfl⟩, e01⟩
  · have hg : gOk g = true := by simpa using c1
    have hmany : 1 ≤ many g ∧ many g ≤ 20 := by
      obtain ⟨h1, h2, _⟩ := hi_ok hg
      obtain ⟨g1, g2, _⟩ := gOk_iff.1 hg
      unfold many; omega
    refine loop (σ := Nat × List Value) tbOk mtOk ⟨[], [(13, [0, 1, 2, 3, 4, 5, 6, 7, 8, 9, 10, 11, 12, 13, 14, 15, 16, 17, 18, 19, 20, 21], [0, 0, 0, 6, 14, 30, 0, 0, 0, 384, 896, 1920, 4032, 8128, 0, 0, 49152, 114688, 245760, 524224, 1048575, 2097151])]⟩ (fun s => [(4, .v (.int .i64 (s.2.length : Int))), (3, .v (.slice (some ⟨h.n, 0, some s.1⟩) s.2.length 1)), (1, .l 0 0)]) (fun _ => [[.int .i64 g.w, .slice ad g.cs.length fl]]) (fun s h' => (s.2.length : Int) ≤ many g ∧ Ext h h' ∧ RowsAt h' h.n s.1 g s.2 h.n) (fun s => (many g).toNat - s.2.length) 400 (0, []) (fun _ => rfl) ⟨rfl, rfl, rfl, trivial⟩ ⟨rfl, trivial⟩ ⟨by show ((0 : Nat) : Int) ≤ _; omega, e01, nb _ _ (r0.ext e1)⟩ (fun s h2 hI again => ?_)
    obtain ⟨e, L⟩ := s
    obtain ⟨i1, i2, i3⟩ := hI
    have i1 : (L.length : Int) ≤ many g := i1
    refine callP (l3Many_ok g ad fl h2 hg hn) ?_
    rintro v h3 ⟨rfl, e3⟩
    refine cnd (fun c2 => ?_) (fun c2 => ?_)
    · have c2 : (L.length : Int) < many g := of_decide_eq_true c2
      refine callP (l3Many_ok g ad fl h3 hg hn) ?_
      rintro v h4 ⟨rfl, e4⟩
      refine And.intro ⟨by omega, by omega, by unfold Id.maxLen; omega⟩ ?_
      have e5 : Ext h4 (h4.push (.cells (zeros [.int .i64 0] (many g).toNat) 1 0)) := Ext.push _ _
      have r5 : Row (h4.push (.cells (zeros [.int .i64 0] (many g).toNat) 1 0)) h4.n 0 iE 1 (toRow g []) := by rw [zeros_flat (enc := iE) (z := [.int .i64 0]) (x := (0 : Int)) rfl, toRow_nil]; exact Row.push
      have e25 : Ext h2 (h4.push (.cells (zeros [.int .i64 0] (many g).toNat) 1 0)) := (e3.trans e4).trans e5
      have n5 : (h4.push (.cells (zeros [.int .i64 0] (many g).toNat) 1 0)).n = h4.n + 1 := rfl
      refine callP (l11Go_ok g L.length ad fl (h4.push (.cells (zeros [.int .i64 0] (many g).toNat) 1 0)) (hs.ext (i2.trans e25)) hg c2) ?_
      generalize h4.push (.cells (zeros [.int .i64 0] (many g).toNat) 1 0) = h5 at *
      rintro v h6 ⟨wb, o1, o2, rfl, m⟩
      obtain ⟨t1, ⟨t2, t3⟩, t4, t5, t6⟩ := trail_ok g L.length
      obtain ⟨a2, f2, p1, p2, p3⟩ := gw_sls' (m.g2.up m.l2)
      have hbx := m.bx
      rw [p1] at hbx
      have e6 := m.ext
      refine ⟨_, hbx.ldF (i := 3) rfl, ?_⟩
      have r6 := r5.ext e6
      have hb6 : ∀ x, 0 ≤ Tr.outs x ((trail g L.length).2.take 0) ∧ Tr.outs x ((trail g L.length).2.take 0) ≤ 64 * ((0 : Nat) : Int) := fun x => ⟨Int.le_refl 0, by show (0 : Int) ≤ 64 * ((0 : Nat) : Int); decide⟩
      have rw0 : rowTo g L.length = toRow g (trail g L.length).2 := rfl
      generalize (trail g L.length).2 = es at *
      refine loop (σ := Nat) tbOk mtOk ⟨[], [(13, [0, 1, 2, 3, 4, 5, 6, 7, 8, 9, 10, 11, 12, 13, 14, 15, 16, 17, 18, 19, 20, 21], [0, 0, 0, 6, 14, 30, 0, 0, 0, 384, 896, 1920, 4032, 8128, 0, 0, 49152, 114688, 245760, 524224, 1048575, 2097151])]⟩ (fun i => [(7, .v (.int .i64 (i : Int))), (6, .v (.slice a2 es.length f2)), (5, .v (.slice (some ⟨h4.n, 0, some 0⟩) (many g).toNat 1)), (4, .v (.int .i64 (L.length : Int))), (3, .v (.slice (some ⟨h.n, 0, some e⟩) L.length 1)), (1, .l 0 0)]) (fun _ => [[.int .i64 g.w, .slice ad g.cs.length fl]]) (fun i h' => i ≤ es.length ∧ Ext h4 h' ∧ Ext1 h4.n h6 h' ∧ Row h' h4.n 0 iE 1 (toRow g (es.take i)) ∧ ∀ x, 0 ≤ Tr.outs x (es.take i) ∧ Tr.outs x (es.take i) ≤ 64 * i) (fun i => es.length - i) 400 0 (fun _ => rfl) ⟨rfl, rfl, rfl, rfl, rfl, rfl, trivial⟩ ⟨rfl, trivial⟩ ⟨Nat.zero_le _, e5.trans e6, (Ext.refl _).one _, r6, hb6⟩ (fun i h' hI again' => ?_)
      obtain ⟨j1, j2, j3, j4, j5⟩ := hI
      refine cnd (fun c3 => ?_) (fun c3 => ?_)
      · have c3 : i < es.length := by simpa using c3
        obtain ⟨a2, rfl⟩ := p2.some c3
        have hld := (sls_ext1 j3 p2 (by have := p3 _ rfl; omega)).ld vE3 c3
        obtain ⟨_, he2⟩ := t4 es[i] (List.getElem_mem c3)
        have he0 := t6 es[i] (List.getElem_mem c3)
        have hsn : ∀ x, Tr.outs x (es.take (i + 1)) = Tr.outs x (es.take i) + Tr.outs x [es[i]] := fun x => outs_take c3
        generalize es[i] = w at *
        have hw : some (Sl.v (.int .i64 (IntKind.i64.wrap ((i : Int) + 1)))) = some (Sl.v (.int .i64 ((i + 1 : Nat) : Int))) := by rw [wr (by omega) (by omega)]; rfl
        refine And.intro ⟨by omega, by omega⟩ ?_
        refine ⟨_, ld_sub hld (j := 0) (m := 1) rfl, ?_⟩
        refine cnd (fun c4 => ?_) (fun c4 => ?_)
        · have c4 : w.1 = 0 := by simpa using c4
          obtain ⟨k0, k1⟩ := he0 c4
          have hj : w.2.1.toNat < (toRow g (es.take i)).length := by rw [toRow_len]; omega
          have hjj : ((w.2.1.toNat : Nat) : Int) = w.2.1 := by omega
          have ldj : Ld h' (addA ⟨h4.n, 0, some 0⟩ (w.2.1.toNat * 1)) 1 [.int .i64 (Tr.outs w.2.1 (es.take i))] := by
            have := (j4.sls (fun _ => rfl)).ld (fun _ => rfl) hj
            rw [toRow_get hj, hjj] at this
            exact this
          have hlo4 : lo ≤ h4.n := by have := i2.n; have := e3.n; have := e4.n; omega
          refine And.intro (by kernel_rfl) ?_
          refine And.intro ⟨by omega, by omega⟩ ?_
          refine ⟨_, ld_sub hld (j := 1) (m := 1) rfl, ?_⟩
          refine And.intro ⟨by omega, by omega⟩ ?_
          refine ⟨_, ld_sub hld (j := 1) (m := 1) rfl, ?_⟩
          refine And.intro ⟨k0, by omega⟩ ?_
          refine ⟨_, ldj, ?_⟩
          refine And.intro ⟨by omega, by omega⟩ ?_
          refine ⟨_, ld_sub hld (j := 2) (m := 1) rfl, ?_⟩
          refine And.intro ⟨k0, by omega⟩ ?_
          refine ⟨_, row_st j4 hlo4 hj, ?_⟩
          have ho : ∀ x, Tr.outs x (es.take (i + 1)) = Tr.outs x (es.take i) + (if w.2.1 = x then w.2.2 else 0) := fun x => by
            rw [hsn]; simp [Tr.outs, c4]
          have hwv : IntKind.i64.wrap (Tr.outs w.2.1 (es.take i) + w.2.2) = Tr.outs w.2.1 (es.take i) + w.2.2 := by
            have := j5 w.2.1
            rw [wr (by omega) (by omega)]
          have hrow : toRow g (es.take (i + 1)) = (toRow g (es.take i)).set w.2.1.toNat (IntKind.i64.wrap (Tr.outs w.2.1 (es.take i) + w.2.2)) := by
            rw [hwv]
            refine List.ext_getElem (by simp [toRow]) fun n h1 h2 => ?_
            rw [toRow_get h1, List.getElem_set, ho]
            by_cases hn : w.2.1.toNat = n
            · rw [if_pos hn, if_pos (by omega), ← hn, hjj]
            · rw [if_neg hn, if_neg (by omega), Int.add_zero, toRow_get]
          exact again' (i + 1) _ _ _ (by omega) ⟨hw, rfl, rfl, rfl, rfl, rfl, trivial⟩ ⟨rfl, trivial⟩ ⟨by omega, j2.set (Nat.le_refl _) _, j3.set _ (.inl rfl), by rw [hrow]; exact Row.set j4.lt, fun x => by rw [ho]; have := j5 x; split <;> omega⟩
        · have c4 : w.1 ≠ 0 := by simpa using c4
          have ho : ∀ x, Tr.outs x (es.take (i + 1)) = Tr.outs x (es.take i) := fun x => by rw [hsn]; simp [Tr.outs, c4]
          have hrow : toRow g (es.take (i + 1)) = toRow g (es.take i) := by unfold toRow; simp only [ho]
          exact again' (i + 1) _ _ _ (by omega) ⟨hw, rfl, rfl, rfl, rfl, rfl, trivial⟩ ⟨rfl, trivial⟩ ⟨by omega, j2, j3, by rw [hrow]; exact j4, fun x => by rw [ho]; have := j5 x; omega⟩
      · have c3 : es.length = i := by simp at c3; omega
        rw [← c3, List.take_length] at j4
        have hx : cellsL (Value.slice (some ⟨h4.n, 0, some 0⟩) (many g).toNat 1) = [.slice (some ⟨h4.n, 0, some 0⟩) (many g).toNat 1] := rfl
        have rl : (rowTo g L.length).length = (many g).toNat := by rw [rw0, toRow_len]
        have lt2 := i3.r.lt
        have n3 := e3.n
        have n4 := e4.n
        have n6 := j2.n
        have lt4 := j4.lt
        have e7 : Ext h' (h'.push (.cells ([(Value.slice (some ⟨h4.n, 0, some 0⟩) (many g).toNat 1)].flatMap vE1) 1 0)) := Ext.push _ _
        have g1 : Gx 0 (h'.push (.cells ([(Value.slice (some ⟨h4.n, 0, some 0⟩) (many g).toNat 1)].flatMap vE1) 1 0)) vE1 1 (some (h'.n, 0)) [(Value.slice (some ⟨h4.n, 0, some 0⟩) (many g).toNat 1)] := ⟨Nat.zero_le _, Row.push⟩
        have e27 : Ext h2 (h'.push (.cells ([(Value.slice (some ⟨h4.n, 0, some 0⟩) (many g).toNat 1)].flatMap vE1) 1 0)) := ((e3.trans e4).trans j2).trans e7
        have ap := ((i3.r.ext e27).app (m := [(Value.slice (some ⟨h4.n, 0, some 0⟩) (many g).toNat 1)]) (lo := lo) vE1_len (by decide) hlo (by unfold Id.maxLen; simp; omega))
        refine ⟨[(Value.slice (some ⟨h4.n, 0, some 0⟩) (many g).toNat 1)].flatMap vE1, g1.cells vE1_len, _, _, ap, ?_⟩
        have hll : (L ++ [(Value.slice (some ⟨h4.n, 0, some 0⟩) (many g).toNat 1)]).length = L.length + 1 := by simp
        have hw : IntKind.i64.wrap ((L.length : Int) + 1) = ((L ++ [(Value.slice (some ⟨h4.n, 0, some 0⟩) (many g).toNat 1)]).length : Int) := by rw [wr (by omega) (by omega), hll]; rfl
        refine again (e + 1, L ++ [(Value.slice (some ⟨h4.n, 0, some 0⟩) (many g).toNat 1)]) _ _ _ (by show _ - (L ++ [(Value.slice (some ⟨h4.n, 0, some 0⟩) (many g).toNat 1)]).length < _ - L.length; omega) ⟨?_, ?_, rfl, trivial⟩ ⟨rfl, trivial⟩ ⟨by show ((L ++ [(Value.slice (some ⟨h4.n, 0, some 0⟩) (many g).toNat 1)]).length : Int) ≤ _; omega, (i2.trans e27).set (Nat.le_refl _) _, ⟨Row.set (i3.r.ext e27).lt, fun j v hv => ?_, fun c hc => ?_⟩⟩
        · show some (Sl.v (.int .i64 (IntKind.i64.wrap ((L.length : Int) + 1)))) = _
          rw [hw]
        · show some (Sl.v (.slice (some ⟨h.n, 0, some (e + 1)⟩) (L.length + [(Value.slice (some ⟨h4.n, 0, some 0⟩) (many g).toNat 1)].length) 1)) = some (Sl.v (.slice (some ⟨h.n, 0, some (e + 1)⟩) (L ++ [(Value.slice (some ⟨h4.n, 0, some 0⟩) (many g).toNat 1)]).length 1))
          rw [List.length_append]
        · have hv : (L ++ [(Value.slice (some ⟨h4.n, 0, some 0⟩) (many g).toNat 1)])[j]? = some v := hv
          by_cases hj : j < L.length
          · rw [List.getElem?_append_left hj] at hv
            have E := i3.el j v hv
            refine (elRow _).keep _ _ _ _ ((elRow _).ext E e27) (Nat.le_refl _) fun b hb => ?_
            have hbk := i3.bk b (List.mem_filterMap.2 ⟨v, List.mem_of_getElem? hv, hb⟩)
            simp only [Hp.set]; rw [if_neg hbk.2]
          · have hlt := (List.getElem?_eq_some_iff.1 hv).1
            have hjl : j = L.length := by omega
            subst hjl
            rw [List.getElem?_append_right (Nat.le_refl _), Nat.sub_self] at hv
            obtain rfl : (Value.slice (some ⟨h4.n, 0, some 0⟩) (many g).toNat 1) = v := by simpa using hv
            refine ⟨h4.n, 0, by rw [rl], ⟨by show h4.n < h'.n + 1; omega, ?_⟩⟩
            simp only [Hp.set]
            rw [if_neg (by omega)]
            have := (j4.ext e7).g
            rw [rw0]; exact this
        · have hc : c ∈ blks (L ++ [(Value.slice (some ⟨h4.n, 0, some 0⟩) (many g).toNat 1)]) := hc
          rw [show blks (L ++ [(Value.slice (some ⟨h4.n, 0, some 0⟩) (many g).toNat 1)]) = blks L ++ [h4.n] from by simp [blks, blkOf]] at hc
          rcases List.mem_append.1 hc with hc | hc
          · exact i3.bk c hc
          · obtain rfl : c = h4.n := by simpa using hc
            omega
    · have c2 : ¬ (L.length : Int) < many g := of_decide_eq_false c2
      have hl : (L.length : Int) = many g := by omega
      exact ⟨⟨h.n, e, L, rfl, Nat.le_refl _, i3.ext e3, by rw [hg, if_pos rfl]; exact hl⟩, i2.trans e3⟩
end Go.Proofs.Ytambkogocbgbmaa.Id
/- Contracts over the ideal memory: the laws' llRows. -/
namespace Go.Proofs.Ytambkogocbgbmaa.Id
open Go.Id
open Go.Proofs
set_option linter.unusedVariables false
set_option maxRecDepth 100000
variable {X : Ctx Try.prog} {lo : Nat}
theorem rowEl_sl {f : Int → List Int} {k : Int} {v : Value} {h : Hp} (e : RowEl f k v h) : ∃ a, v = .slice (some a) (f k).length 1 ∧ Sls h iE 1 (some a) (f k) := by
  obtain ⟨b, e, rfl, r⟩ := e
  exact ⟨_, rfl, r.sls fun _ => rfl⟩
/-- Rows that are the same. -/
theorem llRows_ok (f : Int → List Int) (a b : Option Addr) (fl fl' : Nat) (L L' : List Value) (h : Hp) (hs : Sls h vE1 1 a L) (hs' : Sls h vE1 1 b L') (el : ∀ (j : Nat) (x : Value), L[j]? = some x → RowEl f j x h) (el' : ∀ (j : Nat) (x : Value), L'[j]? = some x → RowEl f j x h) (hl : L.length = L'.length) (hn : L.length ≤ 1048576) (hf : ∀ k, L.length ≠ 0 → (f k).length ≤ 1048576) : Tri X lo 19 [.slice a L.length fl, .slice b L'.length fl'] h fun v h' => v = .bool true ∧ h' = h := by
  refine enter tbOk mtOk ⟨[], [(6, [0, 1, 2, 3, 4, 5, 6, 7, 8, 9], [0, 0, 3, 7, 0, 0, 48, 112, 255, 511])]⟩ 400 Try.func19 rfl rfl rfl fun hlo => ?_
  refine cnd (fun c1 => absurd c1 (by simp [hl])) (fun _ => ?_)
  refine loop (σ := Nat) tbOk mtOk ⟨[], [(6, [0, 1, 2, 3, 4, 5, 6, 7, 8, 9], [0, 0, 3, 7, 0, 0, 48, 112, 255, 511])]⟩ (fun i => [(5, .v (.int .i64 (i : Int))), (0, .v (.slice a L.length fl)), (1, .v (.slice b L'.length fl'))]) (fun _ => []) (fun i h' => i ≤ L.length ∧ h' = h) (fun i => L.length - i) 400 0 (fun _ => rfl) ⟨rfl, rfl, rfl, trivial⟩ trivial ⟨Nat.zero_le _, rfl⟩ (fun i h' hI again => ?_)
  obtain ⟨i1, rfl⟩ := hI
  refine cnd (fun c2 => ?_) (fun c2 => ?_)
  · have c2 : i < L.length := by simpa using c2
    have c2' : i < L'.length := by omega
    obtain ⟨a, rfl⟩ := hs.some c2
    obtain ⟨b, rfl⟩ := hs'.some c2'
    obtain ⟨x, hx, sx⟩ := rowEl_sl (el i L[i] (List.getElem?_eq_getElem c2))
    obtain ⟨y, hy, sy⟩ := rowEl_sl (el' i L'[i] (List.getElem?_eq_getElem c2'))
    have lx := hs.ld vE1_len c2
    have ly := hs'.ld vE1_len c2'
    rw [hx] at lx
    rw [hy] at ly
    refine And.intro (by kernel_rfl) ?_
    refine And.intro ⟨by omega, by omega⟩ ?_
    refine ⟨_, lx, ?_⟩
    refine And.intro ⟨by omega, by omega⟩ ?_
    refine ⟨_, ly, ?_⟩
    refine callP (llInts_ok (some x) (some y) 1 1 (f i) (f i) h' sx sy (hf i (by omega))) ?_
    rintro v h1 ⟨rfl, rfl⟩
    refine cnd (fun c => by simp at c) (fun _ => ?_)
    refine again (i + 1) _ _ _ (by omega) ⟨?_, rfl, rfl, trivial⟩ trivial ⟨by omega, rfl⟩
    show some (Sl.v (.int .i64 (IntKind.i64.wrap ((i : Int) + 1)))) = _
    rw [wr (by omega) (by omega)]; rfl
  · exact ⟨rfl, rfl⟩
end Go.Proofs.Ytambkogocbgbmaa.Id
/- The law FnPicDark over the ideal memory. -/
namespace Go.Proofs.Ytambkogocbgbmaa.Id
open Go.Id Go.Conc Go.Conc.Lib
open Go.Proofs
set_option linter.unusedVariables false
set_option maxRecDepth 100000
variable {N0 : Nat → Prop} {lo : Nat}
/-- Lamps become walls. -/
def darkF (c : Cl) : Cl := if c.1 = 7 then (1, 0) else c
def darkG (g : Gd) : Gd := ⟨g.w, g.cs.map darkF⟩
theorem relit_dark (g : Gd) : Relit g (darkG g) := by
  refine ⟨rfl, List.length_map _, fun i c c' h h' => ?_⟩
  have h' : (g.cs.map darkF)[i]? = some c' := h'
  rw [List.getElem?_map, h] at h'
  have h' : darkF c = c' := by simpa using h'
  subst h'
  by_cases h7 : c.1 = 7
  · right
    rw [darkF, if_pos h7]
    exact ⟨h7, .inr rfl, by decide⟩
  · left
    exact ⟨h7, by rw [darkF, if_neg h7]⟩
theorem lit_zero : ∀ {f : Int → Int} {l : List V3}, (∀ e ∈ l, e.1 = 2 → f e.2.1 = 0) → litBy f l = 0
  | f, [], _ => rfl
  | f, e :: l, h => by
    rw [litBy, lit_zero fun e' he' => h e' (List.mem_cons_of_mem _ he')]
    by_cases h2 : e.1 = 2
    · rw [if_pos h2, h e List.mem_cons_self h2]; simp
    · rw [if_neg h2]; rfl
theorem light_dark {g : Gd} (hg : gOk g = true) (k : Int) : lightAt (darkG g) k = 0 := by
  rw [(relit_dark g).light hg]
  refine lit_zero fun e he h2 => ?_
  obtain ⟨h3, h4, _⟩ := trail_lamp g k e he h2
  have hi : e.2.1.toNat < g.cs.length := by omega
  unfold kdG at h4
  rw [List.getElem?_eq_getElem hi] at h4
  have h4 : (g.cs[e.2.1.toNat]).1 = 7 := h4
  have h' : (darkG g).cs[e.2.1.toNat]? = some (1, 0) := by
    show (g.cs.map darkF)[e.2.1.toNat]? = _
    rw [List.getElem?_map, List.getElem?_eq_getElem hi]
    simp [darkF, h4]
  unfold kdG
  rw [h']; rfl
theorem outs_rek (kd : Int → Int) (x : Int) : ∀ l : List V3, Tr.outs x (l.map (rek kd)) = Tr.outs x l
  | [] => rfl
  | e :: l => by
    rw [List.map_cons, Tr.outs, Tr.outs, outs_rek kd x l]
    congr 1
    unfold rek
    by_cases h : e.1 = 2 ∧ kd e.2.1 = 1
    · simp [h]
    · rw [if_neg h]
theorem rowTo_dark {g : Gd} (hg : gOk g = true) (k : Int) : rowTo (darkG g) k = rowTo g k := by
  unfold rowTo toRow
  rw [(relit_dark g).many, (relit_dark g).trail hg]
  simp only [tmap, outs_rek]
theorem rowTo_len (g : Gd) (k : Int) : (rowTo g k).length = (many g).toNat := toRow_len _ _
theorem rowsEmpty {g : Gd} {L : List Value} (hg : gOk g = false) (h : (L.length : Int) = if gOk g then many g else 0) : L = [] := by
  rw [hg] at h
  simpa using h
theorem picDark_R (bs : List Nat) (a : Option Addr) (fl : Nat) (h : Hp) (hs : Sls h uE 1 a bs) (hb : ∀ b ∈ bs, b < 256) (hn : bs.length ≤ 9223372036854775807) (hlo : lo ≤ h.n) :
    R (mainCtx Try.prog N0) lo 7 Try.f7 (.ret fun v _ => v = .bool true) [.code (bodyC Try.f7)] (argsTm 0 [.slice a bs.length fl]) [] h := by
  refine more tbOk mtOk ⟨[], [(7, [0, 1, 3, 4, 2, 5, 6, 7, 8], [0, 1, 0, 0, 8, 28, 63, 0, 255])]⟩ 43 ?_
  refine cnd (fun c1 => rfl) (fun c1 => ?_)
  have hn1 : bs.length ≤ 1048576 := by simp at c1; omega
  refine callP (DrawPicTo_ok a fl bs h hs hn1 hb) ?_
  rintro v h1 ⟨g, ga, gf, rfl, d1, gl, e1⟩
  have gs := d1.sls.2
  have hn2 : (g.cs.length : Int) < 2 ^ 31 := by omega
  refine callP (PicTo_ok g ga gf h1 gs hn2) ?_
  rintro v h2 ⟨⟨o, L, rfl, q2, q3, q4, q5, q6⟩, e2⟩
  have gs2 := gs.ext e2
  obtain ⟨la, lf, lv, ls⟩ := gx_sl q2 vE1_len
  rw [lv]
  refine callP (sPicTo_ok g ga gf h2 gs2 hn2) ?_
  rintro v h3 ⟨⟨b3, e3', L3, rfl, w1, w2, w3⟩, w4⟩
  have mle : (if gOk g then many g else 0) ≤ 20 := by
    split
    · rename_i hg
      obtain ⟨p1, p2, _⟩ := hi_ok hg
      obtain ⟨p3, p4, _⟩ := gOk_iff.1 hg
      unfold many; omega
    · decide
  have hLn : L.length ≤ 20 := by omega
  have hLL : L.length = L3.length := by omega
  have rows : ∀ {h' : Hp}, Ext h3 h' → Tri (mainCtx Try.prog N0) lo 19 [.slice la L.length lf, .slice (some ⟨b3, 0, some e3'⟩) L3.length 1] h' fun v h'' => v = .bool true ∧ h'' = h' := fun x => llRows_ok (rowTo g) la (some ⟨b3, 0, some e3'⟩) lf 1 L L3 _ (ls.ext (w4.trans x)) ((w2.ext x).r.sls vE1_len) (fun j y hy => (elRow _).ext (q4 j y hy) (w4.trans x)) (w2.ext x).el hLL (by omega) (fun k hk => by
    rw [rowTo_len]
    by_cases hg : gOk g = true
    · rw [if_pos hg] at mle; omega
    · rw [if_neg hg] at q3; omega)
  refine callP (rows (Ext.refl _)) ?_
  rintro v h4 ⟨rfl, rfl⟩
  refine cndF ?_
  refine cnd (fun c2 => ?_) (fun c2 => ?_)
  · have c2 : L.length = 0 := by simpa using c2
    refine more tbOk mtOk ⟨[], [(7, [0, 1, 3, 4, 2, 5, 6, 7, 8], [0, 1, 0, 0, 8, 28, 63, 0, 255])]⟩ 400 ?_
    refine callP (sPicTo_ok g ga gf h4 (gs2.ext w4) hn2) ?_
    rintro v h5 ⟨⟨b5, e5', L5, rfl, u1, u2, u3⟩, u4⟩
    refine callP (llRows_ok (rowTo g) la (some ⟨b5, 0, some e5'⟩) lf 1 L L5 h5 (ls.ext (w4.trans u4)) (u2.r.sls vE1_len) (fun j y hy => (elRow _).ext (q4 j y hy) (w4.trans u4)) u2.el (by omega) (by omega) (fun k hk => absurd c2 hk)) ?_
    rintro v h6 ⟨rfl, rfl⟩
    rfl
  · have c2 : L.length ≠ 0 := by simpa using c2
    have hg : gOk g = true := by
      by_cases hg : gOk g = true
      · exact hg
      · rw [if_neg hg] at q3; omega
    have gs4 := gs2.ext w4
    have hlo4 : lo ≤ h4.n := by have := e1.n; have := e2.n; have := w4.n; omega
    have e5 : Ext h4 (h4.push (.cells (([] : List Cl).flatMap cE) 2 0)) := Ext.push _ _
    have r5 : Row (h4.push (.cells (([] : List Cl).flatMap cE) 2 0)) h4.n 0 cE 2 [] := Row.push
    have x5 := (e5.one h4.n).set (.cells (g.cs.flatMap cE) 2 1) (.inl rfl)
    have e5' := x5.out (Ext.refl _) (Nat.le_refl _)
    obtain ⟨c5, a5⟩ := copy_ap (fl := gf) (lo := lo) (gs4.ext e5) r5 hlo4 (by omega)
    have r6 : Row ((h4.push (.cells (([] : List Cl).flatMap cE) 2 0)).set h4.n (.cells (g.cs.flatMap cE) 2 1)) h4.n 1 cE 2 g.cs := Row.set r5.lt
    generalize hh6 : (h4.push (.cells (([] : List Cl).flatMap cE) 2 0)).set h4.n (.cells (g.cs.flatMap cE) 2 1) = h6 at a5 r6 x5 e5'
    refine drawI tbOk mtOk ⟨[], [(7, [0, 1, 3, 4, 2, 5, 6, 7, 8], [0, 1, 0, 0, 8, 28, 63, 0, 255])]⟩ 400 (.fl 0 (.fl 1 (.fl 3 (.fl 4 (.ch 2 (.ch 5 (.fl 6 (.ch 7 (.ch 8 .fin .stop) .stop)) (.ch 7 (.ch 5 (.fl 6 (.ch 8 .fin .stop)) .stop) .stop)) (.ch 7 (.ch 2 (.ch 5 (.fl 6 (.ch 8 .fin .stop)) .stop) .stop) .stop)))))) [0, 1, 0, 0, 8, 28, 63, 0, 255] [(5, .l 1 0), (4, .v (.slice la L.length lf)), (3, .l 0 0)] [[.int .i64 g.w, .slice ga g.cs.length gf], [.int .i64 g.w, .slice (some ⟨h4.n, 0, some 1⟩) g.cs.length 1]] (fun h' => h' = h6) rfl (by kernel_rfl) ?_ ?_
    · refine And.intro ?_ ?_
      · repeat refine And.intro Is.r ?_
        refine And.intro ?_ ?_
        · refine ⟨_, c5, _, _, a5, ?_⟩
          repeat refine And.intro Is.r ?_
          refine And.intro ?_ trivial
          repeat refine And.intro Is.r ?_
          refine And.intro ?_ trivial
          exact ⟨⟨rfl, rfl, rfl, trivial⟩, ⟨rfl, rfl, trivial⟩, rfl⟩
        · refine And.intro ?_ trivial
          repeat refine And.intro Is.r ?_
          refine And.intro ?_ trivial
          refine ⟨_, c5, _, _, a5, ?_⟩
          repeat refine And.intro Is.r ?_
          refine And.intro ?_ trivial
          exact ⟨⟨rfl, rfl, rfl, trivial⟩, ⟨rfl, rfl, trivial⟩, rfl⟩
      · refine And.intro ?_ trivial
        repeat refine And.intro Is.r ?_
        refine And.intro ?_ trivial
        repeat refine And.intro Is.r ?_
        refine And.intro ?_ trivial
        refine ⟨_, c5, _, _, a5, ?_⟩
        repeat refine And.intro Is.r ?_
        refine And.intro ?_ trivial
        exact ⟨⟨rfl, rfl, rfl, trivial⟩, ⟨rfl, rfl, trivial⟩, rfl⟩
    · intro h6 hh6
      subst hh6
      refine loop (σ := Nat) tbOk mtOk ⟨[], [(7, [0, 1, 3, 4, 2, 5, 6, 7, 8], [0, 1, 0, 0, 8, 28, 63, 0, 255])]⟩ (fun i => [(6, .v (.int .i64 (i : Int))), (5, .l 1 0), (4, .v (.slice la L.length lf)), (3, .l 0 0)]) (fun _ => [[.int .i64 g.w, .slice ga g.cs.length gf], [.int .i64 g.w, .slice (some ⟨h4.n, 0, some 1⟩) g.cs.length 1]]) (fun i h' => i ≤ g.cs.length ∧ Row h' h4.n 1 cE 2 (mapI darkF i g.cs) ∧ Ext h4 h') (fun i => g.cs.length - i) 400 0 (fun _ => rfl) ⟨rfl, rfl, rfl, rfl, trivial⟩ ⟨rfl, rfl, trivial⟩ ⟨Nat.zero_le _, by rw [mapI_zero]; exact r6, e5'⟩ (fun i h' hI again => ?_)
      obtain ⟨i1, i2, i4⟩ := hI
      refine cnd (fun c4 => ?_) (fun c4 => ?_)
      · have c4 : i < g.cs.length := by simpa using c4
        have hj1 : i < (mapI darkF i g.cs).length := by rw [mapI_len]; exact c4
        have hw : some (Sl.v (.int .i64 (IntKind.i64.wrap ((i : Int) + 1)))) = some (Sl.v (.int .i64 ((i + 1 : Nat) : Int))) := by rw [wr (by omega) (by omega)]; rfl
        refine And.intro ⟨by omega, by omega⟩ ?_
        refine ⟨_, ld_sub ((i2.sls cE2).ld cE2 hj1) (j := 0) (m := 1) rfl, ?_⟩
        rw [mapI_get darkF c4]
        refine cnd (fun c5 => ?_) (fun c5 => ?_)
        · have c5 : g.cs[i].1 = 7 := by simpa using c5
          have st1 := i2.st (lo := lo) cE2 hlo4 hj1 (darkF g.cs[i])
          rw [mapI_set _ c4] at st1
          have hd : darkF g.cs[i] = (1, 0) := if_pos c5
          rw [hd] at st1
          refine And.intro ⟨by omega, by omega⟩ ?_
          refine ⟨_, st1, ?_⟩
          exact again (i + 1) _ _ _ (by omega) ⟨hw, rfl, rfl, rfl, trivial⟩ ⟨rfl, rfl, trivial⟩ ⟨by omega, Row.set i2.lt, i4.set (Nat.le_refl _) _⟩
        · have c5 : g.cs[i].1 ≠ 7 := by simpa using c5
          exact again (i + 1) _ _ _ (by omega) ⟨hw, rfl, rfl, rfl, trivial⟩ ⟨rfl, rfl, trivial⟩ ⟨by omega, by rw [mapI_same darkF c4 (show darkF g.cs[i] = g.cs[i] from if_neg c5)]; exact i2, i4⟩
      · have c4 : g.cs.length = i := by simp at c4; omega
        subst c4
        rw [mapI_all] at i2
        have ro := relit_dark g
        have hl1 : (darkG g).cs.length = g.cs.length := List.length_map _
        have dk : Sls h' cE 2 (some ⟨h4.n, 0, some 1⟩) (darkG g).cs := i2.sls cE2
        have dn : ((darkG g).cs.length : Int) < 2 ^ 31 := by rw [hl1]; exact hn2
        have T1 := PicOf_ok (N0 := N0) (lo := lo) (darkG g) (some ⟨h4.n, 0, some 1⟩) 1 h' dk dn
        rw [hl1] at T1
        refine callP T1 ?_
        rintro v h7 ⟨⟨o1, p1, p2, p3⟩, p4⟩
        rw [if_pos (ro.ok hg)] at p1 p2
        subst p1
        obtain ⟨la1, lf1, lv1, ls1⟩ := gx_sl p2 fun _ => rfl
        rw [lv1]
        have pl : (pic (darkG g)).length ≤ 20 := by
          rw [pic_len, ro.many]
          rw [if_pos hg] at mle; omega
        refine loop (σ := Nat) tbOk mtOk ⟨[], [(7, [0, 1, 3, 4, 2, 5, 6, 7, 8], [0, 1, 0, 0, 8, 28, 63, 0, 255])]⟩ (fun i => [(8, .v (.int .i64 (i : Int))), (7, .v (.slice la1 (pic (darkG g)).length lf1)), (5, .l 1 0), (4, .v (.slice la L.length lf))]) (fun _ => [[.int .i64 g.w, .slice ga g.cs.length gf], [.int .i64 g.w, .slice (some ⟨h4.n, 0, some 1⟩) g.cs.length 1]]) (fun i h' => i ≤ (pic (darkG g)).length ∧ h' = h7) (fun i => (pic (darkG g)).length - i) 400 0 (fun _ => rfl) ⟨rfl, rfl, rfl, rfl, trivial⟩ ⟨rfl, rfl, trivial⟩ ⟨Nat.zero_le _, rfl⟩ (fun i h' hI again => ?_)
        obtain ⟨k1, rfl⟩ := hI
        refine cnd (fun c6 => ?_) (fun c6 => ?_)
        · have c6 : i < (pic (darkG g)).length := by simpa using c6
          obtain ⟨x1, rfl⟩ := ls1.some c6
          refine And.intro ⟨by omega, by omega⟩ ?_
          refine ⟨_, ls1.ld (fun _ => rfl) c6, ?_⟩
          have z : (pic (darkG g))[i] = 0 := by rw [pic_get c6, light_dark hg]
          refine cnd (fun c7 => absurd c7 (by simp [z])) (fun _ => ?_)
          refine again (i + 1) _ _ _ (by omega) ⟨?_, rfl, rfl, rfl, trivial⟩ ⟨rfl, rfl, trivial⟩ ⟨by omega, rfl⟩
          show some (Sl.v (.int .i64 (IntKind.i64.wrap ((i : Int) + 1)))) = _
          rw [wr (by omega) (by omega)]; rfl
        · have T2 := PicTo_ok (N0 := N0) (lo := lo) (darkG g) (some ⟨h4.n, 0, some 1⟩) 1 h' (dk.ext p4) dn
          rw [hl1] at T2
          refine callP T2 ?_
          rintro v h8 ⟨⟨o8, L8, rfl, y2, y3, y4, y5, y6⟩, y7⟩
          obtain ⟨a8, f8, v8, s8⟩ := gx_sl y2 vE1_len
          rw [v8]
          have ex : Ext h2 h8 := ((w4.trans i4).trans p4).trans y7
          have L8L : L8.length = L.length := by rw [if_pos (ro.ok hg), ro.many] at y3; rw [if_pos hg] at q3; omega
          refine callP (llRows_ok (rowTo g) a8 la f8 lf L8 L h8 s8 (ls.ext ex) (fun j y hy => ?_) (fun j y hy => (elRow _).ext (q4 j y hy) ex) L8L (by omega) (fun k hk => ?_)) ?_
          · obtain ⟨b, e, z1, z2⟩ := y4 j y hy
            rw [rowTo_dark hg] at z1 z2
            exact ⟨b, e, z1, z2⟩
          · rw [rowTo_len]; rw [if_pos hg] at mle; omega
          · rintro v h9 ⟨rfl, rfl⟩
            rfl
end Go.Proofs.Ytambkogocbgbmaa.Id
/- As much goes there as comes back: walks counted from both ends. No program in sight. -/
namespace Go.Proofs.Ytambkogocbgbmaa.Tr
set_option linter.unusedVariables false
def sum4 (f : Int → Int) : Int := f 0 + f 1 + f 2 + f 3
theorem sum4_swap (f : Int → Int → Int) : sum4 (fun i => sum4 (fun j => f i j)) = sum4 (fun j => sum4 (fun i => f i j)) := by simp only [sum4]; omega
theorem sum4_congr {f g : Int → Int} (h : ∀ d, 0 ≤ d ∧ d ≤ 3 → f d = g d) : sum4 f = sum4 g := by
  unfold sum4
  rw [h 0 (by decide), h 1 (by decide), h 2 (by decide), h 3 (by decide)]
/-- Turned round. -/
def bk (d : Int) : Int := (d + 2) % 4
theorem bk_bk {d : Int} (h : 0 ≤ d ∧ d ≤ 3) : bk (bk d) = d := by unfold bk; omega
theorem bk_ok (d : Int) : 0 ≤ bk d ∧ bk d ≤ 3 := by unfold bk; omega
theorem sum4_bk (f : Int → Int) : sum4 f = sum4 fun d => f (bk d) := by
  show f 0 + f 1 + f 2 + f 3 = f 2 + f 3 + f 0 + f 1
  omega
/-- How often light that moves d at a cell of kind k leaves it moving d', with h halvings. -/
def dlt (k d d' : Int) (h : Nat) : Int :=
  if k = 1 ∨ k = 7 then 0
  else if k = 6 then (if d' = d ∧ h = 1 then 1 else 0)
  else if k = 4 ∨ k = 5 then (if (d' = d ∨ d' = dirT k d) ∧ h = 1 then 1 else 0)
  else (if d' = dirT k d ∧ h = 0 then 1 else 0)
theorem dlt_bk {k d d' : Int} {h : Nat} (hk : 0 ≤ k ∧ k ≤ 7) (hd : 0 ≤ d ∧ d ≤ 3) (hd' : 0 ≤ d' ∧ d' ≤ 3) : dlt k d d' h = dlt k (bk d') (bk d) h := by
  have c : d = 0 ∨ d = 1 ∨ d = 2 ∨ d = 3 := by omega
  have c' : d' = 0 ∨ d' = 1 ∨ d' = 2 ∨ d' = 3 := by omega
  have ck : k = 0 ∨ k = 1 ∨ k = 2 ∨ k = 3 ∨ k = 4 ∨ k = 5 ∨ k = 6 ∨ k = 7 := by omega
  rcases ck with rfl | rfl | rfl | rfl | rfl | rfl | rfl | rfl <;> rcases c with rfl | rfl | rfl | rfl <;> rcases c' with rfl | rfl | rfl | rfl <;> simp [dlt, bk, dirT]
theorem mod_succ {a w : Int} (hw : 1 ≤ w) (h : a % w ≠ w - 1) : (a + 1) % w ≠ 0 := by
  have r0 := Int.emod_nonneg a (show w ≠ 0 by omega)
  have r1 := Int.emod_lt_of_pos a (show 0 < w by omega)
  rw [← Int.emod_add_emod, Int.emod_eq_of_lt (by omega) (by omega)]
  omega
theorem mod_pred {a w : Int} (hw : 1 ≤ w) (h : a % w ≠ 0) : (a - 1) % w ≠ w - 1 := by
  have r0 := Int.emod_nonneg a (show w ≠ 0 by omega)
  have r1 := Int.emod_lt_of_pos a (show 0 < w by omega)
  rw [← Int.emod_sub_emod, Int.emod_eq_of_lt (by omega) (by omega)]
  omega
/-- A step, turned round. -/
theorem nxt_bk {w n a d b : Int} (hw : 1 ≤ w) (ha : 0 ≤ a ∧ a < n) (hd : 0 ≤ d ∧ d ≤ 3) (h : nxt w n a d = some b) : nxt w n b (bk d) = some a := by
  have c : d = 0 ∨ d = 1 ∨ d = 2 ∨ d = 3 := by omega
  rcases c with rfl | rfl | rfl | rfl
  · simp [nxt] at h; simp [nxt, bk]; omega
  · simp [nxt] at h
    obtain ⟨h1, rfl⟩ := h
    have := mod_succ hw h1
    simp [nxt, bk, this]
  · simp [nxt] at h; simp [nxt, bk]; omega
  · simp [nxt] at h
    obtain ⟨h1, rfl⟩ := h
    have := mod_pred hw h1
    simp [nxt, bk, this]
def ind (o : Option Int) (f : Int → Int) : Int := match o with
  | none => 0
  | some a => f a
theorem ind_congr {o : Option Int} {f g : Int → Int} (h : ∀ a, o = some a → f a = g a) : ind o f = ind o g := by
  cases o with
  | none => rfl
  | some a => exact h a rfl
theorem ind_sum (o : Option Int) (c0 c1 : Int) (f g : Int → Int → Int) : ind o (fun a => c0 * sum4 (f a) + c1 * sum4 (g a)) = sum4 fun e => ind o fun a => c0 * f a e + c1 * g a e := by
  cases o with
  | none => rfl
  | some a => simp only [ind, sum4, Int.mul_add]; omega
theorem ind_swap (o p : Option Int) (c0 c1 x0 x1 : Int) (F G H : Int → Int → Int) :
    ind o (fun a => c0 * ind p (fun b => x0 * F a b + x1 * G a b) + c1 * ind p (fun b => x0 * G a b + x1 * H a b)) =
    ind p (fun b => x0 * ind o (fun a => c0 * F a b + c1 * G a b) + x1 * ind o (fun a => c0 * G a b + c1 * H a b)) := by
  cases o with
  | none => cases p with
    | none => rfl
    | some b => simp [ind]
  | some a => cases p with
    | none => simp [ind]
    | some b =>
      simp only [ind, Int.mul_add]
      rw [Int.mul_left_comm c0 x0, Int.mul_left_comm c0 x1, Int.mul_left_comm c1 x0, Int.mul_left_comm c1 x1]
      omega
section
variable (w n : Int) (kd : Int → Int) (U : Int → Int)
/-- What leaves cell b moving e, over q + 1 cells, of light (halved j times less) that enters a moving d. -/
def W : Nat → Int → Int → Int → Int → Int → Int
  | 0, j, a, d, b, e => if a = b then dlt (kd a) d e 0 * U j + dlt (kd a) d e 1 * U (j - 1) else 0
  | q + 1, j, a, d, b, e => sum4 fun d' => ind (nxt w n a d') fun a' => dlt (kd a) d d' 0 * W q j a' d' b e + dlt (kd a) d d' 1 * W q (j - 1) a' d' b e
end
section
variable {w n : Int} {kd : Int → Int} {U : Int → Int}
/-- Told from the end. -/
theorem W_end (hw : 1 ≤ w) (hn : n % w = 0) : ∀ (q : Nat) (j a d b e : Int), (0 ≤ a ∧ a < n) → (0 ≤ b ∧ b < n) → (0 ≤ d ∧ d ≤ 3) → W w n kd U (q + 1) j a d b e = sum4 fun e' => ind (nxt w n b (bk e')) fun b' => dlt (kd b) e' e 0 * W w n kd U q j a d b' e' + dlt (kd b) e' e 1 * W w n kd U q (j - 1) a d b' e'
  | 0, j, a, d, b, e, ha, hb, hd => by
    rw [W]
    refine sum4_congr fun d' hd' => ?_
    by_cases c : nxt w n a d' = some b
    · have c' := nxt_bk hw ha hd' c
      rw [c, c']
      simp only [ind, W, if_true, Int.mul_add]
      rw [Int.mul_left_comm (dlt (kd a) d d' 0), Int.mul_left_comm (dlt (kd a) d d' 0), Int.mul_left_comm (dlt (kd a) d d' 1), Int.mul_left_comm (dlt (kd a) d d' 1)]
      omega
    · have l : ind (nxt w n a d') (fun a' => dlt (kd a) d d' 0 * W w n kd U 0 j a' d' b e + dlt (kd a) d d' 1 * W w n kd U 0 (j - 1) a' d' b e) = 0 := by
        cases hx : nxt w n a d' with
        | none => rfl
        | some a' =>
          have : a' ≠ b := fun h => c (by rw [hx, h])
          simp only [ind, W, if_neg this]; simp
      have r : ind (nxt w n b (bk d')) (fun b' => dlt (kd b) d' e 0 * W w n kd U 0 j a d b' d' + dlt (kd b) d' e 1 * W w n kd U 0 (j - 1) a d b' d') = 0 := by
        cases hx : nxt w n b (bk d') with
        | none => rfl
        | some b' =>
          have : a ≠ b' := fun h => c (by
            have := nxt_bk hw hb (bk_ok d') hx
            rwa [bk_bk hd', ← h] at this)
          simp only [ind, W, if_neg this]; simp
      rw [l, r]
  | q + 1, j, a, d, b, e, ha, hb, hd => by
    rw [W]
    have s1 : ∀ d', 0 ≤ d' ∧ d' ≤ 3 → ind (nxt w n a d') (fun a' => dlt (kd a) d d' 0 * W w n kd U (q + 1) j a' d' b e + dlt (kd a) d d' 1 * W w n kd U (q + 1) (j - 1) a' d' b e) =
        sum4 fun e' => ind (nxt w n b (bk e')) fun b' => dlt (kd b) e' e 0 * ind (nxt w n a d') (fun a' => dlt (kd a) d d' 0 * W w n kd U q j a' d' b' e' + dlt (kd a) d d' 1 * W w n kd U q (j - 1) a' d' b' e') + dlt (kd b) e' e 1 * ind (nxt w n a d') (fun a' => dlt (kd a) d d' 0 * W w n kd U q (j - 1) a' d' b' e' + dlt (kd a) d d' 1 * W w n kd U q (j - 1 - 1) a' d' b' e') := by
      intro d' hd'
      rw [ind_congr (g := fun a' => dlt (kd a) d d' 0 * sum4 (fun e' => ind (nxt w n b (bk e')) fun b' => dlt (kd b) e' e 0 * W w n kd U q j a' d' b' e' + dlt (kd b) e' e 1 * W w n kd U q (j - 1) a' d' b' e') + dlt (kd a) d d' 1 * sum4 (fun e' => ind (nxt w n b (bk e')) fun b' => dlt (kd b) e' e 0 * W w n kd U q (j - 1) a' d' b' e' + dlt (kd b) e' e 1 * W w n kd U q (j - 1 - 1) a' d' b' e')) (fun a' h' => by
        have ha' := nxt_in hw hn ha hd' h'
        rw [W_end hw hn q j a' d' b e ha' hb hd', W_end hw hn q (j - 1) a' d' b e ha' hb hd'])]
      rw [ind_sum]
      exact sum4_congr fun e' he' => ind_swap _ _ _ _ _ _ _ _ _
    rw [sum4_congr s1, sum4_swap]
    refine sum4_congr fun e' he' => ?_
    cases hx : nxt w n b (bk e') with
    | none => rfl
    | some b' =>
      simp only [ind, W]
      simp only [sum4, Int.mul_add]
      omega
/-- Walks turned round. -/
theorem W_bk (hw : 1 ≤ w) (hn : n % w = 0) (hk : ∀ a, 0 ≤ a ∧ a < n → 0 ≤ kd a ∧ kd a ≤ 7) : ∀ (q : Nat) (j a d b e : Int), (0 ≤ a ∧ a < n) → (0 ≤ b ∧ b < n) → (0 ≤ d ∧ d ≤ 3) → (0 ≤ e ∧ e ≤ 3) → W w n kd U q j a d b e = W w n kd U q j b (bk e) a (bk d)
  | 0, j, a, d, b, e, ha, hb, hd, he => by
    by_cases c : a = b
    · subst c
      simp only [W, if_true]
      rw [dlt_bk (hk a ha) hd he, dlt_bk (h := 1) (hk a ha) hd he]
    · simp only [W]; rw [if_neg c, if_neg (fun h => c h.symm)]
  | q + 1, j, a, d, b, e, ha, hb, hd, he => by
    rw [W_end hw hn q j b (bk e) a (bk d) hb ha (bk_ok e), sum4_bk, W]
    refine sum4_congr fun d' hd' => ?_
    rw [bk_bk hd']
    refine ind_congr fun a' h' => ?_
    have ha' := nxt_in hw hn ha hd' h'
    rw [← W_bk hw hn hk q j a' d' b e ha' hb hd' he, ← W_bk hw hn hk q (j - 1) a' d' b e ha' hb hd' he, ← dlt_bk (hk a ha) hd hd', ← dlt_bk (hk a ha) hd hd']
/-! ### what leaves by a sight -/
/-- 2 to the j. -/
def U2 (j : Int) : Int := if j < 0 then 0 else ((2 ^ j.toNat : Nat) : Int)
theorem U2_half (j : Int) : U2 j / 2 = U2 (j - 1) := by
  unfold U2
  by_cases c : j < 0
  · rw [if_pos c, if_pos (by omega)]; rfl
  · rw [if_neg c]
    by_cases c1 : j = 0
    · subst c1; decide
    · rw [if_neg (by omega)]
      obtain ⟨m, rfl⟩ : ∃ m : Nat, j = ((m + 1 : Nat) : Int) := ⟨j.toNat - 1, by omega⟩
      have e1 : (((m + 1 : Nat) : Int)).toNat = m + 1 := Int.toNat_natCast _
      have e2 : (((m + 1 : Nat) : Int) - 1).toNat = m := by omega
      rw [e1, e2, Nat.pow_succ]
      omega
theorem W_neg : ∀ (q : Nat) (j a d b e : Int), j < 0 → W w n kd U2 q j a d b e = 0
  | 0, j, a, d, b, e, hj => by
    simp only [W]
    have u0 : U2 j = 0 := if_pos hj
    have u1 : U2 (j - 1) = 0 := if_pos (by omega)
    rw [u0, u1]; simp
  | q + 1, j, a, d, b, e, hj => by
    rw [W]
    have : ∀ d', 0 ≤ d' ∧ d' ≤ 3 → ind (nxt w n a d') (fun a' => dlt (kd a) d d' 0 * W w n kd U2 q j a' d' b e + dlt (kd a) d d' 1 * W w n kd U2 q (j - 1) a' d' b e) = (fun _ => (0 : Int)) d' := by
      intro d' _
      cases nxt w n a d' with
      | none => rfl
      | some a' => simp only [ind]; rw [W_neg q j a' d' b e hj, W_neg q (j - 1) a' d' b e (by omega)]; simp
    rw [sum4_congr this]; rfl
/-- All walks of at most q cells. -/
def S (w n : Int) (kd : Int → Int) (b e : Int) : Nat → Int → Int → Int → Int
  | 0, _, _, _ => 0
  | q + 1, j, a, d => S w n kd b e q j a d + W w n kd U2 q j a d b e
theorem S_neg {b e : Int} (q : Nat) (j a d : Int) (hj : j < 0) : S w n kd b e q j a d = 0 := by
  induction q with
  | zero => rfl
  | succ q ih => rw [S, ih, W_neg q _ _ _ _ _ hj]; rfl
theorem S_step (b e : Int) (q : Nat) (j a d : Int) : S w n kd b e (q + 1) j a d = W w n kd U2 0 j a d b e + sum4 fun d' => ind (nxt w n a d') fun a' => dlt (kd a) d d' 0 * S w n kd b e q j a' d' + dlt (kd a) d d' 1 * S w n kd b e q (j - 1) a' d' := by
  induction q with
  | zero =>
    have : ∀ d', 0 ≤ d' ∧ d' ≤ 3 → ind (nxt w n a d') (fun a' => dlt (kd a) d d' 0 * S w n kd b e 0 j a' d' + dlt (kd a) d d' 1 * S w n kd b e 0 (j - 1) a' d') = (fun _ => (0 : Int)) d' := by
      intro d' _
      cases nxt w n a d' with
      | none => rfl
      | some a' => simp only [ind, S]; simp
    rw [sum4_congr this]
    simp [S, sum4]
  | succ q ih =>
    rw [S, ih]
    have : ∀ d', 0 ≤ d' ∧ d' ≤ 3 → ind (nxt w n a d') (fun a' => dlt (kd a) d d' 0 * S w n kd b e (q + 1) j a' d' + dlt (kd a) d d' 1 * S w n kd b e (q + 1) (j - 1) a' d') = (fun d' => ind (nxt w n a d') (fun a' => dlt (kd a) d d' 0 * S w n kd b e q j a' d' + dlt (kd a) d d' 1 * S w n kd b e q (j - 1) a' d') + ind (nxt w n a d') (fun a' => dlt (kd a) d d' 0 * W w n kd U2 q j a' d' b e + dlt (kd a) d d' 1 * W w n kd U2 q (j - 1) a' d' b e)) d' := by
      intro d' _
      show _ = ind (nxt w n a d') _ + ind (nxt w n a d') _
      cases nxt w n a d' with
      | none => rfl
      | some a' => simp only [ind, S, Int.mul_add]; omega
    rw [sum4_congr this]
    have hW : W w n kd U2 (q + 1) j a d b e = sum4 fun d' => ind (nxt w n a d') fun a' => dlt (kd a) d d' 0 * W w n kd U2 q j a' d' b e + dlt (kd a) d d' 1 * W w n kd U2 q (j - 1) a' d' b e := by rw [W]
    rw [hW]
    simp only [sum4]
    omega
theorem S_bk (hw : 1 ≤ w) (hn : n % w = 0) (hk : ∀ a, 0 ≤ a ∧ a < n → 0 ≤ kd a ∧ kd a ≤ 7) (q : Nat) {j a d b e : Int} (ha : 0 ≤ a ∧ a < n) (hb : 0 ≤ b ∧ b < n) (hd : 0 ≤ d ∧ d ≤ 3) (he : 0 ≤ e ∧ e ≤ 3) : S w n kd b e q j a d = S w n kd a (bk d) q j b (bk e) := by
  induction q with
  | zero => rfl
  | succ q ih => rw [S, S, ih, W_bk hw hn hk q j a d b e ha hb hd he]
theorem sum4_one {f : Int → Int} {c : Int} (hc : 0 ≤ c ∧ c ≤ 3) (h : ∀ d, 0 ≤ d ∧ d ≤ 3 → d ≠ c → f d = 0) : sum4 f = f c := by
  have q : c = 0 ∨ c = 1 ∨ c = 2 ∨ c = 3 := by omega
  unfold sum4
  rcases q with rfl | rfl | rfl | rfl
  · rw [h 1 (by decide) (by decide), h 2 (by decide) (by decide), h 3 (by decide) (by decide)]; omega
  · rw [h 0 (by decide) (by decide), h 2 (by decide) (by decide), h 3 (by decide) (by decide)]; omega
  · rw [h 0 (by decide) (by decide), h 1 (by decide) (by decide), h 3 (by decide) (by decide)]; omega
  · rw [h 0 (by decide) (by decide), h 1 (by decide) (by decide), h 2 (by decide) (by decide)]; omega
theorem sum4_two {f : Int → Int} {c c' : Int} (hne : c ≠ c') (hc : 0 ≤ c ∧ c ≤ 3) (hc' : 0 ≤ c' ∧ c' ≤ 3) (h : ∀ d, 0 ≤ d ∧ d ≤ 3 → d ≠ c → d ≠ c' → f d = 0) : sum4 f = f c + f c' := by
  have e : sum4 f = sum4 (fun d => if d = c then f d else 0) + sum4 (fun d => if d = c then 0 else f d) := by
    have : ∀ d, 0 ≤ d ∧ d ≤ 3 → f d = (fun d => (if d = c then f d else 0) + (if d = c then 0 else f d)) d := fun d _ => by
      simp only; split <;> omega
    rw [sum4_congr this]; simp only [sum4]; omega
  rw [e, sum4_one (c := c) hc (fun d _ hd => if_neg hd), sum4_one (c := c') hc' (fun d h0 hd => by
    show (if d = c then 0 else f d) = 0
    split
    · rfl
    · rename_i q; exact h d h0 q hd), if_pos rfl, if_neg (fun h => hne h.symm)]
theorem outs_one (x : Int) (v : V) : outs x [v] = if v.1 = 0 ∧ v.2.1 = x then v.2.2 else 0 := by simp [outs]
/-- Light's walk, counted: what comes out at sight x, whose cell is b, its way out e. -/
theorem go_S {sg : Int → Int → Int} {b e x : Int} (hw : 1 ≤ w) (hn : n % w = 0) (he : 0 ≤ e ∧ e ≤ 3) (hb : nxt w n b e = none)
    (hs : ∀ a d, (0 ≤ a ∧ a < n) → (0 ≤ d ∧ d ≤ 3) → nxt w n a d = none → (sg a d = x ↔ a = b ∧ d = e)) : ∀ (q : Nat) (j a d : Int) (t : Tr), (0 ≤ a ∧ a < n) → (0 ≤ d ∧ d ≤ 3) → go w n kd sg q a d (U2 j) = some t → outs x t.2 = S w n kd b e q j a d
  | 0, _, _, _, _, _, _, h => by cases h
  | q + 1, j, a, d, t, ha, hd, h => by
    by_cases hj : j < 0
    · have u : U2 j = 0 := if_pos hj
      rw [go, if_pos u] at h
      cases h
      rw [S_neg _ _ _ _ hj]; rfl
    have uj : U2 j ≠ 0 := by
      unfold U2; rw [if_neg hj]
      have := Nat.pow_pos (n := j.toNat) (show 0 < 2 by decide)
      omega
    have ih := go_S hw hn he hb hs q
    have hlv : ∀ (j' d' : Int) (t : Tr), (0 ≤ d' ∧ d' ≤ 3) → lv w n sg (go w n kd sg q) a d' (U2 j') = some t → outs x t.2 = (if a = b ∧ d' = e then U2 j' else 0) + ind (nxt w n a d') fun a' => S w n kd b e q j' a' d' := by
      intro j' d' t hd' h
      unfold lv at h
      by_cases h0 : U2 j' = 0
      · rw [if_pos h0] at h
        cases h
        have hj' : j' < 0 := by
          by_cases c : j' < 0
          · exact c
          · exfalso
            unfold U2 at h0; rw [if_neg c] at h0
            have := Nat.pow_pos (n := j'.toNat) (show 0 < 2 by decide)
            omega
        rw [h0]
        have : ind (nxt w n a d') (fun a' => S w n kd b e q j' a' d') = 0 := by
          cases nxt w n a d' with
          | none => rfl
          | some a' => exact S_neg _ _ _ _ hj'
        rw [this]; simp [outs]
      · rw [if_neg h0] at h
        cases hx : nxt w n a d' with
        | some a' =>
          rw [hx] at h
          have : ¬ (a = b ∧ d' = e) := fun c => by rw [c.1, c.2, hb] at hx; cases hx
          rw [if_neg this, ih j' a' d' t (nxt_in hw hn ha hd' hx) hd' h]
          simp [ind]
        | none =>
          rw [hx] at h
          cases h
          rw [outs_one]
          have := hs a d' ha hd' hx
          by_cases c : a = b ∧ d' = e
          · rw [if_pos c, if_pos ⟨rfl, this.2 c⟩]; simp [ind]
          · rw [if_neg c, if_neg (fun h => c (this.1 h.2))]; simp [ind]
    rw [S_step, go, if_neg uj] at *
    generalize hkk : kd a = k at *
    have zero : ∀ d' (h : Nat), (k = 1 ∨ k = 7) → dlt k d d' h = 0 := fun d' h hk => if_pos hk
    have hW0 : W w n kd U2 0 j a d b e = if a = b then dlt k d e 0 * U2 j + dlt k d e 1 * U2 (j - 1) else 0 := by rw [W, hkk]
    by_cases k1 : k = 1 ∨ k = 7
    · have hz : sum4 (fun d' => ind (nxt w n a d') fun a' => dlt k d d' 0 * S w n kd b e q j a' d' + dlt k d d' 1 * S w n kd b e q (j - 1) a' d') = 0 := by
        have : ∀ d', 0 ≤ d' ∧ d' ≤ 3 → ind (nxt w n a d') (fun a' => dlt k d d' 0 * S w n kd b e q j a' d' + dlt k d d' 1 * S w n kd b e q (j - 1) a' d') = (fun _ => (0 : Int)) d' := by
          intro d' _
          cases nxt w n a d' with
          | none => rfl
          | some a' => simp only [ind, zero _ _ k1]; simp
        rw [sum4_congr this]; rfl
      rw [hz, hW0, zero _ _ k1, zero _ _ k1]
      have ho : outs x t.2 = 0 := by
        rcases k1 with c | c
        · rw [if_pos c] at h
          have := Option.some.inj h
          rw [← this, outs_one, if_neg (by simp)]
        · rw [if_neg (by omega), if_pos c] at h
          have := Option.some.inj h
          rw [← this, outs_one, if_neg (by simp)]
      rw [ho]; simp
    have k1' : ¬ k = 1 := fun c => k1 (.inl c)
    have k7' : ¬ k = 7 := fun c => k1 (.inr c)
    rw [if_neg k1', if_neg k7'] at h
    by_cases k6 : k = 6
    · rw [if_pos k6] at h
      obtain ⟨t2, h2, h3⟩ := bind_some h
      have ht := Option.some.inj h3
      rw [U2_half] at h2
      have hd0 : ∀ d', dlt k d d' 0 = 0 := fun d' => by simp [dlt, k6]
      have hd1 : ∀ d', dlt k d d' 1 = if d' = d then 1 else 0 := fun d' => by simp [dlt, k6]
      rw [← ht, outs_app, outs_en x 3 a _ (by decide), Int.zero_add, hlv (j - 1) d t2 hd h2, hW0, sum4_one hd (fun d' _ hne => by
        cases nxt w n a d' with
        | none => rfl
        | some a' => simp [ind, hd0, hd1, hne])]
      rw [hd0, hd1]
      congr 1
      · by_cases c : a = b
        · by_cases c' : e = d
          · simp [c, c']
          · rw [if_neg (fun q => c' q.2.symm), if_pos c, if_neg c']; simp
        · rw [if_neg (fun q => c q.1), if_neg c]
      · cases nxt w n a d with
        | none => rfl
        | some a' => simp [ind, hd0, hd1]
    rw [if_neg k6] at h
    by_cases k45 : k = 4 ∨ k = 5
    · rw [if_pos k45] at h
      obtain ⟨t2, h2, h3⟩ := bind_some h
      obtain ⟨t1, h1, h4⟩ := bind_some h3
      have ht := Option.some.inj h4
      rw [U2_half] at h1 h2
      have hd' := dirT_ok (k := k) hd
      have hne : d ≠ dirT k d := by
        have c : d = 0 ∨ d = 1 ∨ d = 2 ∨ d = 3 := by omega
        rcases k45 with rfl | rfl <;> rcases c with rfl | rfl | rfl | rfl <;> decide
      have hd0 : ∀ d', dlt k d d' 0 = 0 := fun d' => by simp [dlt]; omega
      have hd1 : ∀ d', dlt k d d' 1 = if d' = d ∨ d' = dirT k d then 1 else 0 := fun d' => by
        unfold dlt; rw [if_neg k1, if_neg k6, if_pos k45]; simp
      rw [← ht, outs_app, outs_en x 3 a _ (by decide), Int.zero_add, outs_app, hlv (j - 1) d t2 hd h2, hlv (j - 1) (dirT k d) t1 hd' h1, hW0, sum4_two hne hd hd' (fun d' _ n1 n2 => by
        cases nxt w n a d' with
        | none => rfl
        | some a' => simp [ind, hd0, hd1, n1, n2])]
      have e1 : (ind (nxt w n a d) fun a' => dlt k d d 0 * S w n kd b e q j a' d + dlt k d d 1 * S w n kd b e q (j - 1) a' d) = ind (nxt w n a d) fun a' => S w n kd b e q (j - 1) a' d := ind_congr fun a' _ => by rw [hd0, hd1, if_pos (.inl rfl)]; simp
      have e2 : (ind (nxt w n a (dirT k d)) fun a' => dlt k d (dirT k d) 0 * S w n kd b e q j a' (dirT k d) + dlt k d (dirT k d) 1 * S w n kd b e q (j - 1) a' (dirT k d)) = ind (nxt w n a (dirT k d)) fun a' => S w n kd b e q (j - 1) a' (dirT k d) := ind_congr fun a' _ => by rw [hd0, hd1, if_pos (.inr rfl)]; simp
      rw [e1, e2, hd0, hd1]
      have e3 : (if a = b ∧ d = e then U2 (j - 1) else 0) + (if a = b ∧ dirT k d = e then U2 (j - 1) else 0) = if a = b then 0 * U2 j + (if e = d ∨ e = dirT k d then 1 else 0) * U2 (j - 1) else 0 := by
        by_cases c : a = b
        · simp only [c, true_and, if_true]
          by_cases c1 : e = d
          · rw [if_pos c1.symm, if_neg (fun q => hne (c1.symm.trans q.symm)), if_pos (.inl c1)]; simp
          · by_cases c2 : e = dirT k d
            · rw [if_neg (fun q => c1 q.symm), if_pos c2.symm, if_pos (.inr c2)]; simp
            · rw [if_neg (fun q => c1 q.symm), if_neg (fun q => c2 q.symm), if_neg (fun q => q.elim c1 c2)]; simp
        · simp [c]
      rw [← e3]
      omega
    · rw [if_neg k45] at h
      obtain ⟨t1, h1, h3⟩ := bind_some h
      have ht := Option.some.inj h3
      have hd' := dirT_ok (k := k) hd
      have hd1 : ∀ d', dlt k d d' 1 = 0 := fun d' => by unfold dlt; rw [if_neg k1, if_neg k6, if_neg k45]; simp
      have hd0 : ∀ d', dlt k d d' 0 = if d' = dirT k d then 1 else 0 := fun d' => by unfold dlt; rw [if_neg k1, if_neg k6, if_neg k45]; simp
      rw [← ht]
      show outs x t1.2 = _
      rw [hlv j (dirT k d) t1 hd' h1, hW0, sum4_one hd' (fun d' _ hne => by
        cases nxt w n a d' with
        | none => rfl
        | some a' => simp [ind, hd0, hd1, hne])]
      rw [hd0, hd1]
      congr 1
      · by_cases c : a = b
        · by_cases c' : e = dirT k d
          · simp [c, c']
          · rw [if_neg (fun q => c' q.2.symm), if_pos c, if_neg c']; simp
        · rw [if_neg (fun q => c q.1), if_neg c]
      · cases nxt w n a (dirT k d) with
        | none => rfl
        | some a' => simp [ind, hd0, hd1]
/-- As much goes there as comes back. -/
theorem outs_back {sg : Int → Int → Int} (hw : 1 ≤ w) (hn : n % w = 0) (hk : ∀ a, 0 ≤ a ∧ a < n → 0 ≤ kd a ∧ kd a ≤ 7) {r s : Int × Int} {x y : Int} (hr : Ok n r) (hs : Ok n s) (nr : nxt w n r.1 (bk r.2) = none) (ns : nxt w n s.1 (bk s.2) = none)
    (hx : ∀ a d, (0 ≤ a ∧ a < n) → (0 ≤ d ∧ d ≤ 3) → nxt w n a d = none → (sg a d = x ↔ a = r.1 ∧ d = bk r.2)) (hy : ∀ a d, (0 ≤ a ∧ a < n) → (0 ≤ d ∧ d ≤ 3) → nxt w n a d = none → (sg a d = y ↔ a = s.1 ∧ d = bk s.2))
    {q q' : Nat} {j : Int} {t u : Tr} (ht : go w n kd sg q r.1 r.2 (U2 j) = some t) (hu : go w n kd sg q' s.1 s.2 (U2 j) = some u) : outs y t.2 = outs x u.2 := by
  have e1 := go_le (Nat.le_max_left q q') ht
  have e2 := go_le (Nat.le_max_right q q') hu
  rw [go_S hw hn (bk_ok _) ns hy _ j r.1 r.2 t hr.1 hr.2 e1, go_S hw hn (bk_ok _) nr hx _ j s.1 s.2 u hs.1 hs.2 e2, S_bk hw hn hk _ hr.1 hs.1 hr.2 (bk_ok _), bk_bk hs.2]
/-! ### what there is of light -/
def tot : List V → Int
  | [] => 0
  | e :: l => e.2.2 + tot l
theorem tot_app (l m : List V) : tot (l ++ m) = tot l + tot m := by
  induction l with
  | nil => simp [tot]
  | cons e l ih => simp only [List.cons_append, tot, ih]; omega
theorem tot_en {k a wt : Int} (h : 0 ≤ wt) : tot (en k a wt) = wt := by
  unfold en
  by_cases c : wt > 0
  · rw [if_pos c]; simp [tot]
  · rw [if_neg c]; simp only [tot]; omega
/-- All light ends. -/
theorem go_tot {sg : Int → Int → Int} (hw : 1 ≤ w) (hn : n % w = 0) (q : Nat) (a d wt : Int) (t : Tr) (ho : Ok n (a, d)) (h0 : 0 ≤ wt) (h : go w n kd sg q a d wt = some t) : tot t.2 = wt := by
  refine go_ind (kd := kd) (sg := sg) hw hn (fun a d wt t => 0 ≤ wt → tot t.2 = wt) (fun a d wt t => 0 ≤ wt → tot t.2 = wt) ?_ ?_ ?_ ?_ ?_ ?_ ?_ ?_ ?_ q a d wt t ho h h0
  · intro a d _; rfl
  · intro a d _; rfl
  · intro a d wt _ _ _ _ _ _; simp [tot]
  · intro a d wt a' t _ _ _ _ h; exact h
  · intro a d wt _ _ _ _; simp [tot]
  · intro a d wt _ _ _ _; simp [tot]
  · intro a d wt t _ _ _ h h0
    show tot (en 3 a (wt - wt / 2) ++ t.2) = wt
    rw [tot_app, tot_en (by omega), h (by omega)]; omega
  · intro a d wt t u _ _ _ h h' h0
    show tot (en 3 a (wt - 2 * (wt / 2)) ++ (t.2 ++ u.2)) = wt
    rw [tot_app, tot_app, tot_en (by omega), h (by omega), h' (by omega)]; omega
  · intro a d wt t _ _ _ h h0; exact h h0
def sumN (f : Nat → Int) : Nat → Int
  | 0 => 0
  | i + 1 => sumN f i + f i
theorem sum_outs (m : Nat) : ∀ (l : List V), (∀ e ∈ l, 0 ≤ e.2.2) → sumN (fun i => outs (i : Int) l) m ≤ tot l ∧ 0 ≤ sumN (fun i => outs (i : Int) l) m := by
  have one : ∀ (v c : Int), 0 ≤ c → ∀ m : Nat, 0 ≤ sumN (fun i => if v = (i : Int) then c else 0) m ∧ sumN (fun i => if v = (i : Int) then c else 0) m ≤ (if v < (m : Int) then c else 0) := by
    intro v c hc m
    induction m with
    | zero => refine ⟨Int.le_refl _, ?_⟩; show (0 : Int) ≤ _; split <;> omega
    | succ m ih =>
      simp only [sumN]
      by_cases e : v = (m : Int)
      · rw [if_neg (by omega)] at ih
        rw [if_pos e, if_pos (by omega)]; omega
      · rw [if_neg e]
        by_cases e2 : v < (m : Int)
        · rw [if_pos e2] at ih; rw [if_pos (by omega)]; omega
        · rw [if_neg e2] at ih; rw [if_neg (by omega)]; omega
  have add : ∀ (f g : Nat → Int) (m : Nat), sumN (fun i => f i + g i) m = sumN f m + sumN g m := by
    intro f g m
    induction m with
    | zero => rfl
    | succ m ih => simp only [sumN, ih]; omega
  have nul : ∀ m : Nat, sumN (fun _ => 0) m = 0 := by
    intro m
    induction m with
    | zero => rfl
    | succ m ih => simp only [sumN, ih]; rfl
  intro l
  induction l with
  | nil => intro _; simp only [outs, nul, tot]; omega
  | cons v l ih =>
    intro h
    have i1 := ih fun e he => h e (List.mem_cons_of_mem _ he)
    have hv := h v (List.mem_cons_self ..)
    simp only [outs, tot]
    rw [add]
    by_cases c : v.1 = 0
    · have o := one v.2.1 v.2.2 hv m
      have : sumN (fun i => if v.1 = 0 ∧ v.2.1 = (i : Int) then v.2.2 else 0) m = sumN (fun i => if v.2.1 = (i : Int) then v.2.2 else 0) m := by simp [c]
      rw [this]
      have : (if v.2.1 < (m : Int) then v.2.2 else 0) ≤ v.2.2 := by split <;> omega
      omega
    · have : sumN (fun i => if v.1 = 0 ∧ v.2.1 = (i : Int) then v.2.2 else 0) m = 0 := by simp [c, nul]
      rw [this]; omega
end
end Go.Proofs.Ytambkogocbgbmaa.Tr
/- As much light goes from one sight to another as comes back, and no more than came in. Plain. -/
namespace Go.Proofs.Ytambkogocbgbmaa.Id
open Go.Id
open Go.Proofs
set_option linter.unusedVariables false
theorem lastIx_get {x : Cl} : ∀ (n : Nat) (l : List Cl), l.length = n → ∀ i : Nat, lastIx l x = (i : Int) → l[i]? = some x
  | 0, l, h, i, e => by
    have : l = [] := List.length_eq_zero_iff.1 h
    subst this
    have e : (-1 : Int) = (i : Int) := e
    omega
  | n + 1, l, h, i, e => by
    obtain ⟨r, y, rfl⟩ := snoc_of (l := l) (by omega)
    rw [lastIx_snoc] at e
    have hr : r.length = n := by simpa using h
    by_cases c : y = x
    · rw [if_pos c] at e
      have : i = r.length := by omega
      subst this; subst c; simp
    · rw [if_neg c] at e
      have := lastIx_get n r hr i e
      rw [List.getElem?_append_left (List.getElem?_eq_some_iff.1 this).1]; exact this
theorem lastIx_of {x : Cl} : ∀ (n : Nat) (l : List Cl), l.length = n → l.Nodup → ∀ i : Nat, l[i]? = some x → lastIx l x = (i : Int)
  | 0, l, h, hd, i, e => by
    have : l = [] := List.length_eq_zero_iff.1 h
    subst this
    simp at e
  | n + 1, l, h, hd, i, e => by
    obtain ⟨r, y, rfl⟩ := snoc_of (l := l) (by omega)
    rw [lastIx_snoc]
    have hr : r.length = n := by simpa using h
    obtain ⟨d1, _, d2⟩ := List.nodup_append.1 hd
    by_cases hi : i < r.length
    · rw [List.getElem?_append_left hi] at e
      have hm : x ∈ r := List.mem_of_getElem? e
      rw [if_neg (fun c => d2 x hm y (List.mem_singleton.2 rfl) c.symm)]
      exact lastIx_of n r hr d1 i e
    · have hl := (List.getElem?_eq_some_iff.1 e).1
      have : i = r.length := by simp at hl; omega
      subst this
      simp at e
      rw [if_pos e]
theorem rays_chk : ∀ w : Fin 5, ∀ hh : Fin 5, (rays (w.val + 1) (hh.val + 1)).Nodup ∧ ∀ c ∈ rays (w.val + 1) (hh.val + 1), Tr.nxt ((w.val + 1 : Nat) : Int) (((w.val + 1 : Nat) : Int) * ((hh.val + 1 : Nat) : Int)) c.1 (Tr.bk c.2) = none := by decide +kernel
theorem rays_once {w hh : Nat} (h1 : 1 ≤ w ∧ w ≤ 5) (h2 : 1 ≤ hh ∧ hh ≤ 5) : (rays w hh).Nodup ∧ ∀ c ∈ rays w hh, Tr.nxt (w : Int) ((w : Int) * (hh : Int)) c.1 (Tr.bk c.2) = none := by
  have := rays_chk ⟨w - 1, by omega⟩ ⟨hh - 1, by omega⟩
  simp only [show w - 1 + 1 = w from by omega, show hh - 1 + 1 = hh from by omega] at this
  exact this
/-- Which way leads out at a sight. -/
theorem sight_ray {g : Gd} {x : Int} {r : Cl} (hr : sightRay g x = some r) : Tr.nxt g.w g.cs.length r.1 (Tr.bk r.2) = none ∧ ∀ a d, (0 ≤ d ∧ d ≤ 3) → (sightOf g a d = x ↔ a = r.1 ∧ d = Tr.bk r.2) := by
  have hr0 := hr
  obtain ⟨hg, _, h4⟩ := sightRay_ok hr0
  unfold sightRay at hr
  by_cases c : gOk g = true ∧ 0 ≤ x ∧ x < many g
  · rw [if_pos c] at hr
    obtain ⟨w, hh, g1, g2, g3, g4, g5⟩ := gOk_nat c.1
    have hs : sideRays g = rays w hh := by unfold sideRays; rw [g1, g2, Int.toNat_natCast, Int.toNat_natCast]
    obtain ⟨o1, o2⟩ := rays_once g3 g4
    rw [hs] at hr
    refine ⟨?_, fun a d hd => ?_⟩
    · rw [g1, g5]; exact o2 r (List.mem_of_getElem? hr)
    · have e : sightOf g a d = lastIx (rays w hh) (a, Tr.bk d) := by
        unfold sightOf; rw [if_pos ⟨hg, hd⟩, hs]; rfl
      rw [e]
      constructor
      · intro q
        have := lastIx_get _ _ rfl x.toNat (by rw [q]; omega)
        rw [hr] at this
        have := Option.some.inj this
        rw [this]
        exact ⟨rfl, (Tr.bk_bk hd).symm⟩
      · rintro ⟨rfl, rfl⟩
        rw [Tr.bk_bk h4, lastIx_of _ _ rfl o1 x.toNat hr]
        omega
  · rw [if_neg c] at hr; cases hr
theorem sightRay_ex {g : Gd} (hg : gOk g = true) {k : Int} (hk : 0 ≤ k ∧ k < many g) : ∃ r, sightRay g k = some r := by
  unfold sightRay
  rw [if_pos ⟨hg, hk⟩]
  have := sideRays_len hg
  exact ⟨_, List.getElem?_eq_getElem (by omega)⟩
theorem row_back {g : Gd} (hg : gOk g = true) {k i : Int} (hk : 0 ≤ k ∧ k < many g) (hi : 0 ≤ i ∧ i < many g) : Tr.outs i (trail g k).2 = Tr.outs k (trail g i).2 := by
  obtain ⟨r, hr⟩ := sightRay_ex hg hk
  obtain ⟨s, hs⟩ := sightRay_ex hg hi
  obtain ⟨t1, _⟩ := trail_ok g k
  obtain ⟨u1, _⟩ := trail_ok g i
  unfold IsTrail at t1 u1
  rw [hr] at t1
  rw [hs] at u1
  obtain ⟨q, hq⟩ := t1
  obtain ⟨q', hq'⟩ := u1
  obtain ⟨_, o1, o2⟩ := sightRay_ok hr
  obtain ⟨_, p1, p2⟩ := sightRay_ok hs
  obtain ⟨g1, g2, g3, g4, g5, g6⟩ := gOk_iff.1 hg
  obtain ⟨n1, x1⟩ := sight_ray hr
  obtain ⟨n2, x2⟩ := sight_ray hs
  exact Tr.outs_back (j := 6) (kd := kdG g) (w := g.w) g1 g5 (fun a ha => kdG_ok hg ha) ⟨o1, o2⟩ ⟨p1, p2⟩ n1 n2 (fun a d _ hd _ => x1 a d hd) (fun a d _ hd _ => x2 a d hd) hq hq'
theorem row_sum (g : Gd) (k : Int) (m : Nat) : 0 ≤ Tr.sumN (fun i => Tr.outs (i : Int) (trail g k).2) m ∧ Tr.sumN (fun i => Tr.outs (i : Int) (trail g k).2) m ≤ 64 := by
  obtain ⟨t1, _, t3, _⟩ := trail_ok g k
  have h := Tr.sum_outs m (trail g k).2 fun e he => (t3 e he).2.1
  have ht : Tr.tot (trail g k).2 ≤ 64 := by
    unfold IsTrail at t1
    cases hr : sightRay g k with
    | none => rw [hr] at t1; rw [t1]; decide
    | some r =>
      rw [hr] at t1
      obtain ⟨q, hq⟩ := t1
      obtain ⟨hg, o1, o2⟩ := sightRay_ok hr
      obtain ⟨g1, g2, g3, g4, g5, g6⟩ := gOk_iff.1 hg
      exact Int.le_of_eq (Tr.go_tot (w := g.w) g1 g5 q _ _ _ _ ⟨o1, o2⟩ (by decide) hq)
  omega
end Go.Proofs.Ytambkogocbgbmaa.Id
/- The law FnPicBack over the ideal memory. -/
namespace Go.Proofs.Ytambkogocbgbmaa.Id
open Go.Id Go.Conc Go.Conc.Lib
open Go.Proofs
set_option linter.unusedVariables false
set_option maxRecDepth 100000
variable {N0 : Nat → Prop} {lo : Nat}
theorem rowTo_back {g : Gd} (hg : gOk g = true) {k i : Nat} (hk : (k : Int) < many g) (hi : (i : Int) < many g) : (rowTo g k)[i]? = (rowTo g i)[k]? := by
  have h1 : i < (toRow g (trail g k).2).length := by rw [toRow_len]; omega
  have h2 : k < (toRow g (trail g i).2).length := by rw [toRow_len]; omega
  show (toRow g (trail g k).2)[i]? = (toRow g (trail g i).2)[k]?
  rw [List.getElem?_eq_getElem h1, List.getElem?_eq_getElem h2, toRow_get, toRow_get, row_back hg (k := k) (i := i) (by omega) (by omega)]
theorem picBack_R (bs : List Nat) (a : Option Addr) (fl : Nat) (h : Hp) (hs : Sls h uE 1 a bs) (hb : ∀ b ∈ bs, b < 256) (hn : bs.length ≤ 9223372036854775807) (hlo : lo ≤ h.n) :
    R (mainCtx Try.prog N0) lo 6 Try.f6 (.ret fun v _ => v = .bool true) [.code (bodyC Try.f6)] (argsTm 0 [.slice a bs.length fl]) [] h := by
  refine more tbOk mtOk ⟨[], [(14, [0, 1, 2, 3, 4, 5, 6, 7, 8, 9, 10, 11, 12, 13, 14, 15, 16, 17, 18, 19, 20, 21, 22, 23, 24, 25, 26, 27, 28], [0, 0, 3, 7, 0, 31, 63, 0, 0, 384, 896, 0, 3968, 8064, 16383, 32767, 65535, 65535, 262143, 524287, 65535, 2097151, 4194303, 65535, 65535, 65535, 58785791, 134217727, 268435455])]⟩ 400 ?_
  refine cnd (fun c1 => rfl) (fun c1 => ?_)
  have hn1 : bs.length ≤ 1048576 := by simp at c1; omega
  refine callP (DrawPicTo_ok a fl bs h hs hn1 hb) ?_
  rintro v h1 ⟨g, ga, gf, rfl, d1, gl, e1⟩
  have gs := d1.sls.2
  have hn2 : (g.cs.length : Int) < 2 ^ 31 := by omega
  refine callP (PicTo_ok g ga gf h1 gs hn2) ?_
  rintro v h2 ⟨⟨o, L, rfl, q2, q3, q4, q5, q6⟩, e2⟩
  have gs2 := gs.ext e2
  obtain ⟨la, lf, lv, ls⟩ := gx_sl q2 vE1_len
  rw [lv]
  refine callP (sPicTo_ok g ga gf h2 gs2 hn2) ?_
  rintro v h3 ⟨⟨b3, e3', L3, rfl, w1, w2, w3⟩, w4⟩
  have mle : (if gOk g then many g else 0) ≤ 20 := by
    split
    · rename_i hg
      obtain ⟨p1, p2, _⟩ := hi_ok hg
      obtain ⟨p3, p4, _⟩ := gOk_iff.1 hg
      unfold many; omega
    · decide
  have hLn : L.length ≤ 20 := by omega
  have hLL : L.length = L3.length := by omega
  have rows : ∀ {h' : Hp}, Ext h3 h' → Tri (mainCtx Try.prog N0) lo 19 [.slice la L.length lf, .slice (some ⟨b3, 0, some e3'⟩) L3.length 1] h' fun v h'' => v = .bool true ∧ h'' = h' := fun x => llRows_ok (rowTo g) la (some ⟨b3, 0, some e3'⟩) lf 1 L L3 _ (ls.ext (w4.trans x)) ((w2.ext x).r.sls vE1_len) (fun j y hy => (elRow _).ext (q4 j y hy) (w4.trans x)) (w2.ext x).el hLL (by omega) (fun k hk => by
    rw [rowTo_len]
    by_cases hg : gOk g = true
    · rw [if_pos hg] at mle; omega
    · rw [if_neg hg] at q3; omega)
  refine callP (rows (Ext.refl _)) ?_
  rintro v h4 ⟨rfl, rfl⟩
  refine cndF ?_
  have gs4 := gs2.ext w4
  have ls4 := ls.ext w4
  have el4 : ∀ (j : Nat) (x : Value), L[j]? = some x → RowEl (rowTo g) j x h4 := fun j x hx => (elRow _).ext (q4 j x hx) w4
  have hgk : ∀ {j : Nat}, j < L.length → gOk g = true ∧ (j : Int) < many g ∧ (L.length : Int) = many g := fun {j} hj => by
    by_cases hg : gOk g = true
    · rw [if_pos hg] at q3; exact ⟨hg, by omega, q3⟩
    · rw [if_neg hg] at q3; omega
  refine loop (σ := Nat) tbOk mtOk ⟨[], [(14, [0, 1, 2, 3, 4, 5, 6, 7, 8, 9, 10, 11, 12, 13, 14, 15, 16, 17, 18, 19, 20, 21, 22, 23, 24, 25, 26, 27, 28], [0, 0, 3, 7, 0, 31, 63, 0, 0, 384, 896, 0, 3968, 8064, 16383, 32767, 65535, 65535, 262143, 524287, 65535, 2097151, 4194303, 65535, 65535, 65535, 58785791, 134217727, 268435455])]⟩ (fun k => [(5, .v (.int .i64 (k : Int))), (4, .v (.slice la L.length lf)), (3, .l 0 0)]) (fun _ => [[.int .i64 g.w, .slice ga g.cs.length gf]]) (fun k h' => k ≤ L.length ∧ Ext h4 h') (fun k => L.length - k) 400 0 (fun _ => rfl) ⟨rfl, rfl, rfl, trivial⟩ ⟨rfl, trivial⟩ ⟨Nat.zero_le _, Ext.refl _⟩ (fun k h5 hI again => ?_)
  obtain ⟨i1, i2⟩ := hI
  refine cnd (fun c2 => ?_) (fun c2 => ?_)
  · have c2 : k < L.length := by simpa using c2
    obtain ⟨hg, hk, hm⟩ := hgk c2
    refine loop (σ := Nat) tbOk mtOk ⟨[], [(14, [0, 1, 2, 3, 4, 5, 6, 7, 8, 9, 10, 11, 12, 13, 14, 15, 16, 17, 18, 19, 20, 21, 22, 23, 24, 25, 26, 27, 28], [0, 0, 3, 7, 0, 31, 63, 0, 0, 384, 896, 0, 3968, 8064, 16383, 32767, 65535, 65535, 262143, 524287, 65535, 2097151, 4194303, 65535, 65535, 65535, 58785791, 134217727, 268435455])]⟩ (fun i => [(7, .v (.int .i64 (i : Int))), (6, .v (.int .i64 (Tr.sumN (fun i => Tr.outs (i : Int) (trail g k).2) i))), (5, .v (.int .i64 (k : Int))), (4, .v (.slice la L.length lf)), (3, .l 0 0)]) (fun _ => [[.int .i64 g.w, .slice ga g.cs.length gf]]) (fun i h' => i ≤ L.length ∧ Ext h4 h') (fun i => L.length - i) 400 0 (fun _ => rfl) ⟨rfl, rfl, rfl, rfl, rfl, trivial⟩ ⟨rfl, trivial⟩ ⟨Nat.zero_le _, i2⟩ (fun i h6 hI again' => ?_)
    obtain ⟨j1, j2⟩ := hI
    refine cnd (fun c3 => ?_) (fun c3 => ?_)
    · have c3 : i < L.length := by simpa using c3
      obtain ⟨_, hi, _⟩ := hgk c3
      obtain ⟨la, rfl⟩ := ls4.some c2
      obtain ⟨xk, hxk, sk⟩ := rowEl_sl (el4 k L[k] (List.getElem?_eq_getElem c2))
      obtain ⟨xi, hxi, si⟩ := rowEl_sl (el4 i L[i] (List.getElem?_eq_getElem c3))
      have lkE : ∀ {h' : Hp}, Ext h4 h' → Ld h' (addA la (k * 1)) 1 [L[k]] := fun x => (ls4.ext x).ld vE1_len c2
      have liE : ∀ {h' : Hp}, Ext h4 h' → Ld h' (addA la (i * 1)) 1 [L[i]] := fun x => (ls4.ext x).ld vE1_len c3
      rw [hxk] at lkE
      rw [hxi] at liE
      have hik : i < (rowTo g k).length := by rw [rowTo_len]; omega
      have hki : k < (rowTo g i).length := by rw [rowTo_len]; omega
      have lkiE : ∀ {h' : Hp}, Ext h4 h' → Ld h' (addA xk (i * 1)) 1 [.int .i64 (rowTo g k)[i]] := fun x => (sk.ext x).ld (fun _ => rfl) hik
      have likE : ∀ {h' : Hp}, Ext h4 h' → Ld h' (addA xi (k * 1)) 1 [.int .i64 (rowTo g i)[k]] := fun x => (si.ext x).ld (fun _ => rfl) hki
      obtain ⟨T1, T2, T3, _⟩ := trail_ok g k
      have ea : (rowTo g k)[i] = Tr.outs (i : Int) (trail g k).2 := toRow_get _
      have eb : (rowTo g i)[k] = Tr.outs (i : Int) (trail g k).2 := by
        have := rowTo_back hg hi hk
        rw [List.getElem?_eq_getElem hik, List.getElem?_eq_getElem hki, ea] at this
        exact Option.some.inj this
      rw [ea] at lkiE
      rw [eb] at likE
      refine And.intro (by kernel_rfl) ?_
      refine And.intro ⟨by omega, by omega⟩ ?_
      refine ⟨_, lkE j2, ?_⟩
      refine And.intro ⟨by omega, by omega⟩ ?_
      refine ⟨_, lkiE j2, ?_⟩
      refine And.intro ⟨by omega, by omega⟩ ?_
      refine ⟨_, liE j2, ?_⟩
      refine And.intro ⟨by omega, by omega⟩ ?_
      refine ⟨_, likE j2, ?_⟩
      refine cnd (fun c4 => absurd c4 (by simp)) (fun c4 => ?_)
      refine And.intro ⟨by omega, by omega⟩ ?_
      refine ⟨_, lkE j2, ?_⟩
      refine And.intro ⟨by omega, by omega⟩ ?_
      refine ⟨_, lkiE j2, ?_⟩
      refine callP (TrailTo_ok g k i (trail g k) ga gf h6 (gs4.ext j2) hn2 T1 T2 T3) ?_
      rintro v h7 ⟨rfl, e7⟩
      have j7 := j2.trans e7
      repeat (first | refine And.intro ⟨_, lkiE j7, Is.r⟩ ?_ | refine And.intro ⟨_, lkE j7, Is.r⟩ ?_ | refine And.intro Is.r ?_ | refine And.intro ⟨_, likE j7, Is.r⟩ ?_ | refine And.intro ⟨_, liE j7, Is.r⟩ ?_)
      refine cnd (fun c5 => absurd c5 (by simp)) (fun c5 => ?_)
      refine And.intro ⟨by omega, by omega⟩ ?_
      refine ⟨_, lkE j7, ?_⟩
      refine And.intro ⟨by omega, by omega⟩ ?_
      refine ⟨_, lkiE j7, ?_⟩
      have rs := row_sum g k i
      have rs' := row_sum g k (i + 1)
      refine again' (i + 1) _ _ _ (by omega) ⟨?_, ?_, rfl, rfl, rfl, trivial⟩ ⟨rfl, trivial⟩ ⟨by omega, j7⟩
      · show some (Sl.v (.int .i64 (IntKind.i64.wrap ((i : Int) + 1)))) = _
        rw [wr (by omega) (by omega)]; rfl
      · show some (Sl.v (.int .i64 (IntKind.i64.wrap (Tr.sumN (fun i => Tr.outs (i : Int) (trail g k).2) i + Tr.outs (i : Int) (trail g k).2)))) = _
        rw [wr (by simp only [Tr.sumN] at rs'; omega) (by simp only [Tr.sumN] at rs'; omega)]; rfl
    · refine cnd (fun c4 => absurd (of_decide_eq_true c4) (by have := (row_sum g k i).2; omega)) (fun c4 => ?_)
      refine again (k + 1) _ _ _ (by omega) ⟨?_, rfl, rfl, trivial⟩ ⟨rfl, trivial⟩ ⟨by omega, j2⟩
      show some (Sl.v (.int .i64 (IntKind.i64.wrap ((k : Int) + 1)))) = _
      rw [wr (by omega) (by omega)]; rfl
  · refine callP (SightMany_ok g ga gf h5 (gs4.ext i2) hn2) ?_
    rintro v h6 ⟨rfl, e6⟩
    show Value.bool (decide ((L.length : Int) = if gOk g then many g else 0)) = .bool true
    rw [decide_eq_true q3]
end Go.Proofs.Ytambkogocbgbmaa.Id
/- What comes in, as ideal memory that nobody writes; what is left of it at the run's end. -/
namespace Go.Id
open Go.Conc Go.ChangeShapes Go.WideShapes
set_option linter.unusedVariables false
theorem cell_spot {w : World} {a : Addr} {v : Value} (h : w.cell? a = some v) : a.spot = none ∧ a.block < w.heap.size := by
  unfold World.cell? at h
  split at h
  · rename_i c _ _ hb
    split at h
    · cases h
    · rename_i hs
      refine ⟨?_, (Array.getElem?_eq_some_iff.1 hb).1⟩
      cases hsp : a.spot with
      | none => rfl
      | some _ => rw [hsp] at hs; exact absurd rfl hs
  · cases h
def InOk (W : World) (s : Sim) (h : Hp) : Prop := SimOk (lowOf W) h.n s (fun _ => False) h W
theorem InOk.nil (W : World) : InOk W ⟨fun _ => none, fun _ => 0, fun _ => none⟩ ⟨0, fun _ => .cells [] 0 0⟩ :=
  ⟨fun id c h => (by cases h), fun id c h => (by cases h), fun id c id' c' h => (by cases h), fun id b h => (by cases h), fun b h => h.elim, fun b h => h.elim, fun b h => h, Nat.le_refl _⟩
section
variable {W : World} {s : Sim} {h : Hp} {α : Type} {enc : α → List Value} {sz : Nat} {l : List α} {ys : List Value}
/-- A slice that came in. -/
theorem InOk.slice (I : InOk W s h) (he : ∀ x, (enc x).length = sz) (hz : sz ≠ 0) (A : Option Addr) (cap : Nat) (hl : l.length ≤ cap) (hv : VRm s (l.flatMap enc) ys) (hc : ∀ a, A = some a → ∀ (i : Nat) (v : Value), ys[i]? = some v → W.cell? (a.add i) = some v)
    (hn : A = none → l = [] ∧ cap = 0) (hb : ∀ a, A = some a → l = [] → ∃ b0, b0 < W.heap.size) :
    ∃ s' h' A' fl, InOk W s' h' ∧ s.le s' ∧ Ext h h' ∧ VR s' (.slice A' l.length fl) (.slice A l.length cap) ∧ Sls h' enc sz A' l := by
  cases A with
  | none =>
    obtain ⟨rfl, rfl⟩ := hn rfl
    exact ⟨s, h, none, 0, I, s.le_refl, Ext.refl h, .sl0, rfl⟩
  | some a =>
    have hnone : s.adr h.n = none := by
      cases hx : s.adr h.n with
      | none => rfl
      | some c => exact absurd (I.cells _ c hx).1 (Nat.lt_irrefl _)
    obtain ⟨c, hcap, hcb, hH, hne⟩ : ∃ c : Cel, c.cap = cap ∧ c.b < W.heap.size ∧ Holds W c.b c.o ys ∧ (l.length ≠ 0 → a = ⟨c.b, c.o + 0, none⟩) := by
      by_cases hl0 : l = []
      · obtain ⟨b0, hb0⟩ := hb a rfl hl0
        refine ⟨⟨b0, 0, cap⟩, rfl, hb0, fun i v hv' => ?_, fun h => absurd (by rw [hl0]; rfl) h⟩
        have := hv.1.1
        rw [hl0] at this
        have := (List.getElem?_eq_some_iff.1 hv').1
        simp at *; omega
      · have hy : 0 < ys.length := by
          rw [← hv.1.1, flat_len he]
          exact Nat.mul_pos (List.length_pos_iff.2 hl0) (Nat.pos_of_ne_zero hz)
        have h0 := hc a rfl 0 ys[0] (List.getElem?_eq_getElem hy)
        rw [show a.add 0 = a from rfl] at h0
        obtain ⟨e1, e2⟩ := cell_spot h0
        have ea : a = ⟨a.block, a.off, none⟩ := by cases a; simp only at e1; rw [e1]
        refine ⟨⟨a.block, a.off, cap⟩, rfl, e2, fun i v hv' => ?_, fun _ => ea⟩
        have := hc a rfl i v hv'
        rw [ea, add_none] at this
        exact this
    refine ⟨s.up h.n c 0, h.push (.cells (l.flatMap enc) sz 0), some ⟨h.n, 0, some 0⟩, 2, ?_, ?_, Ext.push _ _, ?_, ?_⟩
    · have hle : s.le (s.up h.n c 0) := Sim.up_le fun c₀ hc₀ => by rw [hnone] at hc₀; cases hc₀
      refine ⟨fun id c' hc' => ?_, fun id c' hc' hlo => ?_, fun id c' id' c'' h1 h2 hlo => ?_, fun id b hb' => ?_, fun b h => h.elim, fun b h => h.elim, fun b h => h, Nat.le_refl _⟩
      · simp only [Sim.up] at hc'
        by_cases hid : id = h.n
        · subst hid
          rw [if_pos rfl] at hc'; cases hc'
          exact ⟨by simp [Hp.push], fun _ => hcb, l.flatMap enc, sz, by simp [Hp.push, Sim.up], ys, hv.mono hle, hH⟩
        · rw [if_neg hid] at hc'
          obtain ⟨g1, g2, cs, sz', g3, ys', g4, g5⟩ := I.cells id c' hc'
          refine ⟨by simp [Hp.push]; omega, fun _ => g2 g1, cs, sz', ?_, ys', g4.mono hle, g5⟩
          simp [Hp.push, Sim.up, hid, g3]
      · simp only [Sim.up] at hc'
        by_cases hid : id = h.n
        · subst hid; exact absurd (show h.n + 1 ≤ h.n from hlo) (by omega)
        · rw [if_neg hid] at hc'; have := (I.cells id c' hc').1; exact absurd (show h.n + 1 ≤ id from hlo) (by omega)
      · simp only [Sim.up] at h1
        by_cases hid : id = h.n
        · subst hid; exact absurd (show h.n + 1 ≤ h.n from hlo) (by omega)
        · rw [if_neg hid] at h1; have := (I.cells id c' h1).1; exact absurd (show h.n + 1 ≤ id from hlo) (by omega)
      · have hb'' : s.mp id = some b := hb'
        have := (I.maps id b hb'').1
        exact ⟨by simp [Hp.push]; omega, fun hlo => absurd (show h.n + 1 ≤ id from hlo) (by omega)⟩
    · exact Sim.up_le fun c₀ hc₀ => by rw [hnone] at hc₀; cases hc₀
    · refine .sl h.n 0 (some 0) l.length 2 a cap c (by simp [Sim.up]) (by simp [Sim.up, epOf]) (fun _ => ⟨fun hx => ?_, fun hx => by cases hx⟩) (fun hx => by cases hx) hl
      rcases hx with hx | hx
      · exact hne hx
      · cases hx
    · exact (Row.push (h := h) (e := 0) (enc := enc) (sz := sz) (l := l)).sls he
end
section
variable {H : Type} {enc : TypeId × Value → H} {P : Program} {W : World} {base : Nat} {spare : Nat → Bool} {held : Bool} {α : Type} {en : α → List Value} {sz : Nat}
theorem cells_get {a : Addr} {n : Nat} {cs : List Value} (h : W.cells? base a n = some cs) : cs.length = n ∧ ∀ i, i < n → W.cell? (a.add i) = cs[i]? := by
  obtain ⟨_, h1, h2⟩ := World.cells?_some h
  exact ⟨h1, h2⟩
/-- A slice of plain data, read. -/
theorem open_plain {t e : TypeId} {v : Value} {x : DataW H × List MemPlace} (ht : P.underlying t = some (.slice e)) (hsz : P.cellsOf e = sz) (hz : sz ≠ 0) (hen : ∀ x, (en x).length = sz)
    (dec : ∀ n cs y, DataW.trod enc P W base spare held n e cs = some y → ∃ q, cs = en q) {fuel : Nat} (h : DataW.trod enc P W base spare held fuel t [v] = some x) :
    ∃ (A : Option Addr) (cap : Nat) (l : List α), v = .slice A l.length cap ∧ l.length ≤ cap ∧ cap ≤ Go.maxLen ∧ (A = none → l = [] ∧ cap = 0) ∧ ∀ a, A = some a → ∀ (i : Nat) (u : Value), (l.flatMap en)[i]? = some u → W.cell? (a.add i) = some u := by
  rcases Go.Deep.open_slice ht h with ⟨hcs, _⟩ | ⟨a, len, cap, m, n, D, Pl, hcs, _, hl, hm, hmm, _, hx⟩
  · simp at hcs; subst hcs
    exact ⟨none, 0, [], rfl, Nat.le_refl _, by unfold Go.maxLen; omega, fun _ => ⟨rfl, rfl⟩, fun a h => by cases h⟩
  · simp at hcs; subst hcs
    have hlm : len ≤ m := by rw [hmm]; split <;> omega
    have each : ∀ i, i < len → ∃ q : α, ∀ k, k < sz → W.cell? ((a.add (i * sz)).add k) = (en q)[k]? := by
      intro i hi
      obtain ⟨cs', h1, h2⟩ := hx i (by omega)
      obtain ⟨q, rfl⟩ := dec _ _ _ h2
      rw [hsz] at h1
      exact ⟨q, (cells_get h1).2⟩
    by_cases h0 : len = 0
    · subst h0
      exact ⟨some a, cap, [], rfl, Nat.zero_le _, hm, fun h => (by cases h), fun a _ i u hu => by simp at hu⟩
    · obtain ⟨q0, hq0⟩ := each 0 (by omega)
      have hs : a.spot = none := by
        have h1 := hq0 0 (by omega)
        have hlt : 0 < (en q0).length := by rw [hen]; omega
        rw [List.getElem?_eq_getElem hlt] at h1
        have : (a.add (0 * sz)).add 0 = a := by simp [Addr.add]
        rw [this] at h1
        exact (cell_spot h1).1
      have ea : a = ⟨a.block, a.off, none⟩ := by cases a; simp only at hs; rw [hs]
      obtain ⟨q, hq⟩ : ∃ q : Nat → α, ∀ i, i < len → ∀ k, k < sz → W.cell? ((a.add (i * sz)).add k) = (en (q i))[k]? := by
        classical
        exact ⟨fun i => if hi : i < len then (each i hi).choose else q0, fun i hi => by simp only [dif_pos hi]; exact (each i hi).choose_spec⟩
      have hlen : ((List.range len).map q).length = len := by simp
      refine ⟨some a, cap, (List.range len).map q, by rw [hlen], by rw [hlen]; exact hl, hm, fun h => (by cases h), fun b hb i u hu => ?_⟩
      cases hb
      have hi : i < len * sz := by
        have := (List.getElem?_eq_some_iff.1 hu).1
        rw [flat_len hen, hlen] at this; exact this
      have hdiv : i / sz < len := Nat.div_lt_of_lt_mul (by rw [Nat.mul_comm]; exact hi)
      have hmod : i % sz < sz := Nat.mod_lt _ (Nat.pos_of_ne_zero hz)
      have hsum : i / sz * sz + i % sz = i := by rw [Nat.mul_comm]; exact Nat.div_add_mod i sz
      have h1 := hq (i / sz) hdiv (i % sz) hmod
      rw [ea, add_none, add_none, Nat.add_assoc, hsum] at h1
      rw [ea, add_none, h1]
      have h2 := flat_get hen ((List.range len).map q) (i / sz) (by rw [hlen]; exact hdiv)
      have h3 : (((List.range len).map q).flatMap en)[i]? = (((((List.range len).map q).flatMap en).drop (i / sz * sz)).take sz)[i % sz]? := by
        rw [List.getElem?_take, if_pos hmod, List.getElem?_drop, hsum]
      rw [h3, h2] at hu
      simp at hu
      rw [← hu]
end
section
variable {P : Program} {W : World} {r : Reach} {b0 : Nat}
theorem block_cell {t : TypeId} {a : Addr} {len cap : Nat} (h : Cell.okWide P W r b0 t (.slice (some a) len cap)) : a.block < W.heap.size := by
  have h' : Cell.ok P W r b0 t (.slice (some a) len cap) := by
    unfold Cell.okWide at h
    split at h <;> first | exact h | (rename_i e; cases e)
  unfold Cell.ok at h'
  split at h' <;> first | exact h'.elim | skip
  all_goals first
    | (rename_i e; cases e; done)
    | (rename_i e _ _ _ _ he; cases he
       obtain ⟨_, _, _, _, row, cells, hs, _⟩ := h'
       unfold World.shape? at hs
       cases hb : W.heap[a.block]? with
       | none => rw [hb] at hs; cases hs
       | some o => exact (Array.getElem?_eq_some_iff.1 hb).1)
theorem block_agg {t : TypeId} {fs : Array Field} {cs : Array Value} (ht : P.underlying t = some (.struct fs)) (h : Value.okWide P W r b0 t (.agg cs)) {i : Nat} {a : Addr} {len cap : Nat} (hi : cs[i]? = some (.slice (some a) len cap)) : a.block < W.heap.size := by
  simp only [Value.okWide, ht] at h
  obtain ⟨cs', he, _, ts, _, _, hx⟩ := h
  cases he
  obtain ⟨u, _, hu⟩ := hx i _ hi
  exact block_cell hu
end
/-! ### at the end -/
open Go.RowKit
theorem below_of {W w' : World} (K : Kept (lowOf W) (fun _ => False) W w') : Below W.heap.size W { w' with tape := W.tape } := ⟨K.os, rfl, K.out, K.size, fun k hk => K.low k hk⟩
theorem kept_frame {W w' : World} (K : Kept (lowOf W) (fun _ => False) W w') (may : MemPlace → Prop) : W.keptBut w' may := by
  obtain ⟨a, b, c⟩ := (below_of K).frame may
  exact ⟨a, b, c⟩
theorem Trod_tape {H : Type} {enc : TypeId × Value → H} {P : Program} {w : World} {tp : Tape} {base : Nat} {spare : Nat → Bool} {held : Bool} {t : TypeId} {v : Value} {d : DataW H} {ps : List MemPlace} (h : DataW.Trod enc P { w with tape := tp } base spare held t v d ps) : DataW.Trod enc P w base spare held t v d ps :=
  DataW.Trod.of_heap (w := { w with tape := tp }) (w' := w) rfl h
end Go.Id
/- A code that comes in: bytes, read only. -/
namespace Go.Proofs.Ytambkogocbgbmaa.Id
open Go.Id Go.Conc Go.Proofs
open Go.ChangeShapes Go.WideShapes Go.ChangeAt Go.RowKit
set_option linter.unusedVariables false
def uF (x : Fin 256) : List Value := [.int .u8 (x.val : Nat)]
section
variable {H : Type} {enc : TypeId × Value → H} {W : World} {base : Nat} {spare : Nat → Bool} {held : Bool}
set_option maxRecDepth 100000
theorem dec_byte (n : Nat) (cs : List Value) (y : DataW H × List MemPlace) (h : DataW.trod enc Try.prog W base spare held n 5 cs = some y) : ∃ q : Fin 256, cs = uF q := by
  obtain ⟨q, e, _, hw⟩ := DataW.trod_int Try.underlying5 h
  have hw : 0 ≤ q ∧ q < 256 := by
    have e1 : IntKind.u8.min = 0 := by decide
    have e2 : IntKind.u8.max = 255 := by decide
    simp [Lit.wf, e1, e2] at hw
    omega
  refine ⟨⟨q.toNat, by omega⟩, ?_⟩
  rw [e]
  show [Value.int .u8 q] = [Value.int .u8 ((q.toNat : Nat) : Int)]
  rw [Int.toNat_of_nonneg hw.1]
theorem cells_byte : Try.prog.cellsOf 5 = 1 := by kernel_rfl
theorem in_bytes {b0 : Nat} {r : Reach} {v : Value} {d : DataW H} {p : List MemPlace} {s : Sim} {h : Hp} (I : InOk W s h) (hv : Value.okWide Try.prog W r b0 22 v) (ht : DataW.Trod enc Try.prog W base spare held 22 v d p) :
    ∃ (s' : Sim) (h' : Hp) (bs : List Nat) (a : Option Addr) (fl : Nat), InOk W s' h' ∧ s.le s' ∧ Ext h h' ∧ VR s' (.slice a bs.length fl) v ∧ Sls h' (fun x : Nat => [Value.int .u8 x]) 1 a bs ∧ bs.length ≤ Go.maxLen ∧ ∀ b ∈ bs, b < 256 := by
  have hv0 : Cell.okWide Try.prog W r b0 22 v := by
    unfold Value.okWide at hv
    rw [Try.underlying22] at hv
    exact hv
  obtain ⟨n, t0⟩ := ht
  have hcl : v.cells.toList = [v] := by
    cases v with
    | agg cs =>
      exfalso
      have h' : Cell.ok Try.prog W r b0 22 (.agg cs) := by
        unfold Cell.okWide at hv0
        split at hv0 <;> first | exact hv0 | (rename_i e; cases e)
      unfold Cell.ok at h'
      split at h' <;> first | exact h'.elim | (rename_i e; cases e) | (rename_i e _; cases e) | (rename_i e _ _; cases e) | (rename_i e _ _ _; cases e)
    | _ => rfl
  rw [hcl] at t0
  obtain ⟨A, cap, l, rfl, hl, hm, hn, hc⟩ := open_plain (en := uF) (sz := 1) Try.underlying22 cells_byte (by decide) (fun _ => rfl) dec_byte t0
  have hpl : ∀ v ∈ l.flatMap uF, plainV v = true ∧ v.oneCell' = true := by
    intro v hv
    obtain ⟨q, _, hq⟩ := List.mem_flatMap.1 hv
    simp only [uF, List.mem_cons, List.not_mem_nil, or_false] at hq
    subst hq; exact ⟨rfl, rfl⟩
  have hblk : ∀ a, A = some a → l = [] → ∃ b0, b0 < W.heap.size := by
    intro a ha hl0
    subst ha
    refine ⟨a.block, block_cell (P := Try.prog) (r := r) (b0 := b0) (t := 22) (len := l.length) (cap := cap) hv0⟩
  obtain ⟨s', h', A', fl, I', l1, e1, v1, s1⟩ := I.slice (enc := uF) (fun _ => rfl) (by decide) A cap hl (VRm.of_plain s hpl) hc hn hblk
  have hfm : ∀ l : List (Fin 256), (l.map fun x => x.val).flatMap (fun x : Nat => [Value.int .u8 x]) = l.flatMap uF := by
    intro l
    induction l with
    | nil => rfl
    | cons x l ih => simp only [List.map_cons, List.flatMap_cons, ih]; rfl
  refine ⟨s', h', l.map fun x => x.val, A', fl, I', l1, e1, by simpa using v1, ?_, by simpa using Nat.le_trans hl hm, fun b hb => ?_⟩
  · cases A' with
    | none =>
      have : l = [] := s1
      subst this; rfl
    | some a =>
      obtain ⟨q1, c, sz, q2, q3⟩ := s1
      exact ⟨q1, c, sz, q2, by rw [hfm, List.length_map]; exact q3⟩
  · obtain ⟨x, _, rfl⟩ := List.mem_map.1 hb
    exact x.isLt
end
end Go.Proofs.Ytambkogocbgbmaa.Id
/- The row of FnPicBack: for every code that comes in, the law returns true, and the code reads as it did. No condition. -/
namespace Go.Proofs.Ytambkogocbgbmaa.fnPicBack
open Go.ChangeShapes Go.WideShapes Go.ChangeAt Go.RowKit Go.Id Go.Conc Go.Proofs.Ytambkogocbgbmaa.Id
set_option linter.unusedVariables false
theorem own : ownKnob Try.prog.godebug = none := by kernel_rfl
theorem laidOut : laidOutB Try.prog = true := by kernel_rfl
set_option maxRecDepth 100000 in
theorem lifted (os : Os) (started : os.Started) (H : Type) (enc : TypeId × Value → H) :
    ReturnsInLeavingWide {} Try.checked os 6 .any (Rows.fnPicBackSpec.pre6 enc Try.prog Try.f6 Rows.fnPicBackRow.domain false) (Rows.fnPicBackSpec.post enc Try.prog Try.f6 false true false false) := by
  refine returnsInLeavingWide_of_change_sized (C := Try.checked) own started Try.func6
    (ChangeSpec.witness6 (enc := enc) (C := Try.checked) false ⟨#[], #[.slice none 0 0], []⟩ 8 (by kernel_rfl) (by kernel_rfl) (by kernel_rfl) (by kernel_rfl)) ?_
  intro W base args ds gs before hval0 hW hcnd hsz0 _
  have hval : ∀ (j : Nat) t v, Try.f6.params[j]? = some t → args[j]? = some v → Value.okWide Try.prog W .any base t v := hval0
  have hW' := hW
  obtain ⟨p, q, hA0, hV, rfl, hfz, hnd⟩ := hW
  have hA : DataW.TrodAll enc Try.prog W 0 (fun _ => true) true Try.f6.params.toList args.toList ds p := hA0
  rw [Try.params6] at hA hval
  obtain ⟨v0, vs0, d0, ds0, p0, q0, hargs, rfl, rfl, h0, r0⟩ := trodAll_cons hA
  obtain ⟨rfl, rfl, rfl⟩ := trodAll_nil r0
  obtain rfl : args = #[v0] := by cases args; simp_all
  obtain ⟨rfl, rfl⟩ := trodVars_none hV
  have k0 := h0
  have lt0 : ∀ x ∈ p0, x.block < W.heap.size := by obtain ⟨m, hm⟩ := k0; exact DataW.trod_lt m _ _ _ hm
  obtain ⟨s, h, bs, a, fl, I, _, _, V, S, hn, hb⟩ := in_bytes (InOk.nil W) (hval 0 22 v0 rfl rfl) h0
  clear hA0 hval0 hsz0
  obtain ⟨M, last, o, w', t', g1, g2, g3, g4⟩ := main_run (lo := h.n) (Post := fun v _ => v = .bool true) (argsr := #[v0]) (args := [.slice a bs.length fl]) Try.func6 rfl (Nat.le_of_ble_eq_true rfl) (by kernel_rfl) I (VRs.cons V (VRs.nil s)) (picBack_R bs a fl h S hb (Nat.le_trans hn (by unfold Go.maxLen; exact Nat.le_refl _)) (Nat.le_refl _))
  refine ⟨M, last, o, w', t', g1, g2, g3, g4.mono fun vr ht => ?_⟩
  obtain ⟨v, h', s', O', rfl, _, _, hv, K⟩ := ht
  obtain rfl : vr = .bool true := VR.bool_inv hv
  have bel := below_of K
  exact ⟨_, _, _, [], _, [], hW', trodAll_mk1 (shut_bool Try.underlying4 _), trodAll_cons_mk (Trod_tape (Below.trod laidOut (by kernel_rfl) (of_decide_eq_true (by kernel_rfl)) k0 bel lt0)) trodAll_mk0, rfl, kept_frame K _, fun h => by cases h⟩
theorem over : Rows.fnPicBackRow.holds Try.pinned (OpenSpec.ofChange Rows.fnPicBackSpec) :=
  OpenClaim.holds_of_wide_leaving 6 Try.f6 rfl rfl rfl rfl rfl rfl rfl ⟨rfl, rfl, rfl, rfl, rfl⟩ rfl rfl rfl rfl rfl (by kernel_rfl) Try.func6 (by kernel_rfl)
    (of_decide_eq_true (by kernel_rfl)) (by unfold Func.isWrapper; first | (rw [if_pos (by decide +kernel)]; kernel_rfl) | (rw [if_neg (by decide +kernel)]; exact ⟨rfl, rfl⟩))
    (fun os started H enc _ => lifted os started H enc)
theorem proved : Rows.FnPicBackSaid := over
#print axioms proved
end Go.Proofs.Ytambkogocbgbmaa.fnPicBack
namespace Go.Proofs.Ytambkogocbgbmaa
/-- The row, under a short name, for the claim. -/
theorem fnPicBack_holds : Rows.FnPicBackSaid := fnPicBack.proved
end Go.Proofs.Ytambkogocbgbmaa
