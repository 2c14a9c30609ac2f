/- For every input the law returns true, and what came in reads as it did (the row of Rk). No condition. Texts of this claim, joined: Kc, Kd, IdIn, In, Rk. -/
import Derived.Test.YtambkogocbgbmaaGreatM4
import Derived.Deep.Slices
import Derived.Below
import Derived.ChangeFn
import Derived.ChangeOld
import Derived.WalkKit
import Derived.ProofKit
import Derived.OpenShut
import Derived.Test.YtambkogocbgbmaaGreatRows
import Derived.Conc.LeavingOf
import Derived.ShutString
import Derived.SizedLaws
import Derived.Lib.SmallJoins
/- Contracts over the ideal memory: grids turned, grids in a mirror, and where a sight is then. -/
namespace Go.Proofs.YtambkogocbgbmaaGreat.Id
open Go.Id
open Go.Proofs
set_option linter.unusedVariables false
set_option maxRecDepth 100000
variable {X : Ctx Tryz.prog} {lo : Nat}
/-- The first i are laid. -/
def fillI (F : Nat → Cl) (n i : Nat) : List Cl := (List.range n).map fun j => if j < i then F j else (0, 0)
theorem fillI_len (F : Nat → Cl) (n i : Nat) : (fillI F n i).length = n := by simp [fillI]
theorem fillI_zero (F : Nat → Cl) (n : Nat) : fillI F n 0 = List.replicate n (0, 0) := by
  apply List.ext_getElem (by simp [fillI])
  intro i h1 h2
  simp [fillI]
theorem fillI_all (F : Nat → Cl) (n : Nat) : fillI F n n = (List.range n).map F := by
  apply List.ext_getElem (by simp [fillI])
  intro i h1 h2
  have : i < n := by simpa [fillI] using h1
  simp [fillI, this]
theorem fillI_set (F : Nat → Cl) {n i : Nat} (hi : i < n) : (fillI F n i).set i (F i) = fillI F n (i + 1) := by
  apply List.ext_getElem (by simp [fillI])
  intro j h1 h2
  rw [List.getElem_set]
  by_cases c : i = j
  · subst c; simp [fillI]
  · simp only [fillI, if_neg c, List.getElem_map, List.getElem_range]
    by_cases c2 : j < i
    · rw [if_pos c2, if_pos (by omega)]
    · rw [if_neg c2, if_neg (by omega)]
theorem turn1_ok (g : Gd) (ad : Option Addr) (fl p q : Nat) (r c : Int) (h : Hp) (hp : Bx h p [.int .i64 g.hi]) (hq : Bx h q [.int .i64 g.w, .slice ad g.cs.length fl]) (hg : gOk g = true) (hr : 0 ≤ r ∧ r < g.w) (hc : 0 ≤ c ∧ c < g.hi) : Tri X lo 45 [.int .i64 r, .int .i64 c, .pointer (some ⟨p, 0, none⟩), .pointer (some ⟨q, 0, none⟩)] h fun v h' => v = .int .i64 (turnFrom g r c) ∧ Ext h h' := by
  refine enter tbOk mtOk ⟨[], []⟩ 400 Tryz.func45 rfl rfl rfl fun hlo => ?_
  refine ⟨_, hp.ld rfl, ?_⟩
  refine ⟨_, hq.ldF (i := 0) rfl, ?_⟩
  refine And.intro ?_ (Ext.refl _)
  obtain ⟨h1, h2, h3⟩ := hi_ok hg
  obtain ⟨g1, g2, _⟩ := gOk_iff.1 hg
  have m1 : 0 ≤ (g.hi - 1 - c) * g.w := Int.mul_nonneg (by omega) (by omega)
  have m2 : (g.hi - 1 - c) * g.w ≤ 5 * 5 := Int.mul_le_mul (by omega) g2 (by omega) (by decide)
  show Value.int .i64 (IntKind.i64.wrap (IntKind.i64.wrap (IntKind.i64.wrap (IntKind.i64.wrap (g.hi - 1) - c) * g.w) + r)) = _
  rw [wr (n := g.hi - 1) (by omega) (by omega), wr (n := g.hi - 1 - c) (by omega) (by omega), wr (n := (g.hi - 1 - c) * g.w) (by omega) (by omega), wr (by omega) (by omega)]; rfl
theorem flip1_ok (g : Gd) (ad : Option Addr) (fl q : Nat) (r c : Int) (h : Hp) (hq : Bx h q [.int .i64 g.w, .slice ad g.cs.length fl]) (hg : gOk g = true) (hr : 0 ≤ r ∧ r < g.hi) (hc : 0 ≤ c ∧ c < g.w) : Tri X lo 46 [.int .i64 r, .int .i64 c, .pointer (some ⟨q, 0, none⟩)] h fun v h' => v = .int .i64 (flipFrom g r c) ∧ Ext h h' := by
  refine enter tbOk mtOk ⟨[], []⟩ 400 Tryz.func46 rfl rfl rfl fun hlo => ?_
  refine ⟨_, hq.ldF (i := 0) rfl, ?_⟩
  refine ⟨_, hq.ldF (i := 0) rfl, ?_⟩
  refine And.intro ?_ (Ext.refl _)
  obtain ⟨h1, h2, h3⟩ := hi_ok hg
  obtain ⟨g1, g2, _⟩ := gOk_iff.1 hg
  have m1 : 0 ≤ r * g.w := Int.mul_nonneg (by omega) (by omega)
  have m2 : r * g.w ≤ 5 * 5 := Int.mul_le_mul (by omega) g2 (by omega) (by decide)
  show Value.int .i64 (IntKind.i64.wrap (IntKind.i64.wrap (IntKind.i64.wrap (IntKind.i64.wrap (r * g.w) + g.w) - 1) - c)) = _
  rw [wr (n := r * g.w) (by omega) (by omega), wr (n := r * g.w + g.w) (by omega) (by omega), wr (n := r * g.w + g.w - 1) (by omega) (by omega), wr (by omega) (by omega)]; rfl
theorem gridMovedT_ok (g : Gd) (ad : Option Addr) (fl p q : Nat) (h : Hp) (hs : Sls h cE 2 ad g.cs) (hp : Bx h p [.int .i64 g.hi]) (hq : Bx h q [.int .i64 g.w, .slice ad g.cs.length fl]) (hg : gOk g = true) : Tri X lo 44 [.agg #[.int .i64 g.w, .slice ad g.cs.length fl], .int .i64 g.hi, .func (.func 45) #[] #[.pointer (some ⟨p, 0, none⟩), .pointer (some ⟨q, 0, none⟩)]] h fun v h' => (∃ b, v = .agg #[.int .i64 g.hi, .slice (some ⟨b, 0, some 0⟩) g.cs.length 1] ∧ h.n ≤ b ∧ Row h' b 0 cE 2 (turnG g).cs) ∧ Ext h h' := by
  refine enter tbOk mtOk ⟨[], [(5, [0, 1, 2, 3, 4, 5, 6, 7, 8, 9, 10, 11, 12, 13, 14, 15, 16, 17], [0, 1, 0, 0, 0, 24, 0, 0, 192, 508, 1023, 2047, 4095, 8191, 16383, 16383, 32767, 131071]), (7, [0, 1, 2, 3, 4, 5, 6], [0, 1, 0, 0, 8, 31, 63])]⟩ 400 Tryz.func44 rfl rfl rfl fun hlo => ?_
  obtain ⟨x1, x2, x3⟩ := hi_ok hg
  obtain ⟨g1, g2, g3, g4, g5, g6⟩ := gOk_iff.1 hg
  have hn : (g.cs.length : Int) < 2 ^ 31 := by omega
  obtain ⟨F, hF⟩ : ∃ F : Nat → Cl, F = fun (i : Nat) => swpC (cAt g (turnFrom g ((i : Int) / g.hi) ((i : Int) % g.hi))) := ⟨_, rfl⟩
  have hT : (turnG g).cs = (List.range g.cs.length).map F := by rw [hF]; rfl
  refine And.intro ⟨by omega, by omega, by unfold Id.maxLen; omega⟩ ?_
  have e0 : Ext h (h.push (.cells (zeros [.int .i64 0, .int .i64 0] g.cs.length) 2 0)) := Ext.push _ _
  have r0 : Row (h.push (.cells (zeros [.int .i64 0, .int .i64 0] g.cs.length) 2 0)) h.n 0 cE 2 (fillI F g.cs.length 0) := by
    rw [fillI_zero, zeros_flat (enc := cE) (z := [.int .i64 0, .int .i64 0]) (x := ((0, 0) : Cl)) rfl g.cs.length]; exact Row.push
  refine loop (σ := Nat) tbOk mtOk ⟨[], [(5, [0, 1, 2, 3, 4, 5, 6, 7, 8, 9, 10, 11, 12, 13, 14, 15, 16, 17], [0, 1, 0, 0, 0, 24, 0, 0, 192, 508, 1023, 2047, 4095, 8191, 16383, 16383, 32767, 131071]), (7, [0, 1, 2, 3, 4, 5, 6], [0, 1, 0, 0, 8, 31, 63])]⟩ (fun i => [(20, .v (.int .i64 (i : Int))), (19, .v (.int .i64 (g.cs.length : Int))), (7, .l 2 0), (6, .l 1 0), (3, .l 0 0), (2, .v (.func (.func 45) #[] #[.pointer (some ⟨p, 0, none⟩), .pointer (some ⟨q, 0, none⟩)])), (1, .v (.int .i64 g.hi))]) (fun _ => [[.int .i64 g.w, .slice ad g.cs.length fl], [.int .i64 0, .slice none 0 0], [.int .i64 g.hi, .slice (some ⟨h.n, 0, some 0⟩) g.cs.length 1]]) (fun i h' => i ≤ g.cs.length ∧ Ext h h' ∧ Row h' h.n 0 cE 2 (fillI F g.cs.length i)) (fun i => g.cs.length - i) 400 0 (fun _ => rfl) ⟨rfl, rfl, rfl, rfl, rfl, rfl, rfl, trivial⟩ ⟨rfl, rfl, rfl, trivial⟩ ⟨Nat.zero_le _, e0, r0⟩ (fun i h1 hI again => ?_)
  obtain ⟨i1, i2, i3⟩ := hI
  refine cnd (fun c1 => ?_) (fun c1 => ?_)
  · have c1 : i < g.cs.length := by simpa using c1
    have q1 : (i : Int).tdiv g.hi = (i : Int) / g.hi := Int.tdiv_eq_ediv_of_nonneg (by omega)
    have q2 : (i : Int).tmod g.hi = (i : Int) % g.hi := Int.tmod_eq_emod_of_nonneg (by omega)
    have b0 := Int.emod_nonneg (i : Int) (show g.hi ≠ 0 by omega)
    have b1 := Int.emod_lt_of_pos (i : Int) (show 0 < g.hi by omega)
    have b2 : 0 ≤ (i : Int) / g.hi := Int.ediv_nonneg (by omega) (by omega)
    have b3 : (i : Int) / g.hi < g.w := Int.ediv_lt_of_lt_mul (by omega) (by rw [x3]; omega)
    have iw1 : IntKind.i64.wrap ((i : Int).tdiv g.hi) = (i : Int) / g.hi := by rw [q1, wr (by omega) (by omega)]
    have iw2 : IntKind.i64.wrap ((i : Int).tmod g.hi) = (i : Int) % g.hi := by rw [q2, wr (by omega) (by omega)]
    obtain ⟨f0, f1⟩ := turnFrom_in hg (i := (i : Int)) ⟨by omega, by omega⟩
    have ct : ∀ h2, Ext h h2 → Tri X lo 45 [.int .i64 (IntKind.i64.wrap ((i : Int).tdiv g.hi)), .int .i64 ((i : Int).tmod g.hi), .pointer (some ⟨p, 0, none⟩), .pointer (some ⟨q, 0, none⟩)] h2 fun v h' => v = .int .i64 (turnFrom g ((i : Int) / g.hi) ((i : Int) % g.hi)) ∧ Ext h2 h' := fun h2 x => by
      rw [iw1, q2]; exact turn1_ok g ad fl p q _ _ h2 (hp.ext x) (hq.ext x) hg ⟨b2, b3⟩ ⟨b0, b1⟩
    have hFi : F i = swpC (cAt g (turnFrom g ((i : Int) / g.hi) ((i : Int) % g.hi))) := by rw [hF]
    generalize turnFrom g ((i : Int) / g.hi) ((i : Int) % g.hi) = m at *
    have hm : m.toNat < g.cs.length := by omega
    obtain ⟨ad, rfl⟩ := hs.some hm
    have hcat : cAt g m = g.cs[m.toNat] := by unfold cAt; rw [List.getElem?_eq_getElem hm]; rfl
    rw [hcat] at hFi
    have hok := g6 _ (List.getElem_mem hm)
    have hld := fun {h' : Hp} (x : Ext h h') => (hs.ext x).ld cE2 hm
    generalize g.cs[m.toNat] = c at *
    refine And.intro (by kernel_rfl) ?_
    refine And.intro (by omega) ?_
    refine And.intro (by omega) ?_
    refine callP (ct h1 i2) ?_
    rintro v h2 ⟨rfl, e2⟩
    repeat refine And.intro Is.r ?_
    refine And.intro ⟨f0, f1⟩ ?_
    refine ⟨_, hld (i2.trans e2), ?_⟩
    have cv : Tri X lo 85 [.agg #[.int .i64 c.1, .int .i64 c.2]] h2 _ := cellTyped_v c.1 c.2 hok h2
    have cw := fun (h' : Hp) => cellSwapped_ok (X := X) (lo := lo) c hok h'
    generalize tyV c.1 c.2 = tv at cv cw
    refine callP cv ?_
    rintro v h3 ⟨rfl, e3⟩
    refine cndT ?_
    refine And.intro (by kernel_rfl) ?_
    refine callP (cw h3) ?_
    rintro v h4 ⟨rfl, e4⟩
    repeat refine And.intro Is.r ?_
    refine And.intro ⟨by omega, by omega⟩ ?_
    have e14 := (e2.trans e3).trans e4
    have r4 := i3.ext e14
    have hil : i < (fillI F g.cs.length i).length := by rw [fillI_len]; exact c1
    have hs4 := r4.st (lo := lo) cE2 hlo hil (swpC c)
    rw [← hFi, fillI_set F c1] at hs4
    rw [hFi] at hs4
    refine ⟨_, hs4, ?_⟩
    have r5 : Row (h4.set h.n (.cells ((fillI F g.cs.length (i + 1)).flatMap cE) 2 0)) h.n 0 cE 2 (fillI F g.cs.length (i + 1)) := Row.set r4.lt
    have e5 := (i2.trans e14).set (Nat.le_refl _) (.cells ((fillI F g.cs.length (i + 1)).flatMap cE) 2 0)
    generalize h4.set h.n (.cells ((fillI F g.cs.length (i + 1)).flatMap cE) 2 0) = h5 at *
    refine again (i + 1) _ _ _ (by omega) ⟨?_, rfl, rfl, rfl, rfl, rfl, rfl, trivial⟩ ⟨rfl, rfl, rfl, trivial⟩ ⟨by omega, e5, r5⟩
    show some (Sl.v (.int .i64 (IntKind.i64.wrap ((i : Int) + 1)))) = _
    rw [wr (by omega) (by omega)]; rfl
  · refine And.intro ⟨h.n, rfl, Nat.le_refl _, ?_⟩ i2
    have c1 : i = g.cs.length := by simp at c1; omega
    rw [hT, ← fillI_all, ← c1]; rw [← c1] at i3; exact i3
theorem gridMovedF_ok (g : Gd) (ad : Option Addr) (fl p q : Nat) (h : Hp) (hs : Sls h cE 2 ad g.cs) (hq : Bx h q [.int .i64 g.w, .slice ad g.cs.length fl]) (hg : gOk g = true) : Tri X lo 44 [.agg #[.int .i64 g.w, .slice ad g.cs.length fl], .int .i64 g.w, .func (.func 46) #[] #[.pointer (some ⟨q, 0, none⟩)]] h fun v h' => (∃ b, v = .agg #[.int .i64 g.w, .slice (some ⟨b, 0, some 0⟩) g.cs.length 1] ∧ h.n ≤ b ∧ Row h' b 0 cE 2 (flipG g).cs) ∧ Ext h h' := by
  refine enter tbOk mtOk ⟨[], [(5, [0, 1, 2, 3, 4, 5, 6, 7, 8, 9, 10, 11, 12, 13, 14, 15, 16, 17], [0, 1, 0, 0, 0, 24, 0, 0, 192, 508, 1023, 2047, 4095, 8191, 16383, 16383, 32767, 131071]), (7, [0, 1, 2, 3, 4, 5, 6], [0, 1, 0, 0, 8, 31, 63])]⟩ 400 Tryz.func44 rfl rfl rfl fun hlo => ?_
  obtain ⟨x1, x2, x3⟩ := hi_ok hg
  obtain ⟨g1, g2, g3, g4, g5, g6⟩ := gOk_iff.1 hg
  have hn : (g.cs.length : Int) < 2 ^ 31 := by omega
  obtain ⟨F, hF⟩ : ∃ F : Nat → Cl, F = fun (i : Nat) => swpC (cAt g (flipFrom g ((i : Int) / g.w) ((i : Int) % g.w))) := ⟨_, rfl⟩
  have hT : (flipG g).cs = (List.range g.cs.length).map F := by rw [hF]; rfl
  refine And.intro ⟨by omega, by omega, by unfold Id.maxLen; omega⟩ ?_
  have e0 : Ext h (h.push (.cells (zeros [.int .i64 0, .int .i64 0] g.cs.length) 2 0)) := Ext.push _ _
  have r0 : Row (h.push (.cells (zeros [.int .i64 0, .int .i64 0] g.cs.length) 2 0)) h.n 0 cE 2 (fillI F g.cs.length 0) := by
    rw [fillI_zero, zeros_flat (enc := cE) (z := [.int .i64 0, .int .i64 0]) (x := ((0, 0) : Cl)) rfl g.cs.length]; exact Row.push
  refine loop (σ := Nat) tbOk mtOk ⟨[], [(5, [0, 1, 2, 3, 4, 5, 6, 7, 8, 9, 10, 11, 12, 13, 14, 15, 16, 17], [0, 1, 0, 0, 0, 24, 0, 0, 192, 508, 1023, 2047, 4095, 8191, 16383, 16383, 32767, 131071]), (7, [0, 1, 2, 3, 4, 5, 6], [0, 1, 0, 0, 8, 31, 63])]⟩ (fun i => [(20, .v (.int .i64 (i : Int))), (19, .v (.int .i64 (g.cs.length : Int))), (7, .l 2 0), (6, .l 1 0), (3, .l 0 0), (2, .v (.func (.func 46) #[] #[.pointer (some ⟨q, 0, none⟩)])), (1, .v (.int .i64 g.w))]) (fun _ => [[.int .i64 g.w, .slice ad g.cs.length fl], [.int .i64 0, .slice none 0 0], [.int .i64 g.w, .slice (some ⟨h.n, 0, some 0⟩) g.cs.length 1]]) (fun i h' => i ≤ g.cs.length ∧ Ext h h' ∧ Row h' h.n 0 cE 2 (fillI F g.cs.length i)) (fun i => g.cs.length - i) 400 0 (fun _ => rfl) ⟨rfl, rfl, rfl, rfl, rfl, rfl, rfl, trivial⟩ ⟨rfl, rfl, rfl, trivial⟩ ⟨Nat.zero_le _, e0, r0⟩ (fun i h1 hI again => ?_)
  obtain ⟨i1, i2, i3⟩ := hI
  refine cnd (fun c1 => ?_) (fun c1 => ?_)
  · have c1 : i < g.cs.length := by simpa using c1
    have q1 : (i : Int).tdiv g.w = (i : Int) / g.w := Int.tdiv_eq_ediv_of_nonneg (by omega)
    have q2 : (i : Int).tmod g.w = (i : Int) % g.w := Int.tmod_eq_emod_of_nonneg (by omega)
    have b0 := Int.emod_nonneg (i : Int) (show g.w ≠ 0 by omega)
    have b1 := Int.emod_lt_of_pos (i : Int) (show 0 < g.w by omega)
    have b2 : 0 ≤ (i : Int) / g.w := Int.ediv_nonneg (by omega) (by omega)
    have b3 : (i : Int) / g.w < g.hi := Int.ediv_lt_of_lt_mul (by omega) (by rw [Int.mul_comm, x3]; omega)
    have iw1 : IntKind.i64.wrap ((i : Int).tdiv g.w) = (i : Int) / g.w := by rw [q1, wr (by omega) (by omega)]
    have iw2 : IntKind.i64.wrap ((i : Int).tmod g.w) = (i : Int) % g.w := by rw [q2, wr (by omega) (by omega)]
    obtain ⟨f0, f1⟩ := flipFrom_in hg (i := (i : Int)) ⟨by omega, by omega⟩
    have ct : ∀ h2, Ext h h2 → Tri X lo 46 [.int .i64 (IntKind.i64.wrap ((i : Int).tdiv g.w)), .int .i64 ((i : Int).tmod g.w), .pointer (some ⟨q, 0, none⟩)] h2 fun v h' => v = .int .i64 (flipFrom g ((i : Int) / g.w) ((i : Int) % g.w)) ∧ Ext h2 h' := fun h2 x => by
      rw [iw1, q2]; exact flip1_ok g ad fl q _ _ h2 (hq.ext x) hg ⟨b2, b3⟩ ⟨b0, b1⟩
    have hFi : F i = swpC (cAt g (flipFrom g ((i : Int) / g.w) ((i : Int) % g.w))) := by rw [hF]
    generalize flipFrom g ((i : Int) / g.w) ((i : Int) % g.w) = m at *
    have hm : m.toNat < g.cs.length := by omega
    obtain ⟨ad, rfl⟩ := hs.some hm
    have hcat : cAt g m = g.cs[m.toNat] := by unfold cAt; rw [List.getElem?_eq_getElem hm]; rfl
    rw [hcat] at hFi
    have hok := g6 _ (List.getElem_mem hm)
    have hld := fun {h' : Hp} (x : Ext h h') => (hs.ext x).ld cE2 hm
    generalize g.cs[m.toNat] = c at *
    refine And.intro (by kernel_rfl) ?_
    refine And.intro (by omega) ?_
    refine And.intro (by omega) ?_
    refine callP (ct h1 i2) ?_
    rintro v h2 ⟨rfl, e2⟩
    repeat refine And.intro Is.r ?_
    refine And.intro ⟨f0, f1⟩ ?_
    refine ⟨_, hld (i2.trans e2), ?_⟩
    have cv : Tri X lo 85 [.agg #[.int .i64 c.1, .int .i64 c.2]] h2 _ := cellTyped_v c.1 c.2 hok h2
    have cw := fun (h' : Hp) => cellSwapped_ok (X := X) (lo := lo) c hok h'
    generalize tyV c.1 c.2 = tv at cv cw
    refine callP cv ?_
    rintro v h3 ⟨rfl, e3⟩
    refine cndT ?_
    refine And.intro (by kernel_rfl) ?_
    refine callP (cw h3) ?_
    rintro v h4 ⟨rfl, e4⟩
    repeat refine And.intro Is.r ?_
    refine And.intro ⟨by omega, by omega⟩ ?_
    have e14 := (e2.trans e3).trans e4
    have r4 := i3.ext e14
    have hil : i < (fillI F g.cs.length i).length := by rw [fillI_len]; exact c1
    have hs4 := r4.st (lo := lo) cE2 hlo hil (swpC c)
    rw [← hFi, fillI_set F c1] at hs4
    rw [hFi] at hs4
    refine ⟨_, hs4, ?_⟩
    have r5 : Row (h4.set h.n (.cells ((fillI F g.cs.length (i + 1)).flatMap cE) 2 0)) h.n 0 cE 2 (fillI F g.cs.length (i + 1)) := Row.set r4.lt
    have e5 := (i2.trans e14).set (Nat.le_refl _) (.cells ((fillI F g.cs.length (i + 1)).flatMap cE) 2 0)
    generalize h4.set h.n (.cells ((fillI F g.cs.length (i + 1)).flatMap cE) 2 0) = h5 at *
    refine again (i + 1) _ _ _ (by omega) ⟨?_, rfl, rfl, rfl, rfl, rfl, rfl, trivial⟩ ⟨rfl, rfl, rfl, trivial⟩ ⟨by omega, e5, r5⟩
    show some (Sl.v (.int .i64 (IntKind.i64.wrap ((i : Int) + 1)))) = _
    rw [wr (by omega) (by omega)]; rfl
  · refine And.intro ⟨h.n, rfl, Nat.le_refl _, ?_⟩ i2
    have c1 : i = g.cs.length := by simp at c1; omega
    rw [hT, ← fillI_all, ← c1]; rw [← c1] at i3; exact i3
/-- What it makes of a grid. -/
noncomputable def turnG' (g : Gd) : Gd := if gOk g then turnG g else ⟨0, []⟩
theorem GridTurn_ok (g : Gd) (ad : Option Addr) (fl : Nat) (h : Hp) (hs : Sls h cE 2 ad g.cs) (hn : (g.cs.length : Int) < 2 ^ 31) : Tri X lo 12 [.agg #[.int .i64 g.w, .slice ad g.cs.length fl]] h fun v h' => (∃ a f, v = .agg #[.int .i64 (turnG' g).w, .slice a (turnG' g).cs.length f] ∧ Sls h' cE 2 a (turnG' g).cs ∧ ∀ x, a = some x → h.n ≤ x.block) ∧ Ext h h' := by
  refine enter tbOk mtOk ⟨[1,3], []⟩ 400 Tryz.func12 rfl rfl rfl fun hlo => ?_
  have e0 : Ext h (h.push (.cells [.int .i64 g.w, .slice ad g.cs.length fl] 0 0)) := Ext.push _ _
  have b0 : Bx (h.push (.cells [.int .i64 g.w, .slice ad g.cs.length fl] 0 0)) h.n [.int .i64 g.w, .slice ad g.cs.length fl] := Bx.push
  refine ⟨_, b0.ld rfl, ?_⟩
  have n0 : (h.push (.cells [.int .i64 g.w, .slice ad g.cs.length fl] 0 0)).n = h.n + 1 := rfl
  refine callP (GridOk_ok g.w ad fl g.cs (h.push (.cells [.int .i64 g.w, .slice ad g.cs.length fl] 0 0)) (hs.ext e0) hn) ?_
  generalize h.push (.cells [.int .i64 g.w, .slice ad g.cs.length fl] 0 0) = h0 at *
  rintro v h1 ⟨rfl, e1⟩
  refine cnd (fun c1 => ?_) (fun c1 => ?_)
  · have hg : gOk g = false := by simpa using c1
    have ht : turnG' g = ⟨0, []⟩ := by unfold turnG'; rw [hg]; rfl
    rw [ht]
    exact ⟨⟨none, 0, rfl, rfl, fun x hx => by cases hx⟩, e0.trans e1⟩
  have hg : gOk g = true := by simpa using c1
  have ht : turnG' g = turnG g := by unfold turnG'; rw [if_pos hg]
  have hl : (turnG g).cs.length = g.cs.length := movedG_len _ _ _
  obtain ⟨x1, x2, x3⟩ := hi_ok hg
  obtain ⟨g1, g2, g3, g4, g5, g6⟩ := gOk_iff.1 hg
  have b1 := b0.ext e1
  have n1 := e1.n
  refine ⟨_, b1.ld rfl, ?_⟩
  refine callP (gridRows_ok g.w ad g.cs.length fl h1 g1 hn) ?_
  rintro v h2 ⟨rfl, e2⟩
  have b2 := b1.ext e2
  have n2 := e2.n
  have e3 : Ext h2 (h2.push (.cells [.int .i64 0] 0 0)) := Ext.push _ _
  have b3 : Bx (h2.push (.cells [.int .i64 0] 0 0)) h2.n [.int .i64 0] := Bx.push
  refine ⟨_, b3.st (lo := lo) (by omega) (xs := [.int .i64 g.hi]) rfl, ?_⟩
  have b4 : Bx ((h2.push (.cells [.int .i64 0] 0 0)).set h2.n (.cells [.int .i64 g.hi] 0 0)) h2.n [.int .i64 g.hi] := Bx.set b3
  have e4 : Ext h2 ((h2.push (.cells [.int .i64 0] 0 0)).set h2.n (.cells [.int .i64 g.hi] 0 0)) := e3.set (Nat.le_refl _) _
  generalize (h2.push (.cells [.int .i64 0] 0 0)).set h2.n (.cells [.int .i64 g.hi] 0 0) = h4 at *
  have b5 := b2.ext e4
  have n4 := e4.n
  refine ⟨_, b5.ld rfl, ?_⟩
  refine ⟨_, b4.ld rfl, ?_⟩
  have e04 := ((e0.trans e1).trans e2).trans e4
  refine callP (gridMovedT_ok g ad fl h2.n h.n h4 (hs.ext e04) b4 b5 hg) ?_
  rintro v h5 ⟨⟨b, rfl, w1, w2⟩, e5⟩
  refine And.intro ⟨some ⟨b, 0, some 0⟩, 1, ?_, ?_, ?_⟩ (e04.trans e5)
  · rw [ht, hl]; rfl
  · rw [ht]; exact w2.sls cE2
  · intro x hx; cases hx; show h.n ≤ b; omega
/-- What it makes of a grid. -/
noncomputable def flipG' (g : Gd) : Gd := if gOk g then flipG g else ⟨0, []⟩
theorem GridFlip_ok (g : Gd) (ad : Option Addr) (fl : Nat) (h : Hp) (hs : Sls h cE 2 ad g.cs) (hn : (g.cs.length : Int) < 2 ^ 31) : Tri X lo 13 [.agg #[.int .i64 g.w, .slice ad g.cs.length fl]] h fun v h' => (∃ a f, v = .agg #[.int .i64 (flipG' g).w, .slice a (flipG' g).cs.length f] ∧ Sls h' cE 2 a (flipG' g).cs ∧ ∀ x, a = some x → h.n ≤ x.block) ∧ Ext h h' := by
  refine enter tbOk mtOk ⟨[1], []⟩ 400 Tryz.func13 rfl rfl rfl fun hlo => ?_
  have e0 : Ext h (h.push (.cells [.int .i64 g.w, .slice ad g.cs.length fl] 0 0)) := Ext.push _ _
  have b0 : Bx (h.push (.cells [.int .i64 g.w, .slice ad g.cs.length fl] 0 0)) h.n [.int .i64 g.w, .slice ad g.cs.length fl] := Bx.push
  refine ⟨_, b0.ld rfl, ?_⟩
  have n0 : (h.push (.cells [.int .i64 g.w, .slice ad g.cs.length fl] 0 0)).n = h.n + 1 := rfl
  refine callP (GridOk_ok g.w ad fl g.cs (h.push (.cells [.int .i64 g.w, .slice ad g.cs.length fl] 0 0)) (hs.ext e0) hn) ?_
  generalize h.push (.cells [.int .i64 g.w, .slice ad g.cs.length fl] 0 0) = h0 at *
  rintro v h1 ⟨rfl, e1⟩
  refine cnd (fun c1 => ?_) (fun c1 => ?_)
  · have hg : gOk g = false := by simpa using c1
    have ht : flipG' g = ⟨0, []⟩ := by unfold flipG'; rw [hg]; rfl
    rw [ht]
    exact ⟨⟨none, 0, rfl, rfl, fun x hx => by cases hx⟩, e0.trans e1⟩
  have hg : gOk g = true := by simpa using c1
  have ht : flipG' g = flipG g := by unfold flipG'; rw [if_pos hg]
  have hl : (flipG g).cs.length = g.cs.length := movedG_len _ _ _
  obtain ⟨x1, x2, x3⟩ := hi_ok hg
  obtain ⟨g1, g2, g3, g4, g5, g6⟩ := gOk_iff.1 hg
  have b1 := b0.ext e1
  have n1 := e1.n
  refine ⟨_, b1.ld rfl, ?_⟩
  refine ⟨_, b1.ldF (i := 0) rfl, ?_⟩
  have e01 := e0.trans e1
  refine callP (gridMovedF_ok g ad fl h.n h.n h1 (hs.ext e01) b1 hg) ?_
  rintro v h5 ⟨⟨b, rfl, w1, w2⟩, e5⟩
  refine And.intro ⟨some ⟨b, 0, some 0⟩, 1, ?_, ?_, ?_⟩ (e01.trans e5)
  · rw [ht, hl]; rfl
  · rw [ht]; exact w2.sls cE2
  · intro x hx; cases hx; show h.n ≤ b; omega
theorem SightTurn_ok (g : Gd) (k : Int) (ad : Option Addr) (fl : Nat) (h : Hp) (hs : Sls h cE 2 ad g.cs) (hg : gOk g = true) (hk : 0 ≤ k ∧ k < many g) : Tri X lo 14 [.agg #[.int .i64 g.w, .slice ad g.cs.length fl], .int .i64 k] h fun v h' => v = .int .i64 (Tr.siT g.w g.hi k) ∧ Ext h h' := by
  refine enter tbOk mtOk ⟨[], []⟩ 400 Tryz.func14 rfl rfl rfl fun hlo => ?_
  obtain ⟨x1, x2, x3⟩ := hi_ok hg
  obtain ⟨g1, g2, g3, g4, _⟩ := gOk_iff.1 hg
  have hn : (g.cs.length : Int) < 2 ^ 31 := by omega
  have hm : many g = 2 * (g.w + g.hi) := rfl
  refine callP (SightMany_ok g ad fl h hs hn) ?_
  rw [if_pos hg]
  rintro v h1 ⟨rfl, e1⟩
  refine cnd (fun c1 => absurd (of_decide_eq_true c1) (by omega)) (fun c1 => ?_)
  refine cnd (fun c1 => absurd (of_decide_eq_true c1) (by omega)) (fun c1 => ?_)
  refine callP (gridRows_ok g.w ad g.cs.length fl h1 g1 hn) ?_
  rintro v h2 ⟨rfl, e2⟩
  refine And.intro (by omega) ?_
  refine And.intro ?_ (e1.trans e2)
  show Value.int .i64 ((IntKind.i64.wrap (k + g.hi)).tmod (many g)) = _
  rw [wr (by omega) (by omega), Int.tmod_eq_emod_of_nonneg (by omega)]; rfl
theorem SightFlip_ok (g : Gd) (k : Int) (ad : Option Addr) (fl : Nat) (h : Hp) (hs : Sls h cE 2 ad g.cs) (hg : gOk g = true) (hk : 0 ≤ k ∧ k < many g) : Tri X lo 15 [.agg #[.int .i64 g.w, .slice ad g.cs.length fl], .int .i64 k] h fun v h' => v = .int .i64 (Tr.siF g.w g.hi k) ∧ Ext h h' := by
  refine enter tbOk mtOk ⟨[], []⟩ 400 Tryz.func15 rfl rfl rfl fun hlo => ?_
  obtain ⟨x1, x2, x3⟩ := hi_ok hg
  obtain ⟨g1, g2, g3, g4, _⟩ := gOk_iff.1 hg
  have hn : (g.cs.length : Int) < 2 ^ 31 := by omega
  have hm : many g = 2 * (g.w + g.hi) := rfl
  refine callP (SightMany_ok g ad fl h hs hn) ?_
  rw [if_pos hg]
  rintro v h1 ⟨rfl, e1⟩
  refine cnd (fun c1 => absurd (of_decide_eq_true c1) (by omega)) (fun c1 => ?_)
  refine cnd (fun c1 => absurd (of_decide_eq_true c1) (by omega)) (fun c1 => ?_)
  refine And.intro (by omega) ?_
  refine And.intro ?_ e1
  show Value.int .i64 ((IntKind.i64.wrap (IntKind.i64.wrap (IntKind.i64.wrap (g.w - 1) - k) + many g)).tmod (many g)) = _
  rw [wr (n := g.w - 1) (by omega) (by omega), wr (n := g.w - 1 - k) (by omega) (by omega), wr (by omega) (by omega), Int.tmod_eq_emod_of_nonneg (by omega)]; rfl
end Go.Proofs.YtambkogocbgbmaaGreat.Id
/- The law FnPicTurn over the ideal memory. -/
namespace Go.Proofs.YtambkogocbgbmaaGreat.Id
open Go.Id Go.Conc Go.Conc.Lib
open Go.Proofs
set_option linter.unusedVariables false
set_option maxRecDepth 100000
variable {N0 : Nat → Prop} {lo : Nat}
/-- What a picture is, of any grid. -/
noncomputable def picP (g : Gd) : List Int := if gOk g then pic g else []
theorem picP_len (g : Gd) : ((picP g).length : Int) = if gOk g then many g else 0 := by
  unfold picP
  split
  · rename_i hg
    rw [pic_len]
    obtain ⟨p1, p2, _⟩ := hi_ok hg
    obtain ⟨p3, p4, _⟩ := gOk_iff.1 hg
    unfold many; omega
  · simp
theorem picP_le (g : Gd) : (picP g).length ≤ 20 := by
  have := picP_len g
  by_cases hg : gOk g = true
  · rw [if_pos hg] at this
    obtain ⟨p1, p2, _⟩ := hi_ok hg
    obtain ⟨p3, p4, _⟩ := gOk_iff.1 hg
    unfold many at this; omega
  · rw [if_neg hg] at this; omega
theorem picP_get {g : Gd} {i : Nat} (hi : i < (picP g).length) : gOk g = true ∧ (i : Int) < many g ∧ (picP g)[i] = lightAt g i := by
  have hl := picP_len g
  by_cases hg : gOk g = true
  · rw [if_pos hg] at hl
    refine ⟨hg, by omega, ?_⟩
    simp only [picP, hg, if_true, pic, List.getElem_map, List.getElem_range]
  · rw [if_neg hg] at hl; omega
theorem same_pic {g g' : Gd} {π δ σ : Int → Int} (S : Same g g' π δ σ) : (picP g').length = (picP g).length ∧ ∀ (i : Nat) (hi : i < (picP g).length), ∃ j : Nat, σ i = j ∧ ∃ hj : j < (picP g').length, (picP g')[j] = (picP g)[i] := by
  have l1 := picP_len g
  have l2 := picP_len g'
  rw [if_pos S.ok] at l1
  rw [if_pos S.ok', S.many] at l2
  refine ⟨by omega, fun i hi => ?_⟩
  obtain ⟨_, q2, q3⟩ := picP_get hi
  obtain ⟨s0, s1⟩ := S.sin i ⟨by omega, q2⟩
  have s1 := S.many ▸ s1
  refine ⟨(σ i).toNat, by omega, by omega, ?_⟩
  rw [(picP_get (by omega)).2.2, q3, show ((σ i).toNat : Int) = σ i from by omega, S.light ⟨by omega, q2⟩]
theorem turn_pic (g : Gd) : (picP (turnG' g)).length = (picP g).length ∧ ∀ (i : Nat) (hi : i < (picP g).length), ∃ j : Nat, Tr.siT g.w g.hi i = j ∧ ∃ hj : j < (picP (turnG' g)).length, (picP (turnG' g))[j] = (picP g)[i] := by
  by_cases hg : gOk g = true
  · have e : turnG' g = turnG g := by unfold turnG'; rw [if_pos hg]
    rw [e]; exact same_pic (turn_same hg)
  · have e : turnG' g = ⟨0, []⟩ := by unfold turnG'; rw [if_neg hg]
    have e1 : picP g = [] := by unfold picP; rw [if_neg hg]
    rw [e, e1]
    exact ⟨rfl, fun i hi => absurd hi (Nat.not_lt_zero _)⟩
theorem flip_pic (g : Gd) : (picP (flipG' g)).length = (picP g).length ∧ ∀ (i : Nat) (hi : i < (picP g).length), ∃ j : Nat, Tr.siF g.w g.hi i = j ∧ ∃ hj : j < (picP (flipG' g)).length, (picP (flipG' g))[j] = (picP g)[i] := by
  by_cases hg : gOk g = true
  · have e : flipG' g = flipG g := by unfold flipG'; rw [if_pos hg]
    rw [e]; exact same_pic (flip_same hg)
  · have e : flipG' g = ⟨0, []⟩ := by unfold flipG'; rw [if_neg hg]
    have e1 : picP g = [] := by unfold picP; rw [if_neg hg]
    rw [e, e1]
    exact ⟨rfl, fun i hi => absurd hi (Nat.not_lt_zero _)⟩
theorem moved_len' (g : Gd) : (turnG' g).cs.length ≤ g.cs.length ∧ (flipG' g).cs.length ≤ g.cs.length := by
  unfold turnG' flipG'
  by_cases hg : gOk g = true
  · rw [if_pos hg, if_pos hg]
    exact ⟨Nat.le_of_eq (movedG_len _ _ _), Nat.le_of_eq (movedG_len _ _ _)⟩
  · rw [if_neg hg, if_neg hg]
    exact ⟨Nat.zero_le _, Nat.zero_le _⟩
theorem picTurn_R (bs : List Nat) (a : Option Addr) (fl : Nat) (h : Hp) (hs : Sls h uE 1 a bs) (hb : ∀ b ∈ bs, b < 256) (hn : bs.length ≤ 9223372036854775807) (hlo : lo ≤ h.n) :
    R (mainCtx Tryz.prog N0) lo 3 Tryz.f3 (.ret fun v _ => v = .bool true) [.code (bodyC Tryz.f3)] (argsTm 0 [.slice a bs.length fl]) [] h := by
  refine more tbOk mtOk ⟨[], [(14, [0, 1, 2, 3, 4, 5, 6, 7, 8, 9, 10, 11, 12, 13, 14, 15, 16, 17, 18, 19, 20, 21, 22, 23, 24, 25, 26, 27, 28, 29, 30, 31, 32, 33, 34, 35, 36, 37, 38, 39], [0, 1, 3, 7, 7, 23, 63, 127, 255, 511, 1023, 2047, 4095, 8191, 8191, 24575, 65535, 131071, 262143, 524287, 524287, 2097151, 4194303, 524287, 524287, 25690111, 59244543, 134217727, 268435455, 536870911, 1073741823, 1073741823, 4294967295, 8589934591, 1073741823, 1073741823, 52613349375, 121332826111, 274877906943, 549755813887])]⟩ 400 ?_
  refine cnd (fun c1 => rfl) (fun c1 => ?_)
  have hn1 : bs.length ≤ 1048576 := by simp at c1; omega
  refine callP (DrawPicOf_ok a fl bs h hs hn1 hb) ?_
  rintro v h1 ⟨g, ga, gf, rfl, d1, gl, e1⟩
  have gs := d1.sls.2
  have hn2 : (g.cs.length : Int) < 2 ^ 31 := by omega
  refine callP (PicOf_ok g ga gf h1 gs hn2) ?_
  rintro v h2 ⟨⟨o, q1, q2, q3⟩, e2⟩
  subst q1
  have gs2 := gs.ext e2
  refine callP (sPicOf_ok g ga gf h2 gs2 hn2) ?_
  rintro v h3 ⟨b3, e3', rfl, w1, w2, w3, w4⟩
  have hpl : (picP g).length ≤ 1048576 := by have := picP_le g; omega
  have lT := moved_len' g
  obtain ⟨tT, tG⟩ := turn_pic g
  obtain ⟨fT, fG⟩ := flip_pic g
  have l20 := picP_le g
  have eP : (if gOk g then pic g else []) = picP g := rfl
  have eT : (if gOk (turnG' g) then pic (turnG' g) else []) = picP (turnG' g) := rfl
  have eF : (if gOk (flipG' g) then pic (flipG' g) else []) = picP (flipG' g) := rfl
  have hk : ∀ {i : Nat}, i < (picP g).length → gOk g = true ∧ (i : Int) < many g := fun hi => ⟨(picP_get hi).1, (picP_get hi).2.1⟩
  simp only [eP] at *
  generalize picP g = L at *
  have q3' : Gx 0 h3 iE 1 o L := gx_re (q2.ext w4) fun _ _ => Nat.zero_le _
  refine callP (llInts_gx q3' (o' := some (b3, e3')) (lo'' := 0) ⟨Nat.zero_le _, w3⟩ hpl) ?_
  rintro v h3' ⟨rfl, rfl⟩
  refine cnd (fun c => by simp at c) (fun _ => ?_)
  have gs3 := gs2.ext w4
  refine callP (GridTurn_ok g ga gf h3' gs3 hn2) ?_
  rintro v h4 ⟨⟨ta, tf, rfl, ts, _⟩, e4⟩
  refine callP (PicOf_ok (turnG' g) ta tf h4 ts (by omega)) ?_
  rintro v h5 ⟨⟨oT, z1, z2, _⟩, e5⟩
  subst z1
  have gs5 := (gs3.ext e4).ext e5
  refine callP (GridFlip_ok g ga gf h5 gs5 hn2) ?_
  rintro v h6 ⟨⟨fa, ff, rfl, fs, _⟩, e6⟩
  refine callP (PicOf_ok (flipG' g) fa ff h6 fs (by omega)) ?_
  rintro v h7 ⟨⟨oF, y1, y2, _⟩, e7⟩
  subst y1
  simp only [eT, eF] at *
  generalize picP (turnG' g) = LT at *
  generalize picP (flipG' g) = LF at *
  obtain ⟨la, lf, lv, ls⟩ := gx_sl q3' fun _ => rfl
  obtain ⟨ma, mf, mv, ms⟩ := gx_sl z2 fun _ => rfl
  obtain ⟨na, nf, nv, ns⟩ := gx_sl y2 fun _ => rfl
  rw [lv, mv, nv]
  have gs7 := (gs5.ext e6).ext e7
  have ls7 := (((ls.ext e4).ext e5).ext e6).ext e7
  have ms7 := (ms.ext e6).ext e7
  refine loop (σ := Nat) tbOk mtOk ⟨[], [(14, [0, 1, 2, 3, 4, 5, 6, 7, 8, 9, 10, 11, 12, 13, 14, 15, 16, 17, 18, 19, 20, 21, 22, 23, 24, 25, 26, 27, 28, 29, 30, 31, 32, 33, 34, 35, 36, 37, 38, 39], [0, 1, 3, 7, 7, 23, 63, 127, 255, 511, 1023, 2047, 4095, 8191, 8191, 24575, 65535, 131071, 262143, 524287, 524287, 2097151, 4194303, 524287, 524287, 25690111, 59244543, 134217727, 268435455, 536870911, 1073741823, 1073741823, 4294967295, 8589934591, 1073741823, 1073741823, 52613349375, 121332826111, 274877906943, 549755813887])]⟩ (fun i => [(7, .v (.int .i64 (i : Int))), (6, .v (.slice na LF.length nf)), (5, .v (.slice ma LT.length mf)), (4, .v (.slice la L.length lf)), (3, .l 0 0)]) (fun _ => [[.int .i64 g.w, .slice ga g.cs.length gf]]) (fun i h' => i ≤ L.length ∧ Ext h7 h') (fun i => L.length - i) 400 0 (fun _ => rfl) ⟨rfl, rfl, rfl, rfl, rfl, trivial⟩ ⟨rfl, trivial⟩ ⟨Nat.zero_le _, Ext.refl _⟩ (fun i h' hI again => ?_)
  obtain ⟨i1, i2⟩ := hI
  refine cnd (fun c1 => ?_) (fun c1 => ?_)
  · have c1 : i < L.length := by simpa using c1
    obtain ⟨hg, him⟩ := hk c1
    obtain ⟨j, j1, j2, j3⟩ := tG i c1
    obtain ⟨k, k1, k2, k3⟩ := fG i c1
    obtain ⟨la, rfl⟩ := ls7.some c1
    obtain ⟨ma, rfl⟩ := ms7.some j2
    obtain ⟨na, rfl⟩ := ns.some k2
    refine callP (SightTurn_ok g i ga gf h' (gs7.ext i2) hg ⟨by omega, him⟩) ?_
    rw [j1]
    rintro v h8 ⟨rfl, e8⟩
    refine callP (SightFlip_ok g i ga gf h8 ((gs7.ext i2).ext e8) hg ⟨by omega, him⟩) ?_
    rw [k1]
    rintro v h9 ⟨rfl, e9⟩
    have x9 := (i2.trans e8).trans e9
    have ll := (ls7.ext x9).ld (fun _ => rfl) c1
    have lm := (ms7.ext x9).ld (fun _ => rfl) j2
    have ln := (ns.ext x9).ld (fun _ => rfl) k2
    rw [j3] at lm
    rw [k3] at ln
    refine And.intro (by kernel_rfl) ?_
    refine cndF ?_
    refine cnd (fun c2 => absurd (of_decide_eq_true c2) (by omega)) (fun c2 => ?_)
    refine cndF ?_
    refine cnd (fun c3 => absurd (of_decide_eq_true c3) (by omega)) (fun c3 => ?_)
    refine And.intro ⟨by omega, by omega⟩ ?_
    refine ⟨_, lm, ?_⟩
    refine And.intro ⟨by omega, by omega⟩ ?_
    refine ⟨_, ll, ?_⟩
    refine cnd (fun c4 => absurd c4 (by simp)) (fun c4 => ?_)
    refine And.intro ⟨by omega, by omega⟩ ?_
    refine ⟨_, ln, ?_⟩
    refine And.intro ⟨by omega, by omega⟩ ?_
    refine ⟨_, ll, ?_⟩
    refine cnd (fun c5 => absurd c5 (by simp)) (fun c5 => ?_)
    refine again (i + 1) _ _ _ (by omega) ⟨?_, rfl, rfl, rfl, rfl, trivial⟩ ⟨rfl, trivial⟩ ⟨by omega, x9⟩
    show some (Sl.v (.int .i64 (IntKind.i64.wrap ((i : Int) + 1)))) = _
    rw [wr (by omega) (by omega)]; rfl
  · refine cnd (fun c2 => ?_) (fun c2 => ?_)
    · show Value.bool ((LF.length : Int) == (L.length : Int)) = .bool true
      rw [fT]; simp
    · exact absurd c2 (by rw [tT]; simp)
end Go.Proofs.YtambkogocbgbmaaGreat.Id
/- What comes in, as ideal memory that nobody writes; what is left of it at the run's end. -/
namespace Go.Id
open Go.Conc Go.ChangeShapes Go.WideShapes
set_option linter.unusedVariables false
theorem cell_spot {w : World} {a : Addr} {v : Value} (h : w.cell? a = some v) : a.spot = none ∧ a.block < w.heap.size := by
  unfold World.cell? at h
  split at h
  · rename_i c _ _ hb
    split at h
    · cases h
    · rename_i hs
      refine ⟨?_, (Array.getElem?_eq_some_iff.1 hb).1⟩
      cases hsp : a.spot with
      | none => rfl
      | some _ => rw [hsp] at hs; exact absurd rfl hs
  · cases h
def InOk (W : World) (s : Sim) (h : Hp) : Prop := SimOk (lowOf W) h.n s (fun _ => False) h W
theorem InOk.nil (W : World) : InOk W ⟨fun _ => none, fun _ => 0, fun _ => none⟩ ⟨0, fun _ => .cells [] 0 0⟩ :=
  ⟨fun id c h => (by cases h), fun id c h => (by cases h), fun id c id' c' h => (by cases h), fun id b h => (by cases h), fun b h => h.elim, fun b h => h.elim, fun b h => h, Nat.le_refl _⟩
section
variable {W : World} {s : Sim} {h : Hp} {α : Type} {enc : α → List Value} {sz : Nat} {l : List α} {ys : List Value}
/-- A slice that came in. -/
theorem InOk.slice (I : InOk W s h) (he : ∀ x, (enc x).length = sz) (hz : sz ≠ 0) (A : Option Addr) (cap : Nat) (hl : l.length ≤ cap) (hv : VRm s (l.flatMap enc) ys) (hc : ∀ a, A = some a → ∀ (i : Nat) (v : Value), ys[i]? = some v → W.cell? (a.add i) = some v)
    (hn : A = none → l = [] ∧ cap = 0) (hb : ∀ a, A = some a → l = [] → ∃ b0, b0 < W.heap.size) :
    ∃ s' h' A' fl, InOk W s' h' ∧ s.le s' ∧ Ext h h' ∧ VR s' (.slice A' l.length fl) (.slice A l.length cap) ∧ Sls h' enc sz A' l := by
  cases A with
  | none =>
    obtain ⟨rfl, rfl⟩ := hn rfl
    exact ⟨s, h, none, 0, I, s.le_refl, Ext.refl h, .sl0, rfl⟩
  | some a =>
    have hnone : s.adr h.n = none := by
      cases hx : s.adr h.n with
      | none => rfl
      | some c => exact absurd (I.cells _ c hx).1 (Nat.lt_irrefl _)
    obtain ⟨c, hcap, hcb, hH, hne⟩ : ∃ c : Cel, c.cap = cap ∧ c.b < W.heap.size ∧ Holds W c.b c.o ys ∧ (l.length ≠ 0 → a = ⟨c.b, c.o + 0, none⟩) := by
      by_cases hl0 : l = []
      · obtain ⟨b0, hb0⟩ := hb a rfl hl0
        refine ⟨⟨b0, 0, cap⟩, rfl, hb0, fun i v hv' => ?_, fun h => absurd (by rw [hl0]; rfl) h⟩
        have := hv.1.1
        rw [hl0] at this
        have := (List.getElem?_eq_some_iff.1 hv').1
        simp at *; omega
      · have hy : 0 < ys.length := by
          rw [← hv.1.1, flat_len he]
          exact Nat.mul_pos (List.length_pos_iff.2 hl0) (Nat.pos_of_ne_zero hz)
        have h0 := hc a rfl 0 ys[0] (List.getElem?_eq_getElem hy)
        rw [show a.add 0 = a from rfl] at h0
        obtain ⟨e1, e2⟩ := cell_spot h0
        have ea : a = ⟨a.block, a.off, none⟩ := by cases a; simp only at e1; rw [e1]
        refine ⟨⟨a.block, a.off, cap⟩, rfl, e2, fun i v hv' => ?_, fun _ => ea⟩
        have := hc a rfl i v hv'
        rw [ea, add_none] at this
        exact this
    refine ⟨s.up h.n c 0, h.push (.cells (l.flatMap enc) sz 0), some ⟨h.n, 0, some 0⟩, 2, ?_, ?_, Ext.push _ _, ?_, ?_⟩
    · have hle : s.le (s.up h.n c 0) := Sim.up_le fun c₀ hc₀ => by rw [hnone] at hc₀; cases hc₀
      refine ⟨fun id c' hc' => ?_, fun id c' hc' hlo => ?_, fun id c' id' c'' h1 h2 hlo => ?_, fun id b hb' => ?_, fun b h => h.elim, fun b h => h.elim, fun b h => h, Nat.le_refl _⟩
      · simp only [Sim.up] at hc'
        by_cases hid : id = h.n
        · subst hid
          rw [if_pos rfl] at hc'; cases hc'
          exact ⟨by simp [Hp.push], fun _ => hcb, l.flatMap enc, sz, by simp [Hp.push, Sim.up], ys, hv.mono hle, hH⟩
        · rw [if_neg hid] at hc'
          obtain ⟨g1, g2, cs, sz', g3, ys', g4, g5⟩ := I.cells id c' hc'
          refine ⟨by simp [Hp.push]; omega, fun _ => g2 g1, cs, sz', ?_, ys', g4.mono hle, g5⟩
          simp [Hp.push, Sim.up, hid, g3]
      · simp only [Sim.up] at hc'
        by_cases hid : id = h.n
        · subst hid; exact absurd (show h.n + 1 ≤ h.n from hlo) (by omega)
        · rw [if_neg hid] at hc'; have := (I.cells id c' hc').1; exact absurd (show h.n + 1 ≤ id from hlo) (by omega)
      · simp only [Sim.up] at h1
        by_cases hid : id = h.n
        · subst hid; exact absurd (show h.n + 1 ≤ h.n from hlo) (by omega)
        · rw [if_neg hid] at h1; have := (I.cells id c' h1).1; exact absurd (show h.n + 1 ≤ id from hlo) (by omega)
      · have hb'' : s.mp id = some b := hb'
        have := (I.maps id b hb'').1
        exact ⟨by simp [Hp.push]; omega, fun hlo => absurd (show h.n + 1 ≤ id from hlo) (by omega)⟩
    · exact Sim.up_le fun c₀ hc₀ => by rw [hnone] at hc₀; cases hc₀
    · refine .sl h.n 0 (some 0) l.length 2 a cap c (by simp [Sim.up]) (by simp [Sim.up, epOf]) (fun _ => ⟨fun hx => ?_, fun hx => by cases hx⟩) (fun hx => by cases hx) hl
      rcases hx with hx | hx
      · exact hne hx
      · cases hx
    · exact (Row.push (h := h) (e := 0) (enc := enc) (sz := sz) (l := l)).sls he
end
section
variable {H : Type} {enc : TypeId × Value → H} {P : Program} {W : World} {base : Nat} {spare : Nat → Bool} {held : Bool} {α : Type} {en : α → List Value} {sz : Nat}
theorem cells_get {a : Addr} {n : Nat} {cs : List Value} (h : W.cells? base a n = some cs) : cs.length = n ∧ ∀ i, i < n → W.cell? (a.add i) = cs[i]? := by
  obtain ⟨_, h1, h2⟩ := World.cells?_some h
  exact ⟨h1, h2⟩
/-- A slice of plain data, read. -/
theorem open_plain {t e : TypeId} {v : Value} {x : DataW H × List MemPlace} (ht : P.underlying t = some (.slice e)) (hsz : P.cellsOf e = sz) (hz : sz ≠ 0) (hen : ∀ x, (en x).length = sz)
    (dec : ∀ n cs y, DataW.trod enc P W base spare held n e cs = some y → ∃ q, cs = en q) {fuel : Nat} (h : DataW.trod enc P W base spare held fuel t [v] = some x) :
    ∃ (A : Option Addr) (cap : Nat) (l : List α), v = .slice A l.length cap ∧ l.length ≤ cap ∧ cap ≤ Go.maxLen ∧ (A = none → l = [] ∧ cap = 0) ∧ ∀ a, A = some a → ∀ (i : Nat) (u : Value), (l.flatMap en)[i]? = some u → W.cell? (a.add i) = some u := by
  rcases Go.Deep.open_slice ht h with ⟨hcs, _⟩ | ⟨a, len, cap, m, n, D, Pl, hcs, _, hl, hm, hmm, _, hx⟩
  · simp at hcs; subst hcs
    exact ⟨none, 0, [], rfl, Nat.le_refl _, by unfold Go.maxLen; omega, fun _ => ⟨rfl, rfl⟩, fun a h => by cases h⟩
  · simp at hcs; subst hcs
    have hlm : len ≤ m := by rw [hmm]; split <;> omega
    have each : ∀ i, i < len → ∃ q : α, ∀ k, k < sz → W.cell? ((a.add (i * sz)).add k) = (en q)[k]? := by
      intro i hi
      obtain ⟨cs', h1, h2⟩ := hx i (by omega)
      obtain ⟨q, rfl⟩ := dec _ _ _ h2
      rw [hsz] at h1
      exact ⟨q, (cells_get h1).2⟩
    by_cases h0 : len = 0
    · subst h0
      exact ⟨some a, cap, [], rfl, Nat.zero_le _, hm, fun h => (by cases h), fun a _ i u hu => by simp at hu⟩
    · obtain ⟨q0, hq0⟩ := each 0 (by omega)
      have hs : a.spot = none := by
        have h1 := hq0 0 (by omega)
        have hlt : 0 < (en q0).length := by rw [hen]; omega
        rw [List.getElem?_eq_getElem hlt] at h1
        have : (a.add (0 * sz)).add 0 = a := by simp [Addr.add]
        rw [this] at h1
        exact (cell_spot h1).1
      have ea : a = ⟨a.block, a.off, none⟩ := by cases a; simp only at hs; rw [hs]
      obtain ⟨q, hq⟩ : ∃ q : Nat → α, ∀ i, i < len → ∀ k, k < sz → W.cell? ((a.add (i * sz)).add k) = (en (q i))[k]? := by
        classical
        exact ⟨fun i => if hi : i < len then (each i hi).choose else q0, fun i hi => by simp only [dif_pos hi]; exact (each i hi).choose_spec⟩
      have hlen : ((List.range len).map q).length = len := by simp
      refine ⟨some a, cap, (List.range len).map q, by rw [hlen], by rw [hlen]; exact hl, hm, fun h => (by cases h), fun b hb i u hu => ?_⟩
      cases hb
      have hi : i < len * sz := by
        have := (List.getElem?_eq_some_iff.1 hu).1
        rw [flat_len hen, hlen] at this; exact this
      have hdiv : i / sz < len := Nat.div_lt_of_lt_mul (by rw [Nat.mul_comm]; exact hi)
      have hmod : i % sz < sz := Nat.mod_lt _ (Nat.pos_of_ne_zero hz)
      have hsum : i / sz * sz + i % sz = i := by rw [Nat.mul_comm]; exact Nat.div_add_mod i sz
      have h1 := hq (i / sz) hdiv (i % sz) hmod
      rw [ea, add_none, add_none, Nat.add_assoc, hsum] at h1
      rw [ea, add_none, h1]
      have h2 := flat_get hen ((List.range len).map q) (i / sz) (by rw [hlen]; exact hdiv)
      have h3 : (((List.range len).map q).flatMap en)[i]? = (((((List.range len).map q).flatMap en).drop (i / sz * sz)).take sz)[i % sz]? := by
        rw [List.getElem?_take, if_pos hmod, List.getElem?_drop, hsum]
      rw [h3, h2] at hu
      simp at hu
      rw [← hu]
end
section
variable {P : Program} {W : World} {r : Reach} {b0 : Nat}
theorem block_cell {t : TypeId} {a : Addr} {len cap : Nat} (h : Cell.okWide P W r b0 t (.slice (some a) len cap)) : a.block < W.heap.size := by
  have h' : Cell.ok P W r b0 t (.slice (some a) len cap) := by
    unfold Cell.okWide at h
    split at h <;> first | exact h | (rename_i e; cases e)
  unfold Cell.ok at h'
  split at h' <;> first | exact h'.elim | skip
  all_goals first
    | (rename_i e; cases e; done)
    | (rename_i e _ _ _ _ he; cases he
       obtain ⟨_, _, _, _, row, cells, hs, _⟩ := h'
       unfold World.shape? at hs
       cases hb : W.heap[a.block]? with
       | none => rw [hb] at hs; cases hs
       | some o => exact (Array.getElem?_eq_some_iff.1 hb).1)
theorem block_agg {t : TypeId} {fs : Array Field} {cs : Array Value} (ht : P.underlying t = some (.struct fs)) (h : Value.okWide P W r b0 t (.agg cs)) {i : Nat} {a : Addr} {len cap : Nat} (hi : cs[i]? = some (.slice (some a) len cap)) : a.block < W.heap.size := by
  simp only [Value.okWide, ht] at h
  obtain ⟨cs', he, _, ts, _, _, hx⟩ := h
  cases he
  obtain ⟨u, _, hu⟩ := hx i _ hi
  exact block_cell hu
end
/-! ### at the end -/
open Go.RowKit
theorem below_of {W w' : World} (K : Kept (lowOf W) (fun _ => False) W w') : Below W.heap.size W { w' with tape := W.tape } := ⟨K.os, rfl, K.out, K.size, fun k hk => K.low k hk⟩
theorem kept_frame {W w' : World} (K : Kept (lowOf W) (fun _ => False) W w') (may : MemPlace → Prop) : W.keptBut w' may := by
  obtain ⟨a, b, c⟩ := (below_of K).frame may
  exact ⟨a, b, c⟩
theorem Trod_tape {H : Type} {enc : TypeId × Value → H} {P : Program} {w : World} {tp : Tape} {base : Nat} {spare : Nat → Bool} {held : Bool} {t : TypeId} {v : Value} {d : DataW H} {ps : List MemPlace} (h : DataW.Trod enc P { w with tape := tp } base spare held t v d ps) : DataW.Trod enc P w base spare held t v d ps :=
  DataW.Trod.of_heap (w := { w with tape := tp }) (w' := w) rfl h
end Go.Id
/- A code that comes in: bytes, read only. -/
namespace Go.Proofs.YtambkogocbgbmaaGreat.Id
open Go.Id Go.Conc Go.Proofs
open Go.ChangeShapes Go.WideShapes Go.ChangeAt Go.RowKit
set_option linter.unusedVariables false
def uF (x : Fin 256) : List Value := [.int .u8 (x.val : Nat)]
section
variable {H : Type} {enc : TypeId × Value → H} {W : World} {base : Nat} {spare : Nat → Bool} {held : Bool}
set_option maxRecDepth 100000
theorem dec_byte (n : Nat) (cs : List Value) (y : DataW H × List MemPlace) (h : DataW.trod enc Tryz.prog W base spare held n 5 cs = some y) : ∃ q : Fin 256, cs = uF q := by
  obtain ⟨q, e, _, hw⟩ := DataW.trod_int Tryz.underlying5 h
  have hw : 0 ≤ q ∧ q < 256 := by
    have e1 : IntKind.u8.min = 0 := by decide
    have e2 : IntKind.u8.max = 255 := by decide
    simp [Lit.wf, e1, e2] at hw
    omega
  refine ⟨⟨q.toNat, by omega⟩, ?_⟩
  rw [e]
  show [Value.int .u8 q] = [Value.int .u8 ((q.toNat : Nat) : Int)]
  rw [Int.toNat_of_nonneg hw.1]
theorem cells_byte : Tryz.prog.cellsOf 5 = 1 := by kernel_rfl
theorem in_bytes {b0 : Nat} {r : Reach} {v : Value} {d : DataW H} {p : List MemPlace} {s : Sim} {h : Hp} (I : InOk W s h) (hv : Value.okWide Tryz.prog W r b0 22 v) (ht : DataW.Trod enc Tryz.prog W base spare held 22 v d p) :
    ∃ (s' : Sim) (h' : Hp) (bs : List Nat) (a : Option Addr) (fl : Nat), InOk W s' h' ∧ s.le s' ∧ Ext h h' ∧ VR s' (.slice a bs.length fl) v ∧ Sls h' (fun x : Nat => [Value.int .u8 x]) 1 a bs ∧ bs.length ≤ Go.maxLen ∧ ∀ b ∈ bs, b < 256 := by
  have hv0 : Cell.okWide Tryz.prog W r b0 22 v := by
    unfold Value.okWide at hv
    rw [Tryz.underlying22] at hv
    exact hv
  obtain ⟨n, t0⟩ := ht
  have hcl : v.cells.toList = [v] := by
    cases v with
    | agg cs =>
      exfalso
      have h' : Cell.ok Tryz.prog W r b0 22 (.agg cs) := by
        unfold Cell.okWide at hv0
        split at hv0 <;> first | exact hv0 | (rename_i e; cases e)
      unfold Cell.ok at h'
      split at h' <;> first | exact h'.elim | (rename_i e; cases e) | (rename_i e _; cases e) | (rename_i e _ _; cases e) | (rename_i e _ _ _; cases e)
    | _ => rfl
  rw [hcl] at t0
  obtain ⟨A, cap, l, rfl, hl, hm, hn, hc⟩ := open_plain (en := uF) (sz := 1) Tryz.underlying22 cells_byte (by decide) (fun _ => rfl) dec_byte t0
  have hpl : ∀ v ∈ l.flatMap uF, plainV v = true ∧ v.oneCell' = true := by
    intro v hv
    obtain ⟨q, _, hq⟩ := List.mem_flatMap.1 hv
    simp only [uF, List.mem_cons, List.not_mem_nil, or_false] at hq
    subst hq; exact ⟨rfl, rfl⟩
  have hblk : ∀ a, A = some a → l = [] → ∃ b0, b0 < W.heap.size := by
    intro a ha hl0
    subst ha
    refine ⟨a.block, block_cell (P := Tryz.prog) (r := r) (b0 := b0) (t := 22) (len := l.length) (cap := cap) hv0⟩
  obtain ⟨s', h', A', fl, I', l1, e1, v1, s1⟩ := I.slice (enc := uF) (fun _ => rfl) (by decide) A cap hl (VRm.of_plain s hpl) hc hn hblk
  have hfm : ∀ l : List (Fin 256), (l.map fun x => x.val).flatMap (fun x : Nat => [Value.int .u8 x]) = l.flatMap uF := by
    intro l
    induction l with
    | nil => rfl
    | cons x l ih => simp only [List.map_cons, List.flatMap_cons, ih]; rfl
  refine ⟨s', h', l.map fun x => x.val, A', fl, I', l1, e1, by simpa using v1, ?_, by simpa using Nat.le_trans hl hm, fun b hb => ?_⟩
  · cases A' with
    | none =>
      have : l = [] := s1
      subst this; rfl
    | some a =>
      obtain ⟨q1, c, sz, q2, q3⟩ := s1
      exact ⟨q1, c, sz, q2, by rw [hfm, List.length_map]; exact q3⟩
  · obtain ⟨x, _, rfl⟩ := List.mem_map.1 hb
    exact x.isLt
end
end Go.Proofs.YtambkogocbgbmaaGreat.Id
/- The row of FnPicTurn: for every code that comes in, the law returns true, and the code reads as it did. No condition. -/
namespace Go.Proofs.YtambkogocbgbmaaGreat.fnPicTurn
open Go.ChangeShapes Go.WideShapes Go.ChangeAt Go.RowKit Go.Id Go.Conc Go.Proofs.YtambkogocbgbmaaGreat.Id
set_option linter.unusedVariables false
theorem own : ownKnob Tryz.prog.godebug = none := by kernel_rfl
theorem laidOut : laidOutB Tryz.prog = true := by kernel_rfl
set_option maxRecDepth 100000 in
theorem lifted (os : Os) (started : os.Started) (H : Type) (enc : TypeId × Value → H) :
    ReturnsInLeavingWide {} Tryz.checked os 3 .any (Rows.fnPicTurnSpec.pre6 enc Tryz.prog Tryz.f3 Rows.fnPicTurnRow.domain false) (Rows.fnPicTurnSpec.post enc Tryz.prog Tryz.f3 false true false false) := by
  refine returnsInLeavingWide_of_change_sized (C := Tryz.checked) own started Tryz.func3
    (ChangeSpec.witness6 (enc := enc) (C := Tryz.checked) false ⟨#[], #[.slice none 0 0], []⟩ 8 (by kernel_rfl) (by kernel_rfl) (by kernel_rfl) (by kernel_rfl)) ?_
  intro W base args ds gs before hval0 hW hcnd hsz0 _
  have hval : ∀ (j : Nat) t v, Tryz.f3.params[j]? = some t → args[j]? = some v → Value.okWide Tryz.prog W .any base t v := hval0
  have hW' := hW
  obtain ⟨p, q, hA0, hV, rfl, hfz, hnd⟩ := hW
  have hA : DataW.TrodAll enc Tryz.prog W 0 (fun _ => true) true Tryz.f3.params.toList args.toList ds p := hA0
  rw [Tryz.params3] at hA hval
  obtain ⟨v0, vs0, d0, ds0, p0, q0, hargs, rfl, rfl, h0, r0⟩ := trodAll_cons hA
  obtain ⟨rfl, rfl, rfl⟩ := trodAll_nil r0
  obtain rfl : args = #[v0] := by cases args; simp_all
  obtain ⟨rfl, rfl⟩ := trodVars_none hV
  have k0 := h0
  have lt0 : ∀ x ∈ p0, x.block < W.heap.size := by obtain ⟨m, hm⟩ := k0; exact DataW.trod_lt m _ _ _ hm
  obtain ⟨s, h, bs, a, fl, I, _, _, V, S, hn, hb⟩ := in_bytes (InOk.nil W) (hval 0 22 v0 rfl rfl) h0
  clear hA0 hval0 hsz0
  obtain ⟨M, last, o, w', t', g1, g2, g3, g4⟩ := main_run (lo := h.n) (Post := fun v _ => v = .bool true) (argsr := #[v0]) (args := [.slice a bs.length fl]) Tryz.func3 rfl (Nat.le_of_ble_eq_true rfl) (by kernel_rfl) I (VRs.cons V (VRs.nil s)) (picTurn_R bs a fl h S hb (Nat.le_trans hn (by unfold Go.maxLen; exact Nat.le_refl _)) (Nat.le_refl _))
  refine ⟨M, last, o, w', t', g1, g2, g3, g4.mono fun vr ht => ?_⟩
  obtain ⟨v, h', s', O', rfl, _, _, hv, K⟩ := ht
  obtain rfl : vr = .bool true := VR.bool_inv hv
  have bel := below_of K
  exact ⟨_, _, _, [], _, [], hW', trodAll_mk1 (shut_bool Tryz.underlying4 _), trodAll_cons_mk (Trod_tape (Below.trod laidOut (by kernel_rfl) (of_decide_eq_true (by kernel_rfl)) k0 bel lt0)) trodAll_mk0, rfl, kept_frame K _, fun h => by cases h⟩
theorem over : Rows.fnPicTurnRow.holds Tryz.pinned (OpenSpec.ofChange Rows.fnPicTurnSpec) :=
  OpenClaim.holds_of_wide_leaving 3 Tryz.f3 rfl rfl rfl rfl rfl rfl rfl ⟨rfl, rfl, rfl, rfl, rfl⟩ rfl rfl rfl rfl rfl (by kernel_rfl) Tryz.func3 (by kernel_rfl)
    (of_decide_eq_true (by kernel_rfl)) (by unfold Func.isWrapper; first | (rw [if_pos (by decide +kernel)]; kernel_rfl) | (rw [if_neg (by decide +kernel)]; exact ⟨rfl, rfl⟩))
    (fun os started H enc _ => lifted os started H enc)
theorem proved : Rows.FnPicTurnSaid := over
#print axioms proved
end Go.Proofs.YtambkogocbgbmaaGreat.fnPicTurn
namespace Go.Proofs.YtambkogocbgbmaaGreat
/-- The row, under a short name, for the claim. -/
theorem fnPicTurn_holds : Rows.FnPicTurnSaid := fnPicTurn.proved
end Go.Proofs.YtambkogocbgbmaaGreat
