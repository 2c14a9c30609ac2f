/- Texts of this claim, joined: Sc, IdQd, Sd, Se, Sf, Sg, Sh, Si, Sj, Sk, Sl, Ta, Tb, Ct, Cv, Tr3, Da, Cs, Db, Dc, Dd, Tc. -/
import Derived.Test.YtgcbfhdlfajemaaM2
import Derived.Sort.Walk13a
import Derived.Sort.AssemblyPlain
/- The walk of Go's sort: heap sort. -/
namespace Go.Proofs.Ytgcbfhdlfajemaa.Id
open Go.Id Go.Sort
open Go.Proofs
set_option linter.unusedVariables false
set_option maxRecDepth 100000
variable {X : Ctx Try.prog} {lo : Nat}
theorem siftDown_ok (b e n fl : Nat) (d0 : Array Int) (root hi first : Nat) (h : Hp) (r0 : AR h b e d0) (hn : d0.size = n) (hc : first + hi ≤ n) (hN : n < 2 ^ 31) (hr : root ≤ n) (hb : lo ≤ b) : Tri X lo 108 [sa b e n fl, .int .i64 (root : Int), .int .i64 (hi : Int), .int .i64 (first : Int)] h fun v h' => v = .tuple #[] ∧ PA b e n h (siftDown ltInt hi first root d0) h' := by
  refine enter tbOk mtOk ⟨[], [(3, [0, 1, 2, 3, 4, 5, 6, 7, 8, 9, 10, 11, 12, 13, 14, 15, 16, 17, 18, 19], [0, 1, 0, 7, 15, 31, 31, 31, 223, 511, 1023, 31, 31, 31, 12319, 28703, 63519, 129055, 262143, 524287]), (5, [0, 1, 2, 3, 4, 5, 6, 7, 8, 9, 10, 11, 12, 13], [0, 0, 0, 6, 15, 31, 0, 0, 0, 384, 960, 1984, 4095, 8191]), (6, [0, 1, 2, 3, 4, 5, 6, 7, 8, 9, 10, 11, 12, 13, 14, 15, 16, 17, 18, 19, 20, 21, 22, 23], [0, 0, 0, 6, 0, 0, 0, 96, 0, 0, 0, 1536, 3840, 7936, 0, 0, 0, 98304, 245760, 507904, 1048335, 2096911, 4194303, 8388607])]⟩ 400 Try.func108 rfl rfl rfl fun hlo => ?_
  refine loop (σ := Nat × Array Int) tbOk mtOk ⟨[], [(3, [0, 1, 2, 3, 4, 5, 6, 7, 8, 9, 10, 11, 12, 13, 14, 15, 16, 17, 18, 19], [0, 1, 0, 7, 15, 31, 31, 31, 223, 511, 1023, 31, 31, 31, 12319, 28703, 63519, 129055, 262143, 524287]), (5, [0, 1, 2, 3, 4, 5, 6, 7, 8, 9, 10, 11, 12, 13], [0, 0, 0, 6, 15, 31, 0, 0, 0, 384, 960, 1984, 4095, 8191]), (6, [0, 1, 2, 3, 4, 5, 6, 7, 8, 9, 10, 11, 12, 13, 14, 15, 16, 17, 18, 19, 20, 21, 22, 23], [0, 0, 0, 6, 0, 0, 0, 96, 0, 0, 0, 1536, 3840, 7936, 0, 0, 0, 98304, 245760, 507904, 1048335, 2096911, 4194303, 8388607])]⟩ (fun s => [(8, .v (.int .i64 (s.1 : Int))), (0, .v (sa b e n fl)), (2, .v (.int .i64 (hi : Int))), (3, .v (.int .i64 (first : Int)))]) (fun _ => []) (fun s h' => s.1 ≤ n ∧ s.2.size = n ∧ Ext1 b h h' ∧ AR h' b e s.2 ∧ siftDown ltInt hi first s.1 s.2 = siftDown ltInt hi first root d0) (fun s => hi - s.1) 400 (root, d0) (fun _ => rfl) ⟨rfl, rfl, rfl, rfl, trivial⟩ trivial ⟨hr, hn, (Ext.refl _).one b, r0, rfl⟩ (fun s h1 hI again => ?_)
  obtain ⟨i0, i1, i2, i3, i4⟩ := hI
  have w2 : IntKind.i64.wrap (2 * (s.1 : Int)) = ((2 * s.1 : Nat) : Int) := wz (by omega) (by omega)
  have w3 : IntKind.i64.wrap (IntKind.i64.wrap (2 * (s.1 : Int)) + 1) = ((2 * s.1 + 1 : Nat) : Int) := wz (by omega) (by omega)
  have w4 : IntKind.i64.wrap (IntKind.i64.wrap (IntKind.i64.wrap (2 * (s.1 : Int)) + 1) + 1) = ((2 * s.1 + 2 : Nat) : Int) := wz (by omega) (by omega)
  have fr : IntKind.i64.wrap ((first : Int) + (s.1 : Int)) = ((first + s.1 : Nat) : Int) := wz (by omega) (by omega)
  have f1 : IntKind.i64.wrap ((first : Int) + IntKind.i64.wrap (IntKind.i64.wrap (2 * (s.1 : Int)) + 1)) = ((first + (2 * s.1 + 1) : Nat) : Int) := wz (by omega) (by omega)
  have f2 : IntKind.i64.wrap (IntKind.i64.wrap ((first : Int) + IntKind.i64.wrap (IntKind.i64.wrap (2 * (s.1 : Int)) + 1)) + 1) = ((first + (2 * s.1 + 1) + 1 : Nat) : Int) := wz (by omega) (by omega)
  have f3 : IntKind.i64.wrap ((first : Int) + IntKind.i64.wrap (IntKind.i64.wrap (IntKind.i64.wrap (2 * (s.1 : Int)) + 1) + 1)) = ((first + (2 * s.1 + 2) : Nat) : Int) := wz (by omega) (by omega)
  rw [siftDown] at i4
  refine cnd (fun c1 => ?_) (fun c1 => ?_)
  · have c1 : 2 * s.1 + 1 ≥ hi := by have := of_decide_eq_true c1; omega
    rw [dif_pos c1] at i4
    refine And.intro rfl ?_
    rw [← i4]; exact ⟨i2, i3, i1⟩
  have c1 : ¬ 2 * s.1 + 1 ≥ hi := by have := of_decide_eq_false c1; omega
  rw [dif_neg c1] at i4
  refine And.intro (by kernel_rfl) ?_
  refine cnd (fun c2 => ?_) (fun c2 => ?_)
  · have c2 : 2 * s.1 + 1 + 1 < hi := by have := of_decide_eq_true c2; omega
    refine And.intro ⟨by omega, by omega⟩ ?_
    refine ⟨_, i3.ldI f1 (by omega), ?_⟩
    refine And.intro ⟨by omega, by omega⟩ ?_
    refine ⟨_, i3.ldI f2 (by omega), ?_⟩
    refine callP (Less_ok _ _ _) ?_
    rintro v h2 ⟨rfl, rfl⟩
    refine cnd (fun c3 => ?_) (fun c3 => ?_)
    · have c3 : ltInt s.2[first + (2 * s.1 + 1)]! s.2[first + (2 * s.1 + 1) + 1]! = true := c3
      rw [if_pos (by rw [decide_eq_true c2, c3]; rfl)] at i4
      refine And.intro (by kernel_rfl) ?_
      refine And.intro ⟨by omega, by omega⟩ ?_
      refine ⟨_, i3.ldI fr (by omega), ?_⟩
      refine And.intro ⟨by omega, by omega⟩ ?_
      refine ⟨_, i3.ldI f3 (by omega), ?_⟩
      refine callP (Less_ok _ _ _) ?_
      rintro v h3 ⟨rfl, rfl⟩
      refine cnd (fun c4 => ?_) (fun c4 => ?_)
      · have c4 : ¬ ltInt s.2[first + s.1]! s.2[first + (2 * s.1 + 2)]! = true := by simpa using c4
        refine And.intro rfl ?_
        rw [← i4]; rw [if_pos (by simpa using c4)]; exact ⟨i2, i3, i1⟩
      · have c4 : ltInt s.2[first + s.1]! s.2[first + (2 * s.1 + 2)]! = true := by simpa using c4
        rw [if_neg (by simpa using c4)] at i4
        rw [dif_pos (by omega)] at i4
        refine And.intro (by kernel_rfl) ?_
        refine And.intro ⟨by omega, by omega⟩ ?_
        refine ⟨_, i3.ldI f3 (by omega), ?_⟩
        refine And.intro ⟨by omega, by omega⟩ ?_
        refine ⟨_, i3.ldI fr (by omega), ?_⟩
        refine And.intro ⟨by omega, by omega⟩ ?_
        refine ⟨_, i3.stI (lo := lo) hb fr (i := first + s.1) (by omega) _, ?_⟩
        refine And.intro ⟨by omega, by omega⟩ ?_
        refine ⟨_, (i3.sw1 (first + s.1) (first + (2 * s.1 + 2))).stI (lo := lo) hb f3 (by rw [Array.size_setIfInBounds]; omega) _, ?_⟩
        exact again (2 * s.1 + 2, swp s.2 (first + s.1) (first + (2 * s.1 + 2))) _ _ _ (by show hi - (2 * s.1 + 2) < hi - s.1; omega) ⟨by rw [← w4]; rfl, rfl, rfl, rfl, trivial⟩ trivial ⟨by show 2 * s.1 + 2 ≤ n; omega, by show (swp s.2 (first + s.1) (first + (2 * s.1 + 2))).size = n; rw [swp_size']; exact i1, i2.trans (hsw_ext _ _), i3.sw _ _, i4⟩
    · have c3 : ltInt s.2[first + (2 * s.1 + 1)]! s.2[first + (2 * s.1 + 1) + 1]! = false := c3
      rw [if_neg (by rw [c3]; simp)] at i4
      refine And.intro (by kernel_rfl) ?_
      refine And.intro ⟨by omega, by omega⟩ ?_
      refine ⟨_, i3.ldI fr (by omega), ?_⟩
      refine And.intro ⟨by omega, by omega⟩ ?_
      refine ⟨_, i3.ldI f1 (by omega), ?_⟩
      refine callP (Less_ok _ _ _) ?_
      rintro v h3 ⟨rfl, rfl⟩
      refine cnd (fun c4 => ?_) (fun c4 => ?_)
      · have c4 : ¬ ltInt s.2[first + s.1]! s.2[first + (2 * s.1 + 1)]! = true := by simpa using c4
        refine And.intro rfl ?_
        rw [← i4]; rw [if_pos (by simpa using c4)]; exact ⟨i2, i3, i1⟩
      · have c4 : ltInt s.2[first + s.1]! s.2[first + (2 * s.1 + 1)]! = true := by simpa using c4
        rw [if_neg (by simpa using c4)] at i4
        refine And.intro (by kernel_rfl) ?_
        refine And.intro ⟨by omega, by omega⟩ ?_
        refine ⟨_, i3.ldI f1 (by omega), ?_⟩
        refine And.intro ⟨by omega, by omega⟩ ?_
        refine ⟨_, i3.ldI fr (by omega), ?_⟩
        refine And.intro ⟨by omega, by omega⟩ ?_
        refine ⟨_, i3.stI (lo := lo) hb fr (i := first + s.1) (by omega) _, ?_⟩
        refine And.intro ⟨by omega, by omega⟩ ?_
        refine ⟨_, (i3.sw1 (first + s.1) (first + (2 * s.1 + 1))).stI (lo := lo) hb f1 (by rw [Array.size_setIfInBounds]; omega) _, ?_⟩
        exact again (2 * s.1 + 1, swp s.2 (first + s.1) (first + (2 * s.1 + 1))) _ _ _ (by show hi - (2 * s.1 + 1) < hi - s.1; omega) ⟨by rw [← w3]; rfl, rfl, rfl, rfl, trivial⟩ trivial ⟨by show 2 * s.1 + 1 ≤ n; omega, by show (swp s.2 (first + s.1) (first + (2 * s.1 + 1))).size = n; rw [swp_size']; exact i1, i2.trans (hsw_ext _ _), i3.sw _ _, i4⟩
  · have c2 : ¬ 2 * s.1 + 1 + 1 < hi := by have := of_decide_eq_false c2; omega
    rw [if_neg (by rw [decide_eq_false c2]; simp)] at i4
    refine cndF ?_
    refine And.intro (by kernel_rfl) ?_
    refine And.intro ⟨by omega, by omega⟩ ?_
    refine ⟨_, i3.ldI fr (by omega), ?_⟩
    refine And.intro ⟨by omega, by omega⟩ ?_
    refine ⟨_, i3.ldI f1 (by omega), ?_⟩
    refine callP (Less_ok _ _ _) ?_
    rintro v h3 ⟨rfl, rfl⟩
    refine cnd (fun c4 => ?_) (fun c4 => ?_)
    · have c4 : ¬ ltInt s.2[first + s.1]! s.2[first + (2 * s.1 + 1)]! = true := by simpa using c4
      refine And.intro rfl ?_
      rw [← i4]; rw [if_pos (by simpa using c4)]; exact ⟨i2, i3, i1⟩
    · have c4 : ltInt s.2[first + s.1]! s.2[first + (2 * s.1 + 1)]! = true := by simpa using c4
      rw [if_neg (by simpa using c4)] at i4
      refine And.intro (by kernel_rfl) ?_
      refine And.intro ⟨by omega, by omega⟩ ?_
      refine ⟨_, i3.ldI f1 (by omega), ?_⟩
      refine And.intro ⟨by omega, by omega⟩ ?_
      refine ⟨_, i3.ldI fr (by omega), ?_⟩
      refine And.intro ⟨by omega, by omega⟩ ?_
      refine ⟨_, i3.stI (lo := lo) hb fr (i := first + s.1) (by omega) _, ?_⟩
      refine And.intro ⟨by omega, by omega⟩ ?_
      refine ⟨_, (i3.sw1 (first + s.1) (first + (2 * s.1 + 1))).stI (lo := lo) hb f1 (by rw [Array.size_setIfInBounds]; omega) _, ?_⟩
      exact again (2 * s.1 + 1, swp s.2 (first + s.1) (first + (2 * s.1 + 1))) _ _ _ (by show hi - (2 * s.1 + 1) < hi - s.1; omega) ⟨by rw [← w3]; rfl, rfl, rfl, rfl, trivial⟩ trivial ⟨by show 2 * s.1 + 1 ≤ n; omega, by show (swp s.2 (first + s.1) (first + (2 * s.1 + 1))).size = n; rw [swp_size']; exact i1, i2.trans (hsw_ext _ _), i3.sw _ _, i4⟩
theorem heapBuild_stop (lt : Int → Int → Bool) (hi first : Nat) (d : Array Int) : heapBuild lt hi first 0 d = d := rfl
theorem heapSort_ok (b e n fl : Nat) (d0 : Array Int) (a c : Nat) (h : Hp) (r0 : AR h b e d0) (hn : d0.size = n) (ha : a ≤ c) (hc : c ≤ n) (hN : n < 2 ^ 31) (hb : lo ≤ b) : Tri X lo 87 [sa b e n fl, .int .i64 (a : Int), .int .i64 (c : Int)] h fun v h' => v = .tuple #[] ∧ PA b e n h (heapSort ltInt d0 a c) h' := by
  refine enter tbOk mtOk ⟨[], [(10, [0, 1, 2, 3, 4, 5, 6, 7, 8, 9, 10, 11, 12, 13, 14, 15, 16, 17, 18, 19], [0, 0, 0, 0, 0, 24, 0, 0, 0, 384, 960, 1984, 0, 0, 12288, 28672, 65475, 131011, 262143, 524287])]⟩ 400 Try.func87 rfl rfl rfl fun hlo => ?_
  have w1 : IntKind.i64.wrap ((c : Int) - (a : Int)) = ((c - a : Nat) : Int) := wz (by omega) (by omega)
  have w2 : IntKind.i64.wrap (IntKind.i64.wrap ((c : Int) - (a : Int)) - 1) = ((c - a : Nat) : Int) - 1 := wz (by omega) (by omega)
  have w3 : IntKind.i64.wrap ((IntKind.i64.wrap (IntKind.i64.wrap ((c : Int) - (a : Int)) - 1)).tdiv 2) = (((c - a - 1) / 2 + 1 : Nat) : Int) - 1 := by
    rw [w2]
    by_cases q : c - a = 0
    · rw [q]; rfl
    · rw [Int.tdiv_eq_ediv_of_nonneg (by omega), wr (by omega) (by omega)]; omega
  refine And.intro (by decide) ?_
  refine loop (σ := Nat × Array Int) tbOk mtOk ⟨[], [(10, [0, 1, 2, 3, 4, 5, 6, 7, 8, 9, 10, 11, 12, 13, 14, 15, 16, 17, 18, 19], [0, 0, 0, 0, 0, 24, 0, 0, 0, 384, 960, 1984, 0, 0, 12288, 28672, 65475, 131011, 262143, 524287])]⟩ (fun s => [(9, .v (.int .i64 ((s.1 : Int) - 1))), (8, .v (.int .i64 ((c - a : Nat) : Int))), (7, .v (.int .i64 0)), (6, .v (.int .i64 (a : Int))), (0, .v (sa b e n fl))]) (fun _ => []) (fun s h' => s.1 ≤ n + 1 ∧ s.2.size = n ∧ Ext1 b h h' ∧ AR h' b e s.2 ∧ heapBuild ltInt (c - a) a s.1 s.2 = heapBuild ltInt (c - a) a ((c - a - 1) / 2 + 1) d0) (fun s => s.1) 400 ((c - a - 1) / 2 + 1, d0) (fun _ => rfl) ⟨by rw [← w3]; rfl, by rw [← w1]; rfl, rfl, rfl, rfl, trivial⟩ trivial ⟨by show (c - a - 1) / 2 + 1 ≤ n + 1; omega, hn, (Ext.refl _).one b, r0, rfl⟩ (fun s h1 hI again => ?_)
  obtain ⟨i0, i1, i2, i3, i4⟩ := hI
  refine cnd (fun c1 => ?_) (fun c1 => ?_)
  · have c1 : 0 < s.1 := by have := of_decide_eq_true c1; omega
    obtain ⟨k, hk⟩ : ∃ k, s.1 = k + 1 := ⟨s.1 - 1, by omega⟩
    rw [hk, heapBuild] at i4
    have q1 : (s.1 : Int) - 1 = ((k : Nat) : Int) := by omega
    have ct : Tri X lo 108 [sa b e n fl, .int .i64 ((s.1 : Int) - 1), .int .i64 ((c - a : Nat) : Int), .int .i64 (a : Int)] h1 (fun v h' => v = .tuple #[] ∧ PA b e n h1 (siftDown ltInt (c - a) a k s.2) h') := by rw [q1]; exact siftDown_ok b e n fl s.2 k (c - a) a h1 i3 i1 (by omega) hN (by omega) hb
    refine callP ct ?_
    rintro v h2 ⟨rfl, e2, r2, sz⟩
    have w4 : IntKind.i64.wrap (((s.1 : Int) - 1) - 1) = ((k : Int)) - 1 := wz (by omega) (by omega)
    exact again (k, siftDown ltInt (c - a) a k s.2) _ _ _ (by show k < s.1; omega) ⟨by rw [← w4]; rfl, rfl, rfl, rfl, rfl, trivial⟩ trivial ⟨by show k ≤ n + 1; omega, sz, i2.trans e2, r2, i4⟩
  · have c1 : s.1 = 0 := by have := of_decide_eq_false c1; omega
    rw [c1, heapBuild] at i4
    have eS : heapSort ltInt d0 a c = heapPop ltInt a (c - a) s.2 := by unfold heapSort; rw [← i4]
    have w5 : IntKind.i64.wrap (((c - a : Nat) : Int) - 1) = ((c - a : Nat) : Int) - 1 := wz rfl (by omega)
    refine loop (σ := Nat × Array Int) tbOk mtOk ⟨[], [(10, [0, 1, 2, 3, 4, 5, 6, 7, 8, 9, 10, 11, 12, 13, 14, 15, 16, 17, 18, 19], [0, 0, 0, 0, 0, 24, 0, 0, 0, 384, 960, 1984, 0, 0, 12288, 28672, 65475, 131011, 262143, 524287])]⟩ (fun s => [(10, .v (.int .i64 ((s.1 : Int) - 1))), (7, .v (.int .i64 0)), (6, .v (.int .i64 (a : Int))), (0, .v (sa b e n fl))]) (fun _ => []) (fun s h' => s.1 ≤ c - a ∧ s.2.size = n ∧ Ext1 b h h' ∧ AR h' b e s.2 ∧ heapPop ltInt a s.1 s.2 = heapSort ltInt d0 a c) (fun s => s.1) 400 (c - a, s.2) (fun _ => rfl) ⟨congrArg (fun x => some (Sl.v (Value.int .i64 x))) w5, rfl, rfl, rfl, trivial⟩ trivial ⟨Nat.le_refl _, i1, i2, i3, eS.symm⟩ (fun u h2 hI again' => ?_)
    obtain ⟨j0, j1, j2, j3, j4⟩ := hI
    refine cnd (fun c2 => ?_) (fun c2 => ?_)
    · have c2 : 0 < u.1 := by have := of_decide_eq_true c2; omega
      obtain ⟨k, hk⟩ : ∃ k, u.1 = k + 1 := ⟨u.1 - 1, by omega⟩
      rw [hk, heapPop] at j4
      have q1 : (u.1 : Int) - 1 = ((k : Nat) : Int) := by omega
      have q2 : IntKind.i64.wrap ((a : Int) + ((u.1 : Int) - 1)) = ((a + k : Nat) : Int) := wz (by omega) (by omega)
      refine And.intro (by kernel_rfl) ?_
      refine And.intro ⟨by omega, by omega⟩ ?_
      refine ⟨_, j3.ldI q2 (by omega), ?_⟩
      refine And.intro ⟨by omega, by omega⟩ ?_
      refine ⟨_, j3.ldI rfl (by omega), ?_⟩
      refine And.intro ⟨by omega, by omega⟩ ?_
      refine ⟨_, j3.stI (lo := lo) hb rfl (i := a) (by omega) _, ?_⟩
      refine And.intro ⟨by omega, by omega⟩ ?_
      refine ⟨_, (j3.sw1 (a) (a + k)).stI (lo := lo) hb q2 (by rw [Array.size_setIfInBounds]; omega) _, ?_⟩
      have r2 := j3.sw a (a + k)
      have z2 : (swp u.2 a (a + k)).size = n := by rw [swp_size']; exact j1
      have x2 := j2.trans (hsw_ext (h := h2) (b := b) (e := e) (d := u.2) a (a + k))
      have ct : Tri X lo 108 [sa b e n fl, .int .i64 0, .int .i64 ((u.1 : Int) - 1), .int .i64 (a : Int)] (hsw h2 b e u.2 a (a + k)) (fun v h' => v = .tuple #[] ∧ PA b e n (hsw h2 b e u.2 a (a + k)) (siftDown ltInt k a 0 (swp u.2 a (a + k))) h') := by rw [q1]; exact siftDown_ok b e n fl _ 0 k a _ r2 z2 (by omega) hN (by omega) hb
      refine callP ct ?_
      rintro v h3 ⟨rfl, e3, r3, sz⟩
      have w4 : IntKind.i64.wrap (((u.1 : Int) - 1) - 1) = ((k : Int)) - 1 := wz (by omega) (by omega)
      exact again' (k, siftDown ltInt k a 0 (swp u.2 a (a + k))) _ _ _ (by show k < u.1; omega) ⟨by rw [← w4]; rfl, rfl, rfl, rfl, trivial⟩ trivial ⟨by show k ≤ c - a; omega, sz, x2.trans e3, r3, j4⟩
    · have c2 : u.1 = 0 := by have := of_decide_eq_false c2; omega
      rw [c2, heapPop] at j4
      refine And.intro rfl ?_
      rw [← j4]; exact ⟨j2, j3, j1⟩
end Go.Proofs.Ytgcbfhdlfajemaa.Id
/- A loop in a block, whose ways out are told together. -/
namespace Go.Id
set_option linter.unusedVariables false
open Go
section
variable {P : Program} {X : Ctx P} {T : Nat → Option TyI} {Mt : Nat → String → Option FuncId} {lo : Nat} {f : FuncId} {fn : Func} {Post : En} {h : Hp}
theorem loopX {σ : Type} (hT : TbOk P T) (hM : MtOk P Mt) (esc : Hint) (tm : σ → Tm) (lv : σ → Lv) (I : σ → Hp → Prop) (m : σ → Nat) (n : Nat) (E : σ → Hp → Prop) (n2 : Nat) {c : Code} {id : Nat} {k : List Item} {t : Tm} {ls : Lv} (s₀ : σ) (hin : ∀ s, tmIn (tm s) (lv s).length = true) (ht : keeps (tm s₀) t) (hl : pre (lv s₀) ls) (hI : I s₀ h)
    (round : ∀ s h, I s h → (∀ s' h' t' ls', m s' < m s → keeps (tm s') t' → pre (lv s') ls' → I s' h' → R X lo f fn Post (.inLoop c :: .inBlock id :: k) t' ls' h') →
      (∀ s' h' t' ls', keeps (tm s') t' → pre (lv s') ls' → E s' h' → R X lo f fn Post k t' ls' h') →
      vc X T Mt lo f fn esc Post n (.code c :: .inLoop c :: .inBlock id :: k) (tm s) (lv s) h)
    (cont : ∀ s h, E s h → vc X T Mt lo f fn esc Post n2 k (tm s) (lv s) h) : R X lo f fn Post (.code (.loop c) :: .inBlock id :: k) t ls h :=
  loop hT hM esc tm lv I m n s₀ hin ht hl hI fun s h hI again => round s h hI again fun s' h' t' ls' ht hl hE => R_trim ht (hin s') hl (vc_ok hT hM n2 _ _ _ _ (cont s' h' hE))
/-- Ways that part are told together where they meet again. -/
theorem joinK {σ : Type} (hT : TbOk P T) (hM : MtOk P Mt) (esc : Hint) (tm : σ → Tm) (lv : σ → Lv) (E : σ → Hp → Prop) (n n2 : Nat) {it : Item} {k : List Item} {t : Tm} {ls : Lv} (hin : ∀ s, tmIn (tm s) (lv s).length = true)
    (H : (∀ s' h' t' ls', keeps (tm s') t' → pre (lv s') ls' → E s' h' → R X lo f fn Post k t' ls' h') → vc X T Mt lo f fn esc Post n (it :: k) t ls h)
    (cont : ∀ s h, E s h → vc X T Mt lo f fn esc Post n2 k (tm s) (lv s) h) : R X lo f fn Post (it :: k) t ls h :=
  vc_ok hT hM n _ _ _ _ (H fun s' h' t' ls' ht hl hE => R_trim ht (hin s') hl (vc_ok hT hM n2 _ _ _ _ (cont s' h' hE)))
end
end Go.Id
/- The walk of Go's sort: partition. -/
namespace Go.Proofs.Ytgcbfhdlfajemaa.Id
open Go.Id Go.Sort
open Go.Proofs
set_option linter.unusedVariables false
set_option maxRecDepth 100000
variable {X : Ctx Try.prog} {lo : Nat}
theorem scanUp_go {p : Int → Bool} {d : Array Int} {j x : Nat} (h1 : x ≤ j) (h2 : p d[x]! = true) : scanUp p d j x = scanUp p d j (x + 1) := by
  rw [scanUp, if_pos (by rw [h2, decide_eq_true h1]; rfl)]
theorem scanUp_far {p : Int → Bool} {d : Array Int} {j x : Nat} (h1 : ¬ x ≤ j) : scanUp p d j x = x := by
  rw [scanUp, if_neg (by rw [decide_eq_false h1]; simp)]
theorem scanUp_stop {p : Int → Bool} {d : Array Int} {j x : Nat} (h2 : p d[x]! = false) : scanUp p d j x = x := by
  rw [scanUp, if_neg (by rw [h2]; simp)]
theorem scanDown_go {p : Int → Bool} {d : Array Int} {i y : Nat} (h0 : 1 ≤ y) (h1 : i ≤ y) (h2 : p d[y]! = true) : scanDown p d i y = scanDown p d i (y - 1) := by
  obtain ⟨k, rfl⟩ : ∃ k, y = k + 1 := ⟨y - 1, by omega⟩
  rw [scanDown, if_pos (by rw [h2, decide_eq_true h1]; rfl)]; rfl
theorem scanDown_far {p : Int → Bool} {d : Array Int} {i y : Nat} (h1 : ¬ i ≤ y) : scanDown p d i y = y := by
  cases y with
  | zero => rfl
  | succ k => rw [scanDown, if_neg (by rw [decide_eq_false h1]; simp)]
theorem scanDown_stop {p : Int → Bool} {d : Array Int} {i y : Nat} (h2 : p d[y]! = false) : scanDown p d i y = y := by
  cases y with
  | zero => rfl
  | succ k => rw [scanDown, if_neg (by rw [h2]; simp)]
theorem vI {x y : Int} (h : x = y) : some (Sl.v (Value.int .i64 x)) = some (Sl.v (Value.int .i64 y)) := by rw [h]
theorem swp_sz {d : Array Int} {n : Nat} (h : d.size = n) (i j : Nat) : (swp d i j).size = n := by rw [swp_size']; exact h
theorem partition_ok (b e n fl : Nat) (d0 : Array Int) (a c pv : Nat) (h : Hp) (r0 : AR h b e d0) (hn : d0.size = n) (ha : a ≤ pv) (hp : pv < c) (hc : c ≤ n) (hN : n < 2 ^ 31) (hb : lo ≤ b) : Tri X lo 94 [sa b e n fl, .int .i64 (a : Int), .int .i64 (c : Int), .int .i64 (pv : Int)] h fun v h' => v = .tuple #[.int .i64 ((partition ltInt d0 a c pv).1 : Int), .bool (partition ltInt d0 a c pv).2.1] ∧ PA b e n h (partition ltInt d0 a c pv).2.2 h' := by
  refine enter tbOk mtOk ⟨[], [(1, [0, 1, 2, 3, 4, 5, 6, 7, 8, 9, 10, 11, 12, 13, 14, 15], [0, 0, 0, 0, 0, 0, 48, 112, 0, 0, 768, 1792, 4083, 8179, 16383, 32767]), (3, [0, 1, 2, 3, 4, 5, 6, 7, 8, 9, 10, 11, 12, 13], [0, 0, 3, 7, 15, 15, 63, 127, 15, 15, 783, 1807, 4095, 8191]), (5, [0, 1, 2, 3, 4, 5, 6, 7, 8, 9, 10, 11, 12, 13, 14], [0, 0, 3, 7, 15, 15, 63, 127, 15, 15, 783, 1807, 4095, 8191, 16383]), (8, [0, 1, 2, 3, 4, 5, 6, 7, 8, 9, 10, 11, 12, 13, 14, 15], [0, 0, 0, 0, 0, 0, 48, 112, 0, 0, 768, 1792, 4083, 8179, 16383, 32767]), (10, [0, 1, 2, 3, 4, 5, 6, 7, 8, 9, 10, 11, 12, 13, 14, 15], [0, 0, 0, 0, 0, 0, 48, 112, 0, 0, 768, 1792, 4083, 8179, 16383, 32767]), (13, [0, 1, 2, 3, 4, 5, 6, 7, 8, 9, 10, 11, 12, 13], [0, 0, 3, 7, 15, 15, 63, 127, 15, 15, 783, 1807, 4095, 8191]), (15, [0, 1, 2, 3, 4, 5, 6, 7, 8, 9, 10, 11, 12, 13, 14], [0, 0, 3, 7, 15, 15, 63, 127, 15, 15, 783, 1807, 4095, 8191, 16383]), (18, [0, 1, 2, 3, 4, 5, 6, 7, 8, 9, 10, 11, 12, 13, 14, 15], [0, 0, 0, 0, 0, 0, 48, 112, 0, 0, 768, 1792, 4083, 8179, 16383, 32767]), (21, [0, 1, 2, 3, 4, 5, 6, 7, 8, 9, 10, 11, 12, 13, 14, 15], [0, 0, 0, 0, 0, 0, 48, 112, 0, 0, 768, 1792, 4083, 8179, 16383, 32767])]⟩ 400 Try.func94 rfl rfl rfl fun hlo => ?_
  have w1 : IntKind.i64.wrap ((a : Int) + 1) = ((a + 1 : Nat) : Int) := wz (by omega) (by omega)
  have w2 : IntKind.i64.wrap ((c : Int) - 1) = ((c - 1 : Nat) : Int) := wz (by omega) (by omega)
  refine And.intro (by kernel_rfl) ?_
  refine And.intro ⟨by omega, by omega⟩ ?_
  refine ⟨_, r0.ldI rfl (by omega), ?_⟩
  refine And.intro ⟨by omega, by omega⟩ ?_
  refine ⟨_, r0.ldI rfl (by omega), ?_⟩
  refine And.intro ⟨by omega, by omega⟩ ?_
  refine ⟨_, r0.stI (lo := lo) hb rfl (i := a) (by omega) _, ?_⟩
  refine And.intro ⟨by omega, by omega⟩ ?_
  refine ⟨hsw h b e d0 (a) (pv), (r0.sw1 (a) (pv)).stI (lo := lo) hb rfl (by rw [Array.size_setIfInBounds]; omega) _, ?_⟩
  have r1 := r0.sw a pv
  have z1 := swp_sz hn a pv
  have x1 := hsw_ext (h := h) (b := b) (e := e) (d := d0) a pv
  have eP : partition ltInt d0 a c pv = (if scanUp (fun x => ltInt x (swp d0 a pv)[a]!) (swp d0 a pv) (c - 1) (a + 1) > scanDown (fun x => !ltInt x (swp d0 a pv)[a]!) (swp d0 a pv) (scanUp (fun x => ltInt x (swp d0 a pv)[a]!) (swp d0 a pv) (c - 1) (a + 1)) (c - 1) then (scanDown (fun x => !ltInt x (swp d0 a pv)[a]!) (swp d0 a pv) (scanUp (fun x => ltInt x (swp d0 a pv)[a]!) (swp d0 a pv) (c - 1) (a + 1)) (c - 1), true, swp (swp d0 a pv) (scanDown (fun x => !ltInt x (swp d0 a pv)[a]!) (swp d0 a pv) (scanUp (fun x => ltInt x (swp d0 a pv)[a]!) (swp d0 a pv) (c - 1) (a + 1)) (c - 1)) a) else ((partLoop ltInt a (scanUp (fun x => ltInt x (swp d0 a pv)[a]!) (swp d0 a pv) (c - 1) (a + 1) + 1) (scanDown (fun x => !ltInt x (swp d0 a pv)[a]!) (swp d0 a pv) (scanUp (fun x => ltInt x (swp d0 a pv)[a]!) (swp d0 a pv) (c - 1) (a + 1)) (c - 1) - 1) (swp (swp d0 a pv) (scanUp (fun x => ltInt x (swp d0 a pv)[a]!) (swp d0 a pv) (c - 1) (a + 1)) (scanDown (fun x => !ltInt x (swp d0 a pv)[a]!) (swp d0 a pv) (scanUp (fun x => ltInt x (swp d0 a pv)[a]!) (swp d0 a pv) (c - 1) (a + 1)) (c - 1)))).1, false, swp (partLoop ltInt a (scanUp (fun x => ltInt x (swp d0 a pv)[a]!) (swp d0 a pv) (c - 1) (a + 1) + 1) (scanDown (fun x => !ltInt x (swp d0 a pv)[a]!) (swp d0 a pv) (scanUp (fun x => ltInt x (swp d0 a pv)[a]!) (swp d0 a pv) (c - 1) (a + 1)) (c - 1) - 1) (swp (swp d0 a pv) (scanUp (fun x => ltInt x (swp d0 a pv)[a]!) (swp d0 a pv) (c - 1) (a + 1)) (scanDown (fun x => !ltInt x (swp d0 a pv)[a]!) (swp d0 a pv) (scanUp (fun x => ltInt x (swp d0 a pv)[a]!) (swp d0 a pv) (c - 1) (a + 1)) (c - 1)))).2 (partLoop ltInt a (scanUp (fun x => ltInt x (swp d0 a pv)[a]!) (swp d0 a pv) (c - 1) (a + 1) + 1) (scanDown (fun x => !ltInt x (swp d0 a pv)[a]!) (swp d0 a pv) (scanUp (fun x => ltInt x (swp d0 a pv)[a]!) (swp d0 a pv) (c - 1) (a + 1)) (c - 1) - 1) (swp (swp d0 a pv) (scanUp (fun x => ltInt x (swp d0 a pv)[a]!) (swp d0 a pv) (c - 1) (a + 1)) (scanDown (fun x => !ltInt x (swp d0 a pv)[a]!) (swp d0 a pv) (scanUp (fun x => ltInt x (swp d0 a pv)[a]!) (swp d0 a pv) (c - 1) (a + 1)) (c - 1)))).1 a)) := rfl
  generalize hsw h b e d0 a pv = h1 at r1 x1 ⊢
  generalize swp d0 a pv = d1 at r1 z1 eP
  refine loopX (σ := Nat) tbOk mtOk ⟨[], [(1, [0, 1, 2, 3, 4, 5, 6, 7, 8, 9, 10, 11, 12, 13, 14, 15], [0, 0, 0, 0, 0, 0, 48, 112, 0, 0, 768, 1792, 4083, 8179, 16383, 32767]), (3, [0, 1, 2, 3, 4, 5, 6, 7, 8, 9, 10, 11, 12, 13], [0, 0, 3, 7, 15, 15, 63, 127, 15, 15, 783, 1807, 4095, 8191]), (5, [0, 1, 2, 3, 4, 5, 6, 7, 8, 9, 10, 11, 12, 13, 14], [0, 0, 3, 7, 15, 15, 63, 127, 15, 15, 783, 1807, 4095, 8191, 16383]), (8, [0, 1, 2, 3, 4, 5, 6, 7, 8, 9, 10, 11, 12, 13, 14, 15], [0, 0, 0, 0, 0, 0, 48, 112, 0, 0, 768, 1792, 4083, 8179, 16383, 32767]), (10, [0, 1, 2, 3, 4, 5, 6, 7, 8, 9, 10, 11, 12, 13, 14, 15], [0, 0, 0, 0, 0, 0, 48, 112, 0, 0, 768, 1792, 4083, 8179, 16383, 32767]), (13, [0, 1, 2, 3, 4, 5, 6, 7, 8, 9, 10, 11, 12, 13], [0, 0, 3, 7, 15, 15, 63, 127, 15, 15, 783, 1807, 4095, 8191]), (15, [0, 1, 2, 3, 4, 5, 6, 7, 8, 9, 10, 11, 12, 13, 14], [0, 0, 3, 7, 15, 15, 63, 127, 15, 15, 783, 1807, 4095, 8191, 16383]), (18, [0, 1, 2, 3, 4, 5, 6, 7, 8, 9, 10, 11, 12, 13, 14, 15], [0, 0, 0, 0, 0, 0, 48, 112, 0, 0, 768, 1792, 4083, 8179, 16383, 32767]), (21, [0, 1, 2, 3, 4, 5, 6, 7, 8, 9, 10, 11, 12, 13, 14, 15], [0, 0, 0, 0, 0, 0, 48, 112, 0, 0, 768, 1792, 4083, 8179, 16383, 32767])]⟩ (fun x => [(10, .v (.int .i64 ((x : Nat) : Int))), (11, .v (.int .i64 (((c - 1) : Nat) : Int))), (0, .v (sa b e n fl)), (1, .v (.int .i64 (a : Int)))]) (fun _ => []) (fun x h' => (a + 1) ≤ x ∧ h1 = h' ∧ scanUp (fun x => ltInt x d1[a]!) d1 (c - 1) x = scanUp (fun x => ltInt x d1[a]!) d1 (c - 1) (a + 1)) (fun x => (c - 1) + 1 - x) 5 (fun x h' => (a + 1) ≤ x ∧ h1 = h' ∧ x = scanUp (fun x => ltInt x d1[a]!) d1 (c - 1) (a + 1)) 400 ((a + 1)) (fun _ => rfl) ⟨vI w1, vI w2, rfl, rfl, trivial⟩ trivial ⟨Nat.le_refl _, rfl, rfl⟩ (fun x hz hI again' done => ?_) (fun x hz hE => ?_)
  · obtain ⟨u0, rfl, u3⟩ := hI
    refine And.intro (by kernel_rfl) ?_
    refine cnd (fun k1 => ?_) (fun k1 => ?_)
    · have k1 : x ≤ (c - 1) := by have := of_decide_eq_true k1; omega
      have kw : IntKind.i64.wrap ((x : Int) + 1) = ((x + 1 : Nat) : Int) := wz (by omega) (by omega)
      refine And.intro ⟨by omega, by omega⟩ ?_
      refine ⟨_, r1.ldI rfl (by omega), ?_⟩
      refine And.intro ⟨by omega, by omega⟩ ?_
      refine ⟨_, r1.ldI rfl (by omega), ?_⟩
      refine callP (Less_ok _ _ _) ?_
      rintro v hy ⟨rfl, rfl⟩
      refine cnd (fun k2 => ?_) (fun k2 => ?_)
      · skip
        have u3' := (scanUp_go (p := (fun x => ltInt x d1[a]!)) k1 (by simpa using k2)).symm.trans u3
        refine more tbOk mtOk ⟨[], [(1, [0, 1, 2, 3, 4, 5, 6, 7, 8, 9, 10, 11, 12, 13, 14, 15], [0, 0, 0, 0, 0, 0, 48, 112, 0, 0, 768, 1792, 4083, 8179, 16383, 32767]), (3, [0, 1, 2, 3, 4, 5, 6, 7, 8, 9, 10, 11, 12, 13], [0, 0, 3, 7, 15, 15, 63, 127, 15, 15, 783, 1807, 4095, 8191]), (5, [0, 1, 2, 3, 4, 5, 6, 7, 8, 9, 10, 11, 12, 13, 14], [0, 0, 3, 7, 15, 15, 63, 127, 15, 15, 783, 1807, 4095, 8191, 16383]), (8, [0, 1, 2, 3, 4, 5, 6, 7, 8, 9, 10, 11, 12, 13, 14, 15], [0, 0, 0, 0, 0, 0, 48, 112, 0, 0, 768, 1792, 4083, 8179, 16383, 32767]), (10, [0, 1, 2, 3, 4, 5, 6, 7, 8, 9, 10, 11, 12, 13, 14, 15], [0, 0, 0, 0, 0, 0, 48, 112, 0, 0, 768, 1792, 4083, 8179, 16383, 32767]), (13, [0, 1, 2, 3, 4, 5, 6, 7, 8, 9, 10, 11, 12, 13], [0, 0, 3, 7, 15, 15, 63, 127, 15, 15, 783, 1807, 4095, 8191]), (15, [0, 1, 2, 3, 4, 5, 6, 7, 8, 9, 10, 11, 12, 13, 14], [0, 0, 3, 7, 15, 15, 63, 127, 15, 15, 783, 1807, 4095, 8191, 16383]), (18, [0, 1, 2, 3, 4, 5, 6, 7, 8, 9, 10, 11, 12, 13, 14, 15], [0, 0, 0, 0, 0, 0, 48, 112, 0, 0, 768, 1792, 4083, 8179, 16383, 32767]), (21, [0, 1, 2, 3, 4, 5, 6, 7, 8, 9, 10, 11, 12, 13, 14, 15], [0, 0, 0, 0, 0, 0, 48, 112, 0, 0, 768, 1792, 4083, 8179, 16383, 32767])]⟩ 400 ?_
        exact again' (x + 1) _ _ _ (by show (c - 1) + 1 - (x + 1) < (c - 1) + 1 - x; omega) ⟨vI kw, rfl, rfl, rfl, trivial⟩ trivial ⟨by omega, rfl, u3'⟩
      · exact done x _ _ _ ⟨rfl, rfl, rfl, rfl, trivial⟩ trivial ⟨u0, rfl, (scanUp_stop (p := (fun x => ltInt x d1[a]!)) (d := d1) (j := (c - 1)) (by simpa using k2)).symm.trans u3⟩
    · have k1 : ¬ x ≤ (c - 1) := by have := of_decide_eq_false k1; omega
      refine cndF ?_
      exact done x _ _ _ ⟨rfl, rfl, rfl, rfl, trivial⟩ trivial ⟨u0, rfl, (scanUp_far k1).symm.trans u3⟩
  · obtain ⟨v0, rfl, v3⟩ := hE
    have v3u := v3
    have v0u := v0
    clear v3 v0
    refine loopX (σ := Nat) tbOk mtOk ⟨[], [(1, [0, 1, 2, 3, 4, 5, 6, 7, 8, 9, 10, 11, 12, 13, 14, 15], [0, 0, 0, 0, 0, 0, 48, 112, 0, 0, 768, 1792, 4083, 8179, 16383, 32767]), (3, [0, 1, 2, 3, 4, 5, 6, 7, 8, 9, 10, 11, 12, 13], [0, 0, 3, 7, 15, 15, 63, 127, 15, 15, 783, 1807, 4095, 8191]), (5, [0, 1, 2, 3, 4, 5, 6, 7, 8, 9, 10, 11, 12, 13, 14], [0, 0, 3, 7, 15, 15, 63, 127, 15, 15, 783, 1807, 4095, 8191, 16383]), (8, [0, 1, 2, 3, 4, 5, 6, 7, 8, 9, 10, 11, 12, 13, 14, 15], [0, 0, 0, 0, 0, 0, 48, 112, 0, 0, 768, 1792, 4083, 8179, 16383, 32767]), (10, [0, 1, 2, 3, 4, 5, 6, 7, 8, 9, 10, 11, 12, 13, 14, 15], [0, 0, 0, 0, 0, 0, 48, 112, 0, 0, 768, 1792, 4083, 8179, 16383, 32767]), (13, [0, 1, 2, 3, 4, 5, 6, 7, 8, 9, 10, 11, 12, 13], [0, 0, 3, 7, 15, 15, 63, 127, 15, 15, 783, 1807, 4095, 8191]), (15, [0, 1, 2, 3, 4, 5, 6, 7, 8, 9, 10, 11, 12, 13, 14], [0, 0, 3, 7, 15, 15, 63, 127, 15, 15, 783, 1807, 4095, 8191, 16383]), (18, [0, 1, 2, 3, 4, 5, 6, 7, 8, 9, 10, 11, 12, 13, 14, 15], [0, 0, 0, 0, 0, 0, 48, 112, 0, 0, 768, 1792, 4083, 8179, 16383, 32767]), (21, [0, 1, 2, 3, 4, 5, 6, 7, 8, 9, 10, 11, 12, 13, 14, 15], [0, 0, 0, 0, 0, 0, 48, 112, 0, 0, 768, 1792, 4083, 8179, 16383, 32767])]⟩ (fun y => [(10, .v (.int .i64 ((x : Nat) : Int))), (11, .v (.int .i64 ((y : Nat) : Int))), (0, .v (sa b e n fl)), (1, .v (.int .i64 (a : Int)))]) (fun _ => []) (fun y h' => y ≤ (c - 1) ∧ h1 = h' ∧ scanDown (fun x => !ltInt x d1[a]!) d1 x y = scanDown (fun x => !ltInt x d1[a]!) d1 x (c - 1)) (fun y => y) 5 (fun y h' => y ≤ (c - 1) ∧ h1 = h' ∧ y = scanDown (fun x => !ltInt x d1[a]!) d1 x (c - 1)) 400 ((c - 1)) (fun _ => rfl) ⟨rfl, rfl, rfl, rfl, trivial⟩ trivial ⟨Nat.le_refl _, rfl, rfl⟩ (fun y hz hI again' done => ?_) (fun y hz hE => ?_)
    · obtain ⟨u0, rfl, u3⟩ := hI
      refine And.intro (by kernel_rfl) ?_
      refine cnd (fun k1 => ?_) (fun k1 => ?_)
      · have k1 : x ≤ y := by have := of_decide_eq_true k1; omega
        have kw : IntKind.i64.wrap ((y : Int) - 1) = ((y - 1 : Nat) : Int) := wz (by omega) (by omega)
        refine And.intro ⟨by omega, by omega⟩ ?_
        refine ⟨_, r1.ldI rfl (by omega), ?_⟩
        refine And.intro ⟨by omega, by omega⟩ ?_
        refine ⟨_, r1.ldI rfl (by omega), ?_⟩
        refine callP (Less_ok _ _ _) ?_
        rintro v hy ⟨rfl, rfl⟩
        refine cnd (fun k2 => ?_) (fun k2 => ?_)
        · skip
          have u3' := (scanDown_go (p := (fun x => !ltInt x d1[a]!)) (by omega) k1 (by simpa using k2)).symm.trans u3
          refine more tbOk mtOk ⟨[], [(1, [0, 1, 2, 3, 4, 5, 6, 7, 8, 9, 10, 11, 12, 13, 14, 15], [0, 0, 0, 0, 0, 0, 48, 112, 0, 0, 768, 1792, 4083, 8179, 16383, 32767]), (3, [0, 1, 2, 3, 4, 5, 6, 7, 8, 9, 10, 11, 12, 13], [0, 0, 3, 7, 15, 15, 63, 127, 15, 15, 783, 1807, 4095, 8191]), (5, [0, 1, 2, 3, 4, 5, 6, 7, 8, 9, 10, 11, 12, 13, 14], [0, 0, 3, 7, 15, 15, 63, 127, 15, 15, 783, 1807, 4095, 8191, 16383]), (8, [0, 1, 2, 3, 4, 5, 6, 7, 8, 9, 10, 11, 12, 13, 14, 15], [0, 0, 0, 0, 0, 0, 48, 112, 0, 0, 768, 1792, 4083, 8179, 16383, 32767]), (10, [0, 1, 2, 3, 4, 5, 6, 7, 8, 9, 10, 11, 12, 13, 14, 15], [0, 0, 0, 0, 0, 0, 48, 112, 0, 0, 768, 1792, 4083, 8179, 16383, 32767]), (13, [0, 1, 2, 3, 4, 5, 6, 7, 8, 9, 10, 11, 12, 13], [0, 0, 3, 7, 15, 15, 63, 127, 15, 15, 783, 1807, 4095, 8191]), (15, [0, 1, 2, 3, 4, 5, 6, 7, 8, 9, 10, 11, 12, 13, 14], [0, 0, 3, 7, 15, 15, 63, 127, 15, 15, 783, 1807, 4095, 8191, 16383]), (18, [0, 1, 2, 3, 4, 5, 6, 7, 8, 9, 10, 11, 12, 13, 14, 15], [0, 0, 0, 0, 0, 0, 48, 112, 0, 0, 768, 1792, 4083, 8179, 16383, 32767]), (21, [0, 1, 2, 3, 4, 5, 6, 7, 8, 9, 10, 11, 12, 13, 14, 15], [0, 0, 0, 0, 0, 0, 48, 112, 0, 0, 768, 1792, 4083, 8179, 16383, 32767])]⟩ 400 ?_
          exact again' (y - 1) _ _ _ (by show y - 1 < y; omega) ⟨rfl, vI kw, rfl, rfl, trivial⟩ trivial ⟨by omega, rfl, u3'⟩
        · exact done y _ _ _ ⟨rfl, rfl, rfl, rfl, trivial⟩ trivial ⟨u0, rfl, (scanDown_stop (p := (fun x => !ltInt x d1[a]!)) (d := d1) (i := x) (by simpa using k2)).symm.trans u3⟩
      · have k1 : ¬ x ≤ y := by have := of_decide_eq_false k1; omega
        refine cndF ?_
        exact done y _ _ _ ⟨rfl, rfl, rfl, rfl, trivial⟩ trivial ⟨u0, rfl, (scanDown_far k1).symm.trans u3⟩
    · obtain ⟨v0, rfl, v3⟩ := hE
      rw [← v3u] at eP
      rw [← v3] at eP
      refine cnd (fun c1 => ?_) (fun c1 => ?_)
      · have c1 : x > y := by have := of_decide_eq_true c1; omega
        rw [if_pos c1] at eP
        refine And.intro (by kernel_rfl) ?_
        refine And.intro ⟨by omega, by omega⟩ ?_
        refine ⟨_, r1.ldI rfl (by omega), ?_⟩
        refine And.intro ⟨by omega, by omega⟩ ?_
        refine ⟨_, r1.ldI rfl (by omega), ?_⟩
        refine And.intro ⟨by omega, by omega⟩ ?_
        refine ⟨_, r1.stI (lo := lo) hb rfl (i := y) (by omega) _, ?_⟩
        refine And.intro ⟨by omega, by omega⟩ ?_
        refine ⟨_, (r1.sw1 (y) (a)).stI (lo := lo) hb rfl (by rw [Array.size_setIfInBounds]; omega) _, ?_⟩
        rw [eP]
        exact And.intro rfl ⟨x1.trans (hsw_ext y a), r1.sw y a, swp_sz z1 y a⟩
      · have c1 : ¬ x > y := by have := of_decide_eq_false c1; omega
        rw [if_neg c1] at eP
        refine And.intro (by kernel_rfl) ?_
        refine And.intro ⟨by omega, by omega⟩ ?_
        refine ⟨_, r1.ldI rfl (by omega), ?_⟩
        refine And.intro ⟨by omega, by omega⟩ ?_
        refine ⟨_, r1.ldI rfl (by omega), ?_⟩
        refine And.intro ⟨by omega, by omega⟩ ?_
        refine ⟨_, r1.stI (lo := lo) hb rfl (i := x) (by omega) _, ?_⟩
        refine And.intro ⟨by omega, by omega⟩ ?_
        refine ⟨_, (r1.sw1 (x) (y)).stI (lo := lo) hb rfl (by rw [Array.size_setIfInBounds]; omega) _, ?_⟩
        have wx : IntKind.i64.wrap ((x : Int) + 1) = ((x + 1 : Nat) : Int) := wz (by omega) (by omega)
        have wy : IntKind.i64.wrap ((y : Int) - 1) = ((y - 1 : Nat) : Int) := wz (by omega) (by omega)
        refine loop (σ := Nat × Nat × Array Int) tbOk mtOk ⟨[], [(1, [0, 1, 2, 3, 4, 5, 6, 7, 8, 9, 10, 11, 12, 13, 14, 15], [0, 0, 0, 0, 0, 0, 48, 112, 0, 0, 768, 1792, 4083, 8179, 16383, 32767]), (3, [0, 1, 2, 3, 4, 5, 6, 7, 8, 9, 10, 11, 12, 13], [0, 0, 3, 7, 15, 15, 63, 127, 15, 15, 783, 1807, 4095, 8191]), (5, [0, 1, 2, 3, 4, 5, 6, 7, 8, 9, 10, 11, 12, 13, 14], [0, 0, 3, 7, 15, 15, 63, 127, 15, 15, 783, 1807, 4095, 8191, 16383]), (8, [0, 1, 2, 3, 4, 5, 6, 7, 8, 9, 10, 11, 12, 13, 14, 15], [0, 0, 0, 0, 0, 0, 48, 112, 0, 0, 768, 1792, 4083, 8179, 16383, 32767]), (10, [0, 1, 2, 3, 4, 5, 6, 7, 8, 9, 10, 11, 12, 13, 14, 15], [0, 0, 0, 0, 0, 0, 48, 112, 0, 0, 768, 1792, 4083, 8179, 16383, 32767]), (13, [0, 1, 2, 3, 4, 5, 6, 7, 8, 9, 10, 11, 12, 13], [0, 0, 3, 7, 15, 15, 63, 127, 15, 15, 783, 1807, 4095, 8191]), (15, [0, 1, 2, 3, 4, 5, 6, 7, 8, 9, 10, 11, 12, 13, 14], [0, 0, 3, 7, 15, 15, 63, 127, 15, 15, 783, 1807, 4095, 8191, 16383]), (18, [0, 1, 2, 3, 4, 5, 6, 7, 8, 9, 10, 11, 12, 13, 14, 15], [0, 0, 0, 0, 0, 0, 48, 112, 0, 0, 768, 1792, 4083, 8179, 16383, 32767]), (21, [0, 1, 2, 3, 4, 5, 6, 7, 8, 9, 10, 11, 12, 13, 14, 15], [0, 0, 0, 0, 0, 0, 48, 112, 0, 0, 768, 1792, 4083, 8179, 16383, 32767])]⟩ (fun s => [(10, .v (.int .i64 ((s.1 : Nat) : Int))), (11, .v (.int .i64 ((s.2.1 : Nat) : Int))), (0, .v (sa b e n fl)), (1, .v (.int .i64 (a : Int)))]) (fun _ => []) (fun s h' => a < s.1 ∧ s.2.1 < c ∧ Ext1 b h h' ∧ AR h' b e s.2.2 ∧ s.2.2.size = n ∧ partLoop ltInt a s.1 s.2.1 s.2.2 = partLoop ltInt a (x + 1) (y - 1) (swp d1 x y)) (fun s => s.2.1 + 1 - s.1) 400 (x + 1, y - 1, swp d1 x y) (fun _ => rfl) ⟨vI wx, vI wy, rfl, rfl, trivial⟩ trivial ⟨by show a < x + 1; omega, by show y - 1 < c; omega, x1.trans (hsw_ext x y), r1.sw x y, swp_sz z1 x y, rfl⟩ (fun s h2 hI again => ?_)
        obtain ⟨j1, j2, j3, j4, j5, j6⟩ := hI
        rw [partLoop_eq] at j6
        clear v3 v0 c1 wx wy v3u v0u
        generalize partLoop ltInt a (x + 1) (y - 1) (swp d1 x y) = RR at *
        clear x1 r1 z1
        refine loopX (σ := Nat) tbOk mtOk ⟨[], [(1, [0, 1, 2, 3, 4, 5, 6, 7, 8, 9, 10, 11, 12, 13, 14, 15], [0, 0, 0, 0, 0, 0, 48, 112, 0, 0, 768, 1792, 4083, 8179, 16383, 32767]), (3, [0, 1, 2, 3, 4, 5, 6, 7, 8, 9, 10, 11, 12, 13], [0, 0, 3, 7, 15, 15, 63, 127, 15, 15, 783, 1807, 4095, 8191]), (5, [0, 1, 2, 3, 4, 5, 6, 7, 8, 9, 10, 11, 12, 13, 14], [0, 0, 3, 7, 15, 15, 63, 127, 15, 15, 783, 1807, 4095, 8191, 16383]), (8, [0, 1, 2, 3, 4, 5, 6, 7, 8, 9, 10, 11, 12, 13, 14, 15], [0, 0, 0, 0, 0, 0, 48, 112, 0, 0, 768, 1792, 4083, 8179, 16383, 32767]), (10, [0, 1, 2, 3, 4, 5, 6, 7, 8, 9, 10, 11, 12, 13, 14, 15], [0, 0, 0, 0, 0, 0, 48, 112, 0, 0, 768, 1792, 4083, 8179, 16383, 32767]), (13, [0, 1, 2, 3, 4, 5, 6, 7, 8, 9, 10, 11, 12, 13], [0, 0, 3, 7, 15, 15, 63, 127, 15, 15, 783, 1807, 4095, 8191]), (15, [0, 1, 2, 3, 4, 5, 6, 7, 8, 9, 10, 11, 12, 13, 14], [0, 0, 3, 7, 15, 15, 63, 127, 15, 15, 783, 1807, 4095, 8191, 16383]), (18, [0, 1, 2, 3, 4, 5, 6, 7, 8, 9, 10, 11, 12, 13, 14, 15], [0, 0, 0, 0, 0, 0, 48, 112, 0, 0, 768, 1792, 4083, 8179, 16383, 32767]), (21, [0, 1, 2, 3, 4, 5, 6, 7, 8, 9, 10, 11, 12, 13, 14, 15], [0, 0, 0, 0, 0, 0, 48, 112, 0, 0, 768, 1792, 4083, 8179, 16383, 32767])]⟩ (fun x => [(10, .v (.int .i64 ((x : Nat) : Int))), (11, .v (.int .i64 ((s.2.1 : Nat) : Int))), (0, .v (sa b e n fl)), (1, .v (.int .i64 (a : Int)))]) (fun _ => []) (fun x h' => s.1 ≤ x ∧ h2 = h' ∧ scanUp (fun x => ltInt x s.2.2[a]!) s.2.2 s.2.1 x = scanUp (fun x => ltInt x s.2.2[a]!) s.2.2 s.2.1 s.1) (fun x => s.2.1 + 1 - x) 5 (fun x h' => s.1 ≤ x ∧ h2 = h' ∧ x = scanUp (fun x => ltInt x s.2.2[a]!) s.2.2 s.2.1 s.1) 400 (s.1) (fun _ => rfl) ⟨rfl, rfl, rfl, rfl, trivial⟩ trivial ⟨Nat.le_refl _, rfl, rfl⟩ (fun x hz hI again' done => ?_) (fun x hz hE => ?_)
        · obtain ⟨u0, rfl, u3⟩ := hI
          refine And.intro (by kernel_rfl) ?_
          refine cnd (fun k1 => ?_) (fun k1 => ?_)
          · have k1 : x ≤ s.2.1 := by have := of_decide_eq_true k1; omega
            have kw : IntKind.i64.wrap ((x : Int) + 1) = ((x + 1 : Nat) : Int) := wz (by omega) (by omega)
            refine And.intro ⟨by omega, by omega⟩ ?_
            refine ⟨_, j4.ldI rfl (by omega), ?_⟩
            refine And.intro ⟨by omega, by omega⟩ ?_
            refine ⟨_, j4.ldI rfl (by omega), ?_⟩
            refine callP (Less_ok _ _ _) ?_
            rintro v hy ⟨rfl, rfl⟩
            refine cnd (fun k2 => ?_) (fun k2 => ?_)
            · skip
              have u3' := (scanUp_go (p := (fun x => ltInt x s.2.2[a]!)) k1 (by simpa using k2)).symm.trans u3
              refine more tbOk mtOk ⟨[], [(1, [0, 1, 2, 3, 4, 5, 6, 7, 8, 9, 10, 11, 12, 13, 14, 15], [0, 0, 0, 0, 0, 0, 48, 112, 0, 0, 768, 1792, 4083, 8179, 16383, 32767]), (3, [0, 1, 2, 3, 4, 5, 6, 7, 8, 9, 10, 11, 12, 13], [0, 0, 3, 7, 15, 15, 63, 127, 15, 15, 783, 1807, 4095, 8191]), (5, [0, 1, 2, 3, 4, 5, 6, 7, 8, 9, 10, 11, 12, 13, 14], [0, 0, 3, 7, 15, 15, 63, 127, 15, 15, 783, 1807, 4095, 8191, 16383]), (8, [0, 1, 2, 3, 4, 5, 6, 7, 8, 9, 10, 11, 12, 13, 14, 15], [0, 0, 0, 0, 0, 0, 48, 112, 0, 0, 768, 1792, 4083, 8179, 16383, 32767]), (10, [0, 1, 2, 3, 4, 5, 6, 7, 8, 9, 10, 11, 12, 13, 14, 15], [0, 0, 0, 0, 0, 0, 48, 112, 0, 0, 768, 1792, 4083, 8179, 16383, 32767]), (13, [0, 1, 2, 3, 4, 5, 6, 7, 8, 9, 10, 11, 12, 13], [0, 0, 3, 7, 15, 15, 63, 127, 15, 15, 783, 1807, 4095, 8191]), (15, [0, 1, 2, 3, 4, 5, 6, 7, 8, 9, 10, 11, 12, 13, 14], [0, 0, 3, 7, 15, 15, 63, 127, 15, 15, 783, 1807, 4095, 8191, 16383]), (18, [0, 1, 2, 3, 4, 5, 6, 7, 8, 9, 10, 11, 12, 13, 14, 15], [0, 0, 0, 0, 0, 0, 48, 112, 0, 0, 768, 1792, 4083, 8179, 16383, 32767]), (21, [0, 1, 2, 3, 4, 5, 6, 7, 8, 9, 10, 11, 12, 13, 14, 15], [0, 0, 0, 0, 0, 0, 48, 112, 0, 0, 768, 1792, 4083, 8179, 16383, 32767])]⟩ 400 ?_
              exact again' (x + 1) _ _ _ (by show s.2.1 + 1 - (x + 1) < s.2.1 + 1 - x; omega) ⟨vI kw, rfl, rfl, rfl, trivial⟩ trivial ⟨by omega, rfl, u3'⟩
            · exact done x _ _ _ ⟨rfl, rfl, rfl, rfl, trivial⟩ trivial ⟨u0, rfl, (scanUp_stop (p := (fun x => ltInt x s.2.2[a]!)) (d := s.2.2) (j := s.2.1) (by simpa using k2)).symm.trans u3⟩
          · have k1 : ¬ x ≤ s.2.1 := by have := of_decide_eq_false k1; omega
            refine cndF ?_
            exact done x _ _ _ ⟨rfl, rfl, rfl, rfl, trivial⟩ trivial ⟨u0, rfl, (scanUp_far k1).symm.trans u3⟩
        · obtain ⟨v0, rfl, v3⟩ := hE
          have w3u := v3
          have w0u := v0
          clear v3 v0
          refine loopX (σ := Nat) tbOk mtOk ⟨[], [(1, [0, 1, 2, 3, 4, 5, 6, 7, 8, 9, 10, 11, 12, 13, 14, 15], [0, 0, 0, 0, 0, 0, 48, 112, 0, 0, 768, 1792, 4083, 8179, 16383, 32767]), (3, [0, 1, 2, 3, 4, 5, 6, 7, 8, 9, 10, 11, 12, 13], [0, 0, 3, 7, 15, 15, 63, 127, 15, 15, 783, 1807, 4095, 8191]), (5, [0, 1, 2, 3, 4, 5, 6, 7, 8, 9, 10, 11, 12, 13, 14], [0, 0, 3, 7, 15, 15, 63, 127, 15, 15, 783, 1807, 4095, 8191, 16383]), (8, [0, 1, 2, 3, 4, 5, 6, 7, 8, 9, 10, 11, 12, 13, 14, 15], [0, 0, 0, 0, 0, 0, 48, 112, 0, 0, 768, 1792, 4083, 8179, 16383, 32767]), (10, [0, 1, 2, 3, 4, 5, 6, 7, 8, 9, 10, 11, 12, 13, 14, 15], [0, 0, 0, 0, 0, 0, 48, 112, 0, 0, 768, 1792, 4083, 8179, 16383, 32767]), (13, [0, 1, 2, 3, 4, 5, 6, 7, 8, 9, 10, 11, 12, 13], [0, 0, 3, 7, 15, 15, 63, 127, 15, 15, 783, 1807, 4095, 8191]), (15, [0, 1, 2, 3, 4, 5, 6, 7, 8, 9, 10, 11, 12, 13, 14], [0, 0, 3, 7, 15, 15, 63, 127, 15, 15, 783, 1807, 4095, 8191, 16383]), (18, [0, 1, 2, 3, 4, 5, 6, 7, 8, 9, 10, 11, 12, 13, 14, 15], [0, 0, 0, 0, 0, 0, 48, 112, 0, 0, 768, 1792, 4083, 8179, 16383, 32767]), (21, [0, 1, 2, 3, 4, 5, 6, 7, 8, 9, 10, 11, 12, 13, 14, 15], [0, 0, 0, 0, 0, 0, 48, 112, 0, 0, 768, 1792, 4083, 8179, 16383, 32767])]⟩ (fun y => [(10, .v (.int .i64 ((x : Nat) : Int))), (11, .v (.int .i64 ((y : Nat) : Int))), (0, .v (sa b e n fl)), (1, .v (.int .i64 (a : Int)))]) (fun _ => []) (fun y h' => y ≤ s.2.1 ∧ h2 = h' ∧ scanDown (fun x => !ltInt x s.2.2[a]!) s.2.2 x y = scanDown (fun x => !ltInt x s.2.2[a]!) s.2.2 x s.2.1) (fun y => y) 5 (fun y h' => y ≤ s.2.1 ∧ h2 = h' ∧ y = scanDown (fun x => !ltInt x s.2.2[a]!) s.2.2 x s.2.1) 400 (s.2.1) (fun _ => rfl) ⟨rfl, rfl, rfl, rfl, trivial⟩ trivial ⟨Nat.le_refl _, rfl, rfl⟩ (fun y hz hI again' done => ?_) (fun y hz hE => ?_)
          · obtain ⟨u0, rfl, u3⟩ := hI
            refine And.intro (by kernel_rfl) ?_
            refine cnd (fun k1 => ?_) (fun k1 => ?_)
            · have k1 : x ≤ y := by have := of_decide_eq_true k1; omega
              have kw : IntKind.i64.wrap ((y : Int) - 1) = ((y - 1 : Nat) : Int) := wz (by omega) (by omega)
              refine And.intro ⟨by omega, by omega⟩ ?_
              refine ⟨_, j4.ldI rfl (by omega), ?_⟩
              refine And.intro ⟨by omega, by omega⟩ ?_
              refine ⟨_, j4.ldI rfl (by omega), ?_⟩
              refine callP (Less_ok _ _ _) ?_
              rintro v hy ⟨rfl, rfl⟩
              refine cnd (fun k2 => ?_) (fun k2 => ?_)
              · skip
                have u3' := (scanDown_go (p := (fun x => !ltInt x s.2.2[a]!)) (by omega) k1 (by simpa using k2)).symm.trans u3
                refine more tbOk mtOk ⟨[], [(1, [0, 1, 2, 3, 4, 5, 6, 7, 8, 9, 10, 11, 12, 13, 14, 15], [0, 0, 0, 0, 0, 0, 48, 112, 0, 0, 768, 1792, 4083, 8179, 16383, 32767]), (3, [0, 1, 2, 3, 4, 5, 6, 7, 8, 9, 10, 11, 12, 13], [0, 0, 3, 7, 15, 15, 63, 127, 15, 15, 783, 1807, 4095, 8191]), (5, [0, 1, 2, 3, 4, 5, 6, 7, 8, 9, 10, 11, 12, 13, 14], [0, 0, 3, 7, 15, 15, 63, 127, 15, 15, 783, 1807, 4095, 8191, 16383]), (8, [0, 1, 2, 3, 4, 5, 6, 7, 8, 9, 10, 11, 12, 13, 14, 15], [0, 0, 0, 0, 0, 0, 48, 112, 0, 0, 768, 1792, 4083, 8179, 16383, 32767]), (10, [0, 1, 2, 3, 4, 5, 6, 7, 8, 9, 10, 11, 12, 13, 14, 15], [0, 0, 0, 0, 0, 0, 48, 112, 0, 0, 768, 1792, 4083, 8179, 16383, 32767]), (13, [0, 1, 2, 3, 4, 5, 6, 7, 8, 9, 10, 11, 12, 13], [0, 0, 3, 7, 15, 15, 63, 127, 15, 15, 783, 1807, 4095, 8191]), (15, [0, 1, 2, 3, 4, 5, 6, 7, 8, 9, 10, 11, 12, 13, 14], [0, 0, 3, 7, 15, 15, 63, 127, 15, 15, 783, 1807, 4095, 8191, 16383]), (18, [0, 1, 2, 3, 4, 5, 6, 7, 8, 9, 10, 11, 12, 13, 14, 15], [0, 0, 0, 0, 0, 0, 48, 112, 0, 0, 768, 1792, 4083, 8179, 16383, 32767]), (21, [0, 1, 2, 3, 4, 5, 6, 7, 8, 9, 10, 11, 12, 13, 14, 15], [0, 0, 0, 0, 0, 0, 48, 112, 0, 0, 768, 1792, 4083, 8179, 16383, 32767])]⟩ 400 ?_
                exact again' (y - 1) _ _ _ (by show y - 1 < y; omega) ⟨rfl, vI kw, rfl, rfl, trivial⟩ trivial ⟨by omega, rfl, u3'⟩
              · exact done y _ _ _ ⟨rfl, rfl, rfl, rfl, trivial⟩ trivial ⟨u0, rfl, (scanDown_stop (p := (fun x => !ltInt x s.2.2[a]!)) (d := s.2.2) (i := x) (by simpa using k2)).symm.trans u3⟩
            · have k1 : ¬ x ≤ y := by have := of_decide_eq_false k1; omega
              refine cndF ?_
              exact done y _ _ _ ⟨rfl, rfl, rfl, rfl, trivial⟩ trivial ⟨u0, rfl, (scanDown_far k1).symm.trans u3⟩
          · obtain ⟨v0, rfl, v3⟩ := hE
            rw [← w3u] at j6
            rw [← v3] at j6
            refine cnd (fun c2 => ?_) (fun c2 => ?_)
            · have c2 : x > y := by have := of_decide_eq_true c2; omega
              rw [if_pos c2] at j6
              refine And.intro (by kernel_rfl) ?_
              refine And.intro ⟨by omega, by omega⟩ ?_
              refine ⟨_, j4.ldI rfl (by omega), ?_⟩
              refine And.intro ⟨by omega, by omega⟩ ?_
              refine ⟨_, j4.ldI rfl (by omega), ?_⟩
              refine And.intro ⟨by omega, by omega⟩ ?_
              refine ⟨_, j4.stI (lo := lo) hb rfl (i := y) (by omega) _, ?_⟩
              refine And.intro ⟨by omega, by omega⟩ ?_
              refine ⟨_, (j4.sw1 (y) (a)).stI (lo := lo) hb rfl (by rw [Array.size_setIfInBounds]; omega) _, ?_⟩
              rw [eP, ← j6]
              exact And.intro rfl ⟨j3.trans (hsw_ext y a), j4.sw y a, swp_sz j5 y a⟩
            · have c2 : ¬ x > y := by have := of_decide_eq_false c2; omega
              rw [if_neg c2] at j6
              refine And.intro (by kernel_rfl) ?_
              refine And.intro ⟨by omega, by omega⟩ ?_
              refine ⟨_, j4.ldI rfl (by omega), ?_⟩
              refine And.intro ⟨by omega, by omega⟩ ?_
              refine ⟨_, j4.ldI rfl (by omega), ?_⟩
              refine And.intro ⟨by omega, by omega⟩ ?_
              refine ⟨_, j4.stI (lo := lo) hb rfl (i := x) (by omega) _, ?_⟩
              refine And.intro ⟨by omega, by omega⟩ ?_
              refine ⟨_, (j4.sw1 (x) (y)).stI (lo := lo) hb rfl (by rw [Array.size_setIfInBounds]; omega) _, ?_⟩
              have wx : IntKind.i64.wrap ((x : Int) + 1) = ((x + 1 : Nat) : Int) := wz (by omega) (by omega)
              have wy : IntKind.i64.wrap ((y : Int) - 1) = ((y - 1 : Nat) : Int) := wz (by omega) (by omega)
              exact again (x + 1, y - 1, swp s.2.2 x y) _ _ _ (by show y - 1 + 1 - (x + 1) < s.2.1 + 1 - s.1; omega) ⟨vI wx, vI wy, rfl, rfl, trivial⟩ trivial ⟨by show a < x + 1; omega, by show y - 1 < c; omega, j3.trans (hsw_ext x y), j4.sw x y, swp_sz j5 x y, j6⟩
end Go.Proofs.Ytgcbfhdlfajemaa.Id
/- The walk of Go's sort: partition, equal. -/
namespace Go.Proofs.Ytgcbfhdlfajemaa.Id
open Go.Id Go.Sort
open Go.Proofs
set_option linter.unusedVariables false
set_option maxRecDepth 100000
variable {X : Ctx Try.prog} {lo : Nat}
theorem partitionEqual_ok (b e n fl : Nat) (d0 : Array Int) (a c pv : Nat) (h : Hp) (r0 : AR h b e d0) (hn : d0.size = n) (ha : a ≤ pv) (hp : pv < c) (hc : c ≤ n) (hN : n < 2 ^ 31) (hb : lo ≤ b) : Tri X lo 93 [sa b e n fl, .int .i64 (a : Int), .int .i64 (c : Int), .int .i64 (pv : Int)] h fun v h' => v = .int .i64 ((partitionEqual ltInt d0 a c pv).1 : Int) ∧ PA b e n h (partitionEqual ltInt d0 a c pv).2 h' := by
  refine enter tbOk mtOk ⟨[], [(1, [0, 1, 2, 3, 4, 5, 6, 7, 8, 9, 10, 11, 12, 13, 14, 15], [0, 0, 0, 0, 0, 0, 48, 112, 0, 0, 768, 1792, 4083, 8179, 16383, 32767]), (3, [0, 1, 2, 3, 4, 5, 6, 7, 8, 9, 10, 11, 12, 13, 14], [0, 0, 3, 7, 15, 15, 63, 127, 15, 15, 783, 1807, 4095, 8191, 16383]), (5, [0, 1, 2, 3, 4, 5, 6, 7, 8, 9, 10, 11, 12, 13], [0, 0, 3, 7, 15, 15, 63, 127, 15, 15, 783, 1807, 4095, 8191]), (8, [0, 1, 2, 3, 4, 5, 6, 7, 8, 9, 10, 11, 12, 13, 14, 15], [0, 0, 0, 0, 0, 0, 48, 112, 0, 0, 768, 1792, 4083, 8179, 16383, 32767])]⟩ 400 Try.func93 rfl rfl rfl fun hlo => ?_
  have w1 : IntKind.i64.wrap ((a : Int) + 1) = ((a + 1 : Nat) : Int) := wz (by omega) (by omega)
  have w2 : IntKind.i64.wrap ((c : Int) - 1) = ((c - 1 : Nat) : Int) := wz (by omega) (by omega)
  refine And.intro (by kernel_rfl) ?_
  refine And.intro ⟨by omega, by omega⟩ ?_
  refine ⟨_, r0.ldI rfl (by omega), ?_⟩
  refine And.intro ⟨by omega, by omega⟩ ?_
  refine ⟨_, r0.ldI rfl (by omega), ?_⟩
  refine And.intro ⟨by omega, by omega⟩ ?_
  refine ⟨_, r0.stI (lo := lo) hb rfl (i := a) (by omega) _, ?_⟩
  refine And.intro ⟨by omega, by omega⟩ ?_
  refine ⟨hsw h b e d0 (a) (pv), (r0.sw1 (a) (pv)).stI (lo := lo) hb rfl (by rw [Array.size_setIfInBounds]; omega) _, ?_⟩
  have r1 := r0.sw a pv
  have z1 := swp_sz hn a pv
  have x1 := hsw_ext (h := h) (b := b) (e := e) (d := d0) a pv
  have eP : partitionEqual ltInt d0 a c pv = partEqLoop ltInt a (a + 1) (c - 1) (swp d0 a pv) := rfl
  rw [eP]
  generalize hsw h b e d0 a pv = h1 at r1 x1 ⊢
  generalize swp d0 a pv = d1 at r1 z1 ⊢
  refine loop (σ := Nat × Nat × Array Int) tbOk mtOk ⟨[], [(1, [0, 1, 2, 3, 4, 5, 6, 7, 8, 9, 10, 11, 12, 13, 14, 15], [0, 0, 0, 0, 0, 0, 48, 112, 0, 0, 768, 1792, 4083, 8179, 16383, 32767]), (3, [0, 1, 2, 3, 4, 5, 6, 7, 8, 9, 10, 11, 12, 13, 14], [0, 0, 3, 7, 15, 15, 63, 127, 15, 15, 783, 1807, 4095, 8191, 16383]), (5, [0, 1, 2, 3, 4, 5, 6, 7, 8, 9, 10, 11, 12, 13], [0, 0, 3, 7, 15, 15, 63, 127, 15, 15, 783, 1807, 4095, 8191]), (8, [0, 1, 2, 3, 4, 5, 6, 7, 8, 9, 10, 11, 12, 13, 14, 15], [0, 0, 0, 0, 0, 0, 48, 112, 0, 0, 768, 1792, 4083, 8179, 16383, 32767])]⟩ (fun s => [(9, .v (.int .i64 ((s.1 : Nat) : Int))), (10, .v (.int .i64 ((s.2.1 : Nat) : Int))), (0, .v (sa b e n fl)), (1, .v (.int .i64 (a : Int)))]) (fun _ => []) (fun s h' => a < s.1 ∧ s.2.1 < c ∧ Ext1 b h h' ∧ AR h' b e s.2.2 ∧ s.2.2.size = n ∧ partEqLoop ltInt a s.1 s.2.1 s.2.2 = partEqLoop ltInt a (a + 1) (c - 1) d1) (fun s => s.2.1 + 1 - s.1) 400 (a + 1, c - 1, d1) (fun _ => rfl) ⟨vI w1, vI w2, rfl, rfl, trivial⟩ trivial ⟨by show a < a + 1; omega, by show c - 1 < c; omega, x1, r1, z1, rfl⟩ (fun s h2 hI again => ?_)
  obtain ⟨j1, j2, j3, j4, j5, j6⟩ := hI
  rw [partEqLoop_eq] at j6
  generalize partEqLoop ltInt a (a + 1) (c - 1) d1 = RR at *
  clear x1 r1 z1
  refine loopX (σ := Nat) tbOk mtOk ⟨[], [(1, [0, 1, 2, 3, 4, 5, 6, 7, 8, 9, 10, 11, 12, 13, 14, 15], [0, 0, 0, 0, 0, 0, 48, 112, 0, 0, 768, 1792, 4083, 8179, 16383, 32767]), (3, [0, 1, 2, 3, 4, 5, 6, 7, 8, 9, 10, 11, 12, 13, 14], [0, 0, 3, 7, 15, 15, 63, 127, 15, 15, 783, 1807, 4095, 8191, 16383]), (5, [0, 1, 2, 3, 4, 5, 6, 7, 8, 9, 10, 11, 12, 13], [0, 0, 3, 7, 15, 15, 63, 127, 15, 15, 783, 1807, 4095, 8191]), (8, [0, 1, 2, 3, 4, 5, 6, 7, 8, 9, 10, 11, 12, 13, 14, 15], [0, 0, 0, 0, 0, 0, 48, 112, 0, 0, 768, 1792, 4083, 8179, 16383, 32767])]⟩ (fun x => [(9, .v (.int .i64 ((x : Nat) : Int))), (10, .v (.int .i64 ((s.2.1 : Nat) : Int))), (0, .v (sa b e n fl)), (1, .v (.int .i64 (a : Int)))]) (fun _ => []) (fun x h' => s.1 ≤ x ∧ h2 = h' ∧ scanUp (fun x => !ltInt s.2.2[a]! x) s.2.2 s.2.1 x = scanUp (fun x => !ltInt s.2.2[a]! x) s.2.2 s.2.1 s.1) (fun x => s.2.1 + 1 - x) 5 (fun x h' => s.1 ≤ x ∧ h2 = h' ∧ x = scanUp (fun x => !ltInt s.2.2[a]! x) s.2.2 s.2.1 s.1) 400 (s.1) (fun _ => rfl) ⟨rfl, rfl, rfl, rfl, trivial⟩ trivial ⟨Nat.le_refl _, rfl, rfl⟩ (fun x hz hI again' done => ?_) (fun x hz hE => ?_)
  · obtain ⟨u0, rfl, u3⟩ := hI
    refine And.intro (by kernel_rfl) ?_
    refine cnd (fun k1 => ?_) (fun k1 => ?_)
    · have k1 : x ≤ s.2.1 := by have := of_decide_eq_true k1; omega
      have kw : IntKind.i64.wrap ((x : Int) + 1) = ((x + 1 : Nat) : Int) := wz (by omega) (by omega)
      refine And.intro ⟨by omega, by omega⟩ ?_
      refine ⟨_, j4.ldI rfl (by omega), ?_⟩
      refine And.intro ⟨by omega, by omega⟩ ?_
      refine ⟨_, j4.ldI rfl (by omega), ?_⟩
      refine callP (Less_ok _ _ _) ?_
      rintro v hy ⟨rfl, rfl⟩
      refine cnd (fun k2 => ?_) (fun k2 => ?_)
      · skip
        have u3' := (scanUp_go (p := (fun x => !ltInt s.2.2[a]! x)) k1 (by simpa using k2)).symm.trans u3
        refine more tbOk mtOk ⟨[], [(1, [0, 1, 2, 3, 4, 5, 6, 7, 8, 9, 10, 11, 12, 13, 14, 15], [0, 0, 0, 0, 0, 0, 48, 112, 0, 0, 768, 1792, 4083, 8179, 16383, 32767]), (3, [0, 1, 2, 3, 4, 5, 6, 7, 8, 9, 10, 11, 12, 13, 14], [0, 0, 3, 7, 15, 15, 63, 127, 15, 15, 783, 1807, 4095, 8191, 16383]), (5, [0, 1, 2, 3, 4, 5, 6, 7, 8, 9, 10, 11, 12, 13], [0, 0, 3, 7, 15, 15, 63, 127, 15, 15, 783, 1807, 4095, 8191]), (8, [0, 1, 2, 3, 4, 5, 6, 7, 8, 9, 10, 11, 12, 13, 14, 15], [0, 0, 0, 0, 0, 0, 48, 112, 0, 0, 768, 1792, 4083, 8179, 16383, 32767])]⟩ 400 ?_
        exact again' (x + 1) _ _ _ (by show s.2.1 + 1 - (x + 1) < s.2.1 + 1 - x; omega) ⟨vI kw, rfl, rfl, rfl, trivial⟩ trivial ⟨by omega, rfl, u3'⟩
      · exact done x _ _ _ ⟨rfl, rfl, rfl, rfl, trivial⟩ trivial ⟨u0, rfl, (scanUp_stop (p := (fun x => !ltInt s.2.2[a]! x)) (d := s.2.2) (j := s.2.1) (by simpa using k2)).symm.trans u3⟩
    · have k1 : ¬ x ≤ s.2.1 := by have := of_decide_eq_false k1; omega
      refine cndF ?_
      exact done x _ _ _ ⟨rfl, rfl, rfl, rfl, trivial⟩ trivial ⟨u0, rfl, (scanUp_far k1).symm.trans u3⟩
  · obtain ⟨v0, rfl, v3⟩ := hE
    have w3u := v3
    have w0u := v0
    clear v3 v0
    refine loopX (σ := Nat) tbOk mtOk ⟨[], [(1, [0, 1, 2, 3, 4, 5, 6, 7, 8, 9, 10, 11, 12, 13, 14, 15], [0, 0, 0, 0, 0, 0, 48, 112, 0, 0, 768, 1792, 4083, 8179, 16383, 32767]), (3, [0, 1, 2, 3, 4, 5, 6, 7, 8, 9, 10, 11, 12, 13, 14], [0, 0, 3, 7, 15, 15, 63, 127, 15, 15, 783, 1807, 4095, 8191, 16383]), (5, [0, 1, 2, 3, 4, 5, 6, 7, 8, 9, 10, 11, 12, 13], [0, 0, 3, 7, 15, 15, 63, 127, 15, 15, 783, 1807, 4095, 8191]), (8, [0, 1, 2, 3, 4, 5, 6, 7, 8, 9, 10, 11, 12, 13, 14, 15], [0, 0, 0, 0, 0, 0, 48, 112, 0, 0, 768, 1792, 4083, 8179, 16383, 32767])]⟩ (fun y => [(9, .v (.int .i64 ((x : Nat) : Int))), (10, .v (.int .i64 ((y : Nat) : Int))), (0, .v (sa b e n fl)), (1, .v (.int .i64 (a : Int)))]) (fun _ => []) (fun y h' => y ≤ s.2.1 ∧ h2 = h' ∧ scanDown (fun x => ltInt s.2.2[a]! x) s.2.2 x y = scanDown (fun x => ltInt s.2.2[a]! x) s.2.2 x s.2.1) (fun y => y) 5 (fun y h' => y ≤ s.2.1 ∧ h2 = h' ∧ y = scanDown (fun x => ltInt s.2.2[a]! x) s.2.2 x s.2.1) 400 (s.2.1) (fun _ => rfl) ⟨rfl, rfl, rfl, rfl, trivial⟩ trivial ⟨Nat.le_refl _, rfl, rfl⟩ (fun y hz hI again' done => ?_) (fun y hz hE => ?_)
    · obtain ⟨u0, rfl, u3⟩ := hI
      refine And.intro (by kernel_rfl) ?_
      refine cnd (fun k1 => ?_) (fun k1 => ?_)
      · have k1 : x ≤ y := by have := of_decide_eq_true k1; omega
        have kw : IntKind.i64.wrap ((y : Int) - 1) = ((y - 1 : Nat) : Int) := wz (by omega) (by omega)
        refine And.intro ⟨by omega, by omega⟩ ?_
        refine ⟨_, j4.ldI rfl (by omega), ?_⟩
        refine And.intro ⟨by omega, by omega⟩ ?_
        refine ⟨_, j4.ldI rfl (by omega), ?_⟩
        refine callP (Less_ok _ _ _) ?_
        rintro v hy ⟨rfl, rfl⟩
        refine cnd (fun k2 => ?_) (fun k2 => ?_)
        · skip
          have u3' := (scanDown_go (p := (fun x => ltInt s.2.2[a]! x)) (by omega) k1 (by simpa using k2)).symm.trans u3
          refine more tbOk mtOk ⟨[], [(1, [0, 1, 2, 3, 4, 5, 6, 7, 8, 9, 10, 11, 12, 13, 14, 15], [0, 0, 0, 0, 0, 0, 48, 112, 0, 0, 768, 1792, 4083, 8179, 16383, 32767]), (3, [0, 1, 2, 3, 4, 5, 6, 7, 8, 9, 10, 11, 12, 13, 14], [0, 0, 3, 7, 15, 15, 63, 127, 15, 15, 783, 1807, 4095, 8191, 16383]), (5, [0, 1, 2, 3, 4, 5, 6, 7, 8, 9, 10, 11, 12, 13], [0, 0, 3, 7, 15, 15, 63, 127, 15, 15, 783, 1807, 4095, 8191]), (8, [0, 1, 2, 3, 4, 5, 6, 7, 8, 9, 10, 11, 12, 13, 14, 15], [0, 0, 0, 0, 0, 0, 48, 112, 0, 0, 768, 1792, 4083, 8179, 16383, 32767])]⟩ 400 ?_
          exact again' (y - 1) _ _ _ (by show y - 1 < y; omega) ⟨rfl, vI kw, rfl, rfl, trivial⟩ trivial ⟨by omega, rfl, u3'⟩
        · exact done y _ _ _ ⟨rfl, rfl, rfl, rfl, trivial⟩ trivial ⟨u0, rfl, (scanDown_stop (p := (fun x => ltInt s.2.2[a]! x)) (d := s.2.2) (i := x) (by simpa using k2)).symm.trans u3⟩
      · have k1 : ¬ x ≤ y := by have := of_decide_eq_false k1; omega
        refine cndF ?_
        exact done y _ _ _ ⟨rfl, rfl, rfl, rfl, trivial⟩ trivial ⟨u0, rfl, (scanDown_far k1).symm.trans u3⟩
    · obtain ⟨v0, rfl, v3⟩ := hE
      rw [← w3u] at j6
      rw [← v3] at j6
      refine cnd (fun c2 => ?_) (fun c2 => ?_)
      · have c2 : x > y := by have := of_decide_eq_true c2; omega
        rw [if_pos c2] at j6
        rw [← j6]
        exact And.intro rfl ⟨j3, j4, j5⟩
      · have c2 : ¬ x > y := by have := of_decide_eq_false c2; omega
        rw [if_neg c2] at j6
        refine And.intro (by kernel_rfl) ?_
        refine And.intro ⟨by omega, by omega⟩ ?_
        refine ⟨_, j4.ldI rfl (by omega), ?_⟩
        refine And.intro ⟨by omega, by omega⟩ ?_
        refine ⟨_, j4.ldI rfl (by omega), ?_⟩
        refine And.intro ⟨by omega, by omega⟩ ?_
        refine ⟨_, j4.stI (lo := lo) hb rfl (i := x) (by omega) _, ?_⟩
        refine And.intro ⟨by omega, by omega⟩ ?_
        refine ⟨_, (j4.sw1 (x) (y)).stI (lo := lo) hb rfl (by rw [Array.size_setIfInBounds]; omega) _, ?_⟩
        have wx : IntKind.i64.wrap ((x : Int) + 1) = ((x + 1 : Nat) : Int) := wz (by omega) (by omega)
        have wy : IntKind.i64.wrap ((y : Int) - 1) = ((y - 1 : Nat) : Int) := wz (by omega) (by omega)
        exact again (x + 1, y - 1, swp s.2.2 x y) _ _ _ (by show y - 1 + 1 - (x + 1) < s.2.1 + 1 - s.1; omega) ⟨vI wx, vI wy, rfl, rfl, trivial⟩ trivial ⟨by show a < x + 1; omega, by show y - 1 < c; omega, j3.trans (hsw_ext x y), j4.sw x y, swp_sz j5 x y, j6⟩
end Go.Proofs.Ytgcbfhdlfajemaa.Id
/- The walk of Go's sort: a range reversed. -/
namespace Go.Proofs.Ytgcbfhdlfajemaa.Id
open Go.Id Go.Sort
open Go.Proofs
set_option linter.unusedVariables false
set_option maxRecDepth 100000
variable {X : Ctx Try.prog} {lo : Nat}
theorem reverseRange_ok (b e n fl : Nat) (d0 : Array Int) (a c : Nat) (h : Hp) (r0 : AR h b e d0) (hn : d0.size = n) (h0 : 0 < c) (hc : c ≤ n) (ha : a ≤ n) (hN : n < 2 ^ 31) (hb : lo ≤ b) : Tri X lo 90 [sa b e n fl, .int .i64 (a : Int), .int .i64 (c : Int)] h fun v h' => v = .tuple #[] ∧ PA b e n h (reverseRange d0 a c) h' := by
  refine enter tbOk mtOk ⟨[], [(3, [0, 1, 2, 3, 4, 5, 6, 7, 8, 9, 10, 11, 12, 13, 14, 15], [0, 0, 0, 0, 0, 0, 48, 112, 0, 0, 768, 1792, 4083, 8179, 16383, 32767])]⟩ 400 Try.func90 rfl rfl rfl fun hlo => ?_
  have w2 : IntKind.i64.wrap ((c : Int) - 1) = ((c - 1 : Nat) : Int) := wz (by omega) (by omega)
  refine loop (σ := Nat × Nat × Array Int) tbOk mtOk ⟨[], [(3, [0, 1, 2, 3, 4, 5, 6, 7, 8, 9, 10, 11, 12, 13, 14, 15], [0, 0, 0, 0, 0, 0, 48, 112, 0, 0, 768, 1792, 4083, 8179, 16383, 32767])]⟩ (fun s => [(6, .v (.int .i64 (s.1 : Int))), (7, .v (.int .i64 (s.2.1 : Int))), (0, .v (sa b e n fl))]) (fun _ => []) (fun s h' => s.2.1 < c ∧ Ext1 b h h' ∧ AR h' b e s.2.2 ∧ s.2.2.size = n ∧ reverseLoop s.1 s.2.1 s.2.2 = reverseRange d0 a c) (fun s => s.2.1 - s.1) 400 (a, c - 1, d0) (fun _ => rfl) ⟨rfl, vI w2, rfl, trivial⟩ trivial ⟨by show c - 1 < c; omega, (Ext.refl _).one b, r0, hn, rfl⟩ (fun s h1 hI again => ?_)
  obtain ⟨j2, j3, j4, j5, j6⟩ := hI
  rw [reverseLoop] at j6
  refine cnd (fun c1 => ?_) (fun c1 => ?_)
  · have c1 : s.1 < s.2.1 := by have := of_decide_eq_true c1; omega
    rw [if_pos c1] at j6
    have wx : IntKind.i64.wrap ((s.1 : Int) + 1) = ((s.1 + 1 : Nat) : Int) := wz (by omega) (by omega)
    have wy : IntKind.i64.wrap ((s.2.1 : Int) - 1) = ((s.2.1 - 1 : Nat) : Int) := wz (by omega) (by omega)
    refine And.intro (by kernel_rfl) ?_
    refine And.intro ⟨by omega, by omega⟩ ?_
    refine ⟨_, j4.ldI rfl (by omega), ?_⟩
    refine And.intro ⟨by omega, by omega⟩ ?_
    refine ⟨_, j4.ldI rfl (by omega), ?_⟩
    refine And.intro ⟨by omega, by omega⟩ ?_
    refine ⟨_, j4.stI (lo := lo) hb rfl (i := s.1) (by omega) _, ?_⟩
    refine And.intro ⟨by omega, by omega⟩ ?_
    refine ⟨_, (j4.sw1 (s.1) (s.2.1)).stI (lo := lo) hb rfl (by rw [Array.size_setIfInBounds]; omega) _, ?_⟩
    exact again (s.1 + 1, s.2.1 - 1, swp s.2.2 s.1 s.2.1) _ _ _ (by show s.2.1 - 1 - (s.1 + 1) < s.2.1 - s.1; omega) ⟨vI wx, vI wy, rfl, trivial⟩ trivial ⟨by show s.2.1 - 1 < c; omega, j3.trans (hsw_ext _ _), j4.sw _ _, swp_sz j5 _ _, j6⟩
  · have c1 : ¬ s.1 < s.2.1 := by have := of_decide_eq_false c1; omega
    rw [if_neg c1] at j6
    rw [← j6]
    exact And.intro rfl ⟨j3, j4, j5⟩
end Go.Proofs.Ytgcbfhdlfajemaa.Id
/- The walk of Go's sort: insertion sort, a few rounds. -/
namespace Go.Proofs.Ytgcbfhdlfajemaa.Id
open Go.Id Go.Sort
open Go.Proofs
set_option linter.unusedVariables false
set_option maxRecDepth 100000
variable {X : Ctx Try.prog} {lo : Nat}
theorem scanSorted_go {d : Array Int} {c x : Nat} (h1 : x < c) (h2 : ltInt d[x]! d[x - 1]! = false) : scanSorted ltInt d c x = scanSorted ltInt d c (x + 1) := by
  rw [scanSorted, if_pos (by rw [h2, decide_eq_true h1]; rfl)]
theorem scanSorted_far {d : Array Int} {c x : Nat} (h1 : ¬ x < c) : scanSorted ltInt d c x = x := by
  rw [scanSorted, if_neg (by rw [decide_eq_false h1]; simp)]
theorem scanSorted_stop {d : Array Int} {c x : Nat} (h2 : ltInt d[x]! d[x - 1]! = true) : scanSorted ltInt d c x = x := by
  rw [scanSorted, if_neg (by rw [h2]; simp)]
theorem shiftDown_go {d : Array Int} {j : Nat} (h1 : 1 ≤ j) (h2 : ltInt d[j]! d[j - 1]! = true) : Go.Sort.shiftDown ltInt j d = Go.Sort.shiftDown ltInt (j - 1) (swp d j (j - 1)) := by
  obtain ⟨k, rfl⟩ : ∃ k, j = k + 1 := ⟨j - 1, by omega⟩
  simp only [Nat.add_sub_cancel] at h2 ⊢
  rw [Go.Sort.shiftDown, if_neg (by rw [h2]; simp)]
theorem shiftDown_stop {d : Array Int} {j : Nat} (h2 : ltInt d[j]! d[j - 1]! = false) : Go.Sort.shiftDown ltInt j d = d := by
  cases j with
  | zero => rfl
  | succ k =>
    simp only [Nat.add_sub_cancel] at h2
    rw [Go.Sort.shiftDown, if_pos (by rw [h2]; rfl)]
theorem shiftUp_go {d : Array Int} {c j : Nat} (h1 : j < c) (h2 : ltInt d[j]! d[j - 1]! = true) : shiftUp ltInt c j d = shiftUp ltInt c (j + 1) (swp d j (j - 1)) := by
  rw [shiftUp, if_pos h1, if_neg (by rw [h2]; simp)]
theorem shiftUp_stop {d : Array Int} {c j : Nat} (h2 : ltInt d[j]! d[j - 1]! = false) : shiftUp ltInt c j d = d := by
  rw [shiftUp]
  split
  · rw [if_pos (by rw [h2]; rfl)]
  · rfl
theorem shiftUp_far {d : Array Int} {c j : Nat} (h1 : ¬ j < c) : shiftUp ltInt c j d = d := by
  rw [shiftUp, if_neg h1]
theorem partialInsertionSort_ok (b e n fl : Nat) (d0 : Array Int) (a c : Nat) (h : Hp) (r0 : AR h b e d0) (hn : d0.size = n) (ha : a < c) (hc : c ≤ n) (hN : n < 2 ^ 31) (hb : lo ≤ b) : Tri X lo 91 [sa b e n fl, .int .i64 (a : Int), .int .i64 (c : Int)] h fun v h' => v = .bool (partialInsertionSort ltInt d0 a c).2 ∧ PA b e n h (partialInsertionSort ltInt d0 a c).1 h' := by
  refine enter tbOk mtOk ⟨[], [(5, [0, 1, 2, 3, 4, 5, 6, 7, 8, 9, 10, 11, 12, 13, 14, 15], [0, 0, 3, 7, 15, 15, 63, 127, 15, 15, 527, 1807, 3855, 8191, 16383, 32767]), (11, [0, 1, 2, 3, 4, 5, 6, 7, 8, 9, 10, 11, 12, 13, 14, 15, 16, 17], [0, 0, 0, 0, 8, 0, 0, 64, 224, 480, 0, 0, 3072, 7168, 16355, 32739, 65535, 131071]), (16, [0, 1, 2, 3, 4, 5, 6, 7, 8, 9, 10], [0, 0, 3, 7, 0, 0, 32, 112, 240, 511, 1023]), (17, [0, 1, 2, 3, 4, 5, 6, 7, 8, 9, 10, 11, 12, 13, 14, 15, 16, 17], [0, 0, 0, 0, 8, 0, 0, 64, 224, 480, 0, 0, 3072, 7168, 16355, 32739, 65535, 131071]), (22, [0, 1, 2, 3, 4, 5, 6, 7, 8, 9, 10], [0, 0, 3, 7, 0, 0, 32, 112, 240, 511, 1023]), (23, [0, 1, 2, 3, 4, 5, 6, 7, 8, 9, 10, 11, 12, 13, 14, 15, 16, 17], [0, 0, 0, 0, 8, 0, 0, 64, 224, 480, 0, 0, 3072, 7168, 16355, 32739, 65535, 131071])]⟩ 400 Try.func91 rfl rfl rfl fun hlo => ?_
  have w1 : IntKind.i64.wrap ((a : Int) + 1) = ((a + 1 : Nat) : Int) := wz (by omega) (by omega)
  refine loop (σ := Nat × Nat × Array Int) tbOk mtOk ⟨[], [(5, [0, 1, 2, 3, 4, 5, 6, 7, 8, 9, 10, 11, 12, 13, 14, 15], [0, 0, 3, 7, 15, 15, 63, 127, 15, 15, 527, 1807, 3855, 8191, 16383, 32767]), (11, [0, 1, 2, 3, 4, 5, 6, 7, 8, 9, 10, 11, 12, 13, 14, 15, 16, 17], [0, 0, 0, 0, 8, 0, 0, 64, 224, 480, 0, 0, 3072, 7168, 16355, 32739, 65535, 131071]), (16, [0, 1, 2, 3, 4, 5, 6, 7, 8, 9, 10], [0, 0, 3, 7, 0, 0, 32, 112, 240, 511, 1023]), (17, [0, 1, 2, 3, 4, 5, 6, 7, 8, 9, 10, 11, 12, 13, 14, 15, 16, 17], [0, 0, 0, 0, 8, 0, 0, 64, 224, 480, 0, 0, 3072, 7168, 16355, 32739, 65535, 131071]), (22, [0, 1, 2, 3, 4, 5, 6, 7, 8, 9, 10], [0, 0, 3, 7, 0, 0, 32, 112, 240, 511, 1023]), (23, [0, 1, 2, 3, 4, 5, 6, 7, 8, 9, 10, 11, 12, 13, 14, 15, 16, 17], [0, 0, 0, 0, 8, 0, 0, 64, 224, 480, 0, 0, 3072, 7168, 16355, 32739, 65535, 131071])]⟩ (fun s => [(8, .v (.int .i64 (s.1 : Int))), (7, .v (.int .i64 (s.2.1 : Int))), (0, .v (sa b e n fl)), (1, .v (.int .i64 (a : Int))), (2, .v (.int .i64 (c : Int)))]) (fun _ => []) (fun s h' => s.1 ≤ 5 ∧ (a < s.2.1 ∧ s.2.1 ≤ c) ∧ Ext1 b h h' ∧ AR h' b e s.2.2 ∧ s.2.2.size = n ∧ partialIns ltInt a c (5 - s.1) s.2.1 s.2.2 = partialInsertionSort ltInt d0 a c) (fun s => 5 - s.1) 400 (0, a + 1, d0) (fun _ => rfl) ⟨rfl, vI w1, rfl, rfl, rfl, trivial⟩ trivial ⟨by show 0 ≤ 5; omega, ⟨by show a < a + 1; omega, by show a + 1 ≤ c; omega⟩, (Ext.refl _).one b, r0, hn, rfl⟩ (fun s h1 hI again => ?_)
  obtain ⟨j1, j2, j3, j4, j5, j6⟩ := hI
  generalize partialInsertionSort ltInt d0 a c = RR at *
  refine cnd (fun c1 => ?_) (fun c1 => ?_)
  · have c1 : s.1 < 5 := by have := of_decide_eq_true c1; omega
    rw [show 5 - s.1 = (5 - (s.1 + 1)) + 1 from by omega, partialIns] at j6
    have ws : IntKind.i64.wrap ((s.1 : Int) + 1) = ((s.1 + 1 : Nat) : Int) := wz (by omega) (by omega)
    refine loopX (σ := Nat) tbOk mtOk ⟨[], [(5, [0, 1, 2, 3, 4, 5, 6, 7, 8, 9, 10, 11, 12, 13, 14, 15], [0, 0, 3, 7, 15, 15, 63, 127, 15, 15, 527, 1807, 3855, 8191, 16383, 32767]), (11, [0, 1, 2, 3, 4, 5, 6, 7, 8, 9, 10, 11, 12, 13, 14, 15, 16, 17], [0, 0, 0, 0, 8, 0, 0, 64, 224, 480, 0, 0, 3072, 7168, 16355, 32739, 65535, 131071]), (16, [0, 1, 2, 3, 4, 5, 6, 7, 8, 9, 10], [0, 0, 3, 7, 0, 0, 32, 112, 240, 511, 1023]), (17, [0, 1, 2, 3, 4, 5, 6, 7, 8, 9, 10, 11, 12, 13, 14, 15, 16, 17], [0, 0, 0, 0, 8, 0, 0, 64, 224, 480, 0, 0, 3072, 7168, 16355, 32739, 65535, 131071]), (22, [0, 1, 2, 3, 4, 5, 6, 7, 8, 9, 10], [0, 0, 3, 7, 0, 0, 32, 112, 240, 511, 1023]), (23, [0, 1, 2, 3, 4, 5, 6, 7, 8, 9, 10, 11, 12, 13, 14, 15, 16, 17], [0, 0, 0, 0, 8, 0, 0, 64, 224, 480, 0, 0, 3072, 7168, 16355, 32739, 65535, 131071])]⟩ (fun x => [(7, .v (.int .i64 (x : Int))), (8, .v (.int .i64 (s.1 : Int))), (0, .v (sa b e n fl)), (1, .v (.int .i64 (a : Int))), (2, .v (.int .i64 (c : Int)))]) (fun _ => []) (fun x h' => (s.2.1 ≤ x ∧ x ≤ c) ∧ h1 = h' ∧ scanSorted ltInt s.2.2 c x = scanSorted ltInt s.2.2 c s.2.1) (fun x => c - x) 5 (fun x h' => (s.2.1 ≤ x ∧ x ≤ c) ∧ h1 = h' ∧ x = scanSorted ltInt s.2.2 c s.2.1) 400 s.2.1 (fun _ => rfl) ⟨rfl, rfl, rfl, rfl, rfl, trivial⟩ trivial ⟨⟨Nat.le_refl _, j2.2⟩, rfl, rfl⟩ (fun x hz hI again' done => ?_) (fun x hz hE => ?_)
    · obtain ⟨u0, rfl, u3⟩ := hI
      have wm : IntKind.i64.wrap ((x : Int) - 1) = ((x - 1 : Nat) : Int) ∨ ¬ x < c := by
        by_cases q : x < c
        · exact .inl (wz (by omega) (by omega))
        · exact .inr q
      refine And.intro (by kernel_rfl) ?_
      refine cnd (fun k1 => ?_) (fun k1 => ?_)
      · have k1 : x < c := by have := of_decide_eq_true k1; omega
        have wm := wm.resolve_right (fun q => q k1)
        have wp : IntKind.i64.wrap ((x : Int) + 1) = ((x + 1 : Nat) : Int) := wz (by omega) (by omega)
        refine And.intro ⟨by omega, by omega⟩ ?_
        refine ⟨_, j4.ldI rfl (by omega), ?_⟩
        refine And.intro ⟨by omega, by omega⟩ ?_
        refine ⟨_, j4.ldI wm (by omega), ?_⟩
        refine callP (Less_ok _ _ _) ?_
        rintro v hy ⟨rfl, rfl⟩
        refine cnd (fun k2 => ?_) (fun k2 => ?_)
        · refine more tbOk mtOk ⟨[], [(5, [0, 1, 2, 3, 4, 5, 6, 7, 8, 9, 10, 11, 12, 13, 14, 15], [0, 0, 3, 7, 15, 15, 63, 127, 15, 15, 527, 1807, 3855, 8191, 16383, 32767]), (11, [0, 1, 2, 3, 4, 5, 6, 7, 8, 9, 10, 11, 12, 13, 14, 15, 16, 17], [0, 0, 0, 0, 8, 0, 0, 64, 224, 480, 0, 0, 3072, 7168, 16355, 32739, 65535, 131071]), (16, [0, 1, 2, 3, 4, 5, 6, 7, 8, 9, 10], [0, 0, 3, 7, 0, 0, 32, 112, 240, 511, 1023]), (17, [0, 1, 2, 3, 4, 5, 6, 7, 8, 9, 10, 11, 12, 13, 14, 15, 16, 17], [0, 0, 0, 0, 8, 0, 0, 64, 224, 480, 0, 0, 3072, 7168, 16355, 32739, 65535, 131071]), (22, [0, 1, 2, 3, 4, 5, 6, 7, 8, 9, 10], [0, 0, 3, 7, 0, 0, 32, 112, 240, 511, 1023]), (23, [0, 1, 2, 3, 4, 5, 6, 7, 8, 9, 10, 11, 12, 13, 14, 15, 16, 17], [0, 0, 0, 0, 8, 0, 0, 64, 224, 480, 0, 0, 3072, 7168, 16355, 32739, 65535, 131071])]⟩ 400 ?_
          exact again' (x + 1) _ _ _ (by show c - (x + 1) < c - x; omega) ⟨vI wp, rfl, rfl, rfl, rfl, trivial⟩ trivial ⟨by omega, rfl, (scanSorted_go k1 (by simpa using k2)).symm.trans u3⟩
        · exact done x _ _ _ ⟨rfl, rfl, rfl, rfl, rfl, trivial⟩ trivial ⟨u0, rfl, (scanSorted_stop (c := c) (d := s.2.2) (by simpa using k2)).symm.trans u3⟩
      · have k1 : ¬ x < c := by have := of_decide_eq_false k1; omega
        refine cndF ?_
        exact done x _ _ _ ⟨rfl, rfl, rfl, rfl, rfl, trivial⟩ trivial ⟨u0, rfl, (scanSorted_far k1).symm.trans u3⟩
    · obtain ⟨v0, rfl, v3⟩ := hE
      simp only [← v3] at j6
      refine cnd (fun c2 => ?_) (fun c2 => ?_)
      · have c2 : x = c := by have := of_decide_eq_true c2; omega
        rw [if_pos c2] at j6
        rw [← j6]
        exact And.intro rfl ⟨j3, j4, j5⟩
      have c2 : ¬ x = c := by have := of_decide_eq_false c2; omega
      rw [if_neg c2] at j6
      have hx : x < c := by omega
      have wd : IntKind.i64.wrap ((c : Int) - (a : Int)) = ((c - a : Nat) : Int) := wz (by omega) (by omega)
      refine cnd (fun c3 => ?_) (fun c3 => ?_)
      · have c3 : c - a < 50 := by have := of_decide_eq_true c3; omega
        rw [if_pos c3] at j6
        rw [← j6]
        exact And.intro rfl ⟨j3, j4, j5⟩
      have c3 : ¬ c - a < 50 := by have := of_decide_eq_false c3; omega
      rw [if_neg c3] at j6
      have wm : IntKind.i64.wrap ((x : Int) - 1) = ((x - 1 : Nat) : Int) := wz (by omega) (by omega)
      have wp : IntKind.i64.wrap ((x : Int) + 1) = ((x + 1 : Nat) : Int) := wz (by omega) (by omega)
      have wi : IntKind.i64.wrap ((x : Int) - (a : Int)) = ((x - a : Nat) : Int) := wz (by omega) (by omega)
      have wj : IntKind.i64.wrap ((c : Int) - (x : Int)) = ((c - x : Nat) : Int) := wz (by omega) (by omega)
      refine And.intro (by kernel_rfl) ?_
      refine And.intro ⟨by omega, by omega⟩ ?_
      refine ⟨_, j4.ldI wm (by omega), ?_⟩
      refine And.intro ⟨by omega, by omega⟩ ?_
      refine ⟨_, j4.ldI rfl (by omega), ?_⟩
      refine And.intro ⟨by omega, by omega⟩ ?_
      refine ⟨_, j4.stI (lo := lo) hb rfl (i := x) (by omega) _, ?_⟩
      refine And.intro ⟨by omega, by omega⟩ ?_
      refine ⟨hsw h1 b e s.2.2 (x) (x - 1), (j4.sw1 (x) (x - 1)).stI (lo := lo) hb wm (by rw [Array.size_setIfInBounds]; omega) _, ?_⟩
      have r1 := j4.sw x (x - 1)
      have z1 := swp_sz j5 x (x - 1)
      have x1 := j3.trans (hsw_ext (h := h1) (b := b) (e := e) (d := s.2.2) x (x - 1))
      generalize hsw h1 b e s.2.2 x (x - 1) = h2 at r1 x1 ⊢
      generalize swp s.2.2 x (x - 1) = d1 at r1 z1 j6
      refine cnd (fun c4 => ?_) (fun c4 => ?_)
      · have c4 : x - a ≥ 2 := by have := of_decide_eq_true c4; omega
        simp only [if_pos c4] at j6
        refine loopX (σ := Nat × Array Int) tbOk mtOk ⟨[], [(5, [0, 1, 2, 3, 4, 5, 6, 7, 8, 9, 10, 11, 12, 13, 14, 15], [0, 0, 3, 7, 15, 15, 63, 127, 15, 15, 527, 1807, 3855, 8191, 16383, 32767]), (11, [0, 1, 2, 3, 4, 5, 6, 7, 8, 9, 10, 11, 12, 13, 14, 15, 16, 17], [0, 0, 0, 0, 8, 0, 0, 64, 224, 480, 0, 0, 3072, 7168, 16355, 32739, 65535, 131071]), (16, [0, 1, 2, 3, 4, 5, 6, 7, 8, 9, 10], [0, 0, 3, 7, 0, 0, 32, 112, 240, 511, 1023]), (17, [0, 1, 2, 3, 4, 5, 6, 7, 8, 9, 10, 11, 12, 13, 14, 15, 16, 17], [0, 0, 0, 0, 8, 0, 0, 64, 224, 480, 0, 0, 3072, 7168, 16355, 32739, 65535, 131071]), (22, [0, 1, 2, 3, 4, 5, 6, 7, 8, 9, 10], [0, 0, 3, 7, 0, 0, 32, 112, 240, 511, 1023]), (23, [0, 1, 2, 3, 4, 5, 6, 7, 8, 9, 10, 11, 12, 13, 14, 15, 16, 17], [0, 0, 0, 0, 8, 0, 0, 64, 224, 480, 0, 0, 3072, 7168, 16355, 32739, 65535, 131071])]⟩ (fun u => [(9, .v (.int .i64 (u.1 : Int))), (7, .v (.int .i64 (x : Int))), (8, .v (.int .i64 (s.1 : Int))), (0, .v (sa b e n fl)), (1, .v (.int .i64 (a : Int))), (2, .v (.int .i64 (c : Int)))]) (fun _ => []) (fun u h' => u.1 < x ∧ Ext1 b h h' ∧ AR h' b e u.2 ∧ u.2.size = n ∧ Go.Sort.shiftDown ltInt u.1 u.2 = Go.Sort.shiftDown ltInt (x - 1) d1) (fun u => u.1) 8 (fun u h' => Ext1 b h h' ∧ AR h' b e u.2 ∧ u.2.size = n ∧ u.2 = Go.Sort.shiftDown ltInt (x - 1) d1) 400 (x - 1, d1) (fun _ => rfl) ⟨vI wm, rfl, rfl, rfl, rfl, rfl, trivial⟩ trivial ⟨by show x - 1 < x; omega, x1, r1, z1, rfl⟩ (fun u hz hI again' done => ?_) (fun u hz hE => ?_)
        · obtain ⟨u0, u1, u2, u3, u4⟩ := hI
          refine cnd (fun k1 => ?_) (fun k1 => ?_)
          · have k1 : 1 ≤ u.1 := by have := of_decide_eq_true k1; omega
            have wk : IntKind.i64.wrap ((u.1 : Int) - 1) = ((u.1 - 1 : Nat) : Int) := wz (by omega) (by omega)
            refine more tbOk mtOk ⟨[], [(5, [0, 1, 2, 3, 4, 5, 6, 7, 8, 9, 10, 11, 12, 13, 14, 15], [0, 0, 3, 7, 15, 15, 63, 127, 15, 15, 527, 1807, 3855, 8191, 16383, 32767]), (11, [0, 1, 2, 3, 4, 5, 6, 7, 8, 9, 10, 11, 12, 13, 14, 15, 16, 17], [0, 0, 0, 0, 8, 0, 0, 64, 224, 480, 0, 0, 3072, 7168, 16355, 32739, 65535, 131071]), (16, [0, 1, 2, 3, 4, 5, 6, 7, 8, 9, 10], [0, 0, 3, 7, 0, 0, 32, 112, 240, 511, 1023]), (17, [0, 1, 2, 3, 4, 5, 6, 7, 8, 9, 10, 11, 12, 13, 14, 15, 16, 17], [0, 0, 0, 0, 8, 0, 0, 64, 224, 480, 0, 0, 3072, 7168, 16355, 32739, 65535, 131071]), (22, [0, 1, 2, 3, 4, 5, 6, 7, 8, 9, 10], [0, 0, 3, 7, 0, 0, 32, 112, 240, 511, 1023]), (23, [0, 1, 2, 3, 4, 5, 6, 7, 8, 9, 10, 11, 12, 13, 14, 15, 16, 17], [0, 0, 0, 0, 8, 0, 0, 64, 224, 480, 0, 0, 3072, 7168, 16355, 32739, 65535, 131071])]⟩ 7 ?_
            refine And.intro (by kernel_rfl) ?_
            refine And.intro ⟨by omega, by omega⟩ ?_
            refine ⟨_, u2.ldI rfl (by omega), ?_⟩
            refine And.intro ⟨by omega, by omega⟩ ?_
            refine ⟨_, u2.ldI wk (by omega), ?_⟩
            refine callP (Less_ok _ _ _) ?_
            rintro v hy ⟨rfl, rfl⟩
            refine cnd (fun k2 => ?_) (fun k2 => ?_)
            · exact done u _ _ _ ⟨rfl, rfl, rfl, rfl, rfl, rfl, trivial⟩ trivial ⟨u1, u2, u3, (shiftDown_stop (d := u.2) (by simpa using k2)).symm.trans u4⟩
            · refine more tbOk mtOk ⟨[], [(5, [0, 1, 2, 3, 4, 5, 6, 7, 8, 9, 10, 11, 12, 13, 14, 15], [0, 0, 3, 7, 15, 15, 63, 127, 15, 15, 527, 1807, 3855, 8191, 16383, 32767]), (11, [0, 1, 2, 3, 4, 5, 6, 7, 8, 9, 10, 11, 12, 13, 14, 15, 16, 17], [0, 0, 0, 0, 8, 0, 0, 64, 224, 480, 0, 0, 3072, 7168, 16355, 32739, 65535, 131071]), (16, [0, 1, 2, 3, 4, 5, 6, 7, 8, 9, 10], [0, 0, 3, 7, 0, 0, 32, 112, 240, 511, 1023]), (17, [0, 1, 2, 3, 4, 5, 6, 7, 8, 9, 10, 11, 12, 13, 14, 15, 16, 17], [0, 0, 0, 0, 8, 0, 0, 64, 224, 480, 0, 0, 3072, 7168, 16355, 32739, 65535, 131071]), (22, [0, 1, 2, 3, 4, 5, 6, 7, 8, 9, 10], [0, 0, 3, 7, 0, 0, 32, 112, 240, 511, 1023]), (23, [0, 1, 2, 3, 4, 5, 6, 7, 8, 9, 10, 11, 12, 13, 14, 15, 16, 17], [0, 0, 0, 0, 8, 0, 0, 64, 224, 480, 0, 0, 3072, 7168, 16355, 32739, 65535, 131071])]⟩ 400 ?_
              refine And.intro (by kernel_rfl) ?_
              refine And.intro ⟨by omega, by omega⟩ ?_
              refine ⟨_, u2.ldI wk (by omega), ?_⟩
              refine And.intro ⟨by omega, by omega⟩ ?_
              refine ⟨_, u2.ldI rfl (by omega), ?_⟩
              refine And.intro ⟨by omega, by omega⟩ ?_
              refine ⟨_, u2.stI (lo := lo) hb rfl (i := u.1) (by omega) _, ?_⟩
              refine And.intro ⟨by omega, by omega⟩ ?_
              refine ⟨_, (u2.sw1 (u.1) (u.1 - 1)).stI (lo := lo) hb wk (by rw [Array.size_setIfInBounds]; omega) _, ?_⟩
              exact again' (u.1 - 1, swp u.2 u.1 (u.1 - 1)) _ _ _ (by show u.1 - 1 < u.1; omega) ⟨vI wk, rfl, rfl, rfl, rfl, rfl, trivial⟩ trivial ⟨by show u.1 - 1 < x; omega, u1.trans (hsw_ext _ _), u2.sw _ _, swp_sz u3 _ _, (shiftDown_go k1 (by simpa using k2)).symm.trans u4⟩
          · have k1 : u.1 = 0 := by have := of_decide_eq_false k1; omega
            exact done u _ _ _ ⟨rfl, rfl, rfl, rfl, rfl, rfl, trivial⟩ trivial ⟨u1, u2, u3, by rw [← u4, k1]; rfl⟩
        · obtain ⟨u1, u2, u3, u4⟩ := hE
          rw [← u4] at j6
          clear x1 r1 z1
          obtain ⟨_, d2⟩ := u
          simp only at u2 u3 j6
          refine cnd (fun c5 => ?_) (fun c5 => ?_)
          · have c5 : c - x ≥ 2 := by have := of_decide_eq_true c5; omega
            simp only [if_pos c5] at j6
            refine loopX (σ := Nat × Array Int) tbOk mtOk ⟨[], [(5, [0, 1, 2, 3, 4, 5, 6, 7, 8, 9, 10, 11, 12, 13, 14, 15], [0, 0, 3, 7, 15, 15, 63, 127, 15, 15, 527, 1807, 3855, 8191, 16383, 32767]), (11, [0, 1, 2, 3, 4, 5, 6, 7, 8, 9, 10, 11, 12, 13, 14, 15, 16, 17], [0, 0, 0, 0, 8, 0, 0, 64, 224, 480, 0, 0, 3072, 7168, 16355, 32739, 65535, 131071]), (16, [0, 1, 2, 3, 4, 5, 6, 7, 8, 9, 10], [0, 0, 3, 7, 0, 0, 32, 112, 240, 511, 1023]), (17, [0, 1, 2, 3, 4, 5, 6, 7, 8, 9, 10, 11, 12, 13, 14, 15, 16, 17], [0, 0, 0, 0, 8, 0, 0, 64, 224, 480, 0, 0, 3072, 7168, 16355, 32739, 65535, 131071]), (22, [0, 1, 2, 3, 4, 5, 6, 7, 8, 9, 10], [0, 0, 3, 7, 0, 0, 32, 112, 240, 511, 1023]), (23, [0, 1, 2, 3, 4, 5, 6, 7, 8, 9, 10, 11, 12, 13, 14, 15, 16, 17], [0, 0, 0, 0, 8, 0, 0, 64, 224, 480, 0, 0, 3072, 7168, 16355, 32739, 65535, 131071])]⟩ (fun u => [(10, .v (.int .i64 (u.1 : Int))), (7, .v (.int .i64 (x : Int))), (8, .v (.int .i64 (s.1 : Int))), (0, .v (sa b e n fl)), (1, .v (.int .i64 (a : Int))), (2, .v (.int .i64 (c : Int)))]) (fun _ => []) (fun u h' => x < u.1 ∧ Ext1 b h h' ∧ AR h' b e u.2 ∧ u.2.size = n ∧ shiftUp ltInt c u.1 u.2 = shiftUp ltInt c (x + 1) d2) (fun u => c - u.1) 9 (fun u h' => Ext1 b h h' ∧ AR h' b e u.2 ∧ u.2.size = n ∧ u.2 = shiftUp ltInt c (x + 1) d2) 400 (x + 1, d2) (fun _ => rfl) ⟨vI wp, rfl, rfl, rfl, rfl, rfl, trivial⟩ trivial ⟨by show x < x + 1; omega, u1, u2, u3, rfl⟩ (fun u hw hI again' done => ?_) (fun u hw hE => ?_)
            · obtain ⟨y0, y1, y2, y3, y4⟩ := hI
              refine cnd (fun k1 => ?_) (fun k1 => ?_)
              · have k1 : u.1 < c := by have := of_decide_eq_true k1; omega
                have wk : IntKind.i64.wrap ((u.1 : Int) - 1) = ((u.1 - 1 : Nat) : Int) := wz (by omega) (by omega)
                have wl : IntKind.i64.wrap ((u.1 : Int) + 1) = ((u.1 + 1 : Nat) : Int) := wz (by omega) (by omega)
                refine more tbOk mtOk ⟨[], [(5, [0, 1, 2, 3, 4, 5, 6, 7, 8, 9, 10, 11, 12, 13, 14, 15], [0, 0, 3, 7, 15, 15, 63, 127, 15, 15, 527, 1807, 3855, 8191, 16383, 32767]), (11, [0, 1, 2, 3, 4, 5, 6, 7, 8, 9, 10, 11, 12, 13, 14, 15, 16, 17], [0, 0, 0, 0, 8, 0, 0, 64, 224, 480, 0, 0, 3072, 7168, 16355, 32739, 65535, 131071]), (16, [0, 1, 2, 3, 4, 5, 6, 7, 8, 9, 10], [0, 0, 3, 7, 0, 0, 32, 112, 240, 511, 1023]), (17, [0, 1, 2, 3, 4, 5, 6, 7, 8, 9, 10, 11, 12, 13, 14, 15, 16, 17], [0, 0, 0, 0, 8, 0, 0, 64, 224, 480, 0, 0, 3072, 7168, 16355, 32739, 65535, 131071]), (22, [0, 1, 2, 3, 4, 5, 6, 7, 8, 9, 10], [0, 0, 3, 7, 0, 0, 32, 112, 240, 511, 1023]), (23, [0, 1, 2, 3, 4, 5, 6, 7, 8, 9, 10, 11, 12, 13, 14, 15, 16, 17], [0, 0, 0, 0, 8, 0, 0, 64, 224, 480, 0, 0, 3072, 7168, 16355, 32739, 65535, 131071])]⟩ 7 ?_
                refine And.intro (by kernel_rfl) ?_
                refine And.intro ⟨by omega, by omega⟩ ?_
                refine ⟨_, y2.ldI rfl (by omega), ?_⟩
                refine And.intro ⟨by omega, by omega⟩ ?_
                refine ⟨_, y2.ldI wk (by omega), ?_⟩
                refine callP (Less_ok _ _ _) ?_
                rintro v hy ⟨rfl, rfl⟩
                refine cnd (fun k2 => ?_) (fun k2 => ?_)
                · exact done u _ _ _ ⟨rfl, rfl, rfl, rfl, rfl, rfl, trivial⟩ trivial ⟨y1, y2, y3, (shiftUp_stop (d := u.2) (by simpa using k2)).symm.trans y4⟩
                · refine more tbOk mtOk ⟨[], [(5, [0, 1, 2, 3, 4, 5, 6, 7, 8, 9, 10, 11, 12, 13, 14, 15], [0, 0, 3, 7, 15, 15, 63, 127, 15, 15, 527, 1807, 3855, 8191, 16383, 32767]), (11, [0, 1, 2, 3, 4, 5, 6, 7, 8, 9, 10, 11, 12, 13, 14, 15, 16, 17], [0, 0, 0, 0, 8, 0, 0, 64, 224, 480, 0, 0, 3072, 7168, 16355, 32739, 65535, 131071]), (16, [0, 1, 2, 3, 4, 5, 6, 7, 8, 9, 10], [0, 0, 3, 7, 0, 0, 32, 112, 240, 511, 1023]), (17, [0, 1, 2, 3, 4, 5, 6, 7, 8, 9, 10, 11, 12, 13, 14, 15, 16, 17], [0, 0, 0, 0, 8, 0, 0, 64, 224, 480, 0, 0, 3072, 7168, 16355, 32739, 65535, 131071]), (22, [0, 1, 2, 3, 4, 5, 6, 7, 8, 9, 10], [0, 0, 3, 7, 0, 0, 32, 112, 240, 511, 1023]), (23, [0, 1, 2, 3, 4, 5, 6, 7, 8, 9, 10, 11, 12, 13, 14, 15, 16, 17], [0, 0, 0, 0, 8, 0, 0, 64, 224, 480, 0, 0, 3072, 7168, 16355, 32739, 65535, 131071])]⟩ 400 ?_
                  refine And.intro (by kernel_rfl) ?_
                  refine And.intro ⟨by omega, by omega⟩ ?_
                  refine ⟨_, y2.ldI wk (by omega), ?_⟩
                  refine And.intro ⟨by omega, by omega⟩ ?_
                  refine ⟨_, y2.ldI rfl (by omega), ?_⟩
                  refine And.intro ⟨by omega, by omega⟩ ?_
                  refine ⟨_, y2.stI (lo := lo) hb rfl (i := u.1) (by omega) _, ?_⟩
                  refine And.intro ⟨by omega, by omega⟩ ?_
                  refine ⟨_, (y2.sw1 (u.1) (u.1 - 1)).stI (lo := lo) hb wk (by rw [Array.size_setIfInBounds]; omega) _, ?_⟩
                  exact again' (u.1 + 1, swp u.2 u.1 (u.1 - 1)) _ _ _ (by show c - (u.1 + 1) < c - u.1; omega) ⟨vI wl, rfl, rfl, rfl, rfl, rfl, trivial⟩ trivial ⟨by show x < u.1 + 1; omega, y1.trans (hsw_ext _ _), y2.sw _ _, swp_sz y3 _ _, (shiftUp_go k1 (by simpa using k2)).symm.trans y4⟩
              · have k1 : ¬ u.1 < c := by have := of_decide_eq_false k1; omega
                exact done u _ _ _ ⟨rfl, rfl, rfl, rfl, rfl, rfl, trivial⟩ trivial ⟨y1, y2, y3, by rw [← y4, shiftUp_far k1]⟩
            · obtain ⟨y1, y2, y3, y4⟩ := hE
              rw [← y4] at j6
              exact again (s.1 + 1, x, u.2) _ _ _ (by show 5 - (s.1 + 1) < 5 - s.1; omega) ⟨vI ws, rfl, rfl, rfl, rfl, trivial⟩ trivial ⟨by show s.1 + 1 ≤ 5; omega, ⟨by show a < x; omega, by show x ≤ c; omega⟩, y1, y2, y3, j6⟩
          · have c5 : ¬ c - x ≥ 2 := by have := of_decide_eq_false c5; omega
            simp only [if_neg c5] at j6
            exact again (s.1 + 1, x, d2) _ _ _ (by show 5 - (s.1 + 1) < 5 - s.1; omega) ⟨vI ws, rfl, rfl, rfl, rfl, trivial⟩ trivial ⟨by show s.1 + 1 ≤ 5; omega, ⟨by show a < x; omega, by show x ≤ c; omega⟩, u1, u2, u3, j6⟩
      · have c4 : ¬ x - a ≥ 2 := by have := of_decide_eq_false c4; omega
        simp only [if_neg c4] at j6
        have u1 := x1
        have u2 := r1
        have u3 := z1
        clear x1 r1 z1
        generalize d1 = d2 at *
        generalize h2 = hz at *
        refine cnd (fun c5 => ?_) (fun c5 => ?_)
        · have c5 : c - x ≥ 2 := by have := of_decide_eq_true c5; omega
          simp only [if_pos c5] at j6
          refine loopX (σ := Nat × Array Int) tbOk mtOk ⟨[], [(5, [0, 1, 2, 3, 4, 5, 6, 7, 8, 9, 10, 11, 12, 13, 14, 15], [0, 0, 3, 7, 15, 15, 63, 127, 15, 15, 527, 1807, 3855, 8191, 16383, 32767]), (11, [0, 1, 2, 3, 4, 5, 6, 7, 8, 9, 10, 11, 12, 13, 14, 15, 16, 17], [0, 0, 0, 0, 8, 0, 0, 64, 224, 480, 0, 0, 3072, 7168, 16355, 32739, 65535, 131071]), (16, [0, 1, 2, 3, 4, 5, 6, 7, 8, 9, 10], [0, 0, 3, 7, 0, 0, 32, 112, 240, 511, 1023]), (17, [0, 1, 2, 3, 4, 5, 6, 7, 8, 9, 10, 11, 12, 13, 14, 15, 16, 17], [0, 0, 0, 0, 8, 0, 0, 64, 224, 480, 0, 0, 3072, 7168, 16355, 32739, 65535, 131071]), (22, [0, 1, 2, 3, 4, 5, 6, 7, 8, 9, 10], [0, 0, 3, 7, 0, 0, 32, 112, 240, 511, 1023]), (23, [0, 1, 2, 3, 4, 5, 6, 7, 8, 9, 10, 11, 12, 13, 14, 15, 16, 17], [0, 0, 0, 0, 8, 0, 0, 64, 224, 480, 0, 0, 3072, 7168, 16355, 32739, 65535, 131071])]⟩ (fun u => [(10, .v (.int .i64 (u.1 : Int))), (7, .v (.int .i64 (x : Int))), (8, .v (.int .i64 (s.1 : Int))), (0, .v (sa b e n fl)), (1, .v (.int .i64 (a : Int))), (2, .v (.int .i64 (c : Int)))]) (fun _ => []) (fun u h' => x < u.1 ∧ Ext1 b h h' ∧ AR h' b e u.2 ∧ u.2.size = n ∧ shiftUp ltInt c u.1 u.2 = shiftUp ltInt c (x + 1) d2) (fun u => c - u.1) 9 (fun u h' => Ext1 b h h' ∧ AR h' b e u.2 ∧ u.2.size = n ∧ u.2 = shiftUp ltInt c (x + 1) d2) 400 (x + 1, d2) (fun _ => rfl) ⟨vI wp, rfl, rfl, rfl, rfl, rfl, trivial⟩ trivial ⟨by show x < x + 1; omega, u1, u2, u3, rfl⟩ (fun u hw hI again' done => ?_) (fun u hw hE => ?_)
          · obtain ⟨y0, y1, y2, y3, y4⟩ := hI
            refine cnd (fun k1 => ?_) (fun k1 => ?_)
            · have k1 : u.1 < c := by have := of_decide_eq_true k1; omega
              have wk : IntKind.i64.wrap ((u.1 : Int) - 1) = ((u.1 - 1 : Nat) : Int) := wz (by omega) (by omega)
              have wl : IntKind.i64.wrap ((u.1 : Int) + 1) = ((u.1 + 1 : Nat) : Int) := wz (by omega) (by omega)
              refine more tbOk mtOk ⟨[], [(5, [0, 1, 2, 3, 4, 5, 6, 7, 8, 9, 10, 11, 12, 13, 14, 15], [0, 0, 3, 7, 15, 15, 63, 127, 15, 15, 527, 1807, 3855, 8191, 16383, 32767]), (11, [0, 1, 2, 3, 4, 5, 6, 7, 8, 9, 10, 11, 12, 13, 14, 15, 16, 17], [0, 0, 0, 0, 8, 0, 0, 64, 224, 480, 0, 0, 3072, 7168, 16355, 32739, 65535, 131071]), (16, [0, 1, 2, 3, 4, 5, 6, 7, 8, 9, 10], [0, 0, 3, 7, 0, 0, 32, 112, 240, 511, 1023]), (17, [0, 1, 2, 3, 4, 5, 6, 7, 8, 9, 10, 11, 12, 13, 14, 15, 16, 17], [0, 0, 0, 0, 8, 0, 0, 64, 224, 480, 0, 0, 3072, 7168, 16355, 32739, 65535, 131071]), (22, [0, 1, 2, 3, 4, 5, 6, 7, 8, 9, 10], [0, 0, 3, 7, 0, 0, 32, 112, 240, 511, 1023]), (23, [0, 1, 2, 3, 4, 5, 6, 7, 8, 9, 10, 11, 12, 13, 14, 15, 16, 17], [0, 0, 0, 0, 8, 0, 0, 64, 224, 480, 0, 0, 3072, 7168, 16355, 32739, 65535, 131071])]⟩ 7 ?_
              refine And.intro (by kernel_rfl) ?_
              refine And.intro ⟨by omega, by omega⟩ ?_
              refine ⟨_, y2.ldI rfl (by omega), ?_⟩
              refine And.intro ⟨by omega, by omega⟩ ?_
              refine ⟨_, y2.ldI wk (by omega), ?_⟩
              refine callP (Less_ok _ _ _) ?_
              rintro v hy ⟨rfl, rfl⟩
              refine cnd (fun k2 => ?_) (fun k2 => ?_)
              · exact done u _ _ _ ⟨rfl, rfl, rfl, rfl, rfl, rfl, trivial⟩ trivial ⟨y1, y2, y3, (shiftUp_stop (d := u.2) (by simpa using k2)).symm.trans y4⟩
              · refine more tbOk mtOk ⟨[], [(5, [0, 1, 2, 3, 4, 5, 6, 7, 8, 9, 10, 11, 12, 13, 14, 15], [0, 0, 3, 7, 15, 15, 63, 127, 15, 15, 527, 1807, 3855, 8191, 16383, 32767]), (11, [0, 1, 2, 3, 4, 5, 6, 7, 8, 9, 10, 11, 12, 13, 14, 15, 16, 17], [0, 0, 0, 0, 8, 0, 0, 64, 224, 480, 0, 0, 3072, 7168, 16355, 32739, 65535, 131071]), (16, [0, 1, 2, 3, 4, 5, 6, 7, 8, 9, 10], [0, 0, 3, 7, 0, 0, 32, 112, 240, 511, 1023]), (17, [0, 1, 2, 3, 4, 5, 6, 7, 8, 9, 10, 11, 12, 13, 14, 15, 16, 17], [0, 0, 0, 0, 8, 0, 0, 64, 224, 480, 0, 0, 3072, 7168, 16355, 32739, 65535, 131071]), (22, [0, 1, 2, 3, 4, 5, 6, 7, 8, 9, 10], [0, 0, 3, 7, 0, 0, 32, 112, 240, 511, 1023]), (23, [0, 1, 2, 3, 4, 5, 6, 7, 8, 9, 10, 11, 12, 13, 14, 15, 16, 17], [0, 0, 0, 0, 8, 0, 0, 64, 224, 480, 0, 0, 3072, 7168, 16355, 32739, 65535, 131071])]⟩ 400 ?_
                refine And.intro (by kernel_rfl) ?_
                refine And.intro ⟨by omega, by omega⟩ ?_
                refine ⟨_, y2.ldI wk (by omega), ?_⟩
                refine And.intro ⟨by omega, by omega⟩ ?_
                refine ⟨_, y2.ldI rfl (by omega), ?_⟩
                refine And.intro ⟨by omega, by omega⟩ ?_
                refine ⟨_, y2.stI (lo := lo) hb rfl (i := u.1) (by omega) _, ?_⟩
                refine And.intro ⟨by omega, by omega⟩ ?_
                refine ⟨_, (y2.sw1 (u.1) (u.1 - 1)).stI (lo := lo) hb wk (by rw [Array.size_setIfInBounds]; omega) _, ?_⟩
                exact again' (u.1 + 1, swp u.2 u.1 (u.1 - 1)) _ _ _ (by show c - (u.1 + 1) < c - u.1; omega) ⟨vI wl, rfl, rfl, rfl, rfl, rfl, trivial⟩ trivial ⟨by show x < u.1 + 1; omega, y1.trans (hsw_ext _ _), y2.sw _ _, swp_sz y3 _ _, (shiftUp_go k1 (by simpa using k2)).symm.trans y4⟩
            · have k1 : ¬ u.1 < c := by have := of_decide_eq_false k1; omega
              exact done u _ _ _ ⟨rfl, rfl, rfl, rfl, rfl, rfl, trivial⟩ trivial ⟨y1, y2, y3, by rw [← y4, shiftUp_far k1]⟩
          · obtain ⟨y1, y2, y3, y4⟩ := hE
            rw [← y4] at j6
            exact again (s.1 + 1, x, u.2) _ _ _ (by show 5 - (s.1 + 1) < 5 - s.1; omega) ⟨vI ws, rfl, rfl, rfl, rfl, trivial⟩ trivial ⟨by show s.1 + 1 ≤ 5; omega, ⟨by show a < x; omega, by show x ≤ c; omega⟩, y1, y2, y3, j6⟩
        · have c5 : ¬ c - x ≥ 2 := by have := of_decide_eq_false c5; omega
          simp only [if_neg c5] at j6
          exact again (s.1 + 1, x, d2) _ _ _ (by show 5 - (s.1 + 1) < 5 - s.1; omega) ⟨vI ws, rfl, rfl, rfl, rfl, trivial⟩ trivial ⟨by show s.1 + 1 ≤ 5; omega, ⟨by show a < x; omega, by show x ≤ c; omega⟩, u1, u2, u3, j6⟩
  · have c1 : s.1 = 5 := by have := of_decide_eq_false c1; omega
    rw [c1] at j6
    rw [← j6]
    exact And.intro rfl ⟨j3, j4, j5⟩
end Go.Proofs.Ytgcbfhdlfajemaa.Id
/- The walk of Go's sort: the pivot is chosen. -/
namespace Go.Proofs.Ytgcbfhdlfajemaa.Id
open Go.Id Go.Sort
open Go.Proofs
set_option linter.unusedVariables false
set_option maxRecDepth 100000
variable {X : Ctx Try.prog} {lo : Nat}
theorem order2_ok (b e n fl q : Nat) (d : Array Int) (a c sw : Nat) (h : Hp) (r : AR h b e d) (hn : d.size = n) (ha : a < n) (hc : c < n) (hN : n < 2 ^ 31) (hq : Bx h q [.int .i64 (sw : Int)]) (hbq : b ≠ q) (hlq : lo ≤ q) (hs : sw ≤ 100) : Tri X lo 115 [sa b e n fl, .int .i64 (a : Int), .int .i64 (c : Int), .pointer (some ⟨q, 0, none⟩)] h fun v h' => v = .tuple #[.int .i64 ((order2 ltInt d a c sw).1 : Int), .int .i64 ((order2 ltInt d a c sw).2.1 : Int)] ∧ Ext1 q h h' ∧ Bx h' q [.int .i64 ((order2 ltInt d a c sw).2.2 : Int)] := by
  refine enter tbOk mtOk ⟨[], [(1, [0, 1, 2, 3, 4, 5, 6, 7, 8], [0, 0, 3, 7, 0, 0, 48, 112, 255])]⟩ 400 Try.func115 rfl rfl rfl fun hlo => ?_
  have hR : order2 ltInt d a c sw = if ltInt d[c]! d[a]! then (c, a, sw + 1) else (a, c, sw) := rfl
  generalize order2 ltInt d a c sw = R at hR ⊢
  refine And.intro (by kernel_rfl) ?_
  refine And.intro ⟨by omega, by omega⟩ ?_
  refine ⟨_, r.ldI rfl (by omega), ?_⟩
  refine And.intro ⟨by omega, by omega⟩ ?_
  refine ⟨_, r.ldI rfl (by omega), ?_⟩
  refine callP (Less_ok _ _ _) ?_
  rintro v h1 ⟨rfl, rfl⟩
  have ws : IntKind.i64.wrap ((sw : Int) + 1) = ((sw + 1 : Nat) : Int) := wz (by omega) (by omega)
  refine cnd (fun c1 => ?_) (fun c1 => ?_)
  · have c1 : ltInt d[c]! d[a]! = true := c1
    rw [if_pos c1] at hR
    subst hR
    refine ⟨_, hq.ld rfl, ?_⟩
    refine ⟨_, hq.st (lo := lo) hlq (xs := [.int .i64 (IntKind.i64.wrap ((sw : Int) + 1))]) rfl, ?_⟩
    refine And.intro rfl ⟨((Ext.refl _).one q).set _ (.inl rfl), ?_⟩
    rw [← ws]; exact Bx.set hq
  · have c1 : ltInt d[c]! d[a]! = false := c1
    rw [if_neg (by rw [c1]; simp)] at hR
    subst hR
    exact And.intro rfl ⟨(Ext.refl _).one q, hq⟩
theorem order2_in (d : Array Int) {n a c : Nat} (sw : Nat) (ha : a < n) (hc : c < n) : (order2 ltInt d a c sw).1 < n ∧ (order2 ltInt d a c sw).2.1 < n := by
  rcases order2_mem ltInt d a c sw with ⟨h1, h2⟩ | ⟨h1, h2⟩ <;> rw [h1, h2] <;> exact ⟨by assumption, by assumption⟩
theorem median_ok (b e n fl q : Nat) (d : Array Int) (a c m sw : Nat) (h : Hp) (r : AR h b e d) (hn : d.size = n) (ha : a < n) (hc : c < n) (hm : m < n) (hN : n < 2 ^ 31) (hq : Bx h q [.int .i64 (sw : Int)]) (hbq : b ≠ q) (hlq : lo ≤ q) (hs : sw ≤ 50) : Tri X lo 112 [sa b e n fl, .int .i64 (a : Int), .int .i64 (c : Int), .int .i64 (m : Int), .pointer (some ⟨q, 0, none⟩)] h fun v h' => v = .int .i64 ((median ltInt d a c m sw).1 : Int) ∧ Ext1 q h h' ∧ Bx h' q [.int .i64 ((median ltInt d a c m sw).2 : Int)] := by
  refine enter tbOk mtOk ⟨[], []⟩ 400 Try.func112 rfl rfl rfl fun hlo => ?_
  have hM : median ltInt d a c m sw = ((order2 ltInt d (order2 ltInt d a c sw).1 (order2 ltInt d (order2 ltInt d a c sw).2.1 m (order2 ltInt d a c sw).2.2).1 (order2 ltInt d (order2 ltInt d a c sw).2.1 m (order2 ltInt d a c sw).2.2).2.2).2.1, (order2 ltInt d (order2 ltInt d a c sw).1 (order2 ltInt d (order2 ltInt d a c sw).2.1 m (order2 ltInt d a c sw).2.2).1 (order2 ltInt d (order2 ltInt d a c sw).2.1 m (order2 ltInt d a c sw).2.2).2.2).2.2) := rfl
  generalize median ltInt d a c m sw = M at hM ⊢
  refine callP (order2_ok b e n fl q d a c sw h r hn ha hc hN hq hbq hlq (by omega)) ?_
  rintro v h1 ⟨rfl, e1, q1⟩
  have k1 := order2_count (lt := ltInt) d a c sw
  have m1 := order2_in d sw ha hc
  generalize order2 ltInt d a c sw = R1 at *
  refine callP (order2_ok b e n fl q d R1.2.1 m R1.2.2 h1 (r.ext1 e1 hbq) hn m1.2 hm hN q1 hbq hlq (by omega)) ?_
  rintro v h2 ⟨rfl, e2, q2⟩
  have k2 := order2_count (lt := ltInt) d R1.2.1 m R1.2.2
  have m2 := order2_in d R1.2.2 m1.2 hm
  generalize order2 ltInt d R1.2.1 m R1.2.2 = R2 at *
  refine callP (order2_ok b e n fl q d R1.1 R2.1 R2.2.2 h2 ((r.ext1 e1 hbq).ext1 e2 hbq) hn m1.1 m2.1 hN q2 hbq hlq (by omega)) ?_
  rintro v h3 ⟨rfl, e3, q3⟩
  subst hM
  exact And.intro rfl ⟨(e1.trans e2).trans e3, q3⟩
theorem medianAdjacent_ok (b e n fl q : Nat) (d : Array Int) (a sw : Nat) (h : Hp) (r : AR h b e d) (hn : d.size = n) (ha : 1 ≤ a ∧ a + 1 < n) (hN : n < 2 ^ 31) (hq : Bx h q [.int .i64 (sw : Int)]) (hbq : b ≠ q) (hlq : lo ≤ q) (hs : sw ≤ 50) : Tri X lo 111 [sa b e n fl, .int .i64 (a : Int), .pointer (some ⟨q, 0, none⟩)] h fun v h' => v = .int .i64 ((medianAdjacent ltInt d a sw).1 : Int) ∧ Ext1 q h h' ∧ Bx h' q [.int .i64 ((medianAdjacent ltInt d a sw).2 : Int)] := by
  refine enter tbOk mtOk ⟨[], []⟩ 400 Try.func111 rfl rfl rfl fun hlo => ?_
  have w1 : IntKind.i64.wrap ((a : Int) - 1) = ((a - 1 : Nat) : Int) := wz (by omega) (by omega)
  have w2 : IntKind.i64.wrap ((a : Int) + 1) = ((a + 1 : Nat) : Int) := wz (by omega) (by omega)
  have ct : Tri X lo 112 [sa b e n fl, .int .i64 (IntKind.i64.wrap ((a : Int) - 1)), .int .i64 (a : Int), .int .i64 (IntKind.i64.wrap ((a : Int) + 1)), .pointer (some ⟨q, 0, none⟩)] h (fun v h' => v = .int .i64 ((median ltInt d (a - 1) a (a + 1) sw).1 : Int) ∧ Ext1 q h h' ∧ Bx h' q [.int .i64 ((median ltInt d (a - 1) a (a + 1) sw).2 : Int)]) := by
    rw [w1, w2]; exact median_ok b e n fl q d (a - 1) a (a + 1) sw h r hn (by omega) (by omega) (by omega) hN hq hbq hlq hs
  refine callP ct ?_
  rintro v h1 ⟨rfl, e1, q1⟩
  exact And.intro rfl ⟨e1, q1⟩
theorem median_in (d : Array Int) {n a c m : Nat} (sw : Nat) (ha : a < n) (hc : c < n) (hm : m < n) : (median ltInt d a c m sw).1 < n := by
  rcases median_mem ltInt d a c m sw with h | h | h <;> rw [h] <;> assumption
theorem medianAdjacent_in (d : Array Int) {n a : Nat} (sw : Nat) (ha : 1 ≤ a ∧ a + 1 < n) : (medianAdjacent ltInt d a sw).1 < n := by
  rcases medianAdjacent_mem ltInt d a sw with h | h | h <;> rw [h] <;> omega
theorem choosePivot_ok (b e n fl : Nat) (d : Array Int) (a c : Nat) (h : Hp) (r : AR h b e d) (hn : d.size = n) (ha : a < c) (hc : c ≤ n) (hN : n < 2 ^ 31) : Tri X lo 89 [sa b e n fl, .int .i64 (a : Int), .int .i64 (c : Int)] h fun v h' => v = .tuple #[.int .i64 ((choosePivot ltInt d a c).1 : Int), .int .i64 (hintCode (choosePivot ltInt d a c).2)] ∧ Ext h h' := by
  refine enter tbOk mtOk ⟨[9], []⟩ 400 Try.func89 rfl rfl rfl fun hlo => ?_
  rw [choosePivot_eq]
  have hR : rawPivot ltInt d a c = if c - a ≥ 8 then
    if c - a ≥ 50 then
      median ltInt d (medianAdjacent ltInt d (a + (c - a) / 4 * 1) 0).1 (medianAdjacent ltInt d (a + (c - a) / 4 * 2) (medianAdjacent ltInt d (a + (c - a) / 4 * 1) 0).2).1
        (medianAdjacent ltInt d (a + (c - a) / 4 * 3) (medianAdjacent ltInt d (a + (c - a) / 4 * 2) (medianAdjacent ltInt d (a + (c - a) / 4 * 1) 0).2).2).1
        (medianAdjacent ltInt d (a + (c - a) / 4 * 3) (medianAdjacent ltInt d (a + (c - a) / 4 * 2) (medianAdjacent ltInt d (a + (c - a) / 4 * 1) 0).2).2).2
    else median ltInt d (a + (c - a) / 4 * 1) (a + (c - a) / 4 * 2) (a + (c - a) / 4 * 3) 0
  else (a + (c - a) / 4 * 2, 0) := rfl
  generalize rawPivot ltInt d a c = RP at hR ⊢
  have l0 : IntKind.i64.wrap ((c : Int) - (a : Int)) = ((c - a : Nat) : Int) := wz (by omega) (by omega)
  have l4 : IntKind.i64.wrap ((IntKind.i64.wrap ((c : Int) - (a : Int))).tdiv 4) = (((c - a) / 4 : Nat) : Int) := by
    rw [l0, Int.tdiv_eq_ediv_of_nonneg (by omega), wr (by omega) (by omega)]; omega
  have i1 : IntKind.i64.wrap ((a : Int) + IntKind.i64.wrap (IntKind.i64.wrap ((IntKind.i64.wrap ((c : Int) - (a : Int))).tdiv 4) * 1)) = ((a + (c - a) / 4 * 1 : Nat) : Int) := by
    rw [l4, wr (n := (((c - a) / 4 : Nat) : Int) * 1) (by omega) (by omega), wr (by omega) (by omega)]; omega
  have i2 : IntKind.i64.wrap ((a : Int) + IntKind.i64.wrap (IntKind.i64.wrap ((IntKind.i64.wrap ((c : Int) - (a : Int))).tdiv 4) * 2)) = ((a + (c - a) / 4 * 2 : Nat) : Int) := by
    rw [l4, wr (n := (((c - a) / 4 : Nat) : Int) * 2) (by omega) (by omega), wr (by omega) (by omega)]; omega
  have i3 : IntKind.i64.wrap ((a : Int) + IntKind.i64.wrap (IntKind.i64.wrap ((IntKind.i64.wrap ((c : Int) - (a : Int))).tdiv 4) * 3)) = ((a + (c - a) / 4 * 3 : Nat) : Int) := by
    rw [l4, wr (n := (((c - a) / 4 : Nat) : Int) * 3) (by omega) (by omega), wr (by omega) (by omega)]; omega
  have lt := r.lt
  have e0 : Ext h (h.push (.cells [.int .i64 0] 0 0)) := Ext.push _ _
  have b0 : Bx (h.push (.cells [.int .i64 0] 0 0)) h.n [.int .i64 ((0 : Nat) : Int)] := Bx.push
  have r0 := r.ext e0
  refine And.intro (by decide) ?_
  refine And.intro (by decide) ?_
  refine And.intro (by decide) ?_
  refine cnd (fun c1 => ?_) (fun c1 => ?_)
  · have c1 : c - a ≥ 8 := by have := of_decide_eq_true c1; omega
    rw [if_pos c1] at hR
    refine cnd (fun c2 => ?_) (fun c2 => ?_)
    · have c2 : c - a ≥ 50 := by have := of_decide_eq_true c2; omega
      rw [if_pos c2] at hR
      have t1 : Tri X lo 111 [sa b e n fl, .int .i64 (IntKind.i64.wrap ((a : Int) + IntKind.i64.wrap (IntKind.i64.wrap ((IntKind.i64.wrap ((c : Int) - (a : Int))).tdiv 4) * 1))), .pointer (some ⟨h.n, 0, none⟩)] (h.push (.cells [.int .i64 0] 0 0)) (fun v h' => v = .int .i64 ((medianAdjacent ltInt d (a + (c - a) / 4 * 1) 0).1 : Int) ∧ Ext1 h.n (h.push (.cells [.int .i64 0] 0 0)) h' ∧ Bx h' h.n [.int .i64 ((medianAdjacent ltInt d (a + (c - a) / 4 * 1) 0).2 : Int)]) := by
        rw [i1]; exact medianAdjacent_ok b e n fl h.n d _ 0 _ r0 hn (by omega) hN b0 (by omega) hlo (by omega)
      refine callP t1 ?_
      rintro v h1 ⟨rfl, e1, q1⟩
      have k1 := medianAdjacent_count ltInt d (a + (c - a) / 4 * 1) 0
      have m1 := medianAdjacent_in (n := n) d (a := a + (c - a) / 4 * 1) 0 (by omega)
      generalize medianAdjacent ltInt d (a + (c - a) / 4 * 1) 0 = M1 at *
      have r1 := r0.ext1 e1 (by omega)
      have t2 : Tri X lo 111 [sa b e n fl, .int .i64 (IntKind.i64.wrap ((a : Int) + IntKind.i64.wrap (IntKind.i64.wrap ((IntKind.i64.wrap ((c : Int) - (a : Int))).tdiv 4) * 2))), .pointer (some ⟨h.n, 0, none⟩)] h1 (fun v h' => v = .int .i64 ((medianAdjacent ltInt d (a + (c - a) / 4 * 2) M1.2).1 : Int) ∧ Ext1 h.n h1 h' ∧ Bx h' h.n [.int .i64 ((medianAdjacent ltInt d (a + (c - a) / 4 * 2) M1.2).2 : Int)]) := by
        rw [i2]; exact medianAdjacent_ok b e n fl h.n d _ M1.2 _ r1 hn (by omega) hN q1 (by omega) hlo (by omega)
      refine callP t2 ?_
      rintro v h2 ⟨rfl, e2, q2⟩
      have k2 := medianAdjacent_count ltInt d (a + (c - a) / 4 * 2) M1.2
      have m2 := medianAdjacent_in (n := n) d (a := a + (c - a) / 4 * 2) M1.2 (by omega)
      generalize medianAdjacent ltInt d (a + (c - a) / 4 * 2) M1.2 = M2 at *
      have r2 := r1.ext1 e2 (by omega)
      have t3 : Tri X lo 111 [sa b e n fl, .int .i64 (IntKind.i64.wrap ((a : Int) + IntKind.i64.wrap (IntKind.i64.wrap ((IntKind.i64.wrap ((c : Int) - (a : Int))).tdiv 4) * 3))), .pointer (some ⟨h.n, 0, none⟩)] h2 (fun v h' => v = .int .i64 ((medianAdjacent ltInt d (a + (c - a) / 4 * 3) M2.2).1 : Int) ∧ Ext1 h.n h2 h' ∧ Bx h' h.n [.int .i64 ((medianAdjacent ltInt d (a + (c - a) / 4 * 3) M2.2).2 : Int)]) := by
        rw [i3]; exact medianAdjacent_ok b e n fl h.n d _ M2.2 _ r2 hn (by omega) hN q2 (by omega) hlo (by omega)
      refine callP t3 ?_
      rintro v h3 ⟨rfl, e3, q3⟩
      have k3 := medianAdjacent_count ltInt d (a + (c - a) / 4 * 3) M2.2
      have m3 := medianAdjacent_in (n := n) d (a := a + (c - a) / 4 * 3) M2.2 (by omega)
      generalize medianAdjacent ltInt d (a + (c - a) / 4 * 3) M2.2 = M3 at *
      have r3 := r2.ext1 e3 (by omega)
      have mk := median_ok (X := X) (lo := lo) b e n fl h.n d M1.1 M2.1 M3.1 M3.2 h3 r3 hn m1 m2 m3 hN q3 (by omega) hlo (by omega)
      rw [← hR] at mk
      refine callP mk ?_
      rintro v h4 ⟨rfl, e4, q4⟩
      have x4 := (((e1.trans e2).trans e3).trans e4).out e0 (Nat.le_refl _)
      refine ⟨_, q4.ld rfl, ?_⟩
      refine cnd (fun c3 => ?_) (fun c3 => ?_)
      · have c3 : RP.2 = 0 := by simpa using c3
        refine And.intro ?_ x4
        rw [show hintOf RP.2 = .increasing from by unfold hintOf; rw [if_pos c3]]; rfl
      · have c3 : ¬ RP.2 = 0 := by simpa using c3
        refine cnd (fun c4 => ?_) (fun c4 => ?_)
        · have c4 : RP.2 = 12 := by have : (RP.2 : Int) = 12 := by simpa using c4
                                    omega
          refine And.intro ?_ x4
          rw [show hintOf RP.2 = .decreasing from by unfold hintOf; rw [if_neg c3, if_pos c4]]; rfl
        · have c4 : ¬ RP.2 = 12 := by have : ¬ (RP.2 : Int) = 12 := by simpa using c4
                                      omega
          refine And.intro ?_ x4
          rw [show hintOf RP.2 = .unknown from by unfold hintOf; rw [if_neg c3, if_neg c4]]; rfl
    · have c2 : ¬ c - a ≥ 50 := by have := of_decide_eq_false c2; omega
      rw [if_neg c2] at hR
      have mk : Tri X lo 112 [sa b e n fl, .int .i64 (IntKind.i64.wrap ((a : Int) + IntKind.i64.wrap (IntKind.i64.wrap ((IntKind.i64.wrap ((c : Int) - (a : Int))).tdiv 4) * 1))), .int .i64 (IntKind.i64.wrap ((a : Int) + IntKind.i64.wrap (IntKind.i64.wrap ((IntKind.i64.wrap ((c : Int) - (a : Int))).tdiv 4) * 2))), .int .i64 (IntKind.i64.wrap ((a : Int) + IntKind.i64.wrap (IntKind.i64.wrap ((IntKind.i64.wrap ((c : Int) - (a : Int))).tdiv 4) * 3))), .pointer (some ⟨h.n, 0, none⟩)] (h.push (.cells [.int .i64 0] 0 0)) (fun v h' => v = .int .i64 (RP.1 : Int) ∧ Ext1 h.n (h.push (.cells [.int .i64 0] 0 0)) h' ∧ Bx h' h.n [.int .i64 (RP.2 : Int)]) := by
        rw [i1, i2, i3, hR]; exact median_ok b e n fl h.n d _ _ _ 0 _ r0 hn (by omega) (by omega) (by omega) hN b0 (by omega) hlo (by omega)
      refine callP mk ?_
      rintro v h4 ⟨rfl, e4, q4⟩
      have x4 := e4.out e0 (Nat.le_refl _)
      refine ⟨_, q4.ld rfl, ?_⟩
      refine cnd (fun c3 => ?_) (fun c3 => ?_)
      · have c3 : RP.2 = 0 := by simpa using c3
        refine And.intro ?_ x4
        rw [show hintOf RP.2 = .increasing from by unfold hintOf; rw [if_pos c3]]; rfl
      · have c3 : ¬ RP.2 = 0 := by simpa using c3
        refine cnd (fun c4 => ?_) (fun c4 => ?_)
        · have c4 : RP.2 = 12 := by have : (RP.2 : Int) = 12 := by simpa using c4
                                    omega
          refine And.intro ?_ x4
          rw [show hintOf RP.2 = .decreasing from by unfold hintOf; rw [if_neg c3, if_pos c4]]; rfl
        · have c4 : ¬ RP.2 = 12 := by have : ¬ (RP.2 : Int) = 12 := by simpa using c4
                                      omega
          refine And.intro ?_ x4
          rw [show hintOf RP.2 = .unknown from by unfold hintOf; rw [if_neg c3, if_neg c4]]; rfl
  · have c1 : ¬ c - a ≥ 8 := by have := of_decide_eq_false c1; omega
    rw [if_neg c1] at hR
    refine ⟨_, b0.ld rfl, ?_⟩
    refine cndT ?_
    refine And.intro ?_ e0
    subst hR
    show Value.tuple #[.int .i64 (IntKind.i64.wrap ((a : Int) + IntKind.i64.wrap (IntKind.i64.wrap ((IntKind.i64.wrap ((c : Int) - (a : Int))).tdiv 4) * 2))), .int .i64 1] = _
    rw [i2]; rfl
end Go.Proofs.Ytgcbfhdlfajemaa.Id
/- The walk of Go's sort: bits.Len, the pseudo-random number, the patterns broken. -/
namespace Go.Proofs.Ytgcbfhdlfajemaa.Id
open Go.Id Go.Sort
open Go.Proofs
set_option linter.unusedVariables false
set_option maxRecDepth 100000
variable {X : Ctx Try.prog} {lo : Nat}
theorem bitsLen_div {x k : Nat} (h : 2 ^ k ≤ x) : bitsLen (x / 2 ^ k) + k = bitsLen x := by
  have h1 : bitsLen x ≤ bitsLen (x / 2 ^ k) + k := by
    rw [bitsLen_le_iff, Nat.pow_add]
    have := lt_two_pow_bitsLen (x / 2 ^ k)
    exact (Nat.div_lt_iff_lt_mul (Nat.two_pow_pos k)).1 this
  have h2 : k ≤ bitsLen x := by
    rcases Nat.lt_or_ge (bitsLen x) k with q | q
    · have := lt_two_pow_bitsLen x
      have := Nat.pow_le_pow_right (show 0 < 2 by decide) (Nat.le_of_lt q)
      omega
    · exact q
  have h3 : bitsLen (x / 2 ^ k) ≤ bitsLen x - k := by
    rw [bitsLen_le_iff, Nat.div_lt_iff_lt_mul (Nat.two_pow_pos k), ← Nat.pow_add, Nat.sub_add_cancel h2]
    exact lt_two_pow_bitsLen x
  omega
theorem wu8 {n : Int} (h : 0 ≤ n ∧ n < 256) : IntKind.u8.wrap n = n := by
  have : IntKind.u8.wrap n = n % 256 := by simp [IntKind.wrap, IntKind.bits, IntKind.signed]
  rw [this]; omega
theorem fd16 (x : Nat) : (x : Int).fdiv (2 ^ min (Int.toNat 16) IntKind.u64.bits) = ((x / 65536 : Nat) : Int) := by
  show (x : Int).fdiv 65536 = _
  rw [Int.fdiv_eq_ediv_of_nonneg _ (by decide)]; omega
theorem fd8 (x : Nat) : (x : Int).fdiv (2 ^ min (Int.toNat 8) IntKind.u64.bits) = ((x / 256 : Nat) : Int) := by
  show (x : Int).fdiv 256 = _
  rw [Int.fdiv_eq_ediv_of_nonneg _ (by decide)]; omega
theorem Len64_ok (x : Nat) (hx : x < 2 ^ 32) (h : Hp) : Tri X lo 96 [.int .u64 (x : Int)] h fun v h' => v = .int .i64 (bitsLen x : Int) ∧ h' = h := by
  refine enter tbOk mtOk ⟨[], []⟩ 400 Try.func96 rfl rfl rfl fun hlo => ?_
  have b16 : 65536 ≤ x → bitsLen x = bitsLen (x / 65536) + 16 := fun q => (bitsLen_div (k := 16) q).symm
  have b8 : ∀ {x : Nat}, 256 ≤ x → bitsLen x = bitsLen (x / 256) + 8 := fun q => (bitsLen_div (k := 8) q).symm
  have f16 := fd16 x
  have f8 := fd8 x
  have f168 := fd8 (x / 65536)
  refine cnd (fun c1 => absurd (of_decide_eq_true c1) (by omega)) (fun c1 => ?_)
  refine cnd (fun c2 => ?_) (fun c2 => ?_)
  · have c2 : 65536 ≤ x := by have := of_decide_eq_true c2; omega
    refine And.intro (by decide) ?_
    refine cnd (fun c3 => ?_) (fun c3 => ?_)
    · have c3 : 256 ≤ x / 65536 := by have := of_decide_eq_true c3; rw [f16] at this; omega
      refine And.intro (by decide) ?_
      obtain ⟨y, hy⟩ : ∃ y, y = x / 65536 / 256 := ⟨_, rfl⟩
      have hy8 : y < 256 := by omega
      have hE : IntKind.u8.wrap ((((x : Int).fdiv (2 ^ min (Int.toNat 16) IntKind.u64.bits)).fdiv (2 ^ min (Int.toNat 8) IntKind.u64.bits))) = ((y : Nat) : Int) := by rw [f16, f168, wu8 (by omega)]; omega
      have ht : bitsLen x = bitsLen y + 24 := by rw [hy]; rw [b16 c2, b8 c3]
      refine And.intro (by show (0 : Int) ≤ IntKind.u8.wrap ((((x : Int).fdiv (2 ^ min (Int.toNat 16) IntKind.u64.bits)).fdiv (2 ^ min (Int.toNat 8) IntKind.u64.bits))); rw [hE]; omega) ?_
      refine ⟨UInt8.ofNat (bitsLen y), ?_, ?_⟩
      · rw [hE, Int.toNat_natCast]
        clear hE ht hy
        revert y
        decide +kernel
      · have hb : bitsLen y ≤ 8 := by rw [bitsLen_le_iff]; exact hy8
        refine And.intro ?_ rfl
        have hu : ((UInt8.ofNat (bitsLen y)).toNat : Int) = (bitsLen y : Int) := by rw [UInt8.toNat_ofNat_of_lt' (by show bitsLen y < 256; omega)]
        show Value.int .i64 (IntKind.i64.wrap (IntKind.i64.wrap (16 + 8) + IntKind.i64.wrap ((UInt8.ofNat (bitsLen y)).toNat : Int))) = _
        rw [hu, ht, show IntKind.i64.wrap (16 + 8) = 24 from by decide, wr (n := (bitsLen y : Int)) (by omega) (by omega), wr (by omega) (by omega)]
        congr 1; omega
    · have c3 : ¬ 256 ≤ x / 65536 := by have := of_decide_eq_false c3; rw [f16] at this; omega
      obtain ⟨y, hy⟩ : ∃ y, y = x / 65536 := ⟨_, rfl⟩
      have hy8 : y < 256 := by omega
      have hE : IntKind.u8.wrap (((x : Int).fdiv (2 ^ min (Int.toNat 16) IntKind.u64.bits))) = ((y : Nat) : Int) := by rw [f16, wu8 (by omega)]; omega
      have ht : bitsLen x = bitsLen y + 16 := by rw [hy]; exact b16 c2
      refine And.intro (by show (0 : Int) ≤ IntKind.u8.wrap (((x : Int).fdiv (2 ^ min (Int.toNat 16) IntKind.u64.bits))); rw [hE]; omega) ?_
      refine ⟨UInt8.ofNat (bitsLen y), ?_, ?_⟩
      · rw [hE, Int.toNat_natCast]
        clear hE ht hy
        revert y
        decide +kernel
      · have hb : bitsLen y ≤ 8 := by rw [bitsLen_le_iff]; exact hy8
        refine And.intro ?_ rfl
        have hu : ((UInt8.ofNat (bitsLen y)).toNat : Int) = (bitsLen y : Int) := by rw [UInt8.toNat_ofNat_of_lt' (by show bitsLen y < 256; omega)]
        show Value.int .i64 (IntKind.i64.wrap (16 + IntKind.i64.wrap ((UInt8.ofNat (bitsLen y)).toNat : Int))) = _
        rw [hu, ht, wr (n := (bitsLen y : Int)) (by omega) (by omega), wr (by omega) (by omega)]
        congr 1; omega
  · have c2 : ¬ 65536 ≤ x := by have := of_decide_eq_false c2; omega
    refine cnd (fun c3 => ?_) (fun c3 => ?_)
    · have c3 : 256 ≤ x := by have := of_decide_eq_true c3; omega
      refine And.intro (by decide) ?_
      obtain ⟨y, hy⟩ : ∃ y, y = x / 256 := ⟨_, rfl⟩
      have hy8 : y < 256 := by omega
      have hE : IntKind.u8.wrap (((x : Int).fdiv (2 ^ min (Int.toNat 8) IntKind.u64.bits))) = ((y : Nat) : Int) := by rw [f8, wu8 (by omega)]; omega
      have ht : bitsLen x = bitsLen y + 8 := by rw [hy]; exact b8 c3
      refine And.intro (by show (0 : Int) ≤ IntKind.u8.wrap (((x : Int).fdiv (2 ^ min (Int.toNat 8) IntKind.u64.bits))); rw [hE]; omega) ?_
      refine ⟨UInt8.ofNat (bitsLen y), ?_, ?_⟩
      · rw [hE, Int.toNat_natCast]
        clear hE ht hy
        revert y
        decide +kernel
      · have hb : bitsLen y ≤ 8 := by rw [bitsLen_le_iff]; exact hy8
        refine And.intro ?_ rfl
        have hu : ((UInt8.ofNat (bitsLen y)).toNat : Int) = (bitsLen y : Int) := by rw [UInt8.toNat_ofNat_of_lt' (by show bitsLen y < 256; omega)]
        show Value.int .i64 (IntKind.i64.wrap (IntKind.i64.wrap (0 + 8) + IntKind.i64.wrap ((UInt8.ofNat (bitsLen y)).toNat : Int))) = _
        rw [hu, ht, show IntKind.i64.wrap (0 + 8) = 8 from by decide, wr (n := (bitsLen y : Int)) (by omega) (by omega), wr (by omega) (by omega)]
        congr 1; omega
    · have c3 : ¬ 256 ≤ x := by have := of_decide_eq_false c3; omega
      obtain ⟨y, hy⟩ : ∃ y, y = x := ⟨_, rfl⟩
      have hy8 : y < 256 := by omega
      have hE : IntKind.u8.wrap ((x : Int)) = ((y : Nat) : Int) := by rw [wu8 (by omega)]; omega
      have ht : bitsLen x = bitsLen y + 0 := by rw [hy]; rfl
      refine And.intro (by show (0 : Int) ≤ IntKind.u8.wrap ((x : Int)); rw [hE]; omega) ?_
      refine ⟨UInt8.ofNat (bitsLen y), ?_, ?_⟩
      · rw [hE, Int.toNat_natCast]
        clear hE ht hy
        revert y
        decide +kernel
      · have hb : bitsLen y ≤ 8 := by rw [bitsLen_le_iff]; exact hy8
        refine And.intro ?_ rfl
        have hu : ((UInt8.ofNat (bitsLen y)).toNat : Int) = (bitsLen y : Int) := by rw [UInt8.toNat_ofNat_of_lt' (by show bitsLen y < 256; omega)]
        show Value.int .i64 (IntKind.i64.wrap (0 + IntKind.i64.wrap ((UInt8.ofNat (bitsLen y)).toNat : Int))) = _
        rw [hu, ht, wr (n := (bitsLen y : Int)) (by omega) (by omega), wr (by omega) (by omega)]
        congr 1; omega
theorem xw {a b : Nat} (ha : a < 2 ^ 64) (hb : b < 2 ^ 64) : IntKind.u64.wrap (((BitVec.ofInt IntKind.u64.bits (a : Int) ^^^ BitVec.ofInt IntKind.u64.bits (b : Int)).toNat : Nat) : Int) = ((a ^^^ b : Nat) : Int) := by
  have hw : ∀ n : Int, IntKind.u64.wrap n = n % 18446744073709551616 := fun n => by simp [IntKind.wrap, IntKind.bits, IntKind.signed]
  have h1 : (BitVec.ofInt IntKind.u64.bits (a : Int) ^^^ BitVec.ofInt IntKind.u64.bits (b : Int)).toNat = a ^^^ b := by
    show (BitVec.ofInt 64 (a : Int) ^^^ BitVec.ofInt 64 (b : Int)).toNat = a ^^^ b
    rw [BitVec.toNat_xor, BitVec.toNat_ofInt, BitVec.toNat_ofInt]
    congr 1 <;> omega
  have h2 : a ^^^ b < 2 ^ 64 := Nat.xor_lt_two_pow ha hb
  rw [h1, hw]; omega
theorem shl13 (a : Nat) : IntKind.u64.wrap ((a : Int) * 2 ^ min (Int.toNat 13) IntKind.u64.bits) = ((a * 8192 % 18446744073709551616 : Nat) : Int) := by
  have hw : ∀ n : Int, IntKind.u64.wrap n = n % 18446744073709551616 := fun n => by simp [IntKind.wrap, IntKind.bits, IntKind.signed]
  show IntKind.u64.wrap ((a : Int) * 8192) = _
  rw [hw]; omega
theorem shl17 (a : Nat) : IntKind.u64.wrap ((a : Int) * 2 ^ min (Int.toNat 17) IntKind.u64.bits) = ((a * 131072 % 18446744073709551616 : Nat) : Int) := by
  have hw : ∀ n : Int, IntKind.u64.wrap n = n % 18446744073709551616 := fun n => by simp [IntKind.wrap, IntKind.bits, IntKind.signed]
  show IntKind.u64.wrap ((a : Int) * 131072) = _
  rw [hw]; omega
theorem shr7 (a : Nat) : (a : Int).fdiv (2 ^ min (Int.toNat 7) IntKind.u64.bits) = ((a / 128 : Nat) : Int) := by
  show (a : Int).fdiv 128 = _
  rw [Int.fdiv_eq_ediv_of_nonneg _ (by decide)]; omega
theorem Next_ok (q : Nat) (x : Nat) (h : Hp) (hq : Bx h q [.int .u64 (x : Int)]) (hlq : lo ≤ q) (hx : x < 2 ^ 64) : Tri X lo 110 [.pointer (some ⟨q, 0, none⟩)] h fun v h' => v = .int .u64 (xorNextN x : Int) ∧ Ext1 q h h' ∧ Bx h' q [.int .u64 (xorNextN x : Int)] := by
  refine enter tbOk mtOk ⟨[], [(1, [0, 1, 2, 3, 4, 5, 6, 7, 8, 9], [0, 1, 3, 0, 8, 24, 56, 127, 255, 511]), (2, [0, 1, 2, 3, 4, 5, 6, 7, 8, 9], [0, 1, 3, 0, 8, 24, 56, 127, 255, 511]), (3, [0, 1, 2, 3, 4, 5, 6, 7, 8, 9], [0, 1, 3, 0, 8, 24, 56, 127, 255, 511])]⟩ 400 Try.func110 rfl rfl rfl fun hlo => ?_
  refine And.intro (by kernel_rfl) ?_
  refine ⟨_, hq.ld rfl, ?_⟩
  refine ⟨_, hq.ld rfl, ?_⟩
  refine And.intro (by decide) ?_
  have v1 : (IntKind.u64.wrap (((BitVec.ofInt IntKind.u64.bits ((x : Nat) : Int) ^^^ BitVec.ofInt IntKind.u64.bits (IntKind.u64.wrap (((x : Nat) : Int) * 2 ^ min (Int.toNat 13) IntKind.u64.bits))).toNat : Nat) : Int)) = (((x ^^^ (x * 8192 % 18446744073709551616)) : Nat) : Int) := by rw [shl13]; exact xw (by omega) (by omega)
  refine ⟨h.set q (.cells [.int .u64 (IntKind.u64.wrap (((BitVec.ofInt IntKind.u64.bits ((x : Nat) : Int) ^^^ BitVec.ofInt IntKind.u64.bits (IntKind.u64.wrap (((x : Nat) : Int) * 2 ^ min (Int.toNat 13) IntKind.u64.bits))).toNat : Nat) : Int))] 0 0), hq.st (lo := lo) hlq (xs := [.int .u64 (IntKind.u64.wrap (((BitVec.ofInt IntKind.u64.bits ((x : Nat) : Int) ^^^ BitVec.ofInt IntKind.u64.bits (IntKind.u64.wrap (((x : Nat) : Int) * 2 ^ min (Int.toNat 13) IntKind.u64.bits))).toNat : Nat) : Int))]) rfl, ?_⟩
  have b1 : Bx (h.set q (.cells [.int .u64 (IntKind.u64.wrap (((BitVec.ofInt IntKind.u64.bits ((x : Nat) : Int) ^^^ BitVec.ofInt IntKind.u64.bits (IntKind.u64.wrap (((x : Nat) : Int) * 2 ^ min (Int.toNat 13) IntKind.u64.bits))).toNat : Nat) : Int))] 0 0)) q [.int .u64 (IntKind.u64.wrap (((BitVec.ofInt IntKind.u64.bits ((x : Nat) : Int) ^^^ BitVec.ofInt IntKind.u64.bits (IntKind.u64.wrap (((x : Nat) : Int) * 2 ^ min (Int.toNat 13) IntKind.u64.bits))).toNat : Nat) : Int))] := Bx.set hq
  have e1 : Ext1 q h (h.set q (.cells [.int .u64 (IntKind.u64.wrap (((BitVec.ofInt IntKind.u64.bits ((x : Nat) : Int) ^^^ BitVec.ofInt IntKind.u64.bits (IntKind.u64.wrap (((x : Nat) : Int) * 2 ^ min (Int.toNat 13) IntKind.u64.bits))).toNat : Nat) : Int))] 0 0)) := ((Ext.refl _).one q).set _ (.inl rfl)
  generalize h.set q (.cells [.int .u64 (IntKind.u64.wrap (((BitVec.ofInt IntKind.u64.bits ((x : Nat) : Int) ^^^ BitVec.ofInt IntKind.u64.bits (IntKind.u64.wrap (((x : Nat) : Int) * 2 ^ min (Int.toNat 13) IntKind.u64.bits))).toNat : Nat) : Int))] 0 0) = h1 at b1 e1 ⊢
  rw [v1] at b1
  have l1 : (x ^^^ (x * 8192 % 18446744073709551616)) < 2 ^ 64 := Nat.xor_lt_two_pow (by omega) (by omega)
  generalize hx1 : (x ^^^ (x * 8192 % 18446744073709551616)) = x1 at b1 l1
  refine And.intro (by kernel_rfl) ?_
  refine ⟨_, b1.ld rfl, ?_⟩
  refine ⟨_, b1.ld rfl, ?_⟩
  refine And.intro (by decide) ?_
  have v2 : (IntKind.u64.wrap (((BitVec.ofInt IntKind.u64.bits ((x1 : Nat) : Int) ^^^ BitVec.ofInt IntKind.u64.bits (((x1 : Nat) : Int).fdiv (2 ^ min (Int.toNat 7) IntKind.u64.bits))).toNat : Nat) : Int)) = (((x1 ^^^ (x1 / 128)) : Nat) : Int) := by rw [shr7]; exact xw (by omega) (by omega)
  refine ⟨h1.set q (.cells [.int .u64 (IntKind.u64.wrap (((BitVec.ofInt IntKind.u64.bits ((x1 : Nat) : Int) ^^^ BitVec.ofInt IntKind.u64.bits (((x1 : Nat) : Int).fdiv (2 ^ min (Int.toNat 7) IntKind.u64.bits))).toNat : Nat) : Int))] 0 0), b1.st (lo := lo) hlq (xs := [.int .u64 (IntKind.u64.wrap (((BitVec.ofInt IntKind.u64.bits ((x1 : Nat) : Int) ^^^ BitVec.ofInt IntKind.u64.bits (((x1 : Nat) : Int).fdiv (2 ^ min (Int.toNat 7) IntKind.u64.bits))).toNat : Nat) : Int))]) rfl, ?_⟩
  have b2 : Bx (h1.set q (.cells [.int .u64 (IntKind.u64.wrap (((BitVec.ofInt IntKind.u64.bits ((x1 : Nat) : Int) ^^^ BitVec.ofInt IntKind.u64.bits (((x1 : Nat) : Int).fdiv (2 ^ min (Int.toNat 7) IntKind.u64.bits))).toNat : Nat) : Int))] 0 0)) q [.int .u64 (IntKind.u64.wrap (((BitVec.ofInt IntKind.u64.bits ((x1 : Nat) : Int) ^^^ BitVec.ofInt IntKind.u64.bits (((x1 : Nat) : Int).fdiv (2 ^ min (Int.toNat 7) IntKind.u64.bits))).toNat : Nat) : Int))] := Bx.set b1
  have e2 : Ext1 q h1 (h1.set q (.cells [.int .u64 (IntKind.u64.wrap (((BitVec.ofInt IntKind.u64.bits ((x1 : Nat) : Int) ^^^ BitVec.ofInt IntKind.u64.bits (((x1 : Nat) : Int).fdiv (2 ^ min (Int.toNat 7) IntKind.u64.bits))).toNat : Nat) : Int))] 0 0)) := ((Ext.refl _).one q).set _ (.inl rfl)
  generalize h1.set q (.cells [.int .u64 (IntKind.u64.wrap (((BitVec.ofInt IntKind.u64.bits ((x1 : Nat) : Int) ^^^ BitVec.ofInt IntKind.u64.bits (((x1 : Nat) : Int).fdiv (2 ^ min (Int.toNat 7) IntKind.u64.bits))).toNat : Nat) : Int))] 0 0) = h2 at b2 e2 ⊢
  rw [v2] at b2
  have l2 : (x1 ^^^ (x1 / 128)) < 2 ^ 64 := Nat.xor_lt_two_pow (by omega) (by omega)
  generalize hx2 : (x1 ^^^ (x1 / 128)) = x2 at b2 l2
  refine And.intro (by kernel_rfl) ?_
  refine ⟨_, b2.ld rfl, ?_⟩
  refine ⟨_, b2.ld rfl, ?_⟩
  refine And.intro (by decide) ?_
  have v3 : (IntKind.u64.wrap (((BitVec.ofInt IntKind.u64.bits ((x2 : Nat) : Int) ^^^ BitVec.ofInt IntKind.u64.bits (IntKind.u64.wrap (((x2 : Nat) : Int) * 2 ^ min (Int.toNat 17) IntKind.u64.bits))).toNat : Nat) : Int)) = (((x2 ^^^ (x2 * 131072 % 18446744073709551616)) : Nat) : Int) := by rw [shl17]; exact xw (by omega) (by omega)
  refine ⟨h2.set q (.cells [.int .u64 (IntKind.u64.wrap (((BitVec.ofInt IntKind.u64.bits ((x2 : Nat) : Int) ^^^ BitVec.ofInt IntKind.u64.bits (IntKind.u64.wrap (((x2 : Nat) : Int) * 2 ^ min (Int.toNat 17) IntKind.u64.bits))).toNat : Nat) : Int))] 0 0), b2.st (lo := lo) hlq (xs := [.int .u64 (IntKind.u64.wrap (((BitVec.ofInt IntKind.u64.bits ((x2 : Nat) : Int) ^^^ BitVec.ofInt IntKind.u64.bits (IntKind.u64.wrap (((x2 : Nat) : Int) * 2 ^ min (Int.toNat 17) IntKind.u64.bits))).toNat : Nat) : Int))]) rfl, ?_⟩
  have b3 : Bx (h2.set q (.cells [.int .u64 (IntKind.u64.wrap (((BitVec.ofInt IntKind.u64.bits ((x2 : Nat) : Int) ^^^ BitVec.ofInt IntKind.u64.bits (IntKind.u64.wrap (((x2 : Nat) : Int) * 2 ^ min (Int.toNat 17) IntKind.u64.bits))).toNat : Nat) : Int))] 0 0)) q [.int .u64 (IntKind.u64.wrap (((BitVec.ofInt IntKind.u64.bits ((x2 : Nat) : Int) ^^^ BitVec.ofInt IntKind.u64.bits (IntKind.u64.wrap (((x2 : Nat) : Int) * 2 ^ min (Int.toNat 17) IntKind.u64.bits))).toNat : Nat) : Int))] := Bx.set b2
  have e3 : Ext1 q h2 (h2.set q (.cells [.int .u64 (IntKind.u64.wrap (((BitVec.ofInt IntKind.u64.bits ((x2 : Nat) : Int) ^^^ BitVec.ofInt IntKind.u64.bits (IntKind.u64.wrap (((x2 : Nat) : Int) * 2 ^ min (Int.toNat 17) IntKind.u64.bits))).toNat : Nat) : Int))] 0 0)) := ((Ext.refl _).one q).set _ (.inl rfl)
  generalize h2.set q (.cells [.int .u64 (IntKind.u64.wrap (((BitVec.ofInt IntKind.u64.bits ((x2 : Nat) : Int) ^^^ BitVec.ofInt IntKind.u64.bits (IntKind.u64.wrap (((x2 : Nat) : Int) * 2 ^ min (Int.toNat 17) IntKind.u64.bits))).toNat : Nat) : Int))] 0 0) = h3 at b3 e3 ⊢
  rw [v3] at b3
  have l3 : (x2 ^^^ (x2 * 131072 % 18446744073709551616)) < 2 ^ 64 := Nat.xor_lt_two_pow (by omega) (by omega)
  generalize hx3 : (x2 ^^^ (x2 * 131072 % 18446744073709551616)) = x3 at b3 l3
  refine ⟨_, b3.ld rfl, ?_⟩
  have hN : xorNextN x = x3 := by unfold xorNextN; simp only []; rw [hx1, hx2, hx3]
  rw [hN]
  exact And.intro rfl ⟨(e1.trans e2).trans e3, b3⟩
end Go.Proofs.Ytgcbfhdlfajemaa.Id
/- The walk of Go's sort: patterns broken. -/
namespace Go.Proofs.Ytgcbfhdlfajemaa.Id
open Go.Id Go.Sort
open Go.Proofs
set_option linter.unusedVariables false
set_option maxRecDepth 100000
variable {X : Ctx Try.prog} {lo : Nat}
theorem wu64 (n : Int) : IntKind.u64.wrap n = n % 18446744073709551616 := by simp [IntKind.wrap, IntKind.bits, IntKind.signed]
theorem Len_ok (x : Nat) (hx : x < 2 ^ 32) (h : Hp) : Tri X lo 64 [.int .u64 (x : Int)] h fun v h' => v = .int .i64 (bitsLen x : Int) ∧ h' = h := by
  refine enter tbOk mtOk ⟨[], []⟩ 400 Try.func64 rfl rfl rfl fun hlo => ?_
  refine cndF ?_
  refine callP (Len64_ok x hx h) ?_
  rintro v h1 ⟨rfl, rfl⟩
  exact And.intro rfl rfl
theorem nextPow_ok (x : Nat) (hx : x < 2 ^ 31) (h : Hp) : Tri X lo 109 [.int .i64 (x : Int)] h fun v h' => v = .int .u64 ((1 <<< bitsLen x : Nat) : Int) ∧ h' = h := by
  refine enter tbOk mtOk ⟨[], []⟩ 400 Try.func109 rfl rfl rfl fun hlo => ?_
  have w : IntKind.u64.wrap (x : Int) = (x : Int) := by rw [wu64]; omega
  have ct : Tri X lo 64 [.int .u64 (IntKind.u64.wrap (x : Int))] h (fun v h' => v = .int .i64 (bitsLen x : Int) ∧ h' = h) := by rw [w]; exact Len_ok x (by omega) h
  refine callP ct ?_
  rintro v h1 ⟨rfl, rfl⟩
  refine And.intro (by omega) ?_
  refine And.intro ?_ rfl
  have hb : bitsLen x ≤ 31 := by rw [bitsLen_le_iff]; exact hx
  have hp : 2 ^ bitsLen x ≤ 2 ^ 31 := Nat.pow_le_pow_right (by decide) hb
  have e : min ((bitsLen x : Int)).toNat IntKind.u64.bits = bitsLen x := by
    rw [Int.toNat_natCast]; exact Nat.min_eq_left (by show bitsLen x ≤ 64; omega)
  show Value.int .u64 (IntKind.u64.wrap (1 * 2 ^ min ((bitsLen x : Int)).toNat IntKind.u64.bits)) = _
  rw [e, Nat.one_shiftLeft, wu64]
  have : ((2 : Int) ^ bitsLen x) = ((2 ^ bitsLen x : Nat) : Int) := by simp
  have hpos := Nat.two_pow_pos (bitsLen x)
  rw [this, Int.one_mul]
  congr 1; omega
/-- The rounds. -/
def bpSteps (d : Array Int) (a len : Nat) : Nat → UInt64 × Array Int
  | 0 => (UInt64.ofNat len, d)
  | k + 1 => breakStep a len (1 <<< bitsLen len) (bpSteps d a len k) (a + (len / 4) * 2 - 1 + k)
theorem bp_eq (d : Array Int) (a c : Nat) (h : c - a ≥ 8) : breakPatterns d a c = (bpSteps d a (c - a) 3).2 := by
  unfold breakPatterns
  simp only []
  rw [if_pos h]; rfl
theorem bw {a b : Nat} (ha : a < 2 ^ 64) (hb : b < 2 ^ 64) : IntKind.u64.wrap (((BitVec.ofInt IntKind.u64.bits (a : Int) &&& BitVec.ofInt IntKind.u64.bits (b : Int)).toNat : Nat) : Int) = ((a &&& b : Nat) : Int) := by
  have h1 : (BitVec.ofInt IntKind.u64.bits (a : Int) &&& BitVec.ofInt IntKind.u64.bits (b : Int)).toNat = a &&& b := by
    show (BitVec.ofInt 64 (a : Int) &&& BitVec.ofInt 64 (b : Int)).toNat = a &&& b
    rw [BitVec.toNat_and, BitVec.toNat_ofInt, BitVec.toNat_ofInt]
    congr 1 <;> omega
  have h2 : a &&& b < 2 ^ 64 := Nat.and_lt_two_pow _ hb
  rw [h1, wu64]; omega
theorem breakPatterns_ok (b e n fl : Nat) (d0 : Array Int) (a c : Nat) (h : Hp) (r0 : AR h b e d0) (hn : d0.size = n) (ha : a ≤ c) (hc : c ≤ n) (hN : n < 2 ^ 31) (hb : lo ≤ b) : Tri X lo 88 [sa b e n fl, .int .i64 (a : Int), .int .i64 (c : Int)] h fun v h' => v = .tuple #[] ∧ PA b e n h (breakPatterns d0 a c) h' := by
  refine enter tbOk mtOk ⟨[7], [(10, [0, 1, 2, 3, 4, 5, 6, 7, 8, 9, 10, 11, 12, 13, 14, 15, 16, 17, 18, 19], [0, 0, 0, 0, 0, 24, 0, 0, 0, 384, 960, 1984, 0, 0, 12288, 28672, 65475, 131011, 262143, 524287])]⟩ 400 Try.func88 rfl rfl rfl fun hlo => ?_
  have l0 : IntKind.i64.wrap ((c : Int) - (a : Int)) = ((c - a : Nat) : Int) := wz (by omega) (by omega)
  have lt0 := r0.lt
  refine cnd (fun c1 => ?_) (fun c1 => ?_)
  · have c1 : c - a ≥ 8 := by have := of_decide_eq_true c1; omega
    rw [bp_eq _ _ _ c1]
    have u0 : IntKind.u64.wrap (IntKind.i64.wrap ((c : Int) - (a : Int))) = ((c - a : Nat) : Int) := by rw [l0, wu64]; omega
    have e0 : Ext h (h.push (.cells [.int .u64 0] 0 0)) := Ext.push _ _
    have b0 : Bx (h.push (.cells [.int .u64 0] 0 0)) h.n [.int .u64 0] := Bx.push
    refine ⟨(h.push (.cells [.int .u64 0] 0 0)).set h.n (.cells [.int .u64 (IntKind.u64.wrap (IntKind.i64.wrap ((c : Int) - (a : Int))))] 0 0), b0.st (lo := lo) hlo (xs := [.int .u64 (IntKind.u64.wrap (IntKind.i64.wrap ((c : Int) - (a : Int))))]) rfl, ?_⟩
    have b1 : Bx ((h.push (.cells [.int .u64 0] 0 0)).set h.n (.cells [.int .u64 (IntKind.u64.wrap (IntKind.i64.wrap ((c : Int) - (a : Int))))] 0 0)) h.n [.int .u64 (IntKind.u64.wrap (IntKind.i64.wrap ((c : Int) - (a : Int))))] := Bx.set b0
    have e1 : Ext h ((h.push (.cells [.int .u64 0] 0 0)).set h.n (.cells [.int .u64 (IntKind.u64.wrap (IntKind.i64.wrap ((c : Int) - (a : Int))))] 0 0)) := e0.set (Nat.le_refl _) _
    generalize (h.push (.cells [.int .u64 0] 0 0)).set h.n (.cells [.int .u64 (IntKind.u64.wrap (IntKind.i64.wrap ((c : Int) - (a : Int))))] 0 0) = h1 at b1 e1 ⊢
    rw [u0] at b1
    have ct : Tri X lo 109 [.int .i64 (IntKind.i64.wrap ((c : Int) - (a : Int)))] h1 (fun v h' => v = .int .u64 ((1 <<< bitsLen (c - a) : Nat) : Int) ∧ h' = h1) := by rw [l0]; exact nextPow_ok (c - a) (by omega) h1
    refine callP ct ?_
    rintro v h1' ⟨rfl, rfl⟩
    have l4 : IntKind.i64.wrap ((IntKind.i64.wrap ((c : Int) - (a : Int))).tdiv 4) = (((c - a) / 4 : Nat) : Int) := by
      rw [l0, Int.tdiv_eq_ediv_of_nonneg (by omega), wr (by omega) (by omega)]; omega
    have l8 : IntKind.i64.wrap ((a : Int) + IntKind.i64.wrap (IntKind.i64.wrap ((IntKind.i64.wrap ((c : Int) - (a : Int))).tdiv 4) * 2)) = ((a + (c - a) / 4 * 2 : Nat) : Int) := by
      rw [l4, wr (n := (((c - a) / 4 : Nat) : Int) * 2) (by omega) (by omega), wr (by omega) (by omega)]; omega
    have l9 : IntKind.i64.wrap (IntKind.i64.wrap ((a : Int) + IntKind.i64.wrap (IntKind.i64.wrap ((IntKind.i64.wrap ((c : Int) - (a : Int))).tdiv 4) * 2)) - 1) = ((a + (c - a) / 4 * 2 - 1 + 0 : Nat) : Int) := by
      rw [l8, wr (by omega) (by omega)]; omega
    have k4 : IntKind.i64.wrap ((((c - a : Nat) : Int)).tdiv 4) = (((c - a) / 4 : Nat) : Int) := by
      rw [Int.tdiv_eq_ediv_of_nonneg (by omega), wr (by omega) (by omega)]; omega
    have k9 : IntKind.i64.wrap (IntKind.i64.wrap ((a : Int) + IntKind.i64.wrap (IntKind.i64.wrap ((((c - a : Nat) : Int)).tdiv 4) * 2)) + 1) = ((a + (c - a) / 4 * 2 + 1 : Nat) : Int) := by
      rw [k4, wr (n := (((c - a) / 4 : Nat) : Int) * 2) (by omega) (by omega), wr (n := (a : Int) + (((c - a) / 4 : Nat) : Int) * 2) (by omega) (by omega), wr (by omega) (by omega)]; omega
    have hbl : bitsLen (c - a) ≤ 31 := by rw [bitsLen_le_iff]; omega
    have hp31 : 2 ^ bitsLen (c - a) ≤ 2 ^ 31 := Nat.pow_le_pow_right (by decide) hbl
    have hpp := two_pow_bitsLen_le (n := c - a) (by omega)
    have hp0 := Nat.two_pow_pos (bitsLen (c - a))
    have hmod : (1 <<< bitsLen (c - a) : Nat) = 2 ^ bitsLen (c - a) := Nat.one_shiftLeft _
    have mw : IntKind.u64.wrap (((1 <<< bitsLen (c - a) : Nat) : Int) - 1) = ((1 <<< bitsLen (c - a) - 1 : Nat) : Int) := by rw [wu64]; omega
    refine And.intro (by decide) ?_
    refine loop (σ := Nat) tbOk mtOk ⟨[7], [(10, [0, 1, 2, 3, 4, 5, 6, 7, 8, 9, 10, 11, 12, 13, 14, 15, 16, 17, 18, 19], [0, 0, 0, 0, 0, 24, 0, 0, 0, 384, 960, 1984, 0, 0, 12288, 28672, 65475, 131011, 262143, 524287])]⟩ (fun k => [(9, .v (.int .i64 ((a + (c - a) / 4 * 2 - 1 + k : Nat) : Int))), (8, .v (.int .u64 ((1 <<< bitsLen (c - a) : Nat) : Int))), (7, .v (.pointer (some ⟨h.n, 0, none⟩))), (6, .v (.int .i64 ((c - a : Nat) : Int))), (0, .v (sa b e n fl)), (1, .v (.int .i64 (a : Int)))]) (fun _ => []) (fun k h' => k ≤ 3 ∧ Ext1 b h h' ∧ AR h' b e (bpSteps d0 a (c - a) k).2 ∧ (bpSteps d0 a (c - a) k).2.size = n ∧ Bx h' h.n [.int .u64 ((bpSteps d0 a (c - a) k).1.toNat : Int)]) (fun k => 3 - k) 400 0 (fun _ => rfl) ⟨vI l9, rfl, rfl, vI l0, rfl, rfl, trivial⟩ trivial ⟨Nat.zero_le _, e1.one b, r0.ext e1, hn, by show Bx h1' h.n [.int .u64 ((UInt64.ofNat (c - a)).toNat : Int)]; rw [UInt64.toNat_ofNat_of_lt' (by show _ < 18446744073709551616; omega)]; exact b1⟩ (fun k h2 hI again => ?_)
    obtain ⟨i1, i2, i3, i4, i5⟩ := hI
    refine And.intro (by decide) ?_
    refine cnd (fun c2 => ?_) (fun c2 => ?_)
    · have c2 : k ≤ 2 := by have := of_decide_eq_true c2; omega
      have hr := (bpSteps d0 a (c - a) k).1.toNat_lt
      have hx := xorNextN_lt _ hr
      have wk : IntKind.i64.wrap (((a + (c - a) / 4 * 2 - 1 + k : Nat) : Int) + 1) = ((a + (c - a) / 4 * 2 - 1 + (k + 1) : Nat) : Int) := wz (by omega) (by omega)
      refine callP (Next_ok h.n _ h2 i5 hlo hr) ?_
      rintro v h3 ⟨rfl, e3, q3⟩
      have r3 : AR h3 b e (bpSteps d0 a (c - a) k).2 := i3.ext1 e3 (by omega)
      have x3 : Ext1 b h h3 := ⟨Nat.le_trans i2.n e3.n, fun i hi hj => (e3.g i (Nat.lt_of_lt_of_le hi i2.n) (by omega)).trans (i2.g i hi hj)⟩
      have hand : xorNextN (bpSteps d0 a (c - a) k).1.toNat &&& (1 <<< bitsLen (c - a) - 1) ≤ 1 <<< bitsLen (c - a) - 1 := Nat.and_le_right
      have hst : bpSteps d0 a (c - a) (k + 1) = (xorNext (bpSteps d0 a (c - a) k).1, swp (bpSteps d0 a (c - a) k).2 (a + (c - a) / 4 * 2 - 1 + k) (a + (if (xorNext (bpSteps d0 a (c - a) k).1).toNat &&& (1 <<< bitsLen (c - a) - 1) ≥ c - a then ((xorNext (bpSteps d0 a (c - a) k).1).toNat &&& (1 <<< bitsLen (c - a) - 1)) - (c - a) else (xorNext (bpSteps d0 a (c - a) k).1).toNat &&& (1 <<< bitsLen (c - a) - 1)))) := rfl
      have hxn := xorNext_toNat (bpSteps d0 a (c - a) k).1
      have ow : IntKind.i64.wrap (IntKind.u64.wrap (((BitVec.ofInt IntKind.u64.bits ((xorNextN (bpSteps d0 a (c - a) k).1.toNat : Nat) : Int) &&& BitVec.ofInt IntKind.u64.bits (IntKind.u64.wrap (((1 <<< bitsLen (c - a) : Nat) : Int) - 1))).toNat : Nat) : Int)) = ((xorNextN (bpSteps d0 a (c - a) k).1.toNat &&& (1 <<< bitsLen (c - a) - 1) : Nat) : Int) := by
        rw [mw, bw hx (by omega)]; exact wz rfl (by omega)
      rw [hxn] at hst
      have hs1 : (bpSteps d0 a (c - a) (k + 1)).1.toNat = xorNextN (bpSteps d0 a (c - a) k).1.toNat := by rw [hst]; exact hxn
      have q4 : Bx h3 h.n [.int .u64 ((bpSteps d0 a (c - a) (k + 1)).1.toNat : Int)] := by rw [hs1]; exact q3
      have hs2 : (bpSteps d0 a (c - a) (k + 1)).2 = swp (bpSteps d0 a (c - a) k).2 (a + (c - a) / 4 * 2 - 1 + k) (a + (if xorNextN (bpSteps d0 a (c - a) k).1.toNat &&& (1 <<< bitsLen (c - a) - 1) ≥ c - a then (xorNextN (bpSteps d0 a (c - a) k).1.toNat &&& (1 <<< bitsLen (c - a) - 1)) - (c - a) else xorNextN (bpSteps d0 a (c - a) k).1.toNat &&& (1 <<< bitsLen (c - a) - 1))) := by rw [hst]
      clear hst hs1 hxn q3
      generalize hoN : xorNextN (bpSteps d0 a (c - a) k).1.toNat &&& (1 <<< bitsLen (c - a) - 1) = oN at hand ow hs2
      generalize hO : IntKind.i64.wrap (IntKind.u64.wrap (((BitVec.ofInt IntKind.u64.bits ((xorNextN (bpSteps d0 a (c - a) k).1.toNat : Nat) : Int) &&& BitVec.ofInt IntKind.u64.bits (IntKind.u64.wrap (((1 <<< bitsLen (c - a) : Nat) : Int) - 1))).toNat : Nat) : Int)) = O at ow
      refine cnd (fun c3 => ?_) (fun c3 => ?_)
      · have c3 : oN ≥ c - a := by have : O ≥ ((c - a : Nat) : Int) := by rw [← hO]; exact of_decide_eq_true c3
                                   omega
        rw [if_pos c3] at hs2
        have wo : IntKind.i64.wrap (IntKind.i64.wrap (IntKind.u64.wrap (((BitVec.ofInt IntKind.u64.bits ((xorNextN (bpSteps d0 a (c - a) k).1.toNat : Nat) : Int) &&& BitVec.ofInt IntKind.u64.bits (IntKind.u64.wrap (((1 <<< bitsLen (c - a) : Nat) : Int) - 1))).toNat : Nat) : Int)) - ((c - a : Nat) : Int)) = ((oN - (c - a) : Nat) : Int) := by rw [hO]; exact wz (by omega) (by omega)
        have wp : IntKind.i64.wrap ((a : Int) + IntKind.i64.wrap (IntKind.i64.wrap (IntKind.u64.wrap (((BitVec.ofInt IntKind.u64.bits ((xorNextN (bpSteps d0 a (c - a) k).1.toNat : Nat) : Int) &&& BitVec.ofInt IntKind.u64.bits (IntKind.u64.wrap (((1 <<< bitsLen (c - a) : Nat) : Int) - 1))).toNat : Nat) : Int)) - ((c - a : Nat) : Int))) = ((a + (oN - (c - a)) : Nat) : Int) := by rw [wo]; exact wz (by omega) (by omega)
        refine And.intro (by kernel_rfl) ?_
        refine And.intro ⟨by omega, by omega⟩ ?_
        refine ⟨_, r3.ldI wp (by omega), ?_⟩
        refine And.intro ⟨by omega, by omega⟩ ?_
        refine ⟨_, r3.ldI rfl (by omega), ?_⟩
        refine And.intro ⟨by omega, by omega⟩ ?_
        refine ⟨_, r3.stI (lo := lo) hb rfl (i := a + (c - a) / 4 * 2 - 1 + k) (by omega) _, ?_⟩
        refine And.intro ⟨by omega, by omega⟩ ?_
        refine ⟨hsw h3 b e (bpSteps d0 a (c - a) k).2 (a + (c - a) / 4 * 2 - 1 + k) (a + (oN - (c - a))), (r3.sw1 (a + (c - a) / 4 * 2 - 1 + k) (a + (oN - (c - a)))).stI (lo := lo) hb wp (by rw [Array.size_setIfInBounds]; omega) _, ?_⟩
        refine again (k + 1) _ _ _ (by show 3 - (k + 1) < 3 - k; omega) ⟨vI wk, rfl, rfl, rfl, rfl, rfl, trivial⟩ trivial ⟨by omega, x3.trans (hsw_ext _ _), by rw [hs2]; exact r3.sw _ _, by rw [hs2]; exact swp_sz i4 _ _, (q4.off (by omega)).off (by omega)⟩
      · have c3 : ¬ oN ≥ c - a := by have : ¬ O ≥ ((c - a : Nat) : Int) := by rw [← hO]; exact of_decide_eq_false c3
                                     omega
        rw [if_neg c3] at hs2
        have wp : IntKind.i64.wrap ((a : Int) + IntKind.i64.wrap (IntKind.u64.wrap (((BitVec.ofInt IntKind.u64.bits ((xorNextN (bpSteps d0 a (c - a) k).1.toNat : Nat) : Int) &&& BitVec.ofInt IntKind.u64.bits (IntKind.u64.wrap (((1 <<< bitsLen (c - a) : Nat) : Int) - 1))).toNat : Nat) : Int))) = ((a + oN : Nat) : Int) := by rw [hO]; exact wz (by omega) (by omega)
        refine And.intro (by kernel_rfl) ?_
        refine And.intro ⟨by omega, by omega⟩ ?_
        refine ⟨_, r3.ldI wp (by omega), ?_⟩
        refine And.intro ⟨by omega, by omega⟩ ?_
        refine ⟨_, r3.ldI rfl (by omega), ?_⟩
        refine And.intro ⟨by omega, by omega⟩ ?_
        refine ⟨_, r3.stI (lo := lo) hb rfl (i := a + (c - a) / 4 * 2 - 1 + k) (by omega) _, ?_⟩
        refine And.intro ⟨by omega, by omega⟩ ?_
        refine ⟨hsw h3 b e (bpSteps d0 a (c - a) k).2 (a + (c - a) / 4 * 2 - 1 + k) (a + oN), (r3.sw1 (a + (c - a) / 4 * 2 - 1 + k) (a + oN)).stI (lo := lo) hb wp (by rw [Array.size_setIfInBounds]; omega) _, ?_⟩
        refine again (k + 1) _ _ _ (by show 3 - (k + 1) < 3 - k; omega) ⟨vI wk, rfl, rfl, rfl, rfl, rfl, trivial⟩ trivial ⟨by omega, x3.trans (hsw_ext _ _), by rw [hs2]; exact r3.sw _ _, by rw [hs2]; exact swp_sz i4 _ _, (q4.off (by omega)).off (by omega)⟩
    · have c2 : k = 3 := by have := of_decide_eq_false c2; omega
      subst c2
      exact And.intro rfl ⟨i2, i3, i4⟩
  · have c1 : ¬ c - a ≥ 8 := by have := of_decide_eq_false c1; omega
    have : breakPatterns d0 a c = d0 := by unfold breakPatterns; simp only []; rw [if_neg c1]
    rw [this]
    exact And.intro rfl ⟨(Ext.refl _).one b, r0, hn⟩
end Go.Proofs.Ytgcbfhdlfajemaa.Id
/- The walk of Go's sort: the sort itself. -/
namespace Go.Proofs.Ytgcbfhdlfajemaa.Id
open Go.Id Go.Sort
open Go.Proofs
set_option linter.unusedVariables false
set_option maxRecDepth 100000
variable {X : Ctx Try.prog} {lo : Nat}
theorem vB {p q : Prop} [Decidable p] [Decidable q] (h : p ↔ q) : some (Sl.v (Value.bool (decide p))) = some (Sl.v (Value.bool (decide q))) := by simp only [h]
theorem partEq_in (d : Array Int) {a c pv : Nat} (h1 : a ≤ pv) (h2 : pv < c) (hc : c ≤ d.size) : a < (partitionEqual ltInt d a c pv).1 ∧ (partitionEqual ltInt d a c pv).1 ≤ c := by
  have := partEqLoop_spec ltInt a c _ (a + 1) (c - 1) (swp d a pv) (Nat.le_refl _) (by omega) (by omega) (by omega) (by rw [swp_size']; exact hc) (fun t q q' => by omega) (fun t q q' => by omega)
  exact ⟨this.1, this.2.1⟩
structure PQ where
  a : Nat
  c : Nat
  lim : Nat
  wb : Bool
  wp : Bool
  d : Array Int
theorem pdq_ok (b e n fl : Nat) (hN : n < 2 ^ 31) (hb : lo ≤ b) : ∀ (m : Nat) (d0 : Array Int) (a0 c0 lim0 : Nat) (h : Hp), c0 - a0 ≤ m → AR h b e d0 → d0.size = n → a0 ≤ c0 → c0 ≤ n → lim0 < 2 ^ 31 → Tri X lo 63 [sa b e n fl, .int .i64 (a0 : Int), .int .i64 (c0 : Int), .int .i64 (lim0 : Int)] h fun v h' => v = .tuple #[] ∧ PA b e n h (pdq ltInt d0 a0 c0 lim0 true true) h' := by
  intro m
  induction m using Nat.strongRecOn with
  | _ m ih =>
  intro d0 a0 c0 lim0 h hm r0 hn hac hc hl
  refine enter tbOk mtOk ⟨[], [(17, [0, 1, 2, 3, 4, 5, 6, 7, 8, 9, 10, 11, 12, 13, 14], [0, 1, 3, 7, 7, 23, 63, 127, 7, 7, 775, 1799, 4095, 8191, 16383])]⟩ 400 Try.func63 rfl rfl rfl fun hlo => ?_
  refine loop (σ := PQ) tbOk mtOk ⟨[], [(17, [0, 1, 2, 3, 4, 5, 6, 7, 8, 9, 10, 11, 12, 13, 14], [0, 1, 3, 7, 7, 23, 63, 127, 7, 7, 775, 1799, 4095, 8191, 16383])]⟩ (fun u => [(3, .v (.int .i64 (u.lim : Int))), (8, .v (.bool u.wb)), (9, .v (.bool u.wp)), (0, .v (sa b e n fl)), (1, .v (.int .i64 (u.a : Int))), (2, .v (.int .i64 (u.c : Int)))]) (fun _ => []) (fun u h' => u.a ≤ u.c ∧ u.c ≤ n ∧ u.lim < 2 ^ 31 ∧ (u.c - u.a ≤ m ∧ Ext1 b h h') ∧ AR h' b e u.d ∧ u.d.size = n ∧ pdq ltInt u.d u.a u.c u.lim u.wb u.wp = pdq ltInt d0 a0 c0 lim0 true true) (fun u => u.c - u.a) 25 ⟨a0, c0, lim0, true, true, d0⟩ (fun _ => rfl) ⟨rfl, rfl, rfl, rfl, rfl, rfl, trivial⟩ trivial ⟨hac, hc, hl, ⟨hm, (Ext.refl _).one b⟩, r0, hn, rfl⟩ (fun u h1 hI again => ?_)
  obtain ⟨i1, i2, i3, ⟨i4, i5⟩, i6, i7, i8⟩ := hI
  have wl : IntKind.i64.wrap ((u.c : Int) - (u.a : Int)) = ((u.c - u.a : Nat) : Int) := wz (by omega) (by omega)
  refine cnd (fun c1 => ?_) (fun c1 => ?_)
  · have c1 : u.c - u.a ≤ 12 := by have := of_decide_eq_true c1; omega
    rw [pdq_small c1] at i8
    refine callP (insertionSort_ok b e n fl u.d u.a u.c h1 i6 i7 i2 hN (by omega) hb) ?_
    rintro v h2 ⟨rfl, e2, r2, z2⟩
    rw [← i8]
    exact And.intro rfl ⟨i5.trans e2, r2, z2⟩
  have c1 : ¬ u.c - u.a ≤ 12 := by have := of_decide_eq_false c1; omega
  refine cnd (fun c2 => ?_) (fun c2 => ?_)
  · have c2 : u.lim = 0 := by have : (u.lim : Int) = 0 := by simpa using c2
                              omega
    rw [pdq_heap c1 c2] at i8
    refine more tbOk mtOk ⟨[], [(17, [0, 1, 2, 3, 4, 5, 6, 7, 8, 9, 10, 11, 12, 13, 14], [0, 1, 3, 7, 7, 23, 63, 127, 7, 7, 775, 1799, 4095, 8191, 16383])]⟩ 400 ?_
    refine callP (heapSort_ok b e n fl u.d u.a u.c h1 i6 i7 i1 i2 hN hb) ?_
    rintro v h2 ⟨rfl, e2, r2, z2⟩
    rw [← i8]
    exact And.intro rfl ⟨i5.trans e2, r2, z2⟩
  have c2 : ¬ u.lim = 0 := by have : ¬ (u.lim : Int) = 0 := by simpa using c2
                              omega
  obtain ⟨RD, hRD⟩ : ∃ RD, RD = rd ltInt u.d u.a u.c u.lim u.wb u.wp := ⟨_, rfl⟩
  refine joinK (σ := Unit) tbOk mtOk ⟨[], [(17, [0, 1, 2, 3, 4, 5, 6, 7, 8, 9, 10, 11, 12, 13, 14], [0, 1, 3, 7, 7, 23, 63, 127, 7, 7, 775, 1799, 4095, 8191, 16383])]⟩ (fun _ => [(3, .v (.int .i64 (RD.lim : Int))), (8, .v (.bool u.wb)), (9, .v (.bool u.wp)), (10, .v (.int .i64 ((u.c - u.a : Nat) : Int))), (0, .v (sa b e n fl)), (1, .v (.int .i64 (u.a : Int))), (2, .v (.int .i64 (u.c : Int)))]) (fun _ => []) (fun _ h' => Ext1 b h h' ∧ AR h' b e RD.d1 ∧ RD.d1.size = n) 7 13 (fun _ => rfl) (fun done => ?_) (fun _ h2 hE => ?_)
  · refine cnd (fun c3 => ?_) (fun c3 => ?_)
    · have c3 : u.wb = false := by simpa using c3
      have h1' : RD.d1 = breakPatterns u.d u.a u.c := by rw [hRD, c3]; rfl
      have h2' : RD.lim = u.lim - 1 := by rw [hRD, c3]; rfl
      refine more tbOk mtOk ⟨[], [(17, [0, 1, 2, 3, 4, 5, 6, 7, 8, 9, 10, 11, 12, 13, 14], [0, 1, 3, 7, 7, 23, 63, 127, 7, 7, 775, 1799, 4095, 8191, 16383])]⟩ 11 ?_
      refine callP (breakPatterns_ok b e n fl u.d u.a u.c h1 i6 i7 i1 i2 hN hb) ?_
      rintro v h2 ⟨rfl, e2, r2, z2⟩
      have wm : IntKind.i64.wrap ((u.lim : Int) - 1) = (RD.lim : Int) := by rw [h2']; exact wz (by omega) (by omega)
      exact done () _ _ _ ⟨vI wm, rfl, rfl, vI wl, rfl, rfl, rfl, trivial⟩ trivial ⟨i5.trans e2, by rw [h1']; exact r2, by rw [h1']; exact z2⟩
    · have c3 : u.wb = true := by simpa using c3
      have h1' : RD.d1 = u.d := by rw [hRD, c3]; rfl
      have h2' : RD.lim = u.lim := by rw [hRD, c3]; rfl
      exact done () _ _ _ ⟨vI (by rw [h2']), rfl, rfl, vI wl, rfl, rfl, rfl, trivial⟩ trivial ⟨i5, by rw [h1']; exact i6, by rw [h1']; exact i7⟩
  clear i5 i6 i7
  obtain ⟨j1, j2, j3⟩ := hE
  have hlim : RD.lim < 2 ^ 31 := by
    rw [hRD]; show (if !u.wb then u.lim - 1 else u.lim) < 2 ^ 31
    split <;> omega
  have hcp : RD.c = choosePivot ltInt RD.d1 u.a u.c := by rw [hRD]; rfl
  have hcr := choosePivot_holds ltInt RD.d1 u.a u.c (by omega)
  rw [← hcp] at hcr
  have mk := choosePivot_ok (X := X) (lo := lo) b e n fl RD.d1 u.a u.c h2 j2 j3 (by omega) i2 hN
  rw [← hcp] at mk
  refine callP mk ?_
  rintro v h3 ⟨rfl, e3⟩
  have k1 := j1.trans (e3.one b)
  have k2 : AR h3 b e RD.d1 := j2.ext e3
  have lt3 := k2.lt
  refine joinK (σ := Unit) tbOk mtOk ⟨[], [(17, [0, 1, 2, 3, 4, 5, 6, 7, 8, 9, 10, 11, 12, 13, 14], [0, 1, 3, 7, 7, 23, 63, 127, 7, 7, 775, 1799, 4095, 8191, 16383])]⟩ (fun _ => [(11, .v (.int .i64 (RD.pivot : Int))), (12, .v (.int .i64 (hintCode RD.hint))), (3, .v (.int .i64 (RD.lim : Int))), (8, .v (.bool u.wb)), (9, .v (.bool u.wp)), (10, .v (.int .i64 ((u.c - u.a : Nat) : Int))), (0, .v (sa b e n fl)), (1, .v (.int .i64 (u.a : Int))), (2, .v (.int .i64 (u.c : Int)))]) (fun _ => []) (fun _ h' => Ext1 b h h' ∧ AR h' b e RD.d2 ∧ RD.d2.size = n) 7 1 (fun _ => rfl) (fun done => ?_) (fun _ h4 hE => ?_)
  · refine cnd (fun c3 => ?_) (fun c3 => ?_)
    · have c3 : RD.c.2 = .decreasing := by
        have c3 : hintCode RD.c.2 = 2 := by simpa using c3
        generalize RD.c.2 = q at c3
        cases q <;> first | rfl | exact absurd c3 (by decide)
      have d2 : RD.d2 = reverseRange RD.d1 u.a u.c := by
        have : RD.d2 = if RD.c.2 = .decreasing then reverseRange RD.d1 u.a u.c else RD.d1 := by rw [hRD]; rfl
        rw [this, if_pos c3]
      have hh : RD.hint = .increasing := by
        have : RD.hint = if RD.c.2 = .decreasing then Hint.increasing else RD.c.2 := by rw [hRD]; rfl
        rw [this, if_pos c3]
      have hp : RD.pivot = (u.c - 1) - (RD.c.1 - u.a) := by
        have : RD.pivot = if RD.c.2 = .decreasing then (u.c - 1) - (RD.c.1 - u.a) else RD.c.1 := by rw [hRD]; rfl
        rw [this, if_pos c3]
      refine more tbOk mtOk ⟨[], [(17, [0, 1, 2, 3, 4, 5, 6, 7, 8, 9, 10, 11, 12, 13, 14], [0, 1, 3, 7, 7, 23, 63, 127, 7, 7, 775, 1799, 4095, 8191, 16383])]⟩ 19 ?_
      refine callP (reverseRange_ok b e n fl RD.d1 u.a u.c h3 k2 j3 (by omega) i2 (by omega) hN hb) ?_
      rintro v h4 ⟨rfl, e4, r4, z4⟩
      have w1 : IntKind.i64.wrap ((u.c : Int) - 1) = ((u.c - 1 : Nat) : Int) := wz (by omega) (by omega)
      have w2 : IntKind.i64.wrap ((RD.c.1 : Int) - (u.a : Int)) = ((RD.c.1 - u.a : Nat) : Int) := wz (by omega) (by omega)
      have w3 : IntKind.i64.wrap (IntKind.i64.wrap ((u.c : Int) - 1) - IntKind.i64.wrap ((RD.c.1 : Int) - (u.a : Int))) = (RD.pivot : Int) := by rw [hp]; exact wz (by omega) (by omega)
      exact done () _ _ _ ⟨vI w3, vI (by rw [hh]; rfl), rfl, rfl, rfl, rfl, rfl, rfl, rfl, trivial⟩ trivial ⟨k1.trans e4, by rw [d2]; exact r4, by rw [d2]; exact z4⟩
    · have c3 : ¬ RD.c.2 = .decreasing := by
        intro q
        rw [q] at c3
        exact absurd c3 (by decide)
      have d2 : RD.d2 = RD.d1 := by
        have : RD.d2 = if RD.c.2 = .decreasing then reverseRange RD.d1 u.a u.c else RD.d1 := by rw [hRD]; rfl
        rw [this, if_neg c3]
      have hh : RD.hint = RD.c.2 := by
        have : RD.hint = if RD.c.2 = .decreasing then Hint.increasing else RD.c.2 := by rw [hRD]; rfl
        rw [this, if_neg c3]
      have hp : RD.pivot = RD.c.1 := by
        have : RD.pivot = if RD.c.2 = .decreasing then (u.c - 1) - (RD.c.1 - u.a) else RD.c.1 := by rw [hRD]; rfl
        rw [this, if_neg c3]
      exact done () _ _ _ ⟨vI (by rw [hp]), vI (by rw [hh]), rfl, rfl, rfl, rfl, rfl, rfl, rfl, trivial⟩ trivial ⟨k1, by rw [d2]; exact k2, by rw [d2]; exact j3⟩
  clear j1 j2 j3 k1 k2 mk e3 lt3
  obtain ⟨j1, j2, j3⟩ := hE
  have hpv : u.a ≤ RD.pivot ∧ RD.pivot < u.c := by
    have : RD.pivot = if RD.c.2 = .decreasing then (u.c - 1) - (RD.c.1 - u.a) else RD.c.1 := by rw [hRD]; rfl
    rw [this]; split <;> omega
  have hpi : RD.pi = if u.wb && u.wp && RD.hint = .increasing then partialInsertionSort ltInt RD.d2 u.a u.c else (RD.d2, false) := by rw [hRD]; rfl
  refine joinK (σ := Unit) tbOk mtOk ⟨[], [(17, [0, 1, 2, 3, 4, 5, 6, 7, 8, 9, 10, 11, 12, 13, 14], [0, 1, 3, 7, 7, 23, 63, 127, 7, 7, 775, 1799, 4095, 8191, 16383])]⟩ (fun _ => [(11, .v (.int .i64 (RD.pivot : Int))), (3, .v (.int .i64 (RD.lim : Int))), (8, .v (.bool u.wb)), (9, .v (.bool u.wp)), (10, .v (.int .i64 ((u.c - u.a : Nat) : Int))), (0, .v (sa b e n fl)), (1, .v (.int .i64 (u.a : Int))), (2, .v (.int .i64 (u.c : Int)))]) (fun _ => []) (fun _ h' => Ext1 b h h' ∧ AR h' b e RD.pi.1 ∧ RD.pi.1.size = n ∧ RD.pi.2 = false) 13 400 (fun _ => rfl) (fun done => ?_) (fun _ h5 hE => ?_)
  · have stay : RD.pi = (RD.d2, false) → Ext1 b h h4 ∧ AR h4 b e RD.pi.1 ∧ RD.pi.1.size = n ∧ RD.pi.2 = false := fun q => by rw [q]; exact ⟨j1, j2, j3, rfl⟩
    refine cnd (fun c3 => ?_) (fun c3 => ?_)
    · refine cnd (fun c4 => ?_) (fun c4 => ?_)
      · refine cnd (fun c5 => ?_) (fun c5 => ?_)
        · have c5 : RD.hint = .increasing := by
            have c5 : hintCode RD.hint = 1 := by simpa using c5
            generalize RD.hint = q at c5
            cases q <;> first | rfl | exact absurd c5 (by decide)
          rw [if_pos (by rw [c3, c4, c5]; rfl)] at hpi
          have mk := partialInsertionSort_ok (X := X) (lo := lo) b e n fl RD.d2 u.a u.c h4 j2 j3 (by omega) i2 hN hb
          rw [← hpi] at mk
          refine more tbOk mtOk ⟨[], [(17, [0, 1, 2, 3, 4, 5, 6, 7, 8, 9, 10, 11, 12, 13, 14], [0, 1, 3, 7, 7, 23, 63, 127, 7, 7, 775, 1799, 4095, 8191, 16383])]⟩ 8 ?_
          refine callP mk ?_
          rintro v h5 ⟨rfl, e5, r5, z5⟩
          refine cnd (fun c6 => ?_) (fun c6 => ?_)
          · have c6 : RD.pi.2 = true := c6
            rw [pdq_done c1 c2 (by rw [← hRD]; exact c6), ← hRD] at i8
            rw [← i8]
            exact And.intro rfl ⟨j1.trans e5, r5, z5⟩
          · exact done () _ _ _ ⟨rfl, rfl, rfl, rfl, rfl, rfl, rfl, rfl, trivial⟩ trivial ⟨j1.trans e5, r5, z5, c6⟩
        · have c5 : ¬ RD.hint = .increasing := by
            intro q
            rw [q] at c5
            exact absurd c5 (by decide)
          rw [if_neg (by simp [c5])] at hpi
          exact done () _ _ _ ⟨rfl, rfl, rfl, rfl, rfl, rfl, rfl, rfl, trivial⟩ trivial (stay hpi)
      · refine cndF ?_
        rw [if_neg (by rw [c4]; simp)] at hpi
        exact done () _ _ _ ⟨rfl, rfl, rfl, rfl, rfl, rfl, rfl, rfl, trivial⟩ trivial (stay hpi)
    · refine cndF ?_
      refine cndF ?_
      rw [if_neg (by rw [c3]; simp)] at hpi
      exact done () _ _ _ ⟨rfl, rfl, rfl, rfl, rfl, rfl, rfl, rfl, trivial⟩ trivial (stay hpi)
  clear j1 j2 j3 hpi
  obtain ⟨j1, j2, j3, hp2⟩ := hE
  have q1 : (rd ltInt u.d u.a u.c u.lim u.wb u.wp).pi.2 = false := by rw [← hRD]; exact hp2
  have equal : (decide (u.a > 0) && !ltInt RD.pi.1[u.a - 1]! RD.pi.1[RD.pivot]!) = true → pdq ltInt (partitionEqual ltInt RD.pi.1 u.a u.c RD.pivot).2 (partitionEqual ltInt RD.pi.1 u.a u.c RD.pivot).1 u.c RD.lim u.wb u.wp = pdq ltInt d0 a0 c0 lim0 true true := fun q => by
    have := pdq_eq c1 c2 q1 (by rw [← hRD]; exact q) (by rw [← hRD]; exact partEq_in _ hpv.1 hpv.2 (by omega))
    rw [← hRD] at this
    rw [← i8, this]
  have hpt := partition_holds ltInt swo_ltInt RD.pi.1 u.a u.c RD.pivot hpv.1 hpv.2 (by omega)
  have left : (decide (u.a > 0) && !ltInt RD.pi.1[u.a - 1]! RD.pi.1[RD.pivot]!) = false → (partition ltInt RD.pi.1 u.a u.c RD.pivot).1 - u.a < u.c - (partition ltInt RD.pi.1 u.a u.c RD.pivot).1 → pdq ltInt (pdq ltInt (partition ltInt RD.pi.1 u.a u.c RD.pivot).2.2 u.a (partition ltInt RD.pi.1 u.a u.c RD.pivot).1 RD.lim true true) ((partition ltInt RD.pi.1 u.a u.c RD.pivot).1 + 1) u.c RD.lim (decide ((partition ltInt RD.pi.1 u.a u.c RD.pivot).1 - u.a ≥ (u.c - u.a) / 8)) (partition ltInt RD.pi.1 u.a u.c RD.pivot).2.1 = pdq ltInt d0 a0 c0 lim0 true true := fun q q' => by
    have := pdq_left c1 c2 q1 (by rw [← hRD]; exact q) (by rw [← hRD]; exact ⟨hpt.1, hpt.2.1⟩) (by rw [← hRD]; exact q')
    rw [← hRD] at this
    rw [← i8, this]
  have right : (decide (u.a > 0) && !ltInt RD.pi.1[u.a - 1]! RD.pi.1[RD.pivot]!) = false → ¬ (partition ltInt RD.pi.1 u.a u.c RD.pivot).1 - u.a < u.c - (partition ltInt RD.pi.1 u.a u.c RD.pivot).1 → pdq ltInt (pdq ltInt (partition ltInt RD.pi.1 u.a u.c RD.pivot).2.2 ((partition ltInt RD.pi.1 u.a u.c RD.pivot).1 + 1) u.c RD.lim true true) u.a (partition ltInt RD.pi.1 u.a u.c RD.pivot).1 RD.lim (decide (u.c - (partition ltInt RD.pi.1 u.a u.c RD.pivot).1 ≥ (u.c - u.a) / 8)) (partition ltInt RD.pi.1 u.a u.c RD.pivot).2.1 = pdq ltInt d0 a0 c0 lim0 true true := fun q q' => by
    have := pdq_right c1 c2 q1 (by rw [← hRD]; exact q) (by rw [← hRD]; exact ⟨hpt.1, hpt.2.1⟩) (by rw [← hRD]; exact q')
    rw [← hRD] at this
    rw [← i8, this]
  obtain ⟨p1, p2, _⟩ := hpt
  have peIn := partEq_in RD.pi.1 hpv.1 hpv.2 (by omega)
  have pe := partitionEqual_ok (X := X) (lo := lo) b e n fl RD.pi.1 u.a u.c RD.pivot h5 j2 j3 hpv.1 hpv.2 i2 hN hb
  have pt := partition_ok (X := X) (lo := lo) b e n fl RD.pi.1 u.a u.c RD.pivot h5 j2 j3 hpv.1 hpv.2 i2 hN hb
  generalize partitionEqual ltInt RD.pi.1 u.a u.c RD.pivot = PE at *
  generalize partition ltInt RD.pi.1 u.a u.c RD.pivot = PT at *
  have wa : IntKind.i64.wrap ((u.a : Int) - 1) = ((u.a - 1 : Nat) : Int) ∨ u.a = 0 := by
    by_cases q : u.a = 0
    · exact .inr q
    · exact .inl (wz (by omega) (by omega))
  refine And.intro (by kernel_rfl) ?_
  refine cnd (fun c3 => ?_) (fun c3 => ?_)
  · have c3 : u.a > 0 := by have := of_decide_eq_true c3; omega
    have wa := wa.resolve_right (by omega)
    refine And.intro ⟨by omega, by omega⟩ ?_
    refine ⟨_, j2.ldI wa (by omega), ?_⟩
    refine And.intro ⟨by omega, by omega⟩ ?_
    refine ⟨_, j2.ldI rfl (by omega), ?_⟩
    refine callP (Less_ok _ _ _) ?_
    rintro v h5' ⟨rfl, rfl⟩
    refine cnd (fun c4 => ?_) (fun c4 => ?_)
    · have q : (decide (u.a > 0) && !ltInt RD.pi.1[u.a - 1]! RD.pi.1[RD.pivot]!) = true := by rw [decide_eq_true c3, Bool.true_and]; exact c4
      refine callP pe ?_
      rintro v h6 ⟨rfl, e6, r6, z6⟩
      exact again ⟨PE.1, u.c, RD.lim, u.wb, u.wp, PE.2⟩ _ _ _ (by show u.c - PE.1 < u.c - u.a; omega) ⟨rfl, rfl, rfl, rfl, rfl, rfl, trivial⟩ trivial ⟨peIn.2, i2, hlim, ⟨by show u.c - PE.1 ≤ m; omega, j1.trans e6⟩, r6, z6, equal q⟩
    · skip
      have q := (show (decide (u.a > 0) && !ltInt RD.pi.1[u.a - 1]! RD.pi.1[RD.pivot]!) = false by rw [decide_eq_true c3, Bool.true_and]; exact c4)
      refine callP pt ?_
      rintro v h6 ⟨rfl, e6, r6, z6⟩
      have l1 : IntKind.i64.wrap ((PT.1 : Int) - (u.a : Int)) = ((PT.1 - u.a : Nat) : Int) := wz (by omega) (by omega)
      have l2 : IntKind.i64.wrap ((u.c : Int) - (PT.1 : Int)) = ((u.c - PT.1 : Nat) : Int) := wz (by omega) (by omega)
      have l3 : IntKind.i64.wrap ((((u.c - u.a : Nat) : Int)).tdiv 8) = (((u.c - u.a) / 8 : Nat) : Int) := by
        rw [Int.tdiv_eq_ediv_of_nonneg (by omega), wr (by omega) (by omega)]; omega
      have l4 : IntKind.i64.wrap ((PT.1 : Int) + 1) = ((PT.1 + 1 : Nat) : Int) := wz (by omega) (by omega)
      refine And.intro (by decide) ?_
      refine cnd (fun c7 => ?_) (fun c7 => ?_)
      · have c7 : PT.1 - u.a < u.c - PT.1 := by have := of_decide_eq_true c7; omega
        have rcl := ih (PT.1 - u.a) (by omega) PT.2.2 u.a PT.1 RD.lim h6 (Nat.le_refl _) r6 z6 p1 (by omega) hlim
        refine callP rcl ?_
        rintro v h7 ⟨rfl, e7, r7, z7⟩
        exact again ⟨PT.1 + 1, u.c, RD.lim, decide (PT.1 - u.a ≥ (u.c - u.a) / 8), PT.2.1, pdq ltInt PT.2.2 u.a PT.1 RD.lim true true⟩ _ _ _ (by show u.c - (PT.1 + 1) < u.c - u.a; omega) ⟨rfl, vB (by rw [l1, l3]; omega), rfl, rfl, vI l4, rfl, trivial⟩ trivial ⟨by show PT.1 + 1 ≤ u.c; omega, i2, hlim, ⟨by show u.c - (PT.1 + 1) ≤ m; omega, (j1.trans e6).trans e7⟩, r7, z7, left q c7⟩
      · have c7 : ¬ PT.1 - u.a < u.c - PT.1 := by have := of_decide_eq_false c7; omega
        have rcl : Tri X lo 63 [sa b e n fl, .int .i64 (IntKind.i64.wrap ((PT.1 : Int) + 1)), .int .i64 (u.c : Int), .int .i64 (RD.lim : Int)] h6 (fun v h' => v = .tuple #[] ∧ PA b e n h6 (pdq ltInt PT.2.2 (PT.1 + 1) u.c RD.lim true true) h') := by
          rw [l4]; exact ih (u.c - (PT.1 + 1)) (by omega) PT.2.2 (PT.1 + 1) u.c RD.lim h6 (Nat.le_refl _) r6 z6 (by omega) (by omega) hlim
        refine callP rcl ?_
        rintro v h7 ⟨rfl, e7, r7, z7⟩
        exact again ⟨u.a, PT.1, RD.lim, decide (u.c - PT.1 ≥ (u.c - u.a) / 8), PT.2.1, pdq ltInt PT.2.2 (PT.1 + 1) u.c RD.lim true true⟩ _ _ _ (by show PT.1 - u.a < u.c - u.a; omega) ⟨rfl, vB (by rw [l2, l3]; omega), rfl, rfl, rfl, rfl, trivial⟩ trivial ⟨p1, by show PT.1 ≤ n; omega, hlim, ⟨by show PT.1 - u.a ≤ m; omega, (j1.trans e6).trans e7⟩, r7, z7, right q c7⟩
  · have c3 : ¬ u.a > 0 := by have := of_decide_eq_false c3; omega
    refine cndF ?_
    have q := (show (decide (u.a > 0) && !ltInt RD.pi.1[u.a - 1]! RD.pi.1[RD.pivot]!) = false by rw [decide_eq_false c3, Bool.false_and])
    refine callP pt ?_
    rintro v h6 ⟨rfl, e6, r6, z6⟩
    have l1 : IntKind.i64.wrap ((PT.1 : Int) - (u.a : Int)) = ((PT.1 - u.a : Nat) : Int) := wz (by omega) (by omega)
    have l2 : IntKind.i64.wrap ((u.c : Int) - (PT.1 : Int)) = ((u.c - PT.1 : Nat) : Int) := wz (by omega) (by omega)
    have l3 : IntKind.i64.wrap ((((u.c - u.a : Nat) : Int)).tdiv 8) = (((u.c - u.a) / 8 : Nat) : Int) := by
      rw [Int.tdiv_eq_ediv_of_nonneg (by omega), wr (by omega) (by omega)]; omega
    have l4 : IntKind.i64.wrap ((PT.1 : Int) + 1) = ((PT.1 + 1 : Nat) : Int) := wz (by omega) (by omega)
    refine And.intro (by decide) ?_
    refine cnd (fun c7 => ?_) (fun c7 => ?_)
    · have c7 : PT.1 - u.a < u.c - PT.1 := by have := of_decide_eq_true c7; omega
      have rcl := ih (PT.1 - u.a) (by omega) PT.2.2 u.a PT.1 RD.lim h6 (Nat.le_refl _) r6 z6 p1 (by omega) hlim
      refine callP rcl ?_
      rintro v h7 ⟨rfl, e7, r7, z7⟩
      exact again ⟨PT.1 + 1, u.c, RD.lim, decide (PT.1 - u.a ≥ (u.c - u.a) / 8), PT.2.1, pdq ltInt PT.2.2 u.a PT.1 RD.lim true true⟩ _ _ _ (by show u.c - (PT.1 + 1) < u.c - u.a; omega) ⟨rfl, vB (by rw [l1, l3]; omega), rfl, rfl, vI l4, rfl, trivial⟩ trivial ⟨by show PT.1 + 1 ≤ u.c; omega, i2, hlim, ⟨by show u.c - (PT.1 + 1) ≤ m; omega, (j1.trans e6).trans e7⟩, r7, z7, left q c7⟩
    · have c7 : ¬ PT.1 - u.a < u.c - PT.1 := by have := of_decide_eq_false c7; omega
      have rcl : Tri X lo 63 [sa b e n fl, .int .i64 (IntKind.i64.wrap ((PT.1 : Int) + 1)), .int .i64 (u.c : Int), .int .i64 (RD.lim : Int)] h6 (fun v h' => v = .tuple #[] ∧ PA b e n h6 (pdq ltInt PT.2.2 (PT.1 + 1) u.c RD.lim true true) h') := by
        rw [l4]; exact ih (u.c - (PT.1 + 1)) (by omega) PT.2.2 (PT.1 + 1) u.c RD.lim h6 (Nat.le_refl _) r6 z6 (by omega) (by omega) hlim
      refine callP rcl ?_
      rintro v h7 ⟨rfl, e7, r7, z7⟩
      exact again ⟨u.a, PT.1, RD.lim, decide (u.c - PT.1 ≥ (u.c - u.a) / 8), PT.2.1, pdq ltInt PT.2.2 (PT.1 + 1) u.c RD.lim true true⟩ _ _ _ (by show PT.1 - u.a < u.c - u.a; omega) ⟨rfl, vB (by rw [l2, l3]; omega), rfl, rfl, rfl, rfl, trivial⟩ trivial ⟨p1, by show PT.1 ≤ n; omega, hlim, ⟨by show PT.1 - u.a ≤ m; omega, (j1.trans e6).trans e7⟩, r7, z7, right q c7⟩
end Go.Proofs.Ytgcbfhdlfajemaa.Id
/- The walk of slices.Sort and slices.Compact. -/
namespace Go.Proofs.Ytgcbfhdlfajemaa.Id
open Go.Id Go.Sort
open Go.Proofs
set_option linter.unusedVariables false
set_option maxRecDepth 100000
variable {X : Ctx Try.prog} {lo : Nat}
theorem Sort_ok (b e n fl : Nat) (d : Array Int) (h : Hp) (r : AR h b e d) (hn : d.size = n) (hN : n < 2 ^ 31) (hb : lo ≤ b) : Tri X lo 38 [sa b e n fl] h fun v h' => v = .tuple #[] ∧ PA b e n h (Go.Sort.sort ltInt d) h' := by
  refine enter tbOk mtOk ⟨[], []⟩ 400 Try.func38 rfl rfl rfl fun hlo => ?_
  have w : IntKind.u64.wrap (n : Int) = (n : Int) := by rw [wu64]; omega
  have ct : Tri X lo 64 [.int .u64 (IntKind.u64.wrap (n : Int))] h (fun v h' => v = .int .i64 (bitsLen n : Int) ∧ h' = h) := by rw [w]; exact Len_ok n (by omega) h
  refine callP ct ?_
  rintro v h1 ⟨rfl, rfl⟩
  have hb31 : bitsLen n ≤ 31 := by rw [bitsLen_le_iff]; exact hN
  have hs : Go.Sort.sort ltInt d = pdq ltInt d 0 n (bitsLen n) true true := by unfold Go.Sort.sort; rw [hn]
  refine callP (pdq_ok b e n fl hN hb n d 0 n (bitsLen n) h1 (by omega) r hn (Nat.zero_le _) (Nat.le_refl _) (by omega)) ?_
  rintro v h2 ⟨rfl, p⟩
  rw [hs]
  exact And.intro rfl p
theorem ins_nil (z : Int) (hz : z = 0) (h : Hp) : Tri X lo 86 [.slice none 0 0, .int .i64 z, .int .i64 z] h fun v h' => v = .tuple #[] ∧ h' = h := by
  refine enter tbOk mtOk ⟨[], [(4, [0, 1, 2, 3, 4, 5, 6, 7, 8, 9, 10, 11, 12, 13, 14], [0, 0, 3, 7, 15, 15, 63, 127, 15, 15, 527, 1807, 3855, 8191, 16383]), (6, [0, 1, 2, 3, 4, 5, 6, 7, 8, 9, 10, 11, 12, 13, 14, 15, 16, 17], [0, 0, 0, 0, 8, 0, 0, 64, 224, 480, 0, 0, 3072, 7168, 16355, 32739, 65535, 131071])]⟩ 400 Try.func86 rfl rfl rfl fun hlo => ?_
  have w1 : IntKind.i64.wrap (z + 1) = z + 1 := wz rfl (by omega)
  refine loop (σ := Unit) tbOk mtOk ⟨[], [(4, [0, 1, 2, 3, 4, 5, 6, 7, 8, 9, 10, 11, 12, 13, 14], [0, 0, 3, 7, 15, 15, 63, 127, 15, 15, 527, 1807, 3855, 8191, 16383]), (6, [0, 1, 2, 3, 4, 5, 6, 7, 8, 9, 10, 11, 12, 13, 14, 15, 16, 17], [0, 0, 0, 0, 8, 0, 0, 64, 224, 480, 0, 0, 3072, 7168, 16355, 32739, 65535, 131071])]⟩ (fun _ => [(6, .v (.int .i64 (z + 1))), (2, .v (.int .i64 z))]) (fun _ => []) (fun _ h' => h' = h) (fun _ => 0) 8 () (fun _ => rfl) ⟨vI w1, rfl, trivial⟩ trivial rfl (fun _ h1 hI again => ?_)
  refine cnd (fun c => ?_) (fun _ => ?_)
  · exfalso
    have := of_decide_eq_true c
    omega
  · refine more tbOk mtOk ⟨[], [(4, [0, 1, 2, 3, 4, 5, 6, 7, 8, 9, 10, 11, 12, 13, 14], [0, 0, 3, 7, 15, 15, 63, 127, 15, 15, 527, 1807, 3855, 8191, 16383]), (6, [0, 1, 2, 3, 4, 5, 6, 7, 8, 9, 10, 11, 12, 13, 14, 15, 16, 17], [0, 0, 0, 0, 8, 0, 0, 64, 224, 480, 0, 0, 3072, 7168, 16355, 32739, 65535, 131071])]⟩ 5 ?_
    refine And.intro ?_ ?_
    · rfl
    · exact hI
theorem pdq_nil (z : Int) (hz : z = 0) (h : Hp) : Tri X lo 63 [.slice none 0 0, .int .i64 z, .int .i64 z, .int .i64 z] h fun v h' => v = .tuple #[] ∧ h' = h := by
  refine enter tbOk mtOk ⟨[], [(17, [0, 1, 2, 3, 4, 5, 6, 7, 8, 9, 10, 11, 12, 13, 14], [0, 1, 3, 7, 7, 23, 63, 127, 7, 7, 775, 1799, 4095, 8191, 16383])]⟩ 400 Try.func63 rfl rfl rfl fun hlo => ?_
  refine loop (σ := Unit) tbOk mtOk ⟨[], [(17, [0, 1, 2, 3, 4, 5, 6, 7, 8, 9, 10, 11, 12, 13, 14], [0, 1, 3, 7, 7, 23, 63, 127, 7, 7, 775, 1799, 4095, 8191, 16383])]⟩ (fun _ => [(0, .v (.slice none 0 0)), (1, .v (.int .i64 z)), (2, .v (.int .i64 z))]) (fun _ => []) (fun _ h' => h' = h) (fun _ => 0) 15 () (fun _ => rfl) ⟨rfl, rfl, rfl, trivial⟩ trivial rfl (fun _ h1 hI again => ?_)
  have w : IntKind.i64.wrap (z - z) = 0 := wz (by omega) (by omega)
  refine cnd (fun c => ?_) (fun c => ?_)
  · refine more tbOk mtOk ⟨[], [(17, [0, 1, 2, 3, 4, 5, 6, 7, 8, 9, 10, 11, 12, 13, 14], [0, 1, 3, 7, 7, 23, 63, 127, 7, 7, 775, 1799, 4095, 8191, 16383])]⟩ 12 ?_
    refine callP (ins_nil z hz h1) ?_
    rintro v h2 ⟨rfl, rfl⟩
    refine And.intro ?_ ?_
    · rfl
    · exact hI
  · exfalso
    have := of_decide_eq_false c
    omega
theorem Sort_nil (h : Hp) : Tri X lo 38 [.slice none 0 0] h fun v h' => v = .tuple #[] ∧ h' = h := by
  refine enter tbOk mtOk ⟨[], []⟩ 400 Try.func38 rfl rfl rfl fun hlo => ?_
  have w : IntKind.u64.wrap ((0 : Nat) : Int) = ((0 : Nat) : Int) := by rw [wu64]; decide
  have ct : Tri X lo 64 [.int .u64 (IntKind.u64.wrap ((0 : Nat) : Int))] h (fun v h' => v = .int .i64 ((0 : Nat) : Int) ∧ h' = h) := by rw [w]; exact Len_ok 0 (by omega) h
  refine callP ct ?_
  rintro v h1 ⟨rfl, rfl⟩
  refine callP (pdq_nil ((0 : Nat) : Int) rfl h1) ?_
  rintro v h2 ⟨rfl, rfl⟩
  exact And.intro rfl rfl
/-- The first m, each once where it stands again and again. -/
def ded (d : Array Int) : Nat → List Int
  | 0 => []
  | m + 1 => if m = 0 ∨ d[m]! ≠ d[m - 1]! then ded d m ++ [d[m]!] else ded d m
theorem addA_addA (a : Addr) (x y : Nat) : addA (addA a x) y = addA a (x + y) := by unfold addA; simp [Nat.add_assoc]
theorem AR.ldO {h : Hp} {b e : Nat} {d : Array Int} (r : AR h b e d) (k : Nat) {x : Int} {i : Nat} (hx : x = (i : Int)) (hi : k + i < d.size) : Ld h (addA (addA ⟨b, 0, some e⟩ (k * 1)) (x.toNat * 1)) 1 [.int .i64 d[k + i]!] := by
  subst hx
  rw [addA_addA]
  have := r.ldI (x := ((k + i : Nat) : Int)) rfl hi
  rw [Int.toNat_natCast] at this
  rw [Int.toNat_natCast, Nat.mul_one, Nat.mul_one]
  rwa [Nat.mul_one] at this
theorem ded_new {d : Array Int} {m : Nat} (h : d[m]! ≠ d[m - 1]!) : ded d (m + 1) = ded d m ++ [d[m]!] := by rw [ded, if_pos (.inr h)]
theorem ded_old {d : Array Int} {m : Nat} (h0 : m ≠ 0) (h : d[m]! = d[m - 1]!) : ded d (m + 1) = ded d m := by rw [ded, if_neg (fun q => q.elim h0 (fun q => q h))]
theorem take_snoc {d : Array Int} {k : Nat} (h : k < d.size) : d.toList.take (k + 1) = d.toList.take k ++ [d[k]!] := by
  rw [List.take_add_one, List.getElem?_eq_getElem (by simpa using h), arr_get h]; rfl
theorem setL_front (c ys : List Value) (o : Nat) (ho : o ≤ c.length) : (setL c o ys).take o = c.take o := by
  have e : c = c.take o ++ c.drop o := (List.take_append_drop o c).symm
  have hl : (c.take o).length = o := by rw [List.length_take]; omega
  conv => lhs; rw [e]
  have := setL_pre (c.take o) ys (c.drop o) 0
  rw [hl, Nat.add_zero] at this
  rw [this]
  exact List.take_left' hl
theorem inE_flat (l : List Int) : (l.flatMap inE).length = l.length := by
  have := flat_len (e := inE) (sz := 1) (fun _ => rfl) l
  rw [this]; omega
theorem Compact_ok (b e n : Nat) (d : Array Int) (h : Hp) (r : AR h b e d) (hn : d.size = n) (hN : n < 2 ^ 31) (hb : lo ≤ b) : Tri X lo 39 [sa b e n 1] h fun v h' => v = sa b e (ded d n).length 1 ∧ Ext1 b h h' ∧ ∃ r, Row h' b e inE 1 (ded d n ++ r) := by
  refine enter tbOk mtOk ⟨[], [(6, [0, 1, 2, 3, 4, 5, 6, 7, 8, 9], [0, 0, 3, 7, 0, 0, 32, 112, 240, 511]), (11, [0, 1, 2, 3, 4, 5, 6, 7, 8, 9], [0, 0, 3, 7, 0, 0, 32, 112, 240, 511])]⟩ 400 Try.func39 rfl rfl rfl fun hlo => ?_
  have lt := r.lt
  refine cnd (fun c1 => ?_) (fun c1 => ?_)
  · have c1 : n < 2 := by have := of_decide_eq_true c1; omega
    have hd : ded d n = d.toList := by
      have : n = 0 ∨ n = 1 := by omega
      rcases this with q | q
      · rw [q] at hn ⊢
        have : d.toList = [] := List.length_eq_zero_iff.1 (by simpa using hn)
        rw [this]; rfl
      · rw [q] at hn ⊢
        have := take_snoc (d := d) (k := 0) (by omega)
        rw [List.take_of_length_le (by simp; omega)] at this
        rw [this]; rfl
    rw [hd]
    have hl : d.toList.length = n := by simpa using hn
    rw [hl]
    exact And.intro rfl ⟨(Ext.refl _).one b, [], by rw [List.append_nil]; exact r⟩
  have c1 : ¬ n < 2 := by have := of_decide_eq_false c1; omega
  refine loop (σ := Nat) tbOk mtOk ⟨[], [(6, [0, 1, 2, 3, 4, 5, 6, 7, 8, 9], [0, 0, 3, 7, 0, 0, 32, 112, 240, 511]), (11, [0, 1, 2, 3, 4, 5, 6, 7, 8, 9], [0, 0, 3, 7, 0, 0, 32, 112, 240, 511])]⟩ (fun k => [(3, .v (.int .i64 (k : Int))), (0, .v (sa b e n 1))]) (fun _ => []) (fun k h' => (1 ≤ k ∧ k ≤ n) ∧ h = h' ∧ ded d k = d.toList.take k) (fun k => n - k) 400 1 (fun _ => rfl) ⟨rfl, rfl, trivial⟩ trivial ⟨⟨Nat.le_refl _, by omega⟩, rfl, by rw [take_snoc (by omega)]; rfl⟩ (fun k h1 hI again => ?_)
  obtain ⟨⟨i1, i2⟩, rfl, i3⟩ := hI
  refine cnd (fun c2 => ?_) (fun c2 => ?_)
  · have c2 : k < n := by have := of_decide_eq_true c2; omega
    have wm : IntKind.i64.wrap ((k : Int) - 1) = ((k - 1 : Nat) : Int) := wz (by omega) (by omega)
    have wp : IntKind.i64.wrap ((k : Int) + 1) = ((k + 1 : Nat) : Int) := wz (by omega) (by omega)
    refine And.intro (by kernel_rfl) ?_
    refine And.intro ⟨by omega, by omega⟩ ?_
    refine ⟨_, r.ldI rfl (by omega), ?_⟩
    refine And.intro ⟨by omega, by omega⟩ ?_
    refine ⟨_, r.ldI wm (by omega), ?_⟩
    refine cnd (fun c3 => ?_) (fun c3 => ?_)
    · have c3 : d[k]! = d[k - 1]! := by simpa using c3
      refine And.intro ⟨by omega, by omega, by omega⟩ ?_
      refine .inl ⟨by omega, ?_⟩
      have hs2 : (Value.slice (some (addA ⟨b, 0, some e⟩ ((k : Int).toNat * 1))) ((n : Int) - (k : Int)).toNat (if (k : Int) = 0 ∧ 1 = 1 then 1 else 2)) = .slice (some (addA ⟨b, 0, some e⟩ (k * 1))) (n - k) 2 := by
        rw [if_neg (by omega), Int.toNat_natCast, show ((n : Int) - (k : Int)).toNat = n - k from by omega]
      refine loop (σ := Nat × Nat × Array Int) tbOk mtOk ⟨[], [(6, [0, 1, 2, 3, 4, 5, 6, 7, 8, 9], [0, 0, 3, 7, 0, 0, 32, 112, 240, 511]), (11, [0, 1, 2, 3, 4, 5, 6, 7, 8, 9], [0, 0, 3, 7, 0, 0, 32, 112, 240, 511])]⟩ (fun u => [(5, .v (.int .i64 (u.2.1 : Int))), (4, .v (.slice (some (addA ⟨b, 0, some e⟩ (k * 1))) (n - k) 2)), (3, .v (.int .i64 (u.1 : Int))), (0, .v (sa b e n 1))]) (fun _ => []) (fun u h' => (1 ≤ u.2.1 ∧ u.2.1 ≤ n - k ∧ 1 ≤ u.1 ∧ u.1 + 1 ≤ k + u.2.1) ∧ u.2.2.size = n ∧ (∀ j, k + u.2.1 ≤ j + 1 → u.2.2[j]! = d[j]!) ∧ u.2.2.toList.take u.1 = ded d (k + u.2.1) ∧ Ext1 b h h' ∧ AR h' b e u.2.2) (fun u => n - k - u.2.1) 400 (k, 1, d) (fun _ => rfl) ⟨rfl, congrArg (fun x => some (Sl.v x)) hs2, rfl, rfl, trivial⟩ trivial ⟨⟨Nat.le_refl _, by show 1 ≤ n - k; omega, i1, by show k + 1 ≤ k + 1; omega⟩, hn, fun j _ => rfl, by show d.toList.take k = ded d (k + 1); rw [ded_old (by omega) c3, i3], (Ext.refl _).one b, r⟩ (fun u h2 hI again' => ?_)
      obtain ⟨⟨j1, j2, j3, j4⟩, j5, j6, j7, j8, j9⟩ := hI
      refine cnd (fun c4 => ?_) (fun c4 => ?_)
      · have c4 : u.2.1 < n - k := by have := of_decide_eq_true c4; omega
        have wm : IntKind.i64.wrap ((u.2.1 : Int) - 1) = ((u.2.1 - 1 : Nat) : Int) := wz (by omega) (by omega)
        have wq : IntKind.i64.wrap ((u.2.1 : Int) + 1) = ((u.2.1 + 1 : Nat) : Int) := wz (by omega) (by omega)
        have wr1 : IntKind.i64.wrap ((u.1 : Int) + 1) = ((u.1 + 1 : Nat) : Int) := wz (by omega) (by omega)
        have x1 := j6 (k + u.2.1) (by omega)
        have x2 := j6 (k + (u.2.1 - 1)) (by omega)
        have l1 := j9.ldO k (x := (u.2.1 : Int)) (i := u.2.1) rfl (by omega)
        have l2 := j9.ldO k (x := IntKind.i64.wrap ((u.2.1 : Int) - 1)) (i := u.2.1 - 1) wm (by omega)
        rw [x1] at l1
        rw [x2] at l2
        refine And.intro (by kernel_rfl) ?_
        refine And.intro ⟨by omega, by omega⟩ ?_
        refine ⟨_, l1, ?_⟩
        refine And.intro ⟨by omega, by omega⟩ ?_
        refine ⟨_, l2, ?_⟩
        refine cnd (fun c5 => ?_) (fun c5 => ?_)
        · have c5 : d[k + u.2.1]! ≠ d[k + u.2.1 - 1]! := by
            have c5 : ¬ d[k + u.2.1]! = d[k + (u.2.1 - 1)]! := by simpa using c5
            rwa [show k + u.2.1 - 1 = k + (u.2.1 - 1) from by omega]
          refine And.intro ⟨by omega, by omega⟩ ?_
          refine ⟨_, l1, ?_⟩
          refine And.intro ⟨by omega, by omega⟩ ?_
          refine ⟨_, j9.stI (lo := lo) hb rfl (i := u.1) (by omega) d[k + u.2.1]!, ?_⟩
          have r5 : AR (h2.set b (.cells ((u.2.2.setIfInBounds u.1 d[k + u.2.1]!).toList.flatMap inE) 1 e)) b e (u.2.2.setIfInBounds u.1 d[k + u.2.1]!) := Row.set j9.lt
          refine again' (u.1 + 1, u.2.1 + 1, u.2.2.setIfInBounds u.1 d[k + u.2.1]!) _ _ _ (by show n - k - (u.2.1 + 1) < n - k - u.2.1; omega) ⟨vI wq, rfl, vI wr1, rfl, trivial⟩ trivial ⟨⟨by show 1 ≤ u.2.1 + 1; omega, by show u.2.1 + 1 ≤ n - k; omega, by show 1 ≤ u.1 + 1; omega, by show u.1 + 1 + 1 ≤ k + (u.2.1 + 1); omega⟩, by simpa using j5, fun j hj => ?_, ?_, j8.set _ (.inl rfl), r5⟩
          · have hj : k + (u.2.1 + 1) ≤ j + 1 := hj
            show (u.2.2.setIfInBounds u.1 d[k + u.2.1]!)[j]! = d[j]!
            rw [← j6 j (by omega)]
            by_cases q : j < u.2.2.size
            · rw [getElem!_pos (u.2.2.setIfInBounds u.1 d[k + u.2.1]!) j (by simpa using q), getElem!_pos u.2.2 j q, Array.getElem_setIfInBounds_ne _ (by omega)]
            · rw [getElem!_neg (u.2.2.setIfInBounds u.1 d[k + u.2.1]!) j (by simpa using q), getElem!_neg u.2.2 j q]
          · show (u.2.2.setIfInBounds u.1 d[k + u.2.1]!).toList.take (u.1 + 1) = ded d (k + (u.2.1 + 1))
            rw [show k + (u.2.1 + 1) = k + u.2.1 + 1 from by omega, ded_new c5, ← j7, Array.toList_setIfInBounds]
            have hl : u.1 < u.2.2.toList.length := by simp; omega
            rw [List.take_add_one, List.take_set_of_le (Nat.le_refl _), List.getElem?_set_self hl]; rfl
        · have c5 : d[k + u.2.1]! = d[k + u.2.1 - 1]! := by
            have c5 : d[k + u.2.1]! = d[k + (u.2.1 - 1)]! := by simpa using c5
            rwa [show k + u.2.1 - 1 = k + (u.2.1 - 1) from by omega]
          exact again' (u.1, u.2.1 + 1, u.2.2) _ _ _ (by show n - k - (u.2.1 + 1) < n - k - u.2.1; omega) ⟨vI wq, rfl, rfl, rfl, trivial⟩ trivial ⟨⟨by show 1 ≤ u.2.1 + 1; omega, by show u.2.1 + 1 ≤ n - k; omega, j3, by show u.1 + 1 ≤ k + (u.2.1 + 1); omega⟩, j5, fun j hj => j6 j (Nat.le_trans (by show k + u.2.1 ≤ k + (u.2.1 + 1); omega) hj), by show u.2.2.toList.take u.1 = ded d (k + (u.2.1 + 1)); rw [show k + (u.2.1 + 1) = k + u.2.1 + 1 from by omega, ded_old (by omega) c5]; exact j7, j8, j9⟩
      · have c4 : u.2.1 = n - k := by have := of_decide_eq_false c4; omega
        have hkn : k + u.2.1 = n := by omega
        rw [hkn] at j7 j4
        have hlen : (ded d n).length = u.1 := by rw [← j7, List.length_take]; simp; omega
        have hzl : (zeros [Value.int .i64 0] (n - u.1)).length = n - u.1 := by rw [zeros_length]; simp
        have hcl : (u.2.2.toList.flatMap inE).length = n := by rw [inE_flat]; simpa using j5
        refine And.intro ⟨by omega, by omega, by omega⟩ ?_
        refine .inl ⟨by omega, ?_⟩
        refine .inr ⟨by show ((n : Int) - (u.1 : Int)).toNat ≠ 0; omega, _, h2.set b (.cells (setL (u.2.2.toList.flatMap inE) u.1 (zeros [Value.int .i64 0] (n - u.1))) 1 e), rfl, ?_, ?_⟩
        · refine ⟨hb, j9.lt, _, 1, j9.g, ?_, ?_⟩
          · show 0 + (u.1 : Int).toNat * 1 + (zeros [Value.int .i64 0] ((n : Int) - (u.1 : Int)).toNat).length ≤ _
            rw [hcl, show ((n : Int) - (u.1 : Int)).toNat = n - u.1 from by omega, hzl]; omega
          · show _ = h2.set b (.cells (setL (u.2.2.toList.flatMap inE) (0 + (u.1 : Int).toNat * 1) (zeros [Value.int .i64 0] ((n : Int) - (u.1 : Int)).toNat)) 1 e)
            rw [show ((n : Int) - (u.1 : Int)).toNat = n - u.1 from by omega, show 0 + (u.1 : Int).toNat * 1 = u.1 from by omega]
        · refine And.intro ⟨by omega, by omega, by omega⟩ ?_
          refine cut0 (n := u.1) rfl ?_
          rw [hlen]
          have hf : setL (u.2.2.toList.flatMap inE) u.1 (zeros [Value.int .i64 0] (n - u.1)) = (ded d n ++ List.replicate (n - u.1) (0 : Int)).flatMap inE := by
            have e1 : u.2.2.toList.flatMap inE = (u.2.2.toList.take u.1).flatMap inE ++ (u.2.2.toList.drop u.1).flatMap inE := by
              rw [← List.flatMap_append, List.take_append_drop]
            have hl : ((u.2.2.toList.take u.1).flatMap inE).length = u.1 := by rw [inE_flat, List.length_take]; simp; omega
            have hl2 : ((u.2.2.toList.drop u.1).flatMap inE).length = n - u.1 := by rw [inE_flat, List.length_drop]; simp; omega
            have := setL_all ((u.2.2.toList.take u.1).flatMap inE) ((u.2.2.toList.drop u.1).flatMap inE) (zeros [Value.int .i64 0] (n - u.1)) (by rw [hl2, hzl])
            rw [hl] at this
            rw [e1, this, List.flatMap_append, j7, zeros_flat (enc := inE) (z := [Value.int .i64 0]) (x := (0 : Int)) rfl]
          rw [hf]
          exact And.intro rfl ⟨j8.set _ (.inl rfl), List.replicate (n - u.1) 0, Row.set j9.lt⟩
    · have c3 : d[k]! ≠ d[k - 1]! := by simpa using c3
      refine again (k + 1) _ _ _ (by omega) ⟨vI wp, rfl, trivial⟩ trivial ⟨⟨by omega, by omega⟩, rfl, ?_⟩
      rw [ded_new c3, i3, take_snoc (by omega)]
  · have c2 : k = n := by have := of_decide_eq_false c2; omega
    subst c2
    have hl : d.toList.length = d.size := by simp
    rw [List.take_of_length_le (by omega)] at i3
    rw [i3, hl]
    have hk : d.size = k := hn
    rw [hk]
    exact And.intro rfl ⟨(Ext.refl _).one b, [], by rw [List.append_nil]; exact r⟩
end Go.Proofs.Ytgcbfhdlfajemaa.Id
/- Into which cells light comes: plain. -/
namespace Go.Proofs.Ytgcbfhdlfajemaa.Id
open Go.Id Go.Sort
open Go.Proofs
set_option linter.unusedVariables false
theorem trail_vis (g : Gd) (k : Int) : ∀ v ∈ (trail g k).1, 0 ≤ v.1 ∧ v.1 < g.cs.length := by
  obtain ⟨t1, _⟩ := trail_ok g k
  unfold IsTrail at t1
  cases hr : sightRay g k with
  | none =>
    rw [hr] at t1
    intro v hv
    rw [show trail g k = ([], []) from t1] at hv
    cases hv
  | some r =>
    rw [hr] at t1
    obtain ⟨q, hq⟩ := t1
    obtain ⟨hg, h1, h2⟩ := sightRay_ok hr
    obtain ⟨g1, _, _, _, g5, _⟩ := gOk_iff.1 hg
    intro v hv
    exact ((Tr.go_ends (w := g.w) g1 g5 q _ _ _ _ ⟨h1, h2⟩ (by omega) hq).2 v hv).1.1
/-- The cells that are visited, ascending. -/
def footL (vs : List V3) (N : Nat) : List Int := ((List.range N).filter fun (i : Nat) => vs.any fun v => v.1 == (i : Int)).map fun (i : Nat) => (i : Int)
theorem footL_mem {vs : List V3} {N : Nat} {x : Int} : x ∈ footL vs N ↔ (0 ≤ x ∧ x < N) ∧ ∃ v ∈ vs, v.1 = x := by
  unfold footL
  simp only [List.mem_map, List.mem_filter, List.mem_range, List.any_eq_true, beq_iff_eq]
  constructor
  · rintro ⟨i, ⟨hi, v, hv, e⟩, rfl⟩
    exact ⟨⟨by omega, by omega⟩, v, hv, e⟩
  · rintro ⟨⟨h0, h1⟩, v, hv, e⟩
    exact ⟨x.toNat, ⟨by omega, v, hv, by omega⟩, by omega⟩
theorem footL_lt (vs : List V3) (N : Nat) : (footL vs N).Pairwise (· < ·) := by
  unfold footL
  rw [List.pairwise_map]
  refine List.Pairwise.imp ?_ (List.Pairwise.filter _ List.pairwise_lt_range)
  intro a b h
  show (a : Int) < (b : Int)
  omega
theorem asc_ext : ∀ (l m : List Int), l.Pairwise (· < ·) → m.Pairwise (· < ·) → (∀ x, x ∈ l ↔ x ∈ m) → l = m
  | [], [], _, _, _ => rfl
  | [], b :: m, _, _, h => absurd ((h b).2 (List.mem_cons_self ..)) (by simp)
  | a :: l, [], _, _, h => absurd ((h a).1 (List.mem_cons_self ..)) (by simp)
  | a :: l, b :: m, hl, hm, h => by
    obtain ⟨l1, l2⟩ := List.pairwise_cons.1 hl
    obtain ⟨m1, m2⟩ := List.pairwise_cons.1 hm
    have e : a = b := by
      have h1 := (h a).1 (List.mem_cons_self ..)
      have h2 := (h b).2 (List.mem_cons_self ..)
      rcases List.mem_cons.1 h1 with q | q
      · exact q
      · rcases List.mem_cons.1 h2 with q' | q'
        · exact q'.symm
        · have := m1 a q
          have := l1 b q'
          omega
    subst e
    rw [asc_ext l m l2 m2 fun x => ?_]
    constructor
    · intro hx
      have := l1 x hx
      rcases List.mem_cons.1 ((h x).1 (List.mem_cons_of_mem _ hx)) with q | q
      · omega
      · exact q
    · intro hx
      have := m1 x hx
      rcases List.mem_cons.1 ((h x).2 (List.mem_cons_of_mem _ hx)) with q | q
      · omega
      · exact q
theorem ded_asc {d : Array Int} {n : Nat} (hs : SortedIn ltInt 0 n d) : ∀ m, m ≤ n → (ded d m).Pairwise (· < ·) ∧ (∀ x ∈ ded d m, ∃ j, j < m ∧ x = d[j]!) ∧ ∀ j, j < m → d[j]! ∈ ded d m
  | 0, _ => ⟨List.Pairwise.nil, fun x hx => (by cases hx), fun j hj => absurd hj (Nat.not_lt_zero _)⟩
  | m + 1, hm => by
    obtain ⟨p1, p2, p3⟩ := ded_asc hs m (by omega)
    by_cases c : m = 0
    · subst c
      rw [ded, if_pos (.inl rfl)]
      refine ⟨by simp [ded], fun x hx => ⟨0, by omega, by simpa [ded] using hx⟩, fun j hj => ?_⟩
      have : j = 0 := by omega
      subst this; simp
    · by_cases e : d[m]! = d[m - 1]!
      · rw [ded_old c e]
        refine ⟨p1, fun x hx => ?_, fun j hj => ?_⟩
        · obtain ⟨j, hj, hx⟩ := p2 x hx
          exact ⟨j, by omega, hx⟩
        · by_cases q : j = m
          · subst q; rw [e]; exact p3 (j - 1) (by omega)
          · exact p3 j (by omega)
      · rw [ded_new e]
        refine ⟨List.pairwise_append.2 ⟨p1, by simp, fun x hx y hy => ?_⟩, fun x hx => ?_, fun j hj => ?_⟩
        · obtain rfl := List.mem_singleton.1 hy
          obtain ⟨j, hj, rfl⟩ := p2 x hx
          have h1 : ¬ d[m]! < d[m - 1]! := by simpa [ltInt] using hs (m - 1) m (by omega) (by omega) (by omega)
          by_cases q : j = m - 1
          · rw [q]; omega
          · have h2 : ¬ d[m - 1]! < d[j]! := by simpa [ltInt] using hs j (m - 1) (by omega) (by omega) (by omega)
            omega
        · rcases List.mem_append.1 hx with q | q
          · obtain ⟨j, hj, hx⟩ := p2 x q
            exact ⟨j, by omega, hx⟩
          · exact ⟨m, by omega, List.mem_singleton.1 q⟩
        · by_cases q : j = m
          · subst q; exact List.mem_append.2 (.inr (List.mem_singleton.2 rfl))
          · exact List.mem_append.2 (.inl (p3 j (by omega)))
theorem ded_foot {vs : List V3} {N : Nat} (hv : ∀ v ∈ vs, 0 ≤ v.1 ∧ v.1 < (N : Int)) (d : Array Int) (hd : d.toList = vs.map fun v => v.1) : ded (Go.Sort.sort ltInt d) d.size = footL vs N := by
  obtain ⟨_, h2⟩ := sort_sorts ltInt swo_ltInt d
  obtain ⟨p1, p2, p3⟩ := ded_asc h2 d.size (Nat.le_refl _)
  have hm : ∀ x, x ∈ (Go.Sort.sort ltInt d).toList ↔ x ∈ d.toList := by
    intro x
    have := sortInt d.toList
    rw [Array.toArray_toList] at this
    rw [this]
    exact List.mem_mergeSort
  have hz : (Go.Sort.sort ltInt d).size = d.size := (sort_sorts ltInt swo_ltInt d).1.1
  have hg : ∀ x, x ∈ (Go.Sort.sort ltInt d).toList ↔ ∃ j, j < d.size ∧ x = (Go.Sort.sort ltInt d)[j]! := by
    intro x
    constructor
    · intro hx
      obtain ⟨j, hj, rfl⟩ := List.getElem_of_mem hx
      have hj' : j < (Go.Sort.sort ltInt d).size := by simpa using hj
      exact ⟨j, by omega, (arr_get hj').symm⟩
    · rintro ⟨j, hj, rfl⟩
      rw [arr_get (by omega)]
      exact List.getElem_mem _
  refine asc_ext _ _ p1 (footL_lt vs N) fun x => ?_
  rw [footL_mem]
  constructor
  · intro hx
    have := (hm x).1 ((hg x).2 (p2 x hx))
    rw [hd, List.mem_map] at this
    obtain ⟨v, hv1, rfl⟩ := this
    exact ⟨hv v hv1, v, hv1, rfl⟩
  · rintro ⟨_, v, hv1, rfl⟩
    obtain ⟨j, hj, e⟩ := (hg v.1).1 ((hm v.1).2 (by rw [hd]; exact List.mem_map.2 ⟨v, hv1, rfl⟩))
    rw [e]; exact p3 j hj
noncomputable def footG (g : Gd) (k : Int) : List Int := footL (trail g k).1 g.cs.length
end Go.Proofs.Ytgcbfhdlfajemaa.Id
/- Contracts over the ideal memory: into which cells light comes. -/
namespace Go.Proofs.Ytgcbfhdlfajemaa.Id
open Go.Id
open Go.Proofs
set_option linter.unusedVariables false
set_option maxRecDepth 100000
variable {X : Ctx Try.prog} {lo : Nat}
theorem gx_lo {α : Type} {enc : α → List Value} {sz lo' : Nat} {h : Hp} {o : Option (Nat × Nat)} {l : List α} (g : Gx lo h enc sz o l) (hl : ∀ i, isB o i → lo' ≤ i) : Gx lo' h enc sz o l := by
  match o, g with
  | none, g => exact g
  | some (b, e), ⟨g1, g2⟩ => exact ⟨hl b ⟨e, rfl⟩, g2⟩
/-- One more, at the end of what grows. -/
theorem gx_snoc {h0 h : Hp} {o : Option (Nat × Nat)} {l : List Int} (g : Gx h0.n h inE 1 o l) (x0 : Ext h0 h) (hlo : lo ≤ h0.n) (hm : l.length + 1 ≤ Id.maxLen) (x : Int) :
    ∃ o' h', SlCells (h.push (.cells (inE x) 1 0)) (.slice (some ⟨h.n, 0, some 0⟩) 1 1) 1 (inE x) ∧ Ap lo (h.push (.cells (inE x) 1 0)) 1 (gv o l.length) (inE x) 1 (gv o' (l ++ [x]).length) h' ∧ Gx h0.n h' inE 1 o' (l ++ [x]) ∧ Ext h0 h' := by
  have e4 : Ext h (h.push (.cells (inE x) 1 0)) := Ext.push _ _
  have g4 := g.ext e4
  have n0 := x0.n
  have n4 := e4.n
  obtain ⟨o', h5, a1, a2, a3⟩ := (gx_lo (lo' := lo) g4 fun i hi => by have := (g4.lt hi).2; omega).apps (fun _ => rfl) (by decide) [x] (by simpa using hm) (by omega)
  have a3n := a3.n
  refine ⟨o', h5, one_cells rfl, by simpa using a1, gx_lo a2 fun i hb => ?_, ⟨by omega, fun i hi => ?_⟩⟩
  · rcases a3.b i hb with hb | hb
    · exact (g4.lt hb).2
    · omega
  · exact ((a3.g i (by omega) fun hb => by have := (g4.lt hb).2; omega).trans (e4.g i (by omega))).trans (x0.g i hi)
theorem gx_none {h : Hp} {enc : Int → List Value} {sz lo : Nat} : Gx lo h enc sz none ([] : List Int) := rfl
theorem Compact_nil (h : Hp) : Tri X lo 39 [.slice none 0 0] h fun v h' => v = .slice none 0 0 ∧ h' = h := by
  refine enter tbOk mtOk ⟨[], [(6, [0, 1, 2, 3, 4, 5, 6, 7, 8, 9], [0, 0, 3, 7, 0, 0, 32, 112, 240, 511]), (11, [0, 1, 2, 3, 4, 5, 6, 7, 8, 9], [0, 0, 3, 7, 0, 0, 32, 112, 240, 511])]⟩ 12 Try.func39 rfl rfl rfl fun hlo => ?_
  refine cndT ?_
  refine more tbOk mtOk ⟨[], [(6, [0, 1, 2, 3, 4, 5, 6, 7, 8, 9], [0, 0, 3, 7, 0, 0, 32, 112, 240, 511]), (11, [0, 1, 2, 3, 4, 5, 6, 7, 8, 9], [0, 0, 3, 7, 0, 0, 32, 112, 240, 511])]⟩ 8 ?_
  exact And.intro rfl rfl
/-- What stands at the beginning of a row of numbers, or nothing. -/
def GR (lo : Nat) (h : Hp) (o : Option (Nat × Nat)) (l : List Int) : Prop :=
  match o with
  | none => l = []
  | some (b, e) => lo ≤ b ∧ ∃ r, Row h b e inE 1 (l ++ r)
theorem GR.w {h : Hp} {o : Option (Nat × Nat)} {l : List Int} (g : GR lo h o l) : Gw lo h inE 1 o l := by
  match o, g with
  | none, g => exact g
  | some (b, e), ⟨g1, r, g2⟩ => exact ⟨g1, (g2.p fun _ => rfl).cut fun _ => rfl⟩
theorem GR.keep {h h' : Hp} {o : Option (Nat × Nat)} {l : List Int} (g : GR lo h o l) (hn : h.n ≤ h'.n) (hg : ∀ i, i < h.n → isB o i → h'.g i = h.g i) : GR lo h' o l := by
  match o, g with
  | none, g => exact g
  | some (b, e), ⟨g1, r, g2⟩ => exact ⟨g1, r, Nat.lt_of_lt_of_le g2.lt hn, by rw [hg b g2.lt ⟨e, rfl⟩]; exact g2.g⟩
theorem GR.ext {h h' : Hp} {o : Option (Nat × Nat)} {l : List Int} (g : GR lo h o l) (x : Ext h h') : GR lo h' o l := g.keep x.n fun i hi _ => x.g i hi
theorem GR.up {lo' : Nat} {h : Hp} {o : Option (Nat × Nat)} {l : List Int} (g : GR lo h o l) (hl : ∀ i, isB o i → lo' ≤ i) : GR lo' h o l := by
  match o, g with
  | none, g => exact g
  | some (b, e), ⟨_, g⟩ => exact ⟨hl b ⟨e, rfl⟩, g⟩
theorem GR.lt {h : Hp} {o : Option (Nat × Nat)} {l : List Int} (g : GR lo h o l) {i : Nat} (hi : isB o i) : i < h.n ∧ lo ≤ i := by
  obtain ⟨e, rfl⟩ := hi
  exact ⟨g.2.choose_spec.lt, g.1⟩
theorem GR.sl {h : Hp} {o : Option (Nat × Nat)} {l : List Int} (g : GR lo h o l) : ∃ a fl, gv o l.length = .slice a l.length fl ∧ Sls h inE 1 a l := gw_sls g.w
theorem TrailFoot_ok (g : Gd) (k : Int) (ad : Option Addr) (fl : Nat) (h : Hp) (hs : Sls h cE 2 ad g.cs) (hn : (g.cs.length : Int) < 2 ^ 31) : Tri X lo 10 [.agg #[.int .i64 g.w, .slice ad g.cs.length fl], .int .i64 k] h fun v h' => (∃ o, v = gv o (footG g k).length ∧ GR h.n h' o (footG g k)) ∧ Ext h h' := by
  refine enter tbOk mtOk ⟨[], []⟩ 400 Try.func10 rfl rfl rfl fun hlo => ?_
  obtain ⟨hT, hm, _⟩ := trail_ok g k
  have hvis := trail_vis g k
  have hF : footG g k = footL (trail g k).1 g.cs.length := rfl
  generalize footG g k = F at *
  generalize trail g k = T at *
  refine callP (trailOf_ok g k T ad fl h hs hn hT hm) ?_
  rintro v h1 ⟨o1, o2, rfl, g1, g2, e1⟩
  obtain ⟨a2, f2, q2, s2⟩ := gw_sls g1
  rw [q2]
  have n1 := e1.n
  refine loop (σ := Nat × Option (Nat × Nat)) tbOk mtOk ⟨[], []⟩ (fun s => [(13, .v (.int .i64 (s.1 : Int))), (12, .v (.int .i64 (T.1.length : Int))), (11, .v (.slice a2 T.1.length f2)), (5, .v (gv s.2 s.1)), (2, .l 0 0)]) (fun _ => [[.int .i64 g.w, .slice ad g.cs.length fl]]) (fun s h' => s.1 ≤ T.1.length ∧ Gx h1.n h' inE 1 s.2 ((T.1.map fun v => v.1).take s.1) ∧ Ext h1 h') (fun s => T.1.length - s.1) 400 (0, none) (fun _ => rfl) ⟨rfl, rfl, rfl, rfl, rfl, trivial⟩ ⟨rfl, trivial⟩ ⟨Nat.zero_le _, rfl, Ext.refl _⟩ (fun s h2 hI again => ?_)
  obtain ⟨i1, i2, i3⟩ := hI
  have hll : (T.1.map fun v => v.1).length = T.1.length := List.length_map ..
  refine cnd (fun c1 => ?_) (fun c1 => ?_)
  · have c1 : s.1 < T.1.length := by have := of_decide_eq_true c1; omega
    obtain ⟨a2, rfl⟩ := s2.some c1
    have hld := (s2.ext i3).ld vE3 c1
    have htk : (T.1.map fun v => v.1).take (s.1 + 1) = (T.1.map fun v => v.1).take s.1 ++ [T.1[s.1].1] := by
      rw [List.take_add_one, List.getElem?_eq_getElem (by omega)]; simp
    have hlen : ((T.1.map fun v => v.1).take s.1).length = s.1 := by rw [List.length_take]; omega
    obtain ⟨o', h3, p1, p2, p3, p4⟩ := gx_snoc (lo := lo) i2 i3 (by omega) (by rw [hlen]; unfold Id.maxLen; omega) T.1[s.1].1
    rw [← htk] at p2 p3
    have hlen' : ((T.1.map fun v => v.1).take (s.1 + 1)).length = s.1 + 1 := by rw [List.length_take]; omega
    rw [hlen, hlen'] at p2
    have wq : IntKind.i64.wrap ((s.1 : Int) + 1) = ((s.1 + 1 : Nat) : Int) := wz (by omega) (by omega)
    refine And.intro ⟨by omega, by omega⟩ ?_
    refine ⟨_, hld, ?_⟩
    refine ⟨inE T.1[s.1].1, p1, _, h3, p2, ?_⟩
    exact again (s.1 + 1, o') _ _ _ (by show T.1.length - (s.1 + 1) < T.1.length - s.1; omega) ⟨vI wq, rfl, rfl, rfl, rfl, trivial⟩ ⟨rfl, trivial⟩ ⟨by show s.1 + 1 ≤ T.1.length; omega, p3, p4⟩
  · have c1 : s.1 = T.1.length := by have := of_decide_eq_false c1; omega
    rw [c1, List.take_of_length_le (by omega)] at i2
    have x2 := e1.trans i3
    obtain ⟨m, o⟩ := s
    simp only at c1 i2
    subst c1
    match o, i2 with
    | none, i2 =>
      have hnil : T.1 = [] := by
        have : (T.1.map fun v => v.1) = [] := i2
        exact List.map_eq_nil_iff.1 this
      have hF0 : F = [] := by rw [hF, hnil]; unfold footL; simp
      rw [hnil]
      refine callP (Sort_nil h2) ?_
      rintro v h3 ⟨rfl, rfl⟩
      refine callP (Compact_nil h3) ?_
      rintro v h4 ⟨rfl, rfl⟩
      rw [hF0]
      exact And.intro ⟨none, rfl, rfl⟩ x2
    | some (b, e), i2 =>
      have hd : ((T.1.map fun v => v.1).toArray).toList = T.1.map fun v => v.1 := by simp
      have hz : ((T.1.map fun v => v.1).toArray).size = T.1.length := by simp
      have r2 : AR h2 b e (T.1.map fun v => v.1).toArray := by unfold AR; rw [hd]; exact i2.2
      have hfoot := ded_foot (N := g.cs.length) hvis _ hd
      rw [← hF, hz] at hfoot
      have hbb := i2.1
      generalize (T.1.map fun v => v.1).toArray = d at *
      refine callP (Sort_ok b e T.1.length 1 d h2 r2 hz (by omega) (by omega)) ?_
      rintro v h3 ⟨rfl, e3, r3, z3⟩
      refine callP (Compact_ok b e T.1.length _ h3 r3 z3 (by omega) (by omega)) ?_
      rintro v h4 ⟨rfl, e4, r, r4⟩
      rw [hfoot] at r4 ⊢
      exact And.intro ⟨some (b, e), rfl, ⟨by omega, r, r4⟩⟩ ((e3.trans e4).out x2 (by omega))
end Go.Proofs.Ytgcbfhdlfajemaa.Id
/- Contracts over the ideal memory: spec's grids and sights. -/
namespace Go.Proofs.Ytgcbfhdlfajemaa.Id
open Go.Id
open Go.Proofs
set_option linter.unusedVariables false
set_option maxRecDepth 100000
variable {X : Ctx Try.prog} {lo : Nat}
theorem sCellOk_ok (a b : Int) (h : Hp) : Tri X lo 30 [.agg #[.int .i64 a, .int .i64 b]] h fun v h' => v = .bool (cOk (a, b)) ∧ Ext h h' := by
  refine enter tbOk mtOk ⟨[], []⟩ 400 Try.func30 rfl rfl rfl fun hlo => ?_
  refine cnd (fun c1 => ?_) (fun c1 => ?_)
  · have c1 : a = 7 := by simpa using c1
    refine callP (l6In_ok b 1 9 h) ?_
    rintro v h1 ⟨rfl, q⟩
    subst q
    refine And.intro ?_ (Ext.refl _)
    simp [cOk, c1]
  · have c1 : a ≠ 7 := by simpa using c1
    refine callP (l6In_ok a 0 6 h) ?_
    rintro v h1 ⟨rfl, q⟩
    subst q
    refine cnd (fun c2 => ?_) (fun c2 => ?_)
    · refine And.intro ?_ (Ext.refl _)
      show Value.bool (b == 0) = _
      have c2 : 0 ≤ a ∧ a ≤ 6 := by simpa using c2
      simp [cOk, c1, c2]; rfl
    · refine And.intro ?_ (Ext.refl _)
      have c2 : ¬ (0 ≤ a ∧ a ≤ 6) := by simp at c2; omega
      have : cOk (a, b) = false := by
        unfold cOk; rw [if_neg c1]; simp; omega
      rw [this]
theorem high_ok (w : Int) (a : Option Addr) (n fl : Nat) (h : Hp) (hw : 1 ≤ w) (hn : (n : Int) < 2 ^ 31) : Tri X lo 70 [.agg #[.int .i64 w, .slice a n fl]] h fun v h' => v = .int .i64 ((n : Int) / w) ∧ Ext h h' := by
  refine enter tbOk mtOk ⟨[], []⟩ 200 Try.func70 rfl rfl rfl fun hlo => ?_
  refine And.intro (by omega) ?_
  have h1 : (n : Int).tdiv w = (n : Int) / w := Int.tdiv_eq_ediv_of_nonneg (by omega)
  have h2 : 0 ≤ (n : Int) / w := Int.ediv_nonneg (by omega) (by omega)
  have h3 : (n : Int) / w ≤ n := Int.ediv_le_self _ (by omega)
  rw [h1, wr (by omega) (by omega)]
  exact ⟨rfl, Ext.refl _⟩
theorem l3Many_ok (g : Gd) (a : Option Addr) (fl : Nat) (h : Hp) (hg : gOk g = true) (hn : (g.cs.length : Int) < 2 ^ 31) : Tri X lo 54 [.agg #[.int .i64 g.w, .slice a g.cs.length fl]] h fun v h' => v = .int .i64 (many g) ∧ Ext h h' := by
  obtain ⟨h1, h2, h3⟩ := hi_ok hg
  obtain ⟨g1, g2, _⟩ := gOk_iff.1 hg
  refine enter tbOk mtOk ⟨[], [(1, [0, 1, 2, 3, 4, 5, 6], [0, 1, 0, 4, 15, 31, 63])]⟩ 200 Try.func54 rfl rfl rfl fun hlo => ?_
  refine And.intro (by kernel_rfl) ?_
  refine callP (high_ok g.w a _ fl h g1 hn) ?_
  rintro v h1 ⟨rfl, e1⟩
  refine And.intro Is.r ?_
  refine And.intro ?_ e1
  show Value.int .i64 (IntKind.i64.wrap (2 * IntKind.i64.wrap (g.w + (g.cs.length : Int) / g.w))) = _
  rw [show (g.cs.length : Int) / g.w = g.hi from rfl, wr (n := g.w + g.hi) (by omega) (by omega), wr (by omega) (by omega)]
  rfl
theorem sGridOk_ok (w : Int) (a : Option Addr) (fl : Nat) (cs : List Cl) (h : Hp) (hs : Sls h cE 2 a cs) (hn : (cs.length : Int) < 2 ^ 31) : Tri X lo 53 [.agg #[.int .i64 w, .slice a cs.length fl]] h fun v h' => v = .bool (gOk ⟨w, cs⟩) ∧ Ext h h' := by
  refine enter tbOk mtOk ⟨[], []⟩ 400 Try.func53 rfl rfl rfl fun hlo => ?_
  refine callP (l6In_ok w 1 5 h) ?_
  rintro v h1 ⟨rfl, q⟩
  subst q
  refine cnd (fun c1 => ?_) (fun c1 => ?_)
  · have c1 : ¬ (1 ≤ w ∧ w ≤ 5) := by simp at c1; omega
    refine cndT ?_
    refine cndT ?_
    refine And.intro ?_ (Ext.refl _)
    have : gOk ⟨w, cs⟩ = false := Bool.eq_false_iff.2 fun h => c1 (by have := gOk_iff.1 h; exact ⟨this.1, this.2.1⟩)
    rw [this]
  · have c1 : 1 ≤ w ∧ w ≤ 5 := by simpa using c1
    have e6 : (cs.length : Int).tmod w = (cs.length : Int) % w := Int.tmod_eq_emod_of_nonneg (by omega)
    have hq : IntKind.i64.wrap ((cs.length : Int).tdiv w) = (cs.length : Int) / w := by
      have h2 : 0 ≤ (cs.length : Int) / w := Int.ediv_nonneg (by omega) (by omega)
      have h3 : (cs.length : Int) / w ≤ cs.length := Int.ediv_le_self _ (by omega)
      rw [Int.tdiv_eq_ediv_of_nonneg (by omega), wr (by omega) (by omega)]
    refine And.intro (by omega) ?_
    refine cnd (fun c2 => ?_) (fun c2 => ?_)
    · rw [e6] at c2
      have c2 : ¬ (cs.length : Int) % w = 0 := by simpa using c2
      refine cndT ?_
      refine And.intro ?_ (Ext.refl _)
      have : gOk ⟨w, cs⟩ = false := Bool.eq_false_iff.2 fun h => c2 (gOk_iff.1 h).2.2.2.2.1
      rw [this]
    · rw [e6] at c2
      have c2 : (cs.length : Int) % w = 0 := by simpa using c2
      refine And.intro (by omega) ?_
      refine callP (l6In_ok _ 1 5 _) ?_
      rintro v h2 ⟨rfl, q⟩
      subst q
      rw [hq]
      have hmul : w * ((cs.length : Int) / w) = cs.length := by
        have := Int.mul_ediv_add_emod (cs.length : Int) w
        omega
      have hc5 : w = 1 ∨ w = 2 ∨ w = 3 ∨ w = 4 ∨ w = 5 := by omega
      refine cnd (fun c3 => ?_) (fun c3 => ?_)
      · have c3 : ¬ (1 ≤ (cs.length : Int) / w ∧ (cs.length : Int) / w ≤ 5) := by simp at c3; omega
        refine And.intro ?_ (Ext.refl _)
        have : gOk ⟨w, cs⟩ = false := Bool.eq_false_iff.2 fun h => c3 (by
          have := (hi_ok h); exact ⟨this.1, this.2.1⟩)
        rw [this]
      · have c3 : 1 ≤ (cs.length : Int) / w ∧ (cs.length : Int) / w ≤ 5 := by simpa using c3
        have hg : gOk ⟨w, cs⟩ = cs.all cOk := by
          have k1 : cs.length ≠ 0 := by intro e; rw [e] at c3; simp at c3
          have k2 : (cs.length : Int) ≤ w * 5 := by rcases hc5 with rfl | rfl | rfl | rfl | rfl <;> omega
          simp [gOk, c1, c2, k1, k2]
        refine loop (σ := Nat) tbOk mtOk ⟨[], []⟩ (fun i => [(3, .v (.int .i64 (i : Int))), (1, .l 0 0)]) (fun _ => [[.int .i64 w, .slice a cs.length fl]]) (fun i h' => i ≤ cs.length ∧ Ext h2 h' ∧ ∀ j, j < i → ∀ c, cs[j]? = some c → cOk c = true) (fun i => cs.length - i) 300 0 (fun _ => rfl) ⟨rfl, rfl, trivial⟩ ⟨rfl, trivial⟩ ⟨by omega, Ext.refl _, fun j hj => by omega⟩ (fun i h' hI again => ?_)
        obtain ⟨i1, i2, i3⟩ := hI
        refine cnd (fun c6 => ?_) (fun c6 => ?_)
        · have hi : i < cs.length := by simpa using c6
          obtain ⟨ad, rfl⟩ := hs.some hi
          refine And.intro ⟨by omega, by omega⟩ ?_
          refine ⟨_, (hs.ext i2).ld (fun _ => rfl) hi, ?_⟩
          refine callP (sCellOk_ok _ _ _) ?_
          rintro v h'' ⟨rfl, e⟩
          refine cnd (fun c7 => ?_) (fun c7 => ?_)
          · have c7 : cOk cs[i] = false := by simpa using c7
            refine ⟨?_, i2.trans e⟩
            rw [hg, eq_comm]
            refine congrArg _ (Bool.eq_false_iff.2 fun hall => ?_)
            have := (List.all_eq_true.1 hall) cs[i] (List.getElem_mem hi)
            rw [this] at c7; cases c7
          · have c7 : cOk cs[i] = true := by simpa using c7
            refine again (i + 1) _ _ _ (by omega) ⟨?_, rfl, trivial⟩ ⟨rfl, trivial⟩ ⟨by omega, i2.trans e, fun j hj c hc => ?_⟩
            · show some (Sl.v (.int .i64 (IntKind.i64.wrap ((i : Int) + 1)))) = _
              rw [wr (by omega) (by omega)]; rfl
            · rcases Nat.lt_or_ge j i with h1 | h1
              · exact i3 j h1 c hc
              · have : j = i := by omega
                subst this
                rw [List.getElem?_eq_getElem hi] at hc; cases hc; exact c7
        · have hi : ¬ i < cs.length := by simpa using c6
          refine ⟨?_, i2⟩
          rw [hg, eq_comm]
          refine congrArg _ (List.all_eq_true.2 fun c hc => ?_)
          obtain ⟨j, hj⟩ := List.mem_iff_getElem?.1 hc
          exact i3 j (by have := (List.getElem?_eq_some_iff.1 hj).1; omega) c hj
end Go.Proofs.Ytgcbfhdlfajemaa.Id
/- Contracts over the ideal memory: spec's sights. -/
namespace Go.Proofs.Ytgcbfhdlfajemaa.Id
open Go.Id
open Go.Proofs
set_option linter.unusedVariables false
set_option maxRecDepth 100000
variable {X : Ctx Try.prog} {lo : Nat}
theorem til_get {F : Nat → Cl} {n i : Nat} (h : i < n) : (til F n)[i]? = some (F i) := by simp [til, h]
/-- The rays by number. -/
theorem rays_get (w hh k : Nat) (hk : k < 2 * (w + hh)) : (rays w hh)[k]? = some (if k < w then rD k else if k < w + hh then rL w (k - w) else if k < w + hh + w then rU w hh (k - (w + hh)) else rR w hh (k - (w + hh + w))) := by
  unfold rays
  by_cases h1 : k < w
  · rw [if_pos h1, List.append_assoc, List.append_assoc, List.getElem?_append_left (by rw [til_len]; exact h1), til_get h1]
  rw [if_neg h1]
  by_cases h2 : k < w + hh
  · rw [if_pos h2, List.append_assoc, List.getElem?_append_left (by simp only [List.length_append, til_len]; exact h2), List.getElem?_append_right (by rw [til_len]; omega), til_len, til_get (by omega)]
  rw [if_neg h2]
  by_cases h3 : k < w + hh + w
  · rw [if_pos h3, List.getElem?_append_left (by simp only [List.length_append, til_len]; exact h3), List.getElem?_append_right (by simp [til_len]; omega)]
    simp only [List.length_append, til_len]
    rw [til_get (by omega)]
  · rw [if_neg h3, List.getElem?_append_right (by simp [til_len]; omega)]
    simp only [List.length_append, til_len]
    rw [til_get (by omega)]
theorem l2Back_ok (d : Int) (h : Hp) (hd : 0 ≤ d ∧ d ≤ 3) : Tri X lo 114 [.int .i64 d] h fun v h' => v = .int .i64 ((d + 2) % 4) ∧ Ext h h' := by
  refine enter tbOk mtOk ⟨[], []⟩ 400 Try.func114 rfl rfl rfl fun hlo => ?_
  refine And.intro (by decide) ?_
  rw [wr (n := d + 2) (by omega) (by omega), Int.tmod_eq_emod_of_nonneg (by omega)]
  exact ⟨rfl, Ext.refl _⟩
theorem l3Ray_ok (w hh k : Nat) (a : Option Addr) (n fl : Nat) (h : Hp) (hw : 1 ≤ w ∧ w ≤ 5) (hh1 : 1 ≤ hh ∧ hh ≤ 5) (hn : (n : Int) = (w : Int) * hh) (hk : k < 2 * (w + hh)) : Tri X lo 55 [.agg #[.int .i64 (w : Int), .slice a n fl], .int .i64 (k : Int)] h fun v h' => (∃ r, (rays w hh)[k]? = some r ∧ v = .agg #[.int .i64 r.1, .int .i64 r.2]) ∧ Ext h h' := by
  refine enter tbOk mtOk ⟨[], []⟩ 400 Try.func55 rfl rfl rfl fun hlo => ?_
  have q5 := prod5 (i := hh) (w := w) (by omega) (by omega)
  rw [Int.mul_comm] at q5
  refine callP (high_ok w a n fl h (by omega) (by omega)) ?_
  rintro v h1 ⟨rfl, e1⟩
  have hd : (n : Int) / w = hh := by rw [hn]; exact Int.mul_ediv_cancel_left _ (by omega)
  rw [hd]
  have w1 : IntKind.i64.wrap ((k : Int) - w) = (k : Int) - w := wr (by omega) (by omega)
  have w2 : IntKind.i64.wrap (IntKind.i64.wrap ((k : Int) - w) - hh) = (k : Int) - w - hh := by rw [w1]; exact wr (by omega) (by omega)
  have w3 : IntKind.i64.wrap ((n : Int) - 1) = (n : Int) - 1 := wr (by omega) (by omega)
  refine cnd (fun c1 => ?_) (fun c1 => ?_)
  · have c1 : k < w := by simpa using c1
    exact And.intro ⟨rD k, by rw [rays_get w hh k hk, if_pos c1], rfl⟩ e1
  · have c1 : ¬ k < w := by simpa using c1
    refine cnd (fun c2 => ?_) (fun c2 => ?_)
    · rw [w1] at c2
      have c2 : k < w + hh := by simp at c2; omega
      refine And.intro ⟨rL w (k - w), by rw [rays_get w hh k hk, if_neg c1, if_pos c2], ?_⟩ e1
      show Value.agg #[.int .i64 (IntKind.i64.wrap (IntKind.i64.wrap (IntKind.i64.wrap (IntKind.i64.wrap ((k : Int) - w) * w) + w) - 1)), .int .i64 3] = .agg #[.int .i64 (((k - w : Nat) : Int) * w + w - 1), .int .i64 3]
      have p1 := prod5 (i := k - w) (w := w) (by omega) (by omega)
      have ek : ((k - w : Nat) : Int) = (k : Int) - w := by omega
      rw [ek] at p1 ⊢
      rw [w1, wr (n := ((k : Int) - w) * w) (by omega) (by omega), wr (n := ((k : Int) - w) * w + w) (by omega) (by omega), wr (by omega) (by omega)]
    · rw [w1] at c2
      have c2 : ¬ k < w + hh := by simp at c2; omega
      refine cnd (fun c3 => ?_) (fun c3 => ?_)
      · rw [w2] at c3
        have c3 : k < w + hh + w := by simp at c3; omega
        refine And.intro ⟨rU w hh (k - (w + hh)), by rw [rays_get w hh k hk, if_neg c1, if_neg c2, if_pos c3], ?_⟩ e1
        show Value.agg #[.int .i64 (IntKind.i64.wrap (IntKind.i64.wrap ((n : Int) - 1) - IntKind.i64.wrap (IntKind.i64.wrap ((k : Int) - w) - hh))), .int .i64 0] = .agg #[.int .i64 ((hh : Int) * w - 1 - ((k - (w + hh) : Nat) : Int)), .int .i64 0]
        rw [w2, w3, wr (by omega) (by omega), Int.mul_comm (hh : Int), ← hn]
        congr 4; omega
      · rw [w2] at c3
        have c3 : ¬ k < w + hh + w := by simp at c3; omega
        refine And.intro ⟨rR w hh (k - (w + hh + w)), by rw [rays_get w hh k hk, if_neg c1, if_neg c2, if_neg c3], ?_⟩ e1
        show Value.agg #[.int .i64 (IntKind.i64.wrap (IntKind.i64.wrap (IntKind.i64.wrap (IntKind.i64.wrap ((n : Int) - 1) - w) + 1) - IntKind.i64.wrap (IntKind.i64.wrap (IntKind.i64.wrap (IntKind.i64.wrap ((k : Int) - w) - hh) - w) * w))), .int .i64 1] = .agg #[.int .i64 (((hh : Int) - 1 - ((k - (w + hh + w) : Nat) : Int)) * w), .int .i64 1]
        have p1 := prod5 (i := k - (w + hh + w)) (w := w) (by omega) (by omega)
        have ek : ((k - (w + hh + w) : Nat) : Int) = (k : Int) - w - hh - w := by omega
        rw [ek] at p1 ⊢
        rw [w2, w3, wr (n := (k : Int) - w - hh - w) (by omega) (by omega), wr (n := ((k : Int) - w - hh - w) * w) (by omega) (by omega), wr (n := (n : Int) - 1 - w) (by omega) (by omega), wr (n := (n : Int) - 1 - w + 1) (by omega) (by omega), wr (by omega) (by omega)]
        have hz : ((hh : Int) - 1 - ((k : Int) - w - hh - w)) * w = (n : Int) - w - ((k : Int) - w - hh - w) * w := by
          rw [Int.sub_mul ((hh : Int) - 1), Int.sub_mul (hh : Int) 1, Int.one_mul, Int.mul_comm (hh : Int), ← hn]
        rw [hz]
        congr 4; omega
end Go.Proofs.Ytgcbfhdlfajemaa.Id
/- Light's walk in a grid that is turned by a quarter, or seen in a mirror. No program in sight. -/
namespace Go.Proofs.Ytgcbfhdlfajemaa.Tr
set_option linter.unusedVariables false
/-- The kind of a cell in a grid that is turned, or seen in a mirror. -/
def swp (k : Int) : Int := if k = 2 then 3 else if k = 3 then 2 else if k = 4 then 5 else if k = 5 then 4 else k
def mp (π σ : Int → Int) (e : V) : V := (e.1, if e.1 = 0 then σ e.2.1 else π e.2.1, e.2.2)
/-- What a symmetry is asked. -/
structure Sym (w n : Int) (kd : Int → Int) (sg : Int → Int → Int) (w' n' : Int) (kd' : Int → Int) (sg' : Int → Int → Int) (π δ σ : Int → Int) : Prop where
  inn : ∀ a, 0 ≤ a ∧ a < n → 0 ≤ π a ∧ π a < n'
  dir : ∀ d, 0 ≤ d ∧ d ≤ 3 → 0 ≤ δ d ∧ δ d ≤ 3
  kind : ∀ a, 0 ≤ a ∧ a < n → kd' (π a) = swp (kd a)
  next : ∀ a d, Ok n (a, d) → nxt w' n' (π a) (δ d) = (nxt w n a d).map π
  turn : ∀ k d, 0 ≤ d ∧ d ≤ 3 → dirT (swp k) (δ d) = δ (dirT k d)
  out : ∀ a d, Ok n (a, d) → nxt w n a d = none → sg' (π a) (δ d) = σ (sg a d)
section
variable {w n : Int} {kd : Int → Int} {sg : Int → Int → Int} {w' n' : Int} {kd' : Int → Int} {sg' : Int → Int → Int} {π δ σ : Int → Int}
theorem swp_1 {k : Int} : swp k = 1 ↔ k = 1 := by unfold swp; repeat' split <;> omega
theorem swp_7 {k : Int} : swp k = 7 ↔ k = 7 := by unfold swp; repeat' split <;> omega
theorem swp_6 {k : Int} : swp k = 6 ↔ k = 6 := by unfold swp; repeat' split <;> omega
theorem swp_45 {k : Int} : (swp k = 4 ∨ swp k = 5) ↔ (k = 4 ∨ k = 5) := by unfold swp; repeat' split <;> omega
theorem mp_en (k a wt : Int) (hk : k ≠ 0) : (en k a wt).map (mp π σ) = en k (π a) wt := by
  unfold en
  by_cases h : wt > 0
  · rw [if_pos h, if_pos h]; simp [mp, hk]
  · rw [if_neg h, if_neg h]; rfl
theorem go_map (hw : 1 ≤ w) (hn : n % w = 0) (S : Sym w n kd sg w' n' kd' sg' π δ σ) (q : Nat) (a d wt : Int) (t : Tr) (ho : Ok n (a, d)) (h : go w n kd sg q a d wt = some t) :
    ∃ q' t', go w' n' kd' sg' q' (π a) (δ d) wt = some t' ∧ t'.2 = t.2.map (mp π σ) := by
  refine go_ind (kd := kd) (sg := sg) hw hn
    (fun a d wt t => ∃ q' t', go w' n' kd' sg' q' (π a) (δ d) wt = some t' ∧ t'.2 = t.2.map (mp π σ))
    (fun a d wt t => Ok n (a, d) → ∃ q' t', lv w' n' sg' (go w' n' kd' sg' q') (π a) (δ d) wt = some t' ∧ t'.2 = t.2.map (mp π σ))
    ?_ ?_ ?_ ?_ ?_ ?_ ?_ ?_ ?_ q a d wt t ho h
  · intro a d; exact ⟨1, ([], []), by rw [go, if_pos rfl], rfl⟩
  · intro a d _; exact ⟨1, ([], []), by unfold lv; rw [if_pos rfl], rfl⟩
  · intro a d wt ho hz k1 k7 hx _
    refine ⟨1, ([], [(0, σ (sg a d), wt)]), ?_, by simp [mp]⟩
    unfold lv
    rw [if_neg hz, S.next a d ho, hx, Option.map_none]
    simp only
    rw [S.out a d ho hx]
  · intro a d wt a' t ho hz hx ho' hM _
    obtain ⟨q', t', ht', e⟩ := hM
    refine ⟨q', t', ?_, e⟩
    unfold lv
    rw [if_neg hz, S.next a d ho, hx, Option.map_some]
    exact ht'
  · intro a d wt ho hz hk
    refine ⟨1, ([(π a, δ d, wt)], [(1, π a, wt)]), by rw [go, if_neg hz, if_pos (by rw [S.kind a ho.1]; exact swp_1.2 hk)], by simp [mp]⟩
  · intro a d wt ho hz hk
    have e := S.kind a ho.1
    refine ⟨1, ([(π a, δ d, wt)], [(2, π a, wt)]), by rw [go, if_neg hz, if_neg (by rw [e, swp_1]; omega), if_pos (by rw [e]; exact swp_7.2 hk)], by simp [mp]⟩
  · intro a d wt t ho hz hk hL
    have e := S.kind a ho.1
    obtain ⟨q', t', ht', f⟩ := hL ho
    refine ⟨q' + 1, _, by rw [go, if_neg hz, if_neg (by rw [e, swp_1]; omega), if_neg (by rw [e, swp_7]; omega), if_pos (by rw [e]; exact swp_6.2 hk), ht', Option.bind_some], ?_⟩
    simp only [List.map_append, f, mp_en 3 a _ (by decide)]
  · intro a d wt t u ho hz hk hL hR
    have e := S.kind a ho.1
    have hT := S.turn (kd a) d ho.2
    rw [← e] at hT
    obtain ⟨q1, t1, ht1, f1⟩ := hL ho
    obtain ⟨q2, t2, ht2, f2⟩ := hR ⟨ho.1, dirT_ok ho.2⟩
    have g1 := lv_le (Nat.le_max_left q1 q2) ht1
    have g2 := lv_le (Nat.le_max_right q1 q2) ht2
    refine ⟨max q1 q2 + 1, _, by rw [go, if_neg hz, if_neg (by rw [e, swp_1]; omega), if_neg (by rw [e, swp_7]; omega), if_neg (by rw [e, swp_6]; omega), if_pos (by rw [e]; exact swp_45.2 hk), g1, Option.bind_some, hT, g2, Option.bind_some], ?_⟩
    simp only [List.map_append, f1, f2, mp_en 3 a _ (by decide)]
  · intro a d wt t ho hz hk hL
    obtain ⟨k1, k7, k6, k4⟩ := hk
    have e := S.kind a ho.1
    have hT := S.turn (kd a) d ho.2
    rw [← e] at hT
    obtain ⟨q', t', ht', f⟩ := hL ⟨ho.1, dirT_ok ho.2⟩
    refine ⟨q' + 1, ((π a, δ d, wt) :: t'.1, t'.2), by rw [go, if_neg hz, if_neg (by rw [e, swp_1]; exact k1), if_neg (by rw [e, swp_7]; exact k7), if_neg (by rw [e, swp_6]; exact k6), if_neg (by rw [e, swp_45]; exact k4), hT, ht', Option.bind_some], f⟩
/-- As much leaves at the sight that another becomes. -/
theorem outs_map (x : Int) (l : List V) (h : ∀ e ∈ l, e.1 = 0 → (σ e.2.1 = σ x ↔ e.2.1 = x)) : outs (σ x) (l.map (mp π σ)) = outs x l := by
  induction l with
  | nil => rfl
  | cons e l ih =>
    have r := ih fun e he => h e (List.mem_cons_of_mem _ he)
    simp only [List.map_cons, outs, r]
    by_cases c : e.1 = 0
    · have hh := h e (List.mem_cons_self ..) c
      simp only [mp, c, if_pos, true_and]
      by_cases cx : e.2.1 = x
      · rw [if_pos (hh.2 cx), if_pos cx]
      · rw [if_neg (fun e => cx (hh.1 e)), if_neg cx]
    · simp only [mp, c, if_false, false_and]
end
/-! ### the two symmetries, in numbers -/
def piT (w h a : Int) : Int := (a % w) * h + (h - 1 - a / w)
def deT (d : Int) : Int := (d + 1) % 4
def siT (w h k : Int) : Int := (k + h) % (2 * (w + h))
def piF (w a : Int) : Int := (a / w) * w + (w - 1 - a % w)
def deF (d : Int) : Int := if d = 1 then 3 else if d = 3 then 1 else d
def siF (w h k : Int) : Int := (w - 1 - k + 2 * (w + h)) % (2 * (w + h))
theorem deT_turn (k d : Int) (hd : 0 ≤ d ∧ d ≤ 3) : dirT (swp k) (deT d) = deT (dirT k d) := by
  have c : d = 0 ∨ d = 1 ∨ d = 2 ∨ d = 3 := by omega
  unfold swp
  by_cases h2 : k = 2
  · subst h2; rcases c with rfl | rfl | rfl | rfl <;> decide
  by_cases h3 : k = 3
  · subst h3; rcases c with rfl | rfl | rfl | rfl <;> decide
  by_cases h4 : k = 4
  · subst h4; rcases c with rfl | rfl | rfl | rfl <;> decide
  by_cases h5 : k = 5
  · subst h5; rcases c with rfl | rfl | rfl | rfl <;> decide
  rw [if_neg h2, if_neg h3, if_neg h4, if_neg h5]
  unfold dirT
  rw [if_neg (by omega), if_neg (by omega), if_neg (by omega), if_neg (by omega)]
theorem deF_turn (k d : Int) (hd : 0 ≤ d ∧ d ≤ 3) : dirT (swp k) (deF d) = deF (dirT k d) := by
  have c : d = 0 ∨ d = 1 ∨ d = 2 ∨ d = 3 := by omega
  unfold swp
  by_cases h2 : k = 2
  · subst h2; rcases c with rfl | rfl | rfl | rfl <;> decide
  by_cases h3 : k = 3
  · subst h3; rcases c with rfl | rfl | rfl | rfl <;> decide
  by_cases h4 : k = 4
  · subst h4; rcases c with rfl | rfl | rfl | rfl <;> decide
  by_cases h5 : k = 5
  · subst h5; rcases c with rfl | rfl | rfl | rfl <;> decide
  rw [if_neg h2, if_neg h3, if_neg h4, if_neg h5]
  unfold dirT
  rw [if_neg (by omega), if_neg (by omega), if_neg (by omega), if_neg (by omega)]
theorem rc {w h a : Int} (hw : 1 ≤ w) (a0 : 0 ≤ a) (a1 : a < w * h) : ∃ r c, a = r * w + c ∧ 0 ≤ c ∧ c < w ∧ 0 ≤ r ∧ r < h ∧ a / w = r ∧ a % w = c := by
  have e := Int.emod_add_mul_ediv a w
  have c0 := Int.emod_nonneg a (show w ≠ 0 by omega)
  have c1 := Int.emod_lt_of_pos a (show 0 < w by omega)
  have r0 : 0 ≤ a / w := Int.ediv_nonneg a0 (by omega)
  have r1 : a / w < h := Int.ediv_lt_of_lt_mul (by omega) (by rw [Int.mul_comm]; exact a1)
  exact ⟨a / w, a % w, by rw [Int.mul_comm]; omega, c0, c1, r0, r1, rfl, rfl⟩
theorem rc_div {w r c : Int} (hc : 0 ≤ c) (hc' : c < w) : (r * w + c) / w = r ∧ (r * w + c) % w = c := by
  constructor
  · rw [Int.add_comm, Int.add_mul_ediv_right _ _ (by omega), Int.ediv_eq_zero_of_lt hc hc', Int.zero_add]
  · rw [Int.add_comm, Int.add_mul_emod_self_right, Int.emod_eq_of_lt hc hc']
theorem rc_lt {w h r c : Int} (hw : 1 ≤ w) (r0 : 0 ≤ r) (r1 : r < h) (c0 : 0 ≤ c) (c1 : c < w) : 0 ≤ r * w + c ∧ r * w + c < w * h := by
  have h1 : 0 ≤ r * w := Int.mul_nonneg r0 (by omega)
  have h2 : (r + 1) * w ≤ h * w := Int.mul_le_mul_of_nonneg_right (by omega) (by omega)
  rw [Int.add_mul, Int.one_mul] at h2
  rw [Int.mul_comm w h]
  omega
/-- The next cell by its row and column. -/
theorem nxt_rc {w h r c d : Int} (hw : 1 ≤ w) (r0 : 0 ≤ r) (r1 : r < h) (c0 : 0 ≤ c) (c1 : c < w) : nxt w (w * h) (r * w + c) d =
    (if d = 0 then (if 1 ≤ r then some ((r - 1) * w + c) else none) else if d = 1 then (if c ≠ w - 1 then some (r * w + (c + 1)) else none) else if d = 2 then (if r + 1 < h then some ((r + 1) * w + c) else none) else (if c ≠ 0 then some (r * w + (c - 1)) else none)) := by
  have e := (rc_div (r := r) c0 c1).2
  unfold nxt
  have hr : (r * w + c ≥ w ↔ 1 ≤ r) := by
    constructor
    · intro hh
      rcases Int.lt_or_le r 1 with q | q
      · have : r = 0 := by omega
        subst this; omega
      · exact q
    · intro q
      have := Int.mul_le_mul_of_nonneg_right q (show 0 ≤ w by omega)
      omega
  have hr2 : (r * w + c + w < w * h ↔ r + 1 < h) := by
    constructor
    · intro hh
      rcases Int.lt_or_le (r + 1) h with q | q
      · exact q
      · have hh' : r + 1 = h := by omega
        rw [← hh', Int.mul_comm w, Int.add_mul, Int.one_mul] at hh
        omega
    · intro q
      have := (rc_lt (h := h) (r := r + 1) (c := c) hw (by omega) q c0 c1).2
      rw [Int.add_mul, Int.one_mul] at this; omega
  rw [e]
  by_cases d0 : d = 0
  · rw [if_pos d0, if_pos d0]
    by_cases q : 1 ≤ r
    · rw [if_pos (hr.2 q), if_pos q, Int.sub_mul, Int.one_mul]; congr 1; omega
    · rw [if_neg (fun x => q (hr.1 x)), if_neg q]
  rw [if_neg d0, if_neg d0]
  by_cases d1 : d = 1
  · rw [if_pos d1, if_pos d1]
    by_cases q : c ≠ w - 1
    · rw [if_pos q, if_pos q]; congr 1; omega
    · rw [if_neg q, if_neg q]
  rw [if_neg d1, if_neg d1]
  by_cases d2 : d = 2
  · rw [if_pos d2, if_pos d2]
    by_cases q : r + 1 < h
    · rw [if_pos (hr2.2 q), if_pos q, Int.add_mul, Int.one_mul]; congr 1; omega
    · rw [if_neg (fun x => q (hr2.1 x)), if_neg q]
  rw [if_neg d2, if_neg d2]
  by_cases q : c ≠ 0
  · rw [if_pos q, if_pos q]; congr 1; omega
  · rw [if_neg q, if_neg q]
theorem piT_rc {w h r c : Int} (c0 : 0 ≤ c) (c1 : c < w) : piT w h (r * w + c) = c * h + (h - 1 - r) := by
  unfold piT; rw [(rc_div c0 c1).1, (rc_div c0 c1).2]
theorem piF_rc {w r c : Int} (c0 : 0 ≤ c) (c1 : c < w) : piF w (r * w + c) = r * w + (w - 1 - c) := by
  unfold piF; rw [(rc_div c0 c1).1, (rc_div c0 c1).2]
section
variable {w h r c : Int} (hw : 1 ≤ w) (r0 : 0 ≤ r) (r1 : r < h) (c0 : 0 ≤ c) (c1 : c < w)
include hw r0 r1 c0 c1
theorem nxt_0 : nxt w (w * h) (r * w + c) 0 = if 1 ≤ r then some ((r - 1) * w + c) else none := by rw [nxt_rc hw r0 r1 c0 c1, if_pos rfl]
theorem nxt_1 : nxt w (w * h) (r * w + c) 1 = if c ≠ w - 1 then some (r * w + (c + 1)) else none := by rw [nxt_rc hw r0 r1 c0 c1, if_neg (by decide), if_pos rfl]
theorem nxt_2 : nxt w (w * h) (r * w + c) 2 = if r + 1 < h then some ((r + 1) * w + c) else none := by rw [nxt_rc hw r0 r1 c0 c1, if_neg (by decide), if_neg (by decide), if_pos rfl]
theorem nxt_3 : nxt w (w * h) (r * w + c) 3 = if c ≠ 0 then some (r * w + (c - 1)) else none := by rw [nxt_rc hw r0 r1 c0 c1, if_neg (by decide), if_neg (by decide), if_neg (by decide)]
end
theorem ite_map {p q : Prop} [Decidable p] [Decidable q] {x y : Int} {f : Int → Int} (h : p ↔ q) (e : q → x = f y) : (if p then some x else none) = (if q then some y else none).map f := by
  by_cases c : q
  · rw [if_pos (h.2 c), if_pos c, Option.map_some, e c]
  · rw [if_neg (fun x => c (h.1 x)), if_neg c]; rfl
theorem next_T {w h a d : Int} (hw : 1 ≤ w) (hh : 1 ≤ h) (ho : Ok (w * h) (a, d)) : nxt h (w * h) (piT w h a) (deT d) = (nxt w (w * h) a d).map (piT w h) := by
  have a0 : 0 ≤ a ∧ a < w * h := ho.1
  obtain ⟨r, c, rfl, c0, c1, r0, r1, _, _⟩ := rc hw a0.1 a0.2
  have hd : 0 ≤ d ∧ d ≤ 3 := ho.2
  have cd : d = 0 ∨ d = 1 ∨ d = 2 ∨ d = 3 := by omega
  have e : nxt h (w * h) = nxt h (h * w) := by rw [Int.mul_comm]
  rw [piT_rc c0 c1, e]
  rcases cd with rfl | rfl | rfl | rfl
  · rw [show deT 0 = 1 from rfl, nxt_1 hh c0 c1 (by omega) (by omega), nxt_0 hw r0 r1 c0 c1]
    exact ite_map (by omega) (fun q => by rw [piT_rc c0 c1]; omega)
  · rw [show deT 1 = 2 from rfl, nxt_2 hh c0 c1 (by omega) (by omega), nxt_1 hw r0 r1 c0 c1]
    exact ite_map (by omega) (fun q => by rw [piT_rc (by omega) (by omega)])
  · rw [show deT 2 = 3 from rfl, nxt_3 hh c0 c1 (by omega) (by omega), nxt_2 hw r0 r1 c0 c1]
    exact ite_map (by omega) (fun q => by rw [piT_rc c0 c1]; omega)
  · rw [show deT 3 = 0 from rfl, nxt_0 hh c0 c1 (by omega) (by omega), nxt_3 hw r0 r1 c0 c1]
    exact ite_map (by omega) (fun q => by rw [piT_rc (by omega) (by omega)])
theorem next_F {w h a d : Int} (hw : 1 ≤ w) (ho : Ok (w * h) (a, d)) : nxt w (w * h) (piF w a) (deF d) = (nxt w (w * h) a d).map (piF w) := by
  have a0 : 0 ≤ a ∧ a < w * h := ho.1
  obtain ⟨r, c, rfl, c0, c1, r0, r1, _, _⟩ := rc hw a0.1 a0.2
  have hd : 0 ≤ d ∧ d ≤ 3 := ho.2
  have cd : d = 0 ∨ d = 1 ∨ d = 2 ∨ d = 3 := by omega
  rw [piF_rc c0 c1]
  rcases cd with rfl | rfl | rfl | rfl
  · rw [show deF 0 = 0 from rfl, nxt_0 hw r0 r1 (by omega) (by omega), nxt_0 hw r0 r1 c0 c1]
    exact ite_map Iff.rfl (fun q => by rw [piF_rc c0 c1])
  · rw [show deF 1 = 3 from rfl, nxt_3 hw r0 r1 (by omega) (by omega), nxt_1 hw r0 r1 c0 c1]
    exact ite_map (by omega) (fun q => by rw [piF_rc (by omega) (by omega)]; omega)
  · rw [show deF 2 = 2 from rfl, nxt_2 hw r0 r1 (by omega) (by omega), nxt_2 hw r0 r1 c0 c1]
    exact ite_map Iff.rfl (fun q => by rw [piF_rc c0 c1])
  · rw [show deF 3 = 1 from rfl, nxt_1 hw r0 r1 (by omega) (by omega), nxt_3 hw r0 r1 c0 c1]
    exact ite_map (by omega) (fun q => by rw [piF_rc (by omega) (by omega)]; omega)
theorem piT_in {w h a : Int} (hw : 1 ≤ w) (hh : 1 ≤ h) (ha : 0 ≤ a ∧ a < w * h) : 0 ≤ piT w h a ∧ piT w h a < w * h := by
  obtain ⟨r, c, rfl, c0, c1, r0, r1, _, _⟩ := rc hw ha.1 ha.2
  rw [piT_rc c0 c1, Int.mul_comm w h]
  exact rc_lt hh c0 c1 (by omega) (by omega)
theorem piF_in {w h a : Int} (hw : 1 ≤ w) (ha : 0 ≤ a ∧ a < w * h) : 0 ≤ piF w a ∧ piF w a < w * h := by
  obtain ⟨r, c, rfl, c0, c1, r0, r1, _, _⟩ := rc hw ha.1 ha.2
  rw [piF_rc c0 c1]
  exact rc_lt hw r0 r1 (by omega) (by omega)
theorem mod_two {m x : Int} (h0 : 0 ≤ x) (h1 : x < 2 * m) : x % m = if x < m then x else x - m := by
  by_cases c : x < m
  · rw [if_pos c, Int.emod_eq_of_lt h0 c]
  · rw [if_neg c, ← Int.emod_eq_of_lt (a := x - m) (b := m) (by omega) (by omega), Int.sub_emod_right]
theorem siT_eq {w h k : Int} (hw : 1 ≤ w) (hh : 1 ≤ h) (k0 : 0 ≤ k) (k1 : k < 2 * (w + h)) : siT w h k = if k + h < 2 * (w + h) then k + h else k + h - 2 * (w + h) := by
  unfold siT; exact mod_two (by omega) (by omega)
theorem siF_eq {w h k : Int} (hw : 1 ≤ w) (hh : 1 ≤ h) (k0 : 0 ≤ k) (k1 : k < 2 * (w + h)) : siF w h k = if k ≤ w - 1 then w - 1 - k else w - 1 - k + 2 * (w + h) := by
  unfold siF; rw [mod_two (by omega) (by omega)]
  by_cases c : k ≤ w - 1
  · rw [if_pos c, if_neg (by omega)]; omega
  · rw [if_neg c, if_pos (by omega)]
theorem siT_in {w h k : Int} (hw : 1 ≤ w) (hh : 1 ≤ h) (k0 : 0 ≤ k) (k1 : k < 2 * (w + h)) : 0 ≤ siT w h k ∧ siT w h k < 2 * (w + h) := by
  rw [siT_eq hw hh k0 k1]; split <;> omega
theorem siF_in {w h k : Int} (hw : 1 ≤ w) (hh : 1 ≤ h) (k0 : 0 ≤ k) (k1 : k < 2 * (w + h)) : 0 ≤ siF w h k ∧ siF w h k < 2 * (w + h) := by
  rw [siF_eq hw hh k0 k1]; split <;> omega
theorem siT_inj {w h k m : Int} (hw : 1 ≤ w) (hh : 1 ≤ h) (k0 : 0 ≤ k) (k1 : k < 2 * (w + h)) (m0 : 0 ≤ m) (m1 : m < 2 * (w + h)) : siT w h k = siT w h m ↔ k = m := by
  rw [siT_eq hw hh k0 k1, siT_eq hw hh m0 m1]; split <;> split <;> omega
theorem siF_inj {w h k m : Int} (hw : 1 ≤ w) (hh : 1 ≤ h) (k0 : 0 ≤ k) (k1 : k < 2 * (w + h)) (m0 : 0 ≤ m) (m1 : m < 2 * (w + h)) : siF w h k = siF w h m ↔ k = m := by
  rw [siF_eq hw hh k0 k1, siF_eq hw hh m0 m1]; split <;> split <;> omega
theorem deT_back (d : Int) : deT ((d + 2) % 4) = (deT d + 2) % 4 := by unfold deT; omega
theorem deF_back {d : Int} (hd : 0 ≤ d ∧ d ≤ 3) : deF ((d + 2) % 4) = (deF d + 2) % 4 := by
  have c : d = 0 ∨ d = 1 ∨ d = 2 ∨ d = 3 := by omega
  rcases c with rfl | rfl | rfl | rfl <;> rfl
end Go.Proofs.Ytgcbfhdlfajemaa.Tr
/- Contracts over the ideal memory: spec's sights, its next cell, its mirrors. -/
namespace Go.Proofs.Ytgcbfhdlfajemaa.Id
open Go.Id
open Go.Proofs
set_option linter.unusedVariables false
set_option maxRecDepth 100000
variable {X : Ctx Try.prog} {lo : Nat}
theorem many_nat' {g : Gd} {w hh : Nat} (h1 : g.w = w) (h2 : g.hi = hh) : many g = 2 * ((w : Int) + hh) := by unfold many; rw [h1, h2]
theorem rays_nodup {w hh : Nat} (hw : 1 ≤ w ∧ w ≤ 5) (hh1 : 1 ≤ hh ∧ hh ≤ 5) : (rays w hh).Nodup := by
  have : ∀ w : Fin 5, ∀ hh : Fin 5, (rays (w.val + 1) (hh.val + 1)).Nodup := by decide +kernel
  have := this ⟨w - 1, by omega⟩ ⟨hh - 1, by omega⟩
  simp only at this
  rwa [Nat.sub_add_cancel hw.1, Nat.sub_add_cancel hh1.1] at this
theorem lastIx_none {x : Cl} (l : List Cl) (h : ∀ y ∈ l, y ≠ x) : lastIx l x = -1 := by
  have : ∀ (l : List Cl) (p : Nat × Int), (∀ y ∈ l, y ≠ x) → (l.foldl (fun (p : Nat × Int) y => (p.1 + 1, if y = x then (p.1 : Int) else p.2)) p).2 = p.2 := by
    intro l
    induction l with
    | nil => intro p _; rfl
    | cons y l ih => intro p h; rw [List.foldl_cons, ih _ fun z hz => h z (by simp [hz])]; simp [h y (by simp)]
  exact this l (0, -1) h
theorem lastIx_at {x : Cl} {l : List Cl} (hd : l.Nodup) {k : Nat} (h : l[k]? = some x) : lastIx l x = k := by
  obtain ⟨hk, he⟩ := List.getElem?_eq_some_iff.1 h
  have e : l = (l.take k ++ [x]) ++ l.drop (k + 1) := by
    rw [← he, ← List.take_succ_eq_append_getElem hk, List.take_append_drop]
  rw [e] at hd
  have hnot : ∀ y ∈ l.drop (k + 1), y ≠ x := fun y hy e' => by
    subst e'
    exact (List.nodup_append.1 hd).2.2 y (by simp) y hy rfl
  have key : ∀ (m l : List Cl), (∀ y ∈ m, y ≠ x) → lastIx (l ++ m) x = lastIx l x := by
    intro m
    induction m with
    | nil => intro l _; rw [List.append_nil]
    | cons y m ih =>
      intro l h
      rw [show l ++ y :: m = (l ++ [y]) ++ m from by simp, ih _ fun z hz => h z (by simp [hz]), lastIx_snoc, if_neg (h y (by simp))]
  rw [e, key _ _ hnot, lastIx_snoc, if_pos rfl, List.length_take, Nat.min_eq_left (Nat.le_of_lt hk)]
theorem l3Of_ok (g : Gd) (at_ d : Int) (ad : Option Addr) (fl : Nat) (h : Hp) (hg : gOk g = true) (hd : 0 ≤ d ∧ d ≤ 3) : Tri X lo 99 [.agg #[.int .i64 g.w, .slice ad g.cs.length fl], .int .i64 at_, .int .i64 d] h fun v h' => v = .int .i64 (sightOf g at_ d) ∧ Ext h h' := by
  refine enter tbOk mtOk ⟨[], []⟩ 400 Try.func99 rfl rfl rfl fun hlo => ?_
  obtain ⟨w, hh, q1, q2, q3, q4, q5⟩ := gOk_nat hg
  have p5 := prod5 (i := hh) (w := w) (by omega) (by omega)
  rw [Int.mul_comm] at p5
  have hm := many_nat' q1 q2
  have hsr : sideRays g = rays w hh := by unfold sideRays; rw [q1, q2]; rfl
  have hso : sightOf g at_ d = lastIx (rays w hh) (at_, (d + 2) % 4) := by unfold sightOf; rw [if_pos ⟨hg, hd⟩, hsr]
  have hlen : (rays w hh).length = 2 * (w + hh) := by have := sideRays_len hg; rw [hsr, hm] at this; omega
  have hro := rays_ok q3 q4
  refine loop (σ := Nat) tbOk mtOk ⟨[], []⟩ (fun k => [(7, .v (.int .i64 (k : Int))), (3, .l 0 0), (1, .v (.int .i64 at_)), (2, .v (.int .i64 d))]) (fun _ => [[.int .i64 g.w, .slice ad g.cs.length fl]]) (fun k h' => k ≤ 2 * (w + hh) ∧ Ext h h' ∧ ∀ j < k, (rays w hh)[j]? ≠ some (at_, (d + 2) % 4)) (fun k => 2 * (w + hh) - k) 400 0 (fun _ => rfl) ⟨rfl, rfl, rfl, rfl, trivial⟩ ⟨rfl, trivial⟩ ⟨by omega, Ext.refl _, fun j hj => by omega⟩ (fun k h' hI again => ?_)
  obtain ⟨i1, i2, i3⟩ := hI
  refine callP (l3Many_ok g ad fl h' hg (by omega)) ?_
  rintro v h1 ⟨rfl, e1⟩
  refine cnd (fun c1 => ?_) (fun c1 => ?_)
  · have c1 : (k : Int) < many g := by simpa using c1
    rw [hm] at c1
    have S := l3Ray_ok (X := X) (lo := lo) w hh k ad g.cs.length fl h1 q3 q4 q5 (by omega)
    rw [← q1] at S
    refine callP S ?_
    rintro v h2 ⟨⟨r, hr, rfl⟩, e2⟩
    have hrm := hro r (List.mem_of_getElem? hr)
    have e3 := (i2.trans e1).trans e2
    have next : r ≠ (at_, (d + 2) % 4) → ∀ j < k + 1, (rays w hh)[j]? ≠ some (at_, (d + 2) % 4) := fun hne j hj => by
      by_cases hjk : j = k
      · subst hjk; rw [hr]; exact fun e => hne (Option.some.inj e)
      · exact i3 j (by omega)
    have hw1 : some (Sl.v (.int .i64 (IntKind.i64.wrap ((k : Int) + 1)))) = some (Sl.v (.int .i64 ((k + 1 : Nat) : Int))) := by rw [wr (by omega) (by omega)]; rfl
    refine cnd (fun c2 => ?_) (fun c2 => ?_)
    · have c2 : r.1 = at_ := by simpa using c2
      refine callP (l2Back_ok r.2 h2 hrm.2) ?_
      rintro v h3 ⟨rfl, e4⟩
      refine cnd (fun c3 => ?_) (fun c3 => ?_)
      · have c3 : (r.2 + 2) % 4 = d := by simpa using c3
        have hrr : r = (at_, (d + 2) % 4) := by
          obtain ⟨r1, r2⟩ := r
          simp only at c2 c3 hrm
          rw [c2]; congr 1; omega
        refine And.intro ?_ (e3.trans e4)
        show Value.int .i64 (k : Int) = _
        rw [hso, lastIx_at (rays_nodup q3 q4) (hrr ▸ hr)]
      · have c3 : (r.2 + 2) % 4 ≠ d := by simpa using c3
        refine again (k + 1) _ _ _ (by omega) ⟨hw1, rfl, rfl, rfl, trivial⟩ ⟨rfl, trivial⟩ ⟨by omega, e3.trans e4, next fun e => c3 ?_⟩
        subst e; show ((d + 2) % 4 + 2) % 4 = d; omega
    · have c2 : r.1 ≠ at_ := by simpa using c2
      refine cndF ?_
      refine again (k + 1) _ _ _ (by omega) ⟨hw1, rfl, rfl, rfl, trivial⟩ ⟨rfl, trivial⟩ ⟨by omega, e3, next fun e => c2 (by rw [e])⟩
  · have c1 : ¬ (k : Int) < many g := by simpa using c1
    rw [hm] at c1
    refine And.intro ?_ (i2.trans e1)
    rw [hso, lastIx_none]
    intro y hy e
    obtain ⟨j, hj⟩ := List.mem_iff_getElem?.1 hy
    have hjl := (List.getElem?_eq_some_iff.1 hj).1
    exact i3 j (by omega) (by rw [hj, e])
end Go.Proofs.Ytgcbfhdlfajemaa.Id
/- Contracts over the ideal memory: pictures. -/
namespace Go.Proofs.Ytgcbfhdlfajemaa.Id
open Go.Id
open Go.Proofs
set_option linter.unusedVariables false
set_option maxRecDepth 100000
variable {X : Ctx Try.prog} {lo : Nat}
/-- The first sight of each side. -/
def startsV (w hh : Int) : Value := .agg #[.int .i64 0, .int .i64 w, .int .i64 (w + hh), .int .i64 (2 * w + hh), .int .i64 (2 * (w + hh))]
def iE (x : Int) : List Value := [.int .i64 x]
/-- How much of it leaves at each sight. -/
def toRow (g : Gd) (l : List V3) : List Int := (List.range (many g).toNat).map fun (j : Nat) => Tr.outs (j : Int) l
theorem flat_iE : ∀ l : List Int, l.flatMap iE = l.map fun x => Value.int .i64 x
  | [] => rfl
  | x :: l => by rw [List.flatMap_cons, flat_iE l]; rfl
theorem gw_sls' {α : Type} {lo : Nat} {h : Hp} {enc : α → List Value} {sz : Nat} {o : Option (Nat × Nat)} {l : List α} (g : Gw lo h enc sz o l) : ∃ a fl, gv o l.length = .slice a l.length fl ∧ Sls h enc sz a l ∧ ∀ ad, a = some ad → lo ≤ ad.block := by
  match o, g with
  | none, g => exact ⟨none, 0, by rw [show l = [] from g]; rfl, g, fun _ h => by cases h⟩
  | some (b, e), g => exact ⟨_, 1, rfl, g.2.sls, fun ad h => by cases h; exact g.1⟩
theorem sls_ext1 {α : Type} {j : Nat} {h h' : Hp} (x : Ext1 j h h') {e : α → List Value} {sz : Nat} {ad : Addr} {l : List α} (s : Sls h e sz (some ad) l) (hj : ad.block ≠ j) : Sls h' e sz (some ad) l := ⟨Nat.lt_of_lt_of_le s.1 x.n, by rw [x.g _ s.1 hj]; exact s.2⟩
theorem toRow_len (g : Gd) (l : List V3) : (toRow g l).length = (many g).toNat := by simp [toRow]
theorem toRow_get {g : Gd} {l : List V3} {j : Nat} (hj : j < (toRow g l).length) : (toRow g l)[j] = Tr.outs (j : Int) l := by simp [toRow]
theorem row_st {lo : Nat} {h : Hp} {b j : Nat} {l : List Int} {x : Int} (r : Row h b 0 iE 1 l) (hlo : lo ≤ b) (hj : j < l.length) : St lo h (addA ⟨b, 0, some 0⟩ (j * 1)) [.int .i64 x] (h.set b (.cells ((l.set j x).flatMap iE) 1 0)) := by
  refine ⟨hlo, r.lt, _, 1, r.g, by simp [addA, flat_iE]; omega, ?_⟩
  simp only [addA, Nat.zero_add, Nat.mul_one, setL, flat_iE, List.map_set]
  rfl
end Go.Proofs.Ytgcbfhdlfajemaa.Id
/- Contracts over the ideal memory: spec's next cell, its mirrors. -/
namespace Go.Proofs.Ytgcbfhdlfajemaa.Id
open Go.Id
open Go.Proofs
set_option linter.unusedVariables false
set_option maxRecDepth 100000
variable {X : Ctx Try.prog} {lo : Nat}
theorem sDirTurn_ok (k d : Int) (h : Hp) (hd : 0 ≤ d ∧ d ≤ 3) : Tri X lo 73 [.int .i64 k, .int .i64 d] h fun v h' => v = .int .i64 (Tr.dirT k d) ∧ Ext h h' := by
  refine enter tbOk mtOk ⟨[], []⟩ 400 Try.func73 rfl rfl rfl fun hlo => ?_
  refine callP (l6In_ok d 0 3 h) ?_
  rintro v h1 ⟨rfl, rfl⟩
  have hc : (decide (0 ≤ d) && decide (d ≤ 3)) = true := by simp; exact hd
  refine cnd (fun c1 => by rw [hc] at c1; cases c1) (fun _ => ?_)
  have x1 : ∀ d : Int, 0 ≤ d ∧ d ≤ 3 → IntKind.i64.wrap ↑(BitVec.ofInt IntKind.i64.bits d ^^^ BitVec.ofInt IntKind.i64.bits 1).toNat = (if d = 0 then 1 else if d = 1 then 0 else if d = 2 then 3 else 2) := by
    intro d hd
    obtain rfl | rfl | rfl | rfl : d = 0 ∨ d = 1 ∨ d = 2 ∨ d = 3 := by omega
    all_goals decide
  have x2 : IntKind.i64.wrap (3 - d) = 3 - d := wr (by omega) (by omega)
  refine cnd (fun c1 => ?_) (fun c1 => ?_)
  · have c1 : k = 2 := by simpa using c1
    refine And.intro ?_ (Ext.refl _)
    rw [x1 d hd]; unfold Tr.dirT; rw [if_pos (show k = 2 ∨ k = 4 from .inl c1)]
  · have c1 : k ≠ 2 := by simpa using c1
    refine cnd (fun c2 => ?_) (fun c2 => ?_)
    · have c2 : k = 4 := by simpa using c2
      refine And.intro ?_ (Ext.refl _)
      rw [x1 d hd]; unfold Tr.dirT; rw [if_pos (show k = 2 ∨ k = 4 from .inr c2)]
    · have c2 : k ≠ 4 := by simpa using c2
      refine cnd (fun c3 => ?_) (fun c3 => ?_)
      · have c3 : k = 3 := by simpa using c3
        refine And.intro ?_ (Ext.refl _)
        rw [x2]; unfold Tr.dirT; rw [if_neg (show ¬ (k = 2 ∨ k = 4) by omega), if_pos (show k = 3 ∨ k = 5 from .inl c3)]
      · have c3 : k ≠ 3 := by simpa using c3
        refine cnd (fun c4 => ?_) (fun c4 => ?_)
        · have c4 : k = 5 := by simpa using c4
          refine And.intro ?_ (Ext.refl _)
          rw [x2]; unfold Tr.dirT; rw [if_neg (show ¬ (k = 2 ∨ k = 4) by omega), if_pos (show k = 3 ∨ k = 5 from .inr c4)]
        · have c4 : k ≠ 5 := by simpa using c4
          refine And.intro ?_ (Ext.refl _)
          unfold Tr.dirT; rw [if_neg (show ¬ (k = 2 ∨ k = 4) by omega), if_neg (show ¬ (k = 3 ∨ k = 5) by omega)]
def dr4 (a b c e d : Int) : Int := if d = 0 then a else if d = 1 then b else if d = 2 then c else e
theorem ld4 {h : Hp} {a b c e d : Int} (hd : 0 ≤ d ∧ d ≤ 3) : Ld (h.push (.cells [.int .i64 a, .int .i64 b, .int .i64 c, .int .i64 e] 1 0)) (addA ⟨h.n, 0, some 0⟩ (d.toNat * 1)) 1 [.int .i64 (dr4 a b c e d)] := by
  have := ((Row.push (h := h) (e := 0) (enc := iE) (sz := 1) (l := [a, b, c, e])).sls fun _ => rfl).ld (fun _ => rfl) (i := d.toNat) (by simp; omega)
  obtain rfl | rfl | rfl | rfl : d = 0 ∨ d = 1 ∨ d = 2 ∨ d = 3 := by omega
  all_goals exact this
theorem nxt_by {w h r c d : Int} (hw : 1 ≤ w) (r0 : 0 ≤ r) (r1 : r < h) (c0 : 0 ≤ c) (c1 : c < w) (hd : 0 ≤ d ∧ d ≤ 3) : Tr.nxt w (w * h) (r * w + c) d =
    if (0 ≤ r + dr4 (-1) 0 1 0 d ∧ r + dr4 (-1) 0 1 0 d ≤ h - 1) ∧ (0 ≤ c + dr4 0 1 0 (-1) d ∧ c + dr4 0 1 0 (-1) d ≤ w - 1) then some ((r + dr4 (-1) 0 1 0 d) * w + (c + dr4 0 1 0 (-1) d)) else none := by
  rw [Tr.nxt_rc hw r0 r1 c0 c1]
  obtain rfl | rfl | rfl | rfl : d = 0 ∨ d = 1 ∨ d = 2 ∨ d = 3 := by omega
  · simp only [dr4, if_true]
    by_cases q : 1 ≤ r
    · rw [if_pos q, if_pos (by omega)]; congr 2; omega
    · rw [if_neg q, if_neg (by omega)]
  · simp only [dr4, if_true, show ¬ (1 : Int) = 0 from by decide, if_false]
    by_cases q : c ≠ w - 1
    · rw [if_pos q, if_pos (by omega), Int.add_zero]
    · rw [if_neg q, if_neg (by omega)]
  · simp only [dr4, if_true, show ¬ (2 : Int) = 0 from by decide, show ¬ (2 : Int) = 1 from by decide, if_false]
    by_cases q : r + 1 < h
    · rw [if_pos q, if_pos (by omega), Int.add_zero]
    · rw [if_neg q, if_neg (by omega)]
  · simp only [dr4, show ¬ (3 : Int) = 0 from by decide, show ¬ (3 : Int) = 1 from by decide, show ¬ (3 : Int) = 2 from by decide, if_false]
    by_cases q : c ≠ 0
    · rw [if_pos q, if_pos (by omega), Int.add_zero]; congr 1
    · rw [if_neg q, if_neg (by omega)]
theorem dr4_le {a b c e d : Int} (ha : -1 ≤ a ∧ a ≤ 1) (hb : -1 ≤ b ∧ b ≤ 1) (hc : -1 ≤ c ∧ c ≤ 1) (he : -1 ≤ e ∧ e ≤ 1) : -1 ≤ dr4 a b c e d ∧ dr4 a b c e d ≤ 1 := by
  unfold dr4
  split
  · exact ha
  · split
    · exact hb
    · split
      · exact hc
      · exact he
theorem l2Next_ok (g : Gd) (at_ d : Int) (ad : Option Addr) (fl : Nat) (h : Hp) (hg : gOk g = true) (ha : 0 ≤ at_ ∧ at_ < g.cs.length) (hd : 0 ≤ d ∧ d ≤ 3) : Tri X lo 98 [.agg #[.int .i64 g.w, .slice ad g.cs.length fl], .int .i64 at_, .int .i64 d] h
    fun v h' => v = (match Tr.nxt g.w g.cs.length at_ d with | some b => .tuple #[.agg #[.int .i64 b, .int .i64 d], .bool true] | none => .tuple #[.agg #[.int .i64 0, .int .i64 0], .bool false]) ∧ Ext h h' := by
  refine enter tbOk mtOk ⟨[], [(1, [0, 1, 2, 3, 5, 4, 6, 7, 8, 9], [0, 0, 2, 7, 0, 0, 48, 112, 255, 511]), (2, [0, 1, 2, 3, 5, 4, 6, 7, 8, 9], [0, 0, 2, 7, 0, 0, 48, 112, 255, 511])]⟩ 400 Try.func98 rfl rfl rfl fun hlo => ?_
  obtain ⟨w, hh, q1, q2, q3, q4, q5⟩ := gOk_nat hg
  have hw0 : g.w ≠ 0 := by omega
  refine And.intro (by kernel_rfl) ?_
  refine And.intro hw0 ?_
  refine And.intro Is.r ?_
  refine And.intro ⟨hd.1, by show d < 4; omega⟩ ?_
  refine ⟨_, ld4 hd, ?_⟩
  refine And.intro (by kernel_rfl) ?_
  refine And.intro hw0 ?_
  refine And.intro Is.r ?_
  refine And.intro ⟨hd.1, by show d < 4; omega⟩ ?_
  refine ⟨_, ld4 hd, ?_⟩
  have p5 := prod5 (i := hh) (w := w) (by omega) (by omega)
  rw [Int.mul_comm] at p5
  refine callP (high_ok g.w ad g.cs.length fl _ (by omega) (by omega)) ?_
  rintro v h1 ⟨rfl, e1⟩
  have e : Ext h h1 := ((Ext.push _ _).trans (Ext.push _ _)).trans e1
  obtain ⟨r, c, a1, a2, a3, a4, a5, a6, a7⟩ := Tr.rc (w := g.w) (h := hh) (a := at_) (by omega) ha.1 (by rw [q1, ← q5]; exact ha.2)
  have hnx := nxt_by (w := g.w) (h := hh) (by omega) a4 a5 a2 a3 hd
  rw [← a1, q1, ← q5, ← q1] at hnx
  have d1 := dr4_le (a := -1) (b := 0) (c := 1) (e := 0) (d := d) (by decide) (by decide) (by decide) (by decide)
  have d2 := dr4_le (a := 0) (b := 1) (c := 0) (e := -1) (d := d) (by decide) (by decide) (by decide) (by decide)
  generalize dr4 (-1) 0 1 0 d = dr at *
  generalize dr4 0 1 0 (-1) d = dc at *
  have hR : IntKind.i64.wrap (IntKind.i64.wrap (at_.tdiv g.w) + dr) = r + dr := by
    rw [Int.tdiv_eq_ediv_of_nonneg ha.1, a6, wr (n := r) (by omega) (by omega), wr (by omega) (by omega)]
  have hC : IntKind.i64.wrap (at_.tmod g.w + dc) = c + dc := by
    rw [Int.tmod_eq_emod_of_nonneg ha.1, a7, wr (by omega) (by omega)]
  have hH : IntKind.i64.wrap ((g.cs.length : Int) / g.w - 1) = hh - 1 := by
    have : (g.cs.length : Int) / g.w = hh := by rw [← q2]; rfl
    rw [this, wr (by omega) (by omega)]
  have hW : IntKind.i64.wrap (g.w - 1) = g.w - 1 := wr (by omega) (by omega)
  refine callP (l6In_ok _ _ _ _) ?_
  rintro v h2 ⟨rfl, rfl⟩
  rw [hnx]
  refine cnd (fun c1 => ?_) (fun c1 => ?_)
  · rw [hR, hH] at c1
    refine cndT ?_
    refine And.intro ?_ e
    rw [if_neg (by simp at c1; omega)]
    rfl
  · rw [hR, hH] at c1
    refine callP (l6In_ok _ _ _ _) ?_
    rintro v h3 ⟨rfl, rfl⟩
    refine cnd (fun c2 => ?_) (fun c2 => ?_)
    · rw [hC, hW] at c2
      refine And.intro ?_ e
      rw [if_neg (by simp at c1 c2; omega)]
      rfl
    · rw [hC, hW] at c2
      have hr : 0 ≤ r + dr ∧ r + dr ≤ hh - 1 := by simpa using c1
      have hc : 0 ≤ c + dc ∧ c + dc ≤ g.w - 1 := by simpa using c2
      refine And.intro ?_ e
      rw [if_pos ⟨hr, hc⟩]
      show Value.tuple #[.agg #[.int .i64 (IntKind.i64.wrap (IntKind.i64.wrap (IntKind.i64.wrap (IntKind.i64.wrap (at_.tdiv g.w) + dr) * g.w) + IntKind.i64.wrap (at_.tmod g.w + dc))), .int .i64 d], .bool true] = _
      have m1 : (r + dr) * g.w ≤ 5 * 5 := Int.mul_le_mul (by omega) (by omega) (by omega) (by omega)
      have m2 : 0 ≤ (r + dr) * g.w := Int.mul_nonneg hr.1 (by omega)
      rw [hR, hC, wr (n := (r + dr) * g.w) (by omega) (by omega), wr (by omega) (by omega)]
end Go.Proofs.Ytgcbfhdlfajemaa.Id
/- Contracts over the ideal memory: spec's walk of light. -/
namespace Go.Proofs.Ytgcbfhdlfajemaa.Id
open Go.Id
open Go.Proofs
set_option linter.unusedVariables false
set_option maxRecDepth 100000
variable {X : Ctx Try.prog} {lo : Nat}
/-- spec's walk in the memory: what was visited, how it ended. -/
structure MW (lo : Nat) (h0 h : Hp) (g : Gd) (ad : Option Addr) (fl wb : Nat) (o1 : Option (Nat × Nat)) (vs : List V3) (o2 : Option (Nat × Nat)) (es : List V3) : Prop where
  bx : Bx h wb [.int .i64 g.w, .slice ad g.cs.length fl, gv o1 vs.length, gv o2 es.length]
  g1 : Gw lo h vE 3 o1 vs
  g2 : Gw lo h vE 3 o2 es
  s1 : ¬isB o1 wb
  s2 : ¬isB o2 wb
  s6 : ∀ i, isB o1 i → ¬isB o2 i
  l1 : ∀ i, isB o1 i → h0.n ≤ i
  l2 : ∀ i, isB o2 i → h0.n ≤ i
  l4 : h0.n ≤ wb
  l5 : lo ≤ h0.n
  ext : Ext h0 h
section
variable {h0 h h' : Hp} {g : Gd} {ad : Option Addr} {fl wb : Nat} {o1 o2 : Option (Nat × Nat)} {vs es : List V3}
theorem MW.up (m : MW lo h0 h g ad fl wb o1 vs o2 es) (e : Ext h h') : MW lo h0 h' g ad fl wb o1 vs o2 es :=
  ⟨m.bx.ext e, m.g1.ext e, m.g2.ext e, m.s1, m.s2, m.s6, m.l1, m.l2, m.l4, m.l5, m.ext.trans e⟩
theorem send_ok (k a w : Int) (m : MW lo h0 h g ad fl wb o1 vs o2 es) (hm : es.length + 1 ≤ Id.maxLen) : Tri X lo 71 [.pointer (some ⟨wb, 0, none⟩), .int .i64 k, .int .i64 a, .int .i64 w] h fun v h' => ∃ o2', MW lo h0 h' g ad fl wb o1 vs o2' (es ++ Tr.en k a w) := by
  refine enter tbOk mtOk ⟨[], []⟩ 400 Try.func71 rfl rfl rfl fun hlo => ?_
  refine cnd (fun c1 => ?_) (fun c1 => ?_)
  · have c1 : w > 0 := by simpa using c1
    have hen : Tr.en k a w = [(k, a, w)] := if_pos c1
    rw [hen]
    refine ⟨_, m.bx.ldF (i := 3) rfl, ?_⟩
    have xp : Ext h (h.push (.cells (vE (k, a, w)) 3 0)) := Ext.push _ _
    obtain ⟨b, e, h2, ap, gw, gr⟩ := (m.g2.ext xp).app vE3 (by decide) hm (Nat.le_trans hlo xp.n) (k, a, w)
    refine ⟨vE (k, a, w), one_cells rfl, _, _, ap, ?_⟩
    have hlt := m.bx.lt
    have xn := xp.n
    have hb2 : Bx h2 wb [.int .i64 g.w, .slice ad g.cs.length fl, gv o1 vs.length, gv o2 es.length] := ⟨Nat.lt_of_lt_of_le m.bx.lt (Nat.le_trans xp.n gr.n), (gr.g wb (Nat.lt_of_lt_of_le m.bx.lt xp.n) m.s2).trans (m.bx.ext xp).g⟩
    refine ⟨_, hb2.stF (i := 3) (Nat.le_trans m.l5 m.l4) (Nat.le_refl 4), ?_⟩
    have old : ∀ j, j < h.n → ¬isB o2 j → ¬isB (some (b, e)) j := fun j hj h1 q => by
      rcases gr.b j q with q | q
      · exact h1 q
      · omega
    have hnb := old wb hlt m.s2
    refine ⟨some (b, e), hb2.set, ?_, gw.off hnb _, m.s1, hnb, fun i hi q => old i (m.g1.lt hi).1 (m.s6 i hi) q, m.l1, fun i hi => ?_, m.l4, m.l5, ⟨Nat.le_trans m.ext.n (Nat.le_trans xn gr.n), fun i hi => ?_⟩⟩
    · exact (m.g1.keep (Nat.le_trans xn gr.n) fun i hi hb => (gr.g i (Nat.lt_of_lt_of_le hi xn) (m.s6 i hb)).trans (xp.g i hi)).off m.s1 _
    · rcases gr.b i hi with q | q
      · exact m.l2 i q
      · have := m.ext.n; omega
    · have := m.l4
      have hn := m.ext.n
      simp only [Hp.set]; rw [if_neg (by omega)]
      exact ((gr.g i (by omega) fun q => by have := m.l2 i q; omega).trans (xp.g i (by omega))).trans (m.ext.g i hi)
  · have c1 : ¬ w > 0 := by simpa using c1
    have hen : Tr.en k a w = [] := if_neg c1
    rw [hen, List.append_nil]
    exact ⟨o2, m⟩
/-- A visit is told. -/
theorem MW.vis {x : V3} (m : MW lo h0 h g ad fl wb o1 vs o2 es) (hm : vs.length + 1 ≤ Id.maxLen) : ∃ b e h2, Ap lo (h.push (.cells (vE x) 3 0)) 3 (gv o1 vs.length) (vE x) 1 (gv (some (b, e)) (vs ++ [x]).length) h2 ∧ Bx h2 wb [.int .i64 g.w, .slice ad g.cs.length fl, gv o1 vs.length, gv o2 es.length] ∧
    MW lo h0 (h2.set wb (.cells [.int .i64 g.w, .slice ad g.cs.length fl, gv (some (b, e)) (vs ++ [x]).length, gv o2 es.length] 0 0)) g ad fl wb (some (b, e)) (vs ++ [x]) o2 es := by
  have xp : Ext h (h.push (.cells (vE x) 3 0)) := Ext.push _ _
  have xn := xp.n
  have hlt := m.bx.lt
  obtain ⟨b, e, h2, ap, gw, gr⟩ := (m.g1.ext xp).app vE3 (by decide) hm (Nat.le_trans (Nat.le_trans m.l5 m.ext.n) xp.n) x
  have hb2 : Bx h2 wb [.int .i64 g.w, .slice ad g.cs.length fl, gv o1 vs.length, gv o2 es.length] := ⟨Nat.lt_of_lt_of_le m.bx.lt (Nat.le_trans xp.n gr.n), (gr.g wb (Nat.lt_of_lt_of_le m.bx.lt xp.n) m.s1).trans (m.bx.ext xp).g⟩
  have old : ∀ j, j < h.n → ¬isB o1 j → ¬isB (some (b, e)) j := fun j hj h1 q => by
    rcases gr.b j q with q | q
    · exact h1 q
    · omega
  have hnb := old wb hlt m.s1
  refine ⟨b, e, h2, ap, hb2, hb2.set, gw.off hnb _, ?_, hnb, m.s2, fun i hi q => ?_, fun i hi => ?_, m.l2, m.l4, m.l5, ⟨Nat.le_trans m.ext.n (Nat.le_trans xn gr.n), fun i hi => ?_⟩⟩
  · exact (m.g2.keep (Nat.le_trans xn gr.n) fun i hi hb => (gr.g i (Nat.lt_of_lt_of_le hi xn) fun q => m.s6 i q hb).trans (xp.g i hi)).off m.s2 _
  · exact old i (m.g2.lt q).1 (fun q' => m.s6 i q' q) hi
  · rcases gr.b i hi with q | q
    · exact m.l1 i q
    · have := m.ext.n; omega
  · have := m.l4
    have hn := m.ext.n
    simp only [Hp.set]; rw [if_neg (by omega)]
    exact ((gr.g i (by omega) fun q => by have := m.l1 i q; omega).trans (xp.g i (by omega))).trans (m.ext.g i hi)
end
/-- Light that comes into a cell, walked in q rounds at most. -/
def ComeOk (X : Ctx Try.prog) (lo : Nat) (h0 : Hp) (g : Gd) (ad : Option Addr) (fl wb : Nat) (go : Int → Int → Int → Option Tr.Tr) (f : FuncId) : Prop :=
  ∀ (a d wt : Int) (t : Tr.Tr) (o1 : Option (Nat × Nat)) (vs : List V3) (o2 : Option (Nat × Nat)) (es : List V3) (h : Hp), (0 ≤ a ∧ a < g.cs.length) → (0 ≤ d ∧ d ≤ 3) → (0 ≤ wt ∧ wt ≤ 64) → go a d wt = some t → MW lo h0 h g ad fl wb o1 vs o2 es → vs.length + t.1.length ≤ 100000 → es.length + t.2.length ≤ 100000 →
    Tri X lo f [.pointer (some ⟨wb, 0, none⟩), .int .i64 a, .int .i64 d, .int .i64 wt] h fun v h' => ∃ o1' o2', MW lo h0 h' g ad fl wb o1' (vs ++ t.1) o2' (es ++ t.2)
section
variable {h0 : Hp} {g : Gd} {ad : Option Addr} {fl wb : Nat} {go : Int → Int → Int → Option Tr.Tr}
theorem leave_ok (hs : Sls h0 cE 2 ad g.cs) (hg : gOk g = true) (IH : ComeOk X lo h0 g ad fl wb go 56) :
    ∀ (a d wt : Int) (t : Tr.Tr) (o1 : Option (Nat × Nat)) (vs : List V3) (o2 : Option (Nat × Nat)) (es : List V3) (h : Hp), (0 ≤ a ∧ a < g.cs.length) → (0 ≤ d ∧ d ≤ 3) → (0 < wt ∧ wt ≤ 64) → Tr.lv g.w g.cs.length (sightOf g) go a d wt = some t → MW lo h0 h g ad fl wb o1 vs o2 es → vs.length + t.1.length ≤ 100000 → es.length + t.2.length ≤ 100000 →
    Tri X lo 74 [.pointer (some ⟨wb, 0, none⟩), .int .i64 a, .int .i64 d, .int .i64 wt] h fun v h' => ∃ o1' o2', MW lo h0 h' g ad fl wb o1' (vs ++ t.1) o2' (es ++ t.2) := by
  intro a d wt t o1 vs o2 es h ha hd hw ht m l1 l2
  refine enter tbOk mtOk ⟨[], []⟩ 400 Try.func74 rfl rfl rfl fun hlo => ?_
  refine ⟨_, m.bx.ldF (i := 0) rfl, ?_⟩
  refine callP (l2Next_ok g a d ad fl h hg ha hd) ?_
  rintro v h1 ⟨rfl, e1⟩
  unfold Tr.lv at ht
  rw [if_neg (by omega)] at ht
  have n5 : (g.cs.length : Int) ≤ 25 := by
    obtain ⟨w, hh, q1, q2, q3, q4, q5⟩ := gOk_nat hg
    have := prod5 (i := hh) (w := w) (by omega) (by omega)
    rw [Int.mul_comm] at this
    omega
  cases hnx : Tr.nxt g.w g.cs.length a d with
  | none =>
    rw [hnx] at ht
    cases ht
    refine cndF ?_
    refine ⟨_, (m.up e1).bx.ldF (i := 0) rfl, ?_⟩
    refine callP (l3Of_ok g a d ad fl h1 hg hd) ?_
    rintro v h2 ⟨rfl, e2⟩
    refine callP (send_ok 0 (sightOf g a d) wt (m.up (e1.trans e2)) (by simp at l2; unfold Id.maxLen; omega)) ?_
    rintro v h3 ⟨o2', m'⟩
    have : Tr.en 0 (sightOf g a d) wt = [(0, sightOf g a d, wt)] := if_pos (by omega)
    rw [this] at m'
    exact ⟨o1, o2', by simpa using m'⟩
  | some a' =>
    rw [hnx] at ht
    refine cndT ?_
    have ha' := Tr.nxt_in (gOk_iff.1 hg).1 (gOk_iff.1 hg).2.2.2.2.1 ha hd hnx
    exact callP (IH a' d wt t o1 vs o2 es h1 ha' hd (by omega) ht (m.up e1) l1 l2) fun v h' q => q
theorem half_ok (hs : Sls h0 cE 2 ad g.cs) (hg : gOk g = true) (IH : ComeOk X lo h0 g ad fl wb go 56) :
    ∀ (a d wt : Int) (t : Tr.Tr) (o1 : Option (Nat × Nat)) (vs : List V3) (o2 : Option (Nat × Nat)) (es : List V3) (h : Hp), (0 ≤ a ∧ a < g.cs.length) → (0 ≤ d ∧ d ≤ 3) → (0 ≤ wt ∧ wt ≤ 64) → Tr.lv g.w g.cs.length (sightOf g) go a d wt = some t → MW lo h0 h g ad fl wb o1 vs o2 es → vs.length + t.1.length ≤ 100000 → es.length + t.2.length ≤ 100000 →
    Tri X lo 72 [.pointer (some ⟨wb, 0, none⟩), .int .i64 a, .int .i64 d, .int .i64 wt] h fun v h' => ∃ o1' o2', MW lo h0 h' g ad fl wb o1' (vs ++ t.1) o2' (es ++ t.2) := by
  intro a d wt t o1 vs o2 es h ha hd hw ht m l1 l2
  refine enter tbOk mtOk ⟨[], []⟩ 400 Try.func72 rfl rfl rfl fun hlo => ?_
  refine cnd (fun c1 => ?_) (fun c1 => ?_)
  · have c1 : wt > 0 := by simpa using c1
    exact callP (leave_ok hs hg IH a d wt t o1 vs o2 es h ha hd ⟨c1, hw.2⟩ ht m l1 l2) fun v h' q => q
  · have c1 : ¬ wt > 0 := by simpa using c1
    unfold Tr.lv at ht
    rw [if_pos (by omega)] at ht
    cases ht
    exact ⟨o1, o2, by simpa using m⟩
theorem en_le (k a w : Int) : (Tr.en k a w).length ≤ 1 := by unfold Tr.en; split <;> simp
theorem come_ok (hs : Sls h0 cE 2 ad g.cs) (hg : gOk g = true) : ∀ q : Nat, ComeOk X lo h0 g ad fl wb (Tr.go g.w g.cs.length (kdG g) (sightOf g) q) 56 := by
  intro q
  induction q with
  | zero => intro a d wt t o1 vs o2 es h ha hd hw ht; cases ht
  | succ q ih =>
    intro a d wt t o1 vs o2 es h ha hd hw ht m l1 l2
    refine enter tbOk mtOk ⟨[], []⟩ 400 Try.func56 rfl rfl rfl fun hlo => ?_
    refine cnd (fun c1 => ?_) (fun c1 => ?_)
    · have c1 : wt = 0 := by simpa using c1
      unfold Tr.go at ht
      rw [if_pos c1] at ht
      cases ht
      exact ⟨o1, o2, by simpa using m⟩
    · have c1 : wt ≠ 0 := by simpa using c1
      unfold Tr.go at ht
      rw [if_neg c1] at ht
      refine ⟨_, m.bx.ldF (i := 2) rfl, ?_⟩
      have hl1 : 1 ≤ t.1.length := by
        obtain ⟨l, hl⟩ := Tr.go_head c1 (show Tr.go g.w g.cs.length (kdG g) (sightOf g) (q + 1) a d wt = some t by unfold Tr.go; rw [if_neg c1]; exact ht)
        rw [hl]; simp
      obtain ⟨b, e, h2, ap, hb2, m2⟩ := m.vis (x := (a, d, wt)) (by unfold Id.maxLen; omega)
      refine ⟨vE (a, d, wt), one_cells rfl, _, _, ap, ?_⟩
      refine ⟨_, hb2.stF (i := 2) (Nat.le_trans m.l5 m.l4) (Nat.le_of_ble_eq_true rfl), ?_⟩
      have hat : a.toNat < g.cs.length := by omega
      obtain ⟨ad, rfl⟩ := hs.some hat
      refine ⟨_, m2.bx.ldF (i := 1) rfl, ?_⟩
      refine And.intro ⟨ha.1, ha.2⟩ ?_
      have hk : kdG g a = (g.cs[a.toNat]).1 := by unfold kdG; rw [List.getElem?_eq_getElem hat]; rfl
      have hkd := kdG_ok hg ha
      have ldk : Ld (h2.set wb (.cells [.int .i64 g.w, .slice (some ad) g.cs.length fl, gv (some (b, e)) (vs ++ [(a, d, wt)]).length, gv o2 es.length] 0 0)) (addA (addA ad (a.toNat * 2)) 0) 1 [.int .i64 (kdG g a)] := by rw [hk]; exact ld_sub ((hs.ext m2.ext).ld cE2 hat) rfl
      refine ⟨_, ldk, ?_⟩
      have hh2 : IntKind.i64.wrap (wt.tdiv 2) = wt / 2 := half hw
      have hg1 : IntKind.i64.wrap (wt - IntKind.i64.wrap (wt.tdiv 2)) = wt - wt / 2 := by rw [hh2, wr (by omega) (by omega)]
      have hg2 : IntKind.i64.wrap (wt - IntKind.i64.wrap (2 * IntKind.i64.wrap (wt.tdiv 2))) = wt - 2 * (wt / 2) := by rw [hh2, wr (n := 2 * (wt / 2)) (by omega) (by omega), wr (by omega) (by omega)]
      have hen0 : ∀ k, Tr.en k a wt = [(k, a, wt)] := fun k => if_pos (by omega)
      refine And.intro (by decide) ?_
      refine cnd (fun c2 => ?_) (fun c2 => ?_)
      · have c2 : kdG g a = 1 := by simpa using c2
        rw [if_pos c2] at ht
        cases ht
        refine callP (send_ok 1 a wt m2 (by simp at l2; unfold Id.maxLen; omega)) ?_
        rintro v h4 ⟨p2, m3⟩
        rw [hen0] at m3
        exact ⟨_, _, m3⟩
      · have c2 : kdG g a ≠ 1 := by simpa using c2
        rw [if_neg c2] at ht
        refine cnd (fun c3 => ?_) (fun c3 => ?_)
        · have c3 : kdG g a = 7 := by simpa using c3
          rw [if_pos c3] at ht
          cases ht
          refine callP (send_ok 2 a wt m2 (by simp at l2; unfold Id.maxLen; omega)) ?_
          rintro v h4 ⟨p2, m3⟩
          rw [hen0] at m3
          exact ⟨_, _, m3⟩
        · have c3 : kdG g a ≠ 7 := by simpa using c3
          rw [if_neg c3] at ht
          refine cnd (fun c4 => ?_) (fun c4 => ?_)
          · have c4 : kdG g a = 6 := by simpa using c4
            rw [if_pos c4] at ht
            obtain ⟨t1, ht1, ht⟩ := Tr.bind_some ht
            cases ht
            simp only [List.length_cons, List.length_append] at l1 l2
            refine callP (send_ok 3 a _ m2 (by unfold Id.maxLen; omega)) ?_
            rintro v h4 ⟨p2, m3⟩
            rw [hg1] at m3
            refine callP (half_ok hs hg ih a d _ t1 _ _ _ _ h4 ha hd (by rw [hh2]; omega) (by rw [hh2]; exact ht1) m3 (by simp; omega) (by simp; omega)) ?_
            rintro v h5 ⟨p3, p4, m4⟩
            exact ⟨_, _, by simpa using m4⟩
          · have c4 : kdG g a ≠ 6 := by simpa using c4
            rw [if_neg c4] at ht
            refine cnd (fun c5 => ?_) (fun c5 => ?_)
            · have c5 : kdG g a = 4 := by simpa using c5
              have hk45 : kdG g a = 4 ∨ kdG g a = 5 := .inl c5
              rw [if_pos hk45] at ht
              obtain ⟨t1, ht1, ht⟩ := Tr.bind_some ht
              obtain ⟨t2, ht2, ht⟩ := Tr.bind_some ht
              cases ht
              simp only [List.length_cons, List.length_append] at l1 l2
              refine callP (send_ok 3 a _ m2 (by unfold Id.maxLen; omega)) ?_
              rintro v h4 ⟨p2, m3⟩
              rw [hg2] at m3
              have hen3 := en_le 3 a (wt - 2 * (wt / 2))
              refine callP (half_ok hs hg ih a d _ t1 _ _ _ _ h4 ha hd (by rw [hh2]; omega) (by rw [hh2]; exact ht1) m3 (by simp; omega) (by simp; omega)) ?_
              rintro v h5 ⟨p3, p4, m4⟩
              refine callP (sDirTurn_ok _ _ h5 hd) ?_
              rintro v h6 ⟨rfl, e6⟩
              refine callP (half_ok hs hg ih a _ _ t2 _ _ _ _ h6 ha (Tr.dirT_ok hd) (by rw [hh2]; omega) (by rw [hh2]; exact ht2) (m4.up e6) (by simp; omega) (by simp; omega)) ?_
              rintro v h7 ⟨p5, p6, m5⟩
              exact ⟨_, _, by simpa using m5⟩
            · have c5 : kdG g a ≠ 4 := by simpa using c5
              refine cnd (fun c6 => ?_) (fun c6 => ?_)
              · have c6 : kdG g a = 5 := by simpa using c6
                have hk45 : kdG g a = 4 ∨ kdG g a = 5 := .inr c6
                rw [if_pos hk45] at ht
                obtain ⟨t1, ht1, ht⟩ := Tr.bind_some ht
                obtain ⟨t2, ht2, ht⟩ := Tr.bind_some ht
                cases ht
                simp only [List.length_cons, List.length_append] at l1 l2
                refine callP (send_ok 3 a _ m2 (by unfold Id.maxLen; omega)) ?_
                rintro v h4 ⟨p2, m3⟩
                rw [hg2] at m3
                have hen3 := en_le 3 a (wt - 2 * (wt / 2))
                refine callP (half_ok hs hg ih a d _ t1 _ _ _ _ h4 ha hd (by rw [hh2]; omega) (by rw [hh2]; exact ht1) m3 (by simp; omega) (by simp; omega)) ?_
                rintro v h5 ⟨p3, p4, m4⟩
                refine callP (sDirTurn_ok _ _ h5 hd) ?_
                rintro v h6 ⟨rfl, e6⟩
                refine callP (half_ok hs hg ih a _ _ t2 _ _ _ _ h6 ha (Tr.dirT_ok hd) (by rw [hh2]; omega) (by rw [hh2]; exact ht2) (m4.up e6) (by simp; omega) (by simp; omega)) ?_
                rintro v h7 ⟨p5, p6, m5⟩
                exact ⟨_, _, by simpa using m5⟩
              · have c6 : kdG g a ≠ 5 := by simpa using c6
                rw [if_neg (by omega)] at ht
                obtain ⟨t1, ht1, ht⟩ := Tr.bind_some ht
                cases ht
                simp only [List.length_cons] at l1
                refine callP (sDirTurn_ok _ _ _ hd) ?_
                rintro v h6 ⟨rfl, e6⟩
                refine callP (leave_ok hs hg ih a _ wt t1 _ _ _ _ h6 ha (Tr.dirT_ok hd) (by omega) ht1 (m2.up e6) (by simp; omega) l2) ?_
                rintro v h7 ⟨p5, p6, m5⟩
                exact ⟨_, _, by simpa using m5⟩
end
end Go.Proofs.Ytgcbfhdlfajemaa.Id
/- Contracts over the ideal memory: spec's light, spec's picture. -/
namespace Go.Proofs.Ytgcbfhdlfajemaa.Id
open Go.Id
open Go.Proofs
set_option linter.unusedVariables false
set_option maxRecDepth 100000
variable {X : Ctx Try.prog} {lo : Nat}
theorem isB_eq {b e i : Nat} (h : isB (some (b, e)) i) : b = i := by
  obtain ⟨e', h⟩ := h
  injection h with h
  injection h
theorem l11Go_ok (g : Gd) (k : Nat) (ad : Option Addr) (fl : Nat) (h : Hp) (hs : Sls h cE 2 ad g.cs) (hg : gOk g = true) (hk : (k : Int) < many g) : Tri X lo 35 [.agg #[.int .i64 g.w, .slice ad g.cs.length fl], .int .i64 (k : Int)] h fun v h' => ∃ wb o1 o2, v = .pointer (some ⟨wb, 0, none⟩) ∧ MW lo h h' g ad fl wb o1 (trail g k).1 o2 (trail g k).2 := by
  refine enter tbOk mtOk ⟨[11], []⟩ 400 Try.func35 rfl rfl rfl fun hlo => ?_
  obtain ⟨w, hh, q1, q2, q3, q4, q5⟩ := gOk_nat hg
  have hm := many_nat' q1 q2
  have hsr : sightRay g k = (rays w hh)[k]? := by
    unfold sightRay sideRays
    rw [if_pos ⟨hg, Int.natCast_nonneg k, hk⟩, q1, q2]; rfl
  obtain ⟨T, hT⟩ : ∃ T, T = trail g k := ⟨_, rfl⟩
  obtain ⟨t1, ⟨t2, t3⟩, _⟩ := trail_ok g k
  rw [← hT] at t1 t2 t3 ⊢
  have gw0 : ∀ (h' : Hp) (b : Nat), lo ≤ b → b < h'.n → h'.g b = .cells [] 3 0 → Gw lo h' vE 3 (some (b, 0)) [] := fun h' b h1 h2 h3 => ⟨h1, h2, [], h3, Nat.le_refl _, rfl⟩
  obtain ⟨hX, hhX⟩ : ∃ hX, hX = ((h.push (.cells [] 3 0)).push (.cells [] 3 0)).push (.cells [.int .i64 g.w, .slice ad g.cs.length fl, gv (some (h.n, 0)) 0, gv (some (h.n + 1, 0)) 0] 0 0) := ⟨_, rfl⟩
  have m0 : MW lo h hX g ad fl (h.n + 2) (some (h.n, 0)) [] (some (h.n + 1, 0)) [] := by
    have e1 : Ext h hX := by rw [hhX]; exact ((Ext.push _ _).trans (Ext.push _ _)).trans (Ext.push _ _)
    refine ⟨by rw [hhX]; exact Bx.push, gw0 _ _ hlo ?_ ?_, gw0 _ _ (by omega) ?_ ?_, ?_, ?_, ?_, ?_, ?_, by omega, hlo, e1⟩
    · rw [hhX]; simp [Hp.push]; omega
    · rw [hhX]; simp [Hp.push]; omega
    · rw [hhX]; simp [Hp.push]
    · rw [hhX]; simp [Hp.push]
    · intro q; have := isB_eq q; omega
    · intro q; have := isB_eq q; omega
    · intro i q q'; have := isB_eq q; have := isB_eq q'; omega
    · intro i q; have := isB_eq q; omega
    · intro i q; have := isB_eq q; omega
  have S := l3Ray_ok (X := X) (lo := lo) w hh k ad g.cs.length fl hX q3 q4 q5 (by omega)
  rw [← q1, hhX] at S
  refine callP S ?_
  rw [← hhX]
  rintro v h1 ⟨⟨r, hr, rfl⟩, e1⟩
  unfold IsTrail at t1
  rw [hsr, hr] at t1
  obtain ⟨q, hq⟩ := t1
  have hro := rays_ok q3 q4 r (List.mem_of_getElem? hr)
  rw [← q5] at hro
  refine callP (come_ok hs hg q r.1 r.2 64 T _ _ _ _ h1 hro.1 hro.2 (by omega) hq (m0.up e1) (by simp; omega) (by simp; omega)) ?_
  rintro v h2 ⟨o1, o2, m⟩
  rw [List.nil_append, List.nil_append] at m
  exact ⟨_, o1, o2, rfl, m⟩
theorem app1I {h : Hp} {b e n : Nat} {l : List Int} (r : Row h b e iE 1 l) (hl : l.length = n) (hlo : lo ≤ b) (hm : n + 1 ≤ Id.maxLen) (x : Int) :
    Ap lo h 1 (.slice (.some ⟨b, 0, .some e⟩) n 1) (iE x) 1 (.slice (.some ⟨b, 0, .some (e + 1)⟩) (n + 1) 1) (h.set b (.cells ((l ++ [x]).flatMap iE) 1 (e + 1))) := by
  subst hl
  have := r.app (m := [x]) (lo := lo) (fun _ => rfl) (by decide) hlo hm
  simpa using this
theorem pic_take (g : Gd) {k : Nat} (hk : (k : Int) < many g) : (pic g).take (k + 1) = (pic g).take k ++ [lightAt g k] := by
  have hl : k < (pic g).length := by rw [pic_len]; omega
  rw [List.take_succ_eq_append_getElem hl]
  congr 2
  simp [pic]
end Go.Proofs.Ytgcbfhdlfajemaa.Id
/- Contracts over the ideal memory: spec's TrailFoot. -/
namespace Go.Proofs.Ytgcbfhdlfajemaa.Id
open Go.Id
open Go.Proofs
set_option linter.unusedVariables false
set_option maxRecDepth 100000
variable {X : Ctx Try.prog} {lo : Nat}
theorem many_le (g : Gd) (hg : gOk g = true) : 1 ≤ many g ∧ many g ≤ 20 := by
  obtain ⟨h1, h2, _⟩ := hi_ok hg
  obtain ⟨g1, g2, _⟩ := gOk_iff.1 hg
  unfold many; omega
theorem l11Is_ok (g : Gd) (k : Int) (ad : Option Addr) (fl : Nat) (h : Hp) (hs : Sls h cE 2 ad g.cs) (hn : (g.cs.length : Int) < 2 ^ 31) : Tri X lo 33 [.agg #[.int .i64 g.w, .slice ad g.cs.length fl], .int .i64 k] h fun v h' => v = .bool (decide (gOk g = true ∧ 0 ≤ k ∧ k < many g)) ∧ Ext h h' := by
  refine enter tbOk mtOk ⟨[], []⟩ 400 Try.func33 rfl rfl rfl fun hlo => ?_
  refine callP (sGridOk_ok g.w ad fl g.cs h hs hn) ?_
  rintro v h1 ⟨rfl, e1⟩
  refine cnd (fun c1 => ?_) (fun c1 => ?_)
  · have hg : gOk g = true := c1
    have hm := many_le g hg
    refine callP (l3Many_ok g ad fl h1 hg hn) ?_
    rintro v h2 ⟨rfl, e2⟩
    refine callP (l6In_ok k 0 (IntKind.i64.wrap (many g - 1)) h2) ?_
    rintro v h3 ⟨rfl, rfl⟩
    refine And.intro ?_ (e1.trans e2)
    show Value.bool (decide (0 ≤ k) && decide (k ≤ IntKind.i64.wrap (many g - 1))) = _
    rw [wr (by omega) (by omega)]
    congr 1
    rw [Bool.eq_iff_iff]
    simp [hg]; omega
  · have hg : gOk g = false := c1
    refine And.intro ?_ e1
    show Value.bool false = _
    rw [hg]; simp
/-- Which of the cells are visited. -/
def inL (vs : List V3) (N i : Nat) : List Bool := (List.range N).map fun (j : Nat) => (vs.take i).any fun v => v.1 == (j : Int)
theorem inL_len (vs : List V3) (N i : Nat) : (inL vs N i).length = N := by simp [inL]
theorem inL_get {vs : List V3} {N i j : Nat} (hj : j < (inL vs N i).length) : (inL vs N i)[j] = (vs.take i).any fun v => v.1 == (j : Int) := by simp [inL]
theorem inL_succ {vs : List V3} {N i : Nat} (hi : i < vs.length) (hv : 0 ≤ vs[i].1 ∧ vs[i].1 < (N : Int)) : (inL vs N i).set vs[i].1.toNat true = inL vs N (i + 1) := by
  refine List.ext_getElem (by simp [inL]) fun j h1 h2 => ?_
  rw [List.getElem_set, inL_get h2, List.take_succ_eq_append_getElem hi, List.any_append]
  by_cases c : vs[i].1.toNat = j
  · rw [if_pos c]
    have : (vs[i].1 == (j : Int)) = true := by simp; omega
    simp [this]
  · rw [if_neg c, inL_get]
    have : (vs[i].1 == (j : Int)) = false := by simp; omega
    simp [this]
theorem footL_step (vs : List V3) (i : Nat) : footL vs (i + 1) = footL vs i ++ (if vs.any (fun v => v.1 == (i : Int)) = true then [(i : Int)] else []) := by
  unfold footL
  rw [List.range_succ, List.filter_append, List.map_append]
  congr 1
  by_cases c : vs.any (fun v => v.1 == (i : Int)) = true
  · rw [if_pos c]; simp only [List.filter_cons, c, if_true, List.filter_nil, List.map_cons, List.map_nil]
  · rw [if_neg c]; simp only [List.filter_cons, c, List.filter_nil]; rfl
theorem l11Foot_ok (g : Gd) (vs : List V3) (ad a : Option Addr) (fl f : Nat) (h : Hp) (hs : Sls h cE 2 ad g.cs) (hn : (g.cs.length : Int) < 2 ^ 31) (hv : Sls h vE 3 a vs) (hm : vs.length ≤ 20000) (hr : ∀ v ∈ vs, 0 ≤ v.1 ∧ v.1 < (g.cs.length : Int)) : Tri X lo 34 [.agg #[.int .i64 g.w, .slice ad g.cs.length fl], .slice a vs.length f] h fun v h' => (∃ b e, v = .slice (some ⟨b, 0, some e⟩) (footL vs g.cs.length).length 1 ∧ h.n ≤ b ∧ Row h' b e inE 1 (footL vs g.cs.length)) ∧ Ext h h' := by
  refine enter tbOk mtOk ⟨[], []⟩ 400 Try.func34 rfl rfl rfl fun hlo => ?_
  refine And.intro ⟨by omega, by omega, by unfold Id.maxLen; omega⟩ ?_
  have e0 : Ext h (h.push (.cells (zeros [.bool false] g.cs.length) 1 0)) := Ext.push _ _
  have r0 : Row (h.push (.cells (zeros [.bool false] g.cs.length) 1 0)) h.n 0 bE 1 (inL vs g.cs.length 0) := by
    have : inL vs g.cs.length 0 = List.replicate g.cs.length false := by
      apply List.ext_getElem (by simp [inL])
      intro i h1 h2
      simp [inL]
    rw [this, zeros_flat (enc := bE) (z := [.bool false]) (x := false) rfl]; exact Row.push
  refine loop (σ := Nat) tbOk mtOk ⟨[], []⟩ (fun i => [(6, .v (.int .i64 (i : Int))), (5, .v (.slice (some ⟨h.n, 0, some 0⟩) g.cs.length 1)), (1, .v (.slice a vs.length f)), (2, .l 0 0)]) (fun _ => [[.int .i64 g.w, .slice ad g.cs.length fl]]) (fun i h' => i ≤ vs.length ∧ Ext h h' ∧ Row h' h.n 0 bE 1 (inL vs g.cs.length i)) (fun i => vs.length - i) 400 0 (fun _ => rfl) ⟨rfl, rfl, rfl, rfl, trivial⟩ ⟨rfl, trivial⟩ ⟨Nat.zero_le _, e0, r0⟩ (fun i h1 hI again => ?_)
  obtain ⟨i1, i2, i3⟩ := hI
  refine cnd (fun c1 => ?_) (fun c1 => ?_)
  · have c1 : i < vs.length := by have := of_decide_eq_true c1; omega
    obtain ⟨a, rfl⟩ := hv.some c1
    have hld := (hv.ext i2).ld vE3 c1
    have hri := hr vs[i] (List.getElem_mem c1)
    have hsu := inL_succ c1 hri
    have hjl : vs[i].1.toNat < (inL vs g.cs.length i).length := by rw [inL_len]; omega
    have hst := i3.st (lo := lo) (fun _ => rfl) hlo hjl true
    rw [hsu] at hst
    have wq : IntKind.i64.wrap ((i : Int) + 1) = ((i + 1 : Nat) : Int) := wz (by omega) (by omega)
    generalize vs[i] = w at *
    refine And.intro ⟨by omega, by omega⟩ ?_
    refine ⟨_, ld_sub hld (j := 0) (m := 1) rfl, ?_⟩
    refine And.intro ⟨hri.1, hri.2⟩ ?_
    refine ⟨_, hst, ?_⟩
    exact again (i + 1) _ _ _ (by omega) ⟨vI wq, rfl, rfl, rfl, trivial⟩ ⟨rfl, trivial⟩ ⟨by omega, i2.set (Nat.le_refl _) _, Row.set i3.lt⟩
  · have c1 : i = vs.length := by have := of_decide_eq_false c1; omega
    subst c1
    have hta : ∀ {j : Nat} (hj : j < (inL vs g.cs.length vs.length).length), (inL vs g.cs.length vs.length)[j] = vs.any fun v => v.1 == (j : Int) := fun hj => by rw [inL_get hj, List.take_length]
    have n1 := i2.n
    have lt1 := i3.lt
    refine loop (σ := Nat × Nat) tbOk mtOk ⟨[], []⟩ (fun s => [(8, .v (.int .i64 (s.1 : Int))), (7, .v (.slice (some ⟨h1.n, 0, some s.2⟩) (footL vs s.1).length 1)), (5, .v (.slice (some ⟨h.n, 0, some 0⟩) g.cs.length 1)), (2, .l 0 0)]) (fun _ => [[.int .i64 g.w, .slice ad g.cs.length fl]]) (fun s h' => s.1 ≤ g.cs.length ∧ Ext h1 h' ∧ Row h' h1.n s.2 inE 1 (footL vs s.1)) (fun s => g.cs.length - s.1) 400 (0, 0) (fun _ => rfl) ⟨rfl, rfl, rfl, rfl, trivial⟩ ⟨rfl, trivial⟩ ⟨Nat.zero_le _, Ext.push _ _, by show Row (h1.push (.cells (([] : List Int).flatMap inE) 1 0)) h1.n 0 inE 1 []; exact Row.push⟩ (fun s h2 hI again' => ?_)
    obtain ⟨j1, j2, j3⟩ := hI
    refine cnd (fun c2 => ?_) (fun c2 => ?_)
    · have c2 : s.1 < g.cs.length := by have := of_decide_eq_true c2; omega
      have hjl : s.1 < (inL vs g.cs.length vs.length).length := by rw [inL_len]; exact c2
      have hld := ((i3.ext j2).sls (fun _ => rfl)).ld (fun _ => rfl) hjl
      rw [hta hjl] at hld
      have wq : IntKind.i64.wrap ((s.1 : Int) + 1) = ((s.1 + 1 : Nat) : Int) := wz (by omega) (by omega)
      have hfs := footL_step vs s.1
      have hfl : (footL vs s.1).length ≤ s.1 := by
        unfold footL; rw [List.length_map]; exact Nat.le_trans (List.length_filter_le _ _) (by simp)
      refine And.intro ⟨by omega, by omega⟩ ?_
      refine ⟨_, hld, ?_⟩
      generalize vs.any (fun v => v.1 == (s.1 : Int)) = q at *
      refine cnd (fun c3 => ?_) (fun c3 => ?_)
      · rw [if_pos c3] at hfs
        have e4 : Ext h2 (h2.push (.cells (inE (s.1 : Int)) 1 0)) := Ext.push _ _
        have n2 := j2.n
        have lt2 := j3.lt
        have ap := (j3.ext e4).app (m := [(s.1 : Int)]) (lo := lo) (fun _ => rfl) (by decide) (by omega) (by unfold Id.maxLen; simp; omega)
        refine ⟨inE (s.1 : Int), one_cells rfl, _, _, ap, ?_⟩
        refine again' (s.1 + 1, s.2 + 1) _ _ _ (by show g.cs.length - (s.1 + 1) < g.cs.length - s.1; omega) ⟨vI wq, ?_, rfl, rfl, trivial⟩ ⟨rfl, trivial⟩ ⟨by show s.1 + 1 ≤ _; omega, (j2.trans e4).set (Nat.le_refl _) _, ?_⟩
        · show _ = some (Sl.v (.slice _ (footL vs (s.1 + 1)).length 1))
          rw [hfs, List.length_append]; rfl
        · show Row _ h1.n (s.2 + 1) inE 1 (footL vs (s.1 + 1))
          rw [hfs]; exact Row.set (j3.ext e4).lt
      · have c3 : q = false := c3
        rw [c3, if_neg (by decide), List.append_nil] at hfs
        exact again' (s.1 + 1, s.2) _ _ _ (by show g.cs.length - (s.1 + 1) < g.cs.length - s.1; omega) ⟨vI wq, by show _ = some (Sl.v (.slice _ (footL vs (s.1 + 1)).length 1)); rw [hfs]; rfl, rfl, rfl, trivial⟩ ⟨rfl, trivial⟩ ⟨by show s.1 + 1 ≤ _; omega, j2, by show Row h2 h1.n s.2 inE 1 (footL vs (s.1 + 1)); rw [hfs]; exact j3⟩
    · have c2 : s.1 = g.cs.length := by have := of_decide_eq_false c2; omega
      rw [c2] at j3
      rw [c2]
      exact And.intro ⟨h1.n, s.2, rfl, by omega, j3⟩ (i2.trans j2)
theorem sTrailFoot_ok (g : Gd) (k : Int) (ad : Option Addr) (fl : Nat) (h : Hp) (hs : Sls h cE 2 ad g.cs) (hn : (g.cs.length : Int) < 2 ^ 31) : Tri X lo 8 [.agg #[.int .i64 g.w, .slice ad g.cs.length fl], .int .i64 k] h fun v h' => (∃ b e, v = .slice (some ⟨b, 0, some e⟩) (footG g k).length 1 ∧ h.n ≤ b ∧ Row h' b e inE 1 (footG g k)) ∧ Ext h h' := by
  refine enter tbOk mtOk ⟨[], [(3, [0, 1, 2, 3, 4, 5, 6, 7, 8], [0, 0, 0, 6, 14, 30, 62, 127, 255])]⟩ 400 Try.func8 rfl rfl rfl fun hlo => ?_
  refine callP (l11Is_ok g k ad fl h hs hn) ?_
  rintro v h1 ⟨rfl, e1⟩
  have hF : footG g k = footL (trail g k).1 g.cs.length := rfl
  refine cnd (fun c1 => ?_) (fun c1 => ?_)
  · have c1 : ¬ (gOk g = true ∧ 0 ≤ k ∧ k < many g) := fun q => by rw [decide_eq_true q] at c1; cases c1
    have hT : trail g k = ([], []) := by
      have := (trail_ok g k).1
      unfold IsTrail sightRay at this
      rw [if_neg c1] at this; exact this
    have hF0 : footG g k = [] := by rw [hF, hT]; unfold footL; simp
    rw [hF0]
    refine And.intro ⟨h1.n, 0, rfl, e1.n, ?_⟩ (e1.trans (Ext.push _ _))
    show Row (h1.push (.cells (([] : List Int).flatMap inE) 1 0)) h1.n 0 inE 1 []
    exact Row.push
  · have c1 : gOk g = true ∧ 0 ≤ k ∧ k < many g := by simpa using c1
    obtain ⟨kn, rfl⟩ : ∃ kn : Nat, k = kn := ⟨k.toNat, by omega⟩
    refine And.intro (by kernel_rfl) ?_
    refine callP (l11Go_ok g kn ad fl h1 (hs.ext e1) c1.1 c1.2.2) ?_
    rintro v h2 ⟨wb, o1, o2, rfl, m⟩
    obtain ⟨_, ⟨t2, _⟩, _⟩ := trail_ok g kn
    have hvis := trail_vis g kn
    obtain ⟨a2, f2, p1, p2⟩ := gw_sls m.g1
    have hb := m.bx
    rw [p1] at hb
    have e2 := e1.trans m.ext
    refine And.intro Is.r ?_
    refine ⟨_, hb.ldF (i := 2) rfl, ?_⟩
    refine callP (l11Foot_ok g (trail g kn).1 ad a2 fl f2 h2 (hs.ext e2) hn p2 t2 hvis) ?_
    rintro v h3 ⟨⟨b, e, rfl, w1, w2⟩, e3⟩
    have n2 := e2.n
    exact And.intro ⟨b, e, rfl, by omega, w2⟩ (e2.trans e3)
end Go.Proofs.Ytgcbfhdlfajemaa.Id
