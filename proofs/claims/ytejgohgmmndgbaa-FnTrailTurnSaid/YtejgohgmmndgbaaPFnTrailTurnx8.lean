-- Written by a program of this session: the kit's print, with functions among it that were proved by hand.
import Derived.Test.YtejgohgmmndgbaaPFnTrailTurnx0
import Derived.Test.YtejgohgmmndgbaaPFnTrailTurnx1
import Derived.Test.YtejgohgmmndgbaaPFnTrailTurnx5
import Derived.Test.YtejgohgmmndgbaaPFnTrailTurnx6
import Derived.Test.YtejgohgmmndgbaaPFnTrailTurnx7
namespace Go.Proofs.Ytejgohgmmndgbaa.PFnTrailTurn
open Go.RowKit Go.Proofs.YtejgohgmmndgbaaW.PrintWords Go.Proofs.YtejgohgmmndgbaaW.PrintLast Go.Proofs.YtejgohgmmndgbaaW.PrintMore
attribute [local go_sem] max2_int min2_int max_two min_two max_three min_three max_four min_four   -- for this text's walks alone
set_option linter.unusedVariables false
set_option linter.unusedSimpArgs false


open Go.Proofs.Ytejgohgmmndgbaa.HandA
set_option maxHeartbeats 8000000 in
set_option maxRecDepth 100000 in
theorem leave_in (k : Nat) (W0 : World) (B bt : Nat) (w : Int) (A : Option Addr) (c : Nat) (l : List S57) (v0 v1 : Value) (vs : List S50) (es : List S55) (at_ dir weight x1 x2 : Int) (W : World) (r : List S50 × List S55)
  (come : Int → Int → Int → List S50 → List S55 → Option (List S50 × List S55))
  (hcome : ∀ at_ dir weight vs es v0 v1 r W, come at_ dir weight vs es = some r → WalkSt W0 W B bt w A l.length c v0 v1 vs es → Calls Try.prog 77 #[.pointer (some ⟨bt, 0, none⟩), .int .i64 at_, .int .i64 dir, .int .i64 weight] W fun e w' => e = .returned (.tuple #[]) ∧ ∃ v0' v1' : Value, WalkSt W0 w' B bt w A l.length c v0' v1' r.1 r.2)
  (HC : ∀ W', Below B W0 W' → Kd.C k57 W' A l.length l) (hc : l.length ≤ c) (HS : WalkSt W0 W B bt w A l.length c v0 v1 vs es)
  (hx : spec_l2Next.f w l at_ dir = some (x1, x2, true)) (hq : come x1 dir weight vs es = some r) :
  Calls Try.prog 100 #[.pointer (some ⟨bt, 0, none⟩), .int .i64 at_, .int .i64 dir, .int .i64 weight] W fun e w' => e = .returned (.tuple #[]) ∧ ∃ v0' v1' : Value, WalkSt W0 w' B bt w A l.length c v0' v1' r.1 r.2 := by
 have H := Zs.mk HS
 have HCome := Zs.mk hcome
 clear hcome
 have g0 : W.cell? ⟨bt, 0, none⟩ = some (.int .i64 w) := (kCe HS.hbt 0).trans rfl
 have g1 : W.cell? ⟨bt, 1, none⟩ = some (.slice A l.length c) := (kCe HS.hbt 1).trans rfl
 clear HS
 go_enter Try.func100, Try.ntmps100
 go_wp2_with (first | (go_at_call 119; refine (spec_l2Next.calls w A c l at_ dir x1 x2 true _ (HC _ H.out.bl) hc hx).mono ?_; rintro e w1 ⟨rfl, hb1⟩; have H1 := Zs.mk (H.out.below hb1); clear hb1) | (go_at_call 77; refine (HCome.out _ _ _ _ _ _ _ r _ hq (H1.out.alloc _)).mono ?_; rintro e w2 ⟨rfl, hst⟩))
 refine bodyPost_ret (results_none rfl _ _ _) rfl ?_
 exact ⟨rfl, hst⟩
set_option maxHeartbeats 8000000 in
set_option maxRecDepth 100000 in
theorem leave_out (k : Nat) (W0 : World) (B bt : Nat) (w : Int) (A : Option Addr) (c : Nat) (l : List S57) (v0 v1 : Value) (vs : List S50) (es : List S55) (at_ dir weight x1 x2 s : Int) (W : World)
  (HC : ∀ W', Below B W0 W' → Kd.C k57 W' A l.length l) (hc : l.length ≤ c) (HS : WalkSt W0 W B bt w A l.length c v0 v1 vs es) (hl : es.length ≤ 1000000)
  (hx : spec_l2Next.f w l at_ dir = some (x1, x2, false)) (hs : spec_l3Of.f k w l at_ dir = some s) :
  Calls Try.prog 100 #[.pointer (some ⟨bt, 0, none⟩), .int .i64 at_, .int .i64 dir, .int .i64 weight] W fun e w' => e = .returned (.tuple #[]) ∧ ∃ v0' v1' : Value, WalkSt W0 w' B bt w A l.length c v0' v1' vs (endV es 0 s weight) := by
 have H := Zs.mk HS
 have g0 : W.cell? ⟨bt, 0, none⟩ = some (.int .i64 w) := (kCe HS.hbt 0).trans rfl
 have g1 : W.cell? ⟨bt, 1, none⟩ = some (.slice A l.length c) := (kCe HS.hbt 1).trans rfl
 clear HS
 go_enter Try.func100, Try.ntmps100
 go_wp2_with (first | (go_at_call 119; refine (spec_l2Next.calls w A c l at_ dir x1 x2 false _ (HC _ H.out.bl) hc hx).mono ?_; rintro e w1 ⟨rfl, hb1⟩; have H1 := Zs.mk ((H.out.below hb1).alloc (.cells #[.int .i64 x1, .int .i64 x2] 92 (0, 0))); clear hb1; have d0 : (w1.alloc (.cells #[.int .i64 x1, .int .i64 x2] 92 (0, 0))).cell? ⟨bt, 0, none⟩ = some (.int .i64 w) := (kCe H1.out.hbt 0).trans rfl; have d1 : (w1.alloc (.cells #[.int .i64 x1, .int .i64 x2] 92 (0, 0))).cell? ⟨bt, 1, none⟩ = some (.slice A l.length c) := (kCe H1.out.hbt 1).trans rfl) | (go_at_call 120; refine (spec_l3Of.calls k w A c l at_ dir s _ (HC _ H1.out.bl) hc hs).mono ?_; rintro e w2 ⟨rfl, hb2⟩; have H2 := Zs.mk (H1.out.below hb2); clear hb2) | (go_at_call 97; refine (walkEnd W0 B bt w (.slice A l.length c) v0 v1 es _ _ _ _ H2.out.hbt H2.out.re H2.out.bl H2.out.hb hl).mono ?_; rintro e w3 ⟨rfl, v1', h1, h2, h3, h4⟩; have H3 := H2.out.ended h1 h2 h3 h4))
 go_end0
 exact ⟨rfl, _, _, H3⟩
theorem leave_of (k : Nat) (W0 : World) (B bt : Nat) (w : Int) (A : Option Addr) (c : Nat) (l : List S57) (v0 v1 : Value) (vs : List S50) (es : List S55) (at_ dir weight : Int) (W : World) (r : List S50 × List S55)
  (come : Int → Int → Int → List S50 → List S55 → Option (List S50 × List S55))
  (hcome : ∀ at_ dir weight vs es v0 v1 r W, come at_ dir weight vs es = some r → WalkSt W0 W B bt w A l.length c v0 v1 vs es → Calls Try.prog 77 #[.pointer (some ⟨bt, 0, none⟩), .int .i64 at_, .int .i64 dir, .int .i64 weight] W fun e w' => e = .returned (.tuple #[]) ∧ ∃ v0' v1' : Value, WalkSt W0 w' B bt w A l.length c v0' v1' r.1 r.2)
  (HC : ∀ W', Below B W0 W' → Kd.C k57 W' A l.length l) (hc : l.length ≤ c) (HS : WalkSt W0 W B bt w A l.length c v0 v1 vs es)
  (h : leaveF k w l come at_ dir weight vs es = some r) :
  Calls Try.prog 100 #[.pointer (some ⟨bt, 0, none⟩), .int .i64 at_, .int .i64 dir, .int .i64 weight] W fun e w' => e = .returned (.tuple #[]) ∧ ∃ v0' v1' : Value, WalkSt W0 w' B bt w A l.length c v0' v1' r.1 r.2 := by
 unfold leaveF at h
 by_cases hl : es.length ≤ 1000000
 ·rw [if_pos hl] at h
  obtain ⟨⟨x1, x2, x3⟩, hx, h⟩ := Option.bind_eq_some_iff.1 h
  cases x3 with
  | true => exact leave_in k W0 B bt w A c l v0 v1 vs es at_ dir weight x1 x2 W r come hcome HC hc HS hx h
  | false =>
   obtain ⟨s, hs, h⟩ := Option.bind_eq_some_iff.1 (show ((spec_l3Of.f k w l at_ dir).bind fun s => some (vs, endV es 0 s weight)) = some r from h)
   cases h
   exact leave_out k W0 B bt w A c l v0 v1 vs es at_ dir weight x1 x2 s W HC hc HS hl hx hs
 ·rw [if_neg hl] at h; cases h
set_option maxHeartbeats 8000000 in
set_option maxRecDepth 100000 in
theorem half_pos (p : Value) (at_ dir weight : Int) (W : World) (Q : World → Prop) (hp : decide (0 < weight) = true)
  (hl : Calls Try.prog 100 #[p, .int .i64 at_, .int .i64 dir, .int .i64 weight] W fun e w' => e = .returned (.tuple #[]) ∧ Q w') :
  Calls Try.prog 98 #[p, .int .i64 at_, .int .i64 dir, .int .i64 weight] W fun e w' => e = .returned (.tuple #[]) ∧ Q w' := by
 have HL := Zs.mk hl
 clear hl
 go_enter Try.func98, Try.ntmps98
 go_wp2_with (go_at_call 100; refine HL.out.mono ?_; rintro e w1 ⟨rfl, hq⟩)
 go_end0
 exact ⟨rfl, hq⟩
set_option maxHeartbeats 8000000 in
set_option maxRecDepth 100000 in
theorem half_no (p : Value) (at_ dir weight : Int) (W : World) (hp : decide (0 < weight) = false) :
  Calls Try.prog 98 #[p, .int .i64 at_, .int .i64 dir, .int .i64 weight] W fun e w' => e = .returned (.tuple #[]) ∧ w' = W := by
 go_enter Try.func98, Try.ntmps98
 go_wp2
 go_end0
 exact ⟨rfl, rfl⟩
theorem half_of (k : Nat) (W0 : World) (B bt : Nat) (w : Int) (A : Option Addr) (c : Nat) (l : List S57) (v0 v1 : Value) (vs : List S50) (es : List S55) (at_ dir weight : Int) (W : World) (r : List S50 × List S55)
  (come : Int → Int → Int → List S50 → List S55 → Option (List S50 × List S55))
  (hcome : ∀ at_ dir weight vs es v0 v1 r W, come at_ dir weight vs es = some r → WalkSt W0 W B bt w A l.length c v0 v1 vs es → Calls Try.prog 77 #[.pointer (some ⟨bt, 0, none⟩), .int .i64 at_, .int .i64 dir, .int .i64 weight] W fun e w' => e = .returned (.tuple #[]) ∧ ∃ v0' v1' : Value, WalkSt W0 w' B bt w A l.length c v0' v1' r.1 r.2)
  (HC : ∀ W', Below B W0 W' → Kd.C k57 W' A l.length l) (hc : l.length ≤ c) (HS : WalkSt W0 W B bt w A l.length c v0 v1 vs es)
  (h : halfF k w l come at_ dir weight vs es = some r) :
  Calls Try.prog 98 #[.pointer (some ⟨bt, 0, none⟩), .int .i64 at_, .int .i64 dir, .int .i64 weight] W fun e w' => e = .returned (.tuple #[]) ∧ ∃ v0' v1' : Value, WalkSt W0 w' B bt w A l.length c v0' v1' r.1 r.2 := by
 unfold halfF at h
 by_cases hp : weight > 0
 ·rw [if_pos hp] at h
  exact half_pos _ at_ dir weight W _ (by simpa using hp) (leave_of k W0 B bt w A c l v0 v1 vs es at_ dir weight W r come hcome HC hc HS h)
 ·rw [if_neg hp] at h; cases h
  refine (half_no _ at_ dir weight W (by simpa using hp)).mono ?_
  rintro e w' ⟨rfl, rfl⟩
  exact ⟨rfl, _, _, HS⟩


open Go.Proofs.Ytejgohgmmndgbaa.HandA
set_option maxHeartbeats 8000000 in
set_option maxRecDepth 100000 in
theorem come_zero (p : Value) (at_ dir : Int) (W : World) : Calls Try.prog 77 #[p, .int .i64 at_, .int .i64 dir, .int .i64 0] W fun e w' => e = .returned (.tuple #[]) ∧ w' = W := by
 go_enter Try.func77, Try.ntmps77
 go_wp2
 refine bodyPost_ret (results_none rfl _ _ _) rfl ?_
 exact ⟨rfl, rfl⟩
set_option maxHeartbeats 8000000 in
set_option maxRecDepth 100000 in
theorem come_wall (k q : Nat) (W0 : World) (B bt : Nat) (w : Int) (A : Option Addr) (c : Nat) (l : List S57) (v0 v1 : Value) (vs : List S50) (es : List S55) (at_ dir weight : Int) (W : World)  (HC : ∀ W', Below B W0 W' → Kd.C k57 W' A l.length l) (hc : l.length ≤ c) (HS : WalkSt W0 W B bt w A l.length c v0 v1 vs es) (hw : (weight == 0) = false) (hw0 : 0 ≤ weight) (hw1 : weight ≤ 1000) (p5 : 0 ≤ at_) (q5 : at_ < (l.length : Int)) (hl1 : vs.length ≤ 1000000) (hl2 : es.length ≤ 999990) (hkd : (rd_T57 l at_).f0 = 1) :
  Calls Try.prog 77 #[.pointer (some ⟨bt, 0, none⟩), .int .i64 at_, .int .i64 dir, .int .i64 weight] W fun e w' => e = .returned (.tuple #[]) ∧ ∃ v0' v1' : Value, WalkSt W0 w' B bt w A l.length c v0' v1' (vs ++ [⟨at_, dir, weight⟩]) (endV es 1 at_ weight) := by
 obtain ⟨A0, c0, rfl⟩ := Kd.R_slice HS.rv
 obtain ⟨ad0, eA, _, _⟩ := at_T57 (HC _ HS.bl) at_ p5 q5
 subst eA
 have H := Zs.mk HS
 have HC := Zs.mk HC
 have t0 : W.cell? ⟨bt, 2, none⟩ = some (.slice A0 vs.length c0) := (kCe HS.hbt 2).trans rfl
 clear HS
 go_enter Try.func77, Try.ntmps77
 go_wp2_with (first | (go_at_call 97; refine (walkEnd W0 B bt w (.slice (some ad0) l.length c) _ v1 es 1 at_ weight _ H3.out.hbt H3.out.re H3.out.bl H3.out.hb zq37).mono ?_; rintro e w4 ⟨rfl, v1', g1, g2, g3, g4⟩; have H4 := Zs.mk (H3.out.ended g1 g2 g3 g4); clear g1 g2 g3 g4) | (at_builtin; refine Kd.R_append k50 (w0 := W0) B rfl (.tmp 16) (.tmp 21) 46 50 (.agg #[.int .i64 0, .int .i64 0, .int .i64 0]) 24 rfl Try.underlying46 infoVisit rfl zq31 zq37 (.slice A0 vs.length c0) vs ⟨at_, dir, weight⟩ [.int .i64 at_, .int .i64 dir, .int .i64 weight] (fun k => k ≠ bt) (fun _ => False) rfl rfl ?aP (fun _ hk => hk.elim) ?aF ?aO ?aB ?aS ?aL ?_; (case aP => exact k50_mkM _ _ _ _); (case aF => exact (fun k hk => by have := blk_lt H.out.hbt; omega)); (case aO => exact H.out.rv); (case aB => exact H.out.bl); (case aS => have := blk_lt H.out.hbt; have := H.out.hb; omega); (case aL => omega); intro v0' w3 ho hb hg hat; obtain ⟨A2, c2, e2⟩ := Kd.R_slice ho; rw [List.length_append, List.length_singleton] at e2; subst e2; have bk3 := blk_grown H.out.hbt hg (fun e => R_ne_blk H.out.rv H.out.hbt zq31 e.symm); have f3 := kFr bk3 2; have t3 : w3.cell? ⟨bt, 2, none⟩ = some (.slice A0 vs.length c0) := (kCe bk3 2).trans rfl; have H3 := Zs.mk (H.out.visited ho hb hg); clear ho hb hg hat bk3; have d1 : (w3.setCell ⟨bt, 2, none⟩ (.slice A2 (vs.length + 1) c2)).cell? ⟨bt, 1, none⟩ = some (.slice (some ad0) l.length c) := (kCe H3.out.hbt 1).trans rfl; obtain ⟨ad5, e5, d3, d4⟩ := at_T57 (HC.out _ H3.out.bl) at_ p5 q5; cases e5; rw [hkd] at d3))
 go_end0
 exact ⟨rfl, _, _, H4.out⟩
set_option maxHeartbeats 8000000 in
set_option maxRecDepth 100000 in
theorem come_lamp (k q : Nat) (W0 : World) (B bt : Nat) (w : Int) (A : Option Addr) (c : Nat) (l : List S57) (v0 v1 : Value) (vs : List S50) (es : List S55) (at_ dir weight : Int) (W : World)  (HC : ∀ W', Below B W0 W' → Kd.C k57 W' A l.length l) (hc : l.length ≤ c) (HS : WalkSt W0 W B bt w A l.length c v0 v1 vs es) (hw : (weight == 0) = false) (hw0 : 0 ≤ weight) (hw1 : weight ≤ 1000) (p5 : 0 ≤ at_) (q5 : at_ < (l.length : Int)) (hl1 : vs.length ≤ 1000000) (hl2 : es.length ≤ 999990) (hkd : (rd_T57 l at_).f0 = 7) :
  Calls Try.prog 77 #[.pointer (some ⟨bt, 0, none⟩), .int .i64 at_, .int .i64 dir, .int .i64 weight] W fun e w' => e = .returned (.tuple #[]) ∧ ∃ v0' v1' : Value, WalkSt W0 w' B bt w A l.length c v0' v1' (vs ++ [⟨at_, dir, weight⟩]) (endV es 2 at_ weight) := by
 obtain ⟨A0, c0, rfl⟩ := Kd.R_slice HS.rv
 obtain ⟨ad0, eA, _, _⟩ := at_T57 (HC _ HS.bl) at_ p5 q5
 subst eA
 have H := Zs.mk HS
 have HC := Zs.mk HC
 have t0 : W.cell? ⟨bt, 2, none⟩ = some (.slice A0 vs.length c0) := (kCe HS.hbt 2).trans rfl
 clear HS
 go_enter Try.func77, Try.ntmps77
 go_wp2_with (first | (go_at_call 97; refine (walkEnd W0 B bt w (.slice (some ad0) l.length c) _ v1 es 2 at_ weight _ H3.out.hbt H3.out.re H3.out.bl H3.out.hb zq37).mono ?_; rintro e w4 ⟨rfl, v1', g1, g2, g3, g4⟩; have H4 := Zs.mk (H3.out.ended g1 g2 g3 g4); clear g1 g2 g3 g4) | (at_builtin; refine Kd.R_append k50 (w0 := W0) B rfl (.tmp 16) (.tmp 21) 46 50 (.agg #[.int .i64 0, .int .i64 0, .int .i64 0]) 24 rfl Try.underlying46 infoVisit rfl zq31 zq37 (.slice A0 vs.length c0) vs ⟨at_, dir, weight⟩ [.int .i64 at_, .int .i64 dir, .int .i64 weight] (fun k => k ≠ bt) (fun _ => False) rfl rfl ?aP (fun _ hk => hk.elim) ?aF ?aO ?aB ?aS ?aL ?_; (case aP => exact k50_mkM _ _ _ _); (case aF => exact (fun k hk => by have := blk_lt H.out.hbt; omega)); (case aO => exact H.out.rv); (case aB => exact H.out.bl); (case aS => have := blk_lt H.out.hbt; have := H.out.hb; omega); (case aL => omega); intro v0' w3 ho hb hg hat; obtain ⟨A2, c2, e2⟩ := Kd.R_slice ho; rw [List.length_append, List.length_singleton] at e2; subst e2; have bk3 := blk_grown H.out.hbt hg (fun e => R_ne_blk H.out.rv H.out.hbt zq31 e.symm); have f3 := kFr bk3 2; have t3 : w3.cell? ⟨bt, 2, none⟩ = some (.slice A0 vs.length c0) := (kCe bk3 2).trans rfl; have H3 := Zs.mk (H.out.visited ho hb hg); clear ho hb hg hat bk3; have d1 : (w3.setCell ⟨bt, 2, none⟩ (.slice A2 (vs.length + 1) c2)).cell? ⟨bt, 1, none⟩ = some (.slice (some ad0) l.length c) := (kCe H3.out.hbt 1).trans rfl; obtain ⟨ad5, e5, d3, d4⟩ := at_T57 (HC.out _ H3.out.bl) at_ p5 q5; cases e5; rw [hkd] at d3))
 go_end0
 exact ⟨rfl, _, _, H4.out⟩
set_option maxHeartbeats 8000000 in
set_option maxRecDepth 100000 in
theorem come_dim (k q : Nat) (W0 : World) (B bt : Nat) (w : Int) (A : Option Addr) (c : Nat) (l : List S57) (v0 v1 : Value) (vs : List S50) (es : List S55) (at_ dir weight : Int) (W : World)  (HC : ∀ W', Below B W0 W' → Kd.C k57 W' A l.length l) (hc : l.length ≤ c) (HS : WalkSt W0 W B bt w A l.length c v0 v1 vs es) (hw : (weight == 0) = false) (hw0 : 0 ≤ weight) (hw1 : weight ≤ 1000) (p5 : 0 ≤ at_) (q5 : at_ < (l.length : Int)) (hl1 : vs.length ≤ 1000000) (hl2 : es.length ≤ 999990) (hkd : (rd_T57 l at_).f0 = 6) (r : List S50 × List S55) (hcome : ∀ at_ dir weight vs es v0 v1 r W, comeF k w l q at_ dir weight vs es = some r → WalkSt W0 W B bt w A l.length c v0 v1 vs es → Calls Try.prog 77 #[.pointer (some ⟨bt, 0, none⟩), .int .i64 at_, .int .i64 dir, .int .i64 weight] W fun e w' => e = .returned (.tuple #[]) ∧ ∃ v0' v1' : Value, WalkSt W0 w' B bt w A l.length c v0' v1' r.1 r.2) (hq : halfF k w l (comeF k w l q) at_ dir (weight / 2) (vs ++ [⟨at_, dir, weight⟩]) (endV es 3 at_ (weight - weight / 2)) = some r) :
  Calls Try.prog 77 #[.pointer (some ⟨bt, 0, none⟩), .int .i64 at_, .int .i64 dir, .int .i64 weight] W fun e w' => e = .returned (.tuple #[]) ∧ ∃ v0' v1' : Value, WalkSt W0 w' B bt w A l.length c v0' v1' r.1 r.2 := by
 obtain ⟨A0, c0, rfl⟩ := Kd.R_slice HS.rv
 obtain ⟨ad0, eA, _, _⟩ := at_T57 (HC _ HS.bl) at_ p5 q5
 subst eA
 have H := Zs.mk HS
 have HC := Zs.mk HC
 have t0 : W.cell? ⟨bt, 2, none⟩ = some (.slice A0 vs.length c0) := (kCe HS.hbt 2).trans rfl
 clear HS
 have hq := Zs.mk hq
 have hcome := Zs.mk hcome
 go_enter Try.func77, Try.ntmps77
 go_wp2_with (first | (go_at_call 98; refine (half_of k W0 B bt w (some ad0) c l _ _ _ _ at_ dir (weight / 2) _ r (comeF k w l q) hcome.out HC.out hc H4.out hq.out).mono ?_; rintro e w5 ⟨rfl, vaw5, vbw5, hw5⟩; have H5 := Zs.mk hw5; clear hw5) | (go_at_call 97; refine (walkEnd W0 B bt w (.slice (some ad0) l.length c) _ v1 es 3 at_ (weight - weight / 2) _ H3.out.hbt H3.out.re H3.out.bl H3.out.hb zq37).mono ?_; rintro e w4 ⟨rfl, v1', g1, g2, g3, g4⟩; have H4 := Zs.mk (H3.out.ended g1 g2 g3 g4); clear g1 g2 g3 g4) | (at_builtin; refine Kd.R_append k50 (w0 := W0) B rfl (.tmp 16) (.tmp 21) 46 50 (.agg #[.int .i64 0, .int .i64 0, .int .i64 0]) 24 rfl Try.underlying46 infoVisit rfl zq31 zq37 (.slice A0 vs.length c0) vs ⟨at_, dir, weight⟩ [.int .i64 at_, .int .i64 dir, .int .i64 weight] (fun k => k ≠ bt) (fun _ => False) rfl rfl ?aP (fun _ hk => hk.elim) ?aF ?aO ?aB ?aS ?aL ?_; (case aP => exact k50_mkM _ _ _ _); (case aF => exact (fun k hk => by have := blk_lt H.out.hbt; omega)); (case aO => exact H.out.rv); (case aB => exact H.out.bl); (case aS => have := blk_lt H.out.hbt; have := H.out.hb; omega); (case aL => omega); intro v0' w3 ho hb hg hat; obtain ⟨A2, c2, e2⟩ := Kd.R_slice ho; rw [List.length_append, List.length_singleton] at e2; subst e2; have bk3 := blk_grown H.out.hbt hg (fun e => R_ne_blk H.out.rv H.out.hbt zq31 e.symm); have f3 := kFr bk3 2; have t3 : w3.cell? ⟨bt, 2, none⟩ = some (.slice A0 vs.length c0) := (kCe bk3 2).trans rfl; have H3 := Zs.mk (H.out.visited ho hb hg); clear ho hb hg hat bk3; have d1 : (w3.setCell ⟨bt, 2, none⟩ (.slice A2 (vs.length + 1) c2)).cell? ⟨bt, 1, none⟩ = some (.slice (some ad0) l.length c) := (kCe H3.out.hbt 1).trans rfl; obtain ⟨ad5, e5, d3, d4⟩ := at_T57 (HC.out _ H3.out.bl) at_ p5 q5; cases e5; rw [hkd] at d3))
 go_end0
 exact ⟨rfl, _, _, H5.out⟩
set_option maxHeartbeats 8000000 in
set_option maxRecDepth 100000 in
theorem come_glass (k q : Nat) (W0 : World) (B bt : Nat) (w : Int) (A : Option Addr) (c : Nat) (l : List S57) (v0 v1 : Value) (vs : List S50) (es : List S55) (at_ dir weight : Int) (W : World)  (HC : ∀ W', Below B W0 W' → Kd.C k57 W' A l.length l) (hc : l.length ≤ c) (HS : WalkSt W0 W B bt w A l.length c v0 v1 vs es) (hw : (weight == 0) = false) (hw0 : 0 ≤ weight) (hw1 : weight ≤ 1000) (p5 : 0 ≤ at_) (q5 : at_ < (l.length : Int)) (hl1 : vs.length ≤ 1000000) (hl2 : es.length ≤ 999990) (hkd : (rd_T57 l at_).f0 = 4) (r1 r : List S50 × List S55) (dd : Int) (hcome : ∀ at_ dir weight vs es v0 v1 r W, comeF k w l q at_ dir weight vs es = some r → WalkSt W0 W B bt w A l.length c v0 v1 vs es → Calls Try.prog 77 #[.pointer (some ⟨bt, 0, none⟩), .int .i64 at_, .int .i64 dir, .int .i64 weight] W fun e w' => e = .returned (.tuple #[]) ∧ ∃ v0' v1' : Value, WalkSt W0 w' B bt w A l.length c v0' v1' r.1 r.2) (hq : halfF k w l (comeF k w l q) at_ dir (weight / 2) (vs ++ [⟨at_, dir, weight⟩]) (endV es 3 at_ (weight - 2 * (weight / 2))) = some r1) (hdd : spec_DirTurn.f k 4 dir = some dd) (hq2 : halfF k w l (comeF k w l q) at_ dd (weight / 2) r1.1 r1.2 = some r) :
  Calls Try.prog 77 #[.pointer (some ⟨bt, 0, none⟩), .int .i64 at_, .int .i64 dir, .int .i64 weight] W fun e w' => e = .returned (.tuple #[]) ∧ ∃ v0' v1' : Value, WalkSt W0 w' B bt w A l.length c v0' v1' r.1 r.2 := by
 obtain ⟨A0, c0, rfl⟩ := Kd.R_slice HS.rv
 obtain ⟨ad0, eA, _, _⟩ := at_T57 (HC _ HS.bl) at_ p5 q5
 subst eA
 have H := Zs.mk HS
 have HC := Zs.mk HC
 have t0 : W.cell? ⟨bt, 2, none⟩ = some (.slice A0 vs.length c0) := (kCe HS.hbt 2).trans rfl
 clear HS
 have hq := Zs.mk hq
 have hq2 := Zs.mk hq2
 have hdd := Zs.mk hdd
 have hcome := Zs.mk hcome
 go_enter Try.func77, Try.ntmps77
 go_wp2_with (first | (go_at_call 98; refine (half_of k W0 B bt w (some ad0) c l _ _ _ _ at_ dd (weight / 2) _ r (comeF k w l q) hcome.out HC.out hc H6.out hq2.out).mono ?_; rintro e w7 ⟨rfl, vaw7, vbw7, hw7⟩; have H7 := Zs.mk hw7; clear hw7) | (go_at_call 99; refine (spec_DirTurn.calls k 4 dir dd _ hdd.out).mono ?_; rintro e w6 ⟨rfl, hdw6⟩; have H6 := Zs.mk (H5.out.below (drawn_below0 hdw6)); clear hdw6) | (go_at_call 98; refine (half_of k W0 B bt w (some ad0) c l _ _ _ _ at_ dir (weight / 2) _ r1 (comeF k w l q) hcome.out HC.out hc H4.out hq.out).mono ?_; rintro e w5 ⟨rfl, vaw5, vbw5, hw5⟩; have H5 := Zs.mk hw5; clear hw5) | (go_at_call 97; refine (walkEnd W0 B bt w (.slice (some ad0) l.length c) _ v1 es 3 at_ (weight - 2 * (weight / 2)) _ H3.out.hbt H3.out.re H3.out.bl H3.out.hb zq37).mono ?_; rintro e w4 ⟨rfl, v1', g1, g2, g3, g4⟩; have H4 := Zs.mk (H3.out.ended g1 g2 g3 g4); clear g1 g2 g3 g4) | (at_builtin; refine Kd.R_append k50 (w0 := W0) B rfl (.tmp 16) (.tmp 21) 46 50 (.agg #[.int .i64 0, .int .i64 0, .int .i64 0]) 24 rfl Try.underlying46 infoVisit rfl zq31 zq37 (.slice A0 vs.length c0) vs ⟨at_, dir, weight⟩ [.int .i64 at_, .int .i64 dir, .int .i64 weight] (fun k => k ≠ bt) (fun _ => False) rfl rfl ?aP (fun _ hk => hk.elim) ?aF ?aO ?aB ?aS ?aL ?_; (case aP => exact k50_mkM _ _ _ _); (case aF => exact (fun k hk => by have := blk_lt H.out.hbt; omega)); (case aO => exact H.out.rv); (case aB => exact H.out.bl); (case aS => have := blk_lt H.out.hbt; have := H.out.hb; omega); (case aL => omega); intro v0' w3 ho hb hg hat; obtain ⟨A2, c2, e2⟩ := Kd.R_slice ho; rw [List.length_append, List.length_singleton] at e2; subst e2; have bk3 := blk_grown H.out.hbt hg (fun e => R_ne_blk H.out.rv H.out.hbt zq31 e.symm); have f3 := kFr bk3 2; have t3 : w3.cell? ⟨bt, 2, none⟩ = some (.slice A0 vs.length c0) := (kCe bk3 2).trans rfl; have H3 := Zs.mk (H.out.visited ho hb hg); clear ho hb hg hat bk3; have d1 : (w3.setCell ⟨bt, 2, none⟩ (.slice A2 (vs.length + 1) c2)).cell? ⟨bt, 1, none⟩ = some (.slice (some ad0) l.length c) := (kCe H3.out.hbt 1).trans rfl; obtain ⟨ad5, e5, d3, d4⟩ := at_T57 (HC.out _ H3.out.bl) at_ p5 q5; cases e5; rw [hkd] at d3))
 go_end0
 exact ⟨rfl, _, _, H7.out⟩
set_option maxHeartbeats 8000000 in
set_option maxRecDepth 100000 in
theorem come_pane (k q : Nat) (W0 : World) (B bt : Nat) (w : Int) (A : Option Addr) (c : Nat) (l : List S57) (v0 v1 : Value) (vs : List S50) (es : List S55) (at_ dir weight : Int) (W : World)  (HC : ∀ W', Below B W0 W' → Kd.C k57 W' A l.length l) (hc : l.length ≤ c) (HS : WalkSt W0 W B bt w A l.length c v0 v1 vs es) (hw : (weight == 0) = false) (hw0 : 0 ≤ weight) (hw1 : weight ≤ 1000) (p5 : 0 ≤ at_) (q5 : at_ < (l.length : Int)) (hl1 : vs.length ≤ 1000000) (hl2 : es.length ≤ 999990) (hkd : (rd_T57 l at_).f0 = 5) (r1 r : List S50 × List S55) (dd : Int) (hcome : ∀ at_ dir weight vs es v0 v1 r W, comeF k w l q at_ dir weight vs es = some r → WalkSt W0 W B bt w A l.length c v0 v1 vs es → Calls Try.prog 77 #[.pointer (some ⟨bt, 0, none⟩), .int .i64 at_, .int .i64 dir, .int .i64 weight] W fun e w' => e = .returned (.tuple #[]) ∧ ∃ v0' v1' : Value, WalkSt W0 w' B bt w A l.length c v0' v1' r.1 r.2) (hq : halfF k w l (comeF k w l q) at_ dir (weight / 2) (vs ++ [⟨at_, dir, weight⟩]) (endV es 3 at_ (weight - 2 * (weight / 2))) = some r1) (hdd : spec_DirTurn.f k 5 dir = some dd) (hq2 : halfF k w l (comeF k w l q) at_ dd (weight / 2) r1.1 r1.2 = some r) :
  Calls Try.prog 77 #[.pointer (some ⟨bt, 0, none⟩), .int .i64 at_, .int .i64 dir, .int .i64 weight] W fun e w' => e = .returned (.tuple #[]) ∧ ∃ v0' v1' : Value, WalkSt W0 w' B bt w A l.length c v0' v1' r.1 r.2 := by
 obtain ⟨A0, c0, rfl⟩ := Kd.R_slice HS.rv
 obtain ⟨ad0, eA, _, _⟩ := at_T57 (HC _ HS.bl) at_ p5 q5
 subst eA
 have H := Zs.mk HS
 have HC := Zs.mk HC
 have t0 : W.cell? ⟨bt, 2, none⟩ = some (.slice A0 vs.length c0) := (kCe HS.hbt 2).trans rfl
 clear HS
 have hq := Zs.mk hq
 have hq2 := Zs.mk hq2
 have hdd := Zs.mk hdd
 have hcome := Zs.mk hcome
 go_enter Try.func77, Try.ntmps77
 go_wp2_with (first | (go_at_call 98; refine (half_of k W0 B bt w (some ad0) c l _ _ _ _ at_ dd (weight / 2) _ r (comeF k w l q) hcome.out HC.out hc H6.out hq2.out).mono ?_; rintro e w7 ⟨rfl, vaw7, vbw7, hw7⟩; have H7 := Zs.mk hw7; clear hw7) | (go_at_call 99; refine (spec_DirTurn.calls k 5 dir dd _ hdd.out).mono ?_; rintro e w6 ⟨rfl, hdw6⟩; have H6 := Zs.mk (H5.out.below (drawn_below0 hdw6)); clear hdw6) | (go_at_call 98; refine (half_of k W0 B bt w (some ad0) c l _ _ _ _ at_ dir (weight / 2) _ r1 (comeF k w l q) hcome.out HC.out hc H4.out hq.out).mono ?_; rintro e w5 ⟨rfl, vaw5, vbw5, hw5⟩; have H5 := Zs.mk hw5; clear hw5) | (go_at_call 97; refine (walkEnd W0 B bt w (.slice (some ad0) l.length c) _ v1 es 3 at_ (weight - 2 * (weight / 2)) _ H3.out.hbt H3.out.re H3.out.bl H3.out.hb zq37).mono ?_; rintro e w4 ⟨rfl, v1', g1, g2, g3, g4⟩; have H4 := Zs.mk (H3.out.ended g1 g2 g3 g4); clear g1 g2 g3 g4) | (at_builtin; refine Kd.R_append k50 (w0 := W0) B rfl (.tmp 16) (.tmp 21) 46 50 (.agg #[.int .i64 0, .int .i64 0, .int .i64 0]) 24 rfl Try.underlying46 infoVisit rfl zq31 zq37 (.slice A0 vs.length c0) vs ⟨at_, dir, weight⟩ [.int .i64 at_, .int .i64 dir, .int .i64 weight] (fun k => k ≠ bt) (fun _ => False) rfl rfl ?aP (fun _ hk => hk.elim) ?aF ?aO ?aB ?aS ?aL ?_; (case aP => exact k50_mkM _ _ _ _); (case aF => exact (fun k hk => by have := blk_lt H.out.hbt; omega)); (case aO => exact H.out.rv); (case aB => exact H.out.bl); (case aS => have := blk_lt H.out.hbt; have := H.out.hb; omega); (case aL => omega); intro v0' w3 ho hb hg hat; obtain ⟨A2, c2, e2⟩ := Kd.R_slice ho; rw [List.length_append, List.length_singleton] at e2; subst e2; have bk3 := blk_grown H.out.hbt hg (fun e => R_ne_blk H.out.rv H.out.hbt zq31 e.symm); have f3 := kFr bk3 2; have t3 : w3.cell? ⟨bt, 2, none⟩ = some (.slice A0 vs.length c0) := (kCe bk3 2).trans rfl; have H3 := Zs.mk (H.out.visited ho hb hg); clear ho hb hg hat bk3; have d1 : (w3.setCell ⟨bt, 2, none⟩ (.slice A2 (vs.length + 1) c2)).cell? ⟨bt, 1, none⟩ = some (.slice (some ad0) l.length c) := (kCe H3.out.hbt 1).trans rfl; obtain ⟨ad5, e5, d3, d4⟩ := at_T57 (HC.out _ H3.out.bl) at_ p5 q5; cases e5; rw [hkd] at d3))
 go_end0
 exact ⟨rfl, _, _, H7.out⟩
set_option maxHeartbeats 8000000 in
set_option maxRecDepth 100000 in
theorem come_on (k q : Nat) (W0 : World) (B bt : Nat) (w : Int) (A : Option Addr) (c : Nat) (l : List S57) (v0 v1 : Value) (vs : List S50) (es : List S55) (at_ dir weight : Int) (W : World) (kd : Int) (HC : ∀ W', Below B W0 W' → Kd.C k57 W' A l.length l) (hc : l.length ≤ c) (HS : WalkSt W0 W B bt w A l.length c v0 v1 vs es) (hw : (weight == 0) = false) (hw0 : 0 ≤ weight) (hw1 : weight ≤ 1000) (p5 : 0 ≤ at_) (q5 : at_ < (l.length : Int)) (hl1 : vs.length ≤ 1000000) (hl2 : es.length ≤ 999990) (hkd : (rd_T57 l at_).f0 = kd) (k1 : (kd == 1) = false) (k7 : (kd == 7) = false) (k6 : (kd == 6) = false) (k4 : (kd == 4) = false) (k5 : (kd == 5) = false) (r : List S50 × List S55) (dd : Int) (hcome : ∀ at_ dir weight vs es v0 v1 r W, comeF k w l q at_ dir weight vs es = some r → WalkSt W0 W B bt w A l.length c v0 v1 vs es → Calls Try.prog 77 #[.pointer (some ⟨bt, 0, none⟩), .int .i64 at_, .int .i64 dir, .int .i64 weight] W fun e w' => e = .returned (.tuple #[]) ∧ ∃ v0' v1' : Value, WalkSt W0 w' B bt w A l.length c v0' v1' r.1 r.2) (hdd : spec_DirTurn.f k kd dir = some dd) (hq : leaveF k w l (comeF k w l q) at_ dd weight (vs ++ [⟨at_, dir, weight⟩]) es = some r) :
  Calls Try.prog 77 #[.pointer (some ⟨bt, 0, none⟩), .int .i64 at_, .int .i64 dir, .int .i64 weight] W fun e w' => e = .returned (.tuple #[]) ∧ ∃ v0' v1' : Value, WalkSt W0 w' B bt w A l.length c v0' v1' r.1 r.2 := by
 obtain ⟨A0, c0, rfl⟩ := Kd.R_slice HS.rv
 obtain ⟨ad0, eA, _, _⟩ := at_T57 (HC _ HS.bl) at_ p5 q5
 subst eA
 have H := Zs.mk HS
 have HC := Zs.mk HC
 have t0 : W.cell? ⟨bt, 2, none⟩ = some (.slice A0 vs.length c0) := (kCe HS.hbt 2).trans rfl
 clear HS
 have hq := Zs.mk hq
 have hdd := Zs.mk hdd
 have hcome := Zs.mk hcome
 go_enter Try.func77, Try.ntmps77
 go_wp2_with (first | (go_at_call 100; refine (leave_of k W0 B bt w (some ad0) c l _ _ _ _ at_ dd weight _ r (comeF k w l q) hcome.out HC.out hc H4.out hq.out).mono ?_; rintro e w5 ⟨rfl, va, vb, h5⟩; have H5 := Zs.mk h5; clear h5) | (go_at_call 99; refine (spec_DirTurn.calls k kd dir dd _ hdd.out).mono ?_; rintro e w4 ⟨rfl, hdw4⟩; have H4 := Zs.mk (H3.out.below (drawn_below0 hdw4)); clear hdw4) | (at_builtin; refine Kd.R_append k50 (w0 := W0) B rfl (.tmp 16) (.tmp 21) 46 50 (.agg #[.int .i64 0, .int .i64 0, .int .i64 0]) 24 rfl Try.underlying46 infoVisit rfl zq31 zq37 (.slice A0 vs.length c0) vs ⟨at_, dir, weight⟩ [.int .i64 at_, .int .i64 dir, .int .i64 weight] (fun k => k ≠ bt) (fun _ => False) rfl rfl ?aP (fun _ hk => hk.elim) ?aF ?aO ?aB ?aS ?aL ?_; (case aP => exact k50_mkM _ _ _ _); (case aF => exact (fun k hk => by have := blk_lt H.out.hbt; omega)); (case aO => exact H.out.rv); (case aB => exact H.out.bl); (case aS => have := blk_lt H.out.hbt; have := H.out.hb; omega); (case aL => omega); intro v0' w3 ho hb hg hat; obtain ⟨A2, c2, e2⟩ := Kd.R_slice ho; rw [List.length_append, List.length_singleton] at e2; subst e2; have bk3 := blk_grown H.out.hbt hg (fun e => R_ne_blk H.out.rv H.out.hbt zq31 e.symm); have f3 := kFr bk3 2; have t3 : w3.cell? ⟨bt, 2, none⟩ = some (.slice A0 vs.length c0) := (kCe bk3 2).trans rfl; have H3 := Zs.mk (H.out.visited ho hb hg); clear ho hb hg hat bk3; have d1 : (w3.setCell ⟨bt, 2, none⟩ (.slice A2 (vs.length + 1) c2)).cell? ⟨bt, 1, none⟩ = some (.slice (some ad0) l.length c) := (kCe H3.out.hbt 1).trans rfl; obtain ⟨ad5, e5, d3, d4⟩ := at_T57 (HC.out _ H3.out.bl) at_ p5 q5; cases e5; rw [hkd] at d3))
 go_end0
 exact ⟨rfl, _, _, H5.out⟩
theorem come_all (k : Nat) (W0 : World) (B bt : Nat) (w : Int) (A : Option Addr) (c : Nat) (l : List S57) (HC : ∀ W', Below B W0 W' → Kd.C k57 W' A l.length l) (hc : l.length ≤ c) : ∀ (q : Nat) (at_ dir weight : Int) (vs : List S50) (es : List S55) (v0 v1 : Value) (r : List S50 × List S55) (W : World), comeF k w l q at_ dir weight vs es = some r → WalkSt W0 W B bt w A l.length c v0 v1 vs es →
  Calls Try.prog 77 #[.pointer (some ⟨bt, 0, none⟩), .int .i64 at_, .int .i64 dir, .int .i64 weight] W fun e w' => e = .returned (.tuple #[]) ∧ ∃ v0' v1' : Value, WalkSt W0 w' B bt w A l.length c v0' v1' r.1 r.2
 | 0, _, _, _, _, _, _, _, _, _, h, _ => by simp [comeF] at h
 | q + 1, at_, dir, weight, vs, es, v0, v1, r, W, h, HS => by
  have ih := come_all k W0 B bt w A c l HC hc q
  rw [comeF] at h
  by_cases hw : weight = 0
  ·rw [if_pos hw] at h; cases h; subst hw
   refine (come_zero _ at_ dir W).mono ?_
   rintro e w' ⟨rfl, rfl⟩
   exact ⟨rfl, _, _, HS⟩
  rw [if_neg hw] at h
  by_cases hd : 0 ≤ at_ ∧ at_ < (l.length : Int) ∧ 0 ≤ weight ∧ weight ≤ 1000 ∧ vs.length ≤ 1000000 ∧ es.length ≤ 999990
  ·rw [if_pos hd] at h
   obtain ⟨p5, q5, hw0, hw1, hl1, hl2⟩ := hd
   have hw : (weight == 0) = false := by simpa using hw
   by_cases c1 : (rd_T57 l at_).f0 = 1
   ·rw [if_pos c1] at h; cases h
    exact come_wall k q W0 B bt w A c l v0 v1 vs es at_ dir weight W HC hc HS hw hw0 hw1 p5 q5 hl1 hl2 c1
   rw [if_neg c1] at h
   by_cases c7 : (rd_T57 l at_).f0 = 7
   ·rw [if_pos c7] at h; cases h
    exact come_lamp k q W0 B bt w A c l v0 v1 vs es at_ dir weight W HC hc HS hw hw0 hw1 p5 q5 hl1 hl2 c7
   rw [if_neg c7] at h
   by_cases c6 : (rd_T57 l at_).f0 = 6
   ·rw [if_pos c6] at h
    exact come_dim k q W0 B bt w A c l v0 v1 vs es at_ dir weight W HC hc HS hw hw0 hw1 p5 q5 hl1 hl2 c6 r ih h
   rw [if_neg c6] at h
   by_cases c4 : (rd_T57 l at_).f0 = 4
   ·rw [if_pos (.inl c4), c4] at h
    obtain ⟨r1, h1, h⟩ := Option.bind_eq_some_iff.1 h
    obtain ⟨dd, hdd, h⟩ := Option.bind_eq_some_iff.1 h
    exact come_glass k q W0 B bt w A c l v0 v1 vs es at_ dir weight W HC hc HS hw hw0 hw1 p5 q5 hl1 hl2 c4 r1 r dd ih h1 hdd h
   by_cases c5 : (rd_T57 l at_).f0 = 5
   ·rw [if_pos (.inr c5), c5] at h
    obtain ⟨r1, h1, h⟩ := Option.bind_eq_some_iff.1 h
    obtain ⟨dd, hdd, h⟩ := Option.bind_eq_some_iff.1 h
    exact come_pane k q W0 B bt w A c l v0 v1 vs es at_ dir weight W HC hc HS hw hw0 hw1 p5 q5 hl1 hl2 c5 r1 r dd ih h1 hdd h
   rw [if_neg (by simp [c4, c5])] at h
   obtain ⟨dd, hdd, h⟩ := Option.bind_eq_some_iff.1 h
   exact come_on k q W0 B bt w A c l v0 v1 vs es at_ dir weight W _ HC hc HS hw hw0 hw1 p5 q5 hl1 hl2 rfl (by simpa using c1) (by simpa using c7) (by simpa using c6) (by simpa using c4) (by simpa using c5) r dd ih hdd h
  ·rw [if_neg hd] at h; cases h

end Go.Proofs.Ytejgohgmmndgbaa.PFnTrailTurn
--slim
