/- For every input the law returns true, and what came in reads as it did (the row of Rsm). No condition. Texts of this claim, joined: Wf, Wh, Rsm. -/
import Derived.Test.YtjpcfaddimlbdaaGreatM5
import Derived.Test.YtjpcfaddimlbdaaGreatRows
import Derived.Conc.LeavingOf
import Derived.WalkKit
import Derived.ProofKit
import Derived.OpenShut
import Derived.ShutString
import Derived.SizedLaws
import Derived.Lib.SmallJoins
namespace Go.Proofs.YtjpcfaddimlbdaaGreat.Id
open Go.Id Go.Conc Go.Conc.Lib
open Go.Proofs
set_option linter.unusedVariables false
set_option maxRecDepth 100000
section
variable {X:Ctx Tryz.prog} {lo:Nat}
theorem callE {P:Program} {X:Ctx P} {lo:Nat} {g:FuncId} {args:List Value} {h h₀:Hp} {K:Value→Hp→Prop} {Post:Value→Hp→Prop} (e:h=h₀) (h1:Tri X lo g args h₀ Post) (h2:∀ v h',Post v h'→K v h'):CallP X lo g args h K:=by
  subst e;exact callP h1 h2
theorem gx_snoc3 {α:Type} {enc:α→List Value} {sz base:Nat} {h:Hp} {o:Option (Nat×Nat)} {l:List α} (he:∀ x,(enc x).length=sz) (hz:sz≠0) (g:Gx base h enc sz o l) (hlo:lo≤base) (hb:base≤h.n) (hm:l.length+1≤Id.maxLen) (x:α) :
    ∃ o' h',SlCells (h.push (.cells (enc x) sz 0)) (.slice (some ⟨h.n,0,some 0⟩) 1 1) sz (enc x)∧Ap lo (h.push (.cells (enc x) sz 0)) sz (gv o l.length) (enc x) 1 (gv o' (l++[x]).length) h'∧Gx base h' enc sz o' (l++[x])∧h.n≤h'.n∧∀ i,i < base→h'.g i=h.g i:=by
  have e4:Ext h (h.push (.cells (enc x) sz 0)):=Ext.push _ _
  have g4:=g.ext e4
  have n4:=e4.n
  obtain ⟨o',h5,a1,a2,a3⟩:=(gx_lo (lo':=lo) g4 fun i hi=>by have:=(g4.lt hi).2;omega).apps he hz [x] (by simpa using hm) (by omega)
  have a3n:=a3.n
  refine ⟨o',h5,one_cells (he x),by simpa using a1,gx_lo a2 fun i hb' => ?_,by omega,fun i hi => ?_⟩
  · rcases a3.b i hb' with hb' | hb'
    · exact (g4.lt hb').2
    · omega
  · exact ((a3.g i (by omega) fun hb'=>by have:=(g4.lt hb').2;omega).trans (e4.g i (by omega)))
def DrawnSM (h:Hp) (v:Value) (h':Hp):Prop:=∃ (s:Sc) (ga la fa:Option Addr) (gf lf ff:Nat) (L:List Value) (es:List Ed) (ea:Option Addr) (ef:Nat),v = .tuple #[scV s ga la fa gf lf ff,.slice ea es.length ef]∧ScR h' s ga la fa L∧ScS s∧Sls h' edE 3 ea es∧es.length≤21∧Ext h h'
theorem DrawSceneMany_ok (a:Option Addr) (fl:Nat) (bs:List Nat) (h:Hp) (hs:Sls h uE 1 a bs) (hn:bs.length≤1048576) (hb:∀ b∈bs,b < 256):Tri X lo 50 [.slice a bs.length fl] h (DrawnSM h):=by
  refine enter tbOk mtOk ⟨[],[]⟩ 400 Tryz.func50 rfl rfl rfl fun hlo => ?_
  refine callP (l6Open_ok a fl bs h hs hn hb) ?_
  rintro v h1 ⟨rfl,r1,x1⟩
  refine callP (l71Scene_ok h.n 0 h1 r1 (by decide)) ?_
  rintro v h2 ⟨s,ga,la,fa,gf,lf,ff,L,p,rfl,d,b,r2,i2,x2⟩
  have n1:=x1.n
  have lt:=r1.lt
  have lt2:=r2.lt
  have e3:Ext h2 (h2.push (.cells (([]:List Ed).flatMap edE) 3 0)):=Ext.push _ _
  have w3:Row (h2.push (.cells (([]:List Ed).flatMap edE) 3 0)) h2.n 0 edE 3 []:=Row.push
  have r3:=r2.ext e3
  have hcs:=b.1
  have fin:∀ (h':Hp) (o:Option (Nat×Nat)) (es:List Ed),Gx h2.n h' edE 3 o es→Ext1 h.n h2 h'→es.length≤21→DrawnSM h (.tuple #[scV s ga la fa gf lf ff,gv o es.length]) h':=fun h' o es g x hl=>by
    obtain ⟨ea,ef,z,S⟩:=gx_slv g edE3
    rw [z]
    exact ⟨s,ga,la,fa,gf,lf,ff,L,es,ea,ef,rfl,(d.keep x (by omega)).r,b,S,hl,(x2.trans x).out x1 (Nat.le_refl _)⟩
  refine callE (by kernel_rfl) (pick_ok h.n p 6 _ r3 (by decide) (by omega)) ?_
  rintro v h4 ⟨q,rfl,q1,q2,_,r4,x4⟩
  have q2:=q2 (by decide)
  have n4:=x4.n
  refine loop (σ:=Nat×Option (Nat×Nat)×List Ed×Int) tbOk mtOk ⟨[],[]⟩ (fun t=>[(7,.v (.int .i64 (t.1:Int))),(6,.v (gv t.2.1 t.2.2.1.length)),(5,.l 1 0),(4,.v (.pointer (some ⟨h.n,0,none⟩))),(2,.l 0 0)]) (fun _=>[[.int .i64 0,.slice none 0 0,.slice none 0 0,.slice none 0 0],[.int .i64 s.g.w,.slice ga s.g.cs.length gf,.slice la s.li.length lf,.slice fa s.ft.length ff]]) (fun t h'=>t.1+t.2.2.1.length≤5∧Rd lo h' h.n t.2.2.2∧t.2.2.2+8*(t.1:Int)≤300∧Gx h2.n h' edE 3 t.2.1 t.2.2.1∧Ext1 h.n h2 h') (fun t=>t.1) 400 (q.toNat,some (h2.n,0),[],p+1) (fun _=>rfl) ⟨vI (by show q=(q.toNat:Int);omega),rfl,rfl,rfl,rfl,trivial⟩ ⟨rfl,rfl,trivial⟩ ⟨by show q.toNat+0≤5;omega,r4,by show p+1+8*(q.toNat:Int)≤300;omega,⟨Nat.le_refl _,w3.ext1 x4 (by omega)⟩,(e3.one h.n).trans x4⟩ (fun t h5 hI again => ?_)
  obtain ⟨n,o,es,p5⟩:=t
  obtain ⟨i1,r5,i2',g5,x5⟩:=hI
  simp only at i1 r5 i2' g5
  have n5:=x5.n
  refine cnd (fun c => ?_) (fun c => ?_)
  · have c:0 < n:=by simpa using c
    refine callP (l71Edit_ok h.n p5 s.g ga gf h5 r5 (by omega) (by omega)) ?_
    rintro v h6 ⟨e,p6,rfl,r6,i6,x6⟩
    have n6:=x6.n
    have g6:Gx h2.n h6 edE 3 o es:=g5.keep n6 fun i hi hb=>x6.g i hi (by have:=(g5.lt hb).2;omega)
    obtain ⟨o',h7,a1,a2,a3,a4,a5⟩:=gx_snoc3 (lo:=lo) edE3 (by decide) g6 (by omega) (by omega) (by unfold Id.maxLen;omega) e
    have hl:(es++[e]).length=es.length+1:=by simp
    refine ⟨edE e,a1,_,h7,a2,?_⟩
    have wq:IntKind.i64.wrap ((n:Int) - 1)=((n - 1:Nat):Int):=by rw [show ((n:Int) - 1)=((n - 1:Nat):Int) by omega];exact wz (by omega) (by omega)
    exact again (n - 1,o',es++[e],p6) _ _ _ (by show n - 1 < n;omega) ⟨vI wq,rfl,rfl,rfl,rfl,trivial⟩ ⟨rfl,rfl,trivial⟩ ⟨by show n - 1+(es++[e]).length≤5;omega,r6.keep a4 fun i hi=>a5 i (by omega),by show p6+8*((n - 1:Nat):Int)≤300;omega,a3,⟨by omega,fun i hi hne=>(a5 i hi).trans ((x6.g i (by omega) hne).trans (x5.g i hi hne))⟩⟩
  · refine callP (pick_ok h.n p5 40 h5 r5 (by decide) (by omega)) ?_
    rintro v h6 ⟨q',rfl,q1',q2',_,r6,x6⟩
    have n6:=x6.n
    have g6:Gx h2.n h6 edE 3 o es:=g5.keep n6 fun i hi hb=>x6.g i hi (by have:=(g5.lt hb).2;omega)
    have x6:=x5.trans x6
    refine cnd (fun c2 => ?_) (fun c2 => ?_)
    · refine loop (σ:=Option (Nat×Nat)×List Ed) tbOk mtOk ⟨[],[]⟩ (fun t=>[(6,.v (gv t.1 t.2.length)),(5,.l 1 0),(2,.l 0 0)]) (fun _=>[[.int .i64 0,.slice none 0 0,.slice none 0 0,.slice none 0 0],[.int .i64 s.g.w,.slice ga s.g.cs.length gf,.slice la s.li.length lf,.slice fa s.ft.length ff]]) (fun t h'=>t.2.length≤21∧Gx h2.n h' edE 3 t.1 t.2∧Ext1 h.n h2 h') (fun t=>21 - t.2.length) 400 (o,es) (fun _=>rfl) ⟨rfl,rfl,rfl,trivial⟩ ⟨rfl,rfl,trivial⟩ ⟨by show es.length≤21;omega,g6,x6⟩ (fun t h7 hI again => ?_)
      obtain ⟨o,es⟩:=t
      obtain ⟨i1,g7,x7⟩:=hI
      simp only at i1 g7
      have n7:=x7.n
      obtain ⟨ea,ef,z,S⟩:=gx_slv g7 edE3
      rw [z]
      refine cnd (fun c => ?_) (fun c => ?_)
      · have c:es.length≤20:=by have:=of_decide_eq_true c;omega
        obtain ⟨o',h8,a1,a2,a3,a4,a5⟩:=gx_snoc3 (lo:=lo) edE3 (by decide) g7 (by omega) (by omega) (by unfold Id.maxLen;omega) ((0,(0,0)):Ed)
        have hl:(es++[((0,(0,0)):Ed)]).length=es.length+1:=by simp
        rw [z] at a2
        refine ⟨edE (0,(0,0)),a1,_,h8,a2,?_⟩
        exact again (o',es++[(0,(0,0))]) _ _ _ (by show 21 - (es++[((0,(0,0)):Ed)]).length < 21 - es.length;omega) ⟨rfl,rfl,rfl,trivial⟩ ⟨rfl,rfl,trivial⟩ ⟨by show (es++[((0,(0,0)):Ed)]).length≤21;omega,a3,⟨by omega,fun i hi hne=>(a5 i hi).trans (x7.g i hi hne)⟩⟩
      · repeat refine And.intro Is.r ?_
        have F:=fin h7 o es g7 x7 i1
        rw [z] at F
        exact F
    · repeat refine And.intro Is.r ?_
      exact fin h6 o es g6 x6 (by omega)
end
end Go.Proofs.YtjpcfaddimlbdaaGreat.Id
namespace Go.Proofs.YtjpcfaddimlbdaaGreat.Id
open Go.Id Go.Conc Go.Conc.Lib
open Go.Proofs
set_option linter.unusedVariables false
set_option maxRecDepth 100000
variable {N0:Nat→Prop} {lo:Nat}
theorem step_eq {s:Sc} {es:List Ed} (hok:okS s es=true) {i:Nat} (hi:i < es.length):okS (scG (puts s.g (es.take i))) [es[i]]=true∧manyS (scG (puts s.g (es.take i))) [es[i]]=scG (puts s.g (es.take (i+1))):=by
  obtain ⟨hg,hsG,hall,_,_,_⟩:=many_eq hok
  have hal':∀ e∈es.take i,eOk s.g e=true:=fun e he=>hall e (List.mem_of_mem_take he)
  have hg':=puts_ok (es.take i) s.g hg hal'
  have he:eOk (puts s.g (es.take i)) es[i]=true:=by rw [eOk_len (puts_len _ _)];exact hall _ (List.getElem_mem hi)
  have hk:okS (scG (puts s.g (es.take i))) [es[i]]=true:=okS_iff.2 ⟨scOk_G hg',by simp,fun e h=>by simp only [List.mem_singleton] at h;subst h;exact he⟩
  refine ⟨hk,?_⟩
  obtain ⟨_,_,_,_,hM,_⟩:=many_eq hk
  rw [hM]
  have:puts (scG (puts s.g (es.take i))).g [es[i]]=puts s.g (es.take (i+1)):=by
    rw [List.take_succ_eq_append_getElem hi]
    show puts (puts s.g (es.take i)) [es[i]]=_
    unfold puts
    rw [List.foldl_append]
  rw [this]
theorem puts_B {s:Sc} {es:List Ed} (hok:okS s es=true) (i:Nat):ScB (scG (puts s.g (es.take i))):=by
  obtain ⟨hg,_,hall,_,_,_⟩:=many_eq hok
  exact scG_B (puts_ok (es.take i) s.g hg fun e he=>hall e (List.mem_of_mem_take he))
set_option maxHeartbeats 800000 in
theorem sceneMany_R (bs : List Nat) (a : Option Addr) (fl : Nat) (h : Hp) (hs : Sls h uE 1 a bs) (hb : ∀ b ∈ bs, b < 256) (hn : bs.length ≤ 9223372036854775807) (hlo : lo ≤ h.n) :
    R (mainCtx Tryz.prog N0) lo 11 Tryz.f11 (.ret fun v _ => v = .bool true) [.code (bodyC Tryz.f11)] (argsTm 0 [.slice a bs.length fl]) [] h := by
  refine more tbOk mtOk ⟨[], [(12, [0, 1, 2, 3, 4, 5, 6, 7, 8, 9, 10, 11, 12, 13], [0, 0, 0, 6, 14, 31, 63, 127, 127, 127, 0, 1279, 3583, 8191])]⟩ 500 ?_
  refine cnd (fun c1 => rfl) (fun c1 => ?_)
  have hm : bs.length ≤ 1048576 := by simp at c1; omega
  refine callP (DrawSceneMany_ok a fl bs h hs hm hb) ?_
  rintro v h1 ⟨s, ga, la, fa, gf, lf, ff, L, es, ea, ef, rfl, hR, hS, hE, hel, x1⟩
  have hB := hS.b
  refine Tri.r rfl (sSceneMany_ok s es ga la fa ea gf lf ff ef L h1 hR hB hE (by omega)) fun h2 wg wl wf wgf wlf wff L2 wa waf R2 S2 x2 => ?_
  refine Tri.r rfl (SceneMany_ok s es ga la fa ea gf lf ff ef L h2 (hR.ext x2) hB (hE.ext x2) (by omega)) fun h3 xg xl xf xgf xlf xff L3 xa xaf R3 S3 x3 => ?_
  have mB := many_B (s := s) (es := es)
  obtain ⟨k1, hk1⟩ : ∃ k1, k1 = okS s es := ⟨_, rfl⟩
  rw [← hk1]
  refine cnd (fun c => by simp at c) (fun _ => ?_)
  refine callP (llScene_ok _ _ xg xl xf wg wl wf xgf xlf xff wgf wlf wff L3 L2 h3 R3 (R2.ext x3) mB) ?_
  rintro v h3' ⟨rfl, rfl⟩
  refine cnd (fun c => by simp at c) (fun _ => ?_)
  refine callP (llInts_ok xa wa xaf waf _ _ h3' S3 (S2.ext x3) (seenO_len hB)) ?_
  rintro v h3 ⟨rfl, rfl⟩
  refine cnd (fun c => by simp at c) (fun _ => ?_)
  refine cnd (fun c1 => ?_) (fun c1 => ?_)
  · refine cnd (fun _ => ?_) (fun c => absurd c (by simp))
    refine callP (llScene_ok _ _ xg xl xf wg wl wf xgf xlf xff wgf wlf wff L3 L2 h3 R3 (R2.ext x3) mB) ?_
    rintro v h3' ⟨rfl, rfl⟩
    refine cnd (fun _ => ?_) (fun c => by simp at c)
    refine callP (llInts_ok xa wa xaf waf _ _ h3' S3 (S2.ext x3) (seenO_len hB)) ?_
    rintro v h3 ⟨rfl, rfl⟩
    exact congrArg Value.bool (decide_eq_true rfl)
  have hok : okS s es = true := by rw [← hk1]; simpa using c1
  have x23 := x2.trans x3
  have hR3 := hR.ext x23
  obtain ⟨hg, hsG, hall, hg1, hM, hSn⟩ := many_eq hok
  have h0 : ScR h3 (scG (puts s.g (es.take 0))) ga la fa L := by show ScR h3 (scG s.g) ga la fa L; rw [← hsG]; exact hR3
  have v0 : scV s ga la fa gf lf ff = scV (scG (puts s.g (es.take 0))) ga la fa gf lf ff := by show _ = scV (scG s.g) ga la fa gf lf ff; rw [← hsG]
  have c0 : cellsL (scV s ga la fa gf lf ff) = cellsL (scV (scG (puts s.g (es.take 0))) ga la fa gf lf ff) := by rw [← v0]
  refine loop (σ := Nat × Option Addr × Option Addr × Option Addr × Nat × Nat × Nat × List Value) tbOk mtOk ⟨[], []⟩ (fun t => [(12, .v (.int .i64 (t.1 : Int))), (11, .l 3 0), (8, .l 2 0), (4, .v (.slice ea es.length ef))]) (fun t => [cellsL (scV s ga la fa gf lf ff), cellsL (scV (manyS s es) wg wl wf wgf wlf wff), cellsL (scV (manyS s es) xg xl xf xgf xlf xff), cellsL (scV (scG (puts s.g (es.take t.1))) t.2.1 t.2.2.1 t.2.2.2.1 t.2.2.2.2.1 t.2.2.2.2.2.1 t.2.2.2.2.2.2.1)]) (fun t h' => t.1 ≤ es.length ∧ ScR h' (scG (puts s.g (es.take t.1))) t.2.1 t.2.2.1 t.2.2.2.1 t.2.2.2.2.2.2.2 ∧ Ext h3 h') (fun t => es.length - t.1) 400 (0, ga, la, fa, gf, lf, ff, L) (fun _ => rfl) ⟨rfl, rfl, rfl, rfl, trivial⟩ ⟨rfl, rfl, rfl, c0.symm, trivial⟩ ⟨Nat.zero_le _, h0, Ext.refl _⟩ (fun t h4 hI again => ?_)
  obtain ⟨i, ga', la', fa', gf', lf', ff', L'⟩ := t
  obtain ⟨i1, R4, x4⟩ := hI
  simp only at i1 R4
  refine cnd (fun c => ?_) (fun c => ?_)
  · have c : i < es.length := by simpa using c
    obtain ⟨ead, rfl⟩ := hE.some c
    obtain ⟨q1, q2⟩ := step_eq hok c
    have q3 := puts_B hok i
    refine drawE (σ := (Option Addr × Option Addr × Option Addr) × (Nat × Nat × Nat) × List Value) tbOk mtOk ⟨[], []⟩ 400 (.fl 0 (.fl 1 (.fl 2 (.fl 3 (.fl 4 (.ch 5 (.fl 6 (.fl 7 (.fl 8 (.fl 9 (.ch 10 (.ch 11 (.fl 12 (.fl 13 .fin)) .stop) .stop))))) (.ch 10 (.ch 5 (.fl 6 (.fl 7 (.fl 8 (.fl 9 (.ch 11 (.fl 12 (.fl 13 .fin)) .stop))))) .stop) .stop))))))) [0, 0, 0, 6, 14, 31, 63, 127, 127, 127, 0, 1279, 3583, 8191] (fun t => [(15, .v (.bool true)), (13, .l 4 0), (12, .v (.int .i64 (i : Int))), (11, .l 3 0), (8, .l 2 0), (4, .v (.slice (some ead) es.length ef))]) (fun t => [cellsL (scV s ga la fa gf lf ff), cellsL (scV (manyS s es) wg wl wf wgf wlf wff), cellsL (scV (manyS s es) xg xl xf xgf xlf xff), cellsL (scV (scG (puts s.g (es.take i))) ga' la' fa' gf' lf' ff'), cellsL (scV (scG (puts s.g (es.take (i + 1)))) t.1.1 t.1.2.1 t.1.2.2 t.2.1.1 t.2.1.2.1 t.2.1.2.2)]) (fun t h' => ScR h' (scG (puts s.g (es.take (i + 1)))) t.1.1 t.1.2.1 t.1.2.2 t.2.2 ∧ Ext h4 h') (fun _ => rfl) (by kernel_rfl) ?_ ?_
    · have ld4 := (hE.ext (x23.trans x4)).ld edE3 c
      repeat refine And.intro Is.r ?_
      refine And.intro ⟨by omega, by omega⟩ ?_
      refine ⟨_, ld4, ?_⟩
      refine And.intro ?_ ?_
      · refine Tri.r rfl (SceneEdit_ok _ es[i] ga' la' fa' gf' lf' ff' L' h4 R4 q3) fun h5 kg kl kf kgf klf kff L5 ka kaf R5 S5 x5 => ?_
        rw [q1]
        rw [q2] at R5 ⊢
        have ld5 := (hE.ext ((x23.trans x4).trans x5)).ld edE3 c
        repeat first | refine And.intro Is.r ?_ | refine And.intro ⟨_, by first | exact ld4 | exact ld5, Is.r⟩ ?_
        refine And.intro ?_ trivial
        repeat first | refine And.intro Is.r ?_ | refine And.intro ⟨_, by first | exact ld4 | exact ld5, Is.r⟩ ?_
        refine And.intro ?_ trivial
        repeat first | refine And.intro Is.r ?_ | refine And.intro ⟨_, by first | exact ld4 | exact ld5, Is.r⟩ ?_
        exact ⟨((kg, kl, kf), (kgf, klf, kff), L5), ⟨rfl, rfl, rfl, rfl, rfl, rfl, trivial⟩, ⟨rfl, rfl, rfl, rfl, rfl, trivial⟩, R5, x5⟩
      · refine And.intro ?_ trivial
        repeat first | refine And.intro Is.r ?_ | refine And.intro ⟨_, by exact ld4, Is.r⟩ ?_
        refine And.intro ?_ trivial
        refine Tri.r rfl (SceneEdit_ok _ es[i] ga' la' fa' gf' lf' ff' L' h4 R4 q3) fun h5 kg kl kf kgf klf kff L5 ka kaf R5 S5 x5 => ?_
        rw [q1]
        rw [q2] at R5 ⊢
        have ld5 := (hE.ext ((x23.trans x4).trans x5)).ld edE3 c
        repeat first | refine And.intro Is.r ?_ | refine And.intro ⟨_, by first | exact ld4 | exact ld5, Is.r⟩ ?_
        refine And.intro ?_ trivial
        repeat first | refine And.intro Is.r ?_ | refine And.intro ⟨_, by first | exact ld4 | exact ld5, Is.r⟩ ?_
        exact ⟨((kg, kl, kf), (kgf, klf, kff), L5), ⟨rfl, rfl, rfl, rfl, rfl, rfl, trivial⟩, ⟨rfl, rfl, rfl, rfl, rfl, trivial⟩, R5, x5⟩
    · rintro ⟨⟨kg, kl, kf⟩, ⟨kgf, klf, kff⟩, L5⟩ h5 ⟨R5, x5⟩
      simp only at R5
      refine cndF ?_
      have wq : IntKind.i64.wrap ((i : Int) + 1) = ((i + 1 : Nat) : Int) := wz (by omega) (by omega)
      exact again (i + 1, kg, kl, kf, kgf, klf, kff, L5) _ _ _ (by show es.length - (i + 1) < es.length - i; omega) ⟨vI wq, rfl, rfl, rfl, trivial⟩ ⟨rfl, rfl, rfl, rfl, trivial⟩ ⟨by show i + 1 ≤ es.length; omega, R5, x4.trans x5⟩
  · have c : i = es.length := by have : ¬ i < es.length := by simpa using c
                                 omega
    have hE2 : scG (puts s.g (es.take i)) = manyS s es := by rw [c, List.take_length, hM]
    rw [hE2] at R4 ⊢
    refine callP (llScene_ok _ _ xg xl xf ga' la' fa' xgf xlf xff gf' lf' ff' L3 L' h4 (R3.ext x4) R4 mB) ?_
    rintro v h5 ⟨rfl, rfl⟩
    refine cnd (fun _ => ?_) (fun c => by simp at c)
    refine callP (SceneOk_ok (manyS s es) xg xl xf xgf xlf xff L3 h5 (R3.ext x4) mB) ?_
    rintro v h6 ⟨rfl, x6⟩
    rw [hM, scOk_G hg1]
    exact rfl
end Go.Proofs.YtjpcfaddimlbdaaGreat.Id
namespace Go.Proofs.YtjpcfaddimlbdaaGreat.fnSceneMany
open Go.ChangeShapes Go.WideShapes Go.ChangeAt Go.RowKit Go.Id Go.Conc Go.Proofs.YtjpcfaddimlbdaaGreat.Id
set_option linter.unusedVariables false
theorem own:ownKnob Tryz.prog.godebug=none:=by kernel_rfl
theorem laidOut:laidOutB Tryz.prog=true:=by kernel_rfl
set_option maxRecDepth 100000 in
theorem lifted (os:Os) (started:os.Started) (H:Type) (enc:TypeId×Value→H) :
    ReturnsInLeavingWide {} Tryz.checked os 11 .any (Rows.fnSceneManySpec.pre6 enc Tryz.prog Tryz.f11 Rows.fnSceneManyRow.domain false) (Rows.fnSceneManySpec.post enc Tryz.prog Tryz.f11 false true false false):=by
  refine returnsInLeavingWide_of_change_sized (C:=Tryz.checked) own started Tryz.func11
    (ChangeSpec.witness6 (enc:=enc) (C:=Tryz.checked) false ⟨#[],#[.slice none 0 0],[]⟩ 8 (by kernel_rfl) (by kernel_rfl) (by kernel_rfl) (by kernel_rfl)) ?_
  intro W base args ds gs before hval0 hW hcnd hsz0 _
  have hval:∀ (j:Nat) t v,Tryz.f11.params[j]? = some t→args[j]? = some v→Value.okWide Tryz.prog W .any base t v:=hval0
  have hW':=hW
  obtain ⟨p,q,hA0,hV,rfl,hfz,hnd⟩:=hW
  have hA:DataW.TrodAll enc Tryz.prog W 0 (fun _=>true) true Tryz.f11.params.toList args.toList ds p:=hA0
  rw [Tryz.params11] at hA hval
  obtain ⟨v0,vs0,d0,ds0,p0,q0,hargs,rfl,rfl,h0,r0⟩:=trodAll_cons hA
  obtain ⟨rfl,rfl,rfl⟩:=trodAll_nil r0
  obtain rfl:args=#[v0]:=by cases args;simp_all
  obtain ⟨rfl,rfl⟩:=trodVars_none hV
  have k0:=h0
  have lt0:∀ x∈p0,x.block < W.heap.size:=by obtain ⟨m,hm⟩:=k0;exact DataW.trod_lt m _ _ _ hm
  obtain ⟨s,h,bs,a,fl,I,_,_,V,S,hn,hb⟩:=in_bytes (InOk.nil W) (hval 0 39 v0 rfl rfl) h0
  clear hA0 hval0 hsz0
  obtain ⟨M,last,o,w',t',g1,g2,g3,g4⟩:=main_run (lo:=h.n) (Post:=fun v _=>v = .bool true) (argsr:=#[v0]) (args:=[.slice a bs.length fl]) Tryz.func11 rfl (Nat.le_of_ble_eq_true rfl) (by kernel_rfl) I (VRs.cons V (VRs.nil s)) (sceneMany_R bs a fl h S hb (Nat.le_trans hn (by unfold Go.maxLen;exact Nat.le_refl _)) (Nat.le_refl _))
  refine ⟨M,last,o,w',t',g1,g2,g3,g4.mono fun vr ht => ?_⟩
  obtain ⟨v,h',s',O',rfl,_,_,hv,K⟩:=ht
  obtain rfl:vr = .bool true:=VR.bool_inv hv
  have bel:=below_of K
  exact ⟨_,_,_,[],_,[],hW',trodAll_mk1 (shut_bool Tryz.underlying4 _),trodAll_cons_mk (Trod_tape (Below.trod laidOut (by kernel_rfl) (of_decide_eq_true (by kernel_rfl)) k0 bel lt0)) trodAll_mk0,rfl,kept_frame K _,fun h=>by cases h⟩
theorem j2:laidOutB Tryz.pinned.checked.prog=true:=by kernel_rfl
theorem j3:mapsRowed Tryz.pinned.checked.prog=true:=by kernel_rfl
theorem j10:(Rows.fnSceneManyRow.inPlace == Program.inPlace Tryz.pinned.checked.prog 11)=true:=by kernel_rfl
theorem j11:(Rows.fnSceneManyRow.unfollowed == Program.unfollowed Tryz.pinned.checked.prog 11)=true:=by kernel_rfl
theorem j12:(Rows.fnSceneManyRow.recurses == Program.recurses Tryz.pinned.checked.prog 11)=true:=by kernel_rfl
theorem j13:(Rows.fnSceneManyRow.named == Program.varsNamed Tryz.pinned.checked.prog 11)=true:=by kernel_rfl
theorem j23:(Rows.fnSceneManyRow.plainKeys == Program.plainKeys Tryz.pinned.checked.prog)=true:=by kernel_rfl
theorem j25:Program.stopsHeard Tryz.pinned.checked.prog=true:=by kernel_rfl
theorem j26:Program.mayEnter Tryz.pinned.checked.prog=true:=by kernel_rfl
theorem j27:(Rows.fnSceneManyRow.lifted == Program.liftsFinal Tryz.pinned.checked.prog)=true:=by kernel_rfl
theorem j28:(Program.make Tryz.pinned.checked.prog == some Rows.fnSceneManyRow.make)=true:=by kernel_rfl
theorem closed:joinedFacts Tryz.pinned.checked.prog 11 Tryz.f11 Rows.fnSceneManySpec Rows.fnSceneManyRow=true :=
  joined_of (by kernel_rfl) j2 j3 (by kernel_rfl) (by kernel_rfl) (by kernel_rfl) (by kernel_rfl) (by kernel_rfl) (by kernel_rfl) j10 j11 j12 j13 (by kernel_rfl) (by kernel_rfl) (by kernel_rfl) (by kernel_rfl) (by kernel_rfl) (by kernel_rfl) (by kernel_rfl) (by kernel_rfl) (by kernel_rfl) j23 (by kernel_rfl) j25 j26 j27 j28 (by kernel_rfl) (by kernel_rfl) (by kernel_rfl) (by kernel_rfl)
theorem over:Rows.fnSceneManyRow.holds Tryz.pinned (OpenSpec.ofChange Rows.fnSceneManySpec) :=
  OpenClaim.holds_of_wide_leaving 11 Tryz.f11 rfl rfl rfl rfl rfl rfl rfl ⟨rfl,rfl,rfl,rfl,rfl⟩ rfl rfl rfl rfl rfl (by kernel_rfl) Tryz.func11 closed
    (of_decide_eq_true (by kernel_rfl)) (by unfold Func.isWrapper;first | (rw [if_pos (by decide +kernel)];kernel_rfl) | (rw [if_neg (by decide +kernel)];exact ⟨rfl,rfl⟩))
    (fun os started H enc _=>lifted os started H enc)
theorem proved:Rows.FnSceneManySaid:=over
#print axioms proved
end Go.Proofs.YtjpcfaddimlbdaaGreat.fnSceneMany
namespace Go.Proofs.YtjpcfaddimlbdaaGreat
theorem fnSceneMany_holds:Rows.FnSceneManySaid:=fnSceneMany.proved
end Go.Proofs.YtjpcfaddimlbdaaGreat
