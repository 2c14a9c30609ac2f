/- For every input the law returns true, and what came in reads as it did (the row of Rso). No condition. Texts of this claim, joined: Wf, Te, Wi, Rso. -/
import Derived.Test.YtppledjkdbldlaaGreatM5
import Derived.Test.YtppledjkdbldlaaGreatRows
import Derived.Conc.LeavingOf
import Derived.WalkKit
import Derived.ProofKit
import Derived.OpenShut
import Derived.ShutString
import Derived.SizedLaws
import Derived.Lib.SmallJoins
namespace Go.Proofs.YtppledjkdbldlaaGreat.Id
open Go.Id Go.Conc Go.Conc.Lib
open Go.Proofs
set_option linter.unusedVariables false
set_option maxRecDepth 100000
section
variable {X:Ctx Tryz.prog} {lo:Nat}
theorem callE {P:Program} {X:Ctx P} {lo:Nat} {g:FuncId} {args:List Value} {h h₀:Hp} {K:Value→Hp→Prop} {Post:Value→Hp→Prop} (e:h=h₀) (h1:Tri X lo g args h₀ Post) (h2:∀ v h',Post v h'→K v h'):CallP X lo g args h K:=by
  subst e;exact callP h1 h2
theorem gx_snoc3 {α:Type} {enc:α→List Value} {sz base:Nat} {h:Hp} {o:Option (Nat×Nat)} {l:List α} (he:∀ x,(enc x).length=sz) (hz:sz≠0) (g:Gx base h enc sz o l) (hlo:lo≤base) (hb:base≤h.n) (hm:l.length+1≤Id.maxLen) (x:α) :
    ∃ o' h',SlCells (h.push (.cells (enc x) sz 0)) (.slice (some ⟨h.n,0,some 0⟩) 1 1) sz (enc x)∧Ap lo (h.push (.cells (enc x) sz 0)) sz (gv o l.length) (enc x) 1 (gv o' (l++[x]).length) h'∧Gx base h' enc sz o' (l++[x])∧h.n≤h'.n∧∀ i,i < base→h'.g i=h.g i:=by
  have e4:Ext h (h.push (.cells (enc x) sz 0)):=Ext.push _ _
  have g4:=g.ext e4
  have n4:=e4.n
  obtain ⟨o',h5,a1,a2,a3⟩:=(gx_lo (lo':=lo) g4 fun i hi=>by have:=(g4.lt hi).2;omega).apps he hz [x] (by simpa using hm) (by omega)
  have a3n:=a3.n
  refine ⟨o',h5,one_cells (he x),by simpa using a1,gx_lo a2 fun i hb' => ?_,by omega,fun i hi => ?_⟩
  · rcases a3.b i hb' with hb' | hb'
    · exact (g4.lt hb').2
    · omega
  · exact ((a3.g i (by omega) fun hb'=>by have:=(g4.lt hb').2;omega).trans (e4.g i (by omega)))
def DrawnSM (h:Hp) (v:Value) (h':Hp):Prop:=∃ (s:Sc) (ga la fa:Option Addr) (gf lf ff:Nat) (L:List Value) (es:List Ed) (ea:Option Addr) (ef:Nat),v = .tuple #[scV s ga la fa gf lf ff,.slice ea es.length ef]∧ScR h' s ga la fa L∧ScS s∧Sls h' edE 3 ea es∧es.length≤21∧Ext h h'
theorem DrawSceneMany_ok (a:Option Addr) (fl:Nat) (bs:List Nat) (h:Hp) (hs:Sls h uE 1 a bs) (hn:bs.length≤1048576) (hb:∀ b∈bs,b < 256):Tri X lo 13 [.slice a bs.length fl] h (DrawnSM h):=by
  refine enter tbOk mtOk ⟨[],[]⟩ 400 Tryz.func13 rfl rfl rfl fun hlo => ?_
  refine callP (l6Open_ok a fl bs h hs hn hb) ?_
  rintro v h1 ⟨rfl,r1,x1⟩
  refine callP (l71Scene_ok h.n 0 h1 r1 (by decide)) ?_
  rintro v h2 ⟨s,ga,la,fa,gf,lf,ff,L,p,rfl,d,b,r2,i2,x2⟩
  have n1:=x1.n
  have lt:=r1.lt
  have lt2:=r2.lt
  have e3:Ext h2 (h2.push (.cells (([]:List Ed).flatMap edE) 3 0)):=Ext.push _ _
  have w3:Row (h2.push (.cells (([]:List Ed).flatMap edE) 3 0)) h2.n 0 edE 3 []:=Row.push
  have r3:=r2.ext e3
  have hcs:=b.1
  have fin:∀ (h':Hp) (o:Option (Nat×Nat)) (es:List Ed),Gx h2.n h' edE 3 o es→Ext1 h.n h2 h'→es.length≤21→DrawnSM h (.tuple #[scV s ga la fa gf lf ff,gv o es.length]) h':=fun h' o es g x hl=>by
    obtain ⟨ea,ef,z,S⟩:=gx_slv g edE3
    rw [z]
    exact ⟨s,ga,la,fa,gf,lf,ff,L,es,ea,ef,rfl,(d.keep x (by omega)).r,b,S,hl,(x2.trans x).out x1 (Nat.le_refl _)⟩
  refine callE (by kernel_rfl) (pick_ok h.n p 6 _ r3 (by decide) (by omega)) ?_
  rintro v h4 ⟨q,rfl,q1,q2,_,r4,x4⟩
  have q2:=q2 (by decide)
  have n4:=x4.n
  refine loop (σ:=Nat×Option (Nat×Nat)×List Ed×Int) tbOk mtOk ⟨[],[]⟩ (fun t=>[(7,.v (.int .i64 (t.1:Int))),(6,.v (gv t.2.1 t.2.2.1.length)),(5,.l 1 0),(4,.v (.pointer (some ⟨h.n,0,none⟩))),(2,.l 0 0)]) (fun _=>[[.int .i64 0,.slice none 0 0,.slice none 0 0,.slice none 0 0],[.int .i64 s.g.w,.slice ga s.g.cs.length gf,.slice la s.li.length lf,.slice fa s.ft.length ff]]) (fun t h'=>t.1+t.2.2.1.length≤5∧Rd lo h' h.n t.2.2.2∧t.2.2.2+8*(t.1:Int)≤300∧Gx h2.n h' edE 3 t.2.1 t.2.2.1∧Ext1 h.n h2 h') (fun t=>t.1) 400 (q.toNat,some (h2.n,0),[],p+1) (fun _=>rfl) ⟨vI (by show q=(q.toNat:Int);omega),rfl,rfl,rfl,rfl,trivial⟩ ⟨rfl,rfl,trivial⟩ ⟨by show q.toNat+0≤5;omega,r4,by show p+1+8*(q.toNat:Int)≤300;omega,⟨Nat.le_refl _,w3.ext1 x4 (by omega)⟩,(e3.one h.n).trans x4⟩ (fun t h5 hI again => ?_)
  obtain ⟨n,o,es,p5⟩:=t
  obtain ⟨i1,r5,i2',g5,x5⟩:=hI
  simp only at i1 r5 i2' g5
  have n5:=x5.n
  refine cnd (fun c => ?_) (fun c => ?_)
  · have c:0 < n:=by simpa using c
    refine callP (l71Edit_ok h.n p5 s.g ga gf h5 r5 (by omega) (by omega)) ?_
    rintro v h6 ⟨e,p6,rfl,r6,i6,x6⟩
    have n6:=x6.n
    have g6:Gx h2.n h6 edE 3 o es:=g5.keep n6 fun i hi hb=>x6.g i hi (by have:=(g5.lt hb).2;omega)
    obtain ⟨o',h7,a1,a2,a3,a4,a5⟩:=gx_snoc3 (lo:=lo) edE3 (by decide) g6 (by omega) (by omega) (by unfold Id.maxLen;omega) e
    have hl:(es++[e]).length=es.length+1:=by simp
    refine ⟨edE e,a1,_,h7,a2,?_⟩
    have wq:IntKind.i64.wrap ((n:Int) - 1)=((n - 1:Nat):Int):=by rw [show ((n:Int) - 1)=((n - 1:Nat):Int) by omega];exact wz (by omega) (by omega)
    exact again (n - 1,o',es++[e],p6) _ _ _ (by show n - 1 < n;omega) ⟨vI wq,rfl,rfl,rfl,rfl,trivial⟩ ⟨rfl,rfl,trivial⟩ ⟨by show n - 1+(es++[e]).length≤5;omega,r6.keep a4 fun i hi=>a5 i (by omega),by show p6+8*((n - 1:Nat):Int)≤300;omega,a3,⟨by omega,fun i hi hne=>(a5 i hi).trans ((x6.g i (by omega) hne).trans (x5.g i hi hne))⟩⟩
  · refine callP (pick_ok h.n p5 40 h5 r5 (by decide) (by omega)) ?_
    rintro v h6 ⟨q',rfl,q1',q2',_,r6,x6⟩
    have n6:=x6.n
    have g6:Gx h2.n h6 edE 3 o es:=g5.keep n6 fun i hi hb=>x6.g i hi (by have:=(g5.lt hb).2;omega)
    have x6:=x5.trans x6
    refine cnd (fun c2 => ?_) (fun c2 => ?_)
    · refine loop (σ:=Option (Nat×Nat)×List Ed) tbOk mtOk ⟨[],[]⟩ (fun t=>[(6,.v (gv t.1 t.2.length)),(5,.l 1 0),(2,.l 0 0)]) (fun _=>[[.int .i64 0,.slice none 0 0,.slice none 0 0,.slice none 0 0],[.int .i64 s.g.w,.slice ga s.g.cs.length gf,.slice la s.li.length lf,.slice fa s.ft.length ff]]) (fun t h'=>t.2.length≤21∧Gx h2.n h' edE 3 t.1 t.2∧Ext1 h.n h2 h') (fun t=>21 - t.2.length) 400 (o,es) (fun _=>rfl) ⟨rfl,rfl,rfl,trivial⟩ ⟨rfl,rfl,trivial⟩ ⟨by show es.length≤21;omega,g6,x6⟩ (fun t h7 hI again => ?_)
      obtain ⟨o,es⟩:=t
      obtain ⟨i1,g7,x7⟩:=hI
      simp only at i1 g7
      have n7:=x7.n
      obtain ⟨ea,ef,z,S⟩:=gx_slv g7 edE3
      rw [z]
      refine cnd (fun c => ?_) (fun c => ?_)
      · have c:es.length≤20:=by have:=of_decide_eq_true c;omega
        obtain ⟨o',h8,a1,a2,a3,a4,a5⟩:=gx_snoc3 (lo:=lo) edE3 (by decide) g7 (by omega) (by omega) (by unfold Id.maxLen;omega) ((0,(0,0)):Ed)
        have hl:(es++[((0,(0,0)):Ed)]).length=es.length+1:=by simp
        rw [z] at a2
        refine ⟨edE (0,(0,0)),a1,_,h8,a2,?_⟩
        exact again (o',es++[(0,(0,0))]) _ _ _ (by show 21 - (es++[((0,(0,0)):Ed)]).length < 21 - es.length;omega) ⟨rfl,rfl,rfl,trivial⟩ ⟨rfl,rfl,trivial⟩ ⟨by show (es++[((0,(0,0)):Ed)]).length≤21;omega,a3,⟨by omega,fun i hi hne=>(a5 i hi).trans (x7.g i hi hne)⟩⟩
      · repeat refine And.intro Is.r ?_
        have F:=fin h7 o es g7 x7 i1
        rw [z] at F
        exact F
    · repeat refine And.intro Is.r ?_
      exact fin h6 o es g6 x6 (by omega)
end
end Go.Proofs.YtppledjkdbldlaaGreat.Id
namespace Go.Proofs.YtppledjkdbldlaaGreat.Id
open Go.Id
open Go.Proofs
set_option linter.unusedVariables false
set_option maxRecDepth 100000
variable {X:Ctx Tryz.prog} {lo:Nat}
theorem llHas_ok (l:List Int) (a:Option Addr) (fl:Nat) (n:Int) (h:Hp) (hs:Sls h inE 1 a l) (hn:l.length≤1048576):Tri X lo 18 [.slice a l.length fl,.int .i64 n] h fun v h'=>v = .bool (decide (n∈l))∧h'=h:=by
  refine enter tbOk mtOk ⟨[],[]⟩ 400 Tryz.func18 rfl rfl rfl fun hlo => ?_
  refine loop (σ:=Nat) tbOk mtOk ⟨[],[]⟩ (fun i=>[(5,.v (.int .i64 (i:Int))),(4,.v (.bool false)),(0,.v (.slice a l.length fl)),(1,.v (.int .i64 n))]) (fun _=>[]) (fun i h'=>i≤l.length∧h'=h∧n∉l.take i) (fun i=>l.length - i) 400 0 (fun _=>rfl) ⟨rfl,rfl,rfl,rfl,trivial⟩ trivial ⟨Nat.zero_le _,rfl,by simp⟩ (fun i h' hI again => ?_)
  obtain ⟨i1,rfl,i3⟩:=hI
  refine cnd (fun c2 => ?_) (fun c2 => ?_)
  · have c2:i < l.length:=by simpa using c2
    obtain ⟨a,rfl⟩:=hs.some c2
    refine And.intro ⟨by omega,by omega⟩ ?_
    refine ⟨_,hs.ld (fun _=>rfl) c2,?_⟩
    refine cnd (fun c3 => ?_) (fun c3 => ?_)
    · have c3:l[i]=n:=by simpa using c3
      refine And.intro ?_ rfl
      rw [decide_eq_true (c3▸List.getElem_mem c2)]
    · have c3:l[i]≠n:=by simpa using c3
      have wq:IntKind.i64.wrap ((i:Int)+1)=((i+1:Nat):Int):=wz (by omega) (by omega)
      refine again (i+1) _ _ _ (by omega) ⟨vI wq,rfl,rfl,rfl,trivial⟩ trivial ⟨by omega,rfl,?_⟩
      rw [List.take_succ_eq_append_getElem c2]
      intro hm
      rcases List.mem_append.1 hm with q | q
      · exact i3 q
      · exact c3 (List.mem_singleton.1 q).symm
  · have c2:l.length=i:=by simp at c2;omega
    refine And.intro ?_ rfl
    rw [← c2,List.take_length] at i3
    rw [decide_eq_false i3]
end Go.Proofs.YtppledjkdbldlaaGreat.Id
namespace Go.Proofs.YtppledjkdbldlaaGreat.Id
open Go.Id Go.Conc Go.Conc.Lib
open Go.Proofs
set_option linter.unusedVariables false
set_option maxRecDepth 100000
variable {N0:Nat→Prop} {lo:Nat}
theorem once_eq {s:Sc} {es:List Ed} {k:Nat} (hk:k < s.ft.length):(es.any fun e=>decide ((k:Int)∈touchS s e.1))=decide ((k:Int)∈seenS s es):=by
  rw [Bool.eq_iff_iff,decide_eq_true_iff,seen_mem,List.any_eq_true]
  constructor
  · rintro ⟨e,he,h⟩
    obtain ⟨k',e1,_,h2⟩:=touch_mem.1 (of_decide_eq_true h)
    obtain rfl:k=k':=by omega
    exact ⟨k,rfl,hk,e,he,h2⟩
  · rintro ⟨k',e1,_,e,he,h2⟩
    obtain rfl:k=k':=by omega
    exact ⟨e,he,decide_eq_true (touch_mem.2 ⟨k,rfl,hk,h2⟩)⟩
set_option maxHeartbeats 800000 in
theorem sceneOnce_R (bs : List Nat) (a : Option Addr) (fl : Nat) (h : Hp) (hs : Sls h uE 1 a bs) (hb : ∀ b ∈ bs, b < 256) (hn : bs.length ≤ 9223372036854775807) (hlo : lo ≤ h.n) :
    R (mainCtx Tryz.prog N0) lo 3 Tryz.f3 (.ret fun v _ => v = .bool true) [.code (bodyC Tryz.f3)] (argsTm 0 [.slice a bs.length fl]) [] h := by
  refine more tbOk mtOk ⟨[], [(15, [0, 1, 2, 3, 4, 5, 6, 7, 9, 8, 10, 11, 12], [0, 1, 3, 3, 3, 27, 59, 123, 255, 3, 1023, 2047, 4095]), (21, [0, 1, 2, 3, 4, 5, 6, 7, 8, 9], [0, 0, 2, 7, 15, 0, 0, 96, 224, 511])]⟩ 500 ?_
  refine cnd (fun c1 => rfl) (fun c1 => ?_)
  have hm : bs.length ≤ 1048576 := by simp at c1; omega
  refine callP (DrawSceneMany_ok a fl bs h hs hm hb) ?_
  rintro v h1 ⟨s, ga, la, fa, gf, lf, ff, L, es, ea, ef, rfl, hR, hS, hE, hel, x1⟩
  have hB := hS.b
  refine Tri.r rfl (sSceneMany_ok s es ga la fa ea gf lf ff ef L h1 hR hB hE (by omega)) fun h2 wg wl wf wgf wlf wff L2 wa waf R2 S2 x2 => ?_
  refine Tri.r rfl (SceneMany_ok s es ga la fa ea gf lf ff ef L h2 (hR.ext x2) hB (hE.ext x2) (by omega)) fun h3 xg xl xf xgf xlf xff L3 xa xaf R3 S3 x3 => ?_
  have mB := many_B (s := s) (es := es)
  obtain ⟨k1, hk1⟩ : ∃ k1, k1 = okS s es := ⟨_, rfl⟩
  rw [← hk1]
  refine cnd (fun c => by simp at c) (fun _ => ?_)
  refine callP (llScene_ok _ _ xg xl xf wg wl wf xgf xlf xff wgf wlf wff L3 L2 h3 R3 (R2.ext x3) mB) ?_
  rintro v h3' ⟨rfl, rfl⟩
  refine cnd (fun c => by simp at c) (fun _ => ?_)
  refine callP (llInts_ok xa wa xaf waf _ _ h3' S3 (S2.ext x3) (seenO_len hB)) ?_
  rintro v h3 ⟨rfl, rfl⟩
  refine cnd (fun c => by simp at c) (fun _ => ?_)
  refine cnd (fun c1 => ?_) (fun c1 => ?_)
  · refine cnd (fun _ => ?_) (fun c => absurd c (by simp))
    refine callP (llScene_ok _ _ xg xl xf wg wl wf xgf xlf xff wgf wlf wff L3 L2 h3 R3 (R2.ext x3) mB) ?_
    rintro v h3' ⟨rfl, rfl⟩
    refine cnd (fun _ => ?_) (fun c => by simp at c)
    refine callP (llInts_ok xa wa xaf waf _ _ h3' S3 (S2.ext x3) (seenO_len hB)) ?_
    rintro v h3 ⟨rfl, rfl⟩
    exact congrArg Value.bool (decide_eq_true rfl)
  have hok : okS s es = true := by rw [← hk1]; simpa using c1
  have x23 := x2.trans x3
  have hR3 := hR.ext x23
  obtain ⟨hg, hsG, hall, hg1, hM, hSn⟩ := many_eq hok
  have hkS := (okS_iff.1 hok).1
  have hT : ∀ a, touchO s a = touchS s a := fun a => by unfold touchO; rw [if_pos hkS]
  have hlf : s.li.length = s.ft.length := by
    obtain ⟨l1, l2⟩ := scG_len s.g
    rw [hsG]; omega
  have hli := hB.li
  have hSl := seenO_len (es := es) hB
  refine loop (σ := Nat) tbOk mtOk ⟨[], [(15, [0, 1, 2, 3, 4, 5, 6, 7, 9, 8, 10, 11, 12], [0, 1, 3, 3, 3, 27, 59, 123, 255, 3, 1023, 2047, 4095]), (21, [0, 1, 2, 3, 4, 5, 6, 7, 8, 9], [0, 0, 2, 7, 15, 0, 0, 96, 224, 511])]⟩ (fun k => [(11, .v (.int .i64 (k : Int))), (9, .v (.slice xa (seenO s es).length xaf)), (4, .v (.slice ea es.length ef)), (3, .l 0 0)]) (fun _ => [[.int .i64 s.g.w, .slice ga s.g.cs.length gf, .slice la s.li.length lf, .slice fa s.ft.length ff]]) (fun k h' => k ≤ s.li.length ∧ Ext h3 h') (fun k => s.li.length - k) 400 0 (fun _ => rfl) ⟨rfl, rfl, rfl, rfl, trivial⟩ ⟨rfl, trivial⟩ ⟨Nat.zero_le _, Ext.refl _⟩ (fun k h4 hI again => ?_)
  obtain ⟨k1, x4⟩ := hI
  refine cnd (fun c => ?_) (fun c => ?_)
  · have c : k < s.li.length := by simpa using c
    refine loop (σ := Nat) tbOk mtOk ⟨[], [(15, [0, 1, 2, 3, 4, 5, 6, 7, 9, 8, 10, 11, 12], [0, 1, 3, 3, 3, 27, 59, 123, 255, 3, 1023, 2047, 4095]), (21, [0, 1, 2, 3, 4, 5, 6, 7, 8, 9], [0, 0, 2, 7, 15, 0, 0, 96, 224, 511])]⟩ (fun i => [(13, .v (.int .i64 (i : Int))), (12, .v (.bool ((es.take i).any fun e => decide ((k : Int) ∈ touchS s e.1)))), (11, .v (.int .i64 (k : Int))), (9, .v (.slice xa (seenO s es).length xaf)), (4, .v (.slice ea es.length ef)), (3, .l 0 0)]) (fun _ => [[.int .i64 s.g.w, .slice ga s.g.cs.length gf, .slice la s.li.length lf, .slice fa s.ft.length ff]]) (fun i h' => i ≤ es.length ∧ Ext h4 h') (fun i => es.length - i) 400 0 (fun _ => rfl) ⟨rfl, rfl, rfl, rfl, rfl, rfl, trivial⟩ ⟨rfl, trivial⟩ ⟨Nat.zero_le _, Ext.refl _⟩ (fun i h5 hI again3 => ?_)
    obtain ⟨i1, x5⟩ := hI
    have x05 := (x23.trans x4).trans x5
    refine cnd (fun c3 => ?_) (fun c3 => ?_)
    · have c3 : i < es.length := by simpa using c3
      have wq : IntKind.i64.wrap ((i : Int) + 1) = ((i + 1 : Nat) : Int) := wz (by omega) (by omega)
      obtain ⟨ead, rfl⟩ := hE.some c3
      have htk : ((es.take (i + 1)).any fun e => decide ((k : Int) ∈ touchS s e.1)) = (((es.take i).any fun e => decide ((k : Int) ∈ touchS s e.1)) || decide ((k : Int) ∈ touchS s es[i].1)) := by
        rw [List.take_succ_eq_append_getElem c3, List.any_append]; simp
      refine And.intro (by kernel_rfl) ?_
      refine cnd (fun c4 => ?_) (fun c4 => ?_)
      · rw [c4, Bool.true_or] at htk
        exact again3 (i + 1) _ _ _ (by omega) ⟨vI wq, congrArg (fun b => some (Sl.v (.bool b))) htk.symm, rfl, rfl, rfl, rfl, trivial⟩ ⟨rfl, trivial⟩ ⟨by omega, x5⟩
      · rw [c4, Bool.false_or] at htk
        have l5 := ld_sub ((hE.ext x05).ld edE3 c3) (j := 0) (m := 1) rfl
        refine And.intro ⟨by omega, by omega⟩ ?_
        refine ⟨_, l5, ?_⟩
        refine callP (SceneTouch_ok s es[i].1 ga la fa gf lf ff L h5 (hR.ext x05) hB) ?_
        rintro v h6 ⟨⟨o6, rfl, g6⟩, x6⟩
        obtain ⟨ta, tf, z6, t6⟩ := gx_slv g6 fun _ => rfl
        rw [hT] at z6 t6
        rw [hT, z6]
        have l6 := ld_sub ((hE.ext (x05.trans x6)).ld edE3 c3) (j := 0) (m := 1) rfl
        repeat first | refine And.intro Is.r ?_ | refine And.intro ⟨_, by first | exact l5 | exact l6, Is.r⟩ ?_
        refine callP (llHas_ok (touchS s es[i].1) ta tf k h6 t6 (by have := touch_len s es[i].1; have := hB.ft; omega)) ?_
        rintro v h7 ⟨rfl, rfl⟩
        repeat first | refine And.intro Is.r ?_ | refine And.intro ⟨_, by first | exact l5 | exact l6, Is.r⟩ ?_
        exact again3 (i + 1) _ _ _ (by omega) ⟨vI wq, congrArg (fun b => some (Sl.v (.bool b))) htk.symm, rfl, rfl, rfl, rfl, trivial⟩ ⟨rfl, trivial⟩ ⟨by omega, x5.trans x6⟩
    · have c3 : i = es.length := by have : ¬ i < es.length := by simpa using c3
                                    omega
      have hall' : ((es.take i).any fun e => decide ((k : Int) ∈ touchS s e.1)) = decide ((k : Int) ∈ seenO s es) := by rw [c3, List.take_length, hSn, once_eq (by omega)]
      rw [hall']
      have wk : IntKind.i64.wrap ((k : Int) + 1) = ((k + 1 : Nat) : Int) := wz (by omega) (by omega)
      refine callP (llHas_ok (seenO s es) xa xaf k h5 (S3.ext (x4.trans x5)) hSl) ?_
      rintro v h6 ⟨rfl, rfl⟩
      refine cnd (fun c => by simp at c) (fun _ => ?_)
      exact again (k + 1) _ _ _ (by omega) ⟨vI wk, rfl, rfl, rfl, trivial⟩ ⟨rfl, trivial⟩ ⟨by omega, x4.trans x5⟩
  · have hasc : (seenO s es).Pairwise (· < ·) := by rw [hSn]; exact seen_asc _ _
    have S4 := S3.ext x4
    generalize seenO s es = F at *
    refine loop (σ := Nat) tbOk mtOk ⟨[], [(15, [0, 1, 2, 3, 4, 5, 6, 7, 9, 8, 10, 11, 12], [0, 1, 3, 3, 3, 27, 59, 123, 255, 3, 1023, 2047, 4095]), (21, [0, 1, 2, 3, 4, 5, 6, 7, 8, 9], [0, 0, 2, 7, 15, 0, 0, 96, 224, 511])]⟩ (fun j => [(14, .v (.int .i64 (j : Int))), (9, .v (.slice xa F.length xaf))]) (fun _ => []) (fun j h' => 1 ≤ j ∧ (j ≤ F.length ∨ j = 1) ∧ h' = h4) (fun j => F.length - j) 400 1 (fun _ => rfl) ⟨rfl, rfl, trivial⟩ trivial ⟨Nat.le_refl _, .inr rfl, rfl⟩ (fun j h5 hI again2 => ?_)
    obtain ⟨j1, j2, rfl⟩ := hI
    refine cnd (fun c2 => ?_) (fun c2 => ?_)
    · have c2 : j < F.length := by simpa using c2
      obtain ⟨xad, rfl⟩ := S4.some c2
      have wj : IntKind.i64.wrap ((j : Int) + 1) = ((j + 1 : Nat) : Int) := wz (by omega) (by omega)
      have wp : IntKind.i64.wrap ((j : Int) - 1) = ((j - 1 : Nat) : Int) := by rw [wr (by omega) (by omega)]; omega
      have l0 := S4.ld (fun _ => rfl) (i := j - 1) (by omega)
      have l2 := S4.ld (fun _ => rfl) c2
      have hlt : F[j - 1] < F[j] := List.pairwise_iff_getElem.1 hasc (j - 1) j (by omega) c2 (by omega)
      refine And.intro (by kernel_rfl) ?_
      refine And.intro ?_ ?_
      · show 0 ≤ IntKind.i64.wrap ((j : Int) - 1) ∧ IntKind.i64.wrap ((j : Int) - 1) < (F.length : Int)
        rw [wp]; omega
      refine ⟨inE F[j - 1], by rw [wp]; exact l0, ?_⟩
      refine And.intro ⟨by omega, by omega⟩ ?_
      refine ⟨_, l2, ?_⟩
      refine cnd (fun c5 => absurd (of_decide_eq_true c5) (by omega)) (fun _ => ?_)
      exact again2 (j + 1) _ _ _ (by omega) ⟨vI wj, rfl, trivial⟩ trivial ⟨by omega, .inl (by omega), rfl⟩
    · exact rfl
end Go.Proofs.YtppledjkdbldlaaGreat.Id
namespace Go.Proofs.YtppledjkdbldlaaGreat.fnSceneOnce
open Go.ChangeShapes Go.WideShapes Go.ChangeAt Go.RowKit Go.Id Go.Conc Go.Proofs.YtppledjkdbldlaaGreat.Id
set_option linter.unusedVariables false
theorem own:ownKnob Tryz.prog.godebug=none:=by kernel_rfl
theorem laidOut:laidOutB Tryz.prog=true:=by kernel_rfl
set_option maxRecDepth 100000 in
theorem lifted (os:Os) (started:os.Started) (H:Type) (enc:TypeId×Value→H) :
    ReturnsInLeavingWide {} Tryz.checked os 3 .any (Rows.fnSceneOnceSpec.pre6 enc Tryz.prog Tryz.f3 Rows.fnSceneOnceRow.domain false) (Rows.fnSceneOnceSpec.post enc Tryz.prog Tryz.f3 false true false false):=by
  refine returnsInLeavingWide_of_change_sized (C:=Tryz.checked) own started Tryz.func3
    (ChangeSpec.witness6 (enc:=enc) (C:=Tryz.checked) false ⟨#[],#[.slice none 0 0],[]⟩ 8 (by kernel_rfl) (by kernel_rfl) (by kernel_rfl) (by kernel_rfl)) ?_
  intro W base args ds gs before hval0 hW hcnd hsz0 _
  have hval:∀ (j:Nat) t v,Tryz.f3.params[j]? = some t→args[j]? = some v→Value.okWide Tryz.prog W .any base t v:=hval0
  have hW':=hW
  obtain ⟨p,q,hA0,hV,rfl,hfz,hnd⟩:=hW
  have hA:DataW.TrodAll enc Tryz.prog W 0 (fun _=>true) true Tryz.f3.params.toList args.toList ds p:=hA0
  rw [Tryz.params3] at hA hval
  obtain ⟨v0,vs0,d0,ds0,p0,q0,hargs,rfl,rfl,h0,r0⟩:=trodAll_cons hA
  obtain ⟨rfl,rfl,rfl⟩:=trodAll_nil r0
  obtain rfl:args=#[v0]:=by cases args;simp_all
  obtain ⟨rfl,rfl⟩:=trodVars_none hV
  have k0:=h0
  have lt0:∀ x∈p0,x.block < W.heap.size:=by obtain ⟨m,hm⟩:=k0;exact DataW.trod_lt m _ _ _ hm
  obtain ⟨s,h,bs,a,fl,I,_,_,V,S,hn,hb⟩:=in_bytes (InOk.nil W) (hval 0 22 v0 rfl rfl) h0
  clear hA0 hval0 hsz0
  obtain ⟨M,last,o,w',t',g1,g2,g3,g4⟩:=main_run (lo:=h.n) (Post:=fun v _=>v = .bool true) (argsr:=#[v0]) (args:=[.slice a bs.length fl]) Tryz.func3 rfl (Nat.le_of_ble_eq_true rfl) (by kernel_rfl) I (VRs.cons V (VRs.nil s)) (sceneOnce_R bs a fl h S hb (Nat.le_trans hn (by unfold Go.maxLen;exact Nat.le_refl _)) (Nat.le_refl _))
  refine ⟨M,last,o,w',t',g1,g2,g3,g4.mono fun vr ht => ?_⟩
  obtain ⟨v,h',s',O',rfl,_,_,hv,K⟩:=ht
  obtain rfl:vr = .bool true:=VR.bool_inv hv
  have bel:=below_of K
  exact ⟨_,_,_,[],_,[],hW',trodAll_mk1 (shut_bool Tryz.underlying4 _),trodAll_cons_mk (Trod_tape (Below.trod laidOut (by kernel_rfl) (of_decide_eq_true (by kernel_rfl)) k0 bel lt0)) trodAll_mk0,rfl,kept_frame K _,fun h=>by cases h⟩
theorem j2:laidOutB Tryz.pinned.checked.prog=true:=by kernel_rfl
theorem j3:mapsRowed Tryz.pinned.checked.prog=true:=by kernel_rfl
theorem j10:(Rows.fnSceneOnceRow.inPlace == Program.inPlace Tryz.pinned.checked.prog 3)=true:=by kernel_rfl
theorem j11:(Rows.fnSceneOnceRow.unfollowed == Program.unfollowed Tryz.pinned.checked.prog 3)=true:=by kernel_rfl
theorem j12:(Rows.fnSceneOnceRow.recurses == Program.recurses Tryz.pinned.checked.prog 3)=true:=by kernel_rfl
theorem j13:(Rows.fnSceneOnceRow.named == Program.varsNamed Tryz.pinned.checked.prog 3)=true:=by kernel_rfl
theorem j23:(Rows.fnSceneOnceRow.plainKeys == Program.plainKeys Tryz.pinned.checked.prog)=true:=by kernel_rfl
theorem j25:Program.stopsHeard Tryz.pinned.checked.prog=true:=by kernel_rfl
theorem j26:Program.mayEnter Tryz.pinned.checked.prog=true:=by kernel_rfl
theorem j27:(Rows.fnSceneOnceRow.lifted == Program.liftsFinal Tryz.pinned.checked.prog)=true:=by kernel_rfl
theorem j28:(Program.make Tryz.pinned.checked.prog == some Rows.fnSceneOnceRow.make)=true:=by kernel_rfl
theorem closed:joinedFacts Tryz.pinned.checked.prog 3 Tryz.f3 Rows.fnSceneOnceSpec Rows.fnSceneOnceRow=true :=
  joined_of (by kernel_rfl) j2 j3 (by kernel_rfl) (by kernel_rfl) (by kernel_rfl) (by kernel_rfl) (by kernel_rfl) (by kernel_rfl) j10 j11 j12 j13 (by kernel_rfl) (by kernel_rfl) (by kernel_rfl) (by kernel_rfl) (by kernel_rfl) (by kernel_rfl) (by kernel_rfl) (by kernel_rfl) (by kernel_rfl) j23 (by kernel_rfl) j25 j26 j27 j28 (by kernel_rfl) (by kernel_rfl) (by kernel_rfl) (by kernel_rfl)
theorem over:Rows.fnSceneOnceRow.holds Tryz.pinned (OpenSpec.ofChange Rows.fnSceneOnceSpec) :=
  OpenClaim.holds_of_wide_leaving 3 Tryz.f3 rfl rfl rfl rfl rfl rfl rfl ⟨rfl,rfl,rfl,rfl,rfl⟩ rfl rfl rfl rfl rfl (by kernel_rfl) Tryz.func3 closed
    (of_decide_eq_true (by kernel_rfl)) (by unfold Func.isWrapper;first | (rw [if_pos (by decide +kernel)];kernel_rfl) | (rw [if_neg (by decide +kernel)];exact ⟨rfl,rfl⟩))
    (fun os started H enc _=>lifted os started H enc)
theorem proved:Rows.FnSceneOnceSaid:=over
#print axioms proved
end Go.Proofs.YtppledjkdbldlaaGreat.fnSceneOnce
namespace Go.Proofs.YtppledjkdbldlaaGreat
theorem fnSceneOnce_holds:Rows.FnSceneOnceSaid:=fnSceneOnce.proved
end Go.Proofs.YtppledjkdbldlaaGreat
