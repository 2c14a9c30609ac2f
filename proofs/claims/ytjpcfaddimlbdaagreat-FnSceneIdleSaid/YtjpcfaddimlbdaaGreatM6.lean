/- For every input the law returns true, and what came in reads as it did (the row of Rsi). No condition. Texts of this claim, joined: Wb, Rsi. -/
import Derived.Test.YtjpcfaddimlbdaaGreatM5
import Derived.Test.YtjpcfaddimlbdaaGreatRows
import Derived.Conc.LeavingOf
import Derived.WalkKit
import Derived.ProofKit
import Derived.OpenShut
import Derived.ShutString
import Derived.SizedLaws
import Derived.Lib.SmallJoins
namespace Go.Proofs.YtjpcfaddimlbdaaGreat.Id
open Go.Id Go.Conc Go.Conc.Lib
open Go.Proofs
set_option linter.unusedVariables false
set_option maxRecDepth 100000
variable {N0:Nat→Prop} {lo:Nat}
theorem put_same {g:Gd} {e:Ed} (h:e.1.toNat < g.cs.length):putE g (e.1,g.cs[e.1.toNat])=g:=by
  refine Gd.ext' rfl ?_
  show g.cs.set e.1.toNat g.cs[e.1.toNat]=g.cs
  rw [List.set_getElem_self]
theorem sceneIdle_R (bs:List Nat) (a:Option Addr) (fl:Nat) (h:Hp) (hs:Sls h uE 1 a bs) (hb:∀ b∈bs,b < 256) (hn:bs.length≤9223372036854775807) (hlo:lo≤h.n) :
    R (mainCtx Tryz.prog N0) lo 9 Tryz.f9 (.ret fun v _=>v = .bool true) [.code (bodyC Tryz.f9)] (argsTm 0 [.slice a bs.length fl]) [] h:=by
  refine more tbOk mtOk ⟨[],[]⟩ 400 ?_
  refine cnd (fun c1=>rfl) (fun c1 => ?_)
  have hm:bs.length≤1048576:=by simp at c1;omega
  refine callP (DrawSceneEdit_ok a fl bs h hs hm hb) ?_
  rintro v h1 ⟨s,ga,la,fa,gf,lf,ff,L,e,rfl,hR,hS,x1⟩
  have hB:=hS.b
  refine callP (sSceneEdit_ok s e ga la fa gf lf ff L h1 hR hB) ?_
  rintro v h2 ⟨⟨o1,o2,o3,L2,o,rfl,r2,q2,_⟩,x2⟩
  obtain ⟨wg,wl,wf,wgf,wlf,wff,z2,R2⟩:=r2.read
  obtain ⟨wa,waf,y2,S2⟩:=q2.sl
  rw [z2,y2]
  refine callP (SceneEdit_ok s e ga la fa gf lf ff L h2 (hR.ext x2) hB) ?_
  rintro v h3 ⟨⟨o1',o2',o3',L3,o',rfl,r3,q3,_⟩,x3⟩
  obtain ⟨xg,xl,xf,xgf,xlf,xff,z3,R3⟩:=r3.read
  obtain ⟨xa,xaf,y3,S3⟩:=q3.sl
  rw [z3,y3]
  have mB:=many_B (s:=s) (es:=[e])
  refine cnd (fun c=>by simp at c) (fun _ => ?_)
  refine callP (llScene_ok _ _ xg xl xf wg wl wf xgf xlf xff wgf wlf wff L3 L2 h3 R3 (R2.ext x3) mB) ?_
  rintro v h3' ⟨rfl,rfl⟩
  refine cnd (fun c=>by simp at c) (fun _ => ?_)
  refine callP (llInts_ok xa wa xaf waf _ _ h3' S3 (S2.ext x3) (seenO_len hB)) ?_
  rintro v h3 ⟨rfl,rfl⟩
  refine cnd (fun c=>by simp at c) (fun _ => ?_)
  refine cnd (fun c1 => ?_) (fun c1 => ?_)
  · refine cnd (fun _ => ?_) (fun c=>absurd c (by simp))
    refine callP (llScene_ok _ _ xg xl xf wg wl wf xgf xlf xff wgf wlf wff L3 L2 h3 R3 (R2.ext x3) mB) ?_
    rintro v h3' ⟨rfl,rfl⟩
    refine cnd (fun _ => ?_) (fun c=>by simp at c)
    refine callP (llInts_ok xa wa xaf waf _ _ h3' S3 (S2.ext x3) (seenO_len hB)) ?_
    rintro v h3 ⟨rfl,rfl⟩
    exact congrArg Value.bool (decide_eq_true rfl)
  have hok:okS s [e]=true:=by simpa using c1
  obtain ⟨hg,hsG,hall,hg1,hM,hSn⟩:=many_eq hok
  have he:=hall e (by simp)
  obtain ⟨ec,ea1,ea2⟩:=eOk_iff.1 he
  have hj:e.1.toNat < s.g.cs.length:=by omega
  have x23:=x2.trans x3
  obtain ⟨gad,rfl⟩:=((hR.ext x23).g).some hj
  have ldX:∀ {h':Hp},Ext h3 h'→Ld h' (addA gad (e.1.toNat*2)) 2 (cE s.g.cs[e.1.toNat]):=fun x=>((hR.ext (x23.trans x)).g).ld cE2 hj
  have ldc:=ldX (Ext.refl h3)
  have hput:=put_same (g:=s.g) (e:=e) hj
  have hek:=eOk_back hg he hj
  have hk:scOk s=true:=(okS_iff.1 hok).1
  generalize s.g.cs[e.1.toNat]=c at *
  have hok2:okS s [(e.1,c)]=true:=okS_iff.2 ⟨hk,by simp,fun x hx=>by rw [List.mem_singleton.1 hx];exact hek⟩
  have hok0:okS s []=true:=okS_iff.2 ⟨hk,by simp,fun x hx=>by simp at hx⟩
  have hY:manyS s [(e.1,c)]=s:=by
    obtain ⟨_,_,_,_,h5,_⟩:=many_eq hok2
    rw [h5,puts_one,hput];exact hsG.symm
  have hZ:seenO s [(e.1,c)]=seenO s [e]:=by
    obtain ⟨_,_,_,_,_,h6⟩:=many_eq hok2
    rw [h6,hSn,seen_one,seen_one]
  have hY0:manyS s []=s:=by
    obtain ⟨_,_,_,_,h5,_⟩:=many_eq hok0
    rw [h5];exact hsG.symm
  have hZ0:seenO s []=[]:=by
    obtain ⟨_,_,_,_,_,h6⟩:=many_eq hok0
    rw [h6];unfold seenS;simp
  have CE:=SceneEdit_ok (N0:=N0) (lo:=lo) s (e.1,c) (some gad) la fa gf lf ff L h3 (hR.ext x23) hB
  unfold ManyP at CE
  rw [hY,hZ,hok2] at CE
  refine drawE (σ:=(Option Addr×Option Addr×Option Addr×Option Addr)×(Nat×Nat×Nat×Nat)) tbOk mtOk ⟨[],[(8,[0,1,2,3,4,5,6,7,8,9,10,11,12,13,14,15,16,17,18,19],[0,0,2,0,8,24,0,64,248,504,1022,2047,4095,8191,8191,8191,0,81919,229375,524287])]⟩ 400 (.fl 0 (.fl 1 (.fl 2 (.fl 3 (.fl 4 (.fl 5 (.fl 6 (.fl 7 (.fl 8 (.fl 9 (.fl 10 (.ch 11 (.fl 12 (.fl 13 (.fl 14 (.fl 15 (.ch 16 (.ch 17 (.fl 18 (.fl 19 .fin)) .stop) .stop))))) (.ch 16 (.ch 11 (.fl 12 (.fl 13 (.fl 14 (.fl 15 (.ch 17 (.fl 18 (.fl 19 .fin)) .stop))))) .stop) .stop))))))))))))) [0,0,2,0,8,24,0,64,248,504,1022,2047,4095,8191,8191,8191,0,81919,229375,524287] (fun t=>[(11,.l 4 0),(13,.v (.bool true)),(12,.v (.slice t.1.2.2.2 (seenO s [e]).length t.2.2.2.2)),(9,.v (.slice xa (seenO s [e]).length xaf)),(8,.l 3 0),(3,.l 0 0)]) (fun t=>[[.int .i64 s.g.w,.slice (some gad) s.g.cs.length gf,.slice la s.li.length lf,.slice fa s.ft.length ff],[.int .i64 e.1,.int .i64 e.2.1,.int .i64 e.2.2],[.int .i64 (manyS s [e]).g.w,.slice wg (manyS s [e]).g.cs.length wgf,.slice wl (manyS s [e]).li.length wlf,.slice wf (manyS s [e]).ft.length wff],[.int .i64 (manyS s [e]).g.w,.slice xg (manyS s [e]).g.cs.length xgf,.slice xl (manyS s [e]).li.length xlf,.slice xf (manyS s [e]).ft.length xff],[.int .i64 s.g.w,.slice t.1.1 s.g.cs.length t.2.1,.slice t.1.2.1 s.li.length t.2.2.1,.slice t.1.2.2.1 s.ft.length t.2.2.2.1]]) (fun t h'=>∃ L4,ScR h' s t.1.1 t.1.2.1 t.1.2.2.1 L4∧Sls h' inE 1 t.1.2.2.2 (seenO s [e])∧Ext h3 h') (fun _=>rfl) (by kernel_rfl) ?_ ?_
  · repeat refine And.intro Is.r ?_
    refine And.intro ⟨ea1,ea2⟩ ?_
    refine ⟨_,ldc,?_⟩
    refine And.intro ?_ ?_
    · refine callP CE ?_
      rintro v h4 ⟨⟨p1,p2,p3,L4,p4,rfl,r4,q4,_⟩,x4⟩
      obtain ⟨yg,yl,yf,ygf,ylf,yff,z4,R4⟩:=r4.read
      obtain ⟨ya,yaf,y4,S4⟩:=q4.sl
      rw [z4,y4]
      repeat first | refine And.intro Is.r ?_ | refine And.intro ⟨_,by first | exact ldc | exact ldX x4,Is.r⟩ ?_
      refine And.intro ?_ trivial
      repeat first | refine And.intro Is.r ?_ | refine And.intro ⟨_,by first | exact ldc | exact ldX x4,Is.r⟩ ?_
      refine And.intro ?_ trivial
      repeat first | refine And.intro Is.r ?_ | refine And.intro ⟨_,by first | exact ldc | exact ldX x4,Is.r⟩ ?_
      exact ⟨((yg,yl,yf,ya),(ygf,ylf,yff,yaf)),⟨rfl,rfl,rfl,rfl,rfl,rfl,trivial⟩,⟨rfl,rfl,rfl,rfl,rfl,trivial⟩,L4,R4,S4,x4⟩
    · refine And.intro ?_ trivial
      repeat first | refine And.intro Is.r ?_ | refine And.intro ⟨_,by first | exact ldc | exact ldX x4,Is.r⟩ ?_
      refine And.intro ?_ trivial
      refine callP CE ?_
      rintro v h4 ⟨⟨p1,p2,p3,L4,p4,rfl,r4,q4,_⟩,x4⟩
      obtain ⟨yg,yl,yf,ygf,ylf,yff,z4,R4⟩:=r4.read
      obtain ⟨ya,yaf,y4,S4⟩:=q4.sl
      rw [z4,y4]
      repeat first | refine And.intro Is.r ?_ | refine And.intro ⟨_,by first | exact ldc | exact ldX x4,Is.r⟩ ?_
      refine And.intro ?_ trivial
      repeat first | refine And.intro Is.r ?_ | refine And.intro ⟨_,by first | exact ldc | exact ldX x4,Is.r⟩ ?_
      exact ⟨((yg,yl,yf,ya),(ygf,ylf,yff,yaf)),⟨rfl,rfl,rfl,rfl,rfl,rfl,trivial⟩,⟨rfl,rfl,rfl,rfl,rfl,trivial⟩,L4,R4,S4,x4⟩
  · rintro ⟨⟨yg,yl,yf,ya⟩,ygf,ylf,yff,yaf⟩ h4 ⟨L4,R4,S4,x4⟩
    simp only at R4 S4
    have hR4:=hR.ext (x23.trans x4)
    have CM:=SceneMany_ok (N0:=N0) (lo:=lo) s [] (some gad) la fa none gf lf ff 0 L h4 hR4 hB rfl (by simp)
    rw [hY0,hZ0,hok0] at CM
    refine callP CM ?_
    rintro v h5 ⟨⟨p1,p2,p3,L5,p4,rfl,r5,q5,_⟩,x5⟩
    obtain ⟨ug,ul,uf,ugf,ulf,uff,z5,R5⟩:=r5.read
    obtain ⟨ua,uaf,y5,S5⟩:=q5.sl
    rw [z5,y5]
    refine cndT ?_
    refine callP (llScene_ok s s yg yl yf (some gad) la fa ygf ylf yff gf lf ff L4 L h5 (R4.ext x5) (hR4.ext x5) hB) ?_
    rintro v h6 ⟨rfl,rfl⟩
    refine cnd (fun _ => ?_) (fun c=>by simp at c)
    refine callP (llInts_ok ya xa yaf xaf _ _ h6 (S4.ext x5) (S3.ext (x4.trans x5)) (seenO_len hB)) ?_
    rintro v h7 ⟨rfl,rfl⟩
    refine cnd (fun _ => ?_) (fun c=>by simp at c)
    refine cndT ?_
    refine callP (llScene_ok s s ug ul uf (some gad) la fa ugf ulf uff gf lf ff L5 L h7 R5 (hR4.ext x5) hB) ?_
    rintro v h8 ⟨rfl,rfl⟩
    refine cnd (fun _ => ?_) (fun c=>by simp at c)
    rfl
end Go.Proofs.YtjpcfaddimlbdaaGreat.Id
namespace Go.Proofs.YtjpcfaddimlbdaaGreat.fnSceneIdle
open Go.ChangeShapes Go.WideShapes Go.ChangeAt Go.RowKit Go.Id Go.Conc Go.Proofs.YtjpcfaddimlbdaaGreat.Id
set_option linter.unusedVariables false
theorem own:ownKnob Tryz.prog.godebug=none:=by kernel_rfl
theorem laidOut:laidOutB Tryz.prog=true:=by kernel_rfl
set_option maxRecDepth 100000 in
theorem lifted (os:Os) (started:os.Started) (H:Type) (enc:TypeId×Value→H) :
    ReturnsInLeavingWide {} Tryz.checked os 9 .any (Rows.fnSceneIdleSpec.pre6 enc Tryz.prog Tryz.f9 Rows.fnSceneIdleRow.domain false) (Rows.fnSceneIdleSpec.post enc Tryz.prog Tryz.f9 false true false false):=by
  refine returnsInLeavingWide_of_change_sized (C:=Tryz.checked) own started Tryz.func9
    (ChangeSpec.witness6 (enc:=enc) (C:=Tryz.checked) false ⟨#[],#[.slice none 0 0],[]⟩ 8 (by kernel_rfl) (by kernel_rfl) (by kernel_rfl) (by kernel_rfl)) ?_
  intro W base args ds gs before hval0 hW hcnd hsz0 _
  have hval:∀ (j:Nat) t v,Tryz.f9.params[j]? = some t→args[j]? = some v→Value.okWide Tryz.prog W .any base t v:=hval0
  have hW':=hW
  obtain ⟨p,q,hA0,hV,rfl,hfz,hnd⟩:=hW
  have hA:DataW.TrodAll enc Tryz.prog W 0 (fun _=>true) true Tryz.f9.params.toList args.toList ds p:=hA0
  rw [Tryz.params9] at hA hval
  obtain ⟨v0,vs0,d0,ds0,p0,q0,hargs,rfl,rfl,h0,r0⟩:=trodAll_cons hA
  obtain ⟨rfl,rfl,rfl⟩:=trodAll_nil r0
  obtain rfl:args=#[v0]:=by cases args;simp_all
  obtain ⟨rfl,rfl⟩:=trodVars_none hV
  have k0:=h0
  have lt0:∀ x∈p0,x.block < W.heap.size:=by obtain ⟨m,hm⟩:=k0;exact DataW.trod_lt m _ _ _ hm
  obtain ⟨s,h,bs,a,fl,I,_,_,V,S,hn,hb⟩:=in_bytes (InOk.nil W) (hval 0 39 v0 rfl rfl) h0
  clear hA0 hval0 hsz0
  obtain ⟨M,last,o,w',t',g1,g2,g3,g4⟩:=main_run (lo:=h.n) (Post:=fun v _=>v = .bool true) (argsr:=#[v0]) (args:=[.slice a bs.length fl]) Tryz.func9 rfl (Nat.le_of_ble_eq_true rfl) (by kernel_rfl) I (VRs.cons V (VRs.nil s)) (sceneIdle_R bs a fl h S hb (Nat.le_trans hn (by unfold Go.maxLen;exact Nat.le_refl _)) (Nat.le_refl _))
  refine ⟨M,last,o,w',t',g1,g2,g3,g4.mono fun vr ht => ?_⟩
  obtain ⟨v,h',s',O',rfl,_,_,hv,K⟩:=ht
  obtain rfl:vr = .bool true:=VR.bool_inv hv
  have bel:=below_of K
  exact ⟨_,_,_,[],_,[],hW',trodAll_mk1 (shut_bool Tryz.underlying4 _),trodAll_cons_mk (Trod_tape (Below.trod laidOut (by kernel_rfl) (of_decide_eq_true (by kernel_rfl)) k0 bel lt0)) trodAll_mk0,rfl,kept_frame K _,fun h=>by cases h⟩
theorem j2:laidOutB Tryz.pinned.checked.prog=true:=by kernel_rfl
theorem j3:mapsRowed Tryz.pinned.checked.prog=true:=by kernel_rfl
theorem j10:(Rows.fnSceneIdleRow.inPlace == Program.inPlace Tryz.pinned.checked.prog 9)=true:=by kernel_rfl
theorem j11:(Rows.fnSceneIdleRow.unfollowed == Program.unfollowed Tryz.pinned.checked.prog 9)=true:=by kernel_rfl
theorem j12:(Rows.fnSceneIdleRow.recurses == Program.recurses Tryz.pinned.checked.prog 9)=true:=by kernel_rfl
theorem j13:(Rows.fnSceneIdleRow.named == Program.varsNamed Tryz.pinned.checked.prog 9)=true:=by kernel_rfl
theorem j23:(Rows.fnSceneIdleRow.plainKeys == Program.plainKeys Tryz.pinned.checked.prog)=true:=by kernel_rfl
theorem j25:Program.stopsHeard Tryz.pinned.checked.prog=true:=by kernel_rfl
theorem j26:Program.mayEnter Tryz.pinned.checked.prog=true:=by kernel_rfl
theorem j27:(Rows.fnSceneIdleRow.lifted == Program.liftsFinal Tryz.pinned.checked.prog)=true:=by kernel_rfl
theorem j28:(Program.make Tryz.pinned.checked.prog == some Rows.fnSceneIdleRow.make)=true:=by kernel_rfl
theorem closed:joinedFacts Tryz.pinned.checked.prog 9 Tryz.f9 Rows.fnSceneIdleSpec Rows.fnSceneIdleRow=true :=
  joined_of (by kernel_rfl) j2 j3 (by kernel_rfl) (by kernel_rfl) (by kernel_rfl) (by kernel_rfl) (by kernel_rfl) (by kernel_rfl) j10 j11 j12 j13 (by kernel_rfl) (by kernel_rfl) (by kernel_rfl) (by kernel_rfl) (by kernel_rfl) (by kernel_rfl) (by kernel_rfl) (by kernel_rfl) (by kernel_rfl) j23 (by kernel_rfl) j25 j26 j27 j28 (by kernel_rfl) (by kernel_rfl) (by kernel_rfl) (by kernel_rfl)
theorem over:Rows.fnSceneIdleRow.holds Tryz.pinned (OpenSpec.ofChange Rows.fnSceneIdleSpec) :=
  OpenClaim.holds_of_wide_leaving 9 Tryz.f9 rfl rfl rfl rfl rfl rfl rfl ⟨rfl,rfl,rfl,rfl,rfl⟩ rfl rfl rfl rfl rfl (by kernel_rfl) Tryz.func9 closed
    (of_decide_eq_true (by kernel_rfl)) (by unfold Func.isWrapper;first | (rw [if_pos (by decide +kernel)];kernel_rfl) | (rw [if_neg (by decide +kernel)];exact ⟨rfl,rfl⟩))
    (fun os started H enc _=>lifted os started H enc)
theorem proved:Rows.FnSceneIdleSaid:=over
#print axioms proved
end Go.Proofs.YtjpcfaddimlbdaaGreat.fnSceneIdle
namespace Go.Proofs.YtjpcfaddimlbdaaGreat
theorem fnSceneIdle_holds:Rows.FnSceneIdleSaid:=fnSceneIdle.proved
end Go.Proofs.YtjpcfaddimlbdaaGreat
