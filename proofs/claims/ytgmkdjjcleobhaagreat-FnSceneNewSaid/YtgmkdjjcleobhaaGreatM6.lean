/- For every input the law returns true, and what came in reads as it did (the row of Rsn). No condition. Texts of this claim, joined: Wf, Te, Wj, Rsn. -/
import Derived.Test.YtgmkdjjcleobhaaGreatM5
import Derived.Test.YtgmkdjjcleobhaaGreatRows
import Derived.Conc.LeavingOf
import Derived.WalkKit
import Derived.ProofKit
import Derived.OpenShut
import Derived.ShutString
import Derived.SizedLaws
import Derived.Lib.SmallJoins
namespace Go.Proofs.YtgmkdjjcleobhaaGreat.Id
open Go.Id Go.Conc Go.Conc.Lib
open Go.Proofs
set_option linter.unusedVariables false
set_option maxRecDepth 100000
section
variable {X:Ctx Tryz.prog} {lo:Nat}
end
end Go.Proofs.YtgmkdjjcleobhaaGreat.Id
namespace Go.Proofs.YtgmkdjjcleobhaaGreat.Id
open Go.Id
open Go.Proofs
set_option linter.unusedVariables false
set_option maxRecDepth 100000
variable {X:Ctx Tryz.prog} {lo:Nat}
end Go.Proofs.YtgmkdjjcleobhaaGreat.Id
namespace Go.Proofs.YtgmkdjjcleobhaaGreat.Id
open Go.Id Go.Conc Go.Conc.Lib
open Go.Proofs
set_option linter.unusedVariables false
set_option maxRecDepth 100000
section
variable {N0:Nat→Prop} {lo:Nat}
theorem Tri.n {P:Program} {X:Ctx P} {lo:Nat} {f:FuncId} {args:List Value} {g:Gd} {h h0:Hp} (e:h=h0) {K:Value→Hp→Prop} (t:Tri X lo f args h0 fun v h'=>(∃ o1 o2 o3 L,v = .tuple #[scOV (newS g) o1 o2 o3,.bool (gOk g)]∧ScO h0.n h' (newS g) o1 o2 o3 L)∧Ext h0 h') (k:∀ h' g1 l1 f1 gf lf ff L,ScR h' (newS g) g1 l1 f1 L→Ext h0 h'→K (.tuple #[scV (newS g) g1 l1 f1 gf lf ff,.bool (gOk g)]) h'):CallP X lo f args h K:=by
  subst e
  refine callP t fun v h' p => ?_
  obtain ⟨⟨o1,o2,o3,L,hv,r⟩,x⟩:=p
  obtain ⟨ga,la,fa,gf,lf,ff,z,R⟩:=r.read
  rw [z] at hv
  subst hv
  exact k h' ga la fa gf lf ff L R x
set_option maxHeartbeats 800000 in
theorem sceneNew_R (bs:List Nat) (a:Option Addr) (fl:Nat) (h:Hp) (hs:Sls h uE 1 a bs) (hb:∀ b∈bs,b < 256) (hn:bs.length≤9223372036854775807) (hlo:lo≤h.n) :
    R (mainCtx Tryz.prog N0) lo 3 Tryz.f3 (.ret fun v _=>v = .bool true) [.code (bodyC Tryz.f3)] (argsTm 0 [.slice a bs.length fl]) [] h:=by
  refine more tbOk mtOk ⟨[],[(11,[0,1,2,3,4,5,6,7,8,9],[0,1,0,7,15,0,0,96,255,511]),(13,[0,1,2,3,4,5,6,7,8,9,10,11,12,13,14,15,16,17,18,19,20,21,22,23,24],[0,1,3,7,15,7,63,127,255,511,1023,511,2559,8191,16383,32767,65535,131071,262143,65535,589823,1638399,4194303,8388607,16777215])]⟩ 500 ?_
  refine cnd (fun c1=>rfl) (fun c1 => ?_)
  have hm:bs.length≤1048576:=by simp at c1;omega
  refine callP (DrawSceneNew_ok a fl bs h hs hm hb) ?_
  rintro v h1 ⟨g,ga,gf,rfl,d,hl,x1⟩
  have sl:=d.sls.2
  refine Tri.n rfl (sSceneNew_ok g ga gf h1 sl (by omega)) fun h2 wg wl wf wgf wlf wff L2 R2 x2 => ?_
  refine Tri.n rfl (SceneNew_ok g ga gf h2 (sl.ext x2) (by omega)) fun h3 xg xl xf xgf xlf xff L3 R3 x3 => ?_
  have mB:=newS_B (g:=g)
  obtain ⟨k1,hk1⟩:∃ k1,k1=gOk g:=⟨_,rfl⟩
  rw [← hk1]
  refine cnd (fun c=>by simp at c) (fun _ => ?_)
  refine callP (llScene_ok _ _ xg xl xf wg wl wf xgf xlf xff wgf wlf wff L3 L2 h3 R3 (R2.ext x3) mB) ?_
  rintro v h3' ⟨rfl,rfl⟩
  refine cnd (fun c=>by simp at c) (fun _ => ?_)
  refine cnd (fun c1 => ?_) (fun c1 => ?_)
  · refine cnd (fun _ => ?_) (fun c=>absurd c (by simp))
    refine callP (llScene_ok _ _ xg xl xf wg wl wf xgf xlf xff wgf wlf wff L3 L2 h3' R3 (R2.ext x3) mB) ?_
    rintro v h3 ⟨rfl,rfl⟩
    exact congrArg Value.bool (decide_eq_true rfl)
  have hok:gOk g=true:=by rw [← hk1];simpa using c1
  have hN:newS g=scG g:=by unfold newS;rw [if_pos hok]
  rw [hN] at R3 mB ⊢
  have x23:=x2.trans x3
  obtain ⟨l1,l2⟩:=scG_len g
  have hB:=mB
  have hft:=mB.ft
  refine loop (σ:=Nat) tbOk mtOk ⟨[],[(11,[0,1,2,3,4,5,6,7,8,9],[0,1,0,7,15,0,0,96,255,511]),(13,[0,1,2,3,4,5,6,7,8,9,10,11,12,13,14,15,16,17,18,19,20,21,22,23,24],[0,1,3,7,15,7,63,127,255,511,1023,511,2559,8191,16383,32767,65535,131071,262143,65535,589823,1638399,4194303,8388607,16777215])]⟩ (fun k=>[(8,.v (.int .i64 (k:Int))),(6,.l 2 0),(3,.l 0 0)]) (fun _=>[[.int .i64 g.w,.slice ga g.cs.length gf],cellsL (scV (scG g) wg wl wf wgf wlf wff),[.int .i64 (scG g).g.w,.slice xg (scG g).g.cs.length xgf,.slice xl (scG g).li.length xlf,.slice xf (scG g).ft.length xff]]) (fun k h'=>k≤(scG g).ft.length∧Ext h3' h') (fun k=>(scG g).ft.length - k) 400 0 (fun _=>rfl) ⟨rfl,rfl,rfl,trivial⟩ ⟨rfl,rfl,rfl,trivial⟩ ⟨Nat.zero_le _,Ext.refl _⟩ (fun k h4 hI again => ?_)
  obtain ⟨k1',x4⟩:=hI
  refine cnd (fun c => ?_) (fun c => ?_)
  · have c:k < (scG g).ft.length:=by simpa using c
    have wk:IntKind.i64.wrap ((k:Int)+1)=((k+1:Nat):Int):=wz (by omega) (by omega)
    have hkm:k < (many g).toNat:=by omega
    have hf:(scG g).ft[k]=footG g k:=by
      have:=(scG_get hkm).2
      rw [List.getElem?_eq_getElem c] at this
      exact Option.some.inj this
    have R4:=R3.ext x4
    obtain ⟨fd,fa1,ff1,rfl,fs1,fl1⟩:=R4.ft.get c
    have fl2:=fl1 _ (Ext.refl _)
    rw [hf] at fs1 fl1 fl2
    refine And.intro (by kernel_rfl) ?_
    refine And.intro ⟨by omega,by omega⟩ ?_
    refine ⟨_,fl2,?_⟩
    refine callP (TrailFoot_ok g k ga gf h4 (sl.ext (x23.trans x4)) (by omega)) ?_
    rintro v h5 ⟨⟨o5,rfl,g5⟩,x5⟩
    obtain ⟨ta,tf,z5,t5⟩:=g5.sl
    rw [z5]
    have fl5:=fl1 _ x5
    repeat first | refine And.intro Is.r ?_ | refine And.intro ⟨_,by first | exact fl2 | exact fl5,Is.r⟩ ?_
    have hfl:(footG g k).length≤1048576:=by rw [← hf];exact hB.el _ (List.getElem_mem c)
    refine callP (llInts_ok fa1 ta ff1 tf (footG g k) (footG g k) h5 (fs1.ext x5) t5 hfl) ?_
    rintro v h6 ⟨rfl,rfl⟩
    repeat first | refine And.intro Is.r ?_ | refine And.intro ⟨_,by first | exact fl2 | exact fl5,Is.r⟩ ?_
    refine cnd (fun c=>by simp at c) (fun _ => ?_)
    exact again (k+1) _ _ _ (by omega) ⟨vI wk,rfl,rfl,trivial⟩ ⟨rfl,rfl,rfl,trivial⟩ ⟨by omega,x4.trans x5⟩
  · have R4:=R3.ext x4
    have sl4:=sl.ext (x23.trans x4)
    refine And.intro (by kernel_rfl) ?_
    refine callP (SceneOk_ok (scG g) xg xl xf xgf xlf xff L3 h4 R4 mB) ?_
    rintro v h5 ⟨rfl,x5⟩
    rw [scOk_G hok]
    repeat refine And.intro Is.r ?_
    refine cndT ?_
    refine callP (llGrid_ok (scG g).g g xg ga xgf gf h5 ((R4.ext x5).g) (sl4.ext x5) (by show g.cs.length≤1048576;omega)) ?_
    rintro v h6 ⟨rfl,rfl⟩
    rw [decide_eq_true (show (scG g).g=g from rfl)]
    repeat refine And.intro Is.r ?_
    refine cndT ?_
    refine callP (PicOf_ok g ga gf h6 (sl4.ext x5) (by omega)) ?_
    rintro v h7 ⟨⟨o7,rfl,g7,_⟩,x7⟩
    rw [hok,if_pos rfl] at g7
    obtain ⟨pa,pf,z7,t7⟩:=gx_slv g7 fun _=>rfl
    rw [hok,if_pos rfl,z7]
    repeat refine And.intro Is.r ?_
    refine callP (llInts_ok xl pa xlf pf (scG g).li (pic g) h7 ((R4.ext (x5.trans x7)).li) t7 (by have:=mB.li;omega)) ?_
    rintro v h8 ⟨rfl,rfl⟩
    rw [decide_eq_true (show (scG g).li=pic g from rfl)]
    repeat refine And.intro Is.r ?_
    refine cndT ?_
    repeat refine And.intro Is.r ?_
    refine congrArg Value.bool (decide_eq_true ?_)
    omega
end
end Go.Proofs.YtgmkdjjcleobhaaGreat.Id
namespace Go.Proofs.YtgmkdjjcleobhaaGreat.fnSceneNew
open Go.ChangeShapes Go.WideShapes Go.ChangeAt Go.RowKit Go.Id Go.Conc Go.Proofs.YtgmkdjjcleobhaaGreat.Id
set_option linter.unusedVariables false
theorem own:ownKnob Tryz.prog.godebug=none:=by kernel_rfl
theorem laidOut:laidOutB Tryz.prog=true:=by kernel_rfl
set_option maxRecDepth 100000 in
theorem lifted (os:Os) (started:os.Started) (H:Type) (enc:TypeId×Value→H) :
    ReturnsInLeavingWide {} Tryz.checked os 3 .any (Rows.fnSceneNewSpec.pre6 enc Tryz.prog Tryz.f3 Rows.fnSceneNewRow.domain false) (Rows.fnSceneNewSpec.post enc Tryz.prog Tryz.f3 false true false false):=by
  refine returnsInLeavingWide_of_change_sized (C:=Tryz.checked) own started Tryz.func3
    (ChangeSpec.witness6 (enc:=enc) (C:=Tryz.checked) false ⟨#[],#[.slice none 0 0],[]⟩ 8 (by kernel_rfl) (by kernel_rfl) (by kernel_rfl) (by kernel_rfl)) ?_
  intro W base args ds gs before hval0 hW hcnd hsz0 _
  have hval:∀ (j:Nat) t v,Tryz.f3.params[j]? = some t→args[j]? = some v→Value.okWide Tryz.prog W .any base t v:=hval0
  have hW':=hW
  obtain ⟨p,q,hA0,hV,rfl,hfz,hnd⟩:=hW
  have hA:DataW.TrodAll enc Tryz.prog W 0 (fun _=>true) true Tryz.f3.params.toList args.toList ds p:=hA0
  rw [Tryz.params3] at hA hval
  obtain ⟨v0,vs0,d0,ds0,p0,q0,hargs,rfl,rfl,h0,r0⟩:=trodAll_cons hA
  obtain ⟨rfl,rfl,rfl⟩:=trodAll_nil r0
  obtain rfl:args=#[v0]:=by cases args;simp_all
  obtain ⟨rfl,rfl⟩:=trodVars_none hV
  have k0:=h0
  have lt0:∀ x∈p0,x.block < W.heap.size:=by obtain ⟨m,hm⟩:=k0;exact DataW.trod_lt m _ _ _ hm
  obtain ⟨s,h,bs,a,fl,I,_,_,V,S,hn,hb⟩:=in_bytes (InOk.nil W) (hval 0 22 v0 rfl rfl) h0
  clear hA0 hval0 hsz0
  obtain ⟨M,last,o,w',t',g1,g2,g3,g4⟩:=main_run (lo:=h.n) (Post:=fun v _=>v = .bool true) (argsr:=#[v0]) (args:=[.slice a bs.length fl]) Tryz.func3 rfl (Nat.le_of_ble_eq_true rfl) (by kernel_rfl) I (VRs.cons V (VRs.nil s)) (sceneNew_R bs a fl h S hb (Nat.le_trans hn (by unfold Go.maxLen;exact Nat.le_refl _)) (Nat.le_refl _))
  refine ⟨M,last,o,w',t',g1,g2,g3,g4.mono fun vr ht => ?_⟩
  obtain ⟨v,h',s',O',rfl,_,_,hv,K⟩:=ht
  obtain rfl:vr = .bool true:=VR.bool_inv hv
  have bel:=below_of K
  exact ⟨_,_,_,[],_,[],hW',trodAll_mk1 (shut_bool Tryz.underlying4 _),trodAll_cons_mk (Trod_tape (Below.trod laidOut (by kernel_rfl) (of_decide_eq_true (by kernel_rfl)) k0 bel lt0)) trodAll_mk0,rfl,kept_frame K _,fun h=>by cases h⟩
theorem j2:laidOutB Tryz.pinned.checked.prog=true:=by kernel_rfl
theorem j3:mapsRowed Tryz.pinned.checked.prog=true:=by kernel_rfl
theorem j10:(Rows.fnSceneNewRow.inPlace == Program.inPlace Tryz.pinned.checked.prog 3)=true:=by kernel_rfl
theorem j11:(Rows.fnSceneNewRow.unfollowed == Program.unfollowed Tryz.pinned.checked.prog 3)=true:=by kernel_rfl
theorem j12:(Rows.fnSceneNewRow.recurses == Program.recurses Tryz.pinned.checked.prog 3)=true:=by kernel_rfl
theorem j13:(Rows.fnSceneNewRow.named == Program.varsNamed Tryz.pinned.checked.prog 3)=true:=by kernel_rfl
theorem j23:(Rows.fnSceneNewRow.plainKeys == Program.plainKeys Tryz.pinned.checked.prog)=true:=by kernel_rfl
theorem j25:Program.stopsHeard Tryz.pinned.checked.prog=true:=by kernel_rfl
theorem j26:Program.mayEnter Tryz.pinned.checked.prog=true:=by kernel_rfl
theorem j27:(Rows.fnSceneNewRow.lifted == Program.liftsFinal Tryz.pinned.checked.prog)=true:=by kernel_rfl
theorem j28:(Program.make Tryz.pinned.checked.prog == some Rows.fnSceneNewRow.make)=true:=by kernel_rfl
theorem closed:joinedFacts Tryz.pinned.checked.prog 3 Tryz.f3 Rows.fnSceneNewSpec Rows.fnSceneNewRow=true :=
  joined_of (by kernel_rfl) j2 j3 (by kernel_rfl) (by kernel_rfl) (by kernel_rfl) (by kernel_rfl) (by kernel_rfl) (by kernel_rfl) j10 j11 j12 j13 (by kernel_rfl) (by kernel_rfl) (by kernel_rfl) (by kernel_rfl) (by kernel_rfl) (by kernel_rfl) (by kernel_rfl) (by kernel_rfl) (by kernel_rfl) j23 (by kernel_rfl) j25 j26 j27 j28 (by kernel_rfl) (by kernel_rfl) (by kernel_rfl) (by kernel_rfl)
theorem over:Rows.fnSceneNewRow.holds Tryz.pinned (OpenSpec.ofChange Rows.fnSceneNewSpec) :=
  OpenClaim.holds_of_wide_leaving 3 Tryz.f3 rfl rfl rfl rfl rfl rfl rfl ⟨rfl,rfl,rfl,rfl,rfl⟩ rfl rfl rfl rfl rfl (by kernel_rfl) Tryz.func3 closed
    (of_decide_eq_true (by kernel_rfl)) (by unfold Func.isWrapper;first | (rw [if_pos (by decide +kernel)];kernel_rfl) | (rw [if_neg (by decide +kernel)];exact ⟨rfl,rfl⟩))
    (fun os started H enc _=>lifted os started H enc)
theorem proved:Rows.FnSceneNewSaid:=over
#print axioms proved
end Go.Proofs.YtgmkdjjcleobhaaGreat.fnSceneNew
namespace Go.Proofs.YtgmkdjjcleobhaaGreat
theorem fnSceneNew_holds:Rows.FnSceneNewSaid:=fnSceneNew.proved
end Go.Proofs.YtgmkdjjcleobhaaGreat
