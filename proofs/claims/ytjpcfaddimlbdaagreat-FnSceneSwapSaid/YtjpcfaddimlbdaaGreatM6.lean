/- For every input the law returns true, and what came in reads as it did (the row of Rsw). No condition. Texts of this claim, joined: We, Rsw. -/
import Derived.Test.YtjpcfaddimlbdaaGreatM5
import Derived.Test.YtjpcfaddimlbdaaGreatRows
import Derived.Conc.LeavingOf
import Derived.WalkKit
import Derived.ProofKit
import Derived.OpenShut
import Derived.ShutString
import Derived.SizedLaws
import Derived.Lib.SmallJoins
namespace Go.Proofs.YtjpcfaddimlbdaaGreat.Id
open Go.Id Go.Conc Go.Conc.Lib
open Go.Proofs
set_option linter.unusedVariables false
set_option maxRecDepth 100000
variable {N0:Nat→Prop} {lo:Nat}
theorem okS_swap (s:Sc) (e f:Ed):okS s [f,e]=okS s [e,f]:=by
  unfold okS
  simp only [List.all_cons,List.all_nil,Bool.and_true,List.length_cons,List.length_nil]
  rw [Bool.and_comm (eOk s.g f)]
theorem seen_swap (s:Sc) (e f:Ed):seenS s [f,e]=seenS s [e,f]:=by
  unfold seenS
  congr 1
  refine List.filter_congr fun k hk => ?_
  simp only [List.any_cons,List.any_nil,Bool.or_false]
  rw [Bool.or_comm]
theorem puts_swap {g:Gd} {e f:Ed} (h:e.1.toNat≠f.1.toNat):puts g [f,e]=puts g [e,f]:=by
  refine Gd.ext' rfl ?_
  show (g.cs.set f.1.toNat f.2).set e.1.toNat e.2=(g.cs.set e.1.toNat e.2).set f.1.toNat f.2
  rw [List.set_comm _ _ (fun q=>h q.symm)]
theorem puts_over {g:Gd} {e f:Ed} (h:e.1=f.1):puts g [e,f]=puts g [f]:=by
  refine Gd.ext' rfl ?_
  show (g.cs.set e.1.toNat e.2).set f.1.toNat f.2=g.cs.set f.1.toNat f.2
  rw [h,List.set_set]
set_option maxHeartbeats 800000 in
theorem sceneSwap_R (bs:List Nat) (a:Option Addr) (fl:Nat) (bs2:List Nat) (a2:Option Addr) (fl2:Nat) (h:Hp) (hs:Sls h uE 1 a bs) (hb:∀ b∈bs,b < 256) (hn:bs.length≤9223372036854775807) (hs2:Sls h uE 1 a2 bs2) (hb2:∀ b∈bs2,b < 256) (hn2:bs2.length≤9223372036854775807) (hlo:lo≤h.n) :
    R (mainCtx Tryz.prog N0) lo 10 Tryz.f10 (.ret fun v _=>v = .bool true) [.code (bodyC Tryz.f10)] (argsTm 0 [.slice a bs.length fl,.slice a2 bs2.length fl2]) [] h:=by
  refine more tbOk mtOk ⟨[],[]⟩ 96 ?_
  refine cnd (fun c1=>cndT rfl) (fun c1 => ?_)
  have hm:bs.length≤1048576:=by simp at c1;omega
  refine cnd (fun c1=>rfl) (fun c1 => ?_)
  have hm2:bs2.length≤1048576:=by simp at c1;omega
  refine callP (DrawSceneEdit_ok a fl bs h hs hm hb) ?_
  rintro v h1 ⟨s,ga,la,fa,gf,lf,ff,L,e,rfl,hR,hS,x1⟩
  have hB:=hS.b
  refine callP (DrawSceneEdit_ok a2 fl2 bs2 h1 (hs2.ext x1) hm2 hb2) ?_
  rintro v h1' ⟨s',ga',la',fa',gf',lf',ff',L',f,rfl,_,_,x1'⟩
  have hR:=hR.ext x1'
  refine Tri.r rfl (sSceneEdit_ok s e ga la fa gf lf ff L h1' hR hB) fun h2 wg wl wf wgf wlf wff L2 wa waf R2 S2 x2 => ?_
  refine Tri.r rfl (SceneEdit_ok s e ga la fa gf lf ff L h2 (hR.ext x2) hB) fun h3 xg xl xf xgf xlf xff L3 xa xaf R3 S3 x3 => ?_
  have mB:=many_B (s:=s) (es:=[e])
  obtain ⟨k1,hk1⟩:∃ k1,k1=okS s [e]:=⟨_,rfl⟩
  rw [← hk1]
  refine cnd (fun c=>by simp at c) (fun _ => ?_)
  refine callP (llScene_ok _ _ xg xl xf wg wl wf xgf xlf xff wgf wlf wff L3 L2 h3 R3 (R2.ext x3) mB) ?_
  rintro v h3' ⟨rfl,rfl⟩
  refine cnd (fun c=>by simp at c) (fun _ => ?_)
  refine callP (llInts_ok xa wa xaf waf _ _ h3' S3 (S2.ext x3) (seenO_len hB)) ?_
  rintro v h3 ⟨rfl,rfl⟩
  refine cnd (fun c=>by simp at c) (fun _ => ?_)
  refine cnd (fun c1 => ?_) (fun c1 => ?_)
  · refine more tbOk mtOk ⟨[],[]⟩ 100 ?_
    refine cnd (fun _ => ?_) (fun c=>absurd c (by simp))
    refine callP (llScene_ok _ _ xg xl xf wg wl wf xgf xlf xff wgf wlf wff L3 L2 h3 R3 (R2.ext x3) mB) ?_
    rintro v h3' ⟨rfl,rfl⟩
    refine cnd (fun _ => ?_) (fun c=>by simp at c)
    refine callP (llInts_ok xa wa xaf waf _ _ h3' S3 (S2.ext x3) (seenO_len hB)) ?_
    rintro v h3 ⟨rfl,rfl⟩
    exact congrArg Value.bool (decide_eq_true rfl)
  have x23:=x2.trans x3
  have hR3:=hR.ext x23
  refine R_trim (t':=[(5,.l 0 0),(6,.l 1 0),(8,.l 3 0)]) (ls':=[cellsL (scV s ga la fa gf lf ff),edE e,cellsL (scV s' ga' la' fa' gf' lf' ff'),edE f]) ⟨rfl,rfl,rfl,trivial⟩ rfl ⟨rfl,rfl,rfl,rfl,trivial⟩ ?_
  refine more tbOk mtOk ⟨[],[]⟩ 300 ?_
  have e4:Ext h3 (h3.push (.cells (([e,f]:List Ed).flatMap edE) 3 0)):=Ext.push _ _
  have w4:Row (h3.push (.cells (([e,f]:List Ed).flatMap edE) 3 0)) h3.n 0 edE 3 [e,f]:=Row.push
  refine Tri.r (by kernel_rfl) (SceneMany_ok s [e,f] ga la fa (some ⟨h3.n,0,some 0⟩) gf lf ff 1 L _ (hR3.ext e4) hB (w4.sls edE3) (by simp)) fun h5 ug ul uf ugf ulf uff L5 ua uaf R5 S5 x5 => ?_
  have x35:=e4.trans x5
  have e6:Ext h5 (h5.push (.cells (([f,e]:List Ed).flatMap edE) 3 0)):=Ext.push _ _
  have w6:Row (h5.push (.cells (([f,e]:List Ed).flatMap edE) 3 0)) h5.n 0 edE 3 [f,e]:=Row.push
  refine Tri.r (by kernel_rfl) (SceneMany_ok s [f,e] ga la fa (some ⟨h5.n,0,some 0⟩) gf lf ff 1 L _ (hR3.ext (x35.trans e6)) hB (w6.sls edE3) (by simp)) fun h7 vg vl vf vgf vlf vff L7 va vaf R7 S7 x7 => ?_
  have x57:=e6.trans x7
  rw [okS_swap s e f]
  obtain ⟨k2,hk2⟩:∃ k2,k2=okS s [e,f]:=⟨_,rfl⟩
  rw [← hk2]
  refine cnd (fun c=>by simp at c) (fun _ => ?_)
  refine cnd (fun c2=>congrArg Value.bool (by simp)) (fun c2 => ?_)
  have hok2:okS s [e,f]=true:=by rw [← hk2];simpa using c2
  obtain ⟨hg,hsG,hall,hg1,hM,hSn⟩:=many_eq hok2
  obtain ⟨_,_,_,_,hM',hSn'⟩:=many_eq ((okS_swap s e f).trans hok2)
  have he:=(eOk_iff.1 (hall e (by simp))).2.1
  have hf:=(eOk_iff.1 (hall f (by simp))).2.1
  have mB2:=many_B (s:=s) (es:=[e,f])
  refine cnd (fun c3 => ?_) (fun c3 => ?_)
  · have c3:e.1=f.1:=by simpa using c3
    refine Tri.r rfl (SceneEdit_ok s f ga la fa gf lf ff L h7 (hR3.ext (x35.trans x57)) hB) fun h8 kg kl kf kgf klf kff L8 ka kaf R8 S8 x8 => ?_
    have hokf:okS s [f]=true:=okS_iff.2 ⟨(okS_iff.1 hok2).1,by simp,fun x hx=>hall x (by simp at hx;simp [hx])⟩
    obtain ⟨_,_,_,_,hMf,_⟩:=many_eq hokf
    have hE:manyS s [f]=manyS s [e,f]:=by rw [hM,hMf,puts_over c3]
    rw [hokf]
    rw [hE] at R8 ⊢
    refine cndT ?_
    refine callP (llScene_ok _ _ ug ul uf kg kl kf ugf ulf uff kgf klf kff L5 L8 h8 (R5.ext (x57.trans x8)) R8 mB2) ?_
    rintro v h9 ⟨rfl,rfl⟩
    exact congrArg Value.bool (decide_eq_true rfl)
  · have c3:e.1≠f.1:=by simpa using c3
    have hE:manyS s [f,e]=manyS s [e,f]:=by rw [hM,hM',puts_swap (by omega)]
    have hE2:seenO s [f,e]=seenO s [e,f]:=by rw [hSn,hSn',seen_swap]
    rw [hE] at R7 ⊢
    rw [hE2] at S7 ⊢
    refine callP (llScene_ok _ _ ug ul uf vg vl vf ugf ulf uff vgf vlf vff L5 L7 h7 (R5.ext x57) R7 mB2) ?_
    rintro v h9 ⟨rfl,rfl⟩
    refine cnd (fun _ => ?_) (fun c=>by simp at c)
    refine callP (llInts_ok ua va uaf vaf _ _ h9 (S5.ext x57) S7 (seenO_len hB)) ?_
    rintro v h10 ⟨rfl,rfl⟩
    exact congrArg Value.bool (decide_eq_true rfl)
end Go.Proofs.YtjpcfaddimlbdaaGreat.Id
namespace Go.Proofs.YtjpcfaddimlbdaaGreat.fnSceneSwap
open Go.ChangeShapes Go.WideShapes Go.ChangeAt Go.RowKit Go.Id Go.Conc Go.Proofs.YtjpcfaddimlbdaaGreat.Id
set_option linter.unusedVariables false
theorem own:ownKnob Tryz.prog.godebug=none:=by kernel_rfl
theorem laidOut:laidOutB Tryz.prog=true:=by kernel_rfl
set_option maxRecDepth 100000 in
theorem lifted (os:Os) (started:os.Started) (H:Type) (enc:TypeId×Value→H) :
    ReturnsInLeavingWide {} Tryz.checked os 10 .any (Rows.fnSceneSwapSpec.pre6 enc Tryz.prog Tryz.f10 Rows.fnSceneSwapRow.domain false) (Rows.fnSceneSwapSpec.post enc Tryz.prog Tryz.f10 false true false false):=by
  refine returnsInLeavingWide_of_change_sized (C:=Tryz.checked) own started Tryz.func10
    (ChangeSpec.witness6 (enc:=enc) (C:=Tryz.checked) false ⟨#[],#[.slice none 0 0,.slice none 0 0],[]⟩ 8 (by kernel_rfl) (by kernel_rfl) (by kernel_rfl) (by kernel_rfl)) ?_
  intro W base args ds gs before hval0 hW hcnd hsz0 _
  have hval:∀ (j:Nat) t v,Tryz.f10.params[j]? = some t→args[j]? = some v→Value.okWide Tryz.prog W .any base t v:=hval0
  have hW':=hW
  obtain ⟨p,q,hA0,hV,rfl,hfz,hnd⟩:=hW
  have hA:DataW.TrodAll enc Tryz.prog W 0 (fun _=>true) true Tryz.f10.params.toList args.toList ds p:=hA0
  rw [Tryz.params10] at hA hval
  obtain ⟨v0,vs0,d0,ds0,p0,q0,hargs,rfl,rfl,h0,r0⟩:=trodAll_cons hA
  obtain ⟨v1,vs1,d1,ds1,p1,q1,hargs1,rfl,rfl,h1,r1⟩:=trodAll_cons r0
  obtain ⟨rfl,rfl,rfl⟩:=trodAll_nil r1
  obtain rfl:args=#[v0,v1]:=by cases args;simp_all
  obtain ⟨rfl,rfl⟩:=trodVars_none hV
  have k0:=h0
  have k1:=h1
  have lt0:∀ x∈p0,x.block < W.heap.size:=by obtain ⟨m,hm⟩:=k0;exact DataW.trod_lt m _ _ _ hm
  have lt1:∀ x∈p1,x.block < W.heap.size:=by obtain ⟨m,hm⟩:=k1;exact DataW.trod_lt m _ _ _ hm
  obtain ⟨s0,h0',bs,a,fl,I0,_,_,V0,S0,hn,hb⟩:=in_bytes (InOk.nil W) (hval 0 39 v0 rfl rfl) h0
  obtain ⟨s,h,bs2,a2,fl2,I,l1,e1,V,S,hn2,hb2⟩:=in_bytes I0 (hval 1 39 v1 rfl rfl) h1
  clear hA0 hval0 hsz0
  obtain ⟨M,last,o,w',t',g1,g2,g3,g4⟩:=main_run (lo:=h.n) (Post:=fun v _=>v = .bool true) (argsr:=#[v0,v1]) (args:=[.slice a bs.length fl,.slice a2 bs2.length fl2]) Tryz.func10 rfl (Nat.le_of_ble_eq_true rfl) (by kernel_rfl) I (VRs.cons (V0.mono l1) (VRs.cons V (VRs.nil s))) (sceneSwap_R bs a fl bs2 a2 fl2 h (S0.ext e1) hb (Nat.le_trans hn (by unfold Go.maxLen;exact Nat.le_refl _)) S hb2 (Nat.le_trans hn2 (by unfold Go.maxLen;exact Nat.le_refl _)) (Nat.le_refl _))
  refine ⟨M,last,o,w',t',g1,g2,g3,g4.mono fun vr ht => ?_⟩
  obtain ⟨v,h',s',O',rfl,_,_,hv,K⟩:=ht
  obtain rfl:vr = .bool true:=VR.bool_inv hv
  have bel:=below_of K
  exact ⟨_,_,_,[],_,[],hW',trodAll_mk1 (shut_bool Tryz.underlying4 _),trodAll_cons_mk (Trod_tape (Below.trod laidOut (by kernel_rfl) (of_decide_eq_true (by kernel_rfl)) k0 bel lt0)) (trodAll_cons_mk (Trod_tape (Below.trod laidOut (by kernel_rfl) (of_decide_eq_true (by kernel_rfl)) k1 bel lt1)) trodAll_mk0),rfl,kept_frame K _,fun h=>by cases h⟩
theorem j2:laidOutB Tryz.pinned.checked.prog=true:=by kernel_rfl
theorem j3:mapsRowed Tryz.pinned.checked.prog=true:=by kernel_rfl
theorem j10:(Rows.fnSceneSwapRow.inPlace == Program.inPlace Tryz.pinned.checked.prog 10)=true:=by kernel_rfl
theorem j11:(Rows.fnSceneSwapRow.unfollowed == Program.unfollowed Tryz.pinned.checked.prog 10)=true:=by kernel_rfl
theorem j12:(Rows.fnSceneSwapRow.recurses == Program.recurses Tryz.pinned.checked.prog 10)=true:=by kernel_rfl
theorem j13:(Rows.fnSceneSwapRow.named == Program.varsNamed Tryz.pinned.checked.prog 10)=true:=by kernel_rfl
theorem j23:(Rows.fnSceneSwapRow.plainKeys == Program.plainKeys Tryz.pinned.checked.prog)=true:=by kernel_rfl
theorem j25:Program.stopsHeard Tryz.pinned.checked.prog=true:=by kernel_rfl
theorem j26:Program.mayEnter Tryz.pinned.checked.prog=true:=by kernel_rfl
theorem j27:(Rows.fnSceneSwapRow.lifted == Program.liftsFinal Tryz.pinned.checked.prog)=true:=by kernel_rfl
theorem j28:(Program.make Tryz.pinned.checked.prog == some Rows.fnSceneSwapRow.make)=true:=by kernel_rfl
theorem closed:joinedFacts Tryz.pinned.checked.prog 10 Tryz.f10 Rows.fnSceneSwapSpec Rows.fnSceneSwapRow=true :=
  joined_of (by kernel_rfl) j2 j3 (by kernel_rfl) (by kernel_rfl) (by kernel_rfl) (by kernel_rfl) (by kernel_rfl) (by kernel_rfl) j10 j11 j12 j13 (by kernel_rfl) (by kernel_rfl) (by kernel_rfl) (by kernel_rfl) (by kernel_rfl) (by kernel_rfl) (by kernel_rfl) (by kernel_rfl) (by kernel_rfl) j23 (by kernel_rfl) j25 j26 j27 j28 (by kernel_rfl) (by kernel_rfl) (by kernel_rfl) (by kernel_rfl)
theorem over:Rows.fnSceneSwapRow.holds Tryz.pinned (OpenSpec.ofChange Rows.fnSceneSwapSpec) :=
  OpenClaim.holds_of_wide_leaving 10 Tryz.f10 rfl rfl rfl rfl rfl rfl rfl ⟨rfl,rfl,rfl,rfl,rfl⟩ rfl rfl rfl rfl rfl (by kernel_rfl) Tryz.func10 closed
    (of_decide_eq_true (by kernel_rfl)) (by unfold Func.isWrapper;first | (rw [if_pos (by decide +kernel)];kernel_rfl) | (rw [if_neg (by decide +kernel)];exact ⟨rfl,rfl⟩))
    (fun os started H enc _=>lifted os started H enc)
theorem proved:Rows.FnSceneSwapSaid:=over
#print axioms proved
end Go.Proofs.YtjpcfaddimlbdaaGreat.fnSceneSwap
namespace Go.Proofs.YtjpcfaddimlbdaaGreat
theorem fnSceneSwap_holds:Rows.FnSceneSwapSaid:=fnSceneSwap.proved
end Go.Proofs.YtjpcfaddimlbdaaGreat
