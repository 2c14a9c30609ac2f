/- For every input the law returns true, and what came in reads as it did (the row of Rse). No condition. Texts of this claim, joined: Wd, Rse. -/
import Derived.Test.YtjpcfaddimlbdaaGreatM5
import Derived.Test.YtjpcfaddimlbdaaGreatRows
import Derived.Conc.LeavingOf
import Derived.WalkKit
import Derived.ProofKit
import Derived.OpenShut
import Derived.ShutString
import Derived.SizedLaws
import Derived.Lib.SmallJoins
namespace Go.Proofs.YtjpcfaddimlbdaaGreat.Id
open Go.Id Go.Conc Go.Conc.Lib
open Go.Proofs
set_option linter.unusedVariables false
set_option maxRecDepth 100000
variable {N0:Nat→Prop} {lo:Nat}
theorem sceneEdit_R (bs:List Nat) (a:Option Addr) (fl:Nat) (h:Hp) (hs:Sls h uE 1 a bs) (hb:∀ b∈bs,b < 256) (hn:bs.length≤9223372036854775807) (hlo:lo≤h.n) :
    R (mainCtx Tryz.prog N0) lo 13 Tryz.f13 (.ret fun v _=>v = .bool true) [.code (bodyC Tryz.f13)] (argsTm 0 [.slice a bs.length fl]) [] h:=by
  refine more tbOk mtOk ⟨[],[]⟩ 400 ?_
  refine cnd (fun c1=>rfl) (fun c1 => ?_)
  have hm:bs.length≤1048576:=by simp at c1;omega
  refine callP (DrawSceneEdit_ok a fl bs h hs hm hb) ?_
  rintro v h1 ⟨s,ga,la,fa,gf,lf,ff,L,e,rfl,hR,hS,x1⟩
  have hB:=hS.b
  refine callP (sSceneEdit_ok s e ga la fa gf lf ff L h1 hR hB) ?_
  rintro v h2 ⟨⟨o1,o2,o3,L2,o,rfl,r2,q2,_⟩,x2⟩
  obtain ⟨wg,wl,wf,wgf,wlf,wff,z2,R2⟩:=r2.read
  obtain ⟨wa,waf,y2,S2⟩:=q2.sl
  rw [z2,y2]
  refine callP (SceneEdit_ok s e ga la fa gf lf ff L h2 (hR.ext x2) hB) ?_
  rintro v h3 ⟨⟨o1',o2',o3',L3,o',rfl,r3,q3,_⟩,x3⟩
  obtain ⟨xg,xl,xf,xgf,xlf,xff,z3,R3⟩:=r3.read
  obtain ⟨xa,xaf,y3,S3⟩:=q3.sl
  rw [z3,y3]
  have mB:=many_B (s:=s) (es:=[e])
  refine cnd (fun c=>by simp at c) (fun _ => ?_)
  refine callP (llScene_ok _ _ xg xl xf wg wl wf xgf xlf xff wgf wlf wff L3 L2 h3 R3 (R2.ext x3) mB) ?_
  rintro v h3' ⟨rfl,rfl⟩
  refine cnd (fun c=>by simp at c) (fun _ => ?_)
  refine callP (llInts_ok xa wa xaf waf _ _ h3' S3 (S2.ext x3) (seenO_len hB)) ?_
  rintro v h3 ⟨rfl,rfl⟩
  refine cnd (fun c=>by simp at c) (fun _ => ?_)
  refine cnd (fun c1 => ?_) (fun c1 => ?_)
  · refine cnd (fun _ => ?_) (fun c=>absurd c (by simp))
    refine callP (llScene_ok _ _ xg xl xf wg wl wf xgf xlf xff wgf wlf wff L3 L2 h3 R3 (R2.ext x3) mB) ?_
    rintro v h3' ⟨rfl,rfl⟩
    refine cnd (fun _ => ?_) (fun c=>by simp at c)
    refine callP (llInts_ok xa wa xaf waf _ _ h3' S3 (S2.ext x3) (seenO_len hB)) ?_
    rintro v h3 ⟨rfl,rfl⟩
    exact congrArg Value.bool (decide_eq_true rfl)
  have hok:okS s [e]=true:=by simpa using c1
  obtain ⟨hg,hsG,hall,hg1,hM,hSn⟩:=many_eq hok
  have he:=hall e (by simp)
  obtain ⟨ec,ea1,ea2⟩:=eOk_iff.1 he
  have hj:e.1.toNat < s.g.cs.length:=by omega
  have x23:=x2.trans x3
  have hn2:(s.g.cs.length:Int) < 2 ^ 31:=by have:=hS.1;omega
  have G:=GridPut_ok (X:=mainCtx Tryz.prog N0) (lo:=lo) s.g e.1.toNat e.2 ga gf h3 ((hR.ext x23).g) hg ec hj hn2
  rw [nat_of ea1] at G
  refine callP G ?_
  rintro v h4 ⟨⟨o4,rfl,g4⟩,x4⟩
  have g4:Gx h3.n h4 cE 2 o4 (putE s.g e).cs:=g4
  obtain ⟨pa,pf,z4,S4⟩:=gx_slv g4 cE2
  rw [putE_len] at z4
  rw [z4]
  have N:=SceneNew_ok (N0:=N0) (lo:=lo) (putE s.g e) pa pf h4 S4 (by rw [putE_len];exact hn2)
  have hgp:gOk (putE s.g e)=true:=hg1
  have hnew:newS (putE s.g e)=manyS s [e]:=by
    rw [hM];unfold newS;rw [hgp];rfl
  rw [putE_len,hgp,hnew] at N
  refine callP N ?_
  rintro v h5 ⟨⟨p1,p2,p3,L5,rfl,r5⟩,x5⟩
  obtain ⟨yg,yl,yf,ygf,ylf,yff,z5,R5⟩:=r5.read
  rw [z5]
  refine cndT ?_
  refine cndT ?_
  refine callP (llScene_ok _ _ xg xl xf yg yl yf xgf xlf xff ygf ylf yff L3 L5 h5 (R3.ext (x4.trans x5)) R5 mB) ?_
  rintro v h5' ⟨rfl,rfl⟩
  refine cnd (fun _ => ?_) (fun c=>by simp at c)
  refine callP (SceneOk_ok (manyS s [e]) xg xl xf xgf xlf xff L3 h5' (R3.ext (x4.trans x5)) mB) ?_
  rintro v h6 ⟨rfl,x6⟩
  have hk:scOk (manyS s [e])=true:=by rw [hM];exact scOk_G hg1
  exact congrArg Value.bool hk
end Go.Proofs.YtjpcfaddimlbdaaGreat.Id
namespace Go.Proofs.YtjpcfaddimlbdaaGreat.fnSceneEdit
open Go.ChangeShapes Go.WideShapes Go.ChangeAt Go.RowKit Go.Id Go.Conc Go.Proofs.YtjpcfaddimlbdaaGreat.Id
set_option linter.unusedVariables false
theorem own:ownKnob Tryz.prog.godebug=none:=by kernel_rfl
theorem laidOut:laidOutB Tryz.prog=true:=by kernel_rfl
set_option maxRecDepth 100000 in
theorem lifted (os:Os) (started:os.Started) (H:Type) (enc:TypeId×Value→H) :
    ReturnsInLeavingWide {} Tryz.checked os 13 .any (Rows.fnSceneEditSpec.pre6 enc Tryz.prog Tryz.f13 Rows.fnSceneEditRow.domain false) (Rows.fnSceneEditSpec.post enc Tryz.prog Tryz.f13 false true false false):=by
  refine returnsInLeavingWide_of_change_sized (C:=Tryz.checked) own started Tryz.func13
    (ChangeSpec.witness6 (enc:=enc) (C:=Tryz.checked) false ⟨#[],#[.slice none 0 0],[]⟩ 8 (by kernel_rfl) (by kernel_rfl) (by kernel_rfl) (by kernel_rfl)) ?_
  intro W base args ds gs before hval0 hW hcnd hsz0 _
  have hval:∀ (j:Nat) t v,Tryz.f13.params[j]? = some t→args[j]? = some v→Value.okWide Tryz.prog W .any base t v:=hval0
  have hW':=hW
  obtain ⟨p,q,hA0,hV,rfl,hfz,hnd⟩:=hW
  have hA:DataW.TrodAll enc Tryz.prog W 0 (fun _=>true) true Tryz.f13.params.toList args.toList ds p:=hA0
  rw [Tryz.params13] at hA hval
  obtain ⟨v0,vs0,d0,ds0,p0,q0,hargs,rfl,rfl,h0,r0⟩:=trodAll_cons hA
  obtain ⟨rfl,rfl,rfl⟩:=trodAll_nil r0
  obtain rfl:args=#[v0]:=by cases args;simp_all
  obtain ⟨rfl,rfl⟩:=trodVars_none hV
  have k0:=h0
  have lt0:∀ x∈p0,x.block < W.heap.size:=by obtain ⟨m,hm⟩:=k0;exact DataW.trod_lt m _ _ _ hm
  obtain ⟨s,h,bs,a,fl,I,_,_,V,S,hn,hb⟩:=in_bytes (InOk.nil W) (hval 0 39 v0 rfl rfl) h0
  clear hA0 hval0 hsz0
  obtain ⟨M,last,o,w',t',g1,g2,g3,g4⟩:=main_run (lo:=h.n) (Post:=fun v _=>v = .bool true) (argsr:=#[v0]) (args:=[.slice a bs.length fl]) Tryz.func13 rfl (Nat.le_of_ble_eq_true rfl) (by kernel_rfl) I (VRs.cons V (VRs.nil s)) (sceneEdit_R bs a fl h S hb (Nat.le_trans hn (by unfold Go.maxLen;exact Nat.le_refl _)) (Nat.le_refl _))
  refine ⟨M,last,o,w',t',g1,g2,g3,g4.mono fun vr ht => ?_⟩
  obtain ⟨v,h',s',O',rfl,_,_,hv,K⟩:=ht
  obtain rfl:vr = .bool true:=VR.bool_inv hv
  have bel:=below_of K
  exact ⟨_,_,_,[],_,[],hW',trodAll_mk1 (shut_bool Tryz.underlying4 _),trodAll_cons_mk (Trod_tape (Below.trod laidOut (by kernel_rfl) (of_decide_eq_true (by kernel_rfl)) k0 bel lt0)) trodAll_mk0,rfl,kept_frame K _,fun h=>by cases h⟩
theorem j2:laidOutB Tryz.pinned.checked.prog=true:=by kernel_rfl
theorem j3:mapsRowed Tryz.pinned.checked.prog=true:=by kernel_rfl
theorem j10:(Rows.fnSceneEditRow.inPlace == Program.inPlace Tryz.pinned.checked.prog 13)=true:=by kernel_rfl
theorem j11:(Rows.fnSceneEditRow.unfollowed == Program.unfollowed Tryz.pinned.checked.prog 13)=true:=by kernel_rfl
theorem j12:(Rows.fnSceneEditRow.recurses == Program.recurses Tryz.pinned.checked.prog 13)=true:=by kernel_rfl
theorem j13:(Rows.fnSceneEditRow.named == Program.varsNamed Tryz.pinned.checked.prog 13)=true:=by kernel_rfl
theorem j23:(Rows.fnSceneEditRow.plainKeys == Program.plainKeys Tryz.pinned.checked.prog)=true:=by kernel_rfl
theorem j25:Program.stopsHeard Tryz.pinned.checked.prog=true:=by kernel_rfl
theorem j26:Program.mayEnter Tryz.pinned.checked.prog=true:=by kernel_rfl
theorem j27:(Rows.fnSceneEditRow.lifted == Program.liftsFinal Tryz.pinned.checked.prog)=true:=by kernel_rfl
theorem j28:(Program.make Tryz.pinned.checked.prog == some Rows.fnSceneEditRow.make)=true:=by kernel_rfl
theorem closed:joinedFacts Tryz.pinned.checked.prog 13 Tryz.f13 Rows.fnSceneEditSpec Rows.fnSceneEditRow=true :=
  joined_of (by kernel_rfl) j2 j3 (by kernel_rfl) (by kernel_rfl) (by kernel_rfl) (by kernel_rfl) (by kernel_rfl) (by kernel_rfl) j10 j11 j12 j13 (by kernel_rfl) (by kernel_rfl) (by kernel_rfl) (by kernel_rfl) (by kernel_rfl) (by kernel_rfl) (by kernel_rfl) (by kernel_rfl) (by kernel_rfl) j23 (by kernel_rfl) j25 j26 j27 j28 (by kernel_rfl) (by kernel_rfl) (by kernel_rfl) (by kernel_rfl)
theorem over:Rows.fnSceneEditRow.holds Tryz.pinned (OpenSpec.ofChange Rows.fnSceneEditSpec) :=
  OpenClaim.holds_of_wide_leaving 13 Tryz.f13 rfl rfl rfl rfl rfl rfl rfl ⟨rfl,rfl,rfl,rfl,rfl⟩ rfl rfl rfl rfl rfl (by kernel_rfl) Tryz.func13 closed
    (of_decide_eq_true (by kernel_rfl)) (by unfold Func.isWrapper;first | (rw [if_pos (by decide +kernel)];kernel_rfl) | (rw [if_neg (by decide +kernel)];exact ⟨rfl,rfl⟩))
    (fun os started H enc _=>lifted os started H enc)
theorem proved:Rows.FnSceneEditSaid:=over
#print axioms proved
end Go.Proofs.YtjpcfaddimlbdaaGreat.fnSceneEdit
namespace Go.Proofs.YtjpcfaddimlbdaaGreat
theorem fnSceneEdit_holds:Rows.FnSceneEditSaid:=fnSceneEdit.proved
end Go.Proofs.YtjpcfaddimlbdaaGreat
