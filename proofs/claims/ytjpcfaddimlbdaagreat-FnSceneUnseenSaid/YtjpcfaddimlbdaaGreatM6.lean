/- For every input the law returns true, and what came in reads as it did (the row of Rsu). No condition. Texts of this claim, joined: Wa, Rsu. -/
import Derived.Test.YtjpcfaddimlbdaaGreatM5
import Derived.Test.YtjpcfaddimlbdaaGreatRows
import Derived.Conc.LeavingOf
import Derived.WalkKit
import Derived.ProofKit
import Derived.OpenShut
import Derived.ShutString
import Derived.SizedLaws
import Derived.Lib.SmallJoins
namespace Go.Proofs.YtjpcfaddimlbdaaGreat.Id
open Go.Id Go.Conc Go.Conc.Lib
open Go.Proofs
set_option linter.unusedVariables false
set_option maxRecDepth 100000
variable {N0:Nat→Prop} {lo:Nat}
theorem sceneUnseen_R (bs:List Nat) (a:Option Addr) (fl:Nat) (h:Hp) (hs:Sls h uE 1 a bs) (hb:∀ b∈bs,b < 256) (hn:bs.length≤9223372036854775807) (hlo:lo≤h.n) :
    R (mainCtx Tryz.prog N0) lo 12 Tryz.f12 (.ret fun v _=>v = .bool true) [.code (bodyC Tryz.f12)] (argsTm 0 [.slice a bs.length fl]) [] h:=by
  refine more tbOk mtOk ⟨[],[(10,[0,1,2,3,4,5,6,7,8,9,10,11,12,13,14,15,16,17,18,19,20,21,22,23,24,25,26,27,28,29],[0,1,3,7,15,31,15,79,255,511,1023,2047,4095,2047,10239,32767,65535,131071,262143,524287,1048575,262143,2359295,8388607,16777215,262143,33816575,134217727,268435455,536870911])]⟩ 400 ?_
  refine cnd (fun c1=>rfl) (fun c1 => ?_)
  have hm:bs.length≤1048576:=by simp at c1;omega
  refine callP (DrawSceneEdit_ok a fl bs h hs hm hb) ?_
  rintro v h1 ⟨s,ga,la,fa,gf,lf,ff,L,e,rfl,hR,hS,x1⟩
  have hB:=hS.b
  refine callP (sSceneEdit_ok s e ga la fa gf lf ff L h1 hR hB) ?_
  rintro v h2 ⟨⟨o1,o2,o3,L2,o,rfl,r2,q2,_⟩,x2⟩
  obtain ⟨wg,wl,wf,wgf,wlf,wff,z2,R2⟩:=r2.read
  obtain ⟨wa,waf,y2,S2⟩:=q2.sl
  rw [z2,y2]
  refine callP (SceneEdit_ok s e ga la fa gf lf ff L h2 (hR.ext x2) hB) ?_
  rintro v h3 ⟨⟨o1',o2',o3',L3,o',rfl,r3,q3,_⟩,x3⟩
  obtain ⟨xg,xl,xf,xgf,xlf,xff,z3,R3⟩:=r3.read
  obtain ⟨xa,xaf,y3,S3⟩:=q3.sl
  rw [z3,y3]
  have mB:=many_B (s:=s) (es:=[e])
  refine cnd (fun c=>by simp at c) (fun _ => ?_)
  refine callP (llScene_ok _ _ xg xl xf wg wl wf xgf xlf xff wgf wlf wff L3 L2 h3 R3 (R2.ext x3) mB) ?_
  rintro v h3' ⟨rfl,rfl⟩
  refine cnd (fun c=>by simp at c) (fun _ => ?_)
  refine callP (llInts_ok xa wa xaf waf _ _ h3' S3 (S2.ext x3) (seenO_len hB)) ?_
  rintro v h3 ⟨rfl,rfl⟩
  refine cnd (fun c=>by simp at c) (fun _ => ?_)
  refine cnd (fun c1 => ?_) (fun c1 => ?_)
  · refine cnd (fun _ => ?_) (fun c=>absurd c (by simp))
    refine callP (llScene_ok _ _ xg xl xf wg wl wf xgf xlf xff wgf wlf wff L3 L2 h3 R3 (R2.ext x3) mB) ?_
    rintro v h3' ⟨rfl,rfl⟩
    refine cnd (fun _ => ?_) (fun c=>by simp at c)
    refine callP (llInts_ok xa wa xaf waf _ _ h3' S3 (S2.ext x3) (seenO_len hB)) ?_
    rintro v h3 ⟨rfl,rfl⟩
    exact congrArg Value.bool (decide_eq_true rfl)
  have hok:okS s [e]=true:=by simpa using c1
  obtain ⟨hg,hsG,hall,hg1,hM,hSn⟩:=many_eq hok
  have he:=hall e (by simp)
  obtain ⟨ec,ea1,ea2⟩:=eOk_iff.1 he
  have hj:e.1.toNat < s.g.cs.length:=by omega
  have x23:=x2.trans x3
  have hk:scOk s=true:=(okS_iff.1 hok).1
  have hT:touchO s e.1=seenO s [e]:=by unfold touchO;rw [hk,if_pos rfl,hSn,seen_one]
  refine callP (SceneTouch_ok s e.1 ga la fa gf lf ff L h3 (hR.ext x23) hB) ?_
  rintro v h4 ⟨⟨o4,rfl,g4⟩,x4⟩
  obtain ⟨ta,tf,z4,_⟩:=gx_slv g4 fun _=>rfl
  rw [z4,hT]
  refine cnd (fun c2=>congrArg Value.bool c2) (fun c2 => ?_)
  have hz:(seenO s [e]).length=0:=by have:=of_decide_eq_false c2;omega
  have hz':seenS s [e]=[]:=by rw [← hSn];exact List.length_eq_zero_iff.1 hz
  have hD:manyS s [e]=⟨putE s.g e,s.li,s.ft⟩:=by
    unfold manyS
    rw [hok,if_pos rfl]
    unfold doneS
    rw [hz'];rfl
  have hDl:(manyS s [e]).li=s.li:=by rw [hD]
  have hDf:(manyS s [e]).ft=s.ft:=by rw [hD]
  have hjx:e.1.toNat < (manyS s [e]).g.cs.length:=by rw [hD];show _ < (putE s.g e).cs.length;rw [putE_len];exact hj
  have hDc:(manyS s [e]).g.cs[e.1.toNat]=e.2:=by
    have:∀ (t:Sc) (q:t=⟨putE s.g e,s.li,s.ft⟩) (h:e.1.toNat < t.g.cs.length),t.g.cs[e.1.toNat]=e.2:=fun t q h=>by
      subst q
      show (s.g.cs.set e.1.toNat e.2)[e.1.toNat]'(by simpa using hj)=e.2
      rw [List.getElem_set_self]
    exact this _ hD hjx
  have RX:=R3.ext x4
  have hx4:=hR.ext (x23.trans x4)
  refine And.intro (by kernel_rfl) ?_
  refine cnd (fun _ => ?_) (fun c=>absurd c (by rw [hz];simp))
  refine callP (llInts_ok xl la xlf lf _ _ h4 RX.li hx4.li mB.li) ?_
  rintro v h5 ⟨rfl,rfl⟩
  refine cnd (fun _ => ?_) (fun c=>absurd hDl (of_decide_eq_false c))
  refine callP (llRowsV_ok xf fa xff ff L3 L _ _ h5 RX.ft hx4.ft mB.ft mB.el) ?_
  rintro v h6 ⟨rfl,rfl⟩
  refine cnd (fun _ => ?_) (fun c=>absurd hDf (of_decide_eq_false c))
  obtain ⟨xad,rfl⟩:=RX.g.some hjx
  have ldc:=RX.g.ld cE2 hjx
  rw [hDc] at ldc
  refine And.intro ⟨ea1,by omega⟩ ?_
  refine ⟨_,ldc,?_⟩
  exact congrArg Value.bool (by simp)
end Go.Proofs.YtjpcfaddimlbdaaGreat.Id
namespace Go.Proofs.YtjpcfaddimlbdaaGreat.fnSceneUnseen
open Go.ChangeShapes Go.WideShapes Go.ChangeAt Go.RowKit Go.Id Go.Conc Go.Proofs.YtjpcfaddimlbdaaGreat.Id
set_option linter.unusedVariables false
theorem own:ownKnob Tryz.prog.godebug=none:=by kernel_rfl
theorem laidOut:laidOutB Tryz.prog=true:=by kernel_rfl
set_option maxRecDepth 100000 in
theorem lifted (os:Os) (started:os.Started) (H:Type) (enc:TypeId×Value→H) :
    ReturnsInLeavingWide {} Tryz.checked os 12 .any (Rows.fnSceneUnseenSpec.pre6 enc Tryz.prog Tryz.f12 Rows.fnSceneUnseenRow.domain false) (Rows.fnSceneUnseenSpec.post enc Tryz.prog Tryz.f12 false true false false):=by
  refine returnsInLeavingWide_of_change_sized (C:=Tryz.checked) own started Tryz.func12
    (ChangeSpec.witness6 (enc:=enc) (C:=Tryz.checked) false ⟨#[],#[.slice none 0 0],[]⟩ 8 (by kernel_rfl) (by kernel_rfl) (by kernel_rfl) (by kernel_rfl)) ?_
  intro W base args ds gs before hval0 hW hcnd hsz0 _
  have hval:∀ (j:Nat) t v,Tryz.f12.params[j]? = some t→args[j]? = some v→Value.okWide Tryz.prog W .any base t v:=hval0
  have hW':=hW
  obtain ⟨p,q,hA0,hV,rfl,hfz,hnd⟩:=hW
  have hA:DataW.TrodAll enc Tryz.prog W 0 (fun _=>true) true Tryz.f12.params.toList args.toList ds p:=hA0
  rw [Tryz.params12] at hA hval
  obtain ⟨v0,vs0,d0,ds0,p0,q0,hargs,rfl,rfl,h0,r0⟩:=trodAll_cons hA
  obtain ⟨rfl,rfl,rfl⟩:=trodAll_nil r0
  obtain rfl:args=#[v0]:=by cases args;simp_all
  obtain ⟨rfl,rfl⟩:=trodVars_none hV
  have k0:=h0
  have lt0:∀ x∈p0,x.block < W.heap.size:=by obtain ⟨m,hm⟩:=k0;exact DataW.trod_lt m _ _ _ hm
  obtain ⟨s,h,bs,a,fl,I,_,_,V,S,hn,hb⟩:=in_bytes (InOk.nil W) (hval 0 39 v0 rfl rfl) h0
  clear hA0 hval0 hsz0
  obtain ⟨M,last,o,w',t',g1,g2,g3,g4⟩:=main_run (lo:=h.n) (Post:=fun v _=>v = .bool true) (argsr:=#[v0]) (args:=[.slice a bs.length fl]) Tryz.func12 rfl (Nat.le_of_ble_eq_true rfl) (by kernel_rfl) I (VRs.cons V (VRs.nil s)) (sceneUnseen_R bs a fl h S hb (Nat.le_trans hn (by unfold Go.maxLen;exact Nat.le_refl _)) (Nat.le_refl _))
  refine ⟨M,last,o,w',t',g1,g2,g3,g4.mono fun vr ht => ?_⟩
  obtain ⟨v,h',s',O',rfl,_,_,hv,K⟩:=ht
  obtain rfl:vr = .bool true:=VR.bool_inv hv
  have bel:=below_of K
  exact ⟨_,_,_,[],_,[],hW',trodAll_mk1 (shut_bool Tryz.underlying4 _),trodAll_cons_mk (Trod_tape (Below.trod laidOut (by kernel_rfl) (of_decide_eq_true (by kernel_rfl)) k0 bel lt0)) trodAll_mk0,rfl,kept_frame K _,fun h=>by cases h⟩
theorem j2:laidOutB Tryz.pinned.checked.prog=true:=by kernel_rfl
theorem j3:mapsRowed Tryz.pinned.checked.prog=true:=by kernel_rfl
theorem j10:(Rows.fnSceneUnseenRow.inPlace == Program.inPlace Tryz.pinned.checked.prog 12)=true:=by kernel_rfl
theorem j11:(Rows.fnSceneUnseenRow.unfollowed == Program.unfollowed Tryz.pinned.checked.prog 12)=true:=by kernel_rfl
theorem j12:(Rows.fnSceneUnseenRow.recurses == Program.recurses Tryz.pinned.checked.prog 12)=true:=by kernel_rfl
theorem j13:(Rows.fnSceneUnseenRow.named == Program.varsNamed Tryz.pinned.checked.prog 12)=true:=by kernel_rfl
theorem j23:(Rows.fnSceneUnseenRow.plainKeys == Program.plainKeys Tryz.pinned.checked.prog)=true:=by kernel_rfl
theorem j25:Program.stopsHeard Tryz.pinned.checked.prog=true:=by kernel_rfl
theorem j26:Program.mayEnter Tryz.pinned.checked.prog=true:=by kernel_rfl
theorem j27:(Rows.fnSceneUnseenRow.lifted == Program.liftsFinal Tryz.pinned.checked.prog)=true:=by kernel_rfl
theorem j28:(Program.make Tryz.pinned.checked.prog == some Rows.fnSceneUnseenRow.make)=true:=by kernel_rfl
theorem closed:joinedFacts Tryz.pinned.checked.prog 12 Tryz.f12 Rows.fnSceneUnseenSpec Rows.fnSceneUnseenRow=true :=
  joined_of (by kernel_rfl) j2 j3 (by kernel_rfl) (by kernel_rfl) (by kernel_rfl) (by kernel_rfl) (by kernel_rfl) (by kernel_rfl) j10 j11 j12 j13 (by kernel_rfl) (by kernel_rfl) (by kernel_rfl) (by kernel_rfl) (by kernel_rfl) (by kernel_rfl) (by kernel_rfl) (by kernel_rfl) (by kernel_rfl) j23 (by kernel_rfl) j25 j26 j27 j28 (by kernel_rfl) (by kernel_rfl) (by kernel_rfl) (by kernel_rfl)
theorem over:Rows.fnSceneUnseenRow.holds Tryz.pinned (OpenSpec.ofChange Rows.fnSceneUnseenSpec) :=
  OpenClaim.holds_of_wide_leaving 12 Tryz.f12 rfl rfl rfl rfl rfl rfl rfl ⟨rfl,rfl,rfl,rfl,rfl⟩ rfl rfl rfl rfl rfl (by kernel_rfl) Tryz.func12 closed
    (of_decide_eq_true (by kernel_rfl)) (by unfold Func.isWrapper;first | (rw [if_pos (by decide +kernel)];kernel_rfl) | (rw [if_neg (by decide +kernel)];exact ⟨rfl,rfl⟩))
    (fun os started H enc _=>lifted os started H enc)
theorem proved:Rows.FnSceneUnseenSaid:=over
#print axioms proved
end Go.Proofs.YtjpcfaddimlbdaaGreat.fnSceneUnseen
namespace Go.Proofs.YtjpcfaddimlbdaaGreat
theorem fnSceneUnseen_holds:Rows.FnSceneUnseenSaid:=fnSceneUnseen.proved
end Go.Proofs.YtjpcfaddimlbdaaGreat
