/- For every input the law returns true, and what came in reads as it did (the row of Rsl). No condition. Texts of this claim, joined: Te, Wc, Rsl. -/
import Derived.Test.YtjpcfaddimlbdaaGreatM5
import Derived.Test.YtjpcfaddimlbdaaGreatRows
import Derived.Conc.LeavingOf
import Derived.WalkKit
import Derived.ProofKit
import Derived.OpenShut
import Derived.ShutString
import Derived.SizedLaws
import Derived.Lib.SmallJoins
namespace Go.Proofs.YtjpcfaddimlbdaaGreat.Id
open Go.Id
open Go.Proofs
set_option linter.unusedVariables false
set_option maxRecDepth 100000
variable {X:Ctx Tryz.prog} {lo:Nat}
theorem llHas_ok (l:List Int) (a:Option Addr) (fl:Nat) (n:Int) (h:Hp) (hs:Sls h inE 1 a l) (hn:l.length≤1048576):Tri X lo 54 [.slice a l.length fl,.int .i64 n] h fun v h'=>v = .bool (decide (n∈l))∧h'=h:=by
  refine enter tbOk mtOk ⟨[],[]⟩ 400 Tryz.func54 rfl rfl rfl fun hlo => ?_
  refine loop (σ:=Nat) tbOk mtOk ⟨[],[]⟩ (fun i=>[(5,.v (.int .i64 (i:Int))),(4,.v (.bool false)),(0,.v (.slice a l.length fl)),(1,.v (.int .i64 n))]) (fun _=>[]) (fun i h'=>i≤l.length∧h'=h∧n∉l.take i) (fun i=>l.length - i) 400 0 (fun _=>rfl) ⟨rfl,rfl,rfl,rfl,trivial⟩ trivial ⟨Nat.zero_le _,rfl,by simp⟩ (fun i h' hI again => ?_)
  obtain ⟨i1,rfl,i3⟩:=hI
  refine cnd (fun c2 => ?_) (fun c2 => ?_)
  · have c2:i < l.length:=by simpa using c2
    obtain ⟨a,rfl⟩:=hs.some c2
    refine And.intro ⟨by omega,by omega⟩ ?_
    refine ⟨_,hs.ld (fun _=>rfl) c2,?_⟩
    refine cnd (fun c3 => ?_) (fun c3 => ?_)
    · have c3:l[i]=n:=by simpa using c3
      refine And.intro ?_ rfl
      rw [decide_eq_true (c3▸List.getElem_mem c2)]
    · have c3:l[i]≠n:=by simpa using c3
      have wq:IntKind.i64.wrap ((i:Int)+1)=((i+1:Nat):Int):=wz (by omega) (by omega)
      refine again (i+1) _ _ _ (by omega) ⟨vI wq,rfl,rfl,rfl,trivial⟩ trivial ⟨by omega,rfl,?_⟩
      rw [List.take_succ_eq_append_getElem c2]
      intro hm
      rcases List.mem_append.1 hm with q | q
      · exact i3 q
      · exact c3 (List.mem_singleton.1 q).symm
  · have c2:l.length=i:=by simp at c2;omega
    refine And.intro ?_ rfl
    rw [← c2,List.take_length] at i3
    rw [decide_eq_false i3]
end Go.Proofs.YtjpcfaddimlbdaaGreat.Id
namespace Go.Proofs.YtjpcfaddimlbdaaGreat.Id
open Go.Id Go.Conc Go.Conc.Lib
open Go.Proofs
set_option linter.unusedVariables false
set_option maxRecDepth 100000
variable {N0:Nat→Prop} {lo:Nat}
theorem sceneLess_R (bs:List Nat) (a:Option Addr) (fl:Nat) (h:Hp) (hs:Sls h uE 1 a bs) (hb:∀ b∈bs,b < 256) (hn:bs.length≤9223372036854775807) (hlo:lo≤h.n) :
    R (mainCtx Tryz.prog N0) lo 14 Tryz.f14 (.ret fun v _=>v = .bool true) [.code (bodyC Tryz.f14)] (argsTm 0 [.slice a bs.length fl]) [] h:=by
  refine more tbOk mtOk ⟨[],[(11,[0,1,2,3,4,5,6,7,8,9,10,11,12,13,14,15,16,17,18,19,20,21,22,23,24,25,26,27,28,29,30],[0,0,3,7,15,31,63,31,255,511,31,1055,31,7199,15391,32767,65535,131071,262143,131071,1048575,2097151,131071,4325375,131071,29491199,63045631,134217727,268435455,536870911,1073741823])]⟩ 400 ?_
  refine cnd (fun c1=>rfl) (fun c1 => ?_)
  have hm:bs.length≤1048576:=by simp at c1;omega
  refine callP (DrawSceneEdit_ok a fl bs h hs hm hb) ?_
  rintro v h1 ⟨s,ga,la,fa,gf,lf,ff,L,e,rfl,hR,hS,x1⟩
  have hB:=hS.b
  refine callP (sSceneEdit_ok s e ga la fa gf lf ff L h1 hR hB) ?_
  rintro v h2 ⟨⟨o1,o2,o3,L2,o,rfl,r2,q2,_⟩,x2⟩
  obtain ⟨wg,wl,wf,wgf,wlf,wff,z2,R2⟩:=r2.read
  obtain ⟨wa,waf,y2,S2⟩:=q2.sl
  rw [z2,y2]
  refine callP (SceneEdit_ok s e ga la fa gf lf ff L h2 (hR.ext x2) hB) ?_
  rintro v h3 ⟨⟨o1',o2',o3',L3,o',rfl,r3,q3,_⟩,x3⟩
  obtain ⟨xg,xl,xf,xgf,xlf,xff,z3,R3⟩:=r3.read
  obtain ⟨xa,xaf,y3,S3⟩:=q3.sl
  rw [z3,y3]
  have mB:=many_B (s:=s) (es:=[e])
  refine cnd (fun c=>by simp at c) (fun _ => ?_)
  refine callP (llScene_ok _ _ xg xl xf wg wl wf xgf xlf xff wgf wlf wff L3 L2 h3 R3 (R2.ext x3) mB) ?_
  rintro v h3' ⟨rfl,rfl⟩
  refine cnd (fun c=>by simp at c) (fun _ => ?_)
  refine callP (llInts_ok xa wa xaf waf _ _ h3' S3 (S2.ext x3) (seenO_len hB)) ?_
  rintro v h3 ⟨rfl,rfl⟩
  refine cnd (fun c=>by simp at c) (fun _ => ?_)
  refine cnd (fun c1 => ?_) (fun c1 => ?_)
  · refine cnd (fun _ => ?_) (fun c=>absurd c (by simp))
    refine callP (llScene_ok _ _ xg xl xf wg wl wf xgf xlf xff wgf wlf wff L3 L2 h3 R3 (R2.ext x3) mB) ?_
    rintro v h3' ⟨rfl,rfl⟩
    refine cnd (fun _ => ?_) (fun c=>by simp at c)
    refine callP (llInts_ok xa wa xaf waf _ _ h3' S3 (S2.ext x3) (seenO_len hB)) ?_
    rintro v h3 ⟨rfl,rfl⟩
    exact congrArg Value.bool (decide_eq_true rfl)
  have hok:okS s [e]=true:=by simpa using c1
  obtain ⟨hg,hsG,hall,hg1,hM,hSn⟩:=many_eq hok
  have he:=hall e (by simp)
  obtain ⟨ec,ea1,ea2⟩:=eOk_iff.1 he
  have hj:e.1.toNat < s.g.cs.length:=by omega
  have x23:=x2.trans x3
  have hk:scOk s=true:=(okS_iff.1 hok).1
  have hT:touchO s e.1=seenO s [e]:=by unfold touchO;rw [hk,if_pos rfl,hSn,seen_one]
  obtain ⟨ln1,ln2,ln3⟩:=scOk_len hk
  have hx:∀ k:Nat,k < s.li.length→(k:Int)∉seenO s [e]→(manyS s [e]).li[k]? = s.li[k]? ∧ (manyS s [e]).ft[k]? = s.ft[k]? := fun k hk' hn'=>by
    obtain ⟨l1,l2⟩:=scG_len s.g
    have hkm:k < (many s.g).toNat:=by rw [hsG] at hk';omega
    have hoff:∀ x∈[e],x.1∉footG s.g k:=fun x hx q=>hn' (by
      rw [hSn]
      refine seen_mem.2 ⟨k,rfl,by omega,x,hx,?_⟩
      rw [hsG,sees_G hkm];simpa using q)
    obtain ⟨_,b,c⟩:=puts_off [e] s.g hg hall hoff
    have hkp:k < (many (puts s.g [e])).toNat:=by rw [puts_many];exact hkm
    obtain ⟨u1,u2⟩:=scG_get hkp
    obtain ⟨u3,u4⟩:=scG_get hkm
    rw [← hM] at u1 u2
    rw [← hsG] at u3 u4
    exact ⟨by rw [u1,u3,c],by rw [u2,u4,b]⟩
  have hml:(manyS s [e]).li.length=s.li.length∧(manyS s [e]).ft.length=s.ft.length:=by
    obtain ⟨l1,l2⟩:=scG_len s.g
    obtain ⟨l3,l4⟩:=scG_len (puts s.g [e])
    rw [hM,l3,l4,puts_many]
    constructor
    · rw [← l1,← hsG]
    · rw [← l2,← hsG]
  refine loop (σ:=Nat) tbOk mtOk ⟨[],[(11,[0,1,2,3,4,5,6,7,8,9,10,11,12,13,14,15,16,17,18,19,20,21,22,23,24,25,26,27,28,29,30],[0,0,3,7,15,31,63,31,255,511,31,1055,31,7199,15391,32767,65535,131071,262143,131071,1048575,2097151,131071,4325375,131071,29491199,63045631,134217727,268435455,536870911,1073741823])]⟩ (fun k=>[(11,.v (.int .i64 (k:Int))),(9,.v (.slice xa (seenO s [e]).length xaf)),(8,.l 3 0),(4,.l 1 0),(3,.l 0 0)]) (fun _=>[[.int .i64 s.g.w,.slice ga s.g.cs.length gf,.slice la s.li.length lf,.slice fa s.ft.length ff],[.int .i64 e.1,.int .i64 e.2.1,.int .i64 e.2.2],[.int .i64 (manyS s [e]).g.w,.slice wg (manyS s [e]).g.cs.length wgf,.slice wl (manyS s [e]).li.length wlf,.slice wf (manyS s [e]).ft.length wff],[.int .i64 (manyS s [e]).g.w,.slice xg (manyS s [e]).g.cs.length xgf,.slice xl (manyS s [e]).li.length xlf,.slice xf (manyS s [e]).ft.length xff]]) (fun k h'=>k≤s.li.length∧h'=h3) (fun k=>s.li.length - k) 400 0 (fun _=>rfl) ⟨rfl,rfl,rfl,rfl,rfl,trivial⟩ ⟨rfl,rfl,rfl,rfl,trivial⟩ ⟨Nat.zero_le _,rfl⟩ (fun k h' hI again => ?_)
  obtain ⟨i1,rfl⟩:=hI
  refine cnd (fun c2 => ?_) (fun c2 => ?_)
  · have c2:k < s.li.length:=by simpa using c2
    have wq:IntKind.i64.wrap ((k:Int)+1)=((k+1:Nat):Int):=wz (by omega) (by omega)
    refine And.intro (by kernel_rfl) ?_
    refine callP (llHas_ok (seenO s [e]) xa xaf k h' S3 (seenO_len hB)) ?_
    rintro v h4 ⟨rfl,rfl⟩
    by_cases hin:(k:Int)∈seenO s [e]
    · rw [decide_eq_true hin]
      refine cndF ?_
      refine cndF ?_
      exact again (k+1) _ _ _ (by omega) ⟨vI wq,rfl,rfl,rfl,rfl,trivial⟩ ⟨rfl,rfl,rfl,rfl,trivial⟩ ⟨by omega,rfl⟩
    · rw [decide_eq_false hin]
      obtain ⟨q1,q2⟩:=hx k c2 hin
      have hR3:=hR.ext x23
      have c3:k < (manyS s [e]).li.length:=by omega
      have c4:k < s.ft.length:=by omega
      have c5:k < (manyS s [e]).ft.length:=by omega
      have u1:(manyS s [e]).li[k]=s.li[k]:=by
        rw [List.getElem?_eq_getElem c3,List.getElem?_eq_getElem c2] at q1;exact Option.some.inj q1
      have u2:(manyS s [e]).ft[k]=s.ft[k]:=by
        rw [List.getElem?_eq_getElem c5,List.getElem?_eq_getElem c4] at q2;exact Option.some.inj q2
      obtain ⟨xl',rfl⟩:=R3.li.some c3
      obtain ⟨la',rfl⟩:=hR3.li.some c2
      have l1:=R3.li.ld (e:=inE) (fun _=>rfl) c3
      have l2:=hR3.li.ld (e:=inE) (fun _=>rfl) c2
      rw [u1] at l1
      obtain ⟨fd,fa1,ff1,rfl,fs1,fl1⟩:=R3.ft.get c5
      obtain ⟨gd,fa2,ff2,rfl,fs2,fl2⟩:=hR3.ft.get c4
      have fl1:=fl1 _ (Ext.refl _)
      have fl2:=fl2 _ (Ext.refl _)
      rw [u2] at fs1 fl1
      refine cndT ?_
      refine And.intro ⟨by omega,by omega⟩ ?_
      refine ⟨_,l1,?_⟩
      refine And.intro ⟨by omega,by omega⟩ ?_
      refine ⟨_,l2,?_⟩
      refine cnd (fun c=>by simp at c) (fun _ => ?_)
      refine And.intro ⟨by omega,by omega⟩ ?_
      refine ⟨_,fl1,?_⟩
      refine And.intro ⟨by omega,by omega⟩ ?_
      refine ⟨_,fl2,?_⟩
      refine callP (llInts_ok fa1 fa2 ff1 ff2 s.ft[k] s.ft[k] h4 fs1 fs2 (hB.el _ (List.getElem_mem c4))) ?_
      rintro v h5 ⟨rfl,rfl⟩
      refine cnd (fun c=>by simp at c) (fun _ => ?_)
      exact again (k+1) _ _ _ (by omega) ⟨vI wq,rfl,rfl,rfl,rfl,trivial⟩ ⟨rfl,rfl,rfl,rfl,trivial⟩ ⟨by omega,rfl⟩
  · refine callP (SceneTouch_ok s e.1 ga la fa gf lf ff L h' (hR.ext x23) hB) ?_
    rintro v h4 ⟨⟨o4,rfl,g4⟩,x4⟩
    obtain ⟨ta,tf,z4,t4⟩:=gx_slv g4 fun _=>rfl
    rw [hT] at z4 t4
    rw [hT,z4]
    refine callP (llInts_ok xa ta xaf tf _ _ h4 (S3.ext x4) t4 (seenO_len hB)) ?_
    rintro v h5 ⟨rfl,rfl⟩
    exact congrArg Value.bool (decide_eq_true rfl)
end Go.Proofs.YtjpcfaddimlbdaaGreat.Id
namespace Go.Proofs.YtjpcfaddimlbdaaGreat.fnSceneLess
open Go.ChangeShapes Go.WideShapes Go.ChangeAt Go.RowKit Go.Id Go.Conc Go.Proofs.YtjpcfaddimlbdaaGreat.Id
set_option linter.unusedVariables false
theorem own:ownKnob Tryz.prog.godebug=none:=by kernel_rfl
theorem laidOut:laidOutB Tryz.prog=true:=by kernel_rfl
set_option maxRecDepth 100000 in
theorem lifted (os:Os) (started:os.Started) (H:Type) (enc:TypeId×Value→H) :
    ReturnsInLeavingWide {} Tryz.checked os 14 .any (Rows.fnSceneLessSpec.pre6 enc Tryz.prog Tryz.f14 Rows.fnSceneLessRow.domain false) (Rows.fnSceneLessSpec.post enc Tryz.prog Tryz.f14 false true false false):=by
  refine returnsInLeavingWide_of_change_sized (C:=Tryz.checked) own started Tryz.func14
    (ChangeSpec.witness6 (enc:=enc) (C:=Tryz.checked) false ⟨#[],#[.slice none 0 0],[]⟩ 8 (by kernel_rfl) (by kernel_rfl) (by kernel_rfl) (by kernel_rfl)) ?_
  intro W base args ds gs before hval0 hW hcnd hsz0 _
  have hval:∀ (j:Nat) t v,Tryz.f14.params[j]? = some t→args[j]? = some v→Value.okWide Tryz.prog W .any base t v:=hval0
  have hW':=hW
  obtain ⟨p,q,hA0,hV,rfl,hfz,hnd⟩:=hW
  have hA:DataW.TrodAll enc Tryz.prog W 0 (fun _=>true) true Tryz.f14.params.toList args.toList ds p:=hA0
  rw [Tryz.params14] at hA hval
  obtain ⟨v0,vs0,d0,ds0,p0,q0,hargs,rfl,rfl,h0,r0⟩:=trodAll_cons hA
  obtain ⟨rfl,rfl,rfl⟩:=trodAll_nil r0
  obtain rfl:args=#[v0]:=by cases args;simp_all
  obtain ⟨rfl,rfl⟩:=trodVars_none hV
  have k0:=h0
  have lt0:∀ x∈p0,x.block < W.heap.size:=by obtain ⟨m,hm⟩:=k0;exact DataW.trod_lt m _ _ _ hm
  obtain ⟨s,h,bs,a,fl,I,_,_,V,S,hn,hb⟩:=in_bytes (InOk.nil W) (hval 0 39 v0 rfl rfl) h0
  clear hA0 hval0 hsz0
  obtain ⟨M,last,o,w',t',g1,g2,g3,g4⟩:=main_run (lo:=h.n) (Post:=fun v _=>v = .bool true) (argsr:=#[v0]) (args:=[.slice a bs.length fl]) Tryz.func14 rfl (Nat.le_of_ble_eq_true rfl) (by kernel_rfl) I (VRs.cons V (VRs.nil s)) (sceneLess_R bs a fl h S hb (Nat.le_trans hn (by unfold Go.maxLen;exact Nat.le_refl _)) (Nat.le_refl _))
  refine ⟨M,last,o,w',t',g1,g2,g3,g4.mono fun vr ht => ?_⟩
  obtain ⟨v,h',s',O',rfl,_,_,hv,K⟩:=ht
  obtain rfl:vr = .bool true:=VR.bool_inv hv
  have bel:=below_of K
  exact ⟨_,_,_,[],_,[],hW',trodAll_mk1 (shut_bool Tryz.underlying4 _),trodAll_cons_mk (Trod_tape (Below.trod laidOut (by kernel_rfl) (of_decide_eq_true (by kernel_rfl)) k0 bel lt0)) trodAll_mk0,rfl,kept_frame K _,fun h=>by cases h⟩
theorem j2:laidOutB Tryz.pinned.checked.prog=true:=by kernel_rfl
theorem j3:mapsRowed Tryz.pinned.checked.prog=true:=by kernel_rfl
theorem j10:(Rows.fnSceneLessRow.inPlace == Program.inPlace Tryz.pinned.checked.prog 14)=true:=by kernel_rfl
theorem j11:(Rows.fnSceneLessRow.unfollowed == Program.unfollowed Tryz.pinned.checked.prog 14)=true:=by kernel_rfl
theorem j12:(Rows.fnSceneLessRow.recurses == Program.recurses Tryz.pinned.checked.prog 14)=true:=by kernel_rfl
theorem j13:(Rows.fnSceneLessRow.named == Program.varsNamed Tryz.pinned.checked.prog 14)=true:=by kernel_rfl
theorem j23:(Rows.fnSceneLessRow.plainKeys == Program.plainKeys Tryz.pinned.checked.prog)=true:=by kernel_rfl
theorem j25:Program.stopsHeard Tryz.pinned.checked.prog=true:=by kernel_rfl
theorem j26:Program.mayEnter Tryz.pinned.checked.prog=true:=by kernel_rfl
theorem j27:(Rows.fnSceneLessRow.lifted == Program.liftsFinal Tryz.pinned.checked.prog)=true:=by kernel_rfl
theorem j28:(Program.make Tryz.pinned.checked.prog == some Rows.fnSceneLessRow.make)=true:=by kernel_rfl
theorem closed:joinedFacts Tryz.pinned.checked.prog 14 Tryz.f14 Rows.fnSceneLessSpec Rows.fnSceneLessRow=true :=
  joined_of (by kernel_rfl) j2 j3 (by kernel_rfl) (by kernel_rfl) (by kernel_rfl) (by kernel_rfl) (by kernel_rfl) (by kernel_rfl) j10 j11 j12 j13 (by kernel_rfl) (by kernel_rfl) (by kernel_rfl) (by kernel_rfl) (by kernel_rfl) (by kernel_rfl) (by kernel_rfl) (by kernel_rfl) (by kernel_rfl) j23 (by kernel_rfl) j25 j26 j27 j28 (by kernel_rfl) (by kernel_rfl) (by kernel_rfl) (by kernel_rfl)
theorem over:Rows.fnSceneLessRow.holds Tryz.pinned (OpenSpec.ofChange Rows.fnSceneLessSpec) :=
  OpenClaim.holds_of_wide_leaving 14 Tryz.f14 rfl rfl rfl rfl rfl rfl rfl ⟨rfl,rfl,rfl,rfl,rfl⟩ rfl rfl rfl rfl rfl (by kernel_rfl) Tryz.func14 closed
    (of_decide_eq_true (by kernel_rfl)) (by unfold Func.isWrapper;first | (rw [if_pos (by decide +kernel)];kernel_rfl) | (rw [if_neg (by decide +kernel)];exact ⟨rfl,rfl⟩))
    (fun os started H enc _=>lifted os started H enc)
theorem proved:Rows.FnSceneLessSaid:=over
#print axioms proved
end Go.Proofs.YtjpcfaddimlbdaaGreat.fnSceneLess
namespace Go.Proofs.YtjpcfaddimlbdaaGreat
theorem fnSceneLess_holds:Rows.FnSceneLessSaid:=fnSceneLess.proved
end Go.Proofs.YtjpcfaddimlbdaaGreat
