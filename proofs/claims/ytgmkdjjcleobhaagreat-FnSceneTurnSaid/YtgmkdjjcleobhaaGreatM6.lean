/- For every input the law returns true, and what came in reads as it did (the row of Rsy). No condition. Texts of this claim, joined: Wf, Te, Wj, Ja, Jb, Ka, Wl, Kb, Kc, Kd, Wm, Rsy. -/
import Derived.Test.YtgmkdjjcleobhaaGreatM5
import Derived.Test.YtgmkdjjcleobhaaGreatRows
import Derived.Conc.LeavingOf
import Derived.WalkKit
import Derived.ProofKit
import Derived.OpenShut
import Derived.ShutString
import Derived.SizedLaws
import Derived.Lib.SmallJoins
namespace Go.Proofs.YtgmkdjjcleobhaaGreat.Id
open Go.Id Go.Conc Go.Conc.Lib
open Go.Proofs
set_option linter.unusedVariables false
set_option maxRecDepth 100000
section
variable {X:Ctx Tryz.prog} {lo:Nat}
end
end Go.Proofs.YtgmkdjjcleobhaaGreat.Id
namespace Go.Proofs.YtgmkdjjcleobhaaGreat.Id
open Go.Id
open Go.Proofs
set_option linter.unusedVariables false
set_option maxRecDepth 100000
variable {X:Ctx Tryz.prog} {lo:Nat}
theorem llHas_ok (l:List Int) (a:Option Addr) (fl:Nat) (n:Int) (h:Hp) (hs:Sls h inE 1 a l) (hn:l.length≤1048576):Tri X lo 34 [.slice a l.length fl,.int .i64 n] h fun v h'=>v = .bool (decide (n∈l))∧h'=h:=by
  refine enter tbOk mtOk ⟨[],[]⟩ 400 Tryz.func34 rfl rfl rfl fun hlo => ?_
  refine loop (σ:=Nat) tbOk mtOk ⟨[],[]⟩ (fun i=>[(5,.v (.int .i64 (i:Int))),(4,.v (.bool false)),(0,.v (.slice a l.length fl)),(1,.v (.int .i64 n))]) (fun _=>[]) (fun i h'=>i≤l.length∧h'=h∧n∉l.take i) (fun i=>l.length - i) 400 0 (fun _=>rfl) ⟨rfl,rfl,rfl,rfl,trivial⟩ trivial ⟨Nat.zero_le _,rfl,by simp⟩ (fun i h' hI again => ?_)
  obtain ⟨i1,rfl,i3⟩:=hI
  refine cnd (fun c2 => ?_) (fun c2 => ?_)
  · have c2:i < l.length:=by simpa using c2
    obtain ⟨a,rfl⟩:=hs.some c2
    refine And.intro ⟨by omega,by omega⟩ ?_
    refine ⟨_,hs.ld (fun _=>rfl) c2,?_⟩
    refine cnd (fun c3 => ?_) (fun c3 => ?_)
    · have c3:l[i]=n:=by simpa using c3
      refine And.intro ?_ rfl
      rw [decide_eq_true (c3▸List.getElem_mem c2)]
    · have c3:l[i]≠n:=by simpa using c3
      have wq:IntKind.i64.wrap ((i:Int)+1)=((i+1:Nat):Int):=wz (by omega) (by omega)
      refine again (i+1) _ _ _ (by omega) ⟨vI wq,rfl,rfl,rfl,trivial⟩ trivial ⟨by omega,rfl,?_⟩
      rw [List.take_succ_eq_append_getElem c2]
      intro hm
      rcases List.mem_append.1 hm with q | q
      · exact i3 q
      · exact c3 (List.mem_singleton.1 q).symm
  · have c2:l.length=i:=by simp at c2;omega
    refine And.intro ?_ rfl
    rw [← c2,List.take_length] at i3
    rw [decide_eq_false i3]
end Go.Proofs.YtgmkdjjcleobhaaGreat.Id
namespace Go.Proofs.YtgmkdjjcleobhaaGreat.Id
open Go.Id Go.Conc Go.Conc.Lib
open Go.Proofs
set_option linter.unusedVariables false
set_option maxRecDepth 100000
section
variable {N0:Nat→Prop} {lo:Nat}
theorem Tri.n {P:Program} {X:Ctx P} {lo:Nat} {f:FuncId} {args:List Value} {g:Gd} {h h0:Hp} (e:h=h0) {K:Value→Hp→Prop} (t:Tri X lo f args h0 fun v h'=>(∃ o1 o2 o3 L,v = .tuple #[scOV (newS g) o1 o2 o3,.bool (gOk g)]∧ScO h0.n h' (newS g) o1 o2 o3 L)∧Ext h0 h') (k:∀ h' g1 l1 f1 gf lf ff L,ScR h' (newS g) g1 l1 f1 L→Ext h0 h'→K (.tuple #[scV (newS g) g1 l1 f1 gf lf ff,.bool (gOk g)]) h'):CallP X lo f args h K:=by
  subst e
  refine callP t fun v h' p => ?_
  obtain ⟨⟨o1,o2,o3,L,hv,r⟩,x⟩:=p
  obtain ⟨ga,la,fa,gf,lf,ff,z,R⟩:=r.read
  rw [z] at hv
  subst hv
  exact k h' ga la fa gf lf ff L R x
set_option maxHeartbeats 800000 in
theorem sceneNew_R (bs:List Nat) (a:Option Addr) (fl:Nat) (h:Hp) (hs:Sls h uE 1 a bs) (hb:∀ b∈bs,b < 256) (hn:bs.length≤9223372036854775807) (hlo:lo≤h.n) :
    R (mainCtx Tryz.prog N0) lo 3 Tryz.f3 (.ret fun v _=>v = .bool true) [.code (bodyC Tryz.f3)] (argsTm 0 [.slice a bs.length fl]) [] h:=by
  refine more tbOk mtOk ⟨[],[(11,[0,1,2,3,4,5,6,7,8,9],[0,1,0,7,15,0,0,96,255,511]),(13,[0,1,2,3,4,5,6,7,8,9,10,11,12,13,14,15,16,17,18,19,20,21,22,23,24],[0,1,3,7,15,7,63,127,255,511,1023,511,2559,8191,16383,32767,65535,131071,262143,65535,589823,1638399,4194303,8388607,16777215])]⟩ 500 ?_
  refine cnd (fun c1=>rfl) (fun c1 => ?_)
  have hm:bs.length≤1048576:=by simp at c1;omega
  refine callP (DrawSceneNew_ok a fl bs h hs hm hb) ?_
  rintro v h1 ⟨g,ga,gf,rfl,d,hl,x1⟩
  have sl:=d.sls.2
  refine Tri.n rfl (sSceneNew_ok g ga gf h1 sl (by omega)) fun h2 wg wl wf wgf wlf wff L2 R2 x2 => ?_
  refine Tri.n rfl (SceneNew_ok g ga gf h2 (sl.ext x2) (by omega)) fun h3 xg xl xf xgf xlf xff L3 R3 x3 => ?_
  have mB:=newS_B (g:=g)
  obtain ⟨k1,hk1⟩:∃ k1,k1=gOk g:=⟨_,rfl⟩
  rw [← hk1]
  refine cnd (fun c=>by simp at c) (fun _ => ?_)
  refine callP (llScene_ok _ _ xg xl xf wg wl wf xgf xlf xff wgf wlf wff L3 L2 h3 R3 (R2.ext x3) mB) ?_
  rintro v h3' ⟨rfl,rfl⟩
  refine cnd (fun c=>by simp at c) (fun _ => ?_)
  refine cnd (fun c1 => ?_) (fun c1 => ?_)
  · refine cnd (fun _ => ?_) (fun c=>absurd c (by simp))
    refine callP (llScene_ok _ _ xg xl xf wg wl wf xgf xlf xff wgf wlf wff L3 L2 h3' R3 (R2.ext x3) mB) ?_
    rintro v h3 ⟨rfl,rfl⟩
    exact congrArg Value.bool (decide_eq_true rfl)
  have hok:gOk g=true:=by rw [← hk1];simpa using c1
  have hN:newS g=scG g:=by unfold newS;rw [if_pos hok]
  rw [hN] at R3 mB ⊢
  have x23:=x2.trans x3
  obtain ⟨l1,l2⟩:=scG_len g
  have hB:=mB
  have hft:=mB.ft
  refine loop (σ:=Nat) tbOk mtOk ⟨[],[(11,[0,1,2,3,4,5,6,7,8,9],[0,1,0,7,15,0,0,96,255,511]),(13,[0,1,2,3,4,5,6,7,8,9,10,11,12,13,14,15,16,17,18,19,20,21,22,23,24],[0,1,3,7,15,7,63,127,255,511,1023,511,2559,8191,16383,32767,65535,131071,262143,65535,589823,1638399,4194303,8388607,16777215])]⟩ (fun k=>[(8,.v (.int .i64 (k:Int))),(6,.l 2 0),(3,.l 0 0)]) (fun _=>[[.int .i64 g.w,.slice ga g.cs.length gf],cellsL (scV (scG g) wg wl wf wgf wlf wff),[.int .i64 (scG g).g.w,.slice xg (scG g).g.cs.length xgf,.slice xl (scG g).li.length xlf,.slice xf (scG g).ft.length xff]]) (fun k h'=>k≤(scG g).ft.length∧Ext h3' h') (fun k=>(scG g).ft.length - k) 400 0 (fun _=>rfl) ⟨rfl,rfl,rfl,trivial⟩ ⟨rfl,rfl,rfl,trivial⟩ ⟨Nat.zero_le _,Ext.refl _⟩ (fun k h4 hI again => ?_)
  obtain ⟨k1',x4⟩:=hI
  refine cnd (fun c => ?_) (fun c => ?_)
  · have c:k < (scG g).ft.length:=by simpa using c
    have wk:IntKind.i64.wrap ((k:Int)+1)=((k+1:Nat):Int):=wz (by omega) (by omega)
    have hkm:k < (many g).toNat:=by omega
    have hf:(scG g).ft[k]=footG g k:=by
      have:=(scG_get hkm).2
      rw [List.getElem?_eq_getElem c] at this
      exact Option.some.inj this
    have R4:=R3.ext x4
    obtain ⟨fd,fa1,ff1,rfl,fs1,fl1⟩:=R4.ft.get c
    have fl2:=fl1 _ (Ext.refl _)
    rw [hf] at fs1 fl1 fl2
    refine And.intro (by kernel_rfl) ?_
    refine And.intro ⟨by omega,by omega⟩ ?_
    refine ⟨_,fl2,?_⟩
    refine callP (TrailFoot_ok g k ga gf h4 (sl.ext (x23.trans x4)) (by omega)) ?_
    rintro v h5 ⟨⟨o5,rfl,g5⟩,x5⟩
    obtain ⟨ta,tf,z5,t5⟩:=g5.sl
    rw [z5]
    have fl5:=fl1 _ x5
    repeat first | refine And.intro Is.r ?_ | refine And.intro ⟨_,by first | exact fl2 | exact fl5,Is.r⟩ ?_
    have hfl:(footG g k).length≤1048576:=by rw [← hf];exact hB.el _ (List.getElem_mem c)
    refine callP (llInts_ok fa1 ta ff1 tf (footG g k) (footG g k) h5 (fs1.ext x5) t5 hfl) ?_
    rintro v h6 ⟨rfl,rfl⟩
    repeat first | refine And.intro Is.r ?_ | refine And.intro ⟨_,by first | exact fl2 | exact fl5,Is.r⟩ ?_
    refine cnd (fun c=>by simp at c) (fun _ => ?_)
    exact again (k+1) _ _ _ (by omega) ⟨vI wk,rfl,rfl,trivial⟩ ⟨rfl,rfl,rfl,trivial⟩ ⟨by omega,x4.trans x5⟩
  · have R4:=R3.ext x4
    have sl4:=sl.ext (x23.trans x4)
    refine And.intro (by kernel_rfl) ?_
    refine callP (SceneOk_ok (scG g) xg xl xf xgf xlf xff L3 h4 R4 mB) ?_
    rintro v h5 ⟨rfl,x5⟩
    rw [scOk_G hok]
    repeat refine And.intro Is.r ?_
    refine cndT ?_
    refine callP (llGrid_ok (scG g).g g xg ga xgf gf h5 ((R4.ext x5).g) (sl4.ext x5) (by show g.cs.length≤1048576;omega)) ?_
    rintro v h6 ⟨rfl,rfl⟩
    rw [decide_eq_true (show (scG g).g=g from rfl)]
    repeat refine And.intro Is.r ?_
    refine cndT ?_
    refine callP (PicOf_ok g ga gf h6 (sl4.ext x5) (by omega)) ?_
    rintro v h7 ⟨⟨o7,rfl,g7,_⟩,x7⟩
    rw [hok,if_pos rfl] at g7
    obtain ⟨pa,pf,z7,t7⟩:=gx_slv g7 fun _=>rfl
    rw [hok,if_pos rfl,z7]
    repeat refine And.intro Is.r ?_
    refine callP (llInts_ok xl pa xlf pf (scG g).li (pic g) h7 ((R4.ext (x5.trans x7)).li) t7 (by have:=mB.li;omega)) ?_
    rintro v h8 ⟨rfl,rfl⟩
    rw [decide_eq_true (show (scG g).li=pic g from rfl)]
    repeat refine And.intro Is.r ?_
    refine cndT ?_
    repeat refine And.intro Is.r ?_
    refine congrArg Value.bool (decide_eq_true ?_)
    omega
end
end Go.Proofs.YtgmkdjjcleobhaaGreat.Id
namespace Go.Proofs.YtgmkdjjcleobhaaGreat.Tr
set_option linter.unusedVariables false
def bk (d:Int):Int:=(d+2) % 4
theorem bk_bk {d:Int} (h:0≤d∧d≤3):bk (bk d)=d:=by unfold bk;omega
section
variable (w n:Int) (kd:Int→Int) (U:Int→Int)
end
section
variable {w n:Int} {kd:Int→Int} {U:Int→Int}
end
end Go.Proofs.YtgmkdjjcleobhaaGreat.Tr
namespace Go.Proofs.YtgmkdjjcleobhaaGreat.Id
open Go.Id
open Go.Proofs
set_option linter.unusedVariables false
theorem lastIx_get {x:Cl}:∀ (n:Nat) (l:List Cl),l.length=n→∀ i:Nat,lastIx l x=(i:Int)→l[i]? = some x
  | 0,l,h,i,e=>by
    have:l=[]:=List.length_eq_zero_iff.1 h
    subst this
    have e:(-1:Int)=(i:Int):=e
    omega
  | n+1,l,h,i,e=>by
    obtain ⟨r,y,rfl⟩:=snoc_of (l:=l) (by omega)
    rw [lastIx_snoc] at e
    have hr:r.length=n:=by simpa using h
    by_cases c:y=x
    · rw [if_pos c] at e
      have:i=r.length:=by omega
      subst this;subst c;simp
    · rw [if_neg c] at e
      have:=lastIx_get n r hr i e
      rw [List.getElem?_append_left (List.getElem?_eq_some_iff.1 this).1];exact this
theorem lastIx_of {x:Cl}:∀ (n:Nat) (l:List Cl),l.length=n→l.Nodup→∀ i:Nat,l[i]? = some x→lastIx l x=(i:Int)
  | 0,l,h,hd,i,e=>by
    have:l=[]:=List.length_eq_zero_iff.1 h
    subst this
    simp at e
  | n+1,l,h,hd,i,e=>by
    obtain ⟨r,y,rfl⟩:=snoc_of (l:=l) (by omega)
    rw [lastIx_snoc]
    have hr:r.length=n:=by simpa using h
    obtain ⟨d1,_,d2⟩:=List.nodup_append.1 hd
    by_cases hi:i < r.length
    · rw [List.getElem?_append_left hi] at e
      have hm:x∈r:=List.mem_of_getElem? e
      rw [if_neg (fun c=>d2 x hm y (List.mem_singleton.2 rfl) c.symm)]
      exact lastIx_of n r hr d1 i e
    · have hl:=(List.getElem?_eq_some_iff.1 e).1
      have:i=r.length:=by simp at hl;omega
      subst this
      simp at e
      rw [if_pos e]
theorem rays_chk:∀ w:Fin 5,∀ hh:Fin 5,(rays (w.val+1) (hh.val+1)).Nodup∧∀ c∈rays (w.val+1) (hh.val+1),Tr.nxt ((w.val+1:Nat):Int) (((w.val+1:Nat):Int)*((hh.val+1:Nat):Int)) c.1 (Tr.bk c.2)=none:=by decide +kernel
theorem rays_once {w hh:Nat} (h1:1≤w∧w≤5) (h2:1≤hh∧hh≤5):(rays w hh).Nodup∧∀ c∈rays w hh,Tr.nxt (w:Int) ((w:Int)*(hh:Int)) c.1 (Tr.bk c.2)=none:=by
  have:=rays_chk ⟨w - 1,by omega⟩ ⟨hh - 1,by omega⟩
  simp only [show w - 1+1=w from by omega,show hh - 1+1=hh from by omega] at this
  exact this
theorem sight_ray {g:Gd} {x:Int} {r:Cl} (hr:sightRay g x=some r):Tr.nxt g.w g.cs.length r.1 (Tr.bk r.2)=none∧∀ a d,(0≤d∧d≤3)→(sightOf g a d=x↔a=r.1∧d=Tr.bk r.2):=by
  have hr0:=hr
  obtain ⟨hg,_,h4⟩:=sightRay_ok hr0
  unfold sightRay at hr
  by_cases c:gOk g=true∧0≤x∧x < many g
  · rw [if_pos c] at hr
    obtain ⟨w,hh,g1,g2,g3,g4,g5⟩:=gOk_nat c.1
    have hs:sideRays g=rays w hh:=by unfold sideRays;rw [g1,g2,Int.toNat_natCast,Int.toNat_natCast]
    obtain ⟨o1,o2⟩:=rays_once g3 g4
    rw [hs] at hr
    refine ⟨?_,fun a d hd => ?_⟩
    · rw [g1,g5];exact o2 r (List.mem_of_getElem? hr)
    · have e:sightOf g a d=lastIx (rays w hh) (a,Tr.bk d):=by
        unfold sightOf;rw [if_pos ⟨hg,hd⟩,hs];rfl
      rw [e]
      constructor
      · intro q
        have:=lastIx_get _ _ rfl x.toNat (by rw [q];omega)
        rw [hr] at this
        have:=Option.some.inj this
        rw [this]
        exact ⟨rfl,(Tr.bk_bk hd).symm⟩
      · rintro ⟨rfl,rfl⟩
        rw [Tr.bk_bk h4,lastIx_of _ _ rfl o1 x.toNat hr]
        omega
  · rw [if_neg c] at hr;cases hr
theorem sightRay_ex {g:Gd} (hg:gOk g=true) {k:Int} (hk:0≤k∧k < many g):∃ r,sightRay g k=some r:=by
  unfold sightRay
  rw [if_pos ⟨hg,hk⟩]
  have:=sideRays_len hg
  exact ⟨_,List.getElem?_eq_getElem (by omega)⟩
end Go.Proofs.YtgmkdjjcleobhaaGreat.Id
namespace Go.Proofs.YtgmkdjjcleobhaaGreat.Id
open Go.Id
open Go.Proofs
set_option linter.unusedVariables false
def swpC (c:Cl):Cl:=(Tr.swp c.1,c.2)
def cAt (g:Gd) (i:Int):Cl:=g.cs[i.toNat]?.getD (0,0)
def turnFrom (g:Gd) (r c:Int):Int:=(g.hi - 1 - c)*g.w+r
def flipFrom (g:Gd) (r c:Int):Int:=r*g.w+g.w - 1 - c
def movedG (g:Gd) (w:Int) (f:Int→Int→Int):Gd:=⟨w,(List.range g.cs.length).map fun (i:Nat)=>swpC (cAt g (f ((i:Int) / w) ((i:Int) % w)))⟩
def turnG (g:Gd):Gd:=movedG g g.hi (turnFrom g)
def flipG (g:Gd):Gd:=movedG g g.w (flipFrom g)
theorem movedG_len (g:Gd) (w:Int) (f:Int→Int→Int):(movedG g w f).cs.length=g.cs.length:=by simp [movedG]
theorem movedG_at (g:Gd) (w:Int) (f:Int→Int→Int) {i:Int} (hi:0≤i∧i < g.cs.length):cAt (movedG g w f) i=swpC (cAt g (f (i / w) (i % w))):=by
  unfold cAt movedG
  have:i.toNat < g.cs.length:=by omega
  rw [List.getElem?_map,List.getElem?_range this]
  simp only [Option.map_some,Option.getD_some]
  rw [show ((i.toNat:Nat):Int)=i from by omega]
  rfl
theorem cOk_swp {c:Cl} (h:cOk c=true):cOk (swpC c)=true:=by
  unfold cOk swpC Tr.swp at *
  obtain ⟨k,l⟩:=c
  simp only at *
  by_cases h7:k=7
  · rw [if_pos h7] at h
    have e:(if k=2 then 3 else if k=3 then 2 else if k=4 then 5 else if k=5 then 4 else k)=(7:Int):=by rw [h7];decide
    rw [e,if_pos rfl];exact h
  · rw [if_neg h7] at h
    simp at h
    repeat' split
    all_goals (first | omega | (simp;omega))
theorem cAt_mem {g:Gd} {a:Int} (ha:0≤a∧a < g.cs.length):cAt g a∈g.cs:=by
  unfold cAt
  have:a.toNat < g.cs.length:=by omega
  rw [List.getElem?_eq_getElem this]
  exact List.getElem_mem this
theorem movedG_ok {g:Gd} {w:Int} {f:Int→Int→Int} (hg:gOk g=true) (hw:1≤w∧w≤5) (hl:(g.cs.length:Int)≤w*5) (hm:(g.cs.length:Int) % w=0) (hf:∀ i,0≤i∧i < (g.cs.length:Int)→0≤f (i / w) (i % w)∧f (i / w) (i % w) < g.cs.length):gOk (movedG g w f)=true:=by
  obtain ⟨g1,g2,g3,g4,g5,g6⟩:=gOk_iff.1 hg
  refine gOk_iff.2 ⟨hw.1,hw.2,by rw [movedG_len];exact g3,by rw [movedG_len];exact hl,by rw [movedG_len];exact hm,fun c hc => ?_⟩
  obtain ⟨i,hi,rfl⟩:=List.mem_map.1 hc
  have hi:=List.mem_range.1 hi
  exact cOk_swp (g6 _ (cAt_mem (hf i ⟨by omega,by omega⟩)))
structure Same (g g':Gd) (π δ σ:Int→Int):Prop where
  ok:gOk g=true
  ok':gOk g'=true
  inn:∀ a,0≤a∧a < (g.cs.length:Int)→0≤π a∧π a < g'.cs.length
  dir:∀ d,0≤d∧d≤3→0≤δ d∧δ d≤3
  cell:∀ a,0≤a∧a < (g.cs.length:Int)→cAt g' (π a)=swpC (cAt g a)
  next:∀ a d,Tr.Ok g.cs.length (a,d)→Tr.nxt g'.w g'.cs.length (π a) (δ d)=(Tr.nxt g.w g.cs.length a d).map π
  turn:∀ k d,0≤d∧d≤3→Tr.dirT (Tr.swp k) (δ d)=δ (Tr.dirT k d)
  dbk:∀ d,0≤d∧d≤3→δ (Tr.bk d)=Tr.bk (δ d)
  ray:∀ k r,0≤k∧k < many g→sightRay g k=some r→sightRay g' (σ k)=some (π r.1,δ r.2)
  sin:∀ k,0≤k∧k < many g→0≤σ k∧σ k < many g'
  many:many g'=many g
section
variable {g g':Gd} {π δ σ:Int→Int} (S:Same g g' π δ σ)
include S
theorem Same.sight {a d:Int} (ha:0≤a∧a < (g.cs.length:Int)) (hd:0≤d∧d≤3) (hx:Tr.nxt g.w g.cs.length a d=none):sightOf g' (π a) (δ d)=σ (sightOf g a d):=by
  have h0:=sight_ge S.ok ha hd hx
  have h1:=sightOf_lt S.ok a d
  obtain ⟨r,hr⟩:=sightRay_ex S.ok ⟨h0,h1⟩
  obtain ⟨e1,e2⟩:=((sight_ray hr).2 a d hd).1 rfl
  have hr':=S.ray _ r ⟨h0,h1⟩ hr
  have o2:=(sightRay_ok hr).2.2
  refine ((sight_ray hr').2 _ _ (S.dir d hd)).2 ⟨by rw [e1],?_⟩
  show δ d=Tr.bk (δ r.2)
  rw [e2,S.dbk r.2 o2]
theorem Same.kd {a:Int} (ha:0≤a∧a < (g.cs.length:Int)):kdG g' (π a)=Tr.swp (kdG g a):=by
  show (cAt g' (π a)).1=Tr.swp (cAt g a).1
  rw [S.cell a ha];rfl
theorem Same.lt {a:Int} (ha:0≤a∧a < (g.cs.length:Int)):ltG g' (π a)=ltG g a:=by
  show (cAt g' (π a)).2=(cAt g a).2
  rw [S.cell a ha];rfl
theorem Same.sym:Tr.Sym g.w g.cs.length (kdG g) (sightOf g) g'.w g'.cs.length (kdG g') (sightOf g') π δ σ :=
  ⟨S.inn,S.dir,fun a ha=>S.kd ha,S.next,S.turn,fun a d ho hx=>S.sight ho.1 ho.2 hx⟩
theorem Same.trail {k:Int} (hk:0≤k∧k < Id.many g):(trail g' (σ k)).2=(trail g k).2.map (Tr.mp π σ):=by
  obtain ⟨r,hr⟩:=sightRay_ex S.ok hk
  have hr':=S.ray k r hk hr
  obtain ⟨t1,_⟩:=trail_ok g k
  obtain ⟨u1,_⟩:=trail_ok g' (σ k)
  unfold IsTrail at t1 u1
  rw [hr] at t1
  rw [hr'] at u1
  obtain ⟨q,hq⟩:=t1
  obtain ⟨q',hq'⟩:=u1
  obtain ⟨_,o1,o2⟩:=sightRay_ok hr
  obtain ⟨g1,g2,g3,g4,g5,g6⟩:=gOk_iff.1 S.ok
  obtain ⟨q2,t2,h2,e2⟩:=Tr.go_map (w:=g.w) g1 g5 S.sym q _ _ _ _ ⟨o1,o2⟩ hq
  have e1:=Tr.go_le (Nat.le_max_left q' q2) hq'
  have e3:=Tr.go_le (Nat.le_max_right q' q2) h2
  have:=Option.some.inj (e1.symm.trans e3)
  rw [this,e2]
theorem Same.light {k:Int} (hk:0≤k∧k < Id.many g):lightAt g' (σ k)=lightAt g k:=by
  unfold lightAt
  rw [S.trail hk]
  obtain ⟨_,_,t3,_⟩:=trail_ok g k
  generalize (Id.trail g k).2=l at t3 ⊢
  induction l with
  | nil=>rfl
  | cons e l ih =>
    have i1:=ih fun e he=>t3 e (List.mem_cons_of_mem _ he)
    simp only [List.map_cons,lightOf,i1]
    congr 1
    by_cases c:e.1=2
    · have:=(t3 e (List.mem_cons_self ..)).1 c
      have hm:(Tr.mp π σ e).1=2:=c
      rw [if_pos c,if_pos hm]
      have c0:e.1≠0:=by omega
      have hp:(Tr.mp π σ e).2.1=π e.2.1:=by simp [Tr.mp,c0]
      rw [hp,S.lt this];rfl
    · have hm:¬ (Tr.mp π σ e).1=2:=c
      rw [if_neg c,if_neg hm]
end
theorem raysT_chk:∀ w:Fin 5,∀ h:Fin 5,∀ k:Fin 20,k.val < 2*(w.val+1+(h.val+1))→(rays (h.val+1) (w.val+1))[(Tr.siT ((w.val+1:Nat):Int) ((h.val+1:Nat):Int) (k.val:Int)).toNat]? = ((rays (w.val+1) (h.val+1))[k.val]?).map fun r=>(Tr.piT ((w.val+1:Nat):Int) ((h.val+1:Nat):Int) r.1,Tr.deT r.2):=by decide +kernel
theorem raysF_chk:∀ w:Fin 5,∀ h:Fin 5,∀ k:Fin 20,k.val < 2*(w.val+1+(h.val+1))→(rays (w.val+1) (h.val+1))[(Tr.siF ((w.val+1:Nat):Int) ((h.val+1:Nat):Int) (k.val:Int)).toNat]? = ((rays (w.val+1) (h.val+1))[k.val]?).map fun r=>(Tr.piF ((w.val+1:Nat):Int) r.1,Tr.deF r.2):=by decide +kernel
theorem raysT {w h k:Nat} (hw:1≤w∧w≤5) (hh:1≤h∧h≤5) (hk:k < 2*(w+h)):(rays h w)[(Tr.siT (w:Int) (h:Int) (k:Int)).toNat]? = ((rays w h)[k]?).map fun r=>(Tr.piT (w:Int) (h:Int) r.1,Tr.deT r.2):=by
  have:=raysT_chk ⟨w - 1,by omega⟩ ⟨h - 1,by omega⟩ ⟨k,by omega⟩
  simp only [show w - 1+1=w from by omega,show h - 1+1=h from by omega] at this
  exact this hk
theorem raysF {w h k:Nat} (hw:1≤w∧w≤5) (hh:1≤h∧h≤5) (hk:k < 2*(w+h)):(rays w h)[(Tr.siF (w:Int) (h:Int) (k:Int)).toNat]? = ((rays w h)[k]?).map fun r=>(Tr.piF (w:Int) r.1,Tr.deF r.2):=by
  have:=raysF_chk ⟨w - 1,by omega⟩ ⟨h - 1,by omega⟩ ⟨k,by omega⟩
  simp only [show w - 1+1=w from by omega,show h - 1+1=h from by omega] at this
  exact this hk
theorem turnFrom_in {g:Gd} (hg:gOk g=true) {i:Int} (hi:0≤i∧i < (g.cs.length:Int)):0≤turnFrom g (i / g.hi) (i % g.hi)∧turnFrom g (i / g.hi) (i % g.hi) < g.cs.length:=by
  obtain ⟨h1,h2,h3⟩:=hi_ok hg
  obtain ⟨g1,g2,_⟩:=gOk_iff.1 hg
  rw [← h3] at hi ⊢
  rw [Int.mul_comm g.w] at hi
  obtain ⟨r,c,e,c0,c1,r0,r1,e1,e2⟩:=Tr.rc h1 hi.1 hi.2
  rw [e1,e2]
  exact Tr.rc_lt g1 (by omega) (by omega) r0 r1
theorem flipFrom_in {g:Gd} (hg:gOk g=true) {i:Int} (hi:0≤i∧i < (g.cs.length:Int)):0≤flipFrom g (i / g.w) (i % g.w)∧flipFrom g (i / g.w) (i % g.w) < g.cs.length:=by
  obtain ⟨h1,h2,h3⟩:=hi_ok hg
  obtain ⟨g1,g2,_⟩:=gOk_iff.1 hg
  rw [← h3] at hi ⊢
  obtain ⟨r,c,e,c0,c1,r0,r1,e1,e2⟩:=Tr.rc g1 hi.1 hi.2
  rw [e1,e2]
  unfold flipFrom
  rw [show r*g.w+g.w - 1 - c=r*g.w+(g.w - 1 - c) from by omega]
  exact Tr.rc_lt g1 r0 r1 (by omega) (by omega)
theorem turn_same {g:Gd} (hg:gOk g=true):Same g (turnG g) (Tr.piT g.w g.hi) Tr.deT (Tr.siT g.w g.hi):=by
  obtain ⟨h1,h2,h3⟩:=hi_ok hg
  obtain ⟨g1,g2,g3,g4,g5,g6⟩:=gOk_iff.1 hg
  have ln:(turnG g).cs.length=g.cs.length:=movedG_len _ _ _
  have ok':gOk (turnG g)=true:=movedG_ok hg ⟨h1,h2⟩ (by rw [← h3,Int.mul_comm];exact Int.mul_le_mul_of_nonneg_left (by omega) (by omega)) (by rw [← h3];exact Int.mul_emod_left _ _) fun i hi=>turnFrom_in hg hi
  have w':(turnG g).w=g.hi:=rfl
  have hi':(turnG g).hi=g.w:=by
    show ((turnG g).cs.length:Int) / (turnG g).w=g.w
    rw [ln,w',← h3];exact Int.mul_ediv_cancel _ (by omega)
  have mn:many (turnG g)=many g:=by unfold many;rw [w',hi'];omega
  refine ⟨hg,ok',fun a ha => ?_,fun d hd=>by unfold Tr.deT;omega,fun a ha => ?_,fun a d ho => ?_,Tr.deT_turn,fun d hd=>Tr.deT_back d,fun k r hk hr => ?_,fun k hk => ?_,mn⟩
  · rw [ln,← h3];exact Tr.piT_in g1 h1 (by rw [h3];exact ha)
  · have hp:=Tr.piT_in (w:=g.w) (h:=g.hi) g1 h1 (by rw [h3];exact ha)
    unfold turnG
    rw [movedG_at _ _ _ (by rw [← h3];exact hp)]
    rw [← h3] at ha
    obtain ⟨r,c,rfl,c0,c1,r0,r1,e1,e2⟩:=Tr.rc g1 ha.1 ha.2
    rw [Tr.piT_rc c0 c1,(Tr.rc_div (w:=g.hi) (r:=c) (c:=g.hi - 1 - r) (by omega) (by omega)).1,(Tr.rc_div (w:=g.hi) (r:=c) (c:=g.hi - 1 - r) (by omega) (by omega)).2]
    unfold turnFrom
    rw [show g.hi - 1 - (g.hi - 1 - r)=r from by omega]
  · rw [ln,w',← h3]
    rw [← h3] at ho
    exact Tr.next_T g1 h1 ho
  · unfold sightRay at hr ⊢
    rw [if_pos ⟨hg,hk⟩] at hr
    have hs:=Tr.siT_in (w:=g.w) (h:=g.hi) (k:=k) g1 h1 hk.1 (by have:=hk.2;unfold many at this;exact this)
    rw [if_pos ⟨ok',hs.1,by rw [mn];unfold many;exact hs.2⟩]
    obtain ⟨w,hh,x1,x2,x3,x4,x5⟩:=gOk_nat hg
    unfold sideRays at hr ⊢
    rw [w',hi']
    rw [x1,x2] at hr ⊢
    rw [Int.toNat_natCast,Int.toNat_natCast] at hr ⊢
    have:=raysT (k:=k.toNat) x3 x4 (by have:=hk.2;unfold many at this;omega)
    rw [show ((k.toNat:Nat):Int)=k from by omega,hr] at this
    exact this
  · have hs:=Tr.siT_in (w:=g.w) (h:=g.hi) (k:=k) g1 h1 hk.1 (by have:=hk.2;unfold many at this;exact this)
    rw [mn];unfold many;exact hs
theorem flip_same {g:Gd} (hg:gOk g=true):Same g (flipG g) (Tr.piF g.w) Tr.deF (Tr.siF g.w g.hi):=by
  obtain ⟨h1,h2,h3⟩:=hi_ok hg
  obtain ⟨g1,g2,g3,g4,g5,g6⟩:=gOk_iff.1 hg
  have ln:(flipG g).cs.length=g.cs.length:=movedG_len _ _ _
  have ok':gOk (flipG g)=true:=movedG_ok hg ⟨g1,g2⟩ g4 g5 fun i hi=>flipFrom_in hg hi
  have w':(flipG g).w=g.w:=rfl
  have hi':(flipG g).hi=g.hi:=by
    show ((flipG g).cs.length:Int) / (flipG g).w=g.hi
    rw [ln,w'];rfl
  have mn:many (flipG g)=many g:=by unfold many;rw [w',hi']
  refine ⟨hg,ok',fun a ha => ?_,fun d hd=>by unfold Tr.deF;split<;>(try split)<;>omega,fun a ha => ?_,fun a d ho => ?_,Tr.deF_turn,fun d hd=>Tr.deF_back hd,fun k r hk hr => ?_,fun k hk => ?_,mn⟩
  · rw [ln,← h3];exact Tr.piF_in g1 (by rw [h3];exact ha)
  · have hp:=Tr.piF_in (w:=g.w) (h:=g.hi) g1 (by rw [h3];exact ha)
    unfold flipG
    rw [movedG_at _ _ _ (by rw [← h3];exact hp)]
    rw [← h3] at ha
    obtain ⟨r,c,rfl,c0,c1,r0,r1,e1,e2⟩:=Tr.rc g1 ha.1 ha.2
    rw [Tr.piF_rc c0 c1,(Tr.rc_div (w:=g.w) (r:=r) (c:=g.w - 1 - c) (by omega) (by omega)).1,(Tr.rc_div (w:=g.w) (r:=r) (c:=g.w - 1 - c) (by omega) (by omega)).2]
    unfold flipFrom
    rw [show r*g.w+g.w - 1 - (g.w - 1 - c)=r*g.w+c from by omega]
  · rw [ln,w',← h3]
    rw [← h3] at ho
    exact Tr.next_F g1 ho
  · unfold sightRay at hr ⊢
    rw [if_pos ⟨hg,hk⟩] at hr
    have hs:=Tr.siF_in (w:=g.w) (h:=g.hi) (k:=k) g1 h1 hk.1 (by have:=hk.2;unfold many at this;exact this)
    rw [if_pos ⟨ok',hs.1,by rw [mn];unfold many;exact hs.2⟩]
    obtain ⟨w,hh,x1,x2,x3,x4,x5⟩:=gOk_nat hg
    unfold sideRays at hr ⊢
    rw [w',hi']
    rw [x1,x2] at hr ⊢
    rw [Int.toNat_natCast,Int.toNat_natCast] at hr ⊢
    have:=raysF (k:=k.toNat) x3 x4 (by have:=hk.2;unfold many at this;omega)
    rw [show ((k.toNat:Nat):Int)=k from by omega,hr] at this
    exact this
  · have hs:=Tr.siF_in (w:=g.w) (h:=g.hi) (k:=k) g1 h1 hk.1 (by have:=hk.2;unfold many at this;exact this)
    rw [mn];unfold many;exact hs
end Go.Proofs.YtgmkdjjcleobhaaGreat.Id
namespace Go.Proofs.YtgmkdjjcleobhaaGreat.Tr
section
variable {w n:Int} {kd:Int→Int} {sg:Int→Int→Int} {w' n':Int} {kd':Int→Int} {sg':Int→Int→Int} {π δ σ:Int→Int}
def mv (π δ:Int→Int) (e:V):V:=(π e.1,δ e.2.1,e.2.2)
theorem go_mapV (hw:1≤w) (hn:n % w=0) (S:Sym w n kd sg w' n' kd' sg' π δ σ) (q:Nat) (a d wt:Int) (t:Tr) (ho:Ok n (a,d)) (h:go w n kd sg q a d wt=some t) :
    ∃ q' t',go w' n' kd' sg' q' (π a) (δ d) wt=some t'∧t'.1=t.1.map (mv π δ):=by
  refine go_ind (kd:=kd) (sg:=sg) hw hn
    (fun a d wt t=>∃ q' t',go w' n' kd' sg' q' (π a) (δ d) wt=some t'∧t'.1=t.1.map (mv π δ))
    (fun a d wt t=>Ok n (a,d)→∃ q' t',lv w' n' sg' (go w' n' kd' sg' q') (π a) (δ d) wt=some t'∧t'.1=t.1.map (mv π δ))
    ?_ ?_ ?_ ?_ ?_ ?_ ?_ ?_ ?_ q a d wt t ho h
  · intro a d;exact ⟨1,([],[]),by rw [go,if_pos rfl],rfl⟩
  · intro a d _;exact ⟨1,([],[]),by unfold lv;rw [if_pos rfl],rfl⟩
  · intro a d wt ho hz k1 k7 hx _
    refine ⟨1,([],[(0,σ (sg a d),wt)]),?_,rfl⟩
    unfold lv
    rw [if_neg hz,S.next a d ho,hx,Option.map_none]
    simp only
    rw [S.out a d ho hx]
  · intro a d wt a' t ho hz hx ho' hM _
    obtain ⟨q',t',ht',e⟩:=hM
    refine ⟨q',t',?_,e⟩
    unfold lv
    rw [if_neg hz,S.next a d ho,hx,Option.map_some]
    exact ht'
  · intro a d wt ho hz hk
    refine ⟨1,([(π a,δ d,wt)],[(1,π a,wt)]),by rw [go,if_neg hz,if_pos (by rw [S.kind a ho.1];exact swp_1.2 hk)],rfl⟩
  · intro a d wt ho hz hk
    have e:=S.kind a ho.1
    refine ⟨1,([(π a,δ d,wt)],[(2,π a,wt)]),by rw [go,if_neg hz,if_neg (by rw [e,swp_1];omega),if_pos (by rw [e];exact swp_7.2 hk)],rfl⟩
  · intro a d wt t ho hz hk hL
    have e:=S.kind a ho.1
    obtain ⟨q',t',ht',f⟩:=hL ho
    refine ⟨q'+1,_,by rw [go,if_neg hz,if_neg (by rw [e,swp_1];omega),if_neg (by rw [e,swp_7];omega),if_pos (by rw [e];exact swp_6.2 hk),ht',Option.bind_some],?_⟩
    simp only [List.map_cons,f];rfl
  · intro a d wt t u ho hz hk hL hR
    have e:=S.kind a ho.1
    have hT:=S.turn (kd a) d ho.2
    rw [← e] at hT
    obtain ⟨q1,t1,ht1,f1⟩:=hL ho
    obtain ⟨q2,t2,ht2,f2⟩:=hR ⟨ho.1,dirT_ok ho.2⟩
    have g1:=lv_le (Nat.le_max_left q1 q2) ht1
    have g2:=lv_le (Nat.le_max_right q1 q2) ht2
    refine ⟨max q1 q2+1,_,by rw [go,if_neg hz,if_neg (by rw [e,swp_1];omega),if_neg (by rw [e,swp_7];omega),if_neg (by rw [e,swp_6];omega),if_pos (by rw [e];exact swp_45.2 hk),g1,Option.bind_some,hT,g2,Option.bind_some],?_⟩
    simp only [List.map_cons,List.map_append,f1,f2];rfl
  · intro a d wt t ho hz hk hL
    obtain ⟨k1,k7,k6,k4⟩:=hk
    have e:=S.kind a ho.1
    have hT:=S.turn (kd a) d ho.2
    rw [← e] at hT
    obtain ⟨q',t',ht',f⟩:=hL ⟨ho.1,dirT_ok ho.2⟩
    refine ⟨q'+1,((π a,δ d,wt)::t'.1,t'.2),by rw [go,if_neg hz,if_neg (by rw [e,swp_1];exact k1),if_neg (by rw [e,swp_7];exact k7),if_neg (by rw [e,swp_6];exact k6),if_neg (by rw [e,swp_45];exact k4),hT,ht',Option.bind_some],?_⟩
    simp only [List.map_cons,f];rfl
end
theorem piF_inj {w h a b:Int} (hw:1≤w∧w≤5) (hh:1≤h∧h≤5) (ha:0≤a∧a < w*h) (hb:0≤b∧b < w*h) (e:piF w a=piF w b):a=b:=by
  unfold piF at e
  have c:w=1∨w=2∨w=3∨w=4∨w=5:=by omega
  rcases c with rfl | rfl | rfl | rfl | rfl<;>omega
theorem piT_inj {w h a b:Int} (hw:1≤w∧w≤5) (hh:1≤h∧h≤5) (ha:0≤a∧a < w*h) (hb:0≤b∧b < w*h) (e:piT w h a=piT w h b):a=b:=by
  unfold piT at e
  have c:w=1∨w=2∨w=3∨w=4∨w=5:=by omega
  have c':h=1∨h=2∨h=3∨h=4∨h=5:=by omega
  rcases c with rfl | rfl | rfl | rfl | rfl<;>rcases c' with rfl | rfl | rfl | rfl | rfl<;>omega
end Go.Proofs.YtgmkdjjcleobhaaGreat.Tr
namespace Go.Proofs.YtgmkdjjcleobhaaGreat.Id
open Go.Id
open Go.Proofs
section
variable {g g':Gd} {π δ σ:Int→Int} (S:Same g g' π δ σ)
include S
theorem Same.visits {k:Int} (hk:0≤k∧k < Id.many g):(Id.trail g' (σ k)).1=(Id.trail g k).1.map (Tr.mv π δ):=by
  obtain ⟨r,hr⟩:=sightRay_ex S.ok hk
  have hr':=S.ray k r hk hr
  obtain ⟨t1,_⟩:=trail_ok g k
  obtain ⟨u1,_⟩:=trail_ok g' (σ k)
  unfold IsTrail at t1 u1
  rw [hr] at t1
  rw [hr'] at u1
  obtain ⟨q,hq⟩:=t1
  obtain ⟨q',hq'⟩:=u1
  obtain ⟨_,o1,o2⟩:=sightRay_ok hr
  obtain ⟨g1,g2,g3,g4,g5,g6⟩:=gOk_iff.1 S.ok
  obtain ⟨q2,t2,h2,e2⟩:=Tr.go_mapV (w:=g.w) g1 g5 S.sym q _ _ _ _ ⟨o1,o2⟩ hq
  have e1:=Tr.go_le (Nat.le_max_left q' q2) hq'
  have e3:=Tr.go_le (Nat.le_max_right q' q2) h2
  have:=Option.some.inj (e1.symm.trans e3)
  rw [this,e2]
theorem Same.footLen (inj:∀ a b,0≤a∧a < (g.cs.length:Int)→0≤b∧b < (g.cs.length:Int)→π a=π b→a=b) {k:Int} (hk:0≤k∧k < Id.many g):(footG g' (σ k)).length=(footG g k).length:=by
  have rng:∀ x∈footG g k,0≤x∧x < (g.cs.length:Int):=fun x hx=>(footL_mem.1 hx).1
  have nd:(footG g k).Nodup:=(footL_lt _ _).imp fun h=>by omega
  have nd':(footG g' (σ k)).Nodup:=(footL_lt _ _).imp fun h=>by omega
  have ndm:((footG g k).map π).Nodup:=by
    unfold List.Nodup
    rw [List.pairwise_map]
    refine List.Pairwise.imp_of_mem (fun {a b} ha hb hne e=>hne (inj a b (rng a ha) (rng b hb) e)) nd
  have hmem:∀ x,x∈footG g' (σ k)↔x∈(footG g k).map π:=fun x=>by
    rw [foot_mem,S.visits hk,List.mem_map]
    constructor
    · rintro ⟨v,hv,rfl⟩
      obtain ⟨u,hu,rfl⟩:=List.mem_map.1 hv
      exact ⟨u.1,foot_mem.2 ⟨u,hu,rfl⟩,rfl⟩
    · rintro ⟨y,hy,rfl⟩
      obtain ⟨u,hu,rfl⟩:=foot_mem.1 hy
      exact ⟨_,List.mem_map.2 ⟨u,hu,rfl⟩,rfl⟩
  have:=((List.perm_ext_iff_of_nodup nd' ndm).2 hmem).length_eq
  rw [this,List.length_map]
end
theorem turn_foot {g:Gd} (hg:gOk g=true) {k:Int} (hk:0≤k∧k < many g):(footG (turnG g) (Tr.siT g.w g.hi k)).length=(footG g k).length:=by
  obtain ⟨h1,h2,h3⟩:=hi_ok hg
  obtain ⟨g1,g2,_⟩:=gOk_iff.1 hg
  exact (turn_same hg).footLen (fun a b ha hb e=>Tr.piT_inj ⟨g1,g2⟩ ⟨h1,h2⟩ (by rw [h3];exact ha) (by rw [h3];exact hb) e) hk
theorem flip_foot {g:Gd} (hg:gOk g=true) {k:Int} (hk:0≤k∧k < many g):(footG (flipG g) (Tr.siF g.w g.hi k)).length=(footG g k).length:=by
  obtain ⟨h1,h2,h3⟩:=hi_ok hg
  obtain ⟨g1,g2,_⟩:=gOk_iff.1 hg
  exact (flip_same hg).footLen (fun a b ha hb e=>Tr.piF_inj ⟨g1,g2⟩ ⟨h1,h2⟩ (by rw [h3];exact ha) (by rw [h3];exact hb) e) hk
end Go.Proofs.YtgmkdjjcleobhaaGreat.Id
namespace Go.Proofs.YtgmkdjjcleobhaaGreat.Id
open Go.Id
open Go.Proofs
set_option linter.unusedVariables false
set_option maxRecDepth 100000
variable {X:Ctx Tryz.prog} {lo:Nat}
def tyV (a b:Int):Value:=if a=7 then .iface 230 (.agg #[.int .i64 b]) else .iface (if a=0 then 231 else if a=1 then 232 else if a=2 then 233 else if a=3 then 234 else if a=4 then 235 else if a=5 then 236 else 237) (.agg #[])
theorem cellTyped_v (a b:Int) (hc:cOk (a,b)=true) (h:Hp):Tri X lo 127 [.agg #[.int .i64 a,.int .i64 b]] h fun v h'=>v = .tuple #[tyV a b,.bool true]∧Ext h h':=by
  refine enter tbOk mtOk ⟨[],[(2,[0,1,2,3,4,5,6,7,8,9,10,11,12,13],[0,1,3,7,0,16,48,112,240,496,1008,2032,255,8191])]⟩ 400 Tryz.func127 rfl rfl rfl fun hlo => ?_
  unfold cOk at hc
  simp only at hc
  refine cnd (fun c1 => ?_) (fun c1 => ?_)
  · refine And.intro (by kernel_rfl) ?_
    have c1:a=7:=by simpa using c1
    subst c1
    simp at hc
    refine cnd (fun c2 => ?_) (fun c2=>absurd c2 (by simp [hc.1]))
    have hh:decide (b≤9)=true:=decide_eq_true hc.2
    refine And.intro ?_ (Ext.refl _)
    show Value.tuple #[.iface 230 (.agg #[.int .i64 b]),.bool (decide (b≤9))]=_
    rw [hh];rfl
  · have c1:a≠7:=by simpa using c1
    rw [if_neg c1] at hc
    simp at hc
    obtain ⟨⟨h0,h6⟩,rfl⟩:=hc
    refine cnd (fun c2=>absurd c2 (by simp;omega)) (fun c2 => ?_)
    refine cnd (fun c3=>absurd c3 (by simp;omega)) (fun c3 => ?_)
    refine cnd (fun c4=>absurd c4 (by simp)) (fun c4 => ?_)
    refine And.intro ⟨h0,by omega⟩ ?_
    have hc:a=0∨a=1∨a=2∨a=3∨a=4∨a=5∨a=6:=by omega
    rcases hc with rfl | rfl | rfl | rfl | rfl | rfl | rfl<;>exact And.intro rfl (Ext.refl _)
theorem kind0_ok (h:Hp):Tri X lo 232 [.agg #[]] h fun v h'=>v = .int .i64 0∧Ext h h':=by
  refine enter tbOk mtOk ⟨[],[]⟩ 400 Tryz.func232 rfl rfl rfl fun hlo => ?_
  exact And.intro rfl (Ext.refl _)
theorem kind1_ok (h:Hp):Tri X lo 233 [.agg #[]] h fun v h'=>v = .int .i64 1∧Ext h h':=by
  refine enter tbOk mtOk ⟨[],[]⟩ 400 Tryz.func233 rfl rfl rfl fun hlo => ?_
  exact And.intro rfl (Ext.refl _)
theorem kind6_ok (h:Hp):Tri X lo 238 [.agg #[]] h fun v h'=>v = .int .i64 6∧Ext h h':=by
  refine enter tbOk mtOk ⟨[],[]⟩ 400 Tryz.func238 rfl rfl rfl fun hlo => ?_
  exact And.intro rfl (Ext.refl _)
theorem cellSwapped_ok (c:Cl) (hc:cOk c=true) (h:Hp):Tri X lo 128 [tyV c.1 c.2] h fun v h'=>v = .agg #[.int .i64 (swpC c).1,.int .i64 (swpC c).2]∧Ext h h':=by
  obtain ⟨a,b⟩:=c
  have ha:(0≤a∧a≤7)∧(a≠7→b=0):=by
    unfold cOk at hc
    simp only at hc
    split at hc
    · omega
    · simp at hc;omega
  have hk:a=0∨a=1∨a=2∨a=3∨a=4∨a=5∨a=6∨a=7:=by omega
  obtain ⟨_,hb⟩:=ha
  rcases hk with rfl | rfl | rfl | rfl | rfl | rfl | rfl | rfl
  · refine enter tbOk mtOk ⟨[],[]⟩ 400 Tryz.func128 rfl rfl rfl fun hlo => ?_
    refine cndF ?_
    refine cndF ?_
    refine cndF ?_
    refine cndF ?_
    refine cndF ?_
    refine callP (kind0_ok h) ?_
    rintro v h' ⟨rfl,e⟩
    obtain rfl:=hb (by decide)
    exact And.intro rfl e
  · refine enter tbOk mtOk ⟨[],[]⟩ 400 Tryz.func128 rfl rfl rfl fun hlo => ?_
    refine cndF ?_
    refine cndF ?_
    refine cndF ?_
    refine cndF ?_
    refine cndF ?_
    refine callP (kind1_ok h) ?_
    rintro v h' ⟨rfl,e⟩
    obtain rfl:=hb (by decide)
    exact And.intro rfl e
  · refine enter tbOk mtOk ⟨[],[]⟩ 400 Tryz.func128 rfl rfl rfl fun hlo => ?_
    refine cndT ?_
    obtain rfl:=hb (by decide)
    exact And.intro rfl (Ext.refl _)
  · refine enter tbOk mtOk ⟨[],[]⟩ 400 Tryz.func128 rfl rfl rfl fun hlo => ?_
    refine cndF ?_
    refine cndT ?_
    obtain rfl:=hb (by decide)
    exact And.intro rfl (Ext.refl _)
  · refine enter tbOk mtOk ⟨[],[]⟩ 400 Tryz.func128 rfl rfl rfl fun hlo => ?_
    refine cndF ?_
    refine cndF ?_
    refine cndT ?_
    obtain rfl:=hb (by decide)
    exact And.intro rfl (Ext.refl _)
  · refine enter tbOk mtOk ⟨[],[]⟩ 400 Tryz.func128 rfl rfl rfl fun hlo => ?_
    refine cndF ?_
    refine cndF ?_
    refine cndF ?_
    refine cndT ?_
    obtain rfl:=hb (by decide)
    exact And.intro rfl (Ext.refl _)
  · refine enter tbOk mtOk ⟨[],[]⟩ 400 Tryz.func128 rfl rfl rfl fun hlo => ?_
    refine cndF ?_
    refine cndF ?_
    refine cndF ?_
    refine cndF ?_
    refine cndF ?_
    refine callP (kind6_ok h) ?_
    rintro v h' ⟨rfl,e⟩
    obtain rfl:=hb (by decide)
    exact And.intro rfl e
  · refine enter tbOk mtOk ⟨[],[]⟩ 400 Tryz.func128 rfl rfl rfl fun hlo => ?_
    refine cndF ?_
    refine cndF ?_
    refine cndF ?_
    refine cndF ?_
    refine cndT ?_
    exact And.intro rfl (Ext.refl _)
end Go.Proofs.YtgmkdjjcleobhaaGreat.Id
namespace Go.Proofs.YtgmkdjjcleobhaaGreat.Id
open Go.Id
open Go.Proofs
set_option linter.unusedVariables false
set_option maxRecDepth 100000
variable {X:Ctx Tryz.prog} {lo:Nat}
def fillI (F:Nat→Cl) (n i:Nat):List Cl:=(List.range n).map fun j=>if j < i then F j else (0,0)
theorem fillI_len (F:Nat→Cl) (n i:Nat):(fillI F n i).length=n:=by simp [fillI]
theorem fillI_zero (F:Nat→Cl) (n:Nat):fillI F n 0=List.replicate n (0,0):=by
  apply List.ext_getElem (by simp [fillI])
  intro i h1 h2
  simp [fillI]
theorem fillI_all (F:Nat→Cl) (n:Nat):fillI F n n=(List.range n).map F:=by
  apply List.ext_getElem (by simp [fillI])
  intro i h1 h2
  have:i < n:=by simpa [fillI] using h1
  simp [fillI,this]
theorem fillI_set (F:Nat→Cl) {n i:Nat} (hi:i < n):(fillI F n i).set i (F i)=fillI F n (i+1):=by
  apply List.ext_getElem (by simp [fillI])
  intro j h1 h2
  rw [List.getElem_set]
  by_cases c:i=j
  · subst c;simp [fillI]
  · simp only [fillI,if_neg c,List.getElem_map,List.getElem_range]
    by_cases c2:j < i
    · rw [if_pos c2,if_pos (by omega)]
    · rw [if_neg c2,if_neg (by omega)]
theorem turn1_ok (g:Gd) (ad:Option Addr) (fl p q:Nat) (r c:Int) (h:Hp) (hp:Bx h p [.int .i64 g.hi]) (hq:Bx h q [.int .i64 g.w,.slice ad g.cs.length fl]) (hg:gOk g=true) (hr:0≤r∧r < g.w) (hc:0≤c∧c < g.hi):Tri X lo 65 [.int .i64 r,.int .i64 c,.pointer (some ⟨p,0,none⟩),.pointer (some ⟨q,0,none⟩)] h fun v h'=>v = .int .i64 (turnFrom g r c)∧Ext h h':=by
  refine enter tbOk mtOk ⟨[],[]⟩ 400 Tryz.func65 rfl rfl rfl fun hlo => ?_
  refine ⟨_,hp.ld rfl,?_⟩
  refine ⟨_,hq.ldF (i:=0) rfl,?_⟩
  refine And.intro ?_ (Ext.refl _)
  obtain ⟨h1,h2,h3⟩:=hi_ok hg
  obtain ⟨g1,g2,_⟩:=gOk_iff.1 hg
  have m1:0≤(g.hi - 1 - c)*g.w:=Int.mul_nonneg (by omega) (by omega)
  have m2:(g.hi - 1 - c)*g.w≤5*5:=Int.mul_le_mul (by omega) g2 (by omega) (by decide)
  show Value.int .i64 (IntKind.i64.wrap (IntKind.i64.wrap (IntKind.i64.wrap (IntKind.i64.wrap (g.hi - 1) - c)*g.w)+r))=_
  rw [wr (n:=g.hi - 1) (by omega) (by omega),wr (n:=g.hi - 1 - c) (by omega) (by omega),wr (n:=(g.hi - 1 - c)*g.w) (by omega) (by omega),wr (by omega) (by omega)];rfl
theorem flip1_ok (g:Gd) (ad:Option Addr) (fl q:Nat) (r c:Int) (h:Hp) (hq:Bx h q [.int .i64 g.w,.slice ad g.cs.length fl]) (hg:gOk g=true) (hr:0≤r∧r < g.hi) (hc:0≤c∧c < g.w):Tri X lo 66 [.int .i64 r,.int .i64 c,.pointer (some ⟨q,0,none⟩)] h fun v h'=>v = .int .i64 (flipFrom g r c)∧Ext h h':=by
  refine enter tbOk mtOk ⟨[],[]⟩ 400 Tryz.func66 rfl rfl rfl fun hlo => ?_
  refine ⟨_,hq.ldF (i:=0) rfl,?_⟩
  refine ⟨_,hq.ldF (i:=0) rfl,?_⟩
  refine And.intro ?_ (Ext.refl _)
  obtain ⟨h1,h2,h3⟩:=hi_ok hg
  obtain ⟨g1,g2,_⟩:=gOk_iff.1 hg
  have m1:0≤r*g.w:=Int.mul_nonneg (by omega) (by omega)
  have m2:r*g.w≤5*5:=Int.mul_le_mul (by omega) g2 (by omega) (by decide)
  show Value.int .i64 (IntKind.i64.wrap (IntKind.i64.wrap (IntKind.i64.wrap (IntKind.i64.wrap (r*g.w)+g.w) - 1) - c))=_
  rw [wr (n:=r*g.w) (by omega) (by omega),wr (n:=r*g.w+g.w) (by omega) (by omega),wr (n:=r*g.w+g.w - 1) (by omega) (by omega),wr (by omega) (by omega)];rfl
theorem gridMovedT_ok (g:Gd) (ad:Option Addr) (fl p q:Nat) (h:Hp) (hs:Sls h cE 2 ad g.cs) (hp:Bx h p [.int .i64 g.hi]) (hq:Bx h q [.int .i64 g.w,.slice ad g.cs.length fl]) (hg:gOk g=true):Tri X lo 64 [.agg #[.int .i64 g.w,.slice ad g.cs.length fl],.int .i64 g.hi,.func (.func 65) #[] #[.pointer (some ⟨p,0,none⟩),.pointer (some ⟨q,0,none⟩)]] h fun v h'=>(∃ b,v = .agg #[.int .i64 g.hi,.slice (some ⟨b,0,some 0⟩) g.cs.length 1]∧h.n≤b∧Row h' b 0 cE 2 (turnG g).cs)∧Ext h h':=by
  refine enter tbOk mtOk ⟨[],[(5,[0,1,2,3,4,5,6,7,8,9,10,11,12,13,14,15,16,17],[0,1,0,0,0,24,0,0,192,508,1023,2047,4095,8191,16383,16383,32767,131071]),(7,[0,1,2,3,4,5,6],[0,1,0,0,8,31,63])]⟩ 400 Tryz.func64 rfl rfl rfl fun hlo => ?_
  obtain ⟨x1,x2,x3⟩:=hi_ok hg
  obtain ⟨g1,g2,g3,g4,g5,g6⟩:=gOk_iff.1 hg
  have hn:(g.cs.length:Int) < 2 ^ 31:=by omega
  obtain ⟨F,hF⟩:∃ F:Nat→Cl,F=fun (i:Nat)=>swpC (cAt g (turnFrom g ((i:Int) / g.hi) ((i:Int) % g.hi))):=⟨_,rfl⟩
  have hT:(turnG g).cs=(List.range g.cs.length).map F:=by rw [hF];rfl
  refine And.intro ⟨by omega,by omega,by unfold Id.maxLen;omega⟩ ?_
  have e0:Ext h (h.push (.cells (zeros [.int .i64 0,.int .i64 0] g.cs.length) 2 0)):=Ext.push _ _
  have r0:Row (h.push (.cells (zeros [.int .i64 0,.int .i64 0] g.cs.length) 2 0)) h.n 0 cE 2 (fillI F g.cs.length 0):=by
    rw [fillI_zero,zeros_flat (enc:=cE) (z:=[.int .i64 0,.int .i64 0]) (x:=((0,0):Cl)) rfl g.cs.length];exact Row.push
  refine loop (σ:=Nat) tbOk mtOk ⟨[],[(5,[0,1,2,3,4,5,6,7,8,9,10,11,12,13,14,15,16,17],[0,1,0,0,0,24,0,0,192,508,1023,2047,4095,8191,16383,16383,32767,131071]),(7,[0,1,2,3,4,5,6],[0,1,0,0,8,31,63])]⟩ (fun i=>[(20,.v (.int .i64 (i:Int))),(19,.v (.int .i64 (g.cs.length:Int))),(7,.l 2 0),(6,.l 1 0),(3,.l 0 0),(2,.v (.func (.func 65) #[] #[.pointer (some ⟨p,0,none⟩),.pointer (some ⟨q,0,none⟩)])),(1,.v (.int .i64 g.hi))]) (fun _=>[[.int .i64 g.w,.slice ad g.cs.length fl],[.int .i64 0,.slice none 0 0],[.int .i64 g.hi,.slice (some ⟨h.n,0,some 0⟩) g.cs.length 1]]) (fun i h'=>i≤g.cs.length∧Ext h h'∧Row h' h.n 0 cE 2 (fillI F g.cs.length i)) (fun i=>g.cs.length - i) 400 0 (fun _=>rfl) ⟨rfl,rfl,rfl,rfl,rfl,rfl,rfl,trivial⟩ ⟨rfl,rfl,rfl,trivial⟩ ⟨Nat.zero_le _,e0,r0⟩ (fun i h1 hI again => ?_)
  obtain ⟨i1,i2,i3⟩:=hI
  refine cnd (fun c1 => ?_) (fun c1 => ?_)
  · have c1:i < g.cs.length:=by simpa using c1
    have q1:(i:Int).tdiv g.hi=(i:Int) / g.hi:=Int.tdiv_eq_ediv_of_nonneg (by omega)
    have q2:(i:Int).tmod g.hi=(i:Int) % g.hi:=Int.tmod_eq_emod_of_nonneg (by omega)
    have b0:=Int.emod_nonneg (i:Int) (show g.hi≠0 by omega)
    have b1:=Int.emod_lt_of_pos (i:Int) (show 0 < g.hi by omega)
    have b2:0≤(i:Int) / g.hi:=Int.ediv_nonneg (by omega) (by omega)
    have b3:(i:Int) / g.hi < g.w:=Int.ediv_lt_of_lt_mul (by omega) (by rw [x3];omega)
    have iw1:IntKind.i64.wrap ((i:Int).tdiv g.hi)=(i:Int) / g.hi:=by rw [q1,wr (by omega) (by omega)]
    have iw2:IntKind.i64.wrap ((i:Int).tmod g.hi)=(i:Int) % g.hi:=by rw [q2,wr (by omega) (by omega)]
    obtain ⟨f0,f1⟩:=turnFrom_in hg (i:=(i:Int)) ⟨by omega,by omega⟩
    have ct:∀ h2,Ext h h2→Tri X lo 65 [.int .i64 (IntKind.i64.wrap ((i:Int).tdiv g.hi)),.int .i64 ((i:Int).tmod g.hi),.pointer (some ⟨p,0,none⟩),.pointer (some ⟨q,0,none⟩)] h2 fun v h'=>v = .int .i64 (turnFrom g ((i:Int) / g.hi) ((i:Int) % g.hi))∧Ext h2 h':=fun h2 x=>by
      rw [iw1,q2];exact turn1_ok g ad fl p q _ _ h2 (hp.ext x) (hq.ext x) hg ⟨b2,b3⟩ ⟨b0,b1⟩
    have hFi:F i=swpC (cAt g (turnFrom g ((i:Int) / g.hi) ((i:Int) % g.hi))):=by rw [hF]
    generalize turnFrom g ((i:Int) / g.hi) ((i:Int) % g.hi)=m at *
    have hm:m.toNat < g.cs.length:=by omega
    obtain ⟨ad,rfl⟩:=hs.some hm
    have hcat:cAt g m=g.cs[m.toNat]:=by unfold cAt;rw [List.getElem?_eq_getElem hm];rfl
    rw [hcat] at hFi
    have hok:=g6 _ (List.getElem_mem hm)
    have hld:=fun {h':Hp} (x:Ext h h')=>(hs.ext x).ld cE2 hm
    generalize g.cs[m.toNat]=c at *
    refine And.intro (by kernel_rfl) ?_
    refine And.intro (by omega) ?_
    refine And.intro (by omega) ?_
    refine callP (ct h1 i2) ?_
    rintro v h2 ⟨rfl,e2⟩
    repeat refine And.intro Is.r ?_
    refine And.intro ⟨f0,f1⟩ ?_
    refine ⟨_,hld (i2.trans e2),?_⟩
    have cv:Tri X lo 127 [.agg #[.int .i64 c.1,.int .i64 c.2]] h2 _:=cellTyped_v c.1 c.2 hok h2
    have cw:=fun (h':Hp)=>cellSwapped_ok (X:=X) (lo:=lo) c hok h'
    generalize tyV c.1 c.2=tv at cv cw
    refine callP cv ?_
    rintro v h3 ⟨rfl,e3⟩
    refine cndT ?_
    refine And.intro (by kernel_rfl) ?_
    refine callP (cw h3) ?_
    rintro v h4 ⟨rfl,e4⟩
    repeat refine And.intro Is.r ?_
    refine And.intro ⟨by omega,by omega⟩ ?_
    have e14:=(e2.trans e3).trans e4
    have r4:=i3.ext e14
    have hil:i < (fillI F g.cs.length i).length:=by rw [fillI_len];exact c1
    have hs4:=r4.st (lo:=lo) cE2 hlo hil (swpC c)
    rw [← hFi,fillI_set F c1] at hs4
    rw [hFi] at hs4
    refine ⟨_,hs4,?_⟩
    have r5:Row (h4.set h.n (.cells ((fillI F g.cs.length (i+1)).flatMap cE) 2 0)) h.n 0 cE 2 (fillI F g.cs.length (i+1)):=Row.set r4.lt
    have e5:=(i2.trans e14).set (Nat.le_refl _) (.cells ((fillI F g.cs.length (i+1)).flatMap cE) 2 0)
    generalize h4.set h.n (.cells ((fillI F g.cs.length (i+1)).flatMap cE) 2 0)=h5 at *
    refine again (i+1) _ _ _ (by omega) ⟨?_,rfl,rfl,rfl,rfl,rfl,rfl,trivial⟩ ⟨rfl,rfl,rfl,trivial⟩ ⟨by omega,e5,r5⟩
    show some (Sl.v (.int .i64 (IntKind.i64.wrap ((i:Int)+1))))=_
    rw [wr (by omega) (by omega)];rfl
  · refine And.intro ⟨h.n,rfl,Nat.le_refl _,?_⟩ i2
    have c1:i=g.cs.length:=by simp at c1;omega
    rw [hT,← fillI_all,← c1];rw [← c1] at i3;exact i3
theorem gridMovedF_ok (g:Gd) (ad:Option Addr) (fl p q:Nat) (h:Hp) (hs:Sls h cE 2 ad g.cs) (hq:Bx h q [.int .i64 g.w,.slice ad g.cs.length fl]) (hg:gOk g=true):Tri X lo 64 [.agg #[.int .i64 g.w,.slice ad g.cs.length fl],.int .i64 g.w,.func (.func 66) #[] #[.pointer (some ⟨q,0,none⟩)]] h fun v h'=>(∃ b,v = .agg #[.int .i64 g.w,.slice (some ⟨b,0,some 0⟩) g.cs.length 1]∧h.n≤b∧Row h' b 0 cE 2 (flipG g).cs)∧Ext h h':=by
  refine enter tbOk mtOk ⟨[],[(5,[0,1,2,3,4,5,6,7,8,9,10,11,12,13,14,15,16,17],[0,1,0,0,0,24,0,0,192,508,1023,2047,4095,8191,16383,16383,32767,131071]),(7,[0,1,2,3,4,5,6],[0,1,0,0,8,31,63])]⟩ 400 Tryz.func64 rfl rfl rfl fun hlo => ?_
  obtain ⟨x1,x2,x3⟩:=hi_ok hg
  obtain ⟨g1,g2,g3,g4,g5,g6⟩:=gOk_iff.1 hg
  have hn:(g.cs.length:Int) < 2 ^ 31:=by omega
  obtain ⟨F,hF⟩:∃ F:Nat→Cl,F=fun (i:Nat)=>swpC (cAt g (flipFrom g ((i:Int) / g.w) ((i:Int) % g.w))):=⟨_,rfl⟩
  have hT:(flipG g).cs=(List.range g.cs.length).map F:=by rw [hF];rfl
  refine And.intro ⟨by omega,by omega,by unfold Id.maxLen;omega⟩ ?_
  have e0:Ext h (h.push (.cells (zeros [.int .i64 0,.int .i64 0] g.cs.length) 2 0)):=Ext.push _ _
  have r0:Row (h.push (.cells (zeros [.int .i64 0,.int .i64 0] g.cs.length) 2 0)) h.n 0 cE 2 (fillI F g.cs.length 0):=by
    rw [fillI_zero,zeros_flat (enc:=cE) (z:=[.int .i64 0,.int .i64 0]) (x:=((0,0):Cl)) rfl g.cs.length];exact Row.push
  refine loop (σ:=Nat) tbOk mtOk ⟨[],[(5,[0,1,2,3,4,5,6,7,8,9,10,11,12,13,14,15,16,17],[0,1,0,0,0,24,0,0,192,508,1023,2047,4095,8191,16383,16383,32767,131071]),(7,[0,1,2,3,4,5,6],[0,1,0,0,8,31,63])]⟩ (fun i=>[(20,.v (.int .i64 (i:Int))),(19,.v (.int .i64 (g.cs.length:Int))),(7,.l 2 0),(6,.l 1 0),(3,.l 0 0),(2,.v (.func (.func 66) #[] #[.pointer (some ⟨q,0,none⟩)])),(1,.v (.int .i64 g.w))]) (fun _=>[[.int .i64 g.w,.slice ad g.cs.length fl],[.int .i64 0,.slice none 0 0],[.int .i64 g.w,.slice (some ⟨h.n,0,some 0⟩) g.cs.length 1]]) (fun i h'=>i≤g.cs.length∧Ext h h'∧Row h' h.n 0 cE 2 (fillI F g.cs.length i)) (fun i=>g.cs.length - i) 400 0 (fun _=>rfl) ⟨rfl,rfl,rfl,rfl,rfl,rfl,rfl,trivial⟩ ⟨rfl,rfl,rfl,trivial⟩ ⟨Nat.zero_le _,e0,r0⟩ (fun i h1 hI again => ?_)
  obtain ⟨i1,i2,i3⟩:=hI
  refine cnd (fun c1 => ?_) (fun c1 => ?_)
  · have c1:i < g.cs.length:=by simpa using c1
    have q1:(i:Int).tdiv g.w=(i:Int) / g.w:=Int.tdiv_eq_ediv_of_nonneg (by omega)
    have q2:(i:Int).tmod g.w=(i:Int) % g.w:=Int.tmod_eq_emod_of_nonneg (by omega)
    have b0:=Int.emod_nonneg (i:Int) (show g.w≠0 by omega)
    have b1:=Int.emod_lt_of_pos (i:Int) (show 0 < g.w by omega)
    have b2:0≤(i:Int) / g.w:=Int.ediv_nonneg (by omega) (by omega)
    have b3:(i:Int) / g.w < g.hi:=Int.ediv_lt_of_lt_mul (by omega) (by rw [Int.mul_comm,x3];omega)
    have iw1:IntKind.i64.wrap ((i:Int).tdiv g.w)=(i:Int) / g.w:=by rw [q1,wr (by omega) (by omega)]
    have iw2:IntKind.i64.wrap ((i:Int).tmod g.w)=(i:Int) % g.w:=by rw [q2,wr (by omega) (by omega)]
    obtain ⟨f0,f1⟩:=flipFrom_in hg (i:=(i:Int)) ⟨by omega,by omega⟩
    have ct:∀ h2,Ext h h2→Tri X lo 66 [.int .i64 (IntKind.i64.wrap ((i:Int).tdiv g.w)),.int .i64 ((i:Int).tmod g.w),.pointer (some ⟨q,0,none⟩)] h2 fun v h'=>v = .int .i64 (flipFrom g ((i:Int) / g.w) ((i:Int) % g.w))∧Ext h2 h':=fun h2 x=>by
      rw [iw1,q2];exact flip1_ok g ad fl q _ _ h2 (hq.ext x) hg ⟨b2,b3⟩ ⟨b0,b1⟩
    have hFi:F i=swpC (cAt g (flipFrom g ((i:Int) / g.w) ((i:Int) % g.w))):=by rw [hF]
    generalize flipFrom g ((i:Int) / g.w) ((i:Int) % g.w)=m at *
    have hm:m.toNat < g.cs.length:=by omega
    obtain ⟨ad,rfl⟩:=hs.some hm
    have hcat:cAt g m=g.cs[m.toNat]:=by unfold cAt;rw [List.getElem?_eq_getElem hm];rfl
    rw [hcat] at hFi
    have hok:=g6 _ (List.getElem_mem hm)
    have hld:=fun {h':Hp} (x:Ext h h')=>(hs.ext x).ld cE2 hm
    generalize g.cs[m.toNat]=c at *
    refine And.intro (by kernel_rfl) ?_
    refine And.intro (by omega) ?_
    refine And.intro (by omega) ?_
    refine callP (ct h1 i2) ?_
    rintro v h2 ⟨rfl,e2⟩
    repeat refine And.intro Is.r ?_
    refine And.intro ⟨f0,f1⟩ ?_
    refine ⟨_,hld (i2.trans e2),?_⟩
    have cv:Tri X lo 127 [.agg #[.int .i64 c.1,.int .i64 c.2]] h2 _:=cellTyped_v c.1 c.2 hok h2
    have cw:=fun (h':Hp)=>cellSwapped_ok (X:=X) (lo:=lo) c hok h'
    generalize tyV c.1 c.2=tv at cv cw
    refine callP cv ?_
    rintro v h3 ⟨rfl,e3⟩
    refine cndT ?_
    refine And.intro (by kernel_rfl) ?_
    refine callP (cw h3) ?_
    rintro v h4 ⟨rfl,e4⟩
    repeat refine And.intro Is.r ?_
    refine And.intro ⟨by omega,by omega⟩ ?_
    have e14:=(e2.trans e3).trans e4
    have r4:=i3.ext e14
    have hil:i < (fillI F g.cs.length i).length:=by rw [fillI_len];exact c1
    have hs4:=r4.st (lo:=lo) cE2 hlo hil (swpC c)
    rw [← hFi,fillI_set F c1] at hs4
    rw [hFi] at hs4
    refine ⟨_,hs4,?_⟩
    have r5:Row (h4.set h.n (.cells ((fillI F g.cs.length (i+1)).flatMap cE) 2 0)) h.n 0 cE 2 (fillI F g.cs.length (i+1)):=Row.set r4.lt
    have e5:=(i2.trans e14).set (Nat.le_refl _) (.cells ((fillI F g.cs.length (i+1)).flatMap cE) 2 0)
    generalize h4.set h.n (.cells ((fillI F g.cs.length (i+1)).flatMap cE) 2 0)=h5 at *
    refine again (i+1) _ _ _ (by omega) ⟨?_,rfl,rfl,rfl,rfl,rfl,rfl,trivial⟩ ⟨rfl,rfl,rfl,trivial⟩ ⟨by omega,e5,r5⟩
    show some (Sl.v (.int .i64 (IntKind.i64.wrap ((i:Int)+1))))=_
    rw [wr (by omega) (by omega)];rfl
  · refine And.intro ⟨h.n,rfl,Nat.le_refl _,?_⟩ i2
    have c1:i=g.cs.length:=by simp at c1;omega
    rw [hT,← fillI_all,← c1];rw [← c1] at i3;exact i3
noncomputable def turnG' (g:Gd):Gd:=if gOk g then turnG g else ⟨0,[]⟩
theorem GridTurn_ok (g:Gd) (ad:Option Addr) (fl:Nat) (h:Hp) (hs:Sls h cE 2 ad g.cs) (hn:(g.cs.length:Int) < 2 ^ 31):Tri X lo 19 [.agg #[.int .i64 g.w,.slice ad g.cs.length fl]] h fun v h'=>(∃ a f,v = .agg #[.int .i64 (turnG' g).w,.slice a (turnG' g).cs.length f]∧Sls h' cE 2 a (turnG' g).cs∧∀ x,a=some x→h.n≤x.block)∧Ext h h':=by
  refine enter tbOk mtOk ⟨[1,3],[]⟩ 400 Tryz.func19 rfl rfl rfl fun hlo => ?_
  have e0:Ext h (h.push (.cells [.int .i64 g.w,.slice ad g.cs.length fl] 0 0)):=Ext.push _ _
  have b0:Bx (h.push (.cells [.int .i64 g.w,.slice ad g.cs.length fl] 0 0)) h.n [.int .i64 g.w,.slice ad g.cs.length fl]:=Bx.push
  refine ⟨_,b0.ld rfl,?_⟩
  have n0:(h.push (.cells [.int .i64 g.w,.slice ad g.cs.length fl] 0 0)).n=h.n+1:=rfl
  refine callP (GridOk_ok g.w ad fl g.cs (h.push (.cells [.int .i64 g.w,.slice ad g.cs.length fl] 0 0)) (hs.ext e0) hn) ?_
  generalize h.push (.cells [.int .i64 g.w,.slice ad g.cs.length fl] 0 0)=h0 at *
  rintro v h1 ⟨rfl,e1⟩
  refine cnd (fun c1 => ?_) (fun c1 => ?_)
  · have hg:gOk g=false:=by simpa using c1
    have ht:turnG' g=⟨0,[]⟩:=by unfold turnG';rw [hg];rfl
    rw [ht]
    exact ⟨⟨none,0,rfl,rfl,fun x hx=>by cases hx⟩,e0.trans e1⟩
  have hg:gOk g=true:=by simpa using c1
  have ht:turnG' g=turnG g:=by unfold turnG';rw [if_pos hg]
  have hl:(turnG g).cs.length=g.cs.length:=movedG_len _ _ _
  obtain ⟨x1,x2,x3⟩:=hi_ok hg
  obtain ⟨g1,g2,g3,g4,g5,g6⟩:=gOk_iff.1 hg
  have b1:=b0.ext e1
  have n1:=e1.n
  refine ⟨_,b1.ld rfl,?_⟩
  refine callP (gridRows_ok g.w ad g.cs.length fl h1 g1 hn) ?_
  rintro v h2 ⟨rfl,e2⟩
  have b2:=b1.ext e2
  have n2:=e2.n
  have e3:Ext h2 (h2.push (.cells [.int .i64 0] 0 0)):=Ext.push _ _
  have b3:Bx (h2.push (.cells [.int .i64 0] 0 0)) h2.n [.int .i64 0]:=Bx.push
  refine ⟨_,b3.st (lo:=lo) (by omega) (xs:=[.int .i64 g.hi]) rfl,?_⟩
  have b4:Bx ((h2.push (.cells [.int .i64 0] 0 0)).set h2.n (.cells [.int .i64 g.hi] 0 0)) h2.n [.int .i64 g.hi]:=Bx.set b3
  have e4:Ext h2 ((h2.push (.cells [.int .i64 0] 0 0)).set h2.n (.cells [.int .i64 g.hi] 0 0)):=e3.set (Nat.le_refl _) _
  generalize (h2.push (.cells [.int .i64 0] 0 0)).set h2.n (.cells [.int .i64 g.hi] 0 0)=h4 at *
  have b5:=b2.ext e4
  have n4:=e4.n
  refine ⟨_,b5.ld rfl,?_⟩
  refine ⟨_,b4.ld rfl,?_⟩
  have e04:=((e0.trans e1).trans e2).trans e4
  refine callP (gridMovedT_ok g ad fl h2.n h.n h4 (hs.ext e04) b4 b5 hg) ?_
  rintro v h5 ⟨⟨b,rfl,w1,w2⟩,e5⟩
  refine And.intro ⟨some ⟨b,0,some 0⟩,1,?_,?_,?_⟩ (e04.trans e5)
  · rw [ht,hl];rfl
  · rw [ht];exact w2.sls cE2
  · intro x hx;cases hx;show h.n≤b;omega
noncomputable def flipG' (g:Gd):Gd:=if gOk g then flipG g else ⟨0,[]⟩
theorem GridFlip_ok (g:Gd) (ad:Option Addr) (fl:Nat) (h:Hp) (hs:Sls h cE 2 ad g.cs) (hn:(g.cs.length:Int) < 2 ^ 31):Tri X lo 20 [.agg #[.int .i64 g.w,.slice ad g.cs.length fl]] h fun v h'=>(∃ a f,v = .agg #[.int .i64 (flipG' g).w,.slice a (flipG' g).cs.length f]∧Sls h' cE 2 a (flipG' g).cs∧∀ x,a=some x→h.n≤x.block)∧Ext h h':=by
  refine enter tbOk mtOk ⟨[1],[]⟩ 400 Tryz.func20 rfl rfl rfl fun hlo => ?_
  have e0:Ext h (h.push (.cells [.int .i64 g.w,.slice ad g.cs.length fl] 0 0)):=Ext.push _ _
  have b0:Bx (h.push (.cells [.int .i64 g.w,.slice ad g.cs.length fl] 0 0)) h.n [.int .i64 g.w,.slice ad g.cs.length fl]:=Bx.push
  refine ⟨_,b0.ld rfl,?_⟩
  have n0:(h.push (.cells [.int .i64 g.w,.slice ad g.cs.length fl] 0 0)).n=h.n+1:=rfl
  refine callP (GridOk_ok g.w ad fl g.cs (h.push (.cells [.int .i64 g.w,.slice ad g.cs.length fl] 0 0)) (hs.ext e0) hn) ?_
  generalize h.push (.cells [.int .i64 g.w,.slice ad g.cs.length fl] 0 0)=h0 at *
  rintro v h1 ⟨rfl,e1⟩
  refine cnd (fun c1 => ?_) (fun c1 => ?_)
  · have hg:gOk g=false:=by simpa using c1
    have ht:flipG' g=⟨0,[]⟩:=by unfold flipG';rw [hg];rfl
    rw [ht]
    exact ⟨⟨none,0,rfl,rfl,fun x hx=>by cases hx⟩,e0.trans e1⟩
  have hg:gOk g=true:=by simpa using c1
  have ht:flipG' g=flipG g:=by unfold flipG';rw [if_pos hg]
  have hl:(flipG g).cs.length=g.cs.length:=movedG_len _ _ _
  obtain ⟨x1,x2,x3⟩:=hi_ok hg
  obtain ⟨g1,g2,g3,g4,g5,g6⟩:=gOk_iff.1 hg
  have b1:=b0.ext e1
  have n1:=e1.n
  refine ⟨_,b1.ld rfl,?_⟩
  refine ⟨_,b1.ldF (i:=0) rfl,?_⟩
  have e01:=e0.trans e1
  refine callP (gridMovedF_ok g ad fl h.n h.n h1 (hs.ext e01) b1 hg) ?_
  rintro v h5 ⟨⟨b,rfl,w1,w2⟩,e5⟩
  refine And.intro ⟨some ⟨b,0,some 0⟩,1,?_,?_,?_⟩ (e01.trans e5)
  · rw [ht,hl];rfl
  · rw [ht];exact w2.sls cE2
  · intro x hx;cases hx;show h.n≤b;omega
theorem SightTurn_ok (g:Gd) (k:Int) (ad:Option Addr) (fl:Nat) (h:Hp) (hs:Sls h cE 2 ad g.cs) (hg:gOk g=true) (hk:0≤k∧k < many g):Tri X lo 21 [.agg #[.int .i64 g.w,.slice ad g.cs.length fl],.int .i64 k] h fun v h'=>v = .int .i64 (Tr.siT g.w g.hi k)∧Ext h h':=by
  refine enter tbOk mtOk ⟨[],[]⟩ 400 Tryz.func21 rfl rfl rfl fun hlo => ?_
  obtain ⟨x1,x2,x3⟩:=hi_ok hg
  obtain ⟨g1,g2,g3,g4,_⟩:=gOk_iff.1 hg
  have hn:(g.cs.length:Int) < 2 ^ 31:=by omega
  have hm:many g=2*(g.w+g.hi):=rfl
  refine callP (SightMany_ok g ad fl h hs hn) ?_
  rw [if_pos hg]
  rintro v h1 ⟨rfl,e1⟩
  refine cnd (fun c1=>absurd (of_decide_eq_true c1) (by omega)) (fun c1 => ?_)
  refine cnd (fun c1=>absurd (of_decide_eq_true c1) (by omega)) (fun c1 => ?_)
  refine callP (gridRows_ok g.w ad g.cs.length fl h1 g1 hn) ?_
  rintro v h2 ⟨rfl,e2⟩
  refine And.intro (by omega) ?_
  refine And.intro ?_ (e1.trans e2)
  show Value.int .i64 ((IntKind.i64.wrap (k+g.hi)).tmod (many g))=_
  rw [wr (by omega) (by omega),Int.tmod_eq_emod_of_nonneg (by omega)];rfl
theorem SightFlip_ok (g:Gd) (k:Int) (ad:Option Addr) (fl:Nat) (h:Hp) (hs:Sls h cE 2 ad g.cs) (hg:gOk g=true) (hk:0≤k∧k < many g):Tri X lo 22 [.agg #[.int .i64 g.w,.slice ad g.cs.length fl],.int .i64 k] h fun v h'=>v = .int .i64 (Tr.siF g.w g.hi k)∧Ext h h':=by
  refine enter tbOk mtOk ⟨[],[]⟩ 400 Tryz.func22 rfl rfl rfl fun hlo => ?_
  obtain ⟨x1,x2,x3⟩:=hi_ok hg
  obtain ⟨g1,g2,g3,g4,_⟩:=gOk_iff.1 hg
  have hn:(g.cs.length:Int) < 2 ^ 31:=by omega
  have hm:many g=2*(g.w+g.hi):=rfl
  refine callP (SightMany_ok g ad fl h hs hn) ?_
  rw [if_pos hg]
  rintro v h1 ⟨rfl,e1⟩
  refine cnd (fun c1=>absurd (of_decide_eq_true c1) (by omega)) (fun c1 => ?_)
  refine cnd (fun c1=>absurd (of_decide_eq_true c1) (by omega)) (fun c1 => ?_)
  refine And.intro (by omega) ?_
  refine And.intro ?_ e1
  show Value.int .i64 ((IntKind.i64.wrap (IntKind.i64.wrap (IntKind.i64.wrap (g.w - 1) - k)+many g)).tmod (many g))=_
  rw [wr (n:=g.w - 1) (by omega) (by omega),wr (n:=g.w - 1 - k) (by omega) (by omega),wr (by omega) (by omega),Int.tmod_eq_emod_of_nonneg (by omega)];rfl
end Go.Proofs.YtgmkdjjcleobhaaGreat.Id
namespace Go.Proofs.YtgmkdjjcleobhaaGreat.Id
open Go.Id Go.Conc Go.Conc.Lib
open Go.Proofs
set_option linter.unusedVariables false
set_option maxRecDepth 100000
variable {N0:Nat→Prop} {lo:Nat}
end Go.Proofs.YtgmkdjjcleobhaaGreat.Id
namespace Go.Proofs.YtgmkdjjcleobhaaGreat.Id
open Go.Id Go.Conc Go.Conc.Lib
open Go.Proofs
set_option linter.unusedVariables false
set_option maxRecDepth 100000
section
variable {N0:Nat→Prop} {lo:Nat}
theorem same_at {g g':Gd} {π δ σ:Int→Int} (S:Same g g' π δ σ) (hf:∀ k:Int,0≤k∧k < many g→(footG g' (σ k)).length=(footG g k).length) {k:Nat} (hk:k < (scG g).li.length) :
    0≤σ k∧σ k < ((scG g').ft.length:Int)∧∃ (h1:(σ k).toNat < (scG g').li.length) (h2:(σ k).toNat < (scG g').ft.length) (h3:k < (scG g).ft.length),(scG g').li[(σ k).toNat]=(scG g).li[k]∧((scG g').ft[(σ k).toNat]).length=((scG g).ft[k]).length:=by
  obtain ⟨l1,l2⟩:=scG_len g
  obtain ⟨m1,m2⟩:=scG_len g'
  rw [S.many] at m1 m2
  have hkm:k < (many g).toNat:=by omega
  have hkI:(0:Int)≤k∧(k:Int) < many g:=by omega
  obtain ⟨s0,s1⟩:=S.sin k hkI
  rw [S.many] at s1
  have hj:(σ k).toNat < (many g').toNat:=by rw [S.many];omega
  have ej:(((σ k).toNat:Nat):Int)=σ k:=by omega
  obtain ⟨u1,u2⟩:=scG_get hkm
  obtain ⟨v1,v2⟩:=scG_get hj
  rw [ej] at v1 v2
  have h1:(σ k).toNat < (scG g').li.length:=by omega
  have h2:(σ k).toNat < (scG g').ft.length:=by omega
  have h3:k < (scG g).ft.length:=by omega
  rw [List.getElem?_eq_getElem (by omega)] at u1 u2
  rw [List.getElem?_eq_getElem (by omega)] at v1 v2
  refine ⟨s0,by omega,h1,h2,h3,?_,?_⟩
  · rw [Option.some.inj u1,Option.some.inj v1];exact S.light hkI
  · rw [Option.some.inj u2,Option.some.inj v2];exact hf k hkI
theorem Tri.n1 {P:Program} {X:Ctx P} {lo:Nat} {f:FuncId} {args:List Value} {g:Gd} {h h0:Hp} (e:h=h0) (ok:gOk g=true) {K:Value→Hp→Prop} (t:Tri X lo f args h0 fun v h'=>(∃ o1 o2 o3 L,v = .tuple #[scOV (newS g) o1 o2 o3,.bool (gOk g)]∧ScO h0.n h' (newS g) o1 o2 o3 L)∧Ext h0 h') (k:∀ h' g1 l1 f1 gf lf ff L,ScR h' (scG g) g1 l1 f1 L→Ext h0 h'→K (.tuple #[scV (scG g) g1 l1 f1 gf lf ff,.bool true]) h'):CallP X lo f args h K:=by
  refine Tri.n e t fun h' g1 l1 f1 gf lf ff L R x => ?_
  have hN:newS g=scG g:=by unfold newS;rw [if_pos ok]
  rw [hN] at R ⊢
  rw [ok]
  exact k h' g1 l1 f1 gf lf ff L R x
set_option maxHeartbeats 1600000 in
theorem sceneTurn_R (bs:List Nat) (a:Option Addr) (fl:Nat) (h:Hp) (hs:Sls h uE 1 a bs) (hb:∀ b∈bs,b < 256) (hn:bs.length≤9223372036854775807) (hlo:lo≤h.n) :
    R (mainCtx Tryz.prog N0) lo 4 Tryz.f4 (.ret fun v _=>v = .bool true) [.code (bodyC Tryz.f4)] (argsTm 0 [.slice a bs.length fl]) [] h:=by
  refine more tbOk mtOk ⟨[],[(17,[0,1,2,3,4,5,6,7,8,9,10,11,12,13,14,15,16,17,18,19,20,21,22,23,24,25,26,27,28,29,30,31,32,33,34,35,36,37,38,39,40,41,42,43,44,45,46,47,48,49,50,51,52,53,54,55,56,57,58,59,60,61,62,63,64,65,66,67,68,69,70,71,72,73,74,75],[0,1,3,7,7,23,55,127,255,511,1023,2047,4095,8191,16383,16383,49151,114687,262143,524287,1048575,2097151,4194303,2097151,16777215,33554431,2097151,69206015,2097151,471859199,1008730111,2147483647,4294967295,8589934591,17179869183,34359738367,17179869183,137438953471,274877906943,17179869183,566935683071,17179869183,3865470566399,8263517077503,17592186044415,35184372088831,70368744177663,140737488355327,281474976710655,140737488355327,1125899906842623,2251799813685247,4503599627370495,140737488355327,9147936743096319,140737488355327,63191132271542271,135248726309470207,279363914385326079,576460752303423487,1152921504606846975,2305843009213693951,4611686018427387903,9223372036854775807,4611686018427387903,36893488147419103231,73786976294838206463,147573952589676412927,4611686018427387903,299759591197780213759,4611686018427387903,2070647022273897168895,4431830263708719775743,9154196746578364989439,18889465931478580854783,37778931862957161709567])]⟩ 500 ?_
  refine cnd (fun c1=>rfl) (fun c1 => ?_)
  have hm:bs.length≤1048576:=by simp at c1;omega
  refine callP (DrawSceneNew_ok a fl bs h hs hm hb) ?_
  rintro v h1 ⟨g,ga,gf,rfl,d,hl,x1⟩
  have sl:=d.sls.2
  refine Tri.n rfl (sSceneNew_ok g ga gf h1 sl (by omega)) fun h2 wg wl wf wgf wlf wff L2 R2 x2 => ?_
  refine Tri.n rfl (SceneNew_ok g ga gf h2 (sl.ext x2) (by omega)) fun h3 xg xl xf xgf xlf xff L3 R3 x3 => ?_
  have mB:=newS_B (g:=g)
  obtain ⟨k1,hk1⟩:∃ k1,k1=gOk g:=⟨_,rfl⟩
  rw [← hk1]
  refine cnd (fun c=>by simp at c) (fun _ => ?_)
  refine callP (llScene_ok _ _ xg xl xf wg wl wf xgf xlf xff wgf wlf wff L3 L2 h3 R3 (R2.ext x3) mB) ?_
  rintro v h3' ⟨rfl,rfl⟩
  refine cnd (fun c=>by simp at c) (fun _ => ?_)
  refine cnd (fun c1 => ?_) (fun c1 => ?_)
  · refine cnd (fun _ => ?_) (fun c=>absurd c (by simp))
    refine callP (llScene_ok _ _ xg xl xf wg wl wf xgf xlf xff wgf wlf wff L3 L2 h3' R3 (R2.ext x3) mB) ?_
    rintro v h3 ⟨rfl,rfl⟩
    exact congrArg Value.bool (decide_eq_true rfl)
  have hok:gOk g=true:=by rw [← hk1];simpa using c1
  have hN:newS g=scG g:=by unfold newS;rw [if_pos hok]
  rw [hN] at R3 mB ⊢
  have x23:=x2.trans x3
  obtain ⟨l1,l2⟩:=scG_len g
  have sT:=turn_same hok
  have sF:=flip_same hok
  have eT:turnG' g=turnG g:=by unfold turnG';rw [if_pos hok]
  have eF:flipG' g=flipG g:=by unfold flipG';rw [if_pos hok]
  obtain ⟨m1,m2⟩:=scG_len (turnG g)
  obtain ⟨n1,n2⟩:=scG_len (flipG g)
  rw [sT.many] at m1 m2
  rw [sF.many] at n1 n2
  have lT:(turnG g).cs.length=g.cs.length:=movedG_len _ _ _
  have lF:(flipG g).cs.length=g.cs.length:=movedG_len _ _ _
  have hft:=mB.ft
  have hli:=mB.li
  refine callP (GridTurn_ok g ga gf h3' (sl.ext x23) (by omega)) ?_
  rintro v h4 ⟨⟨ta,tf,rfl,ts,_⟩,x4⟩
  rw [eT] at ts ⊢
  refine Tri.n1 rfl sT.ok' (SceneNew_ok (turnG g) ta tf h4 ts (by omega)) fun h5 yg yl yf ygf ylf yff L5 R5 x5 => ?_
  refine callP (GridFlip_ok g ga gf h5 (sl.ext ((x23.trans x4).trans x5)) (by omega)) ?_
  rintro v h6 ⟨⟨fa,ff,rfl,fs,_⟩,x6⟩
  rw [eF] at fs ⊢
  refine Tri.n1 rfl sF.ok' (SceneNew_ok (flipG g) fa ff h6 fs (by omega)) fun h7 zg zl zf zgf zlf zff L7 R7 x7 => ?_
  have R3:=R3.ext (((x4.trans x5).trans x6).trans x7)
  have R5:=R5.ext (x6.trans x7)
  have sl7:=sl.ext ((((x23.trans x4).trans x5).trans x6).trans x7)
  refine cnd (fun c=>by simp at c) (fun _ => ?_)
  refine cnd (fun c=>by simp at c) (fun _ => ?_)
  refine cnd (fun c=>absurd c (by simp;omega)) (fun _ => ?_)
  refine cnd (fun c=>absurd c (by simp;omega)) (fun _ => ?_)
  refine loop (σ:=Nat) tbOk mtOk ⟨[],[(17,[0,1,2,3,4,5,6,7,8,9,10,11,12,13,14,15,16,17,18,19,20,21,22,23,24,25,26,27,28,29,30,31,32,33,34,35,36,37,38,39,40,41,42,43,44,45,46,47,48,49,50,51,52,53,54,55,56,57,58,59,60,61,62,63,64,65,66,67,68,69,70,71,72,73,74,75],[0,1,3,7,7,23,55,127,255,511,1023,2047,4095,8191,16383,16383,49151,114687,262143,524287,1048575,2097151,4194303,2097151,16777215,33554431,2097151,69206015,2097151,471859199,1008730111,2147483647,4294967295,8589934591,17179869183,34359738367,17179869183,137438953471,274877906943,17179869183,566935683071,17179869183,3865470566399,8263517077503,17592186044415,35184372088831,70368744177663,140737488355327,281474976710655,140737488355327,1125899906842623,2251799813685247,4503599627370495,140737488355327,9147936743096319,140737488355327,63191132271542271,135248726309470207,279363914385326079,576460752303423487,1152921504606846975,2305843009213693951,4611686018427387903,9223372036854775807,4611686018427387903,36893488147419103231,73786976294838206463,147573952589676412927,4611686018427387903,299759591197780213759,4611686018427387903,2070647022273897168895,4431830263708719775743,9154196746578364989439,18889465931478580854783,37778931862957161709567])]⟩ (fun k=>[(12,.v (.int .i64 (k:Int))),(10,.l 4 0),(8,.l 3 0),(6,.l 2 0),(3,.l 0 0)]) (fun _=>[[.int .i64 g.w,.slice ga g.cs.length gf],cellsL (scV (scG g) wg wl wf wgf wlf wff),[.int .i64 (scG g).g.w,.slice xg (scG g).g.cs.length xgf,.slice xl (scG g).li.length xlf,.slice xf (scG g).ft.length xff],[.int .i64 (scG (turnG g)).g.w,.slice yg (scG (turnG g)).g.cs.length ygf,.slice yl (scG (turnG g)).li.length ylf,.slice yf (scG (turnG g)).ft.length yff],[.int .i64 (scG (flipG g)).g.w,.slice zg (scG (flipG g)).g.cs.length zgf,.slice zl (scG (flipG g)).li.length zlf,.slice zf (scG (flipG g)).ft.length zff]]) (fun k h'=>k≤(scG g).li.length∧Ext h7 h') (fun k=>(scG g).li.length - k) 400 0 (fun _=>rfl) ⟨rfl,rfl,rfl,rfl,rfl,trivial⟩ ⟨rfl,rfl,rfl,rfl,rfl,trivial⟩ ⟨Nat.zero_le _,Ext.refl _⟩ (fun k h8 hI again => ?_)
  obtain ⟨k1',x8⟩:=hI
  refine cnd (fun c => ?_) (fun c => ?_)
  · have c:k < (scG g).li.length:=by simpa using c
    have wk:IntKind.i64.wrap ((k:Int)+1)=((k+1:Nat):Int):=wz (by omega) (by omega)
    have hkI:(0:Int)≤k∧(k:Int) < many g:=by omega
    obtain ⟨a0,a1,a2,a3,a4,a5,a6⟩:=same_at sT (fun k hk=>turn_foot hok hk) c
    obtain ⟨b0,b1,b2,b3,b4,b5,b6⟩:=same_at sF (fun k hk=>flip_foot hok hk) c
    refine callP (SightTurn_ok g k ga gf h8 (sl7.ext x8) hok hkI) ?_
    rintro v h9 ⟨rfl,x9⟩
    refine callP (SightFlip_ok g k ga gf h9 (sl7.ext (x8.trans x9)) hok hkI) ?_
    rintro v h10 ⟨rfl,x10⟩
    have X:=(x8.trans x9).trans x10
    generalize Tr.siT g.w g.hi (k:Int)=A at *
    generalize Tr.siF g.w g.hi (k:Int)=B at *
    have Q3:=R3.ext X
    have Q5:=R5.ext X
    have Q7:=R7.ext X
    obtain ⟨xl',rfl⟩:=Q3.li.some c
    obtain ⟨yl',rfl⟩:=Q5.li.some a2
    obtain ⟨zl',rfl⟩:=Q7.li.some b2
    have l3:=Q3.li.ld (e:=inE) (fun _=>rfl) c
    have l5:=Q5.li.ld (e:=inE) (fun _=>rfl) a2
    have l7:=Q7.li.ld (e:=inE) (fun _=>rfl) b2
    rw [a5] at l5
    rw [b5] at l7
    obtain ⟨d3,f3,q3,rfl,_,t3⟩:=Q3.ft.get a4
    obtain ⟨d5,f5,q5,rfl,_,t5⟩:=Q5.ft.get a3
    obtain ⟨d7,f7,q7,rfl,_,t7⟩:=Q7.ft.get b3
    have t3:=t3 _ (Ext.refl _)
    have t5:=t5 _ (Ext.refl _)
    have t7:=t7 _ (Ext.refl _)
    rw [a6] at t5
    rw [b6] at t7
    refine And.intro (by kernel_rfl) ?_
    refine cnd (fun c=>absurd (of_decide_eq_true c) (by omega)) (fun _ => ?_)
    refine cnd (fun c=>absurd (of_decide_eq_true c) (by omega)) (fun _ => ?_)
    refine cnd (fun c=>absurd (of_decide_eq_true c) (by omega)) (fun _ => ?_)
    refine cnd (fun c=>absurd (of_decide_eq_true c) (by omega)) (fun _ => ?_)
    refine And.intro ⟨by omega,by omega⟩ ?_
    refine ⟨_,l5,?_⟩
    refine And.intro ⟨by omega,by omega⟩ ?_
    refine ⟨_,l3,?_⟩
    refine cnd (fun c=>by simp at c) (fun _ => ?_)
    refine And.intro ⟨by omega,by omega⟩ ?_
    refine ⟨_,l7,?_⟩
    refine And.intro ⟨by omega,by omega⟩ ?_
    refine ⟨_,l3,?_⟩
    refine cnd (fun c=>by simp at c) (fun _ => ?_)
    refine And.intro ⟨by omega,by omega⟩ ?_
    refine ⟨_,t5,?_⟩
    refine And.intro ⟨by omega,by omega⟩ ?_
    refine ⟨_,t3,?_⟩
    refine cnd (fun c=>by simp at c) (fun _ => ?_)
    refine And.intro ⟨by omega,by omega⟩ ?_
    refine ⟨_,t7,?_⟩
    refine And.intro ⟨by omega,by omega⟩ ?_
    refine ⟨_,t3,?_⟩
    refine cnd (fun c=>by simp at c) (fun _ => ?_)
    exact again (k+1) _ _ _ (by omega) ⟨vI wk,rfl,rfl,rfl,rfl,trivial⟩ ⟨rfl,rfl,rfl,rfl,rfl,trivial⟩ ⟨by omega,X⟩
  · exact rfl
end
end Go.Proofs.YtgmkdjjcleobhaaGreat.Id
namespace Go.Proofs.YtgmkdjjcleobhaaGreat.fnSceneTurn
open Go.ChangeShapes Go.WideShapes Go.ChangeAt Go.RowKit Go.Id Go.Conc Go.Proofs.YtgmkdjjcleobhaaGreat.Id
set_option linter.unusedVariables false
theorem own:ownKnob Tryz.prog.godebug=none:=by kernel_rfl
theorem laidOut:laidOutB Tryz.prog=true:=by kernel_rfl
set_option maxRecDepth 100000 in
theorem lifted (os:Os) (started:os.Started) (H:Type) (enc:TypeId×Value→H) :
    ReturnsInLeavingWide {} Tryz.checked os 4 .any (Rows.fnSceneTurnSpec.pre6 enc Tryz.prog Tryz.f4 Rows.fnSceneTurnRow.domain false) (Rows.fnSceneTurnSpec.post enc Tryz.prog Tryz.f4 false true false false):=by
  refine returnsInLeavingWide_of_change_sized (C:=Tryz.checked) own started Tryz.func4
    (ChangeSpec.witness6 (enc:=enc) (C:=Tryz.checked) false ⟨#[],#[.slice none 0 0],[]⟩ 8 (by kernel_rfl) (by kernel_rfl) (by kernel_rfl) (by kernel_rfl)) ?_
  intro W base args ds gs before hval0 hW hcnd hsz0 _
  have hval:∀ (j:Nat) t v,Tryz.f4.params[j]? = some t→args[j]? = some v→Value.okWide Tryz.prog W .any base t v:=hval0
  have hW':=hW
  obtain ⟨p,q,hA0,hV,rfl,hfz,hnd⟩:=hW
  have hA:DataW.TrodAll enc Tryz.prog W 0 (fun _=>true) true Tryz.f4.params.toList args.toList ds p:=hA0
  rw [Tryz.params4] at hA hval
  obtain ⟨v0,vs0,d0,ds0,p0,q0,hargs,rfl,rfl,h0,r0⟩:=trodAll_cons hA
  obtain ⟨rfl,rfl,rfl⟩:=trodAll_nil r0
  obtain rfl:args=#[v0]:=by cases args;simp_all
  obtain ⟨rfl,rfl⟩:=trodVars_none hV
  have k0:=h0
  have lt0:∀ x∈p0,x.block < W.heap.size:=by obtain ⟨m,hm⟩:=k0;exact DataW.trod_lt m _ _ _ hm
  obtain ⟨s,h,bs,a,fl,I,_,_,V,S,hn,hb⟩:=in_bytes (InOk.nil W) (hval 0 22 v0 rfl rfl) h0
  clear hA0 hval0 hsz0
  obtain ⟨M,last,o,w',t',g1,g2,g3,g4⟩:=main_run (lo:=h.n) (Post:=fun v _=>v = .bool true) (argsr:=#[v0]) (args:=[.slice a bs.length fl]) Tryz.func4 rfl (Nat.le_of_ble_eq_true rfl) (by kernel_rfl) I (VRs.cons V (VRs.nil s)) (sceneTurn_R bs a fl h S hb (Nat.le_trans hn (by unfold Go.maxLen;exact Nat.le_refl _)) (Nat.le_refl _))
  refine ⟨M,last,o,w',t',g1,g2,g3,g4.mono fun vr ht => ?_⟩
  obtain ⟨v,h',s',O',rfl,_,_,hv,K⟩:=ht
  obtain rfl:vr = .bool true:=VR.bool_inv hv
  have bel:=below_of K
  exact ⟨_,_,_,[],_,[],hW',trodAll_mk1 (shut_bool Tryz.underlying4 _),trodAll_cons_mk (Trod_tape (Below.trod laidOut (by kernel_rfl) (of_decide_eq_true (by kernel_rfl)) k0 bel lt0)) trodAll_mk0,rfl,kept_frame K _,fun h=>by cases h⟩
theorem j2:laidOutB Tryz.pinned.checked.prog=true:=by kernel_rfl
theorem j3:mapsRowed Tryz.pinned.checked.prog=true:=by kernel_rfl
theorem j10:(Rows.fnSceneTurnRow.inPlace == Program.inPlace Tryz.pinned.checked.prog 4)=true:=by kernel_rfl
theorem j11:(Rows.fnSceneTurnRow.unfollowed == Program.unfollowed Tryz.pinned.checked.prog 4)=true:=by kernel_rfl
theorem j12:(Rows.fnSceneTurnRow.recurses == Program.recurses Tryz.pinned.checked.prog 4)=true:=by kernel_rfl
theorem j13:(Rows.fnSceneTurnRow.named == Program.varsNamed Tryz.pinned.checked.prog 4)=true:=by kernel_rfl
theorem j23:(Rows.fnSceneTurnRow.plainKeys == Program.plainKeys Tryz.pinned.checked.prog)=true:=by kernel_rfl
theorem j25:Program.stopsHeard Tryz.pinned.checked.prog=true:=by kernel_rfl
theorem j26:Program.mayEnter Tryz.pinned.checked.prog=true:=by kernel_rfl
theorem j27:(Rows.fnSceneTurnRow.lifted == Program.liftsFinal Tryz.pinned.checked.prog)=true:=by kernel_rfl
theorem j28:(Program.make Tryz.pinned.checked.prog == some Rows.fnSceneTurnRow.make)=true:=by kernel_rfl
theorem closed:joinedFacts Tryz.pinned.checked.prog 4 Tryz.f4 Rows.fnSceneTurnSpec Rows.fnSceneTurnRow=true :=
  joined_of (by kernel_rfl) j2 j3 (by kernel_rfl) (by kernel_rfl) (by kernel_rfl) (by kernel_rfl) (by kernel_rfl) (by kernel_rfl) j10 j11 j12 j13 (by kernel_rfl) (by kernel_rfl) (by kernel_rfl) (by kernel_rfl) (by kernel_rfl) (by kernel_rfl) (by kernel_rfl) (by kernel_rfl) (by kernel_rfl) j23 (by kernel_rfl) j25 j26 j27 j28 (by kernel_rfl) (by kernel_rfl) (by kernel_rfl) (by kernel_rfl)
theorem over:Rows.fnSceneTurnRow.holds Tryz.pinned (OpenSpec.ofChange Rows.fnSceneTurnSpec) :=
  OpenClaim.holds_of_wide_leaving 4 Tryz.f4 rfl rfl rfl rfl rfl rfl rfl ⟨rfl,rfl,rfl,rfl,rfl⟩ rfl rfl rfl rfl rfl (by kernel_rfl) Tryz.func4 closed
    (of_decide_eq_true (by kernel_rfl)) (by unfold Func.isWrapper;first | (rw [if_pos (by decide +kernel)];kernel_rfl) | (rw [if_neg (by decide +kernel)];exact ⟨rfl,rfl⟩))
    (fun os started H enc _=>lifted os started H enc)
theorem proved:Rows.FnSceneTurnSaid:=over
#print axioms proved
end Go.Proofs.YtgmkdjjcleobhaaGreat.fnSceneTurn
namespace Go.Proofs.YtgmkdjjcleobhaaGreat
theorem fnSceneTurn_holds:Rows.FnSceneTurnSaid:=fnSceneTurn.proved
end Go.Proofs.YtgmkdjjcleobhaaGreat
