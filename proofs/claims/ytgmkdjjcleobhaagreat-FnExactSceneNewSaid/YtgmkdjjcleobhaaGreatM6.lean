/- For every input the law returns true, and what came in reads as it did (the row of Rxn). No condition. Texts of this claim, joined: Wf, Te, Wj, Xa, Xb, Xc, Xd, Rxn. -/
import Derived.Test.YtgmkdjjcleobhaaGreatM5
import Derived.Test.YtgmkdjjcleobhaaGreatRows
import Derived.Conc.LeavingOf
import Derived.WalkKit
import Derived.ProofKit
import Derived.OpenShut
import Derived.ShutString
import Derived.SizedLaws
import Derived.Lib.SmallJoins
namespace Go.Proofs.YtgmkdjjcleobhaaGreat.Id
open Go.Id Go.Conc Go.Conc.Lib
open Go.Proofs
set_option linter.unusedVariables false
set_option maxRecDepth 100000
section
variable {X:Ctx Tryz.prog} {lo:Nat}
end
end Go.Proofs.YtgmkdjjcleobhaaGreat.Id
namespace Go.Proofs.YtgmkdjjcleobhaaGreat.Id
open Go.Id
open Go.Proofs
set_option linter.unusedVariables false
set_option maxRecDepth 100000
variable {X:Ctx Tryz.prog} {lo:Nat}
end Go.Proofs.YtgmkdjjcleobhaaGreat.Id
namespace Go.Proofs.YtgmkdjjcleobhaaGreat.Id
open Go.Id Go.Conc Go.Conc.Lib
open Go.Proofs
set_option linter.unusedVariables false
set_option maxRecDepth 100000
section
variable {N0:Nat→Prop} {lo:Nat}
theorem Tri.n {P:Program} {X:Ctx P} {lo:Nat} {f:FuncId} {args:List Value} {g:Gd} {h h0:Hp} (e:h=h0) {K:Value→Hp→Prop} (t:Tri X lo f args h0 fun v h'=>(∃ o1 o2 o3 L,v = .tuple #[scOV (newS g) o1 o2 o3,.bool (gOk g)]∧ScO h0.n h' (newS g) o1 o2 o3 L)∧Ext h0 h') (k:∀ h' g1 l1 f1 gf lf ff L,ScR h' (newS g) g1 l1 f1 L→Ext h0 h'→K (.tuple #[scV (newS g) g1 l1 f1 gf lf ff,.bool (gOk g)]) h'):CallP X lo f args h K:=by
  subst e
  refine callP t fun v h' p => ?_
  obtain ⟨⟨o1,o2,o3,L,hv,r⟩,x⟩:=p
  obtain ⟨ga,la,fa,gf,lf,ff,z,R⟩:=r.read
  rw [z] at hv
  subst hv
  exact k h' ga la fa gf lf ff L R x
end
end Go.Proofs.YtgmkdjjcleobhaaGreat.Id
namespace Go.Proofs.YtgmkdjjcleobhaaGreat.Id
open Go.Id
open Go.Proofs
set_option linter.unusedVariables false
set_option maxRecDepth 100000
section
variable {X:Ctx Tryz.prog} {lo:Nat}
theorem eqIntSSV_ok (a b:Option Addr) (fl fl':Nat) (L L':List Value) (ll mm:List (List Int)) (h:Hp) (hs:FtV h a L ll) (hs':FtV h b L' mm) (hn:ll.length≤1048576) (hl:∀ l∈ll,l.length≤1048576):Tri X lo 71 [.slice a ll.length fl,.slice b mm.length fl'] h fun v h'=>v = .bool (decide (ll=mm))∧h'=h:=by
  refine enter tbOk mtOk ⟨[],[(6,[0,1,2,3,4,5,6,7,8,9],[0,0,3,7,0,0,48,112,255,511])]⟩ 400 Tryz.func71 rfl rfl rfl fun hlo => ?_
  refine cnd (fun c1 => ?_) (fun c1 => ?_)
  · have c1:ll.length≠mm.length:=by simp at c1;omega
    exact And.intro (by rw [decide_eq_false (fun e=>c1 (congrArg List.length e))]) rfl
  · have c1:ll.length=mm.length:=by simp at c1;omega
    refine loop (σ:=Nat) tbOk mtOk ⟨[],[(6,[0,1,2,3,4,5,6,7,8,9],[0,0,3,7,0,0,48,112,255,511])]⟩ (fun i=>[(5,.v (.int .i64 (i:Int))),(0,.v (.slice a ll.length fl)),(1,.v (.slice b mm.length fl'))]) (fun _=>[]) (fun i h'=>i≤ll.length∧h'=h∧ll.take i=mm.take i) (fun i=>ll.length - i) 400 0 (fun _=>rfl) ⟨rfl,rfl,rfl,trivial⟩ trivial ⟨Nat.zero_le _,rfl,rfl⟩ (fun i h' hI again => ?_)
    obtain ⟨i1,rfl,i3⟩:=hI
    refine cnd (fun c2 => ?_) (fun c2 => ?_)
    · have c2:i < ll.length:=by simpa using c2
      have c2':i < mm.length:=by omega
      obtain ⟨a',xa,xf,rfl,xs,xl⟩:=hs.get c2
      obtain ⟨b',ya,yf,rfl,ys,yl⟩:=hs'.get c2'
      refine And.intro (by kernel_rfl) ?_
      refine And.intro ⟨by omega,by omega⟩ ?_
      refine ⟨_,xl _ (Ext.refl _),?_⟩
      refine And.intro ⟨by omega,by omega⟩ ?_
      refine ⟨_,yl _ (Ext.refl _),?_⟩
      refine callP (eqIntS_ok xa ya xf yf ll[i] mm[i] h' xs ys (hl _ (List.getElem_mem c2))) ?_
      rintro v h1 ⟨rfl,rfl⟩
      refine cnd (fun c3 => ?_) (fun c3 => ?_)
      · have c3:ll[i]≠mm[i]:=by simpa using c3
        refine And.intro ?_ rfl
        rw [decide_eq_false (fun e=>c3 (by subst e;rfl))]
      · have c3:ll[i]=mm[i]:=by simpa using c3
        exact again (i+1) _ _ _ (by omega) ⟨vI (wz (by omega) (by omega)),rfl,rfl,trivial⟩ trivial ⟨by omega,rfl,take_eq c2 c2' i3 c3⟩
    · have c2:ll.length=i:=by simp at c2;omega
      refine And.intro ?_ rfl
      rw [← c2,List.take_length,c1,List.take_length] at i3
      rw [i3];simp
theorem eqScene_ok (s t:Sc) (ga la fa ga' la' fa':Option Addr) (gf lf ff gf' lf' ff':Nat) (L L':List Value) (h:Hp) (hs:ScR h s ga la fa L) (hs':ScR h t ga' la' fa' L') (hb:ScB s):Tri X lo 25 [scV s ga la fa gf lf ff,scV t ga' la' fa' gf' lf' ff'] h fun v h'=>v = .bool (decide (s=t))∧h'=h:=by
  refine enter tbOk mtOk ⟨[],[]⟩ 400 Tryz.func25 rfl rfl rfl fun hlo => ?_
  refine callP (eqGrid_ok s.g t.g ga ga' gf gf' h hs.g hs'.g hb.g) ?_
  rintro v h1 ⟨rfl,rfl⟩
  refine cnd (fun c1 => ?_) (fun c1 => ?_)
  · have c1:s.g≠t.g:=by simpa using c1
    exact And.intro (by rw [decide_eq_false (fun e=>c1 (by rw [e]))]) rfl
  · have c1:s.g=t.g:=by simpa using c1
    refine callP (eqIntS_ok la la' lf lf' s.li t.li h1 hs.li hs'.li hb.li) ?_
    rintro v h2 ⟨rfl,rfl⟩
    refine cnd (fun c2 => ?_) (fun c2 => ?_)
    · have c2:s.li≠t.li:=by simpa using c2
      exact And.intro (by rw [decide_eq_false (fun e=>c2 (by rw [e]))]) rfl
    · have c2:s.li=t.li:=by simpa using c2
      refine callP (eqIntSSV_ok fa fa' ff ff' L L' s.ft t.ft h2 hs.ft hs'.ft hb.ft hb.el) ?_
      rintro v h3 ⟨rfl,rfl⟩
      refine cnd (fun c3 => ?_) (fun c3 => ?_)
      · have c3:s.ft≠t.ft:=by simpa using c3
        exact And.intro (by rw [decide_eq_false (fun e=>c3 (by rw [e]))]) rfl
      · have c3:s.ft=t.ft:=by simpa using c3
        exact And.intro (by rw [decide_eq_true (Sc.ext' c1 c2 c3)]) rfl
theorem markGR_ok (o:Option (Nat×Nat)) (l:List Int) (k:Int) (h:Hp) (hg:GR lo h o l) (hn:l.length≤1048576) (hk:0≤k∧k≤2 ^ 40):Tri X lo 74 [gv o l.length,.int .i64 k] h fun v h'=>v = .int .i64 (k+l.length)∧GR lo h' o (marks k l.length)∧h'.n=h.n∧∀ i,¬isB o i→h'.g i=h.g i:=by
  match o,hg with
  | none,hg =>
    have hg:l=[]:=hg
    subst hg
    refine enter tbOk mtOk ⟨[],[]⟩ 400 Tryz.func74 rfl rfl rfl fun hlo => ?_
    refine loop (σ:=Unit) tbOk mtOk ⟨[],[]⟩ (fun i=>[(5,.v (.int .i64 0)),(0,.v (.slice none 0 0)),(1,.v (.int .i64 k))]) (fun _=>[]) (fun _ h'=>h'=h) (fun _=>0) 400 () (fun _=>rfl) ⟨rfl,rfl,rfl,trivial⟩ trivial rfl (fun i h' hI again => ?_)
    subst hI
    refine cndF ?_
    exact ⟨by simp,rfl,rfl,fun _ _=>rfl⟩
  | some (b,e),⟨g1,r,g2⟩ =>
    refine enter tbOk mtOk ⟨[],[]⟩ 400 Tryz.func74 rfl rfl rfl fun hlo => ?_
    have g2:Row h b e iE 1 (l++r):=g2
    refine loop (σ:=Nat) tbOk mtOk ⟨[],[]⟩ (fun i=>[(5,.v (.int .i64 (i:Int))),(0,.v (.slice (some ⟨b,0,some e⟩) l.length 1)),(1,.v (.int .i64 (k+i)))]) (fun _=>[]) (fun i h'=>i≤l.length∧Row h' b e iE 1 (marks k i++(l++r).drop i)∧h'.n=h.n∧∀ j,¬isB (some (b,e)) j→h'.g j=h.g j) (fun i=>l.length - i) 400 0 (fun _=>rfl) ⟨rfl,rfl,?_,trivial⟩ trivial ⟨Nat.zero_le _,g2,rfl,fun _ _=>rfl⟩ (fun i h' hI again => ?_)
    · show some (Sl.v (.int .i64 k))=some (Sl.v (.int .i64 (k+((0:Nat):Int))))
      simp
    obtain ⟨i1,i2,i3,i4⟩:=hI
    refine cnd (fun c1 => ?_) (fun c1 => ?_)
    · have c1:i < l.length:=by simp at c1;omega
      have c1':i < (l++r).length:=by rw [List.length_append];omega
      refine And.intro ⟨by omega,by omega⟩ ?_
      refine ⟨_,i2.st (fun _=>rfl) g1 (j:=i) (by simp [marks];omega) (k+i),?_⟩
      refine again (i+1) _ _ _ (by omega) ⟨?_,rfl,?_,trivial⟩ trivial ⟨by omega,?_,i3,fun j hj => ?_⟩
      · show some (Sl.v (.int .i64 (IntKind.i64.wrap ((i:Int)+1))))=_
        rw [wr (by omega) (by omega)];rfl
      · show some (Sl.v (.int .i64 (IntKind.i64.wrap (k+(i:Int)+1))))=some (Sl.v (.int .i64 (k+((i+1:Nat):Int))))
        rw [wr (by omega) (by omega),Int.add_assoc];rfl
      · rw [← marks_set k c1']
        exact Row.set i2.lt
      · simp only [Hp.set]
        rw [if_neg (fun e=>hj ⟨_,by rw [e]⟩)]
        exact i4 j hj
    · have c1:l.length=i:=by simp at c1;omega
      rw [← c1,List.drop_left] at i2
      refine ⟨by rw [c1],⟨g1,r,i2⟩,i3,i4⟩
end
end Go.Proofs.YtgmkdjjcleobhaaGreat.Id
namespace Go.Proofs.YtgmkdjjcleobhaaGreat.Id
open Go.Id
open Go.Proofs
set_option linter.unusedVariables false
set_option maxRecDepth 100000
def marksC (k:Int) (n:Nat):List Cl:=(List.range n).map fun (i:Nat)=>(k+2*i,k+2*i+1)
theorem marksC_len (k:Int) (n:Nat):(marksC k n).length=n:=by simp [marksC]
theorem marksC_get (k:Int) (n i:Nat) (hi:i < (marksC k n).length):(marksC k n)[i]=(k+2*i,k+2*i+1):=by simp [marksC]
theorem marksC_set (k:Int) {l:List Cl} {i:Nat} (hi:i < l.length):(marksC k i++l.drop i).set i (k+2*i,k+2*i+1)=marksC k (i+1)++l.drop (i+1):=by
  rw [List.set_append_right _ _ (by rw [marksC_len];exact Nat.le_refl _),marksC_len,Nat.sub_self,List.drop_eq_getElem_cons hi,List.set_cons_zero]
  simp [marksC,List.range_succ]
def totL (ls:List (List Int)):Nat:=(ls.map List.length).sum
theorem totL_take {ls:List (List Int)} {i:Nat} (hi:i < ls.length):totL (ls.take (i+1))=totL (ls.take i)+ls[i].length:=by
  unfold totL
  rw [List.take_succ_eq_append_getElem hi,List.map_append,List.sum_append];simp
theorem totL_le {ls:List (List Int)}:∀ i,totL (ls.take i)≤totL ls:=fun i=>by
  conv=>rhs;rw [← List.take_append_drop i ls]
  unfold totL
  rw [List.map_append,List.sum_append];omega
theorem totL_get {ls:List (List Int)} {i:Nat} (hi:i < ls.length):totL (ls.take i)+ls[i].length≤totL ls:=by
  rw [← totL_take hi];exact totL_le _
def feetM (k:Int) (ls:List (List Int)):List (List Int):=(List.range ls.length).map fun j=>marks (k+totL (ls.take j)) (ls.getD j []).length
theorem feetM_len (k:Int) (ls:List (List Int)):(feetM k ls).length=ls.length:=by simp [feetM]
theorem feetM_get (k:Int) (ls:List (List Int)) {i:Nat} (hi:i < ls.length):(feetM k ls)[i]'(by rw [feetM_len];exact hi)=marks (k+totL (ls.take i)) ls[i].length:=by
  simp [feetM,List.getD,List.getElem?_eq_getElem hi]
def feetI (k:Int) (ls:List (List Int)) (i:Nat):List (List Int):=(feetM k ls).take i++ls.drop i
theorem feetI_get {k:Int} {ls:List (List Int)} {i:Nat} (hi:i < ls.length):(feetI k ls i)[i]? = some ls[i]:=by
  unfold feetI
  rw [List.getElem?_append_right (by rw [List.length_take,feetM_len];omega),List.length_take,feetM_len,List.getElem?_drop,show min i ls.length=i by omega,Nat.sub_self,Nat.add_zero,List.getElem?_eq_getElem hi]
theorem feetI_set {k:Int} {ls:List (List Int)} {i:Nat} (hi:i < ls.length):(feetI k ls i).set i (marks (k+totL (ls.take i)) ls[i].length)=feetI k ls (i+1):=by
  unfold feetI
  have hm:i < (feetM k ls).length:=by rw [feetM_len];exact hi
  rw [List.set_append_right _ _ (by rw [List.length_take];omega),List.length_take,show i - min i (feetM k ls).length=0 by omega,List.drop_eq_getElem_cons hi,List.set_cons_zero,List.take_succ_eq_append_getElem hm,feetM_get k ls hi,List.append_assoc];rfl
def markS (s:Sc) (k:Int):Sc:=⟨⟨s.g.w,marksC k s.g.cs.length⟩,marks (k+2*s.g.cs.length) s.li.length,feetM (k+2*s.g.cs.length+s.li.length) s.ft⟩
section
variable {X:Ctx Tryz.prog} {lo:Nat}
theorem heldCellS_ok (a:Option Addr) (fl n:Nat) (k:Int) (h:Hp) (hs:Sls h cE 2 a (marksC k n)) (hn:n≤1048576) (hk:0≤k∧k≤2 ^ 40):Tri X lo 130 [.slice a n fl,.int .i64 k] h fun v h'=>v = .int .i64 (k+2*n)∧h'=h:=by
  refine enter tbOk mtOk ⟨[],[]⟩ 400 Tryz.func130 rfl rfl rfl fun hlo => ?_
  refine loop (σ:=Nat) tbOk mtOk ⟨[],[]⟩ (fun i=>[(5,.v (.int .i64 (i:Int))),(0,.v (.slice a n fl)),(1,.v (.int .i64 (k+2*i)))]) (fun _=>[]) (fun i h'=>i≤n∧h'=h) (fun i=>n - i) 400 0 (fun _=>rfl) ⟨rfl,rfl,?_,trivial⟩ trivial ⟨Nat.zero_le _,rfl⟩ (fun i h' hI again => ?_)
  · show some (Sl.v (.int .i64 k))=some (Sl.v (.int .i64 (k+2*((0:Nat):Int))))
    simp
  obtain ⟨i1,rfl⟩:=hI
  refine cnd (fun c1 => ?_) (fun c1 => ?_)
  · have c1:i < n:=by simp at c1;omega
    have hi:i < (marksC k n).length:=by rw [marksC_len];exact c1
    obtain ⟨a,rfl⟩:=hs.some hi
    have hld:=hs.ld cE2 hi
    rw [marksC_get] at hld
    have l0:=ld_sub hld (j:=0) (m:=1) rfl
    have l1:=ld_sub hld (j:=1) (m:=1) rfl
    have hw:IntKind.i64.wrap (k+2*(i:Int)+1)=k+2*(i:Int)+1:=wr (by omega) (by omega)
    refine And.intro ⟨by omega,by omega⟩ ?_
    refine ⟨_,l0,?_⟩
    refine cnd (fun c=>by simp at c) (fun _ => ?_)
    refine And.intro ⟨by omega,by omega⟩ ?_
    refine ⟨_,l1,?_⟩
    refine cnd (fun c=>by simp [hw] at c) (fun _ => ?_)
    refine again (i+1) _ _ _ (by omega) ⟨?_,rfl,?_,trivial⟩ trivial ⟨by omega,rfl⟩
    · show some (Sl.v (.int .i64 (IntKind.i64.wrap ((i:Int)+1))))=_
      rw [wr (by omega) (by omega)];rfl
    · show some (Sl.v (.int .i64 (IntKind.i64.wrap (IntKind.i64.wrap (k+2*(i:Int)+1)+1))))=some (Sl.v (.int .i64 (k+2*((i+1:Nat):Int))))
      rw [hw,wr (by omega) (by omega)]
      congr 3;omega
  · have c1:n=i:=by simp at c1;omega
    exact ⟨by rw [c1],rfl⟩
theorem heldGrid_ok (w:Int) (a:Option Addr) (fl n:Nat) (k:Int) (h:Hp) (hs:Sls h cE 2 a (marksC k n)) (hn:n≤1048576) (hk:0≤k∧k≤2 ^ 40):Tri X lo 76 [.agg #[.int .i64 w,.slice a n fl],.int .i64 k] h fun v h'=>v = .int .i64 (k+2*n)∧h'=h:=by
  refine enter tbOk mtOk ⟨[],[]⟩ 400 Tryz.func76 rfl rfl rfl fun hlo => ?_
  refine callP (heldCellS_ok a fl n k h hs hn hk) ?_
  rintro v h1 ⟨rfl,rfl⟩
  refine cnd (fun c=>absurd (of_decide_eq_true c) (by omega)) (fun _ => ?_)
  exact ⟨rfl,rfl⟩
theorem heldIntSSV_ok (a:Option Addr) (fl:Nat) (L:List Value) (ls:List (List Int)) (k:Int) (h:Hp) (hs:FtV h a L (feetM k ls)) (hn:ls.length≤1048576) (ht:totL ls≤1048576) (hk:0≤k∧k≤2 ^ 39):Tri X lo 78 [.slice a ls.length fl,.int .i64 k] h fun v h'=>v = .int .i64 (k+totL ls)∧h'=h:=by
  refine enter tbOk mtOk ⟨[],[]⟩ 400 Tryz.func78 rfl rfl rfl fun hlo => ?_
  refine loop (σ:=Nat) tbOk mtOk ⟨[],[]⟩ (fun i=>[(5,.v (.int .i64 (i:Int))),(0,.v (.slice a ls.length fl)),(1,.v (.int .i64 (k+totL (ls.take i))))]) (fun _=>[]) (fun i h'=>i≤ls.length∧h'=h) (fun i=>ls.length - i) 400 0 (fun _=>rfl) ⟨rfl,rfl,?_,trivial⟩ trivial ⟨Nat.zero_le _,rfl⟩ (fun i h' hI again => ?_)
  · show some (Sl.v (.int .i64 k))=some (Sl.v (.int .i64 (k+((0:Nat):Int))))
    simp
  obtain ⟨i1,rfl⟩:=hI
  refine cnd (fun c1 => ?_) (fun c1 => ?_)
  · have c1:i < ls.length:=by simp at c1;omega
    have c1':i < (feetM k ls).length:=by rw [feetM_len];exact c1
    obtain ⟨a',xa,xf,rfl,xs,xl⟩:=hs.get c1'
    have xl:=xl _ (Ext.refl _)
    rw [feetM_get k ls c1] at xs xl
    rw [marks_len] at xl
    have t1:=totL_get c1
    refine And.intro ⟨by omega,by omega⟩ ?_
    refine ⟨_,xl,?_⟩
    refine callP (heldIntS_ok xa xf ls[i].length (k+totL (ls.take i)) h' xs (by omega) (by omega)) ?_
    rintro v h1 ⟨rfl,rfl⟩
    refine cnd (fun c=>absurd (of_decide_eq_true c) (by omega)) (fun _ => ?_)
    refine again (i+1) _ _ _ (by omega) ⟨vI (wz (by omega) (by omega)),rfl,?_,trivial⟩ trivial ⟨by omega,rfl⟩
    show some (Sl.v (.int .i64 (k+totL (ls.take i)+ls[i].length)))=some (Sl.v (.int .i64 (k+totL (ls.take (i+1)))))
    rw [totL_take c1];congr 3;omega
  · have c1:ls.length=i:=by simp at c1;omega
    refine ⟨?_,rfl⟩
    rw [← c1,List.take_length]
theorem heldScene_ok (s:Sc) (ga la fa:Option Addr) (gf lf ff:Nat) (L:List Value) (k:Int) (h:Hp) (hs:ScR h (markS s k) ga la fa L) (hb:ScB s) (ht:totL s.ft≤1048576) (hk:0≤k∧k≤1048576):Tri X lo 29 [scV s ga la fa gf lf ff,.int .i64 k] h fun v h'=>v = .int .i64 (k+2*s.g.cs.length+s.li.length+totL s.ft)∧h'=h:=by
  have b1:=hb.g
  have b2:=hb.li
  refine enter tbOk mtOk ⟨[],[]⟩ 400 Tryz.func29 rfl rfl rfl fun hlo => ?_
  refine callP (heldGrid_ok s.g.w ga gf s.g.cs.length k h hs.g b1 (by omega)) ?_
  rintro v h1 ⟨rfl,rfl⟩
  refine cnd (fun c=>absurd (of_decide_eq_true c) (by omega)) (fun _ => ?_)
  refine callP (heldIntS_ok la lf s.li.length (k+2*s.g.cs.length) h1 hs.li b2 (by omega)) ?_
  rintro v h2 ⟨rfl,rfl⟩
  refine cnd (fun c=>absurd (of_decide_eq_true c) (by omega)) (fun _ => ?_)
  refine callP (heldIntSSV_ok fa ff L s.ft (k+2*s.g.cs.length+s.li.length) h2 hs.ft hb.ft ht (by omega)) ?_
  rintro v h3 ⟨rfl,rfl⟩
  refine cnd (fun c=>absurd (of_decide_eq_true c) (by omega)) (fun _ => ?_)
  exact ⟨rfl,rfl⟩
end
end Go.Proofs.YtgmkdjjcleobhaaGreat.Id
namespace Go.Proofs.YtgmkdjjcleobhaaGreat.Id
open Go.Id
open Go.Proofs
set_option linter.unusedVariables false
set_option maxRecDepth 100000
section
variable {base:Nat} {h h':Hp} {s:Sc} {o1 o2 o3:Option (Nat×Nat)} {L:List Value}
theorem ScO.setG (r:ScO base h s o1 o2 o3 L) (hn:h'.n=h.n) (hg:∀ i,¬isB o1 i→h'.g i=h.g i) {cs:List Cl} (g:Gx base h' cE 2 o1 cs):ScO base h' ⟨⟨s.g.w,cs⟩,s.li,s.ft⟩ o1 o2 o3 L:=by
  obtain ⟨n1,n2,n3,n4⟩:=r.nd
  have le:h.n≤h'.n:=by omega
  refine ⟨g,r.g2.keep le fun i hi hb=>hg i fun q=>(n1 i q).1 hb,r.g3.keep le fun i hi hb=>hg i fun q=>(n1 i q).2.1 hb,r.len,fun j y l h1 h2 => ?_,r.ap⟩
  exact (r.el j y l h1 h2).keep le fun b hb=>hg b fun q=>(n1 b q).2.2 (mem_blks.2 ⟨j,y,h1,hb⟩)
theorem ScO.setL (r:ScO base h s o1 o2 o3 L) (hn:h'.n=h.n) (hg:∀ i,¬isB o2 i→h'.g i=h.g i) {li:List Int} (g:Gx base h' inE 1 o2 li):ScO base h' ⟨s.g,li,s.ft⟩ o1 o2 o3 L:=by
  obtain ⟨n1,n2,n3,n4⟩:=r.nd
  have le:h.n≤h'.n:=by omega
  refine ⟨r.g1.keep le fun i hi hb=>hg i fun q=>(n1 i hb).1 q,g,r.g3.keep le fun i hi hb=>hg i fun q=>(n2 i q).1 hb,r.len,fun j y l h1 h2 => ?_,r.ap⟩
  exact (r.el j y l h1 h2).keep le fun b hb=>hg b fun q=>(n2 b q).2 (mem_blks.2 ⟨j,y,h1,hb⟩)
theorem ScO.setE (r:ScO base h s o1 o2 o3 L) {j:Nat} {x:Value} {l':List Int} (hx:L[j]? = some x) (hn:h'.n=h.n) (hg:∀ i,blkOf x≠some i→h'.g i=h.g i) (e:OwE base h' x l'):ScO base h' ⟨s.g,s.li,s.ft.set j l'⟩ o1 o2 o3 L:=by
  obtain ⟨n1,n2,n3,n4⟩:=r.nd
  have le:h.n≤h'.n:=by omega
  have inL:∀ i,blkOf x=some i→i∈blks L:=fun i q=>mem_blks.2 ⟨j,x,hx,q⟩
  refine ⟨r.g1.keep le fun i hi hb=>hg i fun q=>(n1 i hb).2.2 (inL i q),r.g2.keep le fun i hi hb=>hg i fun q=>(n2 i hb).2 (inL i q),r.g3.keep le fun i hi hb=>hg i fun q=>n3 i hb (inL i q),by rw [r.len];simp,fun i y l h1 h2 => ?_,r.ap⟩
  rw [List.getElem?_set] at h2
  by_cases c:j=i
  · subst c
    rw [hx] at h1
    obtain rfl:=Option.some.inj h1
    rw [if_pos rfl] at h2
    split at h2
    · obtain rfl:=Option.some.inj h2;exact e
    · cases h2
  · rw [if_neg c] at h2
    exact (r.el i y l h1 h2).keep le fun b hb=>hg b fun q=>c ((blks_nd.1 n4) j i x y b hx h1 q hb)
end
section
variable {X:Ctx Tryz.prog} {lo:Nat}
theorem markCellM_ok (o:Option (Nat×Nat)) (l:List Cl) (k:Int) (h:Hp) (hg:Gx lo h cE 2 o l) (hn:l.length≤1048576) (hk:0≤k∧k≤2 ^ 40):Tri X lo 73 [gv o l.length,.int .i64 k] h fun v h'=>v = .int .i64 (k+2*l.length)∧Gx lo h' cE 2 o (marksC k l.length)∧h'.n=h.n∧∀ i,¬isB o i→h'.g i=h.g i:=by
  match o,hg with
  | none,hg =>
    have hg:l=[]:=hg
    subst hg
    refine enter tbOk mtOk ⟨[],[]⟩ 400 Tryz.func73 rfl rfl rfl fun hlo => ?_
    refine loop (σ:=Unit) tbOk mtOk ⟨[],[]⟩ (fun i=>[(5,.v (.int .i64 0)),(0,.v (.slice none 0 0)),(1,.v (.int .i64 k))]) (fun _=>[]) (fun _ h'=>h'=h) (fun _=>0) 400 () (fun _=>rfl) ⟨rfl,rfl,rfl,trivial⟩ trivial rfl (fun i h' hI again => ?_)
    subst hI
    refine cndF ?_
    exact ⟨by simp,rfl,rfl,fun _ _=>rfl⟩
  | some (b,e),⟨hb,hr⟩ =>
    refine enter tbOk mtOk ⟨[],[]⟩ 400 Tryz.func73 rfl rfl rfl fun hlo => ?_
    refine loop (σ:=Nat) tbOk mtOk ⟨[],[]⟩ (fun i=>[(5,.v (.int .i64 (i:Int))),(0,.v (.slice (some ⟨b,0,some e⟩) l.length 1)),(1,.v (.int .i64 (k+2*i)))]) (fun _=>[]) (fun i h'=>i≤l.length∧Row h' b e cE 2 (marksC k i++l.drop i)∧h'.n=h.n∧∀ j,¬isB (some (b,e)) j→h'.g j=h.g j) (fun i=>l.length - i) 400 0 (fun _=>rfl) ⟨rfl,rfl,?_,trivial⟩ trivial ⟨Nat.zero_le _,hr,rfl,fun _ _=>rfl⟩ (fun i h' hI again => ?_)
    · show some (Sl.v (.int .i64 k))=some (Sl.v (.int .i64 (k+2*((0:Nat):Int))))
      simp
    obtain ⟨i1,i2,i3,i4⟩:=hI
    refine cnd (fun c1 => ?_) (fun c1 => ?_)
    · have c1:i < l.length:=by simp at c1;omega
      have hset:=marksC_set k c1
      generalize hm:marksC k i++l.drop i=m at i2 hset
      have ci:i < m.length:=by rw [← hm,List.length_append,marksC_len,List.length_drop];omega
      have hml:m.length=l.length:=by rw [← hm,List.length_append,marksC_len,List.length_drop];omega
      refine And.intro ⟨by omega,by omega⟩ ?_
      refine ⟨_,i2.stF cE2 hb (f:=0) (ys:=[.int .i64 (k+2*i)]) (x:=(k+2*i,m[i].2)) ci (Nat.le_of_ble_eq_true rfl) rfl,?_⟩
      have r2:Row (h'.set b (.cells ((m.set i (k+2*(i:Int),m[i].2)).flatMap cE) 2 e)) b e cE 2 (m.set i (k+2*(i:Int),m[i].2)):=Row.set i2.lt
      have hw:IntKind.i64.wrap (k+2*(i:Int)+1)=k+2*(i:Int)+1:=wr (by omega) (by omega)
      refine And.intro ⟨by omega,by omega⟩ ?_
      have ci2:i < (m.set i (k+2*(i:Int),m[i].2)).length:=by rw [List.length_set];exact ci
      refine ⟨_,r2.stF cE2 hb (f:=1) (ys:=[.int .i64 (IntKind.i64.wrap (k+2*(i:Int)+1))]) (x:=(k+2*i,IntKind.i64.wrap (k+2*(i:Int)+1))) ci2 (Nat.le_of_ble_eq_true rfl) (by simp [cE,setL]),?_⟩
      have e2:(m.set i (k+2*(i:Int),m[i].2)).set i (k+2*(i:Int),IntKind.i64.wrap (k+2*(i:Int)+1))=marksC k (i+1)++l.drop (i+1):=by rw [List.set_set,hw];exact hset
      refine again (i+1) _ _ _ (by omega) ⟨?_,rfl,?_,trivial⟩ trivial ⟨by omega,by rw [← e2];exact Row.set r2.lt,i3,fun j hj => ?_⟩
      · show some (Sl.v (.int .i64 (IntKind.i64.wrap ((i:Int)+1))))=_
        rw [wr (by omega) (by omega)];rfl
      · show some (Sl.v (.int .i64 (IntKind.i64.wrap (IntKind.i64.wrap (k+2*(i:Int)+1)+1))))=some (Sl.v (.int .i64 (k+2*((i+1:Nat):Int))))
        rw [hw,wr (by omega) (by omega)]
        congr 3;omega
      · have hj':j≠b:=fun q=>hj ⟨e,by rw [q]⟩
        simp only [Hp.set]
        rw [if_neg hj',if_neg hj'];exact i4 j hj
    · have c1:l.length=i:=by simp at c1;omega
      rw [← c1,List.drop_length,List.append_nil] at i2
      exact ⟨by rw [c1],⟨hb,i2⟩,i3,i4⟩
theorem markGridM_ok (w:Int) (o:Option (Nat×Nat)) (l:List Cl) (k:Int) (h:Hp) (hg:Gx lo h cE 2 o l) (hn:l.length≤1048576) (hk:0≤k∧k≤2 ^ 40):Tri X lo 27 [.agg #[.int .i64 w,gv o l.length],.int .i64 k] h fun v h'=>v = .int .i64 (k+2*l.length)∧Gx lo h' cE 2 o (marksC k l.length)∧h'.n=h.n∧∀ i,¬isB o i→h'.g i=h.g i:=by
  refine enter tbOk mtOk ⟨[],[]⟩ 400 Tryz.func27 rfl rfl rfl fun hlo => ?_
  refine callP (markCellM_ok o l k h hg hn hk) ?_
  rintro v h1 ⟨rfl,q2⟩
  exact ⟨rfl,q2⟩
theorem callE2 {P:Program} {X:Ctx P} {lo:Nat} {g:FuncId} {args args':List Value} {h:Hp} {K:Value→Hp→Prop} {Post:Value→Hp→Prop} (e:args=args') (h1:Tri X lo g args' h Post) (h2:∀ v h',Post v h'→K v h'):CallP X lo g args h K:=by
  subst e;exact callP h1 h2
theorem markFeet_ok {base:Nat} (s:Sc) (o1 o2 o3:Option (Nat×Nat)) (L:List Value) (k:Int) (h:Hp) (r:ScO base h s o1 o2 o3 L) (hlo:lo≤base) (hn:s.ft.length≤1048576) (ht:totL s.ft≤1048576) (hk:0≤k∧k≤2 ^ 39):Tri X lo 75 [gv o3 s.ft.length,.int .i64 k] h fun v h'=>v = .int .i64 (k+totL s.ft)∧ScO base h' ⟨s.g,s.li,feetM k s.ft⟩ o1 o2 o3 L∧h'.n=h.n∧∀ i,i∉blks L→h'.g i=h.g i:=by
  obtain ⟨fa,ff,z,fs⟩:=gx_slv r.g3 vE1_len
  rw [r.len] at z
  rw [z]
  refine enter tbOk mtOk ⟨[],[]⟩ 400 Tryz.func75 rfl rfl rfl fun hlo' => ?_
  refine loop (σ:=Nat) tbOk mtOk ⟨[],[]⟩ (fun i=>[(5,.v (.int .i64 (i:Int))),(0,.v (.slice fa s.ft.length ff)),(1,.v (.int .i64 (k+totL (s.ft.take i))))]) (fun _=>[]) (fun i h'=>i≤s.ft.length∧ScO base h' ⟨s.g,s.li,feetI k s.ft i⟩ o1 o2 o3 L∧h'.n=h.n∧∀ j,j∉blks L→h'.g j=h.g j) (fun i=>s.ft.length - i) 400 0 (fun _=>rfl) ⟨rfl,rfl,?_,trivial⟩ trivial ⟨Nat.zero_le _,r,rfl,fun _ _=>rfl⟩ (fun i h' hI again => ?_)
  · show some (Sl.v (.int .i64 k))=some (Sl.v (.int .i64 (k+((0:Nat):Int))))
    simp
  obtain ⟨i1,r',i3,i4⟩:=hI
  refine cnd (fun c1 => ?_) (fun c1 => ?_)
  · have c1:i < s.ft.length:=by simp at c1;omega
    have cL:i < L.length:=by rw [r.len];exact c1
    have t1:=totL_get c1
    have fs':Sls h' vE1 1 fa L:=by
      obtain ⟨fa',ff',z',fs'⟩:=gx_slv r'.g3 vE1_len
      rw [r.len] at z'
      have:=z.symm.trans z'
      injection this with e1 _ _
      rw [e1];exact fs'
    have hLi:=List.getElem?_eq_getElem cL
    have ow:=r'.el i L[i] s.ft[i] hLi (feetI_get c1)
    obtain ⟨o,hx,g⟩:=ow
    obtain ⟨ad,rfl⟩:=fs'.some cL
    have ld:=fs'.ld vE1_len cL
    refine And.intro ⟨by omega,by omega⟩ ?_
    refine ⟨_,ld,?_⟩
    have g':GR lo h' o s.ft[i]:=g.up fun b hb=>by have:=(g.lt hb).2;omega
    refine callE2 (by rw [hx]) (markGR_ok o s.ft[i] (k+totL (s.ft.take i)) h' g' (by omega) (by omega)) ?_
    rintro v h1 ⟨rfl,m1,m2,m3⟩
    have hB:∀ j,blkOf L[i]=some j↔isB o j:=fun j=>by
      rw [hx]
      cases o with
      | none=>exact ⟨fun q=>(by cases q),fun ⟨e,q⟩=>(by cases q)⟩
      | some p =>
        obtain ⟨b,e⟩:=p
        constructor
        · intro q
          have:some b=some j:=q
          exact ⟨e,by rw [Option.some.inj this]⟩
        · rintro ⟨e',q⟩
          obtain ⟨rfl,rfl⟩:=Prod.mk.inj (Option.some.inj q)
          rfl
    have m1':OwE base h1 L[i] (marks (k+totL (s.ft.take i)) s.ft[i].length):=⟨o,by rw [marks_len];exact hx,m1.up fun b hb=>by
      have:=(g.lt hb).2;omega⟩
    have r1:=r'.setE hLi m2 (fun j hj=>m3 j fun q=>hj ((hB j).2 q)) m1'
    have r1:ScO base h1 ⟨s.g,s.li,feetI k s.ft (i+1)⟩ o1 o2 o3 L:=by rw [← feetI_set c1];exact r1
    refine again (i+1) _ _ _ (by omega) ⟨vI (wz (by omega) (by omega)),rfl,?_,trivial⟩ trivial ⟨by omega,r1,by omega,fun j hj=>(m3 j fun q=>hj (mem_blks.2 ⟨i,L[i],hLi,(hB j).2 q⟩)).trans (i4 j hj)⟩
    show some (Sl.v (.int .i64 (k+totL (s.ft.take i)+s.ft[i].length)))=some (Sl.v (.int .i64 (k+totL (s.ft.take (i+1)))))
    rw [totL_take c1];congr 3;omega
  · have c1:s.ft.length=i:=by simp at c1;omega
    have e:feetI k s.ft i=feetM k s.ft:=by unfold feetI;rw [← c1,List.drop_length,List.append_nil,List.take_of_length_le (by rw [feetM_len];omega)]
    rw [e] at r'
    refine ⟨?_,r',i3,i4⟩
    rw [← c1,List.take_length]
theorem markScene_ok {base:Nat} (s:Sc) (o1 o2 o3:Option (Nat×Nat)) (L:List Value) (k:Int) (h:Hp) (r:ScO base h s o1 o2 o3 L) (hlo:lo≤base) (hb:ScB s) (ht:totL s.ft≤1048576) (hk:0≤k∧k≤1048576):Tri X lo 28 [scOV s o1 o2 o3,.int .i64 k] h fun v h'=>v = .int .i64 (k+2*s.g.cs.length+s.li.length+totL s.ft)∧ScO base h' (markS s k) o1 o2 o3 L∧h'.n=h.n∧∀ i,i < base→h'.g i=h.g i:=by
  have b1:=hb.g
  have b2:=hb.li
  refine enter tbOk mtOk ⟨[],[]⟩ 400 Tryz.func28 rfl rfl rfl fun hlo' => ?_
  refine callP (markGridM_ok s.g.w o1 s.g.cs k h (gx_lo r.g1 fun i hi=>by have:=(r.g1.lt hi).2;omega) b1 (by omega)) ?_
  rintro v h1 ⟨rfl,g1,n1,k1⟩
  have r1:=r.setG n1 k1 (gx_lo g1 fun i hi=>(r.g1.lt hi).2)
  refine callP (markIntS_ok o2 s.li (k+2*s.g.cs.length) h1 (gx_lo r1.g2 fun i hi=>by have:=(r1.g2.lt hi).2;omega) b2 (by omega)) ?_
  rintro v h2 ⟨rfl,g2,n2,k2⟩
  have r2:=r1.setL n2 k2 (gx_lo g2 fun i hi=>(r.g2.lt hi).2)
  refine callP (markFeet_ok ⟨⟨s.g.w,marksC k s.g.cs.length⟩,marks (k+2*s.g.cs.length) s.li.length,s.ft⟩ o1 o2 o3 L (k+2*s.g.cs.length+s.li.length) h2 r2 hlo hb.ft ht (by omega)) ?_
  rintro v h3 ⟨rfl,r3,n3,k3⟩
  refine ⟨rfl,r3,by omega,fun i hi => ?_⟩
  have a1:¬isB o1 i:=fun q=>by have:=(r.g1.lt q).2;omega
  have a2:¬isB o2 i:=fun q=>by have:=(r.g2.lt q).2;omega
  have a3:i∉blks L:=fun q=>by
    have:=(r.lt (b:=i) (by simp only [List.mem_append];exact .inr q)).2;omega
  exact (k3 i a3).trans ((k2 i a2).trans (k1 i a1))
end
end Go.Proofs.YtgmkdjjcleobhaaGreat.Id
namespace Go.Proofs.YtgmkdjjcleobhaaGreat.Id
open Go.Id Go.Conc Go.Conc.Lib
open Go.Proofs
set_option linter.unusedVariables false
set_option maxRecDepth 100000
theorem markS_len (s:Sc) (k:Int):(markS s k).g.cs.length=s.g.cs.length∧(markS s k).li.length=s.li.length∧(markS s k).ft.length=s.ft.length:=⟨marksC_len _ _,marks_len _ _,feetM_len _ _⟩
theorem ScO.same {base:Nat} {h':Hp} {s t:Sc} {o1 o2 o3:Option (Nat×Nat)} {L:List Value} {ga la fa:Option Addr} {gf lf ff:Nat} (r':ScO base h' t o1 o2 o3 L) (z:scOV s o1 o2 o3=scV s ga la fa gf lf ff) (e1:t.g.cs.length=s.g.cs.length) (e2:t.li.length=s.li.length) (e3:t.ft.length=s.ft.length):ScR h' t ga la fa L:=by
  unfold scOV scV at z
  have z:gv o1 s.g.cs.length = .slice ga s.g.cs.length gf∧gv o2 s.li.length = .slice la s.li.length lf∧gv o3 s.ft.length = .slice fa s.ft.length ff:=by simpa using z
  obtain ⟨z1,z2,z3⟩:=z
  obtain ⟨a1,f1,y1,s1⟩:=gx_slv r'.g1 cE2
  obtain ⟨a2,f2,y2,s2⟩:=gx_slv r'.g2 fun _=>rfl
  obtain ⟨a3,f3,y3,s3⟩:=gx_slv r'.g3 vE1_len
  rw [e1] at y1
  rw [e2] at y2
  rw [r'.len,e3] at y3
  have q1:=z1.symm.trans y1
  have q2:=z2.symm.trans y2
  have q3:=z3.symm.trans y3
  injection q1 with q1
  injection q2 with q2
  injection q3 with q3
  subst q1;subst q2;subst q3
  exact ⟨s1,s2,s3,r'.len,fun j x l h1 h2=>(r'.el j x l h1 h2).sl⟩
theorem totL_bd {c:Nat}:∀ (ls:List (List Int)),(∀ l∈ls,l.length≤c)→totL ls≤ls.length*c
  | [],_=>by simp [totL]
  | l::ls,h=>by
    have h1:=h l List.mem_cons_self
    have h2:=totL_bd ls fun x hx=>h x (List.mem_cons_of_mem _ hx)
    unfold totL at h2 ⊢
    simp only [List.map_cons,List.sum_cons,List.length_cons]
    rw [Nat.add_mul];omega
theorem newS_tot (g:Gd):totL (newS g).ft≤1048576:=by
  by_cases hg:gOk g=true
  · rw [show newS g=scG g by unfold newS;rw [if_pos hg]]
    obtain ⟨h1,h2,h3⟩:=hi_ok hg
    obtain ⟨g1,g2,g3,g4,_⟩:=gOk_iff.1 hg
    have hm:many g≤20:=by unfold many;omega
    obtain ⟨_,l2⟩:=scG_len g
    have hc:g.cs.length≤25:=by omega
    have:=totL_bd (c:=25) (scG g).ft fun l hl=>by have:=feetG_el g l hl;omega
    have h2:(scG g).ft.length*25≤20*25:=Nat.mul_le_mul_right _ (by omega)
    omega
  · rw [show newS g=sc0 by unfold newS;rw [if_neg hg]];decide
section
variable {N0:Nat→Prop} {lo:Nat}
set_option maxHeartbeats 1600000 in
theorem exactSceneNew_R (g:Gd) (a:Option Addr) (fl:Nat) (h:Hp) (hs:Sls h cE 2 a g.cs) (hn:g.cs.length≤9223372036854775807) (hlo:lo≤h.n) :
    R (mainCtx Tryz.prog N0) lo 5 Tryz.f5 (.ret fun v _=>v = .bool true) [.code (bodyC Tryz.f5)] (argsTm 0 [.agg #[.int .i64 g.w,.slice a g.cs.length fl]]) [] h:=by
  refine more tbOk mtOk ⟨[],[(10,[0,1,2,3,4],[0,0,2,7,15])]⟩ 500 ?_
  refine callP (szGrid_ok g.w a g.cs.length fl 1048576 h ⟨by decide,by decide⟩ hn) ?_
  rintro v h1 ⟨rfl,rfl⟩
  refine cnd (fun c1=>rfl) (fun c1 => ?_)
  have hn1:g.cs.length≤1048576:=by
    by_cases q:(g.cs.length:Int)≤1048576
    · omega
    · rw [if_neg q] at c1;simp at c1
  have hn2:(g.cs.length:Int) < 2 ^ 31:=by omega
  have sB:=newS_B (g:=g)
  have sT:=newS_tot g
  have b1':=sB.g
  have b2':=sB.li
  refine callP (toGrid_ok g a fl _ hs hn1) ?_
  rintro v h2 ⟨b1,rfl,q1,q2,q3,q4⟩
  refine Tri.n rfl (sSceneNew_ok g _ _ h2 (q3.sls cE2) hn2) fun h3 wg wl wf wgf wlf wff Lw Rw w4 => ?_
  refine callP (toGrid_ok g a fl _ (hs.ext (q4.trans w4)) hn1) ?_
  rintro v h4 ⟨b2,rfl,x1,x2,x3,x4⟩
  refine callP (SceneNew_ok g _ _ h4 (x3.sls cE2) hn2) ?_
  rintro v h5 ⟨⟨o1,o2,o3,L,rfl,rO⟩,p7⟩
  obtain ⟨xg,xl,xf,xgf,xlf,xff,z,R5⟩:=rO.read
  rw [z]
  generalize hsd:newS g=s at *
  obtain ⟨kk,hkk⟩:∃ kk,kk=gOk g:=⟨_,rfl⟩
  rw [← hkk]
  refine callP (eqScene_ok s s xg xl xf wg wl wf xgf xlf xff wgf wlf wff L Lw h5 R5 (Rw.ext (x4.trans p7)) sB) ?_
  rintro v h5' ⟨rfl,rfl⟩
  refine cnd (fun c=>by simp at c) (fun _ => ?_)
  refine cnd (fun c=>by simp at c) (fun _ => ?_)
  refine And.intro (by kernel_rfl) ?_
  have e5:=((q4.trans w4).trans x4).trans p7
  refine callP (toGrid_ok g a fl _ (hs.ext e5) hn1) ?_
  rintro v h6 ⟨b3,rfl,y1,y2,y3,y4⟩
  refine And.intro Is.r ?_
  have x6:Row h6 b2 0 cE 2 g.cs:=(x3.ext p7).ext y4
  refine callP (eqGrid_ok g g _ _ _ _ _ (x6.sls cE2) (y3.sls cE2) hn1) ?_
  rintro v h6' ⟨rfl,rfl⟩
  refine cnd (fun c=>by simp at c) (fun _ => ?_)
  refine callP (markGrid_ok g.w b2 0 g.cs 1 _ x1 x6 hn1 (by decide)) ?_
  rintro v h7 ⟨rfl,m1,m2⟩
  refine cnd (fun c=>absurd (of_decide_eq_true c) (by omega)) (fun _ => ?_)
  have lb2:b2 < h4.n:=x3.lt
  have n34:=x4.n
  have n45:=p7.n
  have n56:=y4.n
  have E37:Ext h3 h7:=⟨by omega,fun i hi=>(m2 i (by omega)).trans (((x4.trans p7).trans y4).g i hi)⟩
  have r7:ScO h4.n h7 s o1 o2 o3 L:=(rO.ext y4).keep (by omega) fun b hb=>m2 b (by have:=((rO.ext y4).lt hb).2;omega)
  have R7:=r7.same z rfl rfl rfl
  refine callP (eqScene_ok s s xg xl xf wg wl wf xgf xlf xff wgf wlf wff L Lw h7 R7 (Rw.ext E37) sB) ?_
  rintro v h7' ⟨rfl,rfl⟩
  refine cnd (fun c=>by simp at c) (fun _ => ?_)
  refine cnd (fun c=>by simp at c) (fun _ => ?_)
  have n23:=w4.n
  have n02:=q4.n
  refine callE2 (show [scV s xg xl xf xgf xlf xff,.int .i64 1]=[scOV s o1 o2 o3,.int .i64 1] by rw [z]) (markScene_ok s o1 o2 o3 L 1 h7' r7 (by omega) sB sT (by decide)) ?_
  rintro v h8 ⟨rfl,r8,n8,k8⟩
  obtain ⟨u1,u2,u3⟩:=markS_len s 1
  have R8:=r8.same z u1 u2 u3
  refine callP (heldScene_ok s xg xl xf xgf xlf xff L 1 h8 R8 sB sT (by decide)) ?_
  rintro v h8' ⟨rfl,rfl⟩
  refine cnd (fun c=>absurd (of_decide_eq_true c) (by omega)) (fun _ => ?_)
  refine cnd (fun c=>by simp at c) (fun _ => ?_)
  have E38:Ext h3 h8':=⟨by have:=E37.n;omega,fun i hi=>(k8 i (by omega)).trans (E37.g i hi)⟩
  have e8:=(q4.trans w4).trans E38
  refine callP (toGrid_ok g a fl _ (hs.ext e8) hn1) ?_
  rintro v h9 ⟨b4,rfl,z1,z2,z3,z4⟩
  have t:=SceneNew_ok (N0:=N0) (lo:=lo) g _ 1 h9 (z3.sls cE2) hn2
  refine Tri.n rfl t fun h10 yg yl yf ygf ylf yff Ly Ry s7 => ?_
  rw [hsd] at Ry ⊢
  rw [← hkk]
  refine callP (eqScene_ok s s yg yl yf wg wl wf ygf ylf yff wgf wlf wff Ly Lw h10 Ry (Rw.ext ((E38.trans z4).trans s7)) sB) ?_
  rintro v h10' ⟨rfl,rfl⟩
  refine cnd (fun c=>by simp at c) (fun _ => ?_)
  refine cnd (fun c=>by simp at c) (fun _ => ?_)
  refine callP (heldScene_ok s xg xl xf xgf xlf xff L 1 h10' (R8.ext (z4.trans s7)) sB sT (by decide)) ?_
  rintro v h11 ⟨rfl,rfl⟩
  refine cnd (fun c=>absurd (of_decide_eq_true c) (by omega)) (fun _ => ?_)
  refine cnd (fun c=>by simp at c) (fun _ => ?_)
  rfl
end
end Go.Proofs.YtgmkdjjcleobhaaGreat.Id
namespace Go.Proofs.YtgmkdjjcleobhaaGreat.fnExactSceneNew
open Go.ChangeShapes Go.WideShapes Go.ChangeAt Go.RowKit Go.Id Go.Conc Go.Proofs.YtgmkdjjcleobhaaGreat.Id
set_option linter.unusedVariables false
theorem own:ownKnob Tryz.prog.godebug=none:=by kernel_rfl
theorem laidOut:laidOutB Tryz.prog=true:=by kernel_rfl
section
variable {H:Type} {enc:TypeId×Value→H} {W:World} {base:Nat} {spare:Nat→Bool} {held:Bool}
theorem dec_int (n:Nat) (cs:List Value) (y:DataW H×List MemPlace) (h:DataW.trod enc Tryz.prog W base spare held n 3 cs=some y):∃ q:Int,cs=iE q:=by
  obtain ⟨q,e,_⟩:=DataW.trod_int Tryz.underlying3 h
  exact ⟨q,e⟩
theorem cells_int:Tryz.prog.cellsOf 3=1:=by kernel_rfl
theorem cells_cell:Tryz.prog.cellsOf 59=2:=by kernel_rfl
theorem cells_grid:Tryz.prog.cellsOf 44=2:=by kernel_rfl
set_option maxRecDepth 100000 in
theorem dec_cell (n:Nat) (cs:List Value) (y:DataW H×List MemPlace) (h:DataW.trod enc Tryz.prog W base spare held n 59 cs=some y):∃ q:Cl,cs=cE q:=by
  obtain ⟨y0,y1,m,_,hl,h0,h1⟩:=trod_struct2 Tryz.underlying59 h
  obtain ⟨a,ea⟩:=dec_int _ _ _ h0
  obtain ⟨b,eb⟩:=dec_int _ _ _ h1
  rw [cells_cell] at hl
  match cs,hl with
  | [c0,c1],_ =>
    have fa:[c0]=iE a:=by simpa [cells_int] using ea
    have fb:[c1]=iE b:=by simpa [cells_int] using eb
    simp only [iE,List.cons.injEq,and_true] at fa fb
    subst fa;subst fb
    exact ⟨(a,b),rfl⟩
set_option maxRecDepth 100000 in
theorem in_grid {b0:Nat} {r:Reach} {v:Value} {d:DataW H} {p:List MemPlace} {s:Sim} {h:Hp} (I:InOk W s h) (hv:Value.okWide Tryz.prog W r b0 44 v) (ht:DataW.Trod enc Tryz.prog W base spare held 44 v d p) :
    ∃ (s':Sim) (h':Hp) (g:Gd) (a:Option Addr) (fl:Nat),InOk W s' h'∧s.le s'∧Ext h h'∧VR s' (.agg #[.int .i64 g.w,.slice a g.cs.length fl]) v∧Sls h' cE 2 a g.cs∧g.cs.length≤Go.maxLen:=by
  have hv0:=hv
  obtain ⟨c0,c1,y0,y1,n,rfl,_,_,t0,t1⟩:=Joins.open_agg2 Tryz.underlying44 (by kernel_rfl) cells_grid hv ht
  obtain ⟨w,e0⟩:=dec_int _ _ _ t0
  obtain ⟨A,cap,l,rfl,hl,hm,hn,hc⟩:=open_plain (en:=cE) (sz:=2) Tryz.underlying42 cells_cell (by decide) cE2 dec_cell t1
  simp only [iE,List.cons.injEq,and_true] at e0
  subst e0
  have hpl:∀ v∈l.flatMap cE,plainV v=true∧v.oneCell'=true:=by
    intro v hv
    obtain ⟨q,_,hq⟩:=List.mem_flatMap.1 hv
    simp only [cE,List.mem_cons,List.not_mem_nil,or_false] at hq
    rcases hq with rfl | rfl<;>exact ⟨rfl,rfl⟩
  have hblk:∀ a,A=some a→l=[]→∃ b0,b0 < W.heap.size:=by
    intro a ha hl0
    subst ha
    exact ⟨a.block,block_agg Tryz.underlying44 hv0 (i:=1) rfl⟩
  obtain ⟨s',h',A',fl,I',l1,e1,v1,s1⟩:=I.slice (enc:=cE) cE2 (by decide) A cap hl (VRm.of_plain s hpl) hc hn hblk
  · refine ⟨s',h',⟨w,l⟩,A',fl,I',l1,e1,.agg _ _ rfl (fun i x y hx hy => ?_) (fun y hy => ?_),s1,Nat.le_trans hl hm⟩
    · rcases i with _ | _ | i
      · simp at hx hy;subst hx;subst hy;exact .int _ _
      · simp at hx hy;subst hx;subst hy;exact v1
      · simp at hx
    · simp at hy
      rcases hy with rfl | rfl<;>rfl
end
set_option maxRecDepth 100000 in
theorem lifted (os:Os) (started:os.Started) (H:Type) (enc:TypeId×Value→H) :
    ReturnsInLeavingWide {} Tryz.checked os 5 .any (Rows.fnExactSceneNewSpec.pre6 enc Tryz.prog Tryz.f5 Rows.fnExactSceneNewRow.domain false) (Rows.fnExactSceneNewSpec.post enc Tryz.prog Tryz.f5 false true false false):=by
  refine returnsInLeavingWide_of_change_sized (C:=Tryz.checked) own started Tryz.func5
    (ChangeSpec.witness6 (enc:=enc) (C:=Tryz.checked) false ⟨#[],#[.agg #[.int .i64 0,.slice none 0 0]],[]⟩ 8 (by kernel_rfl) (by kernel_rfl) (by kernel_rfl) (by kernel_rfl)) ?_
  intro W base args ds gs before hval0 hW hcnd hsz0 _
  have hval:∀ (j:Nat) t v,Tryz.f5.params[j]? = some t→args[j]? = some v→Value.okWide Tryz.prog W .any base t v:=hval0
  have hW':=hW
  obtain ⟨p,q,hA0,hV,rfl,hfz,hnd⟩:=hW
  have hA:DataW.TrodAll enc Tryz.prog W 0 (fun _=>true) true Tryz.f5.params.toList args.toList ds p:=hA0
  rw [Tryz.params5] at hA hval
  obtain ⟨v0,vs0,d0,ds0,p0,q0,hargs,rfl,rfl,h0,r0⟩:=trodAll_cons hA
  obtain ⟨rfl,rfl,rfl⟩:=trodAll_nil r0
  obtain rfl:args=#[v0]:=by cases args;simp_all
  obtain ⟨rfl,rfl⟩:=trodVars_none hV
  have k0:=h0
  have lt0:∀ x∈p0,x.block < W.heap.size:=by obtain ⟨m,hm⟩:=k0;exact DataW.trod_lt m _ _ _ hm
  obtain ⟨s,h,g,a,fl,I,_,_,V,S,hn⟩:=in_grid (InOk.nil W) (hval 0 44 v0 rfl rfl) h0
  clear hA0 hval0 hsz0
  obtain ⟨M,last,o,w',t',g1,g2,g3,g4⟩:=main_run (lo:=h.n) (Post:=fun v _=>v = .bool true) (argsr:=#[v0]) (args:=[.agg #[.int .i64 g.w,.slice a g.cs.length fl]]) Tryz.func5 rfl (Nat.le_of_ble_eq_true rfl) (by kernel_rfl) I (VRs.cons V (VRs.nil s)) (exactSceneNew_R g a fl h S (Nat.le_trans hn (by unfold Go.maxLen;exact Nat.le_refl _)) (Nat.le_refl _))
  refine ⟨M,last,o,w',t',g1,g2,g3,g4.mono fun vr ht => ?_⟩
  obtain ⟨v,h',s',O',rfl,_,_,hv,K⟩:=ht
  obtain rfl:vr = .bool true:=VR.bool_inv hv
  have bel:=below_of K
  exact ⟨_,_,_,[],_,[],hW',trodAll_mk1 (shut_bool Tryz.underlying4 _),trodAll_cons_mk (Trod_tape (Below.trod laidOut (by kernel_rfl) (of_decide_eq_true (by kernel_rfl)) k0 bel lt0)) trodAll_mk0,rfl,kept_frame K _,fun h=>by cases h⟩
theorem j2:laidOutB Tryz.pinned.checked.prog=true:=by kernel_rfl
theorem j3:mapsRowed Tryz.pinned.checked.prog=true:=by kernel_rfl
theorem j10:(Rows.fnExactSceneNewRow.inPlace == Program.inPlace Tryz.pinned.checked.prog 5)=true:=by kernel_rfl
theorem j11:(Rows.fnExactSceneNewRow.unfollowed == Program.unfollowed Tryz.pinned.checked.prog 5)=true:=by kernel_rfl
theorem j12:(Rows.fnExactSceneNewRow.recurses == Program.recurses Tryz.pinned.checked.prog 5)=true:=by kernel_rfl
theorem j13:(Rows.fnExactSceneNewRow.named == Program.varsNamed Tryz.pinned.checked.prog 5)=true:=by kernel_rfl
theorem j23:(Rows.fnExactSceneNewRow.plainKeys == Program.plainKeys Tryz.pinned.checked.prog)=true:=by kernel_rfl
theorem j25:Program.stopsHeard Tryz.pinned.checked.prog=true:=by kernel_rfl
theorem j26:Program.mayEnter Tryz.pinned.checked.prog=true:=by kernel_rfl
theorem j27:(Rows.fnExactSceneNewRow.lifted == Program.liftsFinal Tryz.pinned.checked.prog)=true:=by kernel_rfl
theorem j28:(Program.make Tryz.pinned.checked.prog == some Rows.fnExactSceneNewRow.make)=true:=by kernel_rfl
theorem closed:joinedFacts Tryz.pinned.checked.prog 5 Tryz.f5 Rows.fnExactSceneNewSpec Rows.fnExactSceneNewRow=true :=
  joined_of (by kernel_rfl) j2 j3 (by kernel_rfl) (by kernel_rfl) (by kernel_rfl) (by kernel_rfl) (by kernel_rfl) (by kernel_rfl) j10 j11 j12 j13 (by kernel_rfl) (by kernel_rfl) (by kernel_rfl) (by kernel_rfl) (by kernel_rfl) (by kernel_rfl) (by kernel_rfl) (by kernel_rfl) (by kernel_rfl) j23 (by kernel_rfl) j25 j26 j27 j28 (by kernel_rfl) (by kernel_rfl) (by kernel_rfl) (by kernel_rfl)
theorem over:Rows.fnExactSceneNewRow.holds Tryz.pinned (OpenSpec.ofChange Rows.fnExactSceneNewSpec) :=
  OpenClaim.holds_of_wide_leaving 5 Tryz.f5 rfl rfl rfl rfl rfl rfl rfl ⟨rfl,rfl,rfl,rfl,rfl⟩ rfl rfl rfl rfl rfl (by kernel_rfl) Tryz.func5 closed
    (of_decide_eq_true (by kernel_rfl)) (by unfold Func.isWrapper;first | (rw [if_pos (by decide +kernel)];kernel_rfl) | (rw [if_neg (by decide +kernel)];exact ⟨rfl,rfl⟩))
    (fun os started H enc _=>lifted os started H enc)
theorem proved:Rows.FnExactSceneNewSaid:=over
#print axioms proved
end Go.Proofs.YtgmkdjjcleobhaaGreat.fnExactSceneNew
namespace Go.Proofs.YtgmkdjjcleobhaaGreat
theorem fnExactSceneNew_holds:Rows.FnExactSceneNewSaid:=fnExactSceneNew.proved
end Go.Proofs.YtgmkdjjcleobhaaGreat
