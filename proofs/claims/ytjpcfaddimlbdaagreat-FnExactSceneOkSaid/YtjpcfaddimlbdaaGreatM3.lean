/- Texts of this claim, joined: Sg, Sh, Si, Sj, Sk, Sl, Ta, Ua, Va, Tb, Ct, Ub, IdR, IdU, IdV, IdV2, IdW, IdX, IdY, IdY2, IdZ1, IdZ2, IdZ3, IdZ4, IdS, IdZ5. -/
import Derived.Test.YtjpcfaddimlbdaaGreatM2
import Derived.Sort.Walk13a
import Derived.Sort.AssemblyPlain
import Derived.Conc.Beside
import Derived.Conc.FxBegin
import Derived.Conc.CrowdBase
import Derived.Conc.WgGenN3
import Derived.Conc.CrowdStepW
import Derived.Conc.CrowdComm
namespace Go.Proofs.YtjpcfaddimlbdaaGreat.Id
open Go.Id Go.Sort
open Go.Proofs
set_option linter.unusedVariables false
set_option maxRecDepth 100000
variable {X:Ctx Tryz.prog} {lo:Nat}
theorem scanSorted_go {d:Array Int} {c x:Nat} (h1:x < c) (h2:ltInt d[x]! d[x - 1]! = false):scanSorted ltInt d c x=scanSorted ltInt d c (x+1):=by
  rw [scanSorted,if_pos (by rw [h2,decide_eq_true h1];rfl)]
theorem scanSorted_far {d:Array Int} {c x:Nat} (h1:¬ x < c):scanSorted ltInt d c x=x:=by
  rw [scanSorted,if_neg (by rw [decide_eq_false h1];simp)]
theorem scanSorted_stop {d:Array Int} {c x:Nat} (h2:ltInt d[x]! d[x - 1]! = true):scanSorted ltInt d c x=x:=by
  rw [scanSorted,if_neg (by rw [h2];simp)]
theorem shiftDown_go {d:Array Int} {j:Nat} (h1:1≤j) (h2:ltInt d[j]! d[j - 1]! = true):Go.Sort.shiftDown ltInt j d=Go.Sort.shiftDown ltInt (j - 1) (swp d j (j - 1)):=by
  obtain ⟨k,rfl⟩:∃ k,j=k+1:=⟨j - 1,by omega⟩
  simp only [Nat.add_sub_cancel] at h2 ⊢
  rw [Go.Sort.shiftDown,if_neg (by rw [h2];simp)]
theorem shiftDown_stop {d:Array Int} {j:Nat} (h2:ltInt d[j]! d[j - 1]! = false):Go.Sort.shiftDown ltInt j d=d:=by
  cases j with
  | zero=>rfl
  | succ k =>
    simp only [Nat.add_sub_cancel] at h2
    rw [Go.Sort.shiftDown,if_pos (by rw [h2];rfl)]
theorem shiftUp_go {d:Array Int} {c j:Nat} (h1:j < c) (h2:ltInt d[j]! d[j - 1]! = true):shiftUp ltInt c j d=shiftUp ltInt c (j+1) (swp d j (j - 1)):=by
  rw [shiftUp,if_pos h1,if_neg (by rw [h2];simp)]
theorem shiftUp_stop {d:Array Int} {c j:Nat} (h2:ltInt d[j]! d[j - 1]! = false):shiftUp ltInt c j d=d:=by
  rw [shiftUp]
  split
  · rw [if_pos (by rw [h2];rfl)]
  · rfl
theorem shiftUp_far {d:Array Int} {c j:Nat} (h1:¬ j < c):shiftUp ltInt c j d=d:=by
  rw [shiftUp,if_neg h1]
theorem partialInsertionSort_ok (b e n fl:Nat) (d0:Array Int) (a c:Nat) (h:Hp) (r0:AR h b e d0) (hn:d0.size=n) (ha:a < c) (hc:c≤n) (hN:n < 2 ^ 31) (hb:lo≤b):Tri X lo 144 [sa b e n fl,.int .i64 (a:Int),.int .i64 (c:Int)] h fun v h'=>v = .bool (partialInsertionSort ltInt d0 a c).2∧PA b e n h (partialInsertionSort ltInt d0 a c).1 h':=by
  refine enter tbOk mtOk ⟨[],[(5,[0,1,2,3,4,5,6,7,8,9,10,11,12,13,14,15],[0,0,3,7,15,15,63,127,15,15,527,1807,3855,8191,16383,32767]),(11,[0,1,2,3,4,5,6,7,8,9,10,11,12,13,14,15,16,17],[0,0,0,0,8,0,0,64,224,480,0,0,3072,7168,16355,32739,65535,131071]),(16,[0,1,2,3,4,5,6,7,8,9,10],[0,0,3,7,0,0,32,112,240,511,1023]),(17,[0,1,2,3,4,5,6,7,8,9,10,11,12,13,14,15,16,17],[0,0,0,0,8,0,0,64,224,480,0,0,3072,7168,16355,32739,65535,131071]),(22,[0,1,2,3,4,5,6,7,8,9,10],[0,0,3,7,0,0,32,112,240,511,1023]),(23,[0,1,2,3,4,5,6,7,8,9,10,11,12,13,14,15,16,17],[0,0,0,0,8,0,0,64,224,480,0,0,3072,7168,16355,32739,65535,131071])]⟩ 400 Tryz.func144 rfl rfl rfl fun hlo => ?_
  have w1:IntKind.i64.wrap ((a:Int)+1)=((a+1:Nat):Int):=wz (by omega) (by omega)
  refine loop (σ:=Nat×Nat×Array Int) tbOk mtOk ⟨[],[(5,[0,1,2,3,4,5,6,7,8,9,10,11,12,13,14,15],[0,0,3,7,15,15,63,127,15,15,527,1807,3855,8191,16383,32767]),(11,[0,1,2,3,4,5,6,7,8,9,10,11,12,13,14,15,16,17],[0,0,0,0,8,0,0,64,224,480,0,0,3072,7168,16355,32739,65535,131071]),(16,[0,1,2,3,4,5,6,7,8,9,10],[0,0,3,7,0,0,32,112,240,511,1023]),(17,[0,1,2,3,4,5,6,7,8,9,10,11,12,13,14,15,16,17],[0,0,0,0,8,0,0,64,224,480,0,0,3072,7168,16355,32739,65535,131071]),(22,[0,1,2,3,4,5,6,7,8,9,10],[0,0,3,7,0,0,32,112,240,511,1023]),(23,[0,1,2,3,4,5,6,7,8,9,10,11,12,13,14,15,16,17],[0,0,0,0,8,0,0,64,224,480,0,0,3072,7168,16355,32739,65535,131071])]⟩ (fun s=>[(8,.v (.int .i64 (s.1:Int))),(7,.v (.int .i64 (s.2.1:Int))),(0,.v (sa b e n fl)),(1,.v (.int .i64 (a:Int))),(2,.v (.int .i64 (c:Int)))]) (fun _=>[]) (fun s h'=>s.1≤5∧(a < s.2.1∧s.2.1≤c)∧Ext1 b h h'∧AR h' b e s.2.2∧s.2.2.size=n∧partialIns ltInt a c (5 - s.1) s.2.1 s.2.2=partialInsertionSort ltInt d0 a c) (fun s=>5 - s.1) 400 (0,a+1,d0) (fun _=>rfl) ⟨rfl,vI w1,rfl,rfl,rfl,trivial⟩ trivial ⟨by show 0≤5;omega,⟨by show a < a+1;omega,by show a+1≤c;omega⟩,(Ext.refl _).one b,r0,hn,rfl⟩ (fun s h1 hI again => ?_)
  obtain ⟨j1,j2,j3,j4,j5,j6⟩:=hI
  generalize partialInsertionSort ltInt d0 a c=RR at *
  refine cnd (fun c1 => ?_) (fun c1 => ?_)
  · have c1:s.1 < 5:=by have:=of_decide_eq_true c1;omega
    rw [show 5 - s.1=(5 - (s.1+1))+1 from by omega,partialIns] at j6
    have ws:IntKind.i64.wrap ((s.1:Int)+1)=((s.1+1:Nat):Int):=wz (by omega) (by omega)
    refine loopX (σ:=Nat) tbOk mtOk ⟨[],[(5,[0,1,2,3,4,5,6,7,8,9,10,11,12,13,14,15],[0,0,3,7,15,15,63,127,15,15,527,1807,3855,8191,16383,32767]),(11,[0,1,2,3,4,5,6,7,8,9,10,11,12,13,14,15,16,17],[0,0,0,0,8,0,0,64,224,480,0,0,3072,7168,16355,32739,65535,131071]),(16,[0,1,2,3,4,5,6,7,8,9,10],[0,0,3,7,0,0,32,112,240,511,1023]),(17,[0,1,2,3,4,5,6,7,8,9,10,11,12,13,14,15,16,17],[0,0,0,0,8,0,0,64,224,480,0,0,3072,7168,16355,32739,65535,131071]),(22,[0,1,2,3,4,5,6,7,8,9,10],[0,0,3,7,0,0,32,112,240,511,1023]),(23,[0,1,2,3,4,5,6,7,8,9,10,11,12,13,14,15,16,17],[0,0,0,0,8,0,0,64,224,480,0,0,3072,7168,16355,32739,65535,131071])]⟩ (fun x=>[(7,.v (.int .i64 (x:Int))),(8,.v (.int .i64 (s.1:Int))),(0,.v (sa b e n fl)),(1,.v (.int .i64 (a:Int))),(2,.v (.int .i64 (c:Int)))]) (fun _=>[]) (fun x h'=>(s.2.1≤x∧x≤c)∧h1=h'∧scanSorted ltInt s.2.2 c x=scanSorted ltInt s.2.2 c s.2.1) (fun x=>c - x) 5 (fun x h'=>(s.2.1≤x∧x≤c)∧h1=h'∧x=scanSorted ltInt s.2.2 c s.2.1) 400 s.2.1 (fun _=>rfl) ⟨rfl,rfl,rfl,rfl,rfl,trivial⟩ trivial ⟨⟨Nat.le_refl _,j2.2⟩,rfl,rfl⟩ (fun x hz hI again' done => ?_) (fun x hz hE => ?_)
    · obtain ⟨u0,rfl,u3⟩:=hI
      have wm:IntKind.i64.wrap ((x:Int) - 1)=((x - 1:Nat):Int)∨¬ x < c:=by
        by_cases q:x < c
        · exact .inl (wz (by omega) (by omega))
        · exact .inr q
      refine And.intro (by kernel_rfl) ?_
      refine cnd (fun k1 => ?_) (fun k1 => ?_)
      · have k1:x < c:=by have:=of_decide_eq_true k1;omega
        have wm:=wm.resolve_right (fun q=>q k1)
        have wp:IntKind.i64.wrap ((x:Int)+1)=((x+1:Nat):Int):=wz (by omega) (by omega)
        refine And.intro ⟨by omega,by omega⟩ ?_
        refine ⟨_,j4.ldI rfl (by omega),?_⟩
        refine And.intro ⟨by omega,by omega⟩ ?_
        refine ⟨_,j4.ldI wm (by omega),?_⟩
        refine callP (Less_ok _ _ _) ?_
        rintro v hy ⟨rfl,rfl⟩
        refine cnd (fun k2 => ?_) (fun k2 => ?_)
        · refine more tbOk mtOk ⟨[],[(5,[0,1,2,3,4,5,6,7,8,9,10,11,12,13,14,15],[0,0,3,7,15,15,63,127,15,15,527,1807,3855,8191,16383,32767]),(11,[0,1,2,3,4,5,6,7,8,9,10,11,12,13,14,15,16,17],[0,0,0,0,8,0,0,64,224,480,0,0,3072,7168,16355,32739,65535,131071]),(16,[0,1,2,3,4,5,6,7,8,9,10],[0,0,3,7,0,0,32,112,240,511,1023]),(17,[0,1,2,3,4,5,6,7,8,9,10,11,12,13,14,15,16,17],[0,0,0,0,8,0,0,64,224,480,0,0,3072,7168,16355,32739,65535,131071]),(22,[0,1,2,3,4,5,6,7,8,9,10],[0,0,3,7,0,0,32,112,240,511,1023]),(23,[0,1,2,3,4,5,6,7,8,9,10,11,12,13,14,15,16,17],[0,0,0,0,8,0,0,64,224,480,0,0,3072,7168,16355,32739,65535,131071])]⟩ 400 ?_
          exact again' (x+1) _ _ _ (by show c - (x+1) < c - x;omega) ⟨vI wp,rfl,rfl,rfl,rfl,trivial⟩ trivial ⟨by omega,rfl,(scanSorted_go k1 (by simpa using k2)).symm.trans u3⟩
        · exact done x _ _ _ ⟨rfl,rfl,rfl,rfl,rfl,trivial⟩ trivial ⟨u0,rfl,(scanSorted_stop (c:=c) (d:=s.2.2) (by simpa using k2)).symm.trans u3⟩
      · have k1:¬ x < c:=by have:=of_decide_eq_false k1;omega
        refine cndF ?_
        exact done x _ _ _ ⟨rfl,rfl,rfl,rfl,rfl,trivial⟩ trivial ⟨u0,rfl,(scanSorted_far k1).symm.trans u3⟩
    · obtain ⟨v0,rfl,v3⟩:=hE
      simp only [← v3] at j6
      refine cnd (fun c2 => ?_) (fun c2 => ?_)
      · have c2:x=c:=by have:=of_decide_eq_true c2;omega
        rw [if_pos c2] at j6
        rw [← j6]
        exact And.intro rfl ⟨j3,j4,j5⟩
      have c2:¬ x=c:=by have:=of_decide_eq_false c2;omega
      rw [if_neg c2] at j6
      have hx:x < c:=by omega
      have wd:IntKind.i64.wrap ((c:Int) - (a:Int))=((c - a:Nat):Int):=wz (by omega) (by omega)
      refine cnd (fun c3 => ?_) (fun c3 => ?_)
      · have c3:c - a < 50:=by have:=of_decide_eq_true c3;omega
        rw [if_pos c3] at j6
        rw [← j6]
        exact And.intro rfl ⟨j3,j4,j5⟩
      have c3:¬ c - a < 50:=by have:=of_decide_eq_false c3;omega
      rw [if_neg c3] at j6
      have wm:IntKind.i64.wrap ((x:Int) - 1)=((x - 1:Nat):Int):=wz (by omega) (by omega)
      have wp:IntKind.i64.wrap ((x:Int)+1)=((x+1:Nat):Int):=wz (by omega) (by omega)
      have wi:IntKind.i64.wrap ((x:Int) - (a:Int))=((x - a:Nat):Int):=wz (by omega) (by omega)
      have wj:IntKind.i64.wrap ((c:Int) - (x:Int))=((c - x:Nat):Int):=wz (by omega) (by omega)
      refine And.intro (by kernel_rfl) ?_
      refine And.intro ⟨by omega,by omega⟩ ?_
      refine ⟨_,j4.ldI wm (by omega),?_⟩
      refine And.intro ⟨by omega,by omega⟩ ?_
      refine ⟨_,j4.ldI rfl (by omega),?_⟩
      refine And.intro ⟨by omega,by omega⟩ ?_
      refine ⟨_,j4.stI (lo:=lo) hb rfl (i:=x) (by omega) _,?_⟩
      refine And.intro ⟨by omega,by omega⟩ ?_
      refine ⟨hsw h1 b e s.2.2 (x) (x - 1),(j4.sw1 (x) (x - 1)).stI (lo:=lo) hb wm (by rw [Array.size_setIfInBounds];omega) _,?_⟩
      have r1:=j4.sw x (x - 1)
      have z1:=swp_sz j5 x (x - 1)
      have x1:=j3.trans (hsw_ext (h:=h1) (b:=b) (e:=e) (d:=s.2.2) x (x - 1))
      generalize hsw h1 b e s.2.2 x (x - 1)=h2 at r1 x1 ⊢
      generalize swp s.2.2 x (x - 1)=d1 at r1 z1 j6
      refine cnd (fun c4 => ?_) (fun c4 => ?_)
      · have c4:x - a≥2:=by have:=of_decide_eq_true c4;omega
        simp only [if_pos c4] at j6
        refine loopX (σ:=Nat×Array Int) tbOk mtOk ⟨[],[(5,[0,1,2,3,4,5,6,7,8,9,10,11,12,13,14,15],[0,0,3,7,15,15,63,127,15,15,527,1807,3855,8191,16383,32767]),(11,[0,1,2,3,4,5,6,7,8,9,10,11,12,13,14,15,16,17],[0,0,0,0,8,0,0,64,224,480,0,0,3072,7168,16355,32739,65535,131071]),(16,[0,1,2,3,4,5,6,7,8,9,10],[0,0,3,7,0,0,32,112,240,511,1023]),(17,[0,1,2,3,4,5,6,7,8,9,10,11,12,13,14,15,16,17],[0,0,0,0,8,0,0,64,224,480,0,0,3072,7168,16355,32739,65535,131071]),(22,[0,1,2,3,4,5,6,7,8,9,10],[0,0,3,7,0,0,32,112,240,511,1023]),(23,[0,1,2,3,4,5,6,7,8,9,10,11,12,13,14,15,16,17],[0,0,0,0,8,0,0,64,224,480,0,0,3072,7168,16355,32739,65535,131071])]⟩ (fun u=>[(9,.v (.int .i64 (u.1:Int))),(7,.v (.int .i64 (x:Int))),(8,.v (.int .i64 (s.1:Int))),(0,.v (sa b e n fl)),(1,.v (.int .i64 (a:Int))),(2,.v (.int .i64 (c:Int)))]) (fun _=>[]) (fun u h'=>u.1 < x∧Ext1 b h h'∧AR h' b e u.2∧u.2.size=n∧Go.Sort.shiftDown ltInt u.1 u.2=Go.Sort.shiftDown ltInt (x - 1) d1) (fun u=>u.1) 8 (fun u h'=>Ext1 b h h'∧AR h' b e u.2∧u.2.size=n∧u.2=Go.Sort.shiftDown ltInt (x - 1) d1) 400 (x - 1,d1) (fun _=>rfl) ⟨vI wm,rfl,rfl,rfl,rfl,rfl,trivial⟩ trivial ⟨by show x - 1 < x;omega,x1,r1,z1,rfl⟩ (fun u hz hI again' done => ?_) (fun u hz hE => ?_)
        · obtain ⟨u0,u1,u2,u3,u4⟩:=hI
          refine cnd (fun k1 => ?_) (fun k1 => ?_)
          · have k1:1≤u.1:=by have:=of_decide_eq_true k1;omega
            have wk:IntKind.i64.wrap ((u.1:Int) - 1)=((u.1 - 1:Nat):Int):=wz (by omega) (by omega)
            refine more tbOk mtOk ⟨[],[(5,[0,1,2,3,4,5,6,7,8,9,10,11,12,13,14,15],[0,0,3,7,15,15,63,127,15,15,527,1807,3855,8191,16383,32767]),(11,[0,1,2,3,4,5,6,7,8,9,10,11,12,13,14,15,16,17],[0,0,0,0,8,0,0,64,224,480,0,0,3072,7168,16355,32739,65535,131071]),(16,[0,1,2,3,4,5,6,7,8,9,10],[0,0,3,7,0,0,32,112,240,511,1023]),(17,[0,1,2,3,4,5,6,7,8,9,10,11,12,13,14,15,16,17],[0,0,0,0,8,0,0,64,224,480,0,0,3072,7168,16355,32739,65535,131071]),(22,[0,1,2,3,4,5,6,7,8,9,10],[0,0,3,7,0,0,32,112,240,511,1023]),(23,[0,1,2,3,4,5,6,7,8,9,10,11,12,13,14,15,16,17],[0,0,0,0,8,0,0,64,224,480,0,0,3072,7168,16355,32739,65535,131071])]⟩ 7 ?_
            refine And.intro (by kernel_rfl) ?_
            refine And.intro ⟨by omega,by omega⟩ ?_
            refine ⟨_,u2.ldI rfl (by omega),?_⟩
            refine And.intro ⟨by omega,by omega⟩ ?_
            refine ⟨_,u2.ldI wk (by omega),?_⟩
            refine callP (Less_ok _ _ _) ?_
            rintro v hy ⟨rfl,rfl⟩
            refine cnd (fun k2 => ?_) (fun k2 => ?_)
            · exact done u _ _ _ ⟨rfl,rfl,rfl,rfl,rfl,rfl,trivial⟩ trivial ⟨u1,u2,u3,(shiftDown_stop (d:=u.2) (by simpa using k2)).symm.trans u4⟩
            · refine more tbOk mtOk ⟨[],[(5,[0,1,2,3,4,5,6,7,8,9,10,11,12,13,14,15],[0,0,3,7,15,15,63,127,15,15,527,1807,3855,8191,16383,32767]),(11,[0,1,2,3,4,5,6,7,8,9,10,11,12,13,14,15,16,17],[0,0,0,0,8,0,0,64,224,480,0,0,3072,7168,16355,32739,65535,131071]),(16,[0,1,2,3,4,5,6,7,8,9,10],[0,0,3,7,0,0,32,112,240,511,1023]),(17,[0,1,2,3,4,5,6,7,8,9,10,11,12,13,14,15,16,17],[0,0,0,0,8,0,0,64,224,480,0,0,3072,7168,16355,32739,65535,131071]),(22,[0,1,2,3,4,5,6,7,8,9,10],[0,0,3,7,0,0,32,112,240,511,1023]),(23,[0,1,2,3,4,5,6,7,8,9,10,11,12,13,14,15,16,17],[0,0,0,0,8,0,0,64,224,480,0,0,3072,7168,16355,32739,65535,131071])]⟩ 400 ?_
              refine And.intro (by kernel_rfl) ?_
              refine And.intro ⟨by omega,by omega⟩ ?_
              refine ⟨_,u2.ldI wk (by omega),?_⟩
              refine And.intro ⟨by omega,by omega⟩ ?_
              refine ⟨_,u2.ldI rfl (by omega),?_⟩
              refine And.intro ⟨by omega,by omega⟩ ?_
              refine ⟨_,u2.stI (lo:=lo) hb rfl (i:=u.1) (by omega) _,?_⟩
              refine And.intro ⟨by omega,by omega⟩ ?_
              refine ⟨_,(u2.sw1 (u.1) (u.1 - 1)).stI (lo:=lo) hb wk (by rw [Array.size_setIfInBounds];omega) _,?_⟩
              exact again' (u.1 - 1,swp u.2 u.1 (u.1 - 1)) _ _ _ (by show u.1 - 1 < u.1;omega) ⟨vI wk,rfl,rfl,rfl,rfl,rfl,trivial⟩ trivial ⟨by show u.1 - 1 < x;omega,u1.trans (hsw_ext _ _),u2.sw _ _,swp_sz u3 _ _,(shiftDown_go k1 (by simpa using k2)).symm.trans u4⟩
          · have k1:u.1=0:=by have:=of_decide_eq_false k1;omega
            exact done u _ _ _ ⟨rfl,rfl,rfl,rfl,rfl,rfl,trivial⟩ trivial ⟨u1,u2,u3,by rw [← u4,k1];rfl⟩
        · obtain ⟨u1,u2,u3,u4⟩:=hE
          rw [← u4] at j6
          clear x1 r1 z1
          obtain ⟨_,d2⟩:=u
          simp only at u2 u3 j6
          refine cnd (fun c5 => ?_) (fun c5 => ?_)
          · have c5:c - x≥2:=by have:=of_decide_eq_true c5;omega
            simp only [if_pos c5] at j6
            refine loopX (σ:=Nat×Array Int) tbOk mtOk ⟨[],[(5,[0,1,2,3,4,5,6,7,8,9,10,11,12,13,14,15],[0,0,3,7,15,15,63,127,15,15,527,1807,3855,8191,16383,32767]),(11,[0,1,2,3,4,5,6,7,8,9,10,11,12,13,14,15,16,17],[0,0,0,0,8,0,0,64,224,480,0,0,3072,7168,16355,32739,65535,131071]),(16,[0,1,2,3,4,5,6,7,8,9,10],[0,0,3,7,0,0,32,112,240,511,1023]),(17,[0,1,2,3,4,5,6,7,8,9,10,11,12,13,14,15,16,17],[0,0,0,0,8,0,0,64,224,480,0,0,3072,7168,16355,32739,65535,131071]),(22,[0,1,2,3,4,5,6,7,8,9,10],[0,0,3,7,0,0,32,112,240,511,1023]),(23,[0,1,2,3,4,5,6,7,8,9,10,11,12,13,14,15,16,17],[0,0,0,0,8,0,0,64,224,480,0,0,3072,7168,16355,32739,65535,131071])]⟩ (fun u=>[(10,.v (.int .i64 (u.1:Int))),(7,.v (.int .i64 (x:Int))),(8,.v (.int .i64 (s.1:Int))),(0,.v (sa b e n fl)),(1,.v (.int .i64 (a:Int))),(2,.v (.int .i64 (c:Int)))]) (fun _=>[]) (fun u h'=>x < u.1∧Ext1 b h h'∧AR h' b e u.2∧u.2.size=n∧shiftUp ltInt c u.1 u.2=shiftUp ltInt c (x+1) d2) (fun u=>c - u.1) 9 (fun u h'=>Ext1 b h h'∧AR h' b e u.2∧u.2.size=n∧u.2=shiftUp ltInt c (x+1) d2) 400 (x+1,d2) (fun _=>rfl) ⟨vI wp,rfl,rfl,rfl,rfl,rfl,trivial⟩ trivial ⟨by show x < x+1;omega,u1,u2,u3,rfl⟩ (fun u hw hI again' done => ?_) (fun u hw hE => ?_)
            · obtain ⟨y0,y1,y2,y3,y4⟩:=hI
              refine cnd (fun k1 => ?_) (fun k1 => ?_)
              · have k1:u.1 < c:=by have:=of_decide_eq_true k1;omega
                have wk:IntKind.i64.wrap ((u.1:Int) - 1)=((u.1 - 1:Nat):Int):=wz (by omega) (by omega)
                have wl:IntKind.i64.wrap ((u.1:Int)+1)=((u.1+1:Nat):Int):=wz (by omega) (by omega)
                refine more tbOk mtOk ⟨[],[(5,[0,1,2,3,4,5,6,7,8,9,10,11,12,13,14,15],[0,0,3,7,15,15,63,127,15,15,527,1807,3855,8191,16383,32767]),(11,[0,1,2,3,4,5,6,7,8,9,10,11,12,13,14,15,16,17],[0,0,0,0,8,0,0,64,224,480,0,0,3072,7168,16355,32739,65535,131071]),(16,[0,1,2,3,4,5,6,7,8,9,10],[0,0,3,7,0,0,32,112,240,511,1023]),(17,[0,1,2,3,4,5,6,7,8,9,10,11,12,13,14,15,16,17],[0,0,0,0,8,0,0,64,224,480,0,0,3072,7168,16355,32739,65535,131071]),(22,[0,1,2,3,4,5,6,7,8,9,10],[0,0,3,7,0,0,32,112,240,511,1023]),(23,[0,1,2,3,4,5,6,7,8,9,10,11,12,13,14,15,16,17],[0,0,0,0,8,0,0,64,224,480,0,0,3072,7168,16355,32739,65535,131071])]⟩ 7 ?_
                refine And.intro (by kernel_rfl) ?_
                refine And.intro ⟨by omega,by omega⟩ ?_
                refine ⟨_,y2.ldI rfl (by omega),?_⟩
                refine And.intro ⟨by omega,by omega⟩ ?_
                refine ⟨_,y2.ldI wk (by omega),?_⟩
                refine callP (Less_ok _ _ _) ?_
                rintro v hy ⟨rfl,rfl⟩
                refine cnd (fun k2 => ?_) (fun k2 => ?_)
                · exact done u _ _ _ ⟨rfl,rfl,rfl,rfl,rfl,rfl,trivial⟩ trivial ⟨y1,y2,y3,(shiftUp_stop (d:=u.2) (by simpa using k2)).symm.trans y4⟩
                · refine more tbOk mtOk ⟨[],[(5,[0,1,2,3,4,5,6,7,8,9,10,11,12,13,14,15],[0,0,3,7,15,15,63,127,15,15,527,1807,3855,8191,16383,32767]),(11,[0,1,2,3,4,5,6,7,8,9,10,11,12,13,14,15,16,17],[0,0,0,0,8,0,0,64,224,480,0,0,3072,7168,16355,32739,65535,131071]),(16,[0,1,2,3,4,5,6,7,8,9,10],[0,0,3,7,0,0,32,112,240,511,1023]),(17,[0,1,2,3,4,5,6,7,8,9,10,11,12,13,14,15,16,17],[0,0,0,0,8,0,0,64,224,480,0,0,3072,7168,16355,32739,65535,131071]),(22,[0,1,2,3,4,5,6,7,8,9,10],[0,0,3,7,0,0,32,112,240,511,1023]),(23,[0,1,2,3,4,5,6,7,8,9,10,11,12,13,14,15,16,17],[0,0,0,0,8,0,0,64,224,480,0,0,3072,7168,16355,32739,65535,131071])]⟩ 400 ?_
                  refine And.intro (by kernel_rfl) ?_
                  refine And.intro ⟨by omega,by omega⟩ ?_
                  refine ⟨_,y2.ldI wk (by omega),?_⟩
                  refine And.intro ⟨by omega,by omega⟩ ?_
                  refine ⟨_,y2.ldI rfl (by omega),?_⟩
                  refine And.intro ⟨by omega,by omega⟩ ?_
                  refine ⟨_,y2.stI (lo:=lo) hb rfl (i:=u.1) (by omega) _,?_⟩
                  refine And.intro ⟨by omega,by omega⟩ ?_
                  refine ⟨_,(y2.sw1 (u.1) (u.1 - 1)).stI (lo:=lo) hb wk (by rw [Array.size_setIfInBounds];omega) _,?_⟩
                  exact again' (u.1+1,swp u.2 u.1 (u.1 - 1)) _ _ _ (by show c - (u.1+1) < c - u.1;omega) ⟨vI wl,rfl,rfl,rfl,rfl,rfl,trivial⟩ trivial ⟨by show x < u.1+1;omega,y1.trans (hsw_ext _ _),y2.sw _ _,swp_sz y3 _ _,(shiftUp_go k1 (by simpa using k2)).symm.trans y4⟩
              · have k1:¬ u.1 < c:=by have:=of_decide_eq_false k1;omega
                exact done u _ _ _ ⟨rfl,rfl,rfl,rfl,rfl,rfl,trivial⟩ trivial ⟨y1,y2,y3,by rw [← y4,shiftUp_far k1]⟩
            · obtain ⟨y1,y2,y3,y4⟩:=hE
              rw [← y4] at j6
              exact again (s.1+1,x,u.2) _ _ _ (by show 5 - (s.1+1) < 5 - s.1;omega) ⟨vI ws,rfl,rfl,rfl,rfl,trivial⟩ trivial ⟨by show s.1+1≤5;omega,⟨by show a < x;omega,by show x≤c;omega⟩,y1,y2,y3,j6⟩
          · have c5:¬ c - x≥2:=by have:=of_decide_eq_false c5;omega
            simp only [if_neg c5] at j6
            exact again (s.1+1,x,d2) _ _ _ (by show 5 - (s.1+1) < 5 - s.1;omega) ⟨vI ws,rfl,rfl,rfl,rfl,trivial⟩ trivial ⟨by show s.1+1≤5;omega,⟨by show a < x;omega,by show x≤c;omega⟩,u1,u2,u3,j6⟩
      · have c4:¬ x - a≥2:=by have:=of_decide_eq_false c4;omega
        simp only [if_neg c4] at j6
        have u1:=x1
        have u2:=r1
        have u3:=z1
        clear x1 r1 z1
        generalize d1=d2 at *
        generalize h2=hz at *
        refine cnd (fun c5 => ?_) (fun c5 => ?_)
        · have c5:c - x≥2:=by have:=of_decide_eq_true c5;omega
          simp only [if_pos c5] at j6
          refine loopX (σ:=Nat×Array Int) tbOk mtOk ⟨[],[(5,[0,1,2,3,4,5,6,7,8,9,10,11,12,13,14,15],[0,0,3,7,15,15,63,127,15,15,527,1807,3855,8191,16383,32767]),(11,[0,1,2,3,4,5,6,7,8,9,10,11,12,13,14,15,16,17],[0,0,0,0,8,0,0,64,224,480,0,0,3072,7168,16355,32739,65535,131071]),(16,[0,1,2,3,4,5,6,7,8,9,10],[0,0,3,7,0,0,32,112,240,511,1023]),(17,[0,1,2,3,4,5,6,7,8,9,10,11,12,13,14,15,16,17],[0,0,0,0,8,0,0,64,224,480,0,0,3072,7168,16355,32739,65535,131071]),(22,[0,1,2,3,4,5,6,7,8,9,10],[0,0,3,7,0,0,32,112,240,511,1023]),(23,[0,1,2,3,4,5,6,7,8,9,10,11,12,13,14,15,16,17],[0,0,0,0,8,0,0,64,224,480,0,0,3072,7168,16355,32739,65535,131071])]⟩ (fun u=>[(10,.v (.int .i64 (u.1:Int))),(7,.v (.int .i64 (x:Int))),(8,.v (.int .i64 (s.1:Int))),(0,.v (sa b e n fl)),(1,.v (.int .i64 (a:Int))),(2,.v (.int .i64 (c:Int)))]) (fun _=>[]) (fun u h'=>x < u.1∧Ext1 b h h'∧AR h' b e u.2∧u.2.size=n∧shiftUp ltInt c u.1 u.2=shiftUp ltInt c (x+1) d2) (fun u=>c - u.1) 9 (fun u h'=>Ext1 b h h'∧AR h' b e u.2∧u.2.size=n∧u.2=shiftUp ltInt c (x+1) d2) 400 (x+1,d2) (fun _=>rfl) ⟨vI wp,rfl,rfl,rfl,rfl,rfl,trivial⟩ trivial ⟨by show x < x+1;omega,u1,u2,u3,rfl⟩ (fun u hw hI again' done => ?_) (fun u hw hE => ?_)
          · obtain ⟨y0,y1,y2,y3,y4⟩:=hI
            refine cnd (fun k1 => ?_) (fun k1 => ?_)
            · have k1:u.1 < c:=by have:=of_decide_eq_true k1;omega
              have wk:IntKind.i64.wrap ((u.1:Int) - 1)=((u.1 - 1:Nat):Int):=wz (by omega) (by omega)
              have wl:IntKind.i64.wrap ((u.1:Int)+1)=((u.1+1:Nat):Int):=wz (by omega) (by omega)
              refine more tbOk mtOk ⟨[],[(5,[0,1,2,3,4,5,6,7,8,9,10,11,12,13,14,15],[0,0,3,7,15,15,63,127,15,15,527,1807,3855,8191,16383,32767]),(11,[0,1,2,3,4,5,6,7,8,9,10,11,12,13,14,15,16,17],[0,0,0,0,8,0,0,64,224,480,0,0,3072,7168,16355,32739,65535,131071]),(16,[0,1,2,3,4,5,6,7,8,9,10],[0,0,3,7,0,0,32,112,240,511,1023]),(17,[0,1,2,3,4,5,6,7,8,9,10,11,12,13,14,15,16,17],[0,0,0,0,8,0,0,64,224,480,0,0,3072,7168,16355,32739,65535,131071]),(22,[0,1,2,3,4,5,6,7,8,9,10],[0,0,3,7,0,0,32,112,240,511,1023]),(23,[0,1,2,3,4,5,6,7,8,9,10,11,12,13,14,15,16,17],[0,0,0,0,8,0,0,64,224,480,0,0,3072,7168,16355,32739,65535,131071])]⟩ 7 ?_
              refine And.intro (by kernel_rfl) ?_
              refine And.intro ⟨by omega,by omega⟩ ?_
              refine ⟨_,y2.ldI rfl (by omega),?_⟩
              refine And.intro ⟨by omega,by omega⟩ ?_
              refine ⟨_,y2.ldI wk (by omega),?_⟩
              refine callP (Less_ok _ _ _) ?_
              rintro v hy ⟨rfl,rfl⟩
              refine cnd (fun k2 => ?_) (fun k2 => ?_)
              · exact done u _ _ _ ⟨rfl,rfl,rfl,rfl,rfl,rfl,trivial⟩ trivial ⟨y1,y2,y3,(shiftUp_stop (d:=u.2) (by simpa using k2)).symm.trans y4⟩
              · refine more tbOk mtOk ⟨[],[(5,[0,1,2,3,4,5,6,7,8,9,10,11,12,13,14,15],[0,0,3,7,15,15,63,127,15,15,527,1807,3855,8191,16383,32767]),(11,[0,1,2,3,4,5,6,7,8,9,10,11,12,13,14,15,16,17],[0,0,0,0,8,0,0,64,224,480,0,0,3072,7168,16355,32739,65535,131071]),(16,[0,1,2,3,4,5,6,7,8,9,10],[0,0,3,7,0,0,32,112,240,511,1023]),(17,[0,1,2,3,4,5,6,7,8,9,10,11,12,13,14,15,16,17],[0,0,0,0,8,0,0,64,224,480,0,0,3072,7168,16355,32739,65535,131071]),(22,[0,1,2,3,4,5,6,7,8,9,10],[0,0,3,7,0,0,32,112,240,511,1023]),(23,[0,1,2,3,4,5,6,7,8,9,10,11,12,13,14,15,16,17],[0,0,0,0,8,0,0,64,224,480,0,0,3072,7168,16355,32739,65535,131071])]⟩ 400 ?_
                refine And.intro (by kernel_rfl) ?_
                refine And.intro ⟨by omega,by omega⟩ ?_
                refine ⟨_,y2.ldI wk (by omega),?_⟩
                refine And.intro ⟨by omega,by omega⟩ ?_
                refine ⟨_,y2.ldI rfl (by omega),?_⟩
                refine And.intro ⟨by omega,by omega⟩ ?_
                refine ⟨_,y2.stI (lo:=lo) hb rfl (i:=u.1) (by omega) _,?_⟩
                refine And.intro ⟨by omega,by omega⟩ ?_
                refine ⟨_,(y2.sw1 (u.1) (u.1 - 1)).stI (lo:=lo) hb wk (by rw [Array.size_setIfInBounds];omega) _,?_⟩
                exact again' (u.1+1,swp u.2 u.1 (u.1 - 1)) _ _ _ (by show c - (u.1+1) < c - u.1;omega) ⟨vI wl,rfl,rfl,rfl,rfl,rfl,trivial⟩ trivial ⟨by show x < u.1+1;omega,y1.trans (hsw_ext _ _),y2.sw _ _,swp_sz y3 _ _,(shiftUp_go k1 (by simpa using k2)).symm.trans y4⟩
            · have k1:¬ u.1 < c:=by have:=of_decide_eq_false k1;omega
              exact done u _ _ _ ⟨rfl,rfl,rfl,rfl,rfl,rfl,trivial⟩ trivial ⟨y1,y2,y3,by rw [← y4,shiftUp_far k1]⟩
          · obtain ⟨y1,y2,y3,y4⟩:=hE
            rw [← y4] at j6
            exact again (s.1+1,x,u.2) _ _ _ (by show 5 - (s.1+1) < 5 - s.1;omega) ⟨vI ws,rfl,rfl,rfl,rfl,trivial⟩ trivial ⟨by show s.1+1≤5;omega,⟨by show a < x;omega,by show x≤c;omega⟩,y1,y2,y3,j6⟩
        · have c5:¬ c - x≥2:=by have:=of_decide_eq_false c5;omega
          simp only [if_neg c5] at j6
          exact again (s.1+1,x,d2) _ _ _ (by show 5 - (s.1+1) < 5 - s.1;omega) ⟨vI ws,rfl,rfl,rfl,rfl,trivial⟩ trivial ⟨by show s.1+1≤5;omega,⟨by show a < x;omega,by show x≤c;omega⟩,u1,u2,u3,j6⟩
  · have c1:s.1=5:=by have:=of_decide_eq_false c1;omega
    rw [c1] at j6
    rw [← j6]
    exact And.intro rfl ⟨j3,j4,j5⟩
end Go.Proofs.YtjpcfaddimlbdaaGreat.Id
namespace Go.Proofs.YtjpcfaddimlbdaaGreat.Id
open Go.Id Go.Sort
open Go.Proofs
set_option linter.unusedVariables false
set_option maxRecDepth 100000
variable {X:Ctx Tryz.prog} {lo:Nat}
theorem order2_ok (b e n fl q:Nat) (d:Array Int) (a c sw:Nat) (h:Hp) (r:AR h b e d) (hn:d.size=n) (ha:a < n) (hc:c < n) (hN:n < 2 ^ 31) (hq:Bx h q [.int .i64 (sw:Int)]) (hbq:b≠q) (hlq:lo≤q) (hs:sw≤100):Tri X lo 200 [sa b e n fl,.int .i64 (a:Int),.int .i64 (c:Int),.pointer (some ⟨q,0,none⟩)] h fun v h'=>v = .tuple #[.int .i64 ((order2 ltInt d a c sw).1:Int),.int .i64 ((order2 ltInt d a c sw).2.1:Int)]∧Ext1 q h h'∧Bx h' q [.int .i64 ((order2 ltInt d a c sw).2.2:Int)]:=by
  refine enter tbOk mtOk ⟨[],[(1,[0,1,2,3,4,5,6,7,8],[0,0,3,7,0,0,48,112,255])]⟩ 400 Tryz.func200 rfl rfl rfl fun hlo => ?_
  have hR:order2 ltInt d a c sw=if ltInt d[c]! d[a]! then (c,a,sw+1) else (a,c,sw):=rfl
  generalize order2 ltInt d a c sw=R at hR ⊢
  refine And.intro (by kernel_rfl) ?_
  refine And.intro ⟨by omega,by omega⟩ ?_
  refine ⟨_,r.ldI rfl (by omega),?_⟩
  refine And.intro ⟨by omega,by omega⟩ ?_
  refine ⟨_,r.ldI rfl (by omega),?_⟩
  refine callP (Less_ok _ _ _) ?_
  rintro v h1 ⟨rfl,rfl⟩
  have ws:IntKind.i64.wrap ((sw:Int)+1)=((sw+1:Nat):Int):=wz (by omega) (by omega)
  refine cnd (fun c1 => ?_) (fun c1 => ?_)
  · have c1:ltInt d[c]! d[a]! = true:=c1
    rw [if_pos c1] at hR
    subst hR
    refine ⟨_,hq.ld rfl,?_⟩
    refine ⟨_,hq.st (lo:=lo) hlq (xs:=[.int .i64 (IntKind.i64.wrap ((sw:Int)+1))]) rfl,?_⟩
    refine And.intro rfl ⟨((Ext.refl _).one q).set _ (.inl rfl),?_⟩
    rw [← ws];exact Bx.set hq
  · have c1:ltInt d[c]! d[a]! = false:=c1
    rw [if_neg (by rw [c1];simp)] at hR
    subst hR
    exact And.intro rfl ⟨(Ext.refl _).one q,hq⟩
theorem order2_in (d:Array Int) {n a c:Nat} (sw:Nat) (ha:a < n) (hc:c < n):(order2 ltInt d a c sw).1 < n∧(order2 ltInt d a c sw).2.1 < n:=by
  rcases order2_mem ltInt d a c sw with ⟨h1,h2⟩ | ⟨h1,h2⟩<;>rw [h1,h2]<;>exact ⟨by assumption,by assumption⟩
theorem median_ok (b e n fl q:Nat) (d:Array Int) (a c m sw:Nat) (h:Hp) (r:AR h b e d) (hn:d.size=n) (ha:a < n) (hc:c < n) (hm:m < n) (hN:n < 2 ^ 31) (hq:Bx h q [.int .i64 (sw:Int)]) (hbq:b≠q) (hlq:lo≤q) (hs:sw≤50):Tri X lo 166 [sa b e n fl,.int .i64 (a:Int),.int .i64 (c:Int),.int .i64 (m:Int),.pointer (some ⟨q,0,none⟩)] h fun v h'=>v = .int .i64 ((median ltInt d a c m sw).1:Int)∧Ext1 q h h'∧Bx h' q [.int .i64 ((median ltInt d a c m sw).2:Int)]:=by
  refine enter tbOk mtOk ⟨[],[]⟩ 400 Tryz.func166 rfl rfl rfl fun hlo => ?_
  have hM:median ltInt d a c m sw=((order2 ltInt d (order2 ltInt d a c sw).1 (order2 ltInt d (order2 ltInt d a c sw).2.1 m (order2 ltInt d a c sw).2.2).1 (order2 ltInt d (order2 ltInt d a c sw).2.1 m (order2 ltInt d a c sw).2.2).2.2).2.1,(order2 ltInt d (order2 ltInt d a c sw).1 (order2 ltInt d (order2 ltInt d a c sw).2.1 m (order2 ltInt d a c sw).2.2).1 (order2 ltInt d (order2 ltInt d a c sw).2.1 m (order2 ltInt d a c sw).2.2).2.2).2.2):=rfl
  generalize median ltInt d a c m sw=M at hM ⊢
  refine callP (order2_ok b e n fl q d a c sw h r hn ha hc hN hq hbq hlq (by omega)) ?_
  rintro v h1 ⟨rfl,e1,q1⟩
  have k1:=order2_count (lt:=ltInt) d a c sw
  have m1:=order2_in d sw ha hc
  generalize order2 ltInt d a c sw=R1 at *
  refine callP (order2_ok b e n fl q d R1.2.1 m R1.2.2 h1 (r.ext1 e1 hbq) hn m1.2 hm hN q1 hbq hlq (by omega)) ?_
  rintro v h2 ⟨rfl,e2,q2⟩
  have k2:=order2_count (lt:=ltInt) d R1.2.1 m R1.2.2
  have m2:=order2_in d R1.2.2 m1.2 hm
  generalize order2 ltInt d R1.2.1 m R1.2.2=R2 at *
  refine callP (order2_ok b e n fl q d R1.1 R2.1 R2.2.2 h2 ((r.ext1 e1 hbq).ext1 e2 hbq) hn m1.1 m2.1 hN q2 hbq hlq (by omega)) ?_
  rintro v h3 ⟨rfl,e3,q3⟩
  subst hM
  exact And.intro rfl ⟨(e1.trans e2).trans e3,q3⟩
theorem medianAdjacent_ok (b e n fl q:Nat) (d:Array Int) (a sw:Nat) (h:Hp) (r:AR h b e d) (hn:d.size=n) (ha:1≤a∧a+1 < n) (hN:n < 2 ^ 31) (hq:Bx h q [.int .i64 (sw:Int)]) (hbq:b≠q) (hlq:lo≤q) (hs:sw≤50):Tri X lo 165 [sa b e n fl,.int .i64 (a:Int),.pointer (some ⟨q,0,none⟩)] h fun v h'=>v = .int .i64 ((medianAdjacent ltInt d a sw).1:Int)∧Ext1 q h h'∧Bx h' q [.int .i64 ((medianAdjacent ltInt d a sw).2:Int)]:=by
  refine enter tbOk mtOk ⟨[],[]⟩ 400 Tryz.func165 rfl rfl rfl fun hlo => ?_
  have w1:IntKind.i64.wrap ((a:Int) - 1)=((a - 1:Nat):Int):=wz (by omega) (by omega)
  have w2:IntKind.i64.wrap ((a:Int)+1)=((a+1:Nat):Int):=wz (by omega) (by omega)
  have ct:Tri X lo 166 [sa b e n fl,.int .i64 (IntKind.i64.wrap ((a:Int) - 1)),.int .i64 (a:Int),.int .i64 (IntKind.i64.wrap ((a:Int)+1)),.pointer (some ⟨q,0,none⟩)] h (fun v h'=>v = .int .i64 ((median ltInt d (a - 1) a (a+1) sw).1:Int)∧Ext1 q h h'∧Bx h' q [.int .i64 ((median ltInt d (a - 1) a (a+1) sw).2:Int)]):=by
    rw [w1,w2];exact median_ok b e n fl q d (a - 1) a (a+1) sw h r hn (by omega) (by omega) (by omega) hN hq hbq hlq hs
  refine callP ct ?_
  rintro v h1 ⟨rfl,e1,q1⟩
  exact And.intro rfl ⟨e1,q1⟩
theorem medianAdjacent_in (d:Array Int) {n a:Nat} (sw:Nat) (ha:1≤a∧a+1 < n):(medianAdjacent ltInt d a sw).1 < n:=by
  rcases medianAdjacent_mem ltInt d a sw with h | h | h<;>rw [h]<;>omega
theorem choosePivot_ok (b e n fl : Nat) (d : Array Int) (a c : Nat) (h : Hp) (r : AR h b e d) (hn : d.size = n) (ha : a < c) (hc : c ≤ n) (hN : n < 2 ^ 31) : Tri X lo 142 [sa b e n fl, .int .i64 (a : Int), .int .i64 (c : Int)] h fun v h' => v = .tuple #[.int .i64 ((choosePivot ltInt d a c).1 : Int), .int .i64 (hintCode (choosePivot ltInt d a c).2)] ∧ Ext h h' := by
  refine enter tbOk mtOk ⟨[9], []⟩ 400 Tryz.func142 rfl rfl rfl fun hlo => ?_
  rw [choosePivot_eq]
  have hR : rawPivot ltInt d a c = if c - a ≥ 8 then
    if c - a ≥ 50 then
      median ltInt d (medianAdjacent ltInt d (a + (c - a) / 4 * 1) 0).1 (medianAdjacent ltInt d (a + (c - a) / 4 * 2) (medianAdjacent ltInt d (a + (c - a) / 4 * 1) 0).2).1
        (medianAdjacent ltInt d (a + (c - a) / 4 * 3) (medianAdjacent ltInt d (a + (c - a) / 4 * 2) (medianAdjacent ltInt d (a + (c - a) / 4 * 1) 0).2).2).1
        (medianAdjacent ltInt d (a + (c - a) / 4 * 3) (medianAdjacent ltInt d (a + (c - a) / 4 * 2) (medianAdjacent ltInt d (a + (c - a) / 4 * 1) 0).2).2).2
    else median ltInt d (a + (c - a) / 4 * 1) (a + (c - a) / 4 * 2) (a + (c - a) / 4 * 3) 0
  else (a + (c - a) / 4 * 2, 0) := rfl
  generalize rawPivot ltInt d a c = RP at hR ⊢
  have l0 : IntKind.i64.wrap ((c : Int) - (a : Int)) = ((c - a : Nat) : Int) := wz (by omega) (by omega)
  have l4 : IntKind.i64.wrap ((IntKind.i64.wrap ((c : Int) - (a : Int))).tdiv 4) = (((c - a) / 4 : Nat) : Int) := by
    rw [l0, Int.tdiv_eq_ediv_of_nonneg (by omega), wr (by omega) (by omega)]; omega
  have i1 : IntKind.i64.wrap ((a : Int) + IntKind.i64.wrap (IntKind.i64.wrap ((IntKind.i64.wrap ((c : Int) - (a : Int))).tdiv 4) * 1)) = ((a + (c - a) / 4 * 1 : Nat) : Int) := by
    rw [l4, wr (n := (((c - a) / 4 : Nat) : Int) * 1) (by omega) (by omega), wr (by omega) (by omega)]; omega
  have i2 : IntKind.i64.wrap ((a : Int) + IntKind.i64.wrap (IntKind.i64.wrap ((IntKind.i64.wrap ((c : Int) - (a : Int))).tdiv 4) * 2)) = ((a + (c - a) / 4 * 2 : Nat) : Int) := by
    rw [l4, wr (n := (((c - a) / 4 : Nat) : Int) * 2) (by omega) (by omega), wr (by omega) (by omega)]; omega
  have i3 : IntKind.i64.wrap ((a : Int) + IntKind.i64.wrap (IntKind.i64.wrap ((IntKind.i64.wrap ((c : Int) - (a : Int))).tdiv 4) * 3)) = ((a + (c - a) / 4 * 3 : Nat) : Int) := by
    rw [l4, wr (n := (((c - a) / 4 : Nat) : Int) * 3) (by omega) (by omega), wr (by omega) (by omega)]; omega
  have lt := r.lt
  have e0 : Ext h (h.push (.cells [.int .i64 0] 0 0)) := Ext.push _ _
  have b0 : Bx (h.push (.cells [.int .i64 0] 0 0)) h.n [.int .i64 ((0 : Nat) : Int)] := Bx.push
  have r0 := r.ext e0
  refine And.intro (by decide) ?_
  refine And.intro (by decide) ?_
  refine And.intro (by decide) ?_
  refine cnd (fun c1 => ?_) (fun c1 => ?_)
  · have c1 : c - a ≥ 8 := by have := of_decide_eq_true c1; omega
    rw [if_pos c1] at hR
    refine cnd (fun c2 => ?_) (fun c2 => ?_)
    · have c2 : c - a ≥ 50 := by have := of_decide_eq_true c2; omega
      rw [if_pos c2] at hR
      have t1 : Tri X lo 165 [sa b e n fl, .int .i64 (IntKind.i64.wrap ((a : Int) + IntKind.i64.wrap (IntKind.i64.wrap ((IntKind.i64.wrap ((c : Int) - (a : Int))).tdiv 4) * 1))), .pointer (some ⟨h.n, 0, none⟩)] (h.push (.cells [.int .i64 0] 0 0)) (fun v h' => v = .int .i64 ((medianAdjacent ltInt d (a + (c - a) / 4 * 1) 0).1 : Int) ∧ Ext1 h.n (h.push (.cells [.int .i64 0] 0 0)) h' ∧ Bx h' h.n [.int .i64 ((medianAdjacent ltInt d (a + (c - a) / 4 * 1) 0).2 : Int)]) := by
        rw [i1]; exact medianAdjacent_ok b e n fl h.n d _ 0 _ r0 hn (by omega) hN b0 (by omega) hlo (by omega)
      refine callP t1 ?_
      rintro v h1 ⟨rfl, e1, q1⟩
      have k1 := medianAdjacent_count ltInt d (a + (c - a) / 4 * 1) 0
      have m1 := medianAdjacent_in (n := n) d (a := a + (c - a) / 4 * 1) 0 (by omega)
      generalize medianAdjacent ltInt d (a + (c - a) / 4 * 1) 0 = M1 at *
      have r1 := r0.ext1 e1 (by omega)
      have t2 : Tri X lo 165 [sa b e n fl, .int .i64 (IntKind.i64.wrap ((a : Int) + IntKind.i64.wrap (IntKind.i64.wrap ((IntKind.i64.wrap ((c : Int) - (a : Int))).tdiv 4) * 2))), .pointer (some ⟨h.n, 0, none⟩)] h1 (fun v h' => v = .int .i64 ((medianAdjacent ltInt d (a + (c - a) / 4 * 2) M1.2).1 : Int) ∧ Ext1 h.n h1 h' ∧ Bx h' h.n [.int .i64 ((medianAdjacent ltInt d (a + (c - a) / 4 * 2) M1.2).2 : Int)]) := by
        rw [i2]; exact medianAdjacent_ok b e n fl h.n d _ M1.2 _ r1 hn (by omega) hN q1 (by omega) hlo (by omega)
      refine callP t2 ?_
      rintro v h2 ⟨rfl, e2, q2⟩
      have k2 := medianAdjacent_count ltInt d (a + (c - a) / 4 * 2) M1.2
      have m2 := medianAdjacent_in (n := n) d (a := a + (c - a) / 4 * 2) M1.2 (by omega)
      generalize medianAdjacent ltInt d (a + (c - a) / 4 * 2) M1.2 = M2 at *
      have r2 := r1.ext1 e2 (by omega)
      have t3 : Tri X lo 165 [sa b e n fl, .int .i64 (IntKind.i64.wrap ((a : Int) + IntKind.i64.wrap (IntKind.i64.wrap ((IntKind.i64.wrap ((c : Int) - (a : Int))).tdiv 4) * 3))), .pointer (some ⟨h.n, 0, none⟩)] h2 (fun v h' => v = .int .i64 ((medianAdjacent ltInt d (a + (c - a) / 4 * 3) M2.2).1 : Int) ∧ Ext1 h.n h2 h' ∧ Bx h' h.n [.int .i64 ((medianAdjacent ltInt d (a + (c - a) / 4 * 3) M2.2).2 : Int)]) := by
        rw [i3]; exact medianAdjacent_ok b e n fl h.n d _ M2.2 _ r2 hn (by omega) hN q2 (by omega) hlo (by omega)
      refine callP t3 ?_
      rintro v h3 ⟨rfl, e3, q3⟩
      have k3 := medianAdjacent_count ltInt d (a + (c - a) / 4 * 3) M2.2
      have m3 := medianAdjacent_in (n := n) d (a := a + (c - a) / 4 * 3) M2.2 (by omega)
      generalize medianAdjacent ltInt d (a + (c - a) / 4 * 3) M2.2 = M3 at *
      have r3 := r2.ext1 e3 (by omega)
      have mk := median_ok (X := X) (lo := lo) b e n fl h.n d M1.1 M2.1 M3.1 M3.2 h3 r3 hn m1 m2 m3 hN q3 (by omega) hlo (by omega)
      rw [← hR] at mk
      refine callP mk ?_
      rintro v h4 ⟨rfl, e4, q4⟩
      have x4 := (((e1.trans e2).trans e3).trans e4).out e0 (Nat.le_refl _)
      refine ⟨_, q4.ld rfl, ?_⟩
      refine cnd (fun c3 => ?_) (fun c3 => ?_)
      · have c3 : RP.2 = 0 := by simpa using c3
        refine And.intro ?_ x4
        rw [show hintOf RP.2 = .increasing from by unfold hintOf; rw [if_pos c3]]; rfl
      · have c3 : ¬ RP.2 = 0 := by simpa using c3
        refine cnd (fun c4 => ?_) (fun c4 => ?_)
        · have c4 : RP.2 = 12 := by have : (RP.2 : Int) = 12 := by simpa using c4
                                    omega
          refine And.intro ?_ x4
          rw [show hintOf RP.2 = .decreasing from by unfold hintOf; rw [if_neg c3, if_pos c4]]; rfl
        · have c4 : ¬ RP.2 = 12 := by have : ¬ (RP.2 : Int) = 12 := by simpa using c4
                                      omega
          refine And.intro ?_ x4
          rw [show hintOf RP.2 = .unknown from by unfold hintOf; rw [if_neg c3, if_neg c4]]; rfl
    · have c2 : ¬ c - a ≥ 50 := by have := of_decide_eq_false c2; omega
      rw [if_neg c2] at hR
      have mk : Tri X lo 166 [sa b e n fl, .int .i64 (IntKind.i64.wrap ((a : Int) + IntKind.i64.wrap (IntKind.i64.wrap ((IntKind.i64.wrap ((c : Int) - (a : Int))).tdiv 4) * 1))), .int .i64 (IntKind.i64.wrap ((a : Int) + IntKind.i64.wrap (IntKind.i64.wrap ((IntKind.i64.wrap ((c : Int) - (a : Int))).tdiv 4) * 2))), .int .i64 (IntKind.i64.wrap ((a : Int) + IntKind.i64.wrap (IntKind.i64.wrap ((IntKind.i64.wrap ((c : Int) - (a : Int))).tdiv 4) * 3))), .pointer (some ⟨h.n, 0, none⟩)] (h.push (.cells [.int .i64 0] 0 0)) (fun v h' => v = .int .i64 (RP.1 : Int) ∧ Ext1 h.n (h.push (.cells [.int .i64 0] 0 0)) h' ∧ Bx h' h.n [.int .i64 (RP.2 : Int)]) := by
        rw [i1, i2, i3, hR]; exact median_ok b e n fl h.n d _ _ _ 0 _ r0 hn (by omega) (by omega) (by omega) hN b0 (by omega) hlo (by omega)
      refine callP mk ?_
      rintro v h4 ⟨rfl, e4, q4⟩
      have x4 := e4.out e0 (Nat.le_refl _)
      refine ⟨_, q4.ld rfl, ?_⟩
      refine cnd (fun c3 => ?_) (fun c3 => ?_)
      · have c3 : RP.2 = 0 := by simpa using c3
        refine And.intro ?_ x4
        rw [show hintOf RP.2 = .increasing from by unfold hintOf; rw [if_pos c3]]; rfl
      · have c3 : ¬ RP.2 = 0 := by simpa using c3
        refine cnd (fun c4 => ?_) (fun c4 => ?_)
        · have c4 : RP.2 = 12 := by have : (RP.2 : Int) = 12 := by simpa using c4
                                    omega
          refine And.intro ?_ x4
          rw [show hintOf RP.2 = .decreasing from by unfold hintOf; rw [if_neg c3, if_pos c4]]; rfl
        · have c4 : ¬ RP.2 = 12 := by have : ¬ (RP.2 : Int) = 12 := by simpa using c4
                                      omega
          refine And.intro ?_ x4
          rw [show hintOf RP.2 = .unknown from by unfold hintOf; rw [if_neg c3, if_neg c4]]; rfl
  · have c1 : ¬ c - a ≥ 8 := by have := of_decide_eq_false c1; omega
    rw [if_neg c1] at hR
    refine ⟨_, b0.ld rfl, ?_⟩
    refine cndT ?_
    refine And.intro ?_ e0
    subst hR
    show Value.tuple #[.int .i64 (IntKind.i64.wrap ((a : Int) + IntKind.i64.wrap (IntKind.i64.wrap ((IntKind.i64.wrap ((c : Int) - (a : Int))).tdiv 4) * 2))), .int .i64 1] = _
    rw [i2]; rfl
end Go.Proofs.YtjpcfaddimlbdaaGreat.Id
namespace Go.Proofs.YtjpcfaddimlbdaaGreat.Id
open Go.Id Go.Sort
open Go.Proofs
set_option linter.unusedVariables false
set_option maxRecDepth 100000
variable {X:Ctx Tryz.prog} {lo:Nat}
theorem bitsLen_div {x k:Nat} (h:2 ^ k≤x):bitsLen (x / 2 ^ k)+k=bitsLen x:=by
  have h1:bitsLen x≤bitsLen (x / 2 ^ k)+k:=by
    rw [bitsLen_le_iff,Nat.pow_add]
    have:=lt_two_pow_bitsLen (x / 2 ^ k)
    exact (Nat.div_lt_iff_lt_mul (Nat.two_pow_pos k)).1 this
  have h2:k≤bitsLen x:=by
    rcases Nat.lt_or_ge (bitsLen x) k with q | q
    · have:=lt_two_pow_bitsLen x
      have:=Nat.pow_le_pow_right (show 0 < 2 by decide) (Nat.le_of_lt q)
      omega
    · exact q
  have h3:bitsLen (x / 2 ^ k)≤bitsLen x - k:=by
    rw [bitsLen_le_iff,Nat.div_lt_iff_lt_mul (Nat.two_pow_pos k),← Nat.pow_add,Nat.sub_add_cancel h2]
    exact lt_two_pow_bitsLen x
  omega
theorem wu8 {n:Int} (h:0≤n∧n < 256):IntKind.u8.wrap n=n:=by
  have:IntKind.u8.wrap n=n % 256:=by simp [IntKind.wrap,IntKind.bits,IntKind.signed]
  rw [this];omega
theorem fd16 (x:Nat):(x:Int).fdiv (2 ^ min (Int.toNat 16) IntKind.u64.bits)=((x / 65536:Nat):Int):=by
  show (x:Int).fdiv 65536=_
  rw [Int.fdiv_eq_ediv_of_nonneg _ (by decide)];omega
theorem fd8 (x:Nat):(x:Int).fdiv (2 ^ min (Int.toNat 8) IntKind.u64.bits)=((x / 256:Nat):Int):=by
  show (x:Int).fdiv 256=_
  rw [Int.fdiv_eq_ediv_of_nonneg _ (by decide)];omega
theorem Len64_ok (x:Nat) (hx:x < 2 ^ 32) (h:Hp):Tri X lo 149 [.int .u64 (x:Int)] h fun v h'=>v = .int .i64 (bitsLen x:Int)∧h'=h:=by
  refine enter tbOk mtOk ⟨[],[]⟩ 400 Tryz.func149 rfl rfl rfl fun hlo => ?_
  have b16:65536≤x→bitsLen x=bitsLen (x / 65536)+16:=fun q=>(bitsLen_div (k:=16) q).symm
  have b8:∀ {x:Nat},256≤x→bitsLen x=bitsLen (x / 256)+8:=fun q=>(bitsLen_div (k:=8) q).symm
  have f16:=fd16 x
  have f8:=fd8 x
  have f168:=fd8 (x / 65536)
  refine cnd (fun c1=>absurd (of_decide_eq_true c1) (by omega)) (fun c1 => ?_)
  refine cnd (fun c2 => ?_) (fun c2 => ?_)
  · have c2:65536≤x:=by have:=of_decide_eq_true c2;omega
    refine And.intro (by decide) ?_
    refine cnd (fun c3 => ?_) (fun c3 => ?_)
    · have c3:256≤x / 65536:=by have:=of_decide_eq_true c3;rw [f16] at this;omega
      refine And.intro (by decide) ?_
      obtain ⟨y,hy⟩:∃ y,y=x / 65536 / 256:=⟨_,rfl⟩
      have hy8:y < 256:=by omega
      have hE:IntKind.u8.wrap ((((x:Int).fdiv (2 ^ min (Int.toNat 16) IntKind.u64.bits)).fdiv (2 ^ min (Int.toNat 8) IntKind.u64.bits)))=((y:Nat):Int):=by rw [f16,f168,wu8 (by omega)];omega
      have ht:bitsLen x=bitsLen y+24:=by rw [hy];rw [b16 c2,b8 c3]
      refine And.intro (by show (0:Int)≤IntKind.u8.wrap ((((x:Int).fdiv (2 ^ min (Int.toNat 16) IntKind.u64.bits)).fdiv (2 ^ min (Int.toNat 8) IntKind.u64.bits)));rw [hE];omega) ?_
      refine ⟨UInt8.ofNat (bitsLen y),?_,?_⟩
      · rw [hE,Int.toNat_natCast]
        clear hE ht hy
        revert y
        decide +kernel
      · have hb:bitsLen y≤8:=by rw [bitsLen_le_iff];exact hy8
        refine And.intro ?_ rfl
        have hu:((UInt8.ofNat (bitsLen y)).toNat:Int)=(bitsLen y:Int):=by rw [UInt8.toNat_ofNat_of_lt' (by show bitsLen y < 256;omega)]
        show Value.int .i64 (IntKind.i64.wrap (IntKind.i64.wrap (16+8)+IntKind.i64.wrap ((UInt8.ofNat (bitsLen y)).toNat:Int)))=_
        rw [hu,ht,show IntKind.i64.wrap (16+8)=24 from by decide,wr (n:=(bitsLen y:Int)) (by omega) (by omega),wr (by omega) (by omega)]
        congr 1;omega
    · have c3:¬ 256≤x / 65536:=by have:=of_decide_eq_false c3;rw [f16] at this;omega
      obtain ⟨y,hy⟩:∃ y,y=x / 65536:=⟨_,rfl⟩
      have hy8:y < 256:=by omega
      have hE:IntKind.u8.wrap (((x:Int).fdiv (2 ^ min (Int.toNat 16) IntKind.u64.bits)))=((y:Nat):Int):=by rw [f16,wu8 (by omega)];omega
      have ht:bitsLen x=bitsLen y+16:=by rw [hy];exact b16 c2
      refine And.intro (by show (0:Int)≤IntKind.u8.wrap (((x:Int).fdiv (2 ^ min (Int.toNat 16) IntKind.u64.bits)));rw [hE];omega) ?_
      refine ⟨UInt8.ofNat (bitsLen y),?_,?_⟩
      · rw [hE,Int.toNat_natCast]
        clear hE ht hy
        revert y
        decide +kernel
      · have hb:bitsLen y≤8:=by rw [bitsLen_le_iff];exact hy8
        refine And.intro ?_ rfl
        have hu:((UInt8.ofNat (bitsLen y)).toNat:Int)=(bitsLen y:Int):=by rw [UInt8.toNat_ofNat_of_lt' (by show bitsLen y < 256;omega)]
        show Value.int .i64 (IntKind.i64.wrap (16+IntKind.i64.wrap ((UInt8.ofNat (bitsLen y)).toNat:Int)))=_
        rw [hu,ht,wr (n:=(bitsLen y:Int)) (by omega) (by omega),wr (by omega) (by omega)]
        congr 1;omega
  · have c2:¬ 65536≤x:=by have:=of_decide_eq_false c2;omega
    refine cnd (fun c3 => ?_) (fun c3 => ?_)
    · have c3:256≤x:=by have:=of_decide_eq_true c3;omega
      refine And.intro (by decide) ?_
      obtain ⟨y,hy⟩:∃ y,y=x / 256:=⟨_,rfl⟩
      have hy8:y < 256:=by omega
      have hE:IntKind.u8.wrap (((x:Int).fdiv (2 ^ min (Int.toNat 8) IntKind.u64.bits)))=((y:Nat):Int):=by rw [f8,wu8 (by omega)];omega
      have ht:bitsLen x=bitsLen y+8:=by rw [hy];exact b8 c3
      refine And.intro (by show (0:Int)≤IntKind.u8.wrap (((x:Int).fdiv (2 ^ min (Int.toNat 8) IntKind.u64.bits)));rw [hE];omega) ?_
      refine ⟨UInt8.ofNat (bitsLen y),?_,?_⟩
      · rw [hE,Int.toNat_natCast]
        clear hE ht hy
        revert y
        decide +kernel
      · have hb:bitsLen y≤8:=by rw [bitsLen_le_iff];exact hy8
        refine And.intro ?_ rfl
        have hu:((UInt8.ofNat (bitsLen y)).toNat:Int)=(bitsLen y:Int):=by rw [UInt8.toNat_ofNat_of_lt' (by show bitsLen y < 256;omega)]
        show Value.int .i64 (IntKind.i64.wrap (IntKind.i64.wrap (0+8)+IntKind.i64.wrap ((UInt8.ofNat (bitsLen y)).toNat:Int)))=_
        rw [hu,ht,show IntKind.i64.wrap (0+8)=8 from by decide,wr (n:=(bitsLen y:Int)) (by omega) (by omega),wr (by omega) (by omega)]
        congr 1;omega
    · have c3:¬ 256≤x:=by have:=of_decide_eq_false c3;omega
      obtain ⟨y,hy⟩:∃ y,y=x:=⟨_,rfl⟩
      have hy8:y < 256:=by omega
      have hE:IntKind.u8.wrap ((x:Int))=((y:Nat):Int):=by rw [wu8 (by omega)];omega
      have ht:bitsLen x=bitsLen y+0:=by rw [hy];rfl
      refine And.intro (by show (0:Int)≤IntKind.u8.wrap ((x:Int));rw [hE];omega) ?_
      refine ⟨UInt8.ofNat (bitsLen y),?_,?_⟩
      · rw [hE,Int.toNat_natCast]
        clear hE ht hy
        revert y
        decide +kernel
      · have hb:bitsLen y≤8:=by rw [bitsLen_le_iff];exact hy8
        refine And.intro ?_ rfl
        have hu:((UInt8.ofNat (bitsLen y)).toNat:Int)=(bitsLen y:Int):=by rw [UInt8.toNat_ofNat_of_lt' (by show bitsLen y < 256;omega)]
        show Value.int .i64 (IntKind.i64.wrap (0+IntKind.i64.wrap ((UInt8.ofNat (bitsLen y)).toNat:Int)))=_
        rw [hu,ht,wr (n:=(bitsLen y:Int)) (by omega) (by omega),wr (by omega) (by omega)]
        congr 1;omega
theorem xw {a b:Nat} (ha:a < 2 ^ 64) (hb:b < 2 ^ 64):IntKind.u64.wrap (((BitVec.ofInt IntKind.u64.bits (a:Int) ^^^ BitVec.ofInt IntKind.u64.bits (b:Int)).toNat:Nat):Int)=((a ^^^ b:Nat):Int):=by
  have hw:∀ n:Int,IntKind.u64.wrap n=n % 18446744073709551616:=fun n=>by simp [IntKind.wrap,IntKind.bits,IntKind.signed]
  have h1:(BitVec.ofInt IntKind.u64.bits (a:Int) ^^^ BitVec.ofInt IntKind.u64.bits (b:Int)).toNat=a ^^^ b:=by
    show (BitVec.ofInt 64 (a:Int) ^^^ BitVec.ofInt 64 (b:Int)).toNat=a ^^^ b
    rw [BitVec.toNat_xor,BitVec.toNat_ofInt,BitVec.toNat_ofInt]
    congr 1<;>omega
  have h2:a ^^^ b < 2 ^ 64:=Nat.xor_lt_two_pow ha hb
  rw [h1,hw];omega
theorem shl13 (a:Nat):IntKind.u64.wrap ((a:Int)*2 ^ min (Int.toNat 13) IntKind.u64.bits)=((a*8192 % 18446744073709551616:Nat):Int):=by
  have hw:∀ n:Int,IntKind.u64.wrap n=n % 18446744073709551616:=fun n=>by simp [IntKind.wrap,IntKind.bits,IntKind.signed]
  show IntKind.u64.wrap ((a:Int)*8192)=_
  rw [hw];omega
theorem shl17 (a:Nat):IntKind.u64.wrap ((a:Int)*2 ^ min (Int.toNat 17) IntKind.u64.bits)=((a*131072 % 18446744073709551616:Nat):Int):=by
  have hw:∀ n:Int,IntKind.u64.wrap n=n % 18446744073709551616:=fun n=>by simp [IntKind.wrap,IntKind.bits,IntKind.signed]
  show IntKind.u64.wrap ((a:Int)*131072)=_
  rw [hw];omega
theorem shr7 (a:Nat):(a:Int).fdiv (2 ^ min (Int.toNat 7) IntKind.u64.bits)=((a / 128:Nat):Int):=by
  show (a:Int).fdiv 128=_
  rw [Int.fdiv_eq_ediv_of_nonneg _ (by decide)];omega
theorem Next_ok (q:Nat) (x:Nat) (h:Hp) (hq:Bx h q [.int .u64 (x:Int)]) (hlq:lo≤q) (hx:x < 2 ^ 64):Tri X lo 164 [.pointer (some ⟨q,0,none⟩)] h fun v h'=>v = .int .u64 (xorNextN x:Int)∧Ext1 q h h'∧Bx h' q [.int .u64 (xorNextN x:Int)]:=by
  refine enter tbOk mtOk ⟨[],[(1,[0,1,2,3,4,5,6,7,8,9],[0,1,3,0,8,24,56,127,255,511]),(2,[0,1,2,3,4,5,6,7,8,9],[0,1,3,0,8,24,56,127,255,511]),(3,[0,1,2,3,4,5,6,7,8,9],[0,1,3,0,8,24,56,127,255,511])]⟩ 400 Tryz.func164 rfl rfl rfl fun hlo => ?_
  refine And.intro (by kernel_rfl) ?_
  refine ⟨_,hq.ld rfl,?_⟩
  refine ⟨_,hq.ld rfl,?_⟩
  refine And.intro (by decide) ?_
  have v1:(IntKind.u64.wrap (((BitVec.ofInt IntKind.u64.bits ((x:Nat):Int) ^^^ BitVec.ofInt IntKind.u64.bits (IntKind.u64.wrap (((x:Nat):Int)*2 ^ min (Int.toNat 13) IntKind.u64.bits))).toNat:Nat):Int))=(((x ^^^ (x*8192 % 18446744073709551616)):Nat):Int):=by rw [shl13];exact xw (by omega) (by omega)
  refine ⟨h.set q (.cells [.int .u64 (IntKind.u64.wrap (((BitVec.ofInt IntKind.u64.bits ((x:Nat):Int) ^^^ BitVec.ofInt IntKind.u64.bits (IntKind.u64.wrap (((x:Nat):Int)*2 ^ min (Int.toNat 13) IntKind.u64.bits))).toNat:Nat):Int))] 0 0),hq.st (lo:=lo) hlq (xs:=[.int .u64 (IntKind.u64.wrap (((BitVec.ofInt IntKind.u64.bits ((x:Nat):Int) ^^^ BitVec.ofInt IntKind.u64.bits (IntKind.u64.wrap (((x:Nat):Int)*2 ^ min (Int.toNat 13) IntKind.u64.bits))).toNat:Nat):Int))]) rfl,?_⟩
  have b1:Bx (h.set q (.cells [.int .u64 (IntKind.u64.wrap (((BitVec.ofInt IntKind.u64.bits ((x:Nat):Int) ^^^ BitVec.ofInt IntKind.u64.bits (IntKind.u64.wrap (((x:Nat):Int)*2 ^ min (Int.toNat 13) IntKind.u64.bits))).toNat:Nat):Int))] 0 0)) q [.int .u64 (IntKind.u64.wrap (((BitVec.ofInt IntKind.u64.bits ((x:Nat):Int) ^^^ BitVec.ofInt IntKind.u64.bits (IntKind.u64.wrap (((x:Nat):Int)*2 ^ min (Int.toNat 13) IntKind.u64.bits))).toNat:Nat):Int))]:=Bx.set hq
  have e1:Ext1 q h (h.set q (.cells [.int .u64 (IntKind.u64.wrap (((BitVec.ofInt IntKind.u64.bits ((x:Nat):Int) ^^^ BitVec.ofInt IntKind.u64.bits (IntKind.u64.wrap (((x:Nat):Int)*2 ^ min (Int.toNat 13) IntKind.u64.bits))).toNat:Nat):Int))] 0 0)):=((Ext.refl _).one q).set _ (.inl rfl)
  generalize h.set q (.cells [.int .u64 (IntKind.u64.wrap (((BitVec.ofInt IntKind.u64.bits ((x:Nat):Int) ^^^ BitVec.ofInt IntKind.u64.bits (IntKind.u64.wrap (((x:Nat):Int)*2 ^ min (Int.toNat 13) IntKind.u64.bits))).toNat:Nat):Int))] 0 0)=h1 at b1 e1 ⊢
  rw [v1] at b1
  have l1:(x ^^^ (x*8192 % 18446744073709551616)) < 2 ^ 64:=Nat.xor_lt_two_pow (by omega) (by omega)
  generalize hx1:(x ^^^ (x*8192 % 18446744073709551616))=x1 at b1 l1
  refine And.intro (by kernel_rfl) ?_
  refine ⟨_,b1.ld rfl,?_⟩
  refine ⟨_,b1.ld rfl,?_⟩
  refine And.intro (by decide) ?_
  have v2:(IntKind.u64.wrap (((BitVec.ofInt IntKind.u64.bits ((x1:Nat):Int) ^^^ BitVec.ofInt IntKind.u64.bits (((x1:Nat):Int).fdiv (2 ^ min (Int.toNat 7) IntKind.u64.bits))).toNat:Nat):Int))=(((x1 ^^^ (x1 / 128)):Nat):Int):=by rw [shr7];exact xw (by omega) (by omega)
  refine ⟨h1.set q (.cells [.int .u64 (IntKind.u64.wrap (((BitVec.ofInt IntKind.u64.bits ((x1:Nat):Int) ^^^ BitVec.ofInt IntKind.u64.bits (((x1:Nat):Int).fdiv (2 ^ min (Int.toNat 7) IntKind.u64.bits))).toNat:Nat):Int))] 0 0),b1.st (lo:=lo) hlq (xs:=[.int .u64 (IntKind.u64.wrap (((BitVec.ofInt IntKind.u64.bits ((x1:Nat):Int) ^^^ BitVec.ofInt IntKind.u64.bits (((x1:Nat):Int).fdiv (2 ^ min (Int.toNat 7) IntKind.u64.bits))).toNat:Nat):Int))]) rfl,?_⟩
  have b2:Bx (h1.set q (.cells [.int .u64 (IntKind.u64.wrap (((BitVec.ofInt IntKind.u64.bits ((x1:Nat):Int) ^^^ BitVec.ofInt IntKind.u64.bits (((x1:Nat):Int).fdiv (2 ^ min (Int.toNat 7) IntKind.u64.bits))).toNat:Nat):Int))] 0 0)) q [.int .u64 (IntKind.u64.wrap (((BitVec.ofInt IntKind.u64.bits ((x1:Nat):Int) ^^^ BitVec.ofInt IntKind.u64.bits (((x1:Nat):Int).fdiv (2 ^ min (Int.toNat 7) IntKind.u64.bits))).toNat:Nat):Int))]:=Bx.set b1
  have e2:Ext1 q h1 (h1.set q (.cells [.int .u64 (IntKind.u64.wrap (((BitVec.ofInt IntKind.u64.bits ((x1:Nat):Int) ^^^ BitVec.ofInt IntKind.u64.bits (((x1:Nat):Int).fdiv (2 ^ min (Int.toNat 7) IntKind.u64.bits))).toNat:Nat):Int))] 0 0)):=((Ext.refl _).one q).set _ (.inl rfl)
  generalize h1.set q (.cells [.int .u64 (IntKind.u64.wrap (((BitVec.ofInt IntKind.u64.bits ((x1:Nat):Int) ^^^ BitVec.ofInt IntKind.u64.bits (((x1:Nat):Int).fdiv (2 ^ min (Int.toNat 7) IntKind.u64.bits))).toNat:Nat):Int))] 0 0)=h2 at b2 e2 ⊢
  rw [v2] at b2
  have l2:(x1 ^^^ (x1 / 128)) < 2 ^ 64:=Nat.xor_lt_two_pow (by omega) (by omega)
  generalize hx2:(x1 ^^^ (x1 / 128))=x2 at b2 l2
  refine And.intro (by kernel_rfl) ?_
  refine ⟨_,b2.ld rfl,?_⟩
  refine ⟨_,b2.ld rfl,?_⟩
  refine And.intro (by decide) ?_
  have v3:(IntKind.u64.wrap (((BitVec.ofInt IntKind.u64.bits ((x2:Nat):Int) ^^^ BitVec.ofInt IntKind.u64.bits (IntKind.u64.wrap (((x2:Nat):Int)*2 ^ min (Int.toNat 17) IntKind.u64.bits))).toNat:Nat):Int))=(((x2 ^^^ (x2*131072 % 18446744073709551616)):Nat):Int):=by rw [shl17];exact xw (by omega) (by omega)
  refine ⟨h2.set q (.cells [.int .u64 (IntKind.u64.wrap (((BitVec.ofInt IntKind.u64.bits ((x2:Nat):Int) ^^^ BitVec.ofInt IntKind.u64.bits (IntKind.u64.wrap (((x2:Nat):Int)*2 ^ min (Int.toNat 17) IntKind.u64.bits))).toNat:Nat):Int))] 0 0),b2.st (lo:=lo) hlq (xs:=[.int .u64 (IntKind.u64.wrap (((BitVec.ofInt IntKind.u64.bits ((x2:Nat):Int) ^^^ BitVec.ofInt IntKind.u64.bits (IntKind.u64.wrap (((x2:Nat):Int)*2 ^ min (Int.toNat 17) IntKind.u64.bits))).toNat:Nat):Int))]) rfl,?_⟩
  have b3:Bx (h2.set q (.cells [.int .u64 (IntKind.u64.wrap (((BitVec.ofInt IntKind.u64.bits ((x2:Nat):Int) ^^^ BitVec.ofInt IntKind.u64.bits (IntKind.u64.wrap (((x2:Nat):Int)*2 ^ min (Int.toNat 17) IntKind.u64.bits))).toNat:Nat):Int))] 0 0)) q [.int .u64 (IntKind.u64.wrap (((BitVec.ofInt IntKind.u64.bits ((x2:Nat):Int) ^^^ BitVec.ofInt IntKind.u64.bits (IntKind.u64.wrap (((x2:Nat):Int)*2 ^ min (Int.toNat 17) IntKind.u64.bits))).toNat:Nat):Int))]:=Bx.set b2
  have e3:Ext1 q h2 (h2.set q (.cells [.int .u64 (IntKind.u64.wrap (((BitVec.ofInt IntKind.u64.bits ((x2:Nat):Int) ^^^ BitVec.ofInt IntKind.u64.bits (IntKind.u64.wrap (((x2:Nat):Int)*2 ^ min (Int.toNat 17) IntKind.u64.bits))).toNat:Nat):Int))] 0 0)):=((Ext.refl _).one q).set _ (.inl rfl)
  generalize h2.set q (.cells [.int .u64 (IntKind.u64.wrap (((BitVec.ofInt IntKind.u64.bits ((x2:Nat):Int) ^^^ BitVec.ofInt IntKind.u64.bits (IntKind.u64.wrap (((x2:Nat):Int)*2 ^ min (Int.toNat 17) IntKind.u64.bits))).toNat:Nat):Int))] 0 0)=h3 at b3 e3 ⊢
  rw [v3] at b3
  have l3:(x2 ^^^ (x2*131072 % 18446744073709551616)) < 2 ^ 64:=Nat.xor_lt_two_pow (by omega) (by omega)
  generalize hx3:(x2 ^^^ (x2*131072 % 18446744073709551616))=x3 at b3 l3
  refine ⟨_,b3.ld rfl,?_⟩
  have hN:xorNextN x=x3:=by unfold xorNextN;simp only [];rw [hx1,hx2,hx3]
  rw [hN]
  exact And.intro rfl ⟨(e1.trans e2).trans e3,b3⟩
end Go.Proofs.YtjpcfaddimlbdaaGreat.Id
namespace Go.Proofs.YtjpcfaddimlbdaaGreat.Id
open Go.Id Go.Sort
open Go.Proofs
set_option linter.unusedVariables false
set_option maxRecDepth 100000
variable {X:Ctx Tryz.prog} {lo:Nat}
theorem wu64 (n:Int):IntKind.u64.wrap n=n % 18446744073709551616:=by simp [IntKind.wrap,IntKind.bits,IntKind.signed]
theorem Len_ok (x:Nat) (hx:x < 2 ^ 32) (h:Hp):Tri X lo 126 [.int .u64 (x:Int)] h fun v h'=>v = .int .i64 (bitsLen x:Int)∧h'=h:=by
  refine enter tbOk mtOk ⟨[],[]⟩ 400 Tryz.func126 rfl rfl rfl fun hlo => ?_
  refine cndF ?_
  refine callP (Len64_ok x hx h) ?_
  rintro v h1 ⟨rfl,rfl⟩
  exact And.intro rfl rfl
theorem nextPow_ok (x:Nat) (hx:x < 2 ^ 31) (h:Hp):Tri X lo 163 [.int .i64 (x:Int)] h fun v h'=>v = .int .u64 ((1 <<< bitsLen x:Nat):Int)∧h'=h:=by
  refine enter tbOk mtOk ⟨[],[]⟩ 400 Tryz.func163 rfl rfl rfl fun hlo => ?_
  have w:IntKind.u64.wrap (x:Int)=(x:Int):=by rw [wu64];omega
  have ct:Tri X lo 126 [.int .u64 (IntKind.u64.wrap (x:Int))] h (fun v h'=>v = .int .i64 (bitsLen x:Int)∧h'=h):=by rw [w];exact Len_ok x (by omega) h
  refine callP ct ?_
  rintro v h1 ⟨rfl,rfl⟩
  refine And.intro (by omega) ?_
  refine And.intro ?_ rfl
  have hb:bitsLen x≤31:=by rw [bitsLen_le_iff];exact hx
  have hp:2 ^ bitsLen x≤2 ^ 31:=Nat.pow_le_pow_right (by decide) hb
  have e:min ((bitsLen x:Int)).toNat IntKind.u64.bits=bitsLen x:=by
    rw [Int.toNat_natCast];exact Nat.min_eq_left (by show bitsLen x≤64;omega)
  show Value.int .u64 (IntKind.u64.wrap (1*2 ^ min ((bitsLen x:Int)).toNat IntKind.u64.bits))=_
  rw [e,Nat.one_shiftLeft,wu64]
  have:((2:Int) ^ bitsLen x)=((2 ^ bitsLen x:Nat):Int):=by simp
  have hpos:=Nat.two_pow_pos (bitsLen x)
  rw [this,Int.one_mul]
  congr 1;omega
def bpSteps (d:Array Int) (a len:Nat):Nat→UInt64×Array Int
  | 0=>(UInt64.ofNat len,d)
  | k+1=>breakStep a len (1 <<< bitsLen len) (bpSteps d a len k) (a+(len / 4)*2 - 1+k)
theorem bp_eq (d:Array Int) (a c:Nat) (h:c - a≥8):breakPatterns d a c=(bpSteps d a (c - a) 3).2:=by
  unfold breakPatterns
  simp only []
  rw [if_pos h];rfl
theorem bw {a b:Nat} (ha:a < 2 ^ 64) (hb:b < 2 ^ 64):IntKind.u64.wrap (((BitVec.ofInt IntKind.u64.bits (a:Int) &&& BitVec.ofInt IntKind.u64.bits (b:Int)).toNat:Nat):Int)=((a &&& b:Nat):Int):=by
  have h1:(BitVec.ofInt IntKind.u64.bits (a:Int) &&& BitVec.ofInt IntKind.u64.bits (b:Int)).toNat=a &&& b:=by
    show (BitVec.ofInt 64 (a:Int) &&& BitVec.ofInt 64 (b:Int)).toNat=a &&& b
    rw [BitVec.toNat_and,BitVec.toNat_ofInt,BitVec.toNat_ofInt]
    congr 1<;>omega
  have h2:a &&& b < 2 ^ 64:=Nat.and_lt_two_pow _ hb
  rw [h1,wu64];omega
theorem breakPatterns_ok (b e n fl : Nat) (d0 : Array Int) (a c : Nat) (h : Hp) (r0 : AR h b e d0) (hn : d0.size = n) (ha : a ≤ c) (hc : c ≤ n) (hN : n < 2 ^ 31) (hb : lo ≤ b) : Tri X lo 141 [sa b e n fl, .int .i64 (a : Int), .int .i64 (c : Int)] h fun v h' => v = .tuple #[] ∧ PA b e n h (breakPatterns d0 a c) h' := by
  refine enter tbOk mtOk ⟨[7], [(10, [0, 1, 2, 3, 4, 5, 6, 7, 8, 9, 10, 11, 12, 13, 14, 15, 16, 17, 18, 19], [0, 0, 0, 0, 0, 24, 0, 0, 0, 384, 960, 1984, 0, 0, 12288, 28672, 65475, 131011, 262143, 524287])]⟩ 400 Tryz.func141 rfl rfl rfl fun hlo => ?_
  have l0 : IntKind.i64.wrap ((c : Int) - (a : Int)) = ((c - a : Nat) : Int) := wz (by omega) (by omega)
  have lt0 := r0.lt
  refine cnd (fun c1 => ?_) (fun c1 => ?_)
  · have c1 : c - a ≥ 8 := by have := of_decide_eq_true c1; omega
    rw [bp_eq _ _ _ c1]
    have u0 : IntKind.u64.wrap (IntKind.i64.wrap ((c : Int) - (a : Int))) = ((c - a : Nat) : Int) := by rw [l0, wu64]; omega
    have e0 : Ext h (h.push (.cells [.int .u64 0] 0 0)) := Ext.push _ _
    have b0 : Bx (h.push (.cells [.int .u64 0] 0 0)) h.n [.int .u64 0] := Bx.push
    refine ⟨(h.push (.cells [.int .u64 0] 0 0)).set h.n (.cells [.int .u64 (IntKind.u64.wrap (IntKind.i64.wrap ((c : Int) - (a : Int))))] 0 0), b0.st (lo := lo) hlo (xs := [.int .u64 (IntKind.u64.wrap (IntKind.i64.wrap ((c : Int) - (a : Int))))]) rfl, ?_⟩
    have b1 : Bx ((h.push (.cells [.int .u64 0] 0 0)).set h.n (.cells [.int .u64 (IntKind.u64.wrap (IntKind.i64.wrap ((c : Int) - (a : Int))))] 0 0)) h.n [.int .u64 (IntKind.u64.wrap (IntKind.i64.wrap ((c : Int) - (a : Int))))] := Bx.set b0
    have e1 : Ext h ((h.push (.cells [.int .u64 0] 0 0)).set h.n (.cells [.int .u64 (IntKind.u64.wrap (IntKind.i64.wrap ((c : Int) - (a : Int))))] 0 0)) := e0.set (Nat.le_refl _) _
    generalize (h.push (.cells [.int .u64 0] 0 0)).set h.n (.cells [.int .u64 (IntKind.u64.wrap (IntKind.i64.wrap ((c : Int) - (a : Int))))] 0 0) = h1 at b1 e1 ⊢
    rw [u0] at b1
    have ct : Tri X lo 163 [.int .i64 (IntKind.i64.wrap ((c : Int) - (a : Int)))] h1 (fun v h' => v = .int .u64 ((1 <<< bitsLen (c - a) : Nat) : Int) ∧ h' = h1) := by rw [l0]; exact nextPow_ok (c - a) (by omega) h1
    refine callP ct ?_
    rintro v h1' ⟨rfl, rfl⟩
    have l4 : IntKind.i64.wrap ((IntKind.i64.wrap ((c : Int) - (a : Int))).tdiv 4) = (((c - a) / 4 : Nat) : Int) := by
      rw [l0, Int.tdiv_eq_ediv_of_nonneg (by omega), wr (by omega) (by omega)]; omega
    have l8 : IntKind.i64.wrap ((a : Int) + IntKind.i64.wrap (IntKind.i64.wrap ((IntKind.i64.wrap ((c : Int) - (a : Int))).tdiv 4) * 2)) = ((a + (c - a) / 4 * 2 : Nat) : Int) := by
      rw [l4, wr (n := (((c - a) / 4 : Nat) : Int) * 2) (by omega) (by omega), wr (by omega) (by omega)]; omega
    have l9 : IntKind.i64.wrap (IntKind.i64.wrap ((a : Int) + IntKind.i64.wrap (IntKind.i64.wrap ((IntKind.i64.wrap ((c : Int) - (a : Int))).tdiv 4) * 2)) - 1) = ((a + (c - a) / 4 * 2 - 1 + 0 : Nat) : Int) := by
      rw [l8, wr (by omega) (by omega)]; omega
    have k4 : IntKind.i64.wrap ((((c - a : Nat) : Int)).tdiv 4) = (((c - a) / 4 : Nat) : Int) := by
      rw [Int.tdiv_eq_ediv_of_nonneg (by omega), wr (by omega) (by omega)]; omega
    have k9 : IntKind.i64.wrap (IntKind.i64.wrap ((a : Int) + IntKind.i64.wrap (IntKind.i64.wrap ((((c - a : Nat) : Int)).tdiv 4) * 2)) + 1) = ((a + (c - a) / 4 * 2 + 1 : Nat) : Int) := by
      rw [k4, wr (n := (((c - a) / 4 : Nat) : Int) * 2) (by omega) (by omega), wr (n := (a : Int) + (((c - a) / 4 : Nat) : Int) * 2) (by omega) (by omega), wr (by omega) (by omega)]; omega
    have hbl : bitsLen (c - a) ≤ 31 := by rw [bitsLen_le_iff]; omega
    have hp31 : 2 ^ bitsLen (c - a) ≤ 2 ^ 31 := Nat.pow_le_pow_right (by decide) hbl
    have hpp := two_pow_bitsLen_le (n := c - a) (by omega)
    have hp0 := Nat.two_pow_pos (bitsLen (c - a))
    have hmod : (1 <<< bitsLen (c - a) : Nat) = 2 ^ bitsLen (c - a) := Nat.one_shiftLeft _
    have mw : IntKind.u64.wrap (((1 <<< bitsLen (c - a) : Nat) : Int) - 1) = ((1 <<< bitsLen (c - a) - 1 : Nat) : Int) := by rw [wu64]; omega
    refine And.intro (by decide) ?_
    refine loop (σ := Nat) tbOk mtOk ⟨[7], [(10, [0, 1, 2, 3, 4, 5, 6, 7, 8, 9, 10, 11, 12, 13, 14, 15, 16, 17, 18, 19], [0, 0, 0, 0, 0, 24, 0, 0, 0, 384, 960, 1984, 0, 0, 12288, 28672, 65475, 131011, 262143, 524287])]⟩ (fun k => [(9, .v (.int .i64 ((a + (c - a) / 4 * 2 - 1 + k : Nat) : Int))), (8, .v (.int .u64 ((1 <<< bitsLen (c - a) : Nat) : Int))), (7, .v (.pointer (some ⟨h.n, 0, none⟩))), (6, .v (.int .i64 ((c - a : Nat) : Int))), (0, .v (sa b e n fl)), (1, .v (.int .i64 (a : Int)))]) (fun _ => []) (fun k h' => k ≤ 3 ∧ Ext1 b h h' ∧ AR h' b e (bpSteps d0 a (c - a) k).2 ∧ (bpSteps d0 a (c - a) k).2.size = n ∧ Bx h' h.n [.int .u64 ((bpSteps d0 a (c - a) k).1.toNat : Int)]) (fun k => 3 - k) 400 0 (fun _ => rfl) ⟨vI l9, rfl, rfl, vI l0, rfl, rfl, trivial⟩ trivial ⟨Nat.zero_le _, e1.one b, r0.ext e1, hn, by show Bx h1' h.n [.int .u64 ((UInt64.ofNat (c - a)).toNat : Int)]; rw [UInt64.toNat_ofNat_of_lt' (by show _ < 18446744073709551616; omega)]; exact b1⟩ (fun k h2 hI again => ?_)
    obtain ⟨i1, i2, i3, i4, i5⟩ := hI
    refine And.intro (by decide) ?_
    refine cnd (fun c2 => ?_) (fun c2 => ?_)
    · have c2 : k ≤ 2 := by have := of_decide_eq_true c2; omega
      have hr := (bpSteps d0 a (c - a) k).1.toNat_lt
      have hx := xorNextN_lt _ hr
      have wk : IntKind.i64.wrap (((a + (c - a) / 4 * 2 - 1 + k : Nat) : Int) + 1) = ((a + (c - a) / 4 * 2 - 1 + (k + 1) : Nat) : Int) := wz (by omega) (by omega)
      refine callP (Next_ok h.n _ h2 i5 hlo hr) ?_
      rintro v h3 ⟨rfl, e3, q3⟩
      have r3 : AR h3 b e (bpSteps d0 a (c - a) k).2 := i3.ext1 e3 (by omega)
      have x3 : Ext1 b h h3 := ⟨Nat.le_trans i2.n e3.n, fun i hi hj => (e3.g i (Nat.lt_of_lt_of_le hi i2.n) (by omega)).trans (i2.g i hi hj)⟩
      have hand : xorNextN (bpSteps d0 a (c - a) k).1.toNat &&& (1 <<< bitsLen (c - a) - 1) ≤ 1 <<< bitsLen (c - a) - 1 := Nat.and_le_right
      have hst : bpSteps d0 a (c - a) (k + 1) = (xorNext (bpSteps d0 a (c - a) k).1, swp (bpSteps d0 a (c - a) k).2 (a + (c - a) / 4 * 2 - 1 + k) (a + (if (xorNext (bpSteps d0 a (c - a) k).1).toNat &&& (1 <<< bitsLen (c - a) - 1) ≥ c - a then ((xorNext (bpSteps d0 a (c - a) k).1).toNat &&& (1 <<< bitsLen (c - a) - 1)) - (c - a) else (xorNext (bpSteps d0 a (c - a) k).1).toNat &&& (1 <<< bitsLen (c - a) - 1)))) := rfl
      have hxn := xorNext_toNat (bpSteps d0 a (c - a) k).1
      have ow : IntKind.i64.wrap (IntKind.u64.wrap (((BitVec.ofInt IntKind.u64.bits ((xorNextN (bpSteps d0 a (c - a) k).1.toNat : Nat) : Int) &&& BitVec.ofInt IntKind.u64.bits (IntKind.u64.wrap (((1 <<< bitsLen (c - a) : Nat) : Int) - 1))).toNat : Nat) : Int)) = ((xorNextN (bpSteps d0 a (c - a) k).1.toNat &&& (1 <<< bitsLen (c - a) - 1) : Nat) : Int) := by
        rw [mw, bw hx (by omega)]; exact wz rfl (by omega)
      rw [hxn] at hst
      have hs1 : (bpSteps d0 a (c - a) (k + 1)).1.toNat = xorNextN (bpSteps d0 a (c - a) k).1.toNat := by rw [hst]; exact hxn
      have q4 : Bx h3 h.n [.int .u64 ((bpSteps d0 a (c - a) (k + 1)).1.toNat : Int)] := by rw [hs1]; exact q3
      have hs2 : (bpSteps d0 a (c - a) (k + 1)).2 = swp (bpSteps d0 a (c - a) k).2 (a + (c - a) / 4 * 2 - 1 + k) (a + (if xorNextN (bpSteps d0 a (c - a) k).1.toNat &&& (1 <<< bitsLen (c - a) - 1) ≥ c - a then (xorNextN (bpSteps d0 a (c - a) k).1.toNat &&& (1 <<< bitsLen (c - a) - 1)) - (c - a) else xorNextN (bpSteps d0 a (c - a) k).1.toNat &&& (1 <<< bitsLen (c - a) - 1))) := by rw [hst]
      clear hst hs1 hxn q3
      generalize hoN : xorNextN (bpSteps d0 a (c - a) k).1.toNat &&& (1 <<< bitsLen (c - a) - 1) = oN at hand ow hs2
      generalize hO : IntKind.i64.wrap (IntKind.u64.wrap (((BitVec.ofInt IntKind.u64.bits ((xorNextN (bpSteps d0 a (c - a) k).1.toNat : Nat) : Int) &&& BitVec.ofInt IntKind.u64.bits (IntKind.u64.wrap (((1 <<< bitsLen (c - a) : Nat) : Int) - 1))).toNat : Nat) : Int)) = O at ow
      refine cnd (fun c3 => ?_) (fun c3 => ?_)
      · have c3 : oN ≥ c - a := by have : O ≥ ((c - a : Nat) : Int) := by rw [← hO]; exact of_decide_eq_true c3
                                   omega
        rw [if_pos c3] at hs2
        have wo : IntKind.i64.wrap (IntKind.i64.wrap (IntKind.u64.wrap (((BitVec.ofInt IntKind.u64.bits ((xorNextN (bpSteps d0 a (c - a) k).1.toNat : Nat) : Int) &&& BitVec.ofInt IntKind.u64.bits (IntKind.u64.wrap (((1 <<< bitsLen (c - a) : Nat) : Int) - 1))).toNat : Nat) : Int)) - ((c - a : Nat) : Int)) = ((oN - (c - a) : Nat) : Int) := by rw [hO]; exact wz (by omega) (by omega)
        have wp : IntKind.i64.wrap ((a : Int) + IntKind.i64.wrap (IntKind.i64.wrap (IntKind.u64.wrap (((BitVec.ofInt IntKind.u64.bits ((xorNextN (bpSteps d0 a (c - a) k).1.toNat : Nat) : Int) &&& BitVec.ofInt IntKind.u64.bits (IntKind.u64.wrap (((1 <<< bitsLen (c - a) : Nat) : Int) - 1))).toNat : Nat) : Int)) - ((c - a : Nat) : Int))) = ((a + (oN - (c - a)) : Nat) : Int) := by rw [wo]; exact wz (by omega) (by omega)
        refine And.intro (by kernel_rfl) ?_
        refine And.intro ⟨by omega, by omega⟩ ?_
        refine ⟨_, r3.ldI wp (by omega), ?_⟩
        refine And.intro ⟨by omega, by omega⟩ ?_
        refine ⟨_, r3.ldI rfl (by omega), ?_⟩
        refine And.intro ⟨by omega, by omega⟩ ?_
        refine ⟨_, r3.stI (lo := lo) hb rfl (i := a + (c - a) / 4 * 2 - 1 + k) (by omega) _, ?_⟩
        refine And.intro ⟨by omega, by omega⟩ ?_
        refine ⟨hsw h3 b e (bpSteps d0 a (c - a) k).2 (a + (c - a) / 4 * 2 - 1 + k) (a + (oN - (c - a))), (r3.sw1 (a + (c - a) / 4 * 2 - 1 + k) (a + (oN - (c - a)))).stI (lo := lo) hb wp (by rw [Array.size_setIfInBounds]; omega) _, ?_⟩
        refine again (k + 1) _ _ _ (by show 3 - (k + 1) < 3 - k; omega) ⟨vI wk, rfl, rfl, rfl, rfl, rfl, trivial⟩ trivial ⟨by omega, x3.trans (hsw_ext _ _), by rw [hs2]; exact r3.sw _ _, by rw [hs2]; exact swp_sz i4 _ _, (q4.off (by omega)).off (by omega)⟩
      · have c3 : ¬ oN ≥ c - a := by have : ¬ O ≥ ((c - a : Nat) : Int) := by rw [← hO]; exact of_decide_eq_false c3
                                     omega
        rw [if_neg c3] at hs2
        have wp : IntKind.i64.wrap ((a : Int) + IntKind.i64.wrap (IntKind.u64.wrap (((BitVec.ofInt IntKind.u64.bits ((xorNextN (bpSteps d0 a (c - a) k).1.toNat : Nat) : Int) &&& BitVec.ofInt IntKind.u64.bits (IntKind.u64.wrap (((1 <<< bitsLen (c - a) : Nat) : Int) - 1))).toNat : Nat) : Int))) = ((a + oN : Nat) : Int) := by rw [hO]; exact wz (by omega) (by omega)
        refine And.intro (by kernel_rfl) ?_
        refine And.intro ⟨by omega, by omega⟩ ?_
        refine ⟨_, r3.ldI wp (by omega), ?_⟩
        refine And.intro ⟨by omega, by omega⟩ ?_
        refine ⟨_, r3.ldI rfl (by omega), ?_⟩
        refine And.intro ⟨by omega, by omega⟩ ?_
        refine ⟨_, r3.stI (lo := lo) hb rfl (i := a + (c - a) / 4 * 2 - 1 + k) (by omega) _, ?_⟩
        refine And.intro ⟨by omega, by omega⟩ ?_
        refine ⟨hsw h3 b e (bpSteps d0 a (c - a) k).2 (a + (c - a) / 4 * 2 - 1 + k) (a + oN), (r3.sw1 (a + (c - a) / 4 * 2 - 1 + k) (a + oN)).stI (lo := lo) hb wp (by rw [Array.size_setIfInBounds]; omega) _, ?_⟩
        refine again (k + 1) _ _ _ (by show 3 - (k + 1) < 3 - k; omega) ⟨vI wk, rfl, rfl, rfl, rfl, rfl, trivial⟩ trivial ⟨by omega, x3.trans (hsw_ext _ _), by rw [hs2]; exact r3.sw _ _, by rw [hs2]; exact swp_sz i4 _ _, (q4.off (by omega)).off (by omega)⟩
    · have c2 : k = 3 := by have := of_decide_eq_false c2; omega
      subst c2
      exact And.intro rfl ⟨i2, i3, i4⟩
  · have c1 : ¬ c - a ≥ 8 := by have := of_decide_eq_false c1; omega
    have : breakPatterns d0 a c = d0 := by unfold breakPatterns; simp only []; rw [if_neg c1]
    rw [this]
    exact And.intro rfl ⟨(Ext.refl _).one b, r0, hn⟩
end Go.Proofs.YtjpcfaddimlbdaaGreat.Id
namespace Go.Proofs.YtjpcfaddimlbdaaGreat.Id
open Go.Id Go.Sort
open Go.Proofs
set_option linter.unusedVariables false
set_option maxRecDepth 100000
variable {X:Ctx Tryz.prog} {lo:Nat}
theorem vB {p q:Prop} [Decidable p] [Decidable q] (h:p↔q):some (Sl.v (Value.bool (decide p)))=some (Sl.v (Value.bool (decide q))):=by simp only [h]
theorem partEq_in (d:Array Int) {a c pv:Nat} (h1:a≤pv) (h2:pv < c) (hc:c≤d.size):a < (partitionEqual ltInt d a c pv).1∧(partitionEqual ltInt d a c pv).1≤c:=by
  have:=partEqLoop_spec ltInt a c _ (a+1) (c - 1) (swp d a pv) (Nat.le_refl _) (by omega) (by omega) (by omega) (by rw [swp_size'];exact hc) (fun t q q'=>by omega) (fun t q q'=>by omega)
  exact ⟨this.1,this.2.1⟩
structure PQ where
  a:Nat
  c:Nat
  lim:Nat
  wb:Bool
  wp:Bool
  d:Array Int
theorem pdq_ok (b e n fl : Nat) (hN : n < 2 ^ 31) (hb : lo ≤ b) : ∀ (m : Nat) (d0 : Array Int) (a0 c0 lim0 : Nat) (h : Hp), c0 - a0 ≤ m → AR h b e d0 → d0.size = n → a0 ≤ c0 → c0 ≤ n → lim0 < 2 ^ 31 → Tri X lo 125 [sa b e n fl, .int .i64 (a0 : Int), .int .i64 (c0 : Int), .int .i64 (lim0 : Int)] h fun v h' => v = .tuple #[] ∧ PA b e n h (pdq ltInt d0 a0 c0 lim0 true true) h' := by
  intro m
  induction m using Nat.strongRecOn with
  | _ m ih =>
  intro d0 a0 c0 lim0 h hm r0 hn hac hc hl
  refine enter tbOk mtOk ⟨[], [(17, [0, 1, 2, 3, 4, 5, 6, 7, 8, 9, 10, 11, 12, 13, 14], [0, 1, 3, 7, 7, 23, 63, 127, 7, 7, 775, 1799, 4095, 8191, 16383])]⟩ 400 Tryz.func125 rfl rfl rfl fun hlo => ?_
  refine loop (σ := PQ) tbOk mtOk ⟨[], [(17, [0, 1, 2, 3, 4, 5, 6, 7, 8, 9, 10, 11, 12, 13, 14], [0, 1, 3, 7, 7, 23, 63, 127, 7, 7, 775, 1799, 4095, 8191, 16383])]⟩ (fun u => [(3, .v (.int .i64 (u.lim : Int))), (8, .v (.bool u.wb)), (9, .v (.bool u.wp)), (0, .v (sa b e n fl)), (1, .v (.int .i64 (u.a : Int))), (2, .v (.int .i64 (u.c : Int)))]) (fun _ => []) (fun u h' => u.a ≤ u.c ∧ u.c ≤ n ∧ u.lim < 2 ^ 31 ∧ (u.c - u.a ≤ m ∧ Ext1 b h h') ∧ AR h' b e u.d ∧ u.d.size = n ∧ pdq ltInt u.d u.a u.c u.lim u.wb u.wp = pdq ltInt d0 a0 c0 lim0 true true) (fun u => u.c - u.a) 25 ⟨a0, c0, lim0, true, true, d0⟩ (fun _ => rfl) ⟨rfl, rfl, rfl, rfl, rfl, rfl, trivial⟩ trivial ⟨hac, hc, hl, ⟨hm, (Ext.refl _).one b⟩, r0, hn, rfl⟩ (fun u h1 hI again => ?_)
  obtain ⟨i1, i2, i3, ⟨i4, i5⟩, i6, i7, i8⟩ := hI
  have wl : IntKind.i64.wrap ((u.c : Int) - (u.a : Int)) = ((u.c - u.a : Nat) : Int) := wz (by omega) (by omega)
  refine cnd (fun c1 => ?_) (fun c1 => ?_)
  · have c1 : u.c - u.a ≤ 12 := by have := of_decide_eq_true c1; omega
    rw [pdq_small c1] at i8
    refine callP (insertionSort_ok b e n fl u.d u.a u.c h1 i6 i7 i2 hN (by omega) hb) ?_
    rintro v h2 ⟨rfl, e2, r2, z2⟩
    rw [← i8]
    exact And.intro rfl ⟨i5.trans e2, r2, z2⟩
  have c1 : ¬ u.c - u.a ≤ 12 := by have := of_decide_eq_false c1; omega
  refine cnd (fun c2 => ?_) (fun c2 => ?_)
  · have c2 : u.lim = 0 := by have : (u.lim : Int) = 0 := by simpa using c2
                              omega
    rw [pdq_heap c1 c2] at i8
    refine more tbOk mtOk ⟨[], [(17, [0, 1, 2, 3, 4, 5, 6, 7, 8, 9, 10, 11, 12, 13, 14], [0, 1, 3, 7, 7, 23, 63, 127, 7, 7, 775, 1799, 4095, 8191, 16383])]⟩ 400 ?_
    refine callP (heapSort_ok b e n fl u.d u.a u.c h1 i6 i7 i1 i2 hN hb) ?_
    rintro v h2 ⟨rfl, e2, r2, z2⟩
    rw [← i8]
    exact And.intro rfl ⟨i5.trans e2, r2, z2⟩
  have c2 : ¬ u.lim = 0 := by have : ¬ (u.lim : Int) = 0 := by simpa using c2
                              omega
  obtain ⟨RD, hRD⟩ : ∃ RD, RD = rd ltInt u.d u.a u.c u.lim u.wb u.wp := ⟨_, rfl⟩
  refine joinK (σ := Unit) tbOk mtOk ⟨[], [(17, [0, 1, 2, 3, 4, 5, 6, 7, 8, 9, 10, 11, 12, 13, 14], [0, 1, 3, 7, 7, 23, 63, 127, 7, 7, 775, 1799, 4095, 8191, 16383])]⟩ (fun _ => [(3, .v (.int .i64 (RD.lim : Int))), (8, .v (.bool u.wb)), (9, .v (.bool u.wp)), (10, .v (.int .i64 ((u.c - u.a : Nat) : Int))), (0, .v (sa b e n fl)), (1, .v (.int .i64 (u.a : Int))), (2, .v (.int .i64 (u.c : Int)))]) (fun _ => []) (fun _ h' => Ext1 b h h' ∧ AR h' b e RD.d1 ∧ RD.d1.size = n) 7 13 (fun _ => rfl) (fun done => ?_) (fun _ h2 hE => ?_)
  · refine cnd (fun c3 => ?_) (fun c3 => ?_)
    · have c3 : u.wb = false := by simpa using c3
      have h1' : RD.d1 = breakPatterns u.d u.a u.c := by rw [hRD, c3]; rfl
      have h2' : RD.lim = u.lim - 1 := by rw [hRD, c3]; rfl
      refine more tbOk mtOk ⟨[], [(17, [0, 1, 2, 3, 4, 5, 6, 7, 8, 9, 10, 11, 12, 13, 14], [0, 1, 3, 7, 7, 23, 63, 127, 7, 7, 775, 1799, 4095, 8191, 16383])]⟩ 11 ?_
      refine callP (breakPatterns_ok b e n fl u.d u.a u.c h1 i6 i7 i1 i2 hN hb) ?_
      rintro v h2 ⟨rfl, e2, r2, z2⟩
      have wm : IntKind.i64.wrap ((u.lim : Int) - 1) = (RD.lim : Int) := by rw [h2']; exact wz (by omega) (by omega)
      exact done () _ _ _ ⟨vI wm, rfl, rfl, vI wl, rfl, rfl, rfl, trivial⟩ trivial ⟨i5.trans e2, by rw [h1']; exact r2, by rw [h1']; exact z2⟩
    · have c3 : u.wb = true := by simpa using c3
      have h1' : RD.d1 = u.d := by rw [hRD, c3]; rfl
      have h2' : RD.lim = u.lim := by rw [hRD, c3]; rfl
      exact done () _ _ _ ⟨vI (by rw [h2']), rfl, rfl, vI wl, rfl, rfl, rfl, trivial⟩ trivial ⟨i5, by rw [h1']; exact i6, by rw [h1']; exact i7⟩
  clear i5 i6 i7
  obtain ⟨j1, j2, j3⟩ := hE
  have hlim : RD.lim < 2 ^ 31 := by
    rw [hRD]; show (if !u.wb then u.lim - 1 else u.lim) < 2 ^ 31
    split <;> omega
  have hcp : RD.c = choosePivot ltInt RD.d1 u.a u.c := by rw [hRD]; rfl
  have hcr := choosePivot_holds ltInt RD.d1 u.a u.c (by omega)
  rw [← hcp] at hcr
  have mk := choosePivot_ok (X := X) (lo := lo) b e n fl RD.d1 u.a u.c h2 j2 j3 (by omega) i2 hN
  rw [← hcp] at mk
  refine callP mk ?_
  rintro v h3 ⟨rfl, e3⟩
  have k1 := j1.trans (e3.one b)
  have k2 : AR h3 b e RD.d1 := j2.ext e3
  have lt3 := k2.lt
  refine joinK (σ := Unit) tbOk mtOk ⟨[], [(17, [0, 1, 2, 3, 4, 5, 6, 7, 8, 9, 10, 11, 12, 13, 14], [0, 1, 3, 7, 7, 23, 63, 127, 7, 7, 775, 1799, 4095, 8191, 16383])]⟩ (fun _ => [(11, .v (.int .i64 (RD.pivot : Int))), (12, .v (.int .i64 (hintCode RD.hint))), (3, .v (.int .i64 (RD.lim : Int))), (8, .v (.bool u.wb)), (9, .v (.bool u.wp)), (10, .v (.int .i64 ((u.c - u.a : Nat) : Int))), (0, .v (sa b e n fl)), (1, .v (.int .i64 (u.a : Int))), (2, .v (.int .i64 (u.c : Int)))]) (fun _ => []) (fun _ h' => Ext1 b h h' ∧ AR h' b e RD.d2 ∧ RD.d2.size = n) 7 1 (fun _ => rfl) (fun done => ?_) (fun _ h4 hE => ?_)
  · refine cnd (fun c3 => ?_) (fun c3 => ?_)
    · have c3 : RD.c.2 = .decreasing := by
        have c3 : hintCode RD.c.2 = 2 := by simpa using c3
        generalize RD.c.2 = q at c3
        cases q <;> first | rfl | exact absurd c3 (by decide)
      have d2 : RD.d2 = reverseRange RD.d1 u.a u.c := by
        have : RD.d2 = if RD.c.2 = .decreasing then reverseRange RD.d1 u.a u.c else RD.d1 := by rw [hRD]; rfl
        rw [this, if_pos c3]
      have hh : RD.hint = .increasing := by
        have : RD.hint = if RD.c.2 = .decreasing then Hint.increasing else RD.c.2 := by rw [hRD]; rfl
        rw [this, if_pos c3]
      have hp : RD.pivot = (u.c - 1) - (RD.c.1 - u.a) := by
        have : RD.pivot = if RD.c.2 = .decreasing then (u.c - 1) - (RD.c.1 - u.a) else RD.c.1 := by rw [hRD]; rfl
        rw [this, if_pos c3]
      refine more tbOk mtOk ⟨[], [(17, [0, 1, 2, 3, 4, 5, 6, 7, 8, 9, 10, 11, 12, 13, 14], [0, 1, 3, 7, 7, 23, 63, 127, 7, 7, 775, 1799, 4095, 8191, 16383])]⟩ 19 ?_
      refine callP (reverseRange_ok b e n fl RD.d1 u.a u.c h3 k2 j3 (by omega) i2 (by omega) hN hb) ?_
      rintro v h4 ⟨rfl, e4, r4, z4⟩
      have w1 : IntKind.i64.wrap ((u.c : Int) - 1) = ((u.c - 1 : Nat) : Int) := wz (by omega) (by omega)
      have w2 : IntKind.i64.wrap ((RD.c.1 : Int) - (u.a : Int)) = ((RD.c.1 - u.a : Nat) : Int) := wz (by omega) (by omega)
      have w3 : IntKind.i64.wrap (IntKind.i64.wrap ((u.c : Int) - 1) - IntKind.i64.wrap ((RD.c.1 : Int) - (u.a : Int))) = (RD.pivot : Int) := by rw [hp]; exact wz (by omega) (by omega)
      exact done () _ _ _ ⟨vI w3, vI (by rw [hh]; rfl), rfl, rfl, rfl, rfl, rfl, rfl, rfl, trivial⟩ trivial ⟨k1.trans e4, by rw [d2]; exact r4, by rw [d2]; exact z4⟩
    · have c3 : ¬ RD.c.2 = .decreasing := by
        intro q
        rw [q] at c3
        exact absurd c3 (by decide)
      have d2 : RD.d2 = RD.d1 := by
        have : RD.d2 = if RD.c.2 = .decreasing then reverseRange RD.d1 u.a u.c else RD.d1 := by rw [hRD]; rfl
        rw [this, if_neg c3]
      have hh : RD.hint = RD.c.2 := by
        have : RD.hint = if RD.c.2 = .decreasing then Hint.increasing else RD.c.2 := by rw [hRD]; rfl
        rw [this, if_neg c3]
      have hp : RD.pivot = RD.c.1 := by
        have : RD.pivot = if RD.c.2 = .decreasing then (u.c - 1) - (RD.c.1 - u.a) else RD.c.1 := by rw [hRD]; rfl
        rw [this, if_neg c3]
      exact done () _ _ _ ⟨vI (by rw [hp]), vI (by rw [hh]), rfl, rfl, rfl, rfl, rfl, rfl, rfl, trivial⟩ trivial ⟨k1, by rw [d2]; exact k2, by rw [d2]; exact j3⟩
  clear j1 j2 j3 k1 k2 mk e3 lt3
  obtain ⟨j1, j2, j3⟩ := hE
  have hpv : u.a ≤ RD.pivot ∧ RD.pivot < u.c := by
    have : RD.pivot = if RD.c.2 = .decreasing then (u.c - 1) - (RD.c.1 - u.a) else RD.c.1 := by rw [hRD]; rfl
    rw [this]; split <;> omega
  have hpi : RD.pi = if u.wb && u.wp && RD.hint = .increasing then partialInsertionSort ltInt RD.d2 u.a u.c else (RD.d2, false) := by rw [hRD]; rfl
  refine joinK (σ := Unit) tbOk mtOk ⟨[], [(17, [0, 1, 2, 3, 4, 5, 6, 7, 8, 9, 10, 11, 12, 13, 14], [0, 1, 3, 7, 7, 23, 63, 127, 7, 7, 775, 1799, 4095, 8191, 16383])]⟩ (fun _ => [(11, .v (.int .i64 (RD.pivot : Int))), (3, .v (.int .i64 (RD.lim : Int))), (8, .v (.bool u.wb)), (9, .v (.bool u.wp)), (10, .v (.int .i64 ((u.c - u.a : Nat) : Int))), (0, .v (sa b e n fl)), (1, .v (.int .i64 (u.a : Int))), (2, .v (.int .i64 (u.c : Int)))]) (fun _ => []) (fun _ h' => Ext1 b h h' ∧ AR h' b e RD.pi.1 ∧ RD.pi.1.size = n ∧ RD.pi.2 = false) 13 400 (fun _ => rfl) (fun done => ?_) (fun _ h5 hE => ?_)
  · have stay : RD.pi = (RD.d2, false) → Ext1 b h h4 ∧ AR h4 b e RD.pi.1 ∧ RD.pi.1.size = n ∧ RD.pi.2 = false := fun q => by rw [q]; exact ⟨j1, j2, j3, rfl⟩
    refine cnd (fun c3 => ?_) (fun c3 => ?_)
    · refine cnd (fun c4 => ?_) (fun c4 => ?_)
      · refine cnd (fun c5 => ?_) (fun c5 => ?_)
        · have c5 : RD.hint = .increasing := by
            have c5 : hintCode RD.hint = 1 := by simpa using c5
            generalize RD.hint = q at c5
            cases q <;> first | rfl | exact absurd c5 (by decide)
          rw [if_pos (by rw [c3, c4, c5]; rfl)] at hpi
          have mk := partialInsertionSort_ok (X := X) (lo := lo) b e n fl RD.d2 u.a u.c h4 j2 j3 (by omega) i2 hN hb
          rw [← hpi] at mk
          refine more tbOk mtOk ⟨[], [(17, [0, 1, 2, 3, 4, 5, 6, 7, 8, 9, 10, 11, 12, 13, 14], [0, 1, 3, 7, 7, 23, 63, 127, 7, 7, 775, 1799, 4095, 8191, 16383])]⟩ 8 ?_
          refine callP mk ?_
          rintro v h5 ⟨rfl, e5, r5, z5⟩
          refine cnd (fun c6 => ?_) (fun c6 => ?_)
          · have c6 : RD.pi.2 = true := c6
            rw [pdq_done c1 c2 (by rw [← hRD]; exact c6), ← hRD] at i8
            rw [← i8]
            exact And.intro rfl ⟨j1.trans e5, r5, z5⟩
          · exact done () _ _ _ ⟨rfl, rfl, rfl, rfl, rfl, rfl, rfl, rfl, trivial⟩ trivial ⟨j1.trans e5, r5, z5, c6⟩
        · have c5 : ¬ RD.hint = .increasing := by
            intro q
            rw [q] at c5
            exact absurd c5 (by decide)
          rw [if_neg (by simp [c5])] at hpi
          exact done () _ _ _ ⟨rfl, rfl, rfl, rfl, rfl, rfl, rfl, rfl, trivial⟩ trivial (stay hpi)
      · refine cndF ?_
        rw [if_neg (by rw [c4]; simp)] at hpi
        exact done () _ _ _ ⟨rfl, rfl, rfl, rfl, rfl, rfl, rfl, rfl, trivial⟩ trivial (stay hpi)
    · refine cndF ?_
      refine cndF ?_
      rw [if_neg (by rw [c3]; simp)] at hpi
      exact done () _ _ _ ⟨rfl, rfl, rfl, rfl, rfl, rfl, rfl, rfl, trivial⟩ trivial (stay hpi)
  clear j1 j2 j3 hpi
  obtain ⟨j1, j2, j3, hp2⟩ := hE
  have q1 : (rd ltInt u.d u.a u.c u.lim u.wb u.wp).pi.2 = false := by rw [← hRD]; exact hp2
  have equal : (decide (u.a > 0) && !ltInt RD.pi.1[u.a - 1]! RD.pi.1[RD.pivot]!) = true → pdq ltInt (partitionEqual ltInt RD.pi.1 u.a u.c RD.pivot).2 (partitionEqual ltInt RD.pi.1 u.a u.c RD.pivot).1 u.c RD.lim u.wb u.wp = pdq ltInt d0 a0 c0 lim0 true true := fun q => by
    have := pdq_eq c1 c2 q1 (by rw [← hRD]; exact q) (by rw [← hRD]; exact partEq_in _ hpv.1 hpv.2 (by omega))
    rw [← hRD] at this
    rw [← i8, this]
  have hpt := partition_holds ltInt swo_ltInt RD.pi.1 u.a u.c RD.pivot hpv.1 hpv.2 (by omega)
  have left : (decide (u.a > 0) && !ltInt RD.pi.1[u.a - 1]! RD.pi.1[RD.pivot]!) = false → (partition ltInt RD.pi.1 u.a u.c RD.pivot).1 - u.a < u.c - (partition ltInt RD.pi.1 u.a u.c RD.pivot).1 → pdq ltInt (pdq ltInt (partition ltInt RD.pi.1 u.a u.c RD.pivot).2.2 u.a (partition ltInt RD.pi.1 u.a u.c RD.pivot).1 RD.lim true true) ((partition ltInt RD.pi.1 u.a u.c RD.pivot).1 + 1) u.c RD.lim (decide ((partition ltInt RD.pi.1 u.a u.c RD.pivot).1 - u.a ≥ (u.c - u.a) / 8)) (partition ltInt RD.pi.1 u.a u.c RD.pivot).2.1 = pdq ltInt d0 a0 c0 lim0 true true := fun q q' => by
    have := pdq_left c1 c2 q1 (by rw [← hRD]; exact q) (by rw [← hRD]; exact ⟨hpt.1, hpt.2.1⟩) (by rw [← hRD]; exact q')
    rw [← hRD] at this
    rw [← i8, this]
  have right : (decide (u.a > 0) && !ltInt RD.pi.1[u.a - 1]! RD.pi.1[RD.pivot]!) = false → ¬ (partition ltInt RD.pi.1 u.a u.c RD.pivot).1 - u.a < u.c - (partition ltInt RD.pi.1 u.a u.c RD.pivot).1 → pdq ltInt (pdq ltInt (partition ltInt RD.pi.1 u.a u.c RD.pivot).2.2 ((partition ltInt RD.pi.1 u.a u.c RD.pivot).1 + 1) u.c RD.lim true true) u.a (partition ltInt RD.pi.1 u.a u.c RD.pivot).1 RD.lim (decide (u.c - (partition ltInt RD.pi.1 u.a u.c RD.pivot).1 ≥ (u.c - u.a) / 8)) (partition ltInt RD.pi.1 u.a u.c RD.pivot).2.1 = pdq ltInt d0 a0 c0 lim0 true true := fun q q' => by
    have := pdq_right c1 c2 q1 (by rw [← hRD]; exact q) (by rw [← hRD]; exact ⟨hpt.1, hpt.2.1⟩) (by rw [← hRD]; exact q')
    rw [← hRD] at this
    rw [← i8, this]
  obtain ⟨p1, p2, _⟩ := hpt
  have peIn := partEq_in RD.pi.1 hpv.1 hpv.2 (by omega)
  have pe := partitionEqual_ok (X := X) (lo := lo) b e n fl RD.pi.1 u.a u.c RD.pivot h5 j2 j3 hpv.1 hpv.2 i2 hN hb
  have pt := partition_ok (X := X) (lo := lo) b e n fl RD.pi.1 u.a u.c RD.pivot h5 j2 j3 hpv.1 hpv.2 i2 hN hb
  generalize partitionEqual ltInt RD.pi.1 u.a u.c RD.pivot = PE at *
  generalize partition ltInt RD.pi.1 u.a u.c RD.pivot = PT at *
  have wa : IntKind.i64.wrap ((u.a : Int) - 1) = ((u.a - 1 : Nat) : Int) ∨ u.a = 0 := by
    by_cases q : u.a = 0
    · exact .inr q
    · exact .inl (wz (by omega) (by omega))
  refine And.intro (by kernel_rfl) ?_
  refine cnd (fun c3 => ?_) (fun c3 => ?_)
  · have c3 : u.a > 0 := by have := of_decide_eq_true c3; omega
    have wa := wa.resolve_right (by omega)
    refine And.intro ⟨by omega, by omega⟩ ?_
    refine ⟨_, j2.ldI wa (by omega), ?_⟩
    refine And.intro ⟨by omega, by omega⟩ ?_
    refine ⟨_, j2.ldI rfl (by omega), ?_⟩
    refine callP (Less_ok _ _ _) ?_
    rintro v h5' ⟨rfl, rfl⟩
    refine cnd (fun c4 => ?_) (fun c4 => ?_)
    · have q : (decide (u.a > 0) && !ltInt RD.pi.1[u.a - 1]! RD.pi.1[RD.pivot]!) = true := by rw [decide_eq_true c3, Bool.true_and]; exact c4
      refine callP pe ?_
      rintro v h6 ⟨rfl, e6, r6, z6⟩
      exact again ⟨PE.1, u.c, RD.lim, u.wb, u.wp, PE.2⟩ _ _ _ (by show u.c - PE.1 < u.c - u.a; omega) ⟨rfl, rfl, rfl, rfl, rfl, rfl, trivial⟩ trivial ⟨peIn.2, i2, hlim, ⟨by show u.c - PE.1 ≤ m; omega, j1.trans e6⟩, r6, z6, equal q⟩
    · skip
      have q := (show (decide (u.a > 0) && !ltInt RD.pi.1[u.a - 1]! RD.pi.1[RD.pivot]!) = false by rw [decide_eq_true c3, Bool.true_and]; exact c4)
      refine callP pt ?_
      rintro v h6 ⟨rfl, e6, r6, z6⟩
      have l1 : IntKind.i64.wrap ((PT.1 : Int) - (u.a : Int)) = ((PT.1 - u.a : Nat) : Int) := wz (by omega) (by omega)
      have l2 : IntKind.i64.wrap ((u.c : Int) - (PT.1 : Int)) = ((u.c - PT.1 : Nat) : Int) := wz (by omega) (by omega)
      have l3 : IntKind.i64.wrap ((((u.c - u.a : Nat) : Int)).tdiv 8) = (((u.c - u.a) / 8 : Nat) : Int) := by
        rw [Int.tdiv_eq_ediv_of_nonneg (by omega), wr (by omega) (by omega)]; omega
      have l4 : IntKind.i64.wrap ((PT.1 : Int) + 1) = ((PT.1 + 1 : Nat) : Int) := wz (by omega) (by omega)
      refine And.intro (by decide) ?_
      refine cnd (fun c7 => ?_) (fun c7 => ?_)
      · have c7 : PT.1 - u.a < u.c - PT.1 := by have := of_decide_eq_true c7; omega
        have rcl := ih (PT.1 - u.a) (by omega) PT.2.2 u.a PT.1 RD.lim h6 (Nat.le_refl _) r6 z6 p1 (by omega) hlim
        refine callP rcl ?_
        rintro v h7 ⟨rfl, e7, r7, z7⟩
        exact again ⟨PT.1 + 1, u.c, RD.lim, decide (PT.1 - u.a ≥ (u.c - u.a) / 8), PT.2.1, pdq ltInt PT.2.2 u.a PT.1 RD.lim true true⟩ _ _ _ (by show u.c - (PT.1 + 1) < u.c - u.a; omega) ⟨rfl, vB (by rw [l1, l3]; omega), rfl, rfl, vI l4, rfl, trivial⟩ trivial ⟨by show PT.1 + 1 ≤ u.c; omega, i2, hlim, ⟨by show u.c - (PT.1 + 1) ≤ m; omega, (j1.trans e6).trans e7⟩, r7, z7, left q c7⟩
      · have c7 : ¬ PT.1 - u.a < u.c - PT.1 := by have := of_decide_eq_false c7; omega
        have rcl : Tri X lo 125 [sa b e n fl, .int .i64 (IntKind.i64.wrap ((PT.1 : Int) + 1)), .int .i64 (u.c : Int), .int .i64 (RD.lim : Int)] h6 (fun v h' => v = .tuple #[] ∧ PA b e n h6 (pdq ltInt PT.2.2 (PT.1 + 1) u.c RD.lim true true) h') := by
          rw [l4]; exact ih (u.c - (PT.1 + 1)) (by omega) PT.2.2 (PT.1 + 1) u.c RD.lim h6 (Nat.le_refl _) r6 z6 (by omega) (by omega) hlim
        refine callP rcl ?_
        rintro v h7 ⟨rfl, e7, r7, z7⟩
        exact again ⟨u.a, PT.1, RD.lim, decide (u.c - PT.1 ≥ (u.c - u.a) / 8), PT.2.1, pdq ltInt PT.2.2 (PT.1 + 1) u.c RD.lim true true⟩ _ _ _ (by show PT.1 - u.a < u.c - u.a; omega) ⟨rfl, vB (by rw [l2, l3]; omega), rfl, rfl, rfl, rfl, trivial⟩ trivial ⟨p1, by show PT.1 ≤ n; omega, hlim, ⟨by show PT.1 - u.a ≤ m; omega, (j1.trans e6).trans e7⟩, r7, z7, right q c7⟩
  · have c3 : ¬ u.a > 0 := by have := of_decide_eq_false c3; omega
    refine cndF ?_
    have q := (show (decide (u.a > 0) && !ltInt RD.pi.1[u.a - 1]! RD.pi.1[RD.pivot]!) = false by rw [decide_eq_false c3, Bool.false_and])
    refine callP pt ?_
    rintro v h6 ⟨rfl, e6, r6, z6⟩
    have l1 : IntKind.i64.wrap ((PT.1 : Int) - (u.a : Int)) = ((PT.1 - u.a : Nat) : Int) := wz (by omega) (by omega)
    have l2 : IntKind.i64.wrap ((u.c : Int) - (PT.1 : Int)) = ((u.c - PT.1 : Nat) : Int) := wz (by omega) (by omega)
    have l3 : IntKind.i64.wrap ((((u.c - u.a : Nat) : Int)).tdiv 8) = (((u.c - u.a) / 8 : Nat) : Int) := by
      rw [Int.tdiv_eq_ediv_of_nonneg (by omega), wr (by omega) (by omega)]; omega
    have l4 : IntKind.i64.wrap ((PT.1 : Int) + 1) = ((PT.1 + 1 : Nat) : Int) := wz (by omega) (by omega)
    refine And.intro (by decide) ?_
    refine cnd (fun c7 => ?_) (fun c7 => ?_)
    · have c7 : PT.1 - u.a < u.c - PT.1 := by have := of_decide_eq_true c7; omega
      have rcl := ih (PT.1 - u.a) (by omega) PT.2.2 u.a PT.1 RD.lim h6 (Nat.le_refl _) r6 z6 p1 (by omega) hlim
      refine callP rcl ?_
      rintro v h7 ⟨rfl, e7, r7, z7⟩
      exact again ⟨PT.1 + 1, u.c, RD.lim, decide (PT.1 - u.a ≥ (u.c - u.a) / 8), PT.2.1, pdq ltInt PT.2.2 u.a PT.1 RD.lim true true⟩ _ _ _ (by show u.c - (PT.1 + 1) < u.c - u.a; omega) ⟨rfl, vB (by rw [l1, l3]; omega), rfl, rfl, vI l4, rfl, trivial⟩ trivial ⟨by show PT.1 + 1 ≤ u.c; omega, i2, hlim, ⟨by show u.c - (PT.1 + 1) ≤ m; omega, (j1.trans e6).trans e7⟩, r7, z7, left q c7⟩
    · have c7 : ¬ PT.1 - u.a < u.c - PT.1 := by have := of_decide_eq_false c7; omega
      have rcl : Tri X lo 125 [sa b e n fl, .int .i64 (IntKind.i64.wrap ((PT.1 : Int) + 1)), .int .i64 (u.c : Int), .int .i64 (RD.lim : Int)] h6 (fun v h' => v = .tuple #[] ∧ PA b e n h6 (pdq ltInt PT.2.2 (PT.1 + 1) u.c RD.lim true true) h') := by
        rw [l4]; exact ih (u.c - (PT.1 + 1)) (by omega) PT.2.2 (PT.1 + 1) u.c RD.lim h6 (Nat.le_refl _) r6 z6 (by omega) (by omega) hlim
      refine callP rcl ?_
      rintro v h7 ⟨rfl, e7, r7, z7⟩
      exact again ⟨u.a, PT.1, RD.lim, decide (u.c - PT.1 ≥ (u.c - u.a) / 8), PT.2.1, pdq ltInt PT.2.2 (PT.1 + 1) u.c RD.lim true true⟩ _ _ _ (by show PT.1 - u.a < u.c - u.a; omega) ⟨rfl, vB (by rw [l2, l3]; omega), rfl, rfl, rfl, rfl, trivial⟩ trivial ⟨p1, by show PT.1 ≤ n; omega, hlim, ⟨by show PT.1 - u.a ≤ m; omega, (j1.trans e6).trans e7⟩, r7, z7, right q c7⟩
end Go.Proofs.YtjpcfaddimlbdaaGreat.Id
namespace Go.Proofs.YtjpcfaddimlbdaaGreat.Id
open Go.Id Go.Sort
open Go.Proofs
set_option linter.unusedVariables false
set_option maxRecDepth 100000
variable {X:Ctx Tryz.prog} {lo:Nat}
theorem Sort_ok (b e n fl:Nat) (d:Array Int) (h:Hp) (r:AR h b e d) (hn:d.size=n) (hN:n < 2 ^ 31) (hb:lo≤b):Tri X lo 88 [sa b e n fl] h fun v h'=>v = .tuple #[]∧PA b e n h (Go.Sort.sort ltInt d) h':=by
  refine enter tbOk mtOk ⟨[],[]⟩ 400 Tryz.func88 rfl rfl rfl fun hlo => ?_
  have w:IntKind.u64.wrap (n:Int)=(n:Int):=by rw [wu64];omega
  have ct:Tri X lo 126 [.int .u64 (IntKind.u64.wrap (n:Int))] h (fun v h'=>v = .int .i64 (bitsLen n:Int)∧h'=h):=by rw [w];exact Len_ok n (by omega) h
  refine callP ct ?_
  rintro v h1 ⟨rfl,rfl⟩
  have hb31:bitsLen n≤31:=by rw [bitsLen_le_iff];exact hN
  have hs:Go.Sort.sort ltInt d=pdq ltInt d 0 n (bitsLen n) true true:=by unfold Go.Sort.sort;rw [hn]
  refine callP (pdq_ok b e n fl hN hb n d 0 n (bitsLen n) h1 (by omega) r hn (Nat.zero_le _) (Nat.le_refl _) (by omega)) ?_
  rintro v h2 ⟨rfl,p⟩
  rw [hs]
  exact And.intro rfl p
theorem ins_nil (z:Int) (hz:z=0) (h:Hp):Tri X lo 139 [.slice none 0 0,.int .i64 z,.int .i64 z] h fun v h'=>v = .tuple #[]∧h'=h:=by
  refine enter tbOk mtOk ⟨[],[(4,[0,1,2,3,4,5,6,7,8,9,10,11,12,13,14],[0,0,3,7,15,15,63,127,15,15,527,1807,3855,8191,16383]),(6,[0,1,2,3,4,5,6,7,8,9,10,11,12,13,14,15,16,17],[0,0,0,0,8,0,0,64,224,480,0,0,3072,7168,16355,32739,65535,131071])]⟩ 400 Tryz.func139 rfl rfl rfl fun hlo => ?_
  have w1:IntKind.i64.wrap (z+1)=z+1:=wz rfl (by omega)
  refine loop (σ:=Unit) tbOk mtOk ⟨[],[(4,[0,1,2,3,4,5,6,7,8,9,10,11,12,13,14],[0,0,3,7,15,15,63,127,15,15,527,1807,3855,8191,16383]),(6,[0,1,2,3,4,5,6,7,8,9,10,11,12,13,14,15,16,17],[0,0,0,0,8,0,0,64,224,480,0,0,3072,7168,16355,32739,65535,131071])]⟩ (fun _=>[(6,.v (.int .i64 (z+1))),(2,.v (.int .i64 z))]) (fun _=>[]) (fun _ h'=>h'=h) (fun _=>0) 8 () (fun _=>rfl) ⟨vI w1,rfl,trivial⟩ trivial rfl (fun _ h1 hI again => ?_)
  refine cnd (fun c => ?_) (fun _ => ?_)
  · exfalso
    have:=of_decide_eq_true c
    omega
  · refine more tbOk mtOk ⟨[],[(4,[0,1,2,3,4,5,6,7,8,9,10,11,12,13,14],[0,0,3,7,15,15,63,127,15,15,527,1807,3855,8191,16383]),(6,[0,1,2,3,4,5,6,7,8,9,10,11,12,13,14,15,16,17],[0,0,0,0,8,0,0,64,224,480,0,0,3072,7168,16355,32739,65535,131071])]⟩ 5 ?_
    refine And.intro ?_ ?_
    · rfl
    · exact hI
theorem pdq_nil (z:Int) (hz:z=0) (h:Hp):Tri X lo 125 [.slice none 0 0,.int .i64 z,.int .i64 z,.int .i64 z] h fun v h'=>v = .tuple #[]∧h'=h:=by
  refine enter tbOk mtOk ⟨[],[(17,[0,1,2,3,4,5,6,7,8,9,10,11,12,13,14],[0,1,3,7,7,23,63,127,7,7,775,1799,4095,8191,16383])]⟩ 400 Tryz.func125 rfl rfl rfl fun hlo => ?_
  refine loop (σ:=Unit) tbOk mtOk ⟨[],[(17,[0,1,2,3,4,5,6,7,8,9,10,11,12,13,14],[0,1,3,7,7,23,63,127,7,7,775,1799,4095,8191,16383])]⟩ (fun _=>[(0,.v (.slice none 0 0)),(1,.v (.int .i64 z)),(2,.v (.int .i64 z))]) (fun _=>[]) (fun _ h'=>h'=h) (fun _=>0) 15 () (fun _=>rfl) ⟨rfl,rfl,rfl,trivial⟩ trivial rfl (fun _ h1 hI again => ?_)
  have w:IntKind.i64.wrap (z - z)=0:=wz (by omega) (by omega)
  refine cnd (fun c => ?_) (fun c => ?_)
  · refine more tbOk mtOk ⟨[],[(17,[0,1,2,3,4,5,6,7,8,9,10,11,12,13,14],[0,1,3,7,7,23,63,127,7,7,775,1799,4095,8191,16383])]⟩ 12 ?_
    refine callP (ins_nil z hz h1) ?_
    rintro v h2 ⟨rfl,rfl⟩
    refine And.intro ?_ ?_
    · rfl
    · exact hI
  · exfalso
    have:=of_decide_eq_false c
    omega
theorem Sort_nil (h:Hp):Tri X lo 88 [.slice none 0 0] h fun v h'=>v = .tuple #[]∧h'=h:=by
  refine enter tbOk mtOk ⟨[],[]⟩ 400 Tryz.func88 rfl rfl rfl fun hlo => ?_
  have w:IntKind.u64.wrap ((0:Nat):Int)=((0:Nat):Int):=by rw [wu64];decide
  have ct:Tri X lo 126 [.int .u64 (IntKind.u64.wrap ((0:Nat):Int))] h (fun v h'=>v = .int .i64 ((0:Nat):Int)∧h'=h):=by rw [w];exact Len_ok 0 (by omega) h
  refine callP ct ?_
  rintro v h1 ⟨rfl,rfl⟩
  refine callP (pdq_nil ((0:Nat):Int) rfl h1) ?_
  rintro v h2 ⟨rfl,rfl⟩
  exact And.intro rfl rfl
def ded (d:Array Int):Nat→List Int
  | 0=>[]
  | m+1=>if m=0∨d[m]! ≠ d[m - 1]! then ded d m++[d[m]!] else ded d m
theorem addA_addA (a:Addr) (x y:Nat):addA (addA a x) y=addA a (x+y):=by unfold addA;simp [Nat.add_assoc]
theorem AR.ldO {h:Hp} {b e:Nat} {d:Array Int} (r:AR h b e d) (k:Nat) {x:Int} {i:Nat} (hx:x=(i:Int)) (hi:k+i < d.size):Ld h (addA (addA ⟨b,0,some e⟩ (k*1)) (x.toNat*1)) 1 [.int .i64 d[k+i]!]:=by
  subst hx
  rw [addA_addA]
  have:=r.ldI (x:=((k+i:Nat):Int)) rfl hi
  rw [Int.toNat_natCast] at this
  rw [Int.toNat_natCast,Nat.mul_one,Nat.mul_one]
  rwa [Nat.mul_one] at this
theorem ded_new {d:Array Int} {m:Nat} (h:d[m]! ≠ d[m - 1]!):ded d (m+1)=ded d m++[d[m]!]:=by rw [ded,if_pos (.inr h)]
theorem ded_old {d:Array Int} {m:Nat} (h0:m≠0) (h:d[m]! = d[m - 1]!):ded d (m+1)=ded d m:=by rw [ded,if_neg (fun q=>q.elim h0 (fun q=>q h))]
theorem take_snoc {d:Array Int} {k:Nat} (h:k < d.size):d.toList.take (k+1)=d.toList.take k++[d[k]!]:=by
  rw [List.take_add_one,List.getElem?_eq_getElem (by simpa using h),arr_get h];rfl
theorem inE_flat (l:List Int):(l.flatMap inE).length=l.length:=by
  have:=flat_len (e:=inE) (sz:=1) (fun _=>rfl) l
  rw [this];omega
theorem Compact_ok (b e n:Nat) (d:Array Int) (h:Hp) (r:AR h b e d) (hn:d.size=n) (hN:n < 2 ^ 31) (hb:lo≤b):Tri X lo 89 [sa b e n 1] h fun v h'=>v=sa b e (ded d n).length 1∧Ext1 b h h'∧∃ r,Row h' b e inE 1 (ded d n++r):=by
  refine enter tbOk mtOk ⟨[],[(6,[0,1,2,3,4,5,6,7,8,9],[0,0,3,7,0,0,32,112,240,511]),(11,[0,1,2,3,4,5,6,7,8,9],[0,0,3,7,0,0,32,112,240,511])]⟩ 400 Tryz.func89 rfl rfl rfl fun hlo => ?_
  have lt:=r.lt
  refine cnd (fun c1 => ?_) (fun c1 => ?_)
  · have c1:n < 2:=by have:=of_decide_eq_true c1;omega
    have hd:ded d n=d.toList:=by
      have:n=0∨n=1:=by omega
      rcases this with q | q
      · rw [q] at hn ⊢
        have:d.toList=[]:=List.length_eq_zero_iff.1 (by simpa using hn)
        rw [this];rfl
      · rw [q] at hn ⊢
        have:=take_snoc (d:=d) (k:=0) (by omega)
        rw [List.take_of_length_le (by simp;omega)] at this
        rw [this];rfl
    rw [hd]
    have hl:d.toList.length=n:=by simpa using hn
    rw [hl]
    exact And.intro rfl ⟨(Ext.refl _).one b,[],by rw [List.append_nil];exact r⟩
  have c1:¬ n < 2:=by have:=of_decide_eq_false c1;omega
  refine loop (σ:=Nat) tbOk mtOk ⟨[],[(6,[0,1,2,3,4,5,6,7,8,9],[0,0,3,7,0,0,32,112,240,511]),(11,[0,1,2,3,4,5,6,7,8,9],[0,0,3,7,0,0,32,112,240,511])]⟩ (fun k=>[(3,.v (.int .i64 (k:Int))),(0,.v (sa b e n 1))]) (fun _=>[]) (fun k h'=>(1≤k∧k≤n)∧h=h'∧ded d k=d.toList.take k) (fun k=>n - k) 400 1 (fun _=>rfl) ⟨rfl,rfl,trivial⟩ trivial ⟨⟨Nat.le_refl _,by omega⟩,rfl,by rw [take_snoc (by omega)];rfl⟩ (fun k h1 hI again => ?_)
  obtain ⟨⟨i1,i2⟩,rfl,i3⟩:=hI
  refine cnd (fun c2 => ?_) (fun c2 => ?_)
  · have c2:k < n:=by have:=of_decide_eq_true c2;omega
    have wm:IntKind.i64.wrap ((k:Int) - 1)=((k - 1:Nat):Int):=wz (by omega) (by omega)
    have wp:IntKind.i64.wrap ((k:Int)+1)=((k+1:Nat):Int):=wz (by omega) (by omega)
    refine And.intro (by kernel_rfl) ?_
    refine And.intro ⟨by omega,by omega⟩ ?_
    refine ⟨_,r.ldI rfl (by omega),?_⟩
    refine And.intro ⟨by omega,by omega⟩ ?_
    refine ⟨_,r.ldI wm (by omega),?_⟩
    refine cnd (fun c3 => ?_) (fun c3 => ?_)
    · have c3:d[k]! = d[k - 1]! := by simpa using c3
      refine And.intro ⟨by omega,by omega,by omega⟩ ?_
      refine .inl ⟨by omega,?_⟩
      have hs2:(Value.slice (some (addA ⟨b,0,some e⟩ ((k:Int).toNat*1))) ((n:Int) - (k:Int)).toNat (if (k:Int)=0∧1=1 then 1 else 2)) = .slice (some (addA ⟨b,0,some e⟩ (k*1))) (n - k) 2:=by
        rw [if_neg (by omega),Int.toNat_natCast,show ((n:Int) - (k:Int)).toNat=n - k from by omega]
      refine loop (σ:=Nat×Nat×Array Int) tbOk mtOk ⟨[],[(6,[0,1,2,3,4,5,6,7,8,9],[0,0,3,7,0,0,32,112,240,511]),(11,[0,1,2,3,4,5,6,7,8,9],[0,0,3,7,0,0,32,112,240,511])]⟩ (fun u=>[(5,.v (.int .i64 (u.2.1:Int))),(4,.v (.slice (some (addA ⟨b,0,some e⟩ (k*1))) (n - k) 2)),(3,.v (.int .i64 (u.1:Int))),(0,.v (sa b e n 1))]) (fun _=>[]) (fun u h'=>(1≤u.2.1∧u.2.1≤n - k∧1≤u.1∧u.1+1≤k+u.2.1)∧u.2.2.size=n∧(∀ j,k+u.2.1≤j+1→u.2.2[j]! = d[j]!)∧u.2.2.toList.take u.1=ded d (k+u.2.1)∧Ext1 b h h'∧AR h' b e u.2.2) (fun u=>n - k - u.2.1) 400 (k,1,d) (fun _=>rfl) ⟨rfl,congrArg (fun x=>some (Sl.v x)) hs2,rfl,rfl,trivial⟩ trivial ⟨⟨Nat.le_refl _,by show 1≤n - k;omega,i1,by show k+1≤k+1;omega⟩,hn,fun j _=>rfl,by show d.toList.take k=ded d (k+1);rw [ded_old (by omega) c3,i3],(Ext.refl _).one b,r⟩ (fun u h2 hI again' => ?_)
      obtain ⟨⟨j1,j2,j3,j4⟩,j5,j6,j7,j8,j9⟩:=hI
      refine cnd (fun c4 => ?_) (fun c4 => ?_)
      · have c4:u.2.1 < n - k:=by have:=of_decide_eq_true c4;omega
        have wm:IntKind.i64.wrap ((u.2.1:Int) - 1)=((u.2.1 - 1:Nat):Int):=wz (by omega) (by omega)
        have wq:IntKind.i64.wrap ((u.2.1:Int)+1)=((u.2.1+1:Nat):Int):=wz (by omega) (by omega)
        have wr1:IntKind.i64.wrap ((u.1:Int)+1)=((u.1+1:Nat):Int):=wz (by omega) (by omega)
        have x1:=j6 (k+u.2.1) (by omega)
        have x2:=j6 (k+(u.2.1 - 1)) (by omega)
        have l1:=j9.ldO k (x:=(u.2.1:Int)) (i:=u.2.1) rfl (by omega)
        have l2:=j9.ldO k (x:=IntKind.i64.wrap ((u.2.1:Int) - 1)) (i:=u.2.1 - 1) wm (by omega)
        rw [x1] at l1
        rw [x2] at l2
        refine And.intro (by kernel_rfl) ?_
        refine And.intro ⟨by omega,by omega⟩ ?_
        refine ⟨_,l1,?_⟩
        refine And.intro ⟨by omega,by omega⟩ ?_
        refine ⟨_,l2,?_⟩
        refine cnd (fun c5 => ?_) (fun c5 => ?_)
        · have c5:d[k+u.2.1]! ≠ d[k+u.2.1 - 1]! := by
            have c5:¬ d[k+u.2.1]! = d[k+(u.2.1 - 1)]! := by simpa using c5
            rwa [show k+u.2.1 - 1=k+(u.2.1 - 1) from by omega]
          refine And.intro ⟨by omega,by omega⟩ ?_
          refine ⟨_,l1,?_⟩
          refine And.intro ⟨by omega,by omega⟩ ?_
          refine ⟨_,j9.stI (lo:=lo) hb rfl (i:=u.1) (by omega) d[k+u.2.1]!,?_⟩
          have r5:AR (h2.set b (.cells ((u.2.2.setIfInBounds u.1 d[k+u.2.1]!).toList.flatMap inE) 1 e)) b e (u.2.2.setIfInBounds u.1 d[k+u.2.1]!):=Row.set j9.lt
          refine again' (u.1+1,u.2.1+1,u.2.2.setIfInBounds u.1 d[k+u.2.1]!) _ _ _ (by show n - k - (u.2.1+1) < n - k - u.2.1;omega) ⟨vI wq,rfl,vI wr1,rfl,trivial⟩ trivial ⟨⟨by show 1≤u.2.1+1;omega,by show u.2.1+1≤n - k;omega,by show 1≤u.1+1;omega,by show u.1+1+1≤k+(u.2.1+1);omega⟩,by simpa using j5,fun j hj => ?_,?_,j8.set _ (.inl rfl),r5⟩
          · have hj:k+(u.2.1+1)≤j+1:=hj
            show (u.2.2.setIfInBounds u.1 d[k+u.2.1]!)[j]! = d[j]!
            rw [← j6 j (by omega)]
            by_cases q:j < u.2.2.size
            · rw [getElem!_pos (u.2.2.setIfInBounds u.1 d[k+u.2.1]!) j (by simpa using q),getElem!_pos u.2.2 j q,Array.getElem_setIfInBounds_ne _ (by omega)]
            · rw [getElem!_neg (u.2.2.setIfInBounds u.1 d[k+u.2.1]!) j (by simpa using q),getElem!_neg u.2.2 j q]
          · show (u.2.2.setIfInBounds u.1 d[k+u.2.1]!).toList.take (u.1+1)=ded d (k+(u.2.1+1))
            rw [show k+(u.2.1+1)=k+u.2.1+1 from by omega,ded_new c5,← j7,Array.toList_setIfInBounds]
            have hl:u.1 < u.2.2.toList.length:=by simp;omega
            rw [List.take_add_one,List.take_set_of_le (Nat.le_refl _),List.getElem?_set_self hl];rfl
        · have c5:d[k+u.2.1]! = d[k+u.2.1 - 1]! := by
            have c5:d[k+u.2.1]! = d[k+(u.2.1 - 1)]! := by simpa using c5
            rwa [show k+u.2.1 - 1=k+(u.2.1 - 1) from by omega]
          exact again' (u.1,u.2.1+1,u.2.2) _ _ _ (by show n - k - (u.2.1+1) < n - k - u.2.1;omega) ⟨vI wq,rfl,rfl,rfl,trivial⟩ trivial ⟨⟨by show 1≤u.2.1+1;omega,by show u.2.1+1≤n - k;omega,j3,by show u.1+1≤k+(u.2.1+1);omega⟩,j5,fun j hj=>j6 j (Nat.le_trans (by show k+u.2.1≤k+(u.2.1+1);omega) hj),by show u.2.2.toList.take u.1=ded d (k+(u.2.1+1));rw [show k+(u.2.1+1)=k+u.2.1+1 from by omega,ded_old (by omega) c5];exact j7,j8,j9⟩
      · have c4:u.2.1=n - k:=by have:=of_decide_eq_false c4;omega
        have hkn:k+u.2.1=n:=by omega
        rw [hkn] at j7 j4
        have hlen:(ded d n).length=u.1:=by rw [← j7,List.length_take];simp;omega
        have hzl:(zeros [Value.int .i64 0] (n - u.1)).length=n - u.1:=by rw [zeros_length];simp
        have hcl:(u.2.2.toList.flatMap inE).length=n:=by rw [inE_flat];simpa using j5
        refine And.intro ⟨by omega,by omega,by omega⟩ ?_
        refine .inl ⟨by omega,?_⟩
        refine .inr ⟨by show ((n:Int) - (u.1:Int)).toNat≠0;omega,_,h2.set b (.cells (setL (u.2.2.toList.flatMap inE) u.1 (zeros [Value.int .i64 0] (n - u.1))) 1 e),rfl,?_,?_⟩
        · refine ⟨hb,j9.lt,_,1,j9.g,?_,?_⟩
          · show 0+(u.1:Int).toNat*1+(zeros [Value.int .i64 0] ((n:Int) - (u.1:Int)).toNat).length≤_
            rw [hcl,show ((n:Int) - (u.1:Int)).toNat=n - u.1 from by omega,hzl];omega
          · show _=h2.set b (.cells (setL (u.2.2.toList.flatMap inE) (0+(u.1:Int).toNat*1) (zeros [Value.int .i64 0] ((n:Int) - (u.1:Int)).toNat)) 1 e)
            rw [show ((n:Int) - (u.1:Int)).toNat=n - u.1 from by omega,show 0+(u.1:Int).toNat*1=u.1 from by omega]
        · refine And.intro ⟨by omega,by omega,by omega⟩ ?_
          refine cut0 (n:=u.1) rfl ?_
          rw [hlen]
          have hf:setL (u.2.2.toList.flatMap inE) u.1 (zeros [Value.int .i64 0] (n - u.1))=(ded d n++List.replicate (n - u.1) (0:Int)).flatMap inE:=by
            have e1:u.2.2.toList.flatMap inE=(u.2.2.toList.take u.1).flatMap inE++(u.2.2.toList.drop u.1).flatMap inE:=by
              rw [← List.flatMap_append,List.take_append_drop]
            have hl:((u.2.2.toList.take u.1).flatMap inE).length=u.1:=by rw [inE_flat,List.length_take];simp;omega
            have hl2:((u.2.2.toList.drop u.1).flatMap inE).length=n - u.1:=by rw [inE_flat,List.length_drop];simp;omega
            have:=setL_all ((u.2.2.toList.take u.1).flatMap inE) ((u.2.2.toList.drop u.1).flatMap inE) (zeros [Value.int .i64 0] (n - u.1)) (by rw [hl2,hzl])
            rw [hl] at this
            rw [e1,this,List.flatMap_append,j7,zeros_flat (enc:=inE) (z:=[Value.int .i64 0]) (x:=(0:Int)) rfl]
          rw [hf]
          exact And.intro rfl ⟨j8.set _ (.inl rfl),List.replicate (n - u.1) 0,Row.set j9.lt⟩
    · have c3:d[k]! ≠ d[k - 1]! := by simpa using c3
      refine again (k+1) _ _ _ (by omega) ⟨vI wp,rfl,trivial⟩ trivial ⟨⟨by omega,by omega⟩,rfl,?_⟩
      rw [ded_new c3,i3,take_snoc (by omega)]
  · have c2:k=n:=by have:=of_decide_eq_false c2;omega
    subst c2
    have hl:d.toList.length=d.size:=by simp
    rw [List.take_of_length_le (by omega)] at i3
    rw [i3,hl]
    have hk:d.size=k:=hn
    rw [hk]
    exact And.intro rfl ⟨(Ext.refl _).one b,[],by rw [List.append_nil];exact r⟩
end Go.Proofs.YtjpcfaddimlbdaaGreat.Id
namespace Go.Proofs.YtjpcfaddimlbdaaGreat.Id
open Go.Id Go.Sort
open Go.Proofs
set_option linter.unusedVariables false
theorem trail_vis (g:Gd) (k:Int):∀ v∈(trail g k).1,0≤v.1∧v.1 < g.cs.length:=by
  obtain ⟨t1,_⟩:=trail_ok g k
  unfold IsTrail at t1
  cases hr:sightRay g k with
  | none =>
    rw [hr] at t1
    intro v hv
    rw [show trail g k=([],[]) from t1] at hv
    cases hv
  | some r =>
    rw [hr] at t1
    obtain ⟨q,hq⟩:=t1
    obtain ⟨hg,h1,h2⟩:=sightRay_ok hr
    obtain ⟨g1,_,_,_,g5,_⟩:=gOk_iff.1 hg
    intro v hv
    exact ((Tr.go_ends (w:=g.w) g1 g5 q _ _ _ _ ⟨h1,h2⟩ (by omega) hq).2 v hv).1.1
def footL (vs:List V3) (N:Nat):List Int:=((List.range N).filter fun (i:Nat)=>vs.any fun v=>v.1 == (i:Int)).map fun (i:Nat)=>(i:Int)
theorem footL_mem {vs:List V3} {N:Nat} {x:Int}:x∈footL vs N↔(0≤x∧x < N)∧∃ v∈vs,v.1=x:=by
  unfold footL
  simp only [List.mem_map,List.mem_filter,List.mem_range,List.any_eq_true,beq_iff_eq]
  constructor
  · rintro ⟨i,⟨hi,v,hv,e⟩,rfl⟩
    exact ⟨⟨by omega,by omega⟩,v,hv,e⟩
  · rintro ⟨⟨h0,h1⟩,v,hv,e⟩
    exact ⟨x.toNat,⟨by omega,v,hv,by omega⟩,by omega⟩
theorem footL_lt (vs:List V3) (N:Nat):(footL vs N).Pairwise (· < ·):=by
  unfold footL
  rw [List.pairwise_map]
  refine List.Pairwise.imp ?_ (List.Pairwise.filter _ List.pairwise_lt_range)
  intro a b h
  show (a:Int) < (b:Int)
  omega
theorem asc_ext:∀ (l m:List Int),l.Pairwise (· < ·)→m.Pairwise (· < ·)→(∀ x,x∈l↔x∈m)→l=m
  | [],[],_,_,_=>rfl
  | [],b::m,_,_,h=>absurd ((h b).2 (List.mem_cons_self ..)) (by simp)
  | a::l,[],_,_,h=>absurd ((h a).1 (List.mem_cons_self ..)) (by simp)
  | a::l,b::m,hl,hm,h=>by
    obtain ⟨l1,l2⟩:=List.pairwise_cons.1 hl
    obtain ⟨m1,m2⟩:=List.pairwise_cons.1 hm
    have e:a=b:=by
      have h1:=(h a).1 (List.mem_cons_self ..)
      have h2:=(h b).2 (List.mem_cons_self ..)
      rcases List.mem_cons.1 h1 with q | q
      · exact q
      · rcases List.mem_cons.1 h2 with q' | q'
        · exact q'.symm
        · have:=m1 a q
          have:=l1 b q'
          omega
    subst e
    rw [asc_ext l m l2 m2 fun x => ?_]
    constructor
    · intro hx
      have:=l1 x hx
      rcases List.mem_cons.1 ((h x).1 (List.mem_cons_of_mem _ hx)) with q | q
      · omega
      · exact q
    · intro hx
      have:=m1 x hx
      rcases List.mem_cons.1 ((h x).2 (List.mem_cons_of_mem _ hx)) with q | q
      · omega
      · exact q
theorem ded_asc {d:Array Int} {n:Nat} (hs:SortedIn ltInt 0 n d):∀ m,m≤n→(ded d m).Pairwise (· < ·)∧(∀ x∈ded d m,∃ j,j < m∧x=d[j]!)∧∀ j,j < m→d[j]! ∈ ded d m
  | 0,_=>⟨List.Pairwise.nil,fun x hx=>(by cases hx),fun j hj=>absurd hj (Nat.not_lt_zero _)⟩
  | m+1,hm=>by
    obtain ⟨p1,p2,p3⟩:=ded_asc hs m (by omega)
    by_cases c:m=0
    · subst c
      rw [ded,if_pos (.inl rfl)]
      refine ⟨by simp [ded],fun x hx=>⟨0,by omega,by simpa [ded] using hx⟩,fun j hj => ?_⟩
      have:j=0:=by omega
      subst this;simp
    · by_cases e:d[m]! = d[m - 1]!
      · rw [ded_old c e]
        refine ⟨p1,fun x hx => ?_,fun j hj => ?_⟩
        · obtain ⟨j,hj,hx⟩:=p2 x hx
          exact ⟨j,by omega,hx⟩
        · by_cases q:j=m
          · subst q;rw [e];exact p3 (j - 1) (by omega)
          · exact p3 j (by omega)
      · rw [ded_new e]
        refine ⟨List.pairwise_append.2 ⟨p1,by simp,fun x hx y hy => ?_⟩,fun x hx => ?_,fun j hj => ?_⟩
        · obtain rfl:=List.mem_singleton.1 hy
          obtain ⟨j,hj,rfl⟩:=p2 x hx
          have h1:¬ d[m]! < d[m - 1]! := by simpa [ltInt] using hs (m - 1) m (by omega) (by omega) (by omega)
          by_cases q:j=m - 1
          · rw [q];omega
          · have h2:¬ d[m - 1]! < d[j]! := by simpa [ltInt] using hs j (m - 1) (by omega) (by omega) (by omega)
            omega
        · rcases List.mem_append.1 hx with q | q
          · obtain ⟨j,hj,hx⟩:=p2 x q
            exact ⟨j,by omega,hx⟩
          · exact ⟨m,by omega,List.mem_singleton.1 q⟩
        · by_cases q:j=m
          · subst q;exact List.mem_append.2 (.inr (List.mem_singleton.2 rfl))
          · exact List.mem_append.2 (.inl (p3 j (by omega)))
theorem ded_foot {vs:List V3} {N:Nat} (hv:∀ v∈vs,0≤v.1∧v.1 < (N:Int)) (d:Array Int) (hd:d.toList=vs.map fun v=>v.1):ded (Go.Sort.sort ltInt d) d.size=footL vs N:=by
  obtain ⟨_,h2⟩:=sort_sorts ltInt swo_ltInt d
  obtain ⟨p1,p2,p3⟩:=ded_asc h2 d.size (Nat.le_refl _)
  have hm:∀ x,x∈(Go.Sort.sort ltInt d).toList↔x∈d.toList:=by
    intro x
    have:=sortInt d.toList
    rw [Array.toArray_toList] at this
    rw [this]
    exact List.mem_mergeSort
  have hz:(Go.Sort.sort ltInt d).size=d.size:=(sort_sorts ltInt swo_ltInt d).1.1
  have hg:∀ x,x∈(Go.Sort.sort ltInt d).toList↔∃ j,j < d.size∧x=(Go.Sort.sort ltInt d)[j]! := by
    intro x
    constructor
    · intro hx
      obtain ⟨j,hj,rfl⟩:=List.getElem_of_mem hx
      have hj':j < (Go.Sort.sort ltInt d).size:=by simpa using hj
      exact ⟨j,by omega,(arr_get hj').symm⟩
    · rintro ⟨j,hj,rfl⟩
      rw [arr_get (by omega)]
      exact List.getElem_mem _
  refine asc_ext _ _ p1 (footL_lt vs N) fun x => ?_
  rw [footL_mem]
  constructor
  · intro hx
    have:=(hm x).1 ((hg x).2 (p2 x hx))
    rw [hd,List.mem_map] at this
    obtain ⟨v,hv1,rfl⟩:=this
    exact ⟨hv v hv1,v,hv1,rfl⟩
  · rintro ⟨_,v,hv1,rfl⟩
    obtain ⟨j,hj,e⟩:=(hg v.1).1 ((hm v.1).2 (by rw [hd];exact List.mem_map.2 ⟨v,hv1,rfl⟩))
    rw [e];exact p3 j hj
noncomputable def footG (g:Gd) (k:Int):List Int:=footL (trail g k).1 g.cs.length
end Go.Proofs.YtjpcfaddimlbdaaGreat.Id
namespace Go.Proofs.YtjpcfaddimlbdaaGreat.Id
open Go.Id
open Go.Proofs
set_option linter.unusedVariables false
section
variable {g:Gd} {at_:Nat} {c:Cl}
end
end Go.Proofs.YtjpcfaddimlbdaaGreat.Id
namespace Go.Proofs.YtjpcfaddimlbdaaGreat.Id
open Go.Id
open Go.Proofs
set_option linter.unusedVariables false
structure Sc where
  g:Gd
  li:List Int
  ft:List (List Int)
abbrev Ed:=Int×Cl
theorem Sc.ext' {s t:Sc} (h1:s.g=t.g) (h2:s.li=t.li) (h3:s.ft=t.ft):s=t:=by
  cases s;cases t;simp only at h1 h2 h3;subst h1;subst h2;subst h3;rfl
theorem Gd.ext' {s t:Gd} (h1:s.w=t.w) (h2:s.cs=t.cs):s=t:=by
  cases s;cases t;simp only at h1 h2;subst h1;subst h2;rfl
instance decSc:DecidableEq Sc:=fun a b=>if h:a.g.w=b.g.w∧a.g.cs=b.g.cs∧a.li=b.li∧a.ft=b.ft then isTrue (Sc.ext' (Gd.ext' h.1 h.2.1) h.2.2.1 h.2.2.2) else isFalse fun e=>h (by subst e;exact ⟨rfl,rfl,rfl,rfl⟩)
noncomputable def feetG (g:Gd):List (List Int):=(List.range (many g).toNat).map fun (k:Nat)=>footG g k
theorem feetG_len (g:Gd):(feetG g).length=(many g).toNat:=by simp [feetG]
theorem feetG_get {g:Gd} {i:Nat} (hi:i < (feetG g).length):(feetG g)[i]=footG g i:=by simp [feetG]
noncomputable def scG (g:Gd):Sc:=⟨g,pic g,feetG g⟩
def sc0:Sc:=⟨⟨0,[]⟩,[],[]⟩
noncomputable def newS (g:Gd):Sc:=if gOk g then scG g else sc0
noncomputable def scOk (s:Sc):Bool:=gOk s.g&&decide (s=scG s.g)
theorem scOk_iff {s:Sc}:scOk s=true↔gOk s.g=true∧s=scG s.g:=by simp [scOk]
noncomputable def lookS (s:Sc) (k:Int):Sc:=⟨s.g,s.li.set k.toNat (lightAt s.g k),s.ft.set k.toNat (footG s.g k)⟩
theorem looks_g:∀ (l:List Int) (s:Sc),(l.foldl lookS s).g=s.g
  | [],_=>rfl
  | k::l,s=>by rw [List.foldl_cons,looks_g l];rfl
theorem looks_n:∀ (l:List Int) (s:Sc),(l.foldl lookS s).li.length=s.li.length∧(l.foldl lookS s).ft.length=s.ft.length
  | [],_=>⟨rfl,rfl⟩
  | k::l,s=>by
    rw [List.foldl_cons]
    obtain ⟨h1,h2⟩:=looks_n l (lookS s k)
    exact ⟨h1.trans (by simp [lookS]),h2.trans (by simp [lookS])⟩
theorem looks_in {g:Gd} {n:Nat}:∀ (l:List Int) (s:Sc),(∀ x∈l,0≤x)→s.g=g→(∀ j:Nat,(j:Int)∉l→j < n→s.li[j]? = some (lightAt g j)∧s.ft[j]? = some (footG g j))→s.li.length=n→s.ft.length=n→∀ j:Nat,j < n→(l.foldl lookS s).li[j]? = some (lightAt g j)∧(l.foldl lookS s).ft[j]? = some (footG g j)
  | [],s,_,_,h,_,_,j,hj=>h j (by simp) hj
  | k::l,s,h0,hg,h,h1,h2,j,hj=>by
    rw [List.foldl_cons]
    have hk:=h0 k List.mem_cons_self
    refine looks_in l (lookS s k) (fun x hx=>h0 x (List.mem_cons_of_mem _ hx)) hg (fun i hi hin => ?_) (by simp [lookS,h1]) (by simp [lookS,h2]) j hj
    by_cases c:(i:Int)=k
    · subst c
      simp only [lookS,Int.toNat_natCast,hg]
      rw [List.getElem?_set_self (by omega),List.getElem?_set_self (by omega)]
      exact ⟨rfl,rfl⟩
    · simp only [lookS]
      rw [List.getElem?_set_ne (by omega),List.getElem?_set_ne (by omega)]
      exact h i (by simp [c,hi]) hin
section
variable {g:Gd} {es:List Ed}
theorem scG_len (g:Gd):(scG g).li.length=(many g).toNat∧(scG g).ft.length=(many g).toNat:=⟨pic_len g,feetG_len g⟩
theorem scG_get {j:Nat} (hj:j < (many g).toNat):(scG g).li[j]? = some (lightAt g j)∧(scG g).ft[j]? = some (footG g j):=by
  constructor
  · show (pic g)[j]? = _
    rw [List.getElem?_eq_getElem (by rw [pic_len];exact hj),pic_get]
  · show (feetG g)[j]? = _
    rw [List.getElem?_eq_getElem (by rw [feetG_len];exact hj),feetG_get]
theorem scG_of {s:Sc} {g:Gd} (hg:s.g=g) (h1:s.li.length=(many g).toNat) (h2:s.ft.length=(many g).toNat) (h:∀ j:Nat,j < (many g).toNat→s.li[j]? = some (lightAt g j)∧s.ft[j]? = some (footG g j)):s=scG g:=by
  obtain ⟨l1,l2⟩:=scG_len g
  refine Sc.ext' hg ?_ ?_
  · refine List.ext_getElem? fun j => ?_
    by_cases c:j < (many g).toNat
    · rw [(h j c).1,(scG_get c).1]
    · rw [List.getElem?_eq_none (by omega),List.getElem?_eq_none (by omega)]
  · refine List.ext_getElem? fun j => ?_
    by_cases c:j < (many g).toNat
    · rw [(h j c).2,(scG_get c).2]
    · rw [List.getElem?_eq_none (by omega),List.getElem?_eq_none (by omega)]
end
end Go.Proofs.YtjpcfaddimlbdaaGreat.Id
namespace Go.Proofs.YtjpcfaddimlbdaaGreat.Id
open Go.Id
open Go.Proofs
set_option linter.unusedVariables false
set_option maxRecDepth 100000
variable {X:Ctx Tryz.prog} {lo:Nat}
theorem gx_lo {α:Type} {enc:α→List Value} {sz lo':Nat} {h:Hp} {o:Option (Nat×Nat)} {l:List α} (g:Gx lo h enc sz o l) (hl:∀ i,isB o i→lo'≤i):Gx lo' h enc sz o l:=by
  match o,g with
  | none,g=>exact g
  | some (b,e),⟨g1,g2⟩=>exact ⟨hl b ⟨e,rfl⟩,g2⟩
theorem gx_snoc {h0 h:Hp} {o:Option (Nat×Nat)} {l:List Int} (g:Gx h0.n h inE 1 o l) (x0:Ext h0 h) (hlo:lo≤h0.n) (hm:l.length+1≤Id.maxLen) (x:Int) :
    ∃ o' h',SlCells (h.push (.cells (inE x) 1 0)) (.slice (some ⟨h.n,0,some 0⟩) 1 1) 1 (inE x)∧Ap lo (h.push (.cells (inE x) 1 0)) 1 (gv o l.length) (inE x) 1 (gv o' (l++[x]).length) h'∧Gx h0.n h' inE 1 o' (l++[x])∧Ext h0 h':=by
  have e4:Ext h (h.push (.cells (inE x) 1 0)):=Ext.push _ _
  have g4:=g.ext e4
  have n0:=x0.n
  have n4:=e4.n
  obtain ⟨o',h5,a1,a2,a3⟩:=(gx_lo (lo':=lo) g4 fun i hi=>by have:=(g4.lt hi).2;omega).apps (fun _=>rfl) (by decide) [x] (by simpa using hm) (by omega)
  have a3n:=a3.n
  refine ⟨o',h5,one_cells rfl,by simpa using a1,gx_lo a2 fun i hb => ?_,⟨by omega,fun i hi => ?_⟩⟩
  · rcases a3.b i hb with hb | hb
    · exact (g4.lt hb).2
    · omega
  · exact ((a3.g i (by omega) fun hb=>by have:=(g4.lt hb).2;omega).trans (e4.g i (by omega))).trans (x0.g i hi)
theorem Compact_nil (h:Hp):Tri X lo 89 [.slice none 0 0] h fun v h'=>v = .slice none 0 0∧h'=h:=by
  refine enter tbOk mtOk ⟨[],[(6,[0,1,2,3,4,5,6,7,8,9],[0,0,3,7,0,0,32,112,240,511]),(11,[0,1,2,3,4,5,6,7,8,9],[0,0,3,7,0,0,32,112,240,511])]⟩ 12 Tryz.func89 rfl rfl rfl fun hlo => ?_
  refine cndT ?_
  refine more tbOk mtOk ⟨[],[(6,[0,1,2,3,4,5,6,7,8,9],[0,0,3,7,0,0,32,112,240,511]),(11,[0,1,2,3,4,5,6,7,8,9],[0,0,3,7,0,0,32,112,240,511])]⟩ 8 ?_
  exact And.intro rfl rfl
def GR (lo:Nat) (h:Hp) (o:Option (Nat×Nat)) (l:List Int):Prop :=
  match o with
  | none=>l=[]
  | some (b,e)=>lo≤b∧∃ r,Row h b e inE 1 (l++r)
theorem GR.w {h:Hp} {o:Option (Nat×Nat)} {l:List Int} (g:GR lo h o l):Gw lo h inE 1 o l:=by
  match o,g with
  | none,g=>exact g
  | some (b,e),⟨g1,r,g2⟩=>exact ⟨g1,(g2.p fun _=>rfl).cut fun _=>rfl⟩
theorem GR.keep {h h':Hp} {o:Option (Nat×Nat)} {l:List Int} (g:GR lo h o l) (hn:h.n≤h'.n) (hg:∀ i,i < h.n→isB o i→h'.g i=h.g i):GR lo h' o l:=by
  match o,g with
  | none,g=>exact g
  | some (b,e),⟨g1,r,g2⟩=>exact ⟨g1,r,Nat.lt_of_lt_of_le g2.lt hn,by rw [hg b g2.lt ⟨e,rfl⟩];exact g2.g⟩
theorem GR.up {lo':Nat} {h:Hp} {o:Option (Nat×Nat)} {l:List Int} (g:GR lo h o l) (hl:∀ i,isB o i→lo'≤i):GR lo' h o l:=by
  match o,g with
  | none,g=>exact g
  | some (b,e),⟨_,g⟩=>exact ⟨hl b ⟨e,rfl⟩,g⟩
theorem GR.lt {h:Hp} {o:Option (Nat×Nat)} {l:List Int} (g:GR lo h o l) {i:Nat} (hi:isB o i):i < h.n∧lo≤i:=by
  obtain ⟨e,rfl⟩:=hi
  exact ⟨g.2.choose_spec.lt,g.1⟩
theorem GR.sl {h:Hp} {o:Option (Nat×Nat)} {l:List Int} (g:GR lo h o l):∃ a fl,gv o l.length = .slice a l.length fl∧Sls h inE 1 a l:=gw_sls g.w
theorem TrailFoot_ok (g:Gd) (k:Int) (ad:Option Addr) (fl:Nat) (h:Hp) (hs:Sls h cE 2 ad g.cs) (hn:(g.cs.length:Int) < 2 ^ 31):Tri X lo 91 [.agg #[.int .i64 g.w,.slice ad g.cs.length fl],.int .i64 k] h fun v h'=>(∃ o,v=gv o (footG g k).length∧GR h.n h' o (footG g k))∧Ext h h':=by
  refine enter tbOk mtOk ⟨[],[]⟩ 400 Tryz.func91 rfl rfl rfl fun hlo => ?_
  obtain ⟨hT,hm,_⟩:=trail_ok g k
  have hvis:=trail_vis g k
  have hF:footG g k=footL (trail g k).1 g.cs.length:=rfl
  generalize footG g k=F at *
  generalize trail g k=T at *
  refine callP (trailOf_ok g k T ad fl h hs hn hT hm) ?_
  rintro v h1 ⟨o1,o2,rfl,g1,g2,e1⟩
  obtain ⟨a2,f2,q2,s2⟩:=gw_sls g1
  rw [q2]
  have n1:=e1.n
  refine loop (σ:=Nat×Option (Nat×Nat)) tbOk mtOk ⟨[],[]⟩ (fun s=>[(13,.v (.int .i64 (s.1:Int))),(12,.v (.int .i64 (T.1.length:Int))),(11,.v (.slice a2 T.1.length f2)),(5,.v (gv s.2 s.1)),(2,.l 0 0)]) (fun _=>[[.int .i64 g.w,.slice ad g.cs.length fl]]) (fun s h'=>s.1≤T.1.length∧Gx h1.n h' inE 1 s.2 ((T.1.map fun v=>v.1).take s.1)∧Ext h1 h') (fun s=>T.1.length - s.1) 400 (0,none) (fun _=>rfl) ⟨rfl,rfl,rfl,rfl,rfl,trivial⟩ ⟨rfl,trivial⟩ ⟨Nat.zero_le _,rfl,Ext.refl _⟩ (fun s h2 hI again => ?_)
  obtain ⟨i1,i2,i3⟩:=hI
  have hll:(T.1.map fun v=>v.1).length=T.1.length:=List.length_map ..
  refine cnd (fun c1 => ?_) (fun c1 => ?_)
  · have c1:s.1 < T.1.length:=by have:=of_decide_eq_true c1;omega
    obtain ⟨a2,rfl⟩:=s2.some c1
    have hld:=(s2.ext i3).ld vE3 c1
    have htk:(T.1.map fun v=>v.1).take (s.1+1)=(T.1.map fun v=>v.1).take s.1++[T.1[s.1].1]:=by
      rw [List.take_add_one,List.getElem?_eq_getElem (by omega)];simp
    have hlen:((T.1.map fun v=>v.1).take s.1).length=s.1:=by rw [List.length_take];omega
    obtain ⟨o',h3,p1,p2,p3,p4⟩:=gx_snoc (lo:=lo) i2 i3 (by omega) (by rw [hlen];unfold Id.maxLen;omega) T.1[s.1].1
    rw [← htk] at p2 p3
    have hlen':((T.1.map fun v=>v.1).take (s.1+1)).length=s.1+1:=by rw [List.length_take];omega
    rw [hlen,hlen'] at p2
    have wq:IntKind.i64.wrap ((s.1:Int)+1)=((s.1+1:Nat):Int):=wz (by omega) (by omega)
    refine And.intro ⟨by omega,by omega⟩ ?_
    refine ⟨_,hld,?_⟩
    refine ⟨inE T.1[s.1].1,p1,_,h3,p2,?_⟩
    exact again (s.1+1,o') _ _ _ (by show T.1.length - (s.1+1) < T.1.length - s.1;omega) ⟨vI wq,rfl,rfl,rfl,rfl,trivial⟩ ⟨rfl,trivial⟩ ⟨by show s.1+1≤T.1.length;omega,p3,p4⟩
  · have c1:s.1=T.1.length:=by have:=of_decide_eq_false c1;omega
    rw [c1,List.take_of_length_le (by omega)] at i2
    have x2:=e1.trans i3
    obtain ⟨m,o⟩:=s
    simp only at c1 i2
    subst c1
    match o,i2 with
    | none,i2 =>
      have hnil:T.1=[]:=by
        have:(T.1.map fun v=>v.1)=[]:=i2
        exact List.map_eq_nil_iff.1 this
      have hF0:F=[]:=by rw [hF,hnil];unfold footL;simp
      rw [hnil]
      refine callP (Sort_nil h2) ?_
      rintro v h3 ⟨rfl,rfl⟩
      refine callP (Compact_nil h3) ?_
      rintro v h4 ⟨rfl,rfl⟩
      rw [hF0]
      exact And.intro ⟨none,rfl,rfl⟩ x2
    | some (b,e),i2 =>
      have hd:((T.1.map fun v=>v.1).toArray).toList=T.1.map fun v=>v.1:=by simp
      have hz:((T.1.map fun v=>v.1).toArray).size=T.1.length:=by simp
      have r2:AR h2 b e (T.1.map fun v=>v.1).toArray:=by unfold AR;rw [hd];exact i2.2
      have hfoot:=ded_foot (N:=g.cs.length) hvis _ hd
      rw [← hF,hz] at hfoot
      have hbb:=i2.1
      generalize (T.1.map fun v=>v.1).toArray=d at *
      refine callP (Sort_ok b e T.1.length 1 d h2 r2 hz (by omega) (by omega)) ?_
      rintro v h3 ⟨rfl,e3,r3,z3⟩
      refine callP (Compact_ok b e T.1.length _ h3 r3 z3 (by omega) (by omega)) ?_
      rintro v h4 ⟨rfl,e4,r,r4⟩
      rw [hfoot] at r4 ⊢
      exact And.intro ⟨some (b,e),rfl,⟨by omega,r,r4⟩⟩ ((e3.trans e4).out x2 (by omega))
end Go.Proofs.YtjpcfaddimlbdaaGreat.Id
namespace Go.Proofs.YtjpcfaddimlbdaaGreat.Id
open Go.Id
open Go.Proofs
set_option linter.unusedVariables false
set_option maxRecDepth 100000
variable {X:Ctx Tryz.prog} {lo:Nat}
theorem sCellOk_ok (a b:Int) (h:Hp):Tri X lo 118 [.agg #[.int .i64 a,.int .i64 b]] h fun v h'=>v = .bool (cOk (a,b))∧Ext h h':=by
  refine enter tbOk mtOk ⟨[],[]⟩ 400 Tryz.func118 rfl rfl rfl fun hlo => ?_
  refine cnd (fun c1 => ?_) (fun c1 => ?_)
  · have c1:a=7:=by simpa using c1
    refine callP (l6In_ok b 1 9 h) ?_
    rintro v h1 ⟨rfl,q⟩
    subst q
    refine And.intro ?_ (Ext.refl _)
    simp [cOk,c1]
  · have c1:a≠7:=by simpa using c1
    refine callP (l6In_ok a 0 6 h) ?_
    rintro v h1 ⟨rfl,q⟩
    subst q
    refine cnd (fun c2 => ?_) (fun c2 => ?_)
    · refine And.intro ?_ (Ext.refl _)
      show Value.bool (b == 0)=_
      have c2:0≤a∧a≤6:=by simpa using c2
      simp [cOk,c1,c2];rfl
    · refine And.intro ?_ (Ext.refl _)
      have c2:¬ (0≤a∧a≤6):=by simp at c2;omega
      have:cOk (a,b)=false:=by
        unfold cOk;rw [if_neg c1];simp;omega
      rw [this]
theorem high_ok (w:Int) (a:Option Addr) (n fl:Nat) (h:Hp) (hw:1≤w) (hn:(n:Int) < 2 ^ 31):Tri X lo 130 [.agg #[.int .i64 w,.slice a n fl]] h fun v h'=>v = .int .i64 ((n:Int) / w)∧Ext h h':=by
  refine enter tbOk mtOk ⟨[],[]⟩ 200 Tryz.func130 rfl rfl rfl fun hlo => ?_
  refine And.intro (by omega) ?_
  have h1:(n:Int).tdiv w=(n:Int) / w:=Int.tdiv_eq_ediv_of_nonneg (by omega)
  have h2:0≤(n:Int) / w:=Int.ediv_nonneg (by omega) (by omega)
  have h3:(n:Int) / w≤n:=Int.ediv_le_self _ (by omega)
  rw [h1,wr (by omega) (by omega)]
  exact ⟨rfl,Ext.refl _⟩
theorem l3Many_ok (g:Gd) (a:Option Addr) (fl:Nat) (h:Hp) (hg:gOk g=true) (hn:(g.cs.length:Int) < 2 ^ 31):Tri X lo 98 [.agg #[.int .i64 g.w,.slice a g.cs.length fl]] h fun v h'=>v = .int .i64 (many g)∧Ext h h':=by
  obtain ⟨h1,h2,h3⟩:=hi_ok hg
  obtain ⟨g1,g2,_⟩:=gOk_iff.1 hg
  refine enter tbOk mtOk ⟨[],[(1,[0,1,2,3,4,5,6],[0,1,0,4,15,31,63])]⟩ 200 Tryz.func98 rfl rfl rfl fun hlo => ?_
  refine And.intro (by kernel_rfl) ?_
  refine callP (high_ok g.w a _ fl h g1 hn) ?_
  rintro v h1 ⟨rfl,e1⟩
  refine And.intro Is.r ?_
  refine And.intro ?_ e1
  show Value.int .i64 (IntKind.i64.wrap (2*IntKind.i64.wrap (g.w+(g.cs.length:Int) / g.w)))=_
  rw [show (g.cs.length:Int) / g.w=g.hi from rfl,wr (n:=g.w+g.hi) (by omega) (by omega),wr (by omega) (by omega)]
  rfl
theorem sGridOk_ok (w:Int) (a:Option Addr) (fl:Nat) (cs:List Cl) (h:Hp) (hs:Sls h cE 2 a cs) (hn:(cs.length:Int) < 2 ^ 31):Tri X lo 97 [.agg #[.int .i64 w,.slice a cs.length fl]] h fun v h'=>v = .bool (gOk ⟨w,cs⟩)∧Ext h h':=by
  refine enter tbOk mtOk ⟨[],[]⟩ 400 Tryz.func97 rfl rfl rfl fun hlo => ?_
  refine callP (l6In_ok w 1 5 h) ?_
  rintro v h1 ⟨rfl,q⟩
  subst q
  refine cnd (fun c1 => ?_) (fun c1 => ?_)
  · have c1:¬ (1≤w∧w≤5):=by simp at c1;omega
    refine cndT ?_
    refine cndT ?_
    refine And.intro ?_ (Ext.refl _)
    have:gOk ⟨w,cs⟩=false:=Bool.eq_false_iff.2 fun h=>c1 (by have:=gOk_iff.1 h;exact ⟨this.1,this.2.1⟩)
    rw [this]
  · have c1:1≤w∧w≤5:=by simpa using c1
    have e6:(cs.length:Int).tmod w=(cs.length:Int) % w:=Int.tmod_eq_emod_of_nonneg (by omega)
    have hq:IntKind.i64.wrap ((cs.length:Int).tdiv w)=(cs.length:Int) / w:=by
      have h2:0≤(cs.length:Int) / w:=Int.ediv_nonneg (by omega) (by omega)
      have h3:(cs.length:Int) / w≤cs.length:=Int.ediv_le_self _ (by omega)
      rw [Int.tdiv_eq_ediv_of_nonneg (by omega),wr (by omega) (by omega)]
    refine And.intro (by omega) ?_
    refine cnd (fun c2 => ?_) (fun c2 => ?_)
    · rw [e6] at c2
      have c2:¬ (cs.length:Int) % w=0:=by simpa using c2
      refine cndT ?_
      refine And.intro ?_ (Ext.refl _)
      have:gOk ⟨w,cs⟩=false:=Bool.eq_false_iff.2 fun h=>c2 (gOk_iff.1 h).2.2.2.2.1
      rw [this]
    · rw [e6] at c2
      have c2:(cs.length:Int) % w=0:=by simpa using c2
      refine And.intro (by omega) ?_
      refine callP (l6In_ok _ 1 5 _) ?_
      rintro v h2 ⟨rfl,q⟩
      subst q
      rw [hq]
      have hmul:w*((cs.length:Int) / w)=cs.length:=by
        have:=Int.mul_ediv_add_emod (cs.length:Int) w
        omega
      have hc5:w=1∨w=2∨w=3∨w=4∨w=5:=by omega
      refine cnd (fun c3 => ?_) (fun c3 => ?_)
      · have c3:¬ (1≤(cs.length:Int) / w∧(cs.length:Int) / w≤5):=by simp at c3;omega
        refine And.intro ?_ (Ext.refl _)
        have:gOk ⟨w,cs⟩=false:=Bool.eq_false_iff.2 fun h=>c3 (by
          have:=(hi_ok h);exact ⟨this.1,this.2.1⟩)
        rw [this]
      · have c3:1≤(cs.length:Int) / w∧(cs.length:Int) / w≤5:=by simpa using c3
        have hg:gOk ⟨w,cs⟩=cs.all cOk:=by
          have k1:cs.length≠0:=by intro e;rw [e] at c3;simp at c3
          have k2:(cs.length:Int)≤w*5:=by rcases hc5 with rfl | rfl | rfl | rfl | rfl<;>omega
          simp [gOk,c1,c2,k1,k2]
        refine loop (σ:=Nat) tbOk mtOk ⟨[],[]⟩ (fun i=>[(3,.v (.int .i64 (i:Int))),(1,.l 0 0)]) (fun _=>[[.int .i64 w,.slice a cs.length fl]]) (fun i h'=>i≤cs.length∧Ext h2 h'∧∀ j,j < i→∀ c,cs[j]? = some c→cOk c=true) (fun i=>cs.length - i) 300 0 (fun _=>rfl) ⟨rfl,rfl,trivial⟩ ⟨rfl,trivial⟩ ⟨by omega,Ext.refl _,fun j hj=>by omega⟩ (fun i h' hI again => ?_)
        obtain ⟨i1,i2,i3⟩:=hI
        refine cnd (fun c6 => ?_) (fun c6 => ?_)
        · have hi:i < cs.length:=by simpa using c6
          obtain ⟨ad,rfl⟩:=hs.some hi
          refine And.intro ⟨by omega,by omega⟩ ?_
          refine ⟨_,(hs.ext i2).ld (fun _=>rfl) hi,?_⟩
          refine callP (sCellOk_ok _ _ _) ?_
          rintro v h'' ⟨rfl,e⟩
          refine cnd (fun c7 => ?_) (fun c7 => ?_)
          · have c7:cOk cs[i]=false:=by simpa using c7
            refine ⟨?_,i2.trans e⟩
            rw [hg,eq_comm]
            refine congrArg _ (Bool.eq_false_iff.2 fun hall => ?_)
            have:=(List.all_eq_true.1 hall) cs[i] (List.getElem_mem hi)
            rw [this] at c7;cases c7
          · have c7:cOk cs[i]=true:=by simpa using c7
            refine again (i+1) _ _ _ (by omega) ⟨?_,rfl,trivial⟩ ⟨rfl,trivial⟩ ⟨by omega,i2.trans e,fun j hj c hc => ?_⟩
            · show some (Sl.v (.int .i64 (IntKind.i64.wrap ((i:Int)+1))))=_
              rw [wr (by omega) (by omega)];rfl
            · rcases Nat.lt_or_ge j i with h1 | h1
              · exact i3 j h1 c hc
              · have:j=i:=by omega
                subst this
                rw [List.getElem?_eq_getElem hi] at hc;cases hc;exact c7
        · have hi:¬ i < cs.length:=by simpa using c6
          refine ⟨?_,i2⟩
          rw [hg,eq_comm]
          refine congrArg _ (List.all_eq_true.2 fun c hc => ?_)
          obtain ⟨j,hj⟩:=List.mem_iff_getElem?.1 hc
          exact i3 j (by have:=(List.getElem?_eq_some_iff.1 hj).1;omega) c hj
end Go.Proofs.YtjpcfaddimlbdaaGreat.Id
namespace Go.Proofs.YtjpcfaddimlbdaaGreat.Id
open Go.Id
open Go.Proofs
set_option linter.unusedVariables false
set_option maxRecDepth 100000
variable {X:Ctx Tryz.prog} {lo:Nat}
theorem sls_cells {α:Type} {h:Hp} {enc:α→List Value} {sz fl:Nat} {a:Option Addr} {cs:List α} (hs:Sls h enc sz a cs):SlCells h (.slice a cs.length fl) sz (cs.flatMap enc):=by
  cases a with
  | none =>
    obtain rfl:cs=[]:=hs
    rfl
  | some ad =>
    obtain ⟨_,c,sz',h1,h2⟩:=hs
    show if cs.length=0 then _ else _
    split
    · rename_i hl
      rw [List.length_eq_zero_iff.1 hl];rfl
    · exact ⟨c,sz',h1,h2⟩
theorem CloneC_ok (a:Option Addr) (fl:Nat) (cs:List Cl) (h:Hp) (hs:Sls h cE 2 a cs) (hn:cs.length≤1048576):Tri X lo 129 [.slice a cs.length fl] h fun v h'=>(∃ o,v=gv o cs.length∧Gx h.n h' cE 2 o cs)∧Ext h h':=by
  refine enter tbOk mtOk ⟨[],[]⟩ 400 Tryz.func129 rfl rfl rfl fun hlo => ?_
  cases a with
  | none =>
    obtain rfl:cs=[]:=hs
    refine cndT ?_
    exact And.intro ⟨none,rfl,rfl⟩ (Ext.refl h)
  | some ad =>
    refine cndF ?_
    have e1:Ext h (h.push (.cells (([]:List Cl).flatMap cE) 2 0)):=Ext.push _ _
    have r1:Row (h.push (.cells (([]:List Cl).flatMap cE) 2 0)) h.n 0 cE 2 ([]:List Cl):=Row.push
    have ap:=r1.app (m:=cs) (lo:=lo) cE2 (by decide) hlo (by unfold Id.maxLen;simp;omega)
    have ap':Ap lo (h.push (.cells (([]:List Cl).flatMap cE) 2 0)) 2 (.slice (some ⟨h.n,0,some 0⟩) 0 1) (cs.flatMap cE) cs.length (.slice (some ⟨h.n,0,some 1⟩) cs.length 1) ((h.push (.cells (([]:List Cl).flatMap cE) 2 0)).set h.n (.cells (cs.flatMap cE) 2 1)):=by simpa using ap
    refine ⟨cs.flatMap cE,sls_cells (hs.ext e1),_,_,ap',?_⟩
    exact And.intro ⟨some (h.n,1),rfl,Nat.le_refl _,Row.set r1.lt⟩ (e1.set (Nat.le_refl _) _)
theorem gOk_len {g:Gd} (hg:gOk g=true):g.cs.length≤25:=by
  obtain ⟨g1,g2,_,g4,_⟩:=gOk_iff.1 hg
  omega
theorem gridCopy_ok (g:Gd) (a:Option Addr) (fl:Nat) (h:Hp) (hs:Sls h cE 2 a g.cs) (hn:g.cs.length≤1048576):Tri X lo 96 [.agg #[.int .i64 g.w,.slice a g.cs.length fl]] h fun v h'=>(∃ o,v = .agg #[.int .i64 g.w,gv o g.cs.length]∧Gx h.n h' cE 2 o g.cs)∧Ext h h':=by
  refine enter tbOk mtOk ⟨[],[(1,[0,1,2,3,4,5,6],[0,1,0,4,12,31,63])]⟩ 400 Tryz.func96 rfl rfl rfl fun hlo => ?_
  refine And.intro (by kernel_rfl) ?_
  refine callP (CloneC_ok a fl g.cs h hs hn) ?_
  rintro v h1 ⟨⟨o,rfl,q1⟩,e1⟩
  refine And.intro Is.r ?_
  rcases o with _ | ⟨b,e⟩
  · exact And.intro ⟨none,rfl,q1⟩ e1
  · exact And.intro ⟨some (b,e),rfl,q1⟩ e1
end Go.Proofs.YtjpcfaddimlbdaaGreat.Id
namespace Go.Id
open Go.Conc
open Go.ConcN (sumTo upd sumTo_upd upd_ne upd_same)
set_option linter.unusedVariables false
def blockOf:Loc→Option Nat
  | .cell a=>some a.block
  | .obj r=>some r
  | _=>none
structure Frm (P:Program) (N0:Nat→Prop) (O:Nat→Prop) (g:Goroutine) (w:World) (gs:Array Goroutine) (t:Trace) (q:Nat→Nat) (Shun:Loc→Prop):Prop where
  zero:gs[0]? = some g
  lv:Leavers P t gs q
  past:Past Shun w.heap.size t
  shun:∀ l b,Shun l→blockOf l=some b→¬ (N0 b∨O b)
  old:∀ l b,Shun l→blockOf l=some b→b < w.heap.size
  now:∀ b,O b→b < w.heap.size
  base:∀ b,N0 b→b < w.heap.size
  num:∀ op∈t,op.g < gs.size
def JM (P:Program) (N0:Nat→Prop) (Stop:(Nat→Prop)→Goroutine→World→Prop) (O:Nat→Prop) (g:Goroutine) (w:World):Prop :=
  ∀ w₁,Rly N0 O w w₁→∀ gs sl t q Shun,Frm P N0 O g w₁ gs t q Shun →
    ∃ N gs' sl' t' q' Shun' g' w' O',runNT P N (crowd gs w₁ sl) t=(.next (crowd gs' w' sl'),t')∧Frm P N0 O' g' w' gs' t' q' Shun'∧Stop O' g' w'
section
variable {P:Program} {N0:Nat→Prop} {O:Nat→Prop} {g:Goroutine} {w:World}
theorem evL_of {Shun:Loc→Prop} {B:Nat} (hs:∀ l b,Shun l→blockOf l=some b→¬ (N0 b∨O b)) (hb:∀ b,(N0 b∨O b)→b < B) {e:Event} (h:EvOk N0 O e):EvL Shun B e:=by
  obtain ⟨loc,wr,sy⟩:=e
  unfold EvOk at h
  cases loc with
  | cell a =>
    simp only at h
    obtain ⟨rfl,h⟩:=h
    have hin:N0 a.block∨O a.block:=by cases wr<;>simp at h<;>first | exact h | exact .inr h
    exact evL_cell a wr (fun hS=>hs _ _ hS rfl hin) (hb _ hin)
  | obj r =>
    simp only at h
    obtain ⟨rfl,h⟩:=h
    refine ⟨fun x hx hS => ?_,by simp,by simp,?_⟩
    · simp only [MemAct.ofEvent,MemAct.touch?,Option.some.injEq] at hx
      subst hx
      exact absurd (.inr h) (hs _ _ hS rfl)
    · have:=hb _ (.inr h)
      simpa [MemAct.ofEvent,MemAct.low,Loc.low] using this
  | mark m =>
    cases m<;>simp only at h
    exact ⟨fun x hx=>by simp [MemAct.ofEvent,MemAct.touch?] at hx,by simp,by simp,trivial⟩
  | output=>exact h.elim
  | goroutines=>exact h.elim
theorem rly_at (w:World) (d:Nat):Rly N0 O w (w.at d):=⟨Nat.le_refl _,fun _ _ _=>rfl,rfl,rfl⟩
theorem ofEvents_g {g:Nat} {fn:FuncId} {pos:String} {es:Array Event} {op:MemOp} (h:op∈MemOp.ofEvents g fn pos es):op.g=g:=by
  rw [ofEvents_eq] at h
  obtain ⟨e,_,rfl⟩:=Array.mem_map.1 h
  rfl
theorem JM.stop {Stop:(Nat→Prop)→Goroutine→World→Prop} (h:∀ w₁,Rly N0 O w w₁→Stop O g w₁):JM P N0 Stop O g w :=
  fun w₁ r gs sl t q Shun F=>⟨0,gs,sl,t,q,Shun,g,w₁,O,rfl,F,h w₁ r⟩
theorem JM.step {Stop : (Nat → Prop) → Goroutine → World → Prop} (hrun : g.status = .running)
    (h : ∀ w₁, Rly N0 O w w₁ → ∃ g' w₂ es, stepG P true g w₁ = .go g' w₂ es ∧ Guar N0 O w₁ w₂ es ∧ JM P N0 Stop (grow O w₁ w₂) g' w₂) : JM P N0 Stop O g w := by
  intro w₁ r gs sl t q Shun F
  have key : ∀ (M : Nat) (gs : Array Goroutine) (w₁ : World) (sl : Option (Nat × Nat)) (t : Trace) (q : Nat → Nat), Rly N0 O w w₁ → sumTo gs.size q ≤ M → Frm P N0 O g w₁ gs t q Shun →
      ∃ N gs' sl' t' q' Shun' g' w' O', runNT P N (crowd gs w₁ sl) t = (.next (crowd gs' w' sl'), t') ∧ Frm P N0 O' g' w' gs' t' q' Shun' ∧ Stop O' g' w' := by
    intro M
    induction M with
    | zero | succ M ih =>
      intro gs w₁ sl t q r hM F
      have haw : ∀ x ∈ gs, awake x := by
        intro x hx
        obtain ⟨i, hi, rfl⟩ := Array.mem_iff_getElem.1 hx
        rcases Nat.eq_zero_or_pos i with rfl | hpos
        · have : gs[0] = g := by simpa [Array.getElem?_eq_getElem hi] using F.zero
          rw [this]; exact awake_of (.inl hrun)
        · exact awake_of ((F.lv.old i _ hpos (Array.getElem?_eq_getElem hi)).status.elim .inl fun x => .inr (.inr x))
      obtain ⟨i, x, d, sl', hi, hg, hst⟩ := crowd_pick (P := P) (w := w₁) (sl := sl) haw ⟨0, g, F.zero, hrun⟩
      rcases Nat.eq_zero_or_pos i with rfl | hpos
      · -- goroutine 0 takes its step
        obtain rfl : x = g := by rw [F.zero] at hi; exact (Option.some.inj hi).symm
        obtain ⟨g', w₂, es, hgo, hG, hJ⟩ := h (w₁.at d) (r.trans (rly_at w₁ d))
        have hrunT := runT_crowd_go (P := P) (sl := sl') (i := 0) hi (show stepG P (0 == 0) x (w₁.at d) = _ from hgo)
        have hsz : ((gs.map (woken P x g' w₂)).setIfInBounds 0 g').size = gs.size := by simp
        have hlt : 0 < gs.size := (Array.getElem?_eq_some_iff.1 F.zero).1
        have hsize : w₁.heap.size ≤ w₂.heap.size := hG.size
        obtain ⟨N, gs', sl'', t', q', Shun', g'', w', O', hr, F', hS⟩ := hJ w₂ (Rly.refl _ _ _) ((gs.map (woken P x g' w₂)).setIfInBounds 0 g') sl' (t ++ MemOp.ofEvents 0 x.frame.fn x.frame.place es) q Shun
          ⟨by simp [hlt], ⟨fun j y hj hy => by
              have hne : 0 ≠ j := by omega
              rw [Array.getElem?_setIfInBounds_ne hne, Array.getElem?_map] at hy
              obtain ⟨z, hz, rfl⟩ := Option.map_eq_some_iff.1 hy
              have hq := F.lv.old j z hj hz
              rw [woken_quitsD hq, Deaf_other t (by omega) _ (fun op hop => ofEvents_g hop)]
              exact hq, fun j hj => by
              rw [Deaf_other t (g' := 0) (by simp at hj; omega) _ (fun op hop => ofEvents_g hop)]
              exact F.lv.above j (by simpa using hj)⟩,
            (F.past.own fun e he => evL_of F.shun (fun b hb => hb.elim (F.base _) (F.now b)) (hG.evs e he)).mono hsize,
            fun l b hl hb => by
              rintro (h | h | ⟨h, _⟩)
              · exact F.shun l b hl hb (.inl h)
              · exact F.shun l b hl hb (.inr h)
              · have := F.old l b hl hb; have h' : w₁.heap.size ≤ b := h; omega,
            fun l b hl hb => Nat.lt_of_lt_of_le (F.old l b hl hb) hsize,
            fun b hb => hb.elim (fun h => Nat.lt_of_lt_of_le (F.now b h) hsize) (·.2), fun b hb => Nat.lt_of_lt_of_le (F.base b hb) hsize,
            fun op hop => by rw [hsz]; exact (Array.mem_append.1 hop).elim (F.num op) fun x => by rw [ofEvents_g x]; exact hlt⟩
        exact ⟨N + 1, gs', sl'', t', q', Shun', g'', w', O', by simp only [runNT, hst, hrunT]; exact hr, F', hS⟩
      · -- a leaver slips
        have hq := F.lv.old i x hpos hi
        have hi0 : (i == 0) = false := by simp; omega
        have hlt : i < gs.size := (Array.getElem?_eq_some_iff.1 hi).1
        cases hqi : q i with
        | zero => rw [hqi] at hq; rw [hq.1] at hg; cases hg
        | succ k =>
          rw [hqi] at hq
          rcases hq with ⟨hf, _⟩ | ⟨_, g', es, hm, hstp, hq'⟩
          · rw [hf] at hg; cases hg
          have hsum : sumTo gs.size (upd q i k) + (k + 1) = sumTo gs.size q + k := by
            have := sumTo_upd q k id hlt
            simpa [hqi] using this
          first
          | (exfalso; omega)
          | (have hrunT := runT_crowd_go (P := P) (sl := sl') (i := i) hi (by rw [hi0]; exact hstp (w₁.at d))
             have hsz : ((gs.map (woken P x g' (w₁.at d))).setIfInBounds i g').size = gs.size := by simp
             obtain ⟨N, gs', sl'', t', q', Shun', g'', w', O', hr, F', hS⟩ := ih ((gs.map (woken P x g' (w₁.at d))).setIfInBounds i g') (w₁.at d) sl' (t ++ MemOp.ofEvents i x.frame.fn x.frame.place es) (upd q i k) (r.trans (rly_at w₁ d)) (by rw [hsz]; omega)
               ⟨by
                 have hne : i ≠ 0 := by omega
                 rw [Array.getElem?_setIfInBounds_ne hne, Array.getElem?_map, F.zero]
                 simp [woken_run hrun],
               ⟨fun j y hj hy => by
                 by_cases hji : i = j
                 · subst hji
                   rw [Array.getElem?_setIfInBounds_self_of_lt (by simpa using hlt)] at hy
                   obtain rfl := Option.some.inj hy
                   rw [upd_same, Deaf_own]
                   exact hq'
                 · rw [Array.getElem?_setIfInBounds_ne hji, Array.getElem?_map] at hy
                   obtain ⟨z, hz, rfl⟩ := Option.map_eq_some_iff.1 hy
                   have hqj := F.lv.old j z hj hz
                   rw [woken_quitsD hqj, upd_ne q k (Ne.symm hji), Deaf_other t hji _ (fun op hop => ofEvents_g hop)]
                   exact hqj, fun j hj => by
                 rw [Deaf_other t (g' := i) (by simp at hj; omega) _ (fun op hop => ofEvents_g hop)]
                 exact F.lv.above j (by simpa using hj)⟩,
               F.past.mute (by omega) hm, F.shun, F.old, F.now, F.base,
               fun op hop => by rw [hsz]; exact (Array.mem_append.1 hop).elim (F.num op) fun x => by rw [ofEvents_g x]; exact hlt⟩
             exact ⟨N + 1, gs', sl'', t', q', Shun', g'', w', O', by simp only [runNT, hst, hrunT]; exact hr, F', hS⟩)
  exact key _ gs w₁ sl t q r (Nat.le_refl _) F
end
def mainCtx (P:Program) (N0:Nat→Prop):Ctx P where
  main:=true
  N0:=N0
  J:=JM P N0
  rely:=fun Stop O g w w₁ h r w₂ r₂=>h w₂ (r.trans r₂)
  step:=fun Stop O g w hr h=>JM.step hr h
end Go.Id
namespace Go.Id
open Go.Conc
set_option linter.unusedVariables false
inductive Rk:Type 1 where
  | mk (ι:Type) (f:ι→Rk)
def Rk.lt:Rk→Rk→Prop
  | r,.mk ι f=>∃ i,r=f i
theorem Rk.wf:WellFounded Rk.lt:=⟨fun r=>by
  induction r with
  | mk ι f ih=>exact ⟨_,fun y hy=>by obtain ⟨i,rfl⟩:=hy;exact ih i⟩⟩
instance:WellFoundedRelation Rk:=⟨Rk.lt,Rk.wf⟩
section
variable (P:Program) (main:Bool) (N0:Nat→Prop) (Stop:(Nat→Prop)→Goroutine→World→Prop)
def GTr:Rk→(Nat→Prop)→Goroutine→World→Prop
  | .mk ι f,O,g,w=>(∀ w₁,Rly N0 O w w₁→Stop O g w₁)∨(g.status = .running∧∀ w₁,Rly N0 O w w₁→∃ g' w₂ es i,stepG P main g w₁ = .go g' w₂ es∧Guar N0 O w₁ w₂ es∧GTr (f i) (grow O w₁ w₂) g' w₂)
def JW (O:Nat→Prop) (g:Goroutine) (w:World):Prop:=∃ ρ,GTr P main N0 Stop ρ O g w
end
section
variable {P:Program} {main:Bool} {N0:Nat→Prop} {Stop:(Nat→Prop)→Goroutine→World→Prop} {O:Nat→Prop} {g:Goroutine} {w:World}
theorem GTr.rely {ρ:Rk} {w₁:World} (h:GTr P main N0 Stop ρ O g w) (r:Rly N0 O w w₁):GTr P main N0 Stop ρ O g w₁:=by
  cases ρ with
  | mk ι f =>
    rcases h with h | ⟨h1,h2⟩
    · exact .inl fun w₂ r₂=>h w₂ (r.trans r₂)
    · exact .inr ⟨h1,fun w₂ r₂=>h2 w₂ (r.trans r₂)⟩
theorem JW.step (hr:g.status = .running) (h:∀ w₁,Rly N0 O w w₁→∃ g' w₂ es,stepG P main g w₁ = .go g' w₂ es∧Guar N0 O w₁ w₂ es∧JW P main N0 Stop (grow O w₁ w₂) g' w₂):JW P main N0 Stop O g w:=by
  let ι:={w₁:World // Rly N0 O w w₁}
  have hc:∀ i:ι,∃ ρ,∃ g' w₂ es,stepG P main g i.1 = .go g' w₂ es∧Guar N0 O i.1 w₂ es∧GTr P main N0 Stop ρ (grow O i.1 w₂) g' w₂:=fun i=>by
    obtain ⟨g',w₂,es,h1,h2,ρ,h3⟩:=h i.1 i.2
    exact ⟨ρ,g',w₂,es,h1,h2,h3⟩
  refine ⟨.mk ι fun i=>(hc i).choose,.inr ⟨hr,fun w₁ r => ?_⟩⟩
  obtain ⟨g',w₂,es,h1,h2,h3⟩:=(hc ⟨w₁,r⟩).choose_spec
  exact ⟨g',w₂,es,⟨w₁,r⟩,h1,h2,h3⟩
theorem JW.stop (h:∀ w₁,Rly N0 O w w₁→Stop O g w₁):JW P main N0 Stop O g w:=⟨.mk Empty (fun x=>x.elim),.inl h⟩
end
def treeCtx (P:Program) (main:Bool) (N0:Nat→Prop):Ctx P where
  main:=main
  N0:=N0
  J:=JW P main N0
  rely:=fun Stop O g w w₁ ⟨ρ,h⟩ r=>⟨ρ,h.rely r⟩
  step:=fun Stop O g w hr h=>JW.step hr h
end Go.Id
namespace Go.Id
open Go.Conc
open Go.ConcN (ShN RelBy fork_knows Deaf_absent sumTo upd sumTo_upd upd_ne upd_same)
open Go.ConcR (stA smA mk)
set_option linter.unusedVariables false
structure Fam where
  own:Nat→Nat→Prop
  fro:Nat→Prop
structure Fam.Ok (F:Fam) (Shun:Loc→Prop) (B:Nat):Prop where
  one:∀ k k' b,F.own k b→F.own k' b→k=k'
  ofr:∀ k b,F.own k b→¬ F.fro b
  osh:∀ k l b,F.own k b→blockOf l=some b→¬ Shun l
  fsh:∀ l b,F.fro b→blockOf l=some b→¬ Shun l
  low:∀ k b,F.own k b→b < B
def ByW (F:Fam) (k:Nat) (x:Touch):Prop:=x.kind ≠ .atomic∧∃ b,blockOf x.loc=some b∧(F.own k b∨(F.fro b∧x.write=false))
def ForW (F:Fam) (k:Nat) (x:Touch):Prop:=∃ b,blockOf x.loc=some b∧(F.own k b∨(F.fro b∧x.write=true))
structure PT (Shun:Loc→Prop) (Wg:Nat) (F:Fam) (c j B:Nat) (t:Trace):Prop where
  clean:∀ said,¬ Race said t
  known0:∀ i a,touchAt t i=some a→a.loc.isMemory=true→Knows t 0 i∨(Shun a.loc∧a.kind = .atomic)∨(∃ k,c≤k∧k < c+j∧t.g? i=some k∧ByW F k a)
  knownK:∀ k,c≤k→k < c+j→∀ i a,touchAt t i=some a→a.loc.isMemory=true→ForW F k a→Knows t k i
  quiet:Quiet (ShN Wg) t
  seen:∀ op∈t,op.act.low B
  gs:∀ op∈t,op.g < c+j
  over:∀ i g,t.g? i=some g→g≠0→g < c→t.counts i→∃ q,t.g? q=some 0∧HappensBefore t i q
  norel:NoRelease (stA Wg) t
def Ok0' (Shun:Loc→Prop) (Wg:Nat) (F:Fam) (c j B:Nat) (op:MemOp):Prop :=
  op.g=0∧op.act.low B∧op.act ≠ .mark (.release (stA Wg)) ∧
    ∀ x,op.act.touch? = some x→(ShN Wg x.loc∧x.kind ≠ .plain)∨(¬ Shun x.loc∧∀ b,blockOf x.loc=some b→(∀ k,c≤k→k < c+j→¬ F.own k b)∧(x.write=true→¬ F.fro b))
def OkW' (Wg:Nat) (F:Fam) (k B:Nat) (op:MemOp):Prop :=
  op.g=k∧op.act.low B∧op.act ≠ .mark (.release (stA Wg))∧∀ x,op.act.touch? = some x→(ShN Wg x.loc∧x.kind = .atomic)∨ByW F k x
section
variable {Shun:Loc→Prop} {Wg:Nat} {F:Fam} {c j B:Nat} {t u:Trace}
theorem over_app (h:∀ i g,t.g? i=some g→g≠0→g < c→t.counts i→∃ q,t.g? q=some 0∧HappensBefore t i q) (hu:∀ op∈u,op.g=0∨c≤op.g∨op.act.touch? = none) :
    ∀ i g,(t++u).g? i=some g→g≠0→g < c→(t++u).counts i→∃ q,(t++u).g? q=some 0∧HappensBefore (t++u) i q:=by
  intro i g hg hne hlt hc
  obtain ⟨x,hx,_⟩:=id hc
  obtain ⟨op,hop,hox⟩:=touch_of hx
  rcases getElem?_append_cases hop with ⟨hi,hop'⟩ | ⟨_,hopu⟩
  · obtain ⟨q,hq,hb⟩:=h i g (by simpa [Trace.g?,getElem?_append_old hi] using hg) hne hlt ((counts_old hi).1 hc)
    have hql:q < t.size:=by
      unfold Trace.g? at hq
      obtain ⟨z,hz,_⟩:=Option.map_eq_some_iff.1 hq
      exact lt_size_of_getElem? hz
    exact ⟨q,by simpa [Trace.g?,getElem?_append_old hql] using hq,hb_app u hb⟩
  · have hgo:op.g=g:=by simpa [Trace.g?,hop] using hg
    rcases hu op hopu with h0 | h0 | h0
    · exact absurd (hgo.symm.trans h0) hne
    · omega
    · rw [h0] at hox;cases hox
theorem norel_app (h:NoRelease (stA Wg) t) (hu:∀ op∈u,op.act ≠ .mark (.release (stA Wg))):NoRelease (stA Wg) (t++u):=h.app hu
theorem seen_app' {B':Nat} (hB:B≤B') (h:∀ op∈t,op.act.low B) (hu:∀ op∈u,op.act.low B'):∀ op∈t++u,op.act.low B' :=
  fun op hop=>(Array.mem_append.1 hop).elim (fun x=>MemAct.low_mono hB (h op x)) (hu op)
theorem PT.app0 (A:F.Ok Shun B) (hW:∀ l,ShN Wg l→Shun l) (h:PT Shun Wg F c j B t) (hc:0 < c) {B':Nat} (hB:B≤B') (hu:∀ op∈u,Ok0' Shun Wg F c j B' op):PT Shun Wg F c j B' (t++u):=by
  refine ⟨fun said => ?_,fun i a ha hm => ?_,fun k k1 k2 i a ha hm hf => ?_,h.quiet.app fun op hop x hx hs => ?_,seen_app' hB h.seen fun op hop=>(hu op hop).2.1,fun op hop=>(Array.mem_append.1 hop).elim (h.gs op) (fun x=>by rw [(hu op x).1];omega),over_app h.over fun op hop => .inl (hu op hop).1,norel_app h.norel fun op hop=>(hu op hop).2.2.1⟩
  · refine noRace_append (h.clean said) (fun op hop=>(hu op hop).1) (fun i a ha op hop b hb hc' => ?_)
    rcases (hu op hop).2.2.2 b hb with ⟨hs,hk⟩ | ⟨hs,hn⟩
    · exact h.quiet.known hs hk (fun _=>rfl) i a ha hc'
    · rcases h.known0 i a ha hc'.2.1 with hk | ⟨hsa,_⟩ | ⟨k,k1,k2,_,_,b',hb',ho⟩
      · exact hk
      · exact absurd (hc'.1▸hsa) hs
      · have hbb:blockOf b.loc=some b':=by rw [← hc'.1];exact hb'
        obtain ⟨n1,n2⟩:=hn b' hbb
        rcases ho with ho | ⟨ho,hw⟩
        · exact absurd ho (n1 k k1 k2)
        · exact absurd ho (n2 (by rcases hc'.2.2.1 with e | e<;>simp_all))
  · obtain ⟨x,hx,hxa⟩:=touch_of ha
    rcases getElem?_append_cases hx with ⟨hi,hx'⟩ | ⟨_,hxu⟩
    · rcases h.known0 i a (by rw [touchAt_of hx'];exact hxa) hm with q | q | ⟨k,k1,k2,k3,k4⟩
      · exact .inl (q.app u)
      · exact .inr (.inl q)
      · exact .inr (.inr ⟨k,k1,k2,by rw [Go.Conc.g?_old hi];exact k3,k4⟩)
    · have:=knows_own hx
      rw [(hu x hxu).1] at this
      exact .inl this
  · obtain ⟨x,hx,hxa⟩:=touch_of ha
    rcases getElem?_append_cases hx with ⟨_,hx'⟩ | ⟨_,hxu⟩
    · exact (h.knownK k k1 k2 i a (by rw [touchAt_of hx'];exact hxa) hm hf).app u
    · obtain ⟨b,hb,hf⟩:=hf
      rcases (hu x hxu).2.2.2 a hxa with ⟨hs,_⟩ | ⟨_,hn⟩
      · rcases hf with hf | ⟨hf,_⟩
        · exact absurd (hW _ hs) (A.osh k _ b hf hb)
        · exact absurd (hW _ hs) (A.fsh _ b hf hb)
      · obtain ⟨n1,n2⟩:=hn b hb
        rcases hf with hf | ⟨hf,hw⟩
        · exact absurd hf (n1 k k1 k2)
        · exact absurd hf (n2 hw)
  · rcases (hu op hop).2.2.2 x hx with ⟨_,hk⟩ | ⟨hn,_⟩
    · exact ⟨hk,fun _=>(hu op hop).1⟩
    · exact absurd (hW _ hs) hn
theorem PT.appW (A:F.Ok Shun B) (hW:∀ l,ShN Wg l→Shun l) (h:PT Shun Wg F c j B t) {k:Nat} (k1:c≤k) (k2:k < c+j) (k0:0 < k) {B':Nat} (hB:B≤B') (hu:∀ op∈u,OkW' Wg F k B' op):PT Shun Wg F c j B' (t++u):=by
  refine ⟨fun said => ?_,fun i a ha hm => ?_,fun k' k1' k2' i a ha hm hf => ?_,h.quiet.app fun op hop x hx hs => ?_,seen_app' hB h.seen fun op hop=>(hu op hop).2.1,fun op hop=>(Array.mem_append.1 hop).elim (h.gs op) (fun x=>by rw [(hu op x).1];omega),over_app h.over fun op hop => .inr (.inl (by rw [(hu op hop).1];exact k1)),norel_app h.norel fun op hop=>(hu op hop).2.2.1⟩
  · refine noRace_append (h.clean said) (fun op hop=>(hu op hop).1) (fun i a ha op hop b hb hc' => ?_)
    rcases (hu op hop).2.2.2 b hb with ⟨hs,hk⟩ | ⟨_,b',hb',ho⟩
    · exact h.quiet.known hs (by rw [hk];simp) (fun e=>by rw [hk] at e;cases e) i a ha hc'
    · refine h.knownK k k1 k2 i a ha hc'.2.1 ⟨b',by rw [hc'.1];exact hb',?_⟩
      rcases ho with ho | ⟨ho,hw⟩
      · exact .inl ho
      · exact .inr ⟨ho,by rcases hc'.2.2.1 with e | e<;>simp_all⟩
  · obtain ⟨x,hx,hxa⟩:=touch_of ha
    rcases getElem?_append_cases hx with ⟨hi,hx'⟩ | ⟨_,hxu⟩
    · rcases h.known0 i a (by rw [touchAt_of hx'];exact hxa) hm with q | q | ⟨k',q1,q2,q3,q4⟩
      · exact .inl (q.app u)
      · exact .inr (.inl q)
      · exact .inr (.inr ⟨k',q1,q2,by rw [Go.Conc.g?_old hi];exact q3,q4⟩)
    · rcases (hu x hxu).2.2.2 a hxa with ⟨hs,hk⟩ | q
      · exact .inr (.inl ⟨hW _ hs,hk⟩)
      · exact .inr (.inr ⟨k,k1,k2,by simp [Trace.g?,hx,(hu x hxu).1],q⟩)
  · obtain ⟨x,hx,hxa⟩:=touch_of ha
    rcases getElem?_append_cases hx with ⟨_,hx'⟩ | ⟨_,hxu⟩
    · exact (h.knownK k' k1' k2' i a (by rw [touchAt_of hx'];exact hxa) hm hf).app u
    · obtain ⟨b,hb,hf⟩:=hf
      rcases (hu x hxu).2.2.2 a hxa with ⟨hs,_⟩ | ⟨_,b',hb',ho⟩
      · rcases hf with hf | ⟨hf,_⟩
        · exact absurd (hW _ hs) (A.osh k' _ b hf hb)
        · exact absurd (hW _ hs) (A.fsh _ b hf hb)
      · obtain rfl:b=b':=Option.some.inj (hb.symm.trans hb')
        have:=knows_own hx
        rw [(hu x hxu).1] at this
        rcases hf with hf | ⟨hf,hw⟩
        · rcases ho with ho | ⟨ho,_⟩
          · rw [A.one k' k b hf ho];exact this
          · exact absurd ho (A.ofr k' b hf)
        · rcases ho with ho | ⟨_,ho⟩
          · exact absurd hf (A.ofr k b ho)
          · rw [hw] at ho;cases ho
  · rcases (hu op hop).2.2.2 x hx with ⟨_,hk⟩ | ⟨hn,b,hb,ho⟩
    · exact ⟨by rw [hk];simp,fun e=>by rw [hk] at e;cases e⟩
    · rcases ho with ho | ⟨ho,_⟩
      · exact absurd (hW _ hs) (A.osh k _ b ho hb)
      · exact absurd (hW _ hs) (A.fsh _ b ho hb)
theorem PT.mute (h:PT Shun Wg F c j B t) {g:Nat} (hg:g < c+j) (hu:∀ op∈u,op.g=g∧op.act.touch? = none∧op.act.low B∧op.act ≠ .mark (.release (stA Wg))):PT Shun Wg F c j B (t++u):=by
  have old:∀ {i:Nat} {a:Touch},touchAt (t++u) i=some a→touchAt t i=some a∧i < t.size:=by
    intro i a ha
    obtain ⟨z,hz,hza⟩:=touch_of ha
    rcases getElem?_append_cases hz with ⟨hi,hz'⟩ | ⟨_,hzu⟩
    · exact ⟨by rw [touchAt_of hz'];exact hza,hi⟩
    · rw [(hu z hzu).2.1] at hza;cases hza
  refine ⟨fun said=>noRace_append (h.clean said) (fun op hop=>(hu op hop).1) (fun i a ha op hop b hb _=>by rw [(hu op hop).2.1] at hb;cases hb),fun i a ha hm => ?_,fun k k1 k2 i a ha hm hf=>(h.knownK k k1 k2 i a (old ha).1 hm hf).app u,h.quiet.app (fun op hop x hx _=>by rw [(hu op hop).2.1] at hx;cases hx),seen_app' (Nat.le_refl _) h.seen fun op hop=>(hu op hop).2.2.1,fun op hop=>(Array.mem_append.1 hop).elim (h.gs op) (fun x=>by rw [(hu op x).1];omega),over_app h.over fun op hop => .inr (.inr (hu op hop).2.1),norel_app h.norel fun op hop=>(hu op hop).2.2.2⟩
  rcases h.known0 i a (old ha).1 hm with q | q | ⟨k',q1,q2,q3,q4⟩
  · exact .inl (q.app u)
  · exact .inr (.inl q)
  · exact .inr (.inr ⟨k',q1,q2,by rw [Go.Conc.g?_old (old ha).2];exact q3,q4⟩)
theorem PT.fresh (h:PT Shun Wg F c j B t) {F':Fam} (hf:F'.fro=F.fro) (ho:∀ k b,F.own k b→F'.own k b) (hn:∀ k b,F'.own k b→F.own k b∨B≤b):PT Shun Wg F' c j B t:=by
  refine ⟨h.clean,fun i a ha hm => ?_,fun k k1 k2 i a ha hm hf' => ?_,h.quiet,h.seen,h.gs,h.over,h.norel⟩
  · rcases h.known0 i a ha hm with q | q | ⟨k,q1,q2,q3,q4,b,q5,q6⟩
    · exact .inl q
    · exact .inr (.inl q)
    · exact .inr (.inr ⟨k,q1,q2,q3,q4,b,q5,q6.imp (ho k b) (fun x=>by rw [hf];exact x)⟩)
  · obtain ⟨b,hb,hf'⟩:=hf'
    rw [hf] at hf'
    rcases hf' with hf' | hf'
    · rcases hn k b hf' with q | q
      · exact h.knownK k k1 k2 i a ha hm ⟨b,hb,.inl q⟩
      · exfalso
        obtain ⟨x,hx,hxa⟩:=touch_of ha
        have hl:=h.seen x (Array.mem_of_getElem? hx)
        have:b < B:=by
          obtain ⟨xg,xf,xp,act⟩:=x
          cases act with
          | access e =>
            simp only [MemAct.touch?,Option.some.injEq] at hxa
            subst hxa
            obtain ⟨l,wr,sy⟩:=e
            cases l<;>simp [blockOf] at hb<;>subst hb<;>simpa [MemAct.low,Loc.low] using hl
          | mark m=>cases m<;>simp [MemAct.touch?] at hxa<;>subst hxa<;>simp [blockOf] at hb<;>subst hb<;>simpa [MemAct.low] using hl
          | _=>simp [MemAct.touch?] at hxa
        omega
    · exact h.knownK k k1 k2 i a ha hm ⟨b,hb,.inr hf'⟩
end
end Go.Id
namespace Go.Id
open Go.Conc
open Go.ConcN (ShN RelBy fork_knows Deaf_absent sumTo upd sumTo_upd upd_ne upd_same)
open Go.ConcR (stA smA mk)
set_option linter.unusedVariables false
section
variable {Shun:Loc→Prop} {Wg:Nat} {F:Fam} {c j B:Nat} {t u:Trace}
theorem PT.fork (h:PT Shun Wg F c j B t) (hc:0 < c) {F':Fam} (A':F'.Ok Shun B) (hf:F'.fro=F.fro) (ho:∀ k b,k < c+j→(F'.own k b↔F.own k b)) {x y:MemOp} (hx:x.g=0∧x.act = .go (c+j)) (hy:y.g=c+j∧y.act = .start) (h0:Deaf t 0=0) :
    PT Shun Wg F' c (j+1) B (t++#[x,y]):=by
  have hk:Deaf t (c+j)=0:=Deaf_absent fun i op hi e=>by have:=h.gs op (Array.mem_of_getElem? hi);omega
  have hnt:∀ op∈#[x,y],op.act.touch? = none:=by
    intro op hop
    simp only [List.mem_toArray,List.mem_cons,List.not_mem_nil,or_false] at hop
    rcases hop with rfl | rfl
    · rw [hx.2];rfl
    · rw [hy.2];rfl
  have old:∀ {i:Nat} {a:Touch},touchAt (t++#[x,y]) i=some a→touchAt t i=some a∧i < t.size:=by
    intro i a ha
    obtain ⟨z,hz,hza⟩:=touch_of ha
    rcases getElem?_append_cases hz with ⟨hi,hz'⟩ | ⟨_,hzu⟩
    · exact ⟨by rw [touchAt_of hz'];exact hza,hi⟩
    · rw [hnt z hzu] at hza;cases hza
  refine ⟨fun said => ?_,fun i a ha hm => ?_,fun k k1 k2 i a ha hm hf' => ?_,h.quiet.app (fun op hop x hx _=>by rw [hnt op hop] at hx;cases hx),seen_app' (Nat.le_refl _) h.seen fun op hop => ?_,fun op hop => ?_,over_app h.over fun op hop => .inr (.inr (hnt op hop)),norel_app h.norel fun op hop => ?_⟩
  · have e:t++#[x,y]=(t++#[x])++#[y]:=by apply Array.ext';simp
    rw [e]
    refine noRace_append (g:=c+j) (noRace_append (g:=0) (h.clean said) (fun op hop=>by simp at hop;rw [hop];exact hx.1) (fun i a _ op hop b hb _ => ?_)) (fun op hop=>by simp at hop;rw [hop];exact hy.1) (fun i a _ op hop b hb _ => ?_)
    · rw [hnt op (by simp at hop ⊢;exact .inl hop)] at hb;cases hb
    · rw [hnt op (by simp at hop ⊢;exact .inr hop)] at hb;cases hb
  · rcases h.known0 i a (old ha).1 hm with q | q | ⟨k,q1,q2,q3,q4,b,q5,q6⟩
    · exact .inl (q.app _)
    · exact .inr (.inl q)
    · exact .inr (.inr ⟨k,q1,by omega,by rw [Go.Conc.g?_old (old ha).2];exact q3,q4,b,q5,q6.imp (ho k b q2).2 (fun z=>by rw [hf];exact z)⟩)
  · obtain ⟨b,hb,hf'⟩:=hf'
    rcases Nat.lt_or_ge k (c+j) with hlt | hge
    · exact (h.knownK k k1 hlt i a (old ha).1 hm ⟨b,hb,hf'.imp (ho k b hlt).1 (fun z=>by rw [← hf];exact z)⟩).app _
    · obtain rfl:k=c+j:=by omega
      rcases h.known0 i a (old ha).1 hm with q | ⟨q,_⟩ | ⟨k,q1,q2,q3,q4,b',q5,q6⟩
      · exact fork_knows hx hy h0 hk q
      · rcases hf' with z | ⟨z,_⟩
        · exact absurd q (A'.osh _ _ b z hb)
        · exact absurd q (A'.fsh _ b z hb)
      · obtain rfl:b=b':=Option.some.inj (hb.symm.trans q5)
        exfalso
        rcases hf' with z | ⟨z,zw⟩
        · rcases q6 with q6 | ⟨q6,_⟩
          · have:=A'.one _ _ b z ((ho k b q2).2 q6);omega
          · exact A'.ofr _ b z (by rw [hf];exact q6)
        · rcases q6 with q6 | ⟨_,q6⟩
          · exact A'.ofr _ b ((ho k b q2).2 q6) z
          · rw [zw] at q6;cases q6
  · simp only [List.mem_toArray,List.mem_cons,List.not_mem_nil,or_false] at hop
    rcases hop with rfl | rfl
    · rw [hx.2];trivial
    · rw [hy.2];trivial
  · rcases Array.mem_append.1 hop with q | q
    · have:=h.gs op q;omega
    · simp only [List.mem_toArray,List.mem_cons,List.not_mem_nil,or_false] at q
      rcases q with rfl | rfl
      · rw [hx.1];omega
      · rw [hy.1];omega
  · simp only [List.mem_toArray,List.mem_cons,List.not_mem_nil,or_false] at hop
    rcases hop with rfl | rfl
    · rw [hx.2];simp
    · rw [hy.2];simp
theorem PT.begin {S:Loc→Prop} (h:Past S Wg t) (hB:Wg≤B) (hg:∀ op∈t,op.g < c) (hF:∀ k b,¬ F.own k b):PT (fun l=>S l∨ShN Wg l) Wg F c 0 B t:=by
  have hlow:∀ i a,touchAt t i=some a→¬ ShN Wg a.loc:=by
    rintro i a ha ⟨ad,hl,hb⟩
    obtain ⟨x,hx,hxa⟩:=touch_of ha
    have hl':=h.seen x (Array.mem_of_getElem? hx)
    obtain ⟨xg,xf,xp,act⟩:=x
    cases act with
    | access e =>
      simp only [MemAct.touch?,Option.some.injEq] at hxa
      subst hxa
      obtain ⟨l,wr,sy⟩:=e
      simp only at hl
      subst hl
      simp [MemAct.low,Loc.low] at hl'
      omega
    | mark m=>cases m<;>simp [MemAct.touch?] at hxa<;>subst hxa<;>simp at hl<;>subst hl<;>simp [MemAct.low] at hl'<;>omega
    | _=>simp [MemAct.touch?] at hxa
  refine ⟨h.clean,fun i a ha hm => ?_,fun k k1 k2=>by omega,fun i op x hi hx hs => ?_,fun op hop=>MemAct.low_mono hB (h.seen op hop),fun op hop=>by have:=hg op hop;omega,fun i g hgi hne _ hcn=>h.over i g hgi hne hcn,fun i hi => ?_⟩
  · rcases h.known i a ha hm with q | ⟨q1,q2⟩
    · exact .inl q
    · exact .inr (.inl ⟨.inl q1,q2⟩)
  · exact absurd hs (hlow i x (by rw [touchAt_of hi];exact hx))
  · obtain ⟨op,ho,hoa⟩:=Option.map_eq_some_iff.1 hi
    have:=h.seen op (Array.mem_of_getElem? ho)
    rw [hoa] at this
    simp [MemAct.low,stA] at this
theorem PT.end (h:PT Shun Wg F c j B t) (h0:Deaf t 0=0) {q:Nat} (hq:t.act? q=some (.mark (.acquire (stA Wg)))) (hg:t.g? q=some 0) (hh:t.heard q) (hr:∀ i,i < j→∃ r,RelBy (stA Wg) t (c+i) r∧r < q):Past Shun B t:=by
  have key:∀ k,c≤k→k < c+j→∀ i,t.g? i=some k→t.counts i→HappensBefore t i q:=by
    intro k k1 k2 i hgi hc
    obtain ⟨r,hr,hrq⟩:=hr (k - c) (by omega)
    rw [show c+(k - c)=k by omega] at hr
    have edge:HappensBefore t r q := .single (.inr ⟨.marked hrq (.inr hr.act) hq (fun k _ _=>h.norel k),hr.heard,hh⟩)
    have hle:i≤r:=Nat.le_of_not_lt fun hlt=>hr.after i hlt hgi hc
    rcases Nat.lt_or_ge i r with hlt | hge
    · exact .trans (.single (.inl ⟨hlt,k,hgi,hr.g⟩)) edge
    · obtain rfl:i=r:=by omega
      exact edge
  obtain ⟨z,hz,hzg⟩:=Option.map_eq_some_iff.1 hg
  refine ⟨h.clean,fun i a ha hm => ?_,fun i g hgi hne hc => ?_,h0,h.seen⟩
  · rcases h.known0 i a ha hm with x | x | ⟨k,k1,k2,k3,k4,k5⟩
    · exact .inl x
    · exact .inr x
    · exact .inl ⟨q,z,hz,hzg,.inr (key k k1 k2 i k3 ⟨a,ha,hm,.inl k4⟩)⟩
  · rcases Nat.lt_or_ge g c with hlt | hge
    · exact h.over i g hgi hne hlt hc
    · obtain ⟨op,ho,hog⟩:=Option.map_eq_some_iff.1 hgi
      have:=h.gs op (Array.mem_of_getElem? ho)
      exact ⟨q,hg,key g hge (by omega) i hgi hc⟩
end
end Go.Id
namespace Go.Id
open Go.Conc
open Go.ConcN (ShN RelBy WgLive PayAt Has RW DWs AtD4 AtD3 AtD2 AtD1 AtK1 AtR0 sumTo upd sumTo_upd upd_ne upd_same)
open Go.ConcR (KK wgBlock WgAt stA smA rd wr mk Payload Aside2 DC0)
set_option linter.unusedVariables false
variable [Payload]
structure Ph where
  P:Program
  ty:TypeId
  Wg:Nat
  Ch:Nat
  fro:Nat→Prop
  n:Nat
  Res:Nat→Value→(Nat→Prop)→World→Prop
section
variable (Y:Ph)
def AtRr (C pn:Nat) (g:Goroutine) (w:World):Prop :=
  g.status = .running∧∃ g',stepG Y.P false g w = .go g' w #[mk (.releaseMerge (stA Y.Wg))]∧∃ m,Goes Y.P false (RW Y.ty Y.Wg C pn 0 0) DC0 (AtK1 Y.P Y.ty Y.Wg C pn 0 1) m g' w
def AtSend (i:Nat) (O:Nat→Prop) (g:Goroutine) (w:World):Prop :=
  g.status = .running∧∃ (v z:Value) (g₂:Goroutine) (C pn:Nat) (x:Value),O C∧Has C 0 x w∧Y.Res i v O w∧stepG Y.P false g w = .comm g₂ #[Go.Conc.scase Y.Ch v z] true .send w #[] ∧
    ∀ w',WgLive Y.ty Y.Wg w'→Has C 0 x w'→∃ m,Goes Y.P false (RW Y.ty Y.Wg C pn 0 0) DC0 (AtRr Y C pn) m (g₂.finishComm Y.P #[Go.Conc.scase Y.Ch v z] .send 0 undef false) w'
inductive WS (i:Nat):Nat→Rk→Nat→Nat→(Nat→Prop)→Goroutine→World→Prop
  | work {ρ:Rk} {O:Nat→Prop} {g:Goroutine} {w:World}:GTr Y.P false Y.fro (AtSend Y i) ρ O g w→WS i 8 ρ 0 0 O g w
  | r0 {ρ:Rk} {O:Nat→Prop} {g:Goroutine} {w:World} {m C pn:Nat}:O C→Goes Y.P false (RW Y.ty Y.Wg C pn 0 0) DC0 (AtRr Y C pn) m g w→WS i 7 ρ m 0 O g w
  | k1 {ρ:Rk} {O:Nat→Prop} {g:Goroutine} {w:World} {m C pn:Nat}:O C→Goes Y.P false (RW Y.ty Y.Wg C pn 0 0) DC0 (AtK1 Y.P Y.ty Y.Wg C pn 0 1) m g w→WS i 6 ρ m 0 O g w
  | d1 {ρ:Rk} {O:Nat→Prop} {g:Goroutine} {w:World} {m C pn:Nat}:O C→Goes Y.P false (RW Y.ty Y.Wg C pn 0 0) DC0 (AtD1 Y.P Y.ty Y.Wg C pn 0 1) m g w→WS i 5 ρ m 1 O g w
  | d2 {ρ:Rk} {O:Nat→Prop} {g:Goroutine} {w:World} {m C pn:Nat}:O C→Goes Y.P false (RW Y.ty Y.Wg C pn 0 0) DC0 (AtD2 Y.P Y.ty Y.Wg C pn 0 1) m g w→WS i 4 ρ m 1 O g w
  | d3 {ρ:Rk} {O:Nat→Prop} {g:Goroutine} {w:World} {m C pn:Nat}:O C→Goes Y.P false (RW Y.ty Y.Wg C pn 0 0) DC0 (AtD3 Y.P Y.ty Y.Wg C pn 0 1) m g w→WS i 3 ρ m 1 O g w
  | d4 {ρ:Rk} {O:Nat→Prop} {g:Goroutine} {w:World} {m C pn:Nat}:O C→Goes Y.P false (RW Y.ty Y.Wg C pn 0 0) DC0 (AtD4 Y.P Y.ty Y.Wg) m g w→WS i 2 ρ m 1 O g w
  | quit {ρ:Rk} {O:Nat→Prop} {g:Goroutine} {w:World} {q d:Nat}:QuitsD Y.P q d g→WS i 1 ρ q d O g w
def RS (O:Nat→Prop) (w w₁:World):Prop:=Rly Y.fro O w w₁∧(WgLive Y.ty Y.Wg w→WgLive Y.ty Y.Wg w₁)
section
variable (O:Nat→Prop)
variable (Fin:(Nat→Prop)→Goroutine→World→Prop)
def AtAcq (g:Goroutine) (w:World):Prop :=
  g.status = .running∧∃ g',stepG Y.P true g w = .go g' w #[mk (.acquire (stA Y.Wg))]∧Fin O g' w
def AtKe (g:Goroutine) (w:World):Prop :=
  g.status = .running∧∃ g',stepG Y.P true g w = .go g' w #[mk .enable]∧∃ m,Goes Y.P true (RS Y O) DC0 (AtAcq Y O Fin) m g' w
def AtW4 (g:Goroutine) (w:World):Prop :=
  g.status = .running∧(WgAt Y.ty Y.Wg w 0 0→∃ g',stepG Y.P true g w = .go g' w #[rd (stA Y.Wg)]∧∃ m,Goes Y.P true (RS Y O) DC0 (AtKe Y O Fin) m g' w)
def AtW3 (g:Goroutine) (w:World):Prop :=
  g.status = .running∧g.offers=none ∧
    ((∃ st,WgAt Y.ty Y.Wg w st 0)→stepG Y.P true g w = .go { g with status := .blocked } w #[]) ∧
    (WgAt Y.ty Y.Wg w 0 1→∃ g',stepG Y.P true g w = .go g' (w.setCell (smA Y.Wg) (.int .u32 0)) (semEvents (smA Y.Wg))∧∃ m,Goes Y.P true (RS Y O) DC0 (AtW4 Y O Fin) m g' (w.setCell (smA Y.Wg) (.int .u32 0)))
def AtSw (g:Goroutine) (w:World):Prop :=
  g.status = .running∧∃ g',stepG Y.P true g w = .go g' w #[mk (.write (smA Y.Wg))]∧∃ m,Goes Y.P true (RS Y O) DC0 (AtW3 Y O Fin) m g' w
def AtW2 (Anch:Goroutine→World→Prop) (vs:Nat) (g:Goroutine) (w:World):Prop :=
  g.status = .running∧∀ v:Nat,v < 2147483648→WgAt Y.ty Y.Wg w (v*KK) 0 →
    (v=vs→∃ g',stepG Y.P true g w = .go g' (w.setCell (stA Y.Wg) (.int .u64 (v*KK+1))) #[rd (stA Y.Wg),wr (stA Y.Wg)]∧∃ m,Goes Y.P true (RS Y O) DC0 (AtSw Y O Fin) m g' (w.setCell (stA Y.Wg) (.int .u64 (v*KK+1)))) ∧
    (v≠vs→∃ g',stepG Y.P true g w = .go g' w #[rd (stA Y.Wg)]∧∃ m,Goes Y.P true (RS Y O) DC0 Anch m g' w)
def AtW1 (Anch:Goroutine→World→Prop) (g:Goroutine) (w:World):Prop :=
  g.status = .running∧∀ v:Nat,v < 2147483648→WgAt Y.ty Y.Wg w (v*KK) 0→∃ g',stepG Y.P true g w = .go g' w #[rd (stA Y.Wg)] ∧
    (v=0→∃ m,Goes Y.P true (RS Y O) DC0 (AtKe Y O Fin) m g' w)∧(v≠0→∃ m,Goes Y.P true (RS Y O) DC0 (AtW2 Y O Fin Anch v) m g' w)
def AtKd (Anch:Goroutine→World→Prop) (g:Goroutine) (w:World):Prop :=
  g.status = .running∧∃ g',stepG Y.P true g w = .go g' w #[mk .disable]∧∃ m,Goes Y.P true (RS Y O) DC0 Anch m g' w
end
def AtWait (Fin:(Nat→Prop)→Goroutine→World→Prop) (O:Nat→Prop) (g:Goroutine) (w:World):Prop :=
  WgLive Y.ty Y.Wg w→∃ Anch:Goroutine→World→Prop,(∀ g w,Anch g w→g.status = .running)∧(∀ g w,Anch g w→∃ m,Goes Y.P true (RS Y O) DC0 (AtW1 Y O Fin Anch) m g w)∧∃ m,Goes Y.P true (RS Y O) DC0 (AtKd Y O Anch) m g w
section
variable (i:Nat) (Next:(Nat→Prop)→Goroutine→World→Prop)
def AtGo (O:Nat→Prop) (g:Goroutine) (w:World):Prop :=
  g.status = .running∧∃ (g' child:Goroutine) (n:Nat→Prop),stepG Y.P true g w = .spawn g' child w #[]∧child.status = .running∧(∀ b,n b→O b)∧(∃ ρ,GTr Y.P false Y.fro (AtSend Y i) ρ n child w)∧∃ ρ,GTr Y.P true Y.fro Next ρ (fun b=>O b∧¬ n b) g' w
variable (O:Nat→Prop)
def AtKeS (g:Goroutine) (w:World):Prop :=
  g.status = .running∧∃ g',stepG Y.P true g w = .go g' w #[mk .enable]∧∃ ρ,GTr Y.P true Y.fro (AtGo Y i Next) ρ O g' w
def AtSr (g:Goroutine) (w:World):Prop :=
  g.status = .running∧∃ g',stepG Y.P true g w = .go g' w #[mk (.read (smA Y.Wg))]∧∃ m,Goes Y.P true (RS Y O) DC0 (AtKeS Y i Next O) m g' w
def AtA1 (g:Goroutine) (w:World):Prop :=
  g.status = .running∧∀ v:Nat,v < 2147483647→WgAt Y.ty Y.Wg w (v*KK) 0 →
    ∃ g',stepG Y.P true g w = .go g' (w.setCell (stA Y.Wg) (.int .u64 ((v+1)*KK))) #[rd (stA Y.Wg),wr (stA Y.Wg)] ∧
      (v=0→∃ m,Goes Y.P true (RS Y O) DC0 (AtSr Y i Next O) m g' (w.setCell (stA Y.Wg) (.int .u64 ((v+1)*KK))))∧(v≠0→∃ m,Goes Y.P true (RS Y O) DC0 (AtKeS Y i Next O) m g' (w.setCell (stA Y.Wg) (.int .u64 ((v+1)*KK))))
def AtKdS (g:Goroutine) (w:World):Prop :=
  g.status = .running∧∃ g',stepG Y.P true g w = .go g' w #[mk .disable]∧∃ m,Goes Y.P true (RS Y O) DC0 (AtA1 Y i Next O) m g' w
end
def AtAdd (i:Nat) (Next:(Nat→Prop)→Goroutine→World→Prop) (O:Nat→Prop) (g:Goroutine) (w:World):Prop :=
  WgLive Y.ty Y.Wg w→∃ m,Goes Y.P true (RS Y O) DC0 (AtKdS Y i Next O) m g w
def Starts (Fin:(Nat→Prop)→Goroutine→World→Prop):Nat→(Nat→Prop)→Goroutine→World→Prop
  | 0,O,g,w=>AtWait Y Fin O g w
  | r+1,O,g,w=>AtAdd Y (Y.n - (r+1)) (Starts Fin r) O g w
end
end Go.Id
namespace Go.Id
open Go.Conc
open Go.ConcN (ShN RelBy WgLive PayAt Has RW DWs AtD4 AtD3 AtD2 AtD1 AtK1 AtR0 sumTo upd sumTo_upd upd_ne upd_same)
open Go.ConcR (KK wgBlock WgAt stA smA rd wr mk Payload Aside2 DC0)
set_option linter.unusedVariables false
structure Turns (T:Nat→Prop) (w w':World):Prop where
  size:w.heap.size≤w'.heap.size
  keep:∀ b,b < w.heap.size→¬ T b→w'.heap[b]? = w.heap[b]?
  os:w'.os=w.os
  out:w'.output=w.output
theorem Turns.refl (T:Nat→Prop) (w:World):Turns T w w:=⟨Nat.le_refl _,fun _ _ _=>rfl,rfl,rfl⟩
theorem Turns.of_guar {N0:Nat→Prop} {O:Nat→Prop} {w w':World} {es:Array Event} (h:Guar N0 O w w' es):Turns O w w':=⟨h.size,h.keep,h.os,h.out⟩
theorem Turns.rly {T N0 O:Nat→Prop} {w w':World} (h:Turns T w w') (h1:∀ b,T b→¬ N0 b) (h2:∀ b,T b→¬ O b):Rly N0 O w w' :=
  ⟨h.size,fun b hb ho=>h.keep b hb fun ht=>ho.elim (h1 b ht) (h2 b ht),h.os,h.out⟩
theorem Turns.of_aside {b:Nat} {w w':World} (h:Aside b w w'):Turns (fun x=>x=b) w w':=⟨Nat.le_of_eq h.size.symm,fun x _ hx=>h.block x hx,h.os,h.output⟩
set_option linter.unusedSectionVars false
section
variable [Payload] {Y:Ph}
theorem live_of {ty:TypeId} {Wg:Nat} {T:Nat→Prop} {w w':World} (h:Turns T w w') (hT:¬ T Wg) (hl:WgLive ty Wg w):WgLive ty Wg w':=by
  obtain ⟨st,sm,hl⟩:=hl
  have hlt:Wg < w.heap.size:=(Array.getElem?_eq_some_iff.1 hl).1
  exact ⟨st,sm,(h.keep Wg hlt hT).trans hl⟩
theorem at_of {ty:TypeId} {Wg:Nat} {T:Nat→Prop} {w w':World} (h:Turns T w w') (hT:¬ T Wg) {st sm:Int} (hl:WgAt ty Wg w st sm):WgAt ty Wg w' st sm:=by
  have hlt:Wg < w.heap.size:=(Array.getElem?_eq_some_iff.1 hl).1
  exact (h.keep Wg hlt hT).trans hl
theorem rw_of {ty:TypeId} {Wg C pn:Nat} {w w':World} (hC:w'.heap[C]? = w.heap[C]?) (hl:WgLive ty Wg w→WgLive ty Wg w'):RW ty Wg C pn 0 0 w w' :=
  ⟨fun b hb=>by omega,hl,fun ⟨cs,hc,hn⟩=>⟨cs,hC.trans hc,hn⟩,by simp [World.cell?,hC]⟩
theorem WS.rely {i s m d:Nat} {ρ:Rk} {O:Nat→Prop} {g:Goroutine} {w w':World} (h:WS Y i s ρ m d O g w) (hr:Rly Y.fro O w w') (hO:∀ b,O b→b < w.heap.size) (hl:WgLive Y.ty Y.Wg w→WgLive Y.ty Y.Wg w'):WS Y i s ρ m d O g w':=by
  have tr:∀ C pn a b c,RW Y.ty Y.Wg C pn 0 0 a b→RW Y.ty Y.Wg C pn 0 0 b c→RW Y.ty Y.Wg C pn 0 0 a c:=fun _ _ _ _ _ h1 h2=>h1.trans h2
  have hc:∀ C,O C→w'.heap[C]? = w.heap[C]? := fun C ho=>hr.2.1 C (hO C ho) (.inr ho)
  cases h with
  | work h=>exact .work (h.rely hr)
  | r0 ho h=>exact .r0 ho (Goes.rely (tr _ _) h (rw_of (hc _ ho) hl))
  | k1 ho h=>exact .k1 ho (Goes.rely (tr _ _) h (rw_of (hc _ ho) hl))
  | d1 ho h=>exact .d1 ho (Goes.rely (tr _ _) h (rw_of (hc _ ho) hl))
  | d2 ho h=>exact .d2 ho (Goes.rely (tr _ _) h (rw_of (hc _ ho) hl))
  | d3 ho h=>exact .d3 ho (Goes.rely (tr _ _) h (rw_of (hc _ ho) hl))
  | d4 ho h=>exact .d4 ho (Goes.rely (tr _ _) h (rw_of (hc _ ho) hl))
  | quit h=>exact .quit h
theorem GTr.running {P:Program} {main:Bool} {N0:Nat→Prop} {Stop:(Nat→Prop)→Goroutine→World→Prop} {ρ:Rk} {O:Nat→Prop} {g:Goroutine} {w:World} (h:GTr P main N0 Stop ρ O g w) (hS:∀ O g w,Stop O g w→g.status = .running):g.status = .running:=by
  cases ρ with
  | mk ι f=>exact h.elim (fun x=>hS _ _ _ (x w (Rly.refl _ _ _))) (·.1)
theorem WS.status {i s m d:Nat} {ρ:Rk} {O:Nat→Prop} {g:Goroutine} {w:World} (h:WS Y i s ρ m d O g w):g.status = .running∨g.status = .finished:=by
  cases h with
  | work h=>exact .inl (h.running fun O g w x=>x.1)
  | r0 ho h=>exact .inl (Goes.running (fun _ _ x=>x.1) w (RW.refl w) h)
  | k1 ho h=>exact .inl (Goes.running (fun _ _ x=>x.1) w (RW.refl w) h)
  | d1 ho h=>exact .inl (Goes.running (fun _ _ x=>x.1) w (RW.refl w) h)
  | d2 ho h=>exact .inl (Goes.running (fun _ _ x=>x.1) w (RW.refl w) h)
  | d3 ho h=>exact .inl (Goes.running (fun _ _ x=>x.1) w (RW.refl w) h)
  | d4 ho h=>exact .inl (Goes.running (fun _ _ x=>x.1) w (RW.refl w) h)
  | quit h=>exact h.status
theorem WS.running {i s m d:Nat} {ρ:Rk} {O:Nat→Prop} {g:Goroutine} {w:World} (h:WS Y i s ρ m d O g w) (hs:s≠1):g.status = .running:=by
  cases h with
  | work h=>exact h.running fun O g w x=>x.1
  | r0 ho h=>exact Goes.running (fun _ _ x=>x.1) w (RW.refl w) h
  | k1 ho h=>exact Goes.running (fun _ _ x=>x.1) w (RW.refl w) h
  | d1 ho h=>exact Goes.running (fun _ _ x=>x.1) w (RW.refl w) h
  | d2 ho h=>exact Goes.running (fun _ _ x=>x.1) w (RW.refl w) h
  | d3 ho h=>exact Goes.running (fun _ _ x=>x.1) w (RW.refl w) h
  | d4 ho h=>exact Goes.running (fun _ _ x=>x.1) w (RW.refl w) h
  | quit h=>exact absurd rfl hs
theorem WS.woken {i s m d:Nat} {ρ:Rk} {O:Nat→Prop} {g:Goroutine} {w:World} (h:WS Y i s ρ m d O g w) (a a':Goroutine) (w':World):woken Y.P a a' w' g=g:=by
  unfold Go.Conc.woken
  split
  · exact again_running _ h.status
  · rfl
inductive Tg where
  | sp (r s:Nat) | kd0 | kd | anch | w1 | w2 (vs:Nat) | sw | w3 | blk | w4 | ke | acq
def phi (n v:Nat):Tg→Nat
  | .sp r s=>8*n+16+16*r+s
  | .kd0=>8*n+8
  | .kd=>8*n+7
  | .anch=>8*v+6
  | .w1=>8*v+5
  | .w2 vs=>8*vs+4
  | .sw=>6
  | .w3=>5
  | .blk=>5
  | .w4=>4
  | .ke=>3
  | .acq=>2
theorem RS.trans {O:Nat→Prop} {a b c:World} (h:RS Y O a b) (h':RS Y O b c):RS Y O a c:=⟨h.1.trans h'.1,h'.2 ∘ h.2⟩
theorem RS.refl (O:Nat→Prop) (w:World):RS Y O w w:=⟨Rly.refl _ _ _,id⟩
section
variable (Y) (Fin:(Nat→Prop)→Goroutine→World→Prop)
def AncOk (O:Nat→Prop) (Anch:Goroutine→World→Prop):Prop:=(∀ g w,Anch g w→g.status = .running)∧∀ g w,Anch g w→∃ m,Goes Y.P true (RS Y O) DC0 (AtW1 Y O Fin Anch) m g w
inductive CS:Tg→Nat→Rk→Nat→Nat→(Nat→Prop)→Goroutine→World→Prop
  | spt {r:Nat} {ρ:Rk} {O:Nat→Prop} {g:Goroutine} {w:World}:r < Y.n→GTr Y.P true Y.fro (AtAdd Y (Y.n - (r+1)) (Starts Y Fin r)) ρ O g w→CS (.sp r 6) (Y.n - (r+1)) ρ 0 0 O g w
  | skd {r m:Nat} {ρ:Rk} {O:Nat→Prop} {g:Goroutine} {w:World}:r < Y.n→Goes Y.P true (RS Y O) DC0 (AtKdS Y (Y.n - (r+1)) (Starts Y Fin r) O) m g w→CS (.sp r 5) (Y.n - (r+1)) ρ m 0 O g w
  | sa1 {r m:Nat} {ρ:Rk} {O:Nat→Prop} {g:Goroutine} {w:World}:r < Y.n→Goes Y.P true (RS Y O) DC0 (AtA1 Y (Y.n - (r+1)) (Starts Y Fin r) O) m g w→CS (.sp r 4) (Y.n - (r+1)) ρ m 1 O g w
  | ssr {r m:Nat} {ρ:Rk} {O:Nat→Prop} {g:Goroutine} {w:World}:r < Y.n→Goes Y.P true (RS Y O) DC0 (AtSr Y (Y.n - (r+1)) (Starts Y Fin r) O) m g w→CS (.sp r 3) (Y.n - (r+1)) ρ m 1 O g w
  | ske {r m:Nat} {ρ:Rk} {O:Nat→Prop} {g:Goroutine} {w:World}:r < Y.n→Goes Y.P true (RS Y O) DC0 (AtKeS Y (Y.n - (r+1)) (Starts Y Fin r) O) m g w→CS (.sp r 2) (Y.n - (r+1)) ρ m 1 O g w
  | sgo {r:Nat} {ρ:Rk} {O:Nat→Prop} {g:Goroutine} {w:World}:r < Y.n→GTr Y.P true Y.fro (AtGo Y (Y.n - (r+1)) (Starts Y Fin r)) ρ O g w→CS (.sp r 1) (Y.n - (r+1)) ρ 0 0 O g w
  | kd0 {ρ:Rk} {O:Nat→Prop} {g:Goroutine} {w:World}:GTr Y.P true Y.fro (AtWait Y Fin) ρ O g w→CS .kd0 Y.n ρ 0 0 O g w
  | kd {m:Nat} {ρ:Rk} {O:Nat→Prop} {Anch:Goroutine→World→Prop} {g:Goroutine} {w:World}:AncOk Y Fin O Anch→Goes Y.P true (RS Y O) DC0 (AtKd Y O Anch) m g w→CS .kd Y.n ρ m 0 O g w
  | anch {m:Nat} {ρ:Rk} {O:Nat→Prop} {Anch:Goroutine→World→Prop} {g:Goroutine} {w:World}:AncOk Y Fin O Anch→Goes Y.P true (RS Y O) DC0 Anch m g w→CS .anch Y.n ρ m 1 O g w
  | w1 {m:Nat} {ρ:Rk} {O:Nat→Prop} {Anch:Goroutine→World→Prop} {g:Goroutine} {w:World}:AncOk Y Fin O Anch→Goes Y.P true (RS Y O) DC0 (AtW1 Y O Fin Anch) m g w→CS .w1 Y.n ρ m 1 O g w
  | w2 {vs m:Nat} {ρ:Rk} {O:Nat→Prop} {Anch:Goroutine→World→Prop} {g:Goroutine} {w:World}:AncOk Y Fin O Anch→Goes Y.P true (RS Y O) DC0 (AtW2 Y O Fin Anch vs) m g w→CS (.w2 vs) Y.n ρ m 1 O g w
  | sw {m:Nat} {ρ:Rk} {O:Nat→Prop} {g:Goroutine} {w:World}:Goes Y.P true (RS Y O) DC0 (AtSw Y O Fin) m g w→CS .sw Y.n ρ m 1 O g w
  | w3 {m:Nat} {ρ:Rk} {O:Nat→Prop} {g:Goroutine} {w:World}:Goes Y.P true (RS Y O) DC0 (AtW3 Y O Fin) m g w→CS .w3 Y.n ρ (m+1) 1 O g w
  | blk {ρ:Rk} {O:Nat→Prop} {g:Goroutine} {w:World}:(∀ w₁,RS Y O w w₁→AtW3 Y O Fin g w₁)→CS .blk Y.n ρ 0 1 O { g with status := .blocked } w
  | w4 {m:Nat} {ρ:Rk} {O:Nat→Prop} {g:Goroutine} {w:World}:Goes Y.P true (RS Y O) DC0 (AtW4 Y O Fin) m g w→CS .w4 Y.n ρ m 1 O g w
  | ke {m:Nat} {ρ:Rk} {O:Nat→Prop} {g:Goroutine} {w:World}:Goes Y.P true (RS Y O) DC0 (AtKe Y O Fin) m g w→CS .ke Y.n ρ m 1 O g w
  | acq {m:Nat} {ρ:Rk} {O:Nat→Prop} {g:Goroutine} {w:World}:Goes Y.P true (RS Y O) DC0 (AtAcq Y O Fin) m g w→CS .acq Y.n ρ m 0 O g w
end
section
variable {Fin:(Nat→Prop)→Goroutine→World→Prop} {tag:Tg} {j m d:Nat} {ρ:Rk} {O:Nat→Prop} {g:Goroutine} {w w':World}
theorem CS.rely (h:CS Y Fin tag j ρ m d O g w) (hr:RS Y O w w'):CS Y Fin tag j ρ m d O g w':=by
  have tr:∀ a b c,RS Y O a b→RS Y O b c→RS Y O a c:=fun _ _ _ h1 h2=>h1.trans h2
  cases h with
  | spt h1 h=>exact .spt h1 (h.rely hr.1)
  | skd h1 h=>exact .skd h1 (Goes.rely tr h hr)
  | sa1 h1 h=>exact .sa1 h1 (Goes.rely tr h hr)
  | ssr h1 h=>exact .ssr h1 (Goes.rely tr h hr)
  | ske h1 h=>exact .ske h1 (Goes.rely tr h hr)
  | sgo h1 h=>exact .sgo h1 (h.rely hr.1)
  | kd0 h=>exact .kd0 (h.rely hr.1)
  | kd h1 h=>exact .kd h1 (Goes.rely tr h hr)
  | anch h1 h=>exact .anch h1 (Goes.rely tr h hr)
  | w1 h1 h=>exact .w1 h1 (Goes.rely tr h hr)
  | w2 h1 h=>exact .w2 h1 (Goes.rely tr h hr)
  | sw h=>exact .sw (Goes.rely tr h hr)
  | w3 h=>exact .w3 (Goes.rely tr h hr)
  | blk h=>exact .blk fun w₁ h₁=>h w₁ (hr.trans h₁)
  | w4 h=>exact .w4 (Goes.rely tr h hr)
  | ke h=>exact .ke (Goes.rely tr h hr)
  | acq h=>exact .acq (Goes.rely tr h hr)
theorem CS.status (hl:WgLive Y.ty Y.Wg w) (h:CS Y Fin tag j ρ m d O g w):g.status = .running∨(g.status = .blocked∧tag = .blk):=by
  have atree:∀ (i r:Nat),GTr Y.P true Y.fro (AtAdd Y i (Starts Y Fin r)) ρ O g w→g.status = .running:=fun i r h=>by
    cases ρ with
    | mk ι f =>
      rcases h with h | h
      · obtain ⟨m,hm⟩:=h w (Rly.refl _ _ _) hl
        exact Goes.running (fun _ _ x=>x.1) w (RS.refl O w) hm
      · exact h.1
  have wtree:GTr Y.P true Y.fro (AtWait Y Fin) ρ O g w→g.status = .running:=fun h=>by
    cases ρ with
    | mk ι f =>
      rcases h with h | h
      · obtain ⟨A,_,_,m,hm⟩:=h w (Rly.refl _ _ _) hl
        exact Goes.running (fun _ _ x=>x.1) w (RS.refl O w) hm
      · exact h.1
  cases h with
  | spt h1 h=>exact .inl (atree _ _ h)
  | skd h1 h=>exact .inl (Goes.running (fun _ _ x=>x.1) w (RS.refl O w) h)
  | sa1 h1 h=>exact .inl (Goes.running (fun _ _ x=>x.1) w (RS.refl O w) h)
  | ssr h1 h=>exact .inl (Goes.running (fun _ _ x=>x.1) w (RS.refl O w) h)
  | ske h1 h=>exact .inl (Goes.running (fun _ _ x=>x.1) w (RS.refl O w) h)
  | sgo h1 h=>exact .inl (h.running fun O g w x=>x.1)
  | kd0 h=>exact .inl (wtree h)
  | kd h1 h=>exact .inl (Goes.running (fun _ _ x=>x.1) w (RS.refl O w) h)
  | anch h1 h=>exact .inl (Goes.running (fun _ _ x=>h1.1 _ _ x) w (RS.refl O w) h)
  | w1 h1 h=>exact .inl (Goes.running (fun _ _ x=>x.1) w (RS.refl O w) h)
  | w2 h1 h=>exact .inl (Goes.running (fun _ _ x=>x.1) w (RS.refl O w) h)
  | sw h=>exact .inl (Goes.running (fun _ _ x=>x.1) w (RS.refl O w) h)
  | w3 h=>exact .inl (Goes.running (fun _ _ x=>x.1) w (RS.refl O w) h)
  | blk h=>exact .inr ⟨rfl,rfl⟩
  | w4 h=>exact .inl (Goes.running (fun _ _ x=>x.1) w (RS.refl O w) h)
  | ke h=>exact .inl (Goes.running (fun _ _ x=>x.1) w (RS.refl O w) h)
  | acq h=>exact .inl (Goes.running (fun _ _ x=>x.1) w (RS.refl O w) h)
end
end
end Go.Id
namespace Go.Id
open Go.Conc
open Go.ConcN (ShN RelBy WgLive PayAt Has RW DWs AtD4 AtD3 AtD2 AtD1 AtK1 AtR0 sumTo upd sumTo_upd upd_ne upd_same)
open Go.ConcR (KK wgBlock WgAt stA smA rd wr mk Payload Aside2 DC0)
set_option linter.unusedVariables false
set_option linter.unusedSectionVars false
structure WX where
  stage:Nat
  rank:Rk
  fuel:Nat
  deaf:Nat
  own:Nat→Prop
def updX (D:Nat→WX) (i:Nat) (x:WX):Nat→WX:=fun a=>if a=i then x else D a
theorem updX_same (D:Nat→WX) (i:Nat) (x:WX):updX D i x i=x:=by simp [updX]
theorem updX_ne (D:Nat→WX) {i a:Nat} (x:WX) (h:a≠i):updX D i x a=D a:=by simp [updX,h]
variable [Payload]
def famOf (Y:Ph) (c j:Nat) (D:Nat→WX):Fam:=⟨fun k b=>c≤k∧k < c+j∧(D (k - c)).own b,Y.fro⟩
def CO (Y:Ph) (j:Nat) (D:Nat→WX) (w:World):Prop :=
  ∃ (buf:Array Value) (s:Nat) (L:List Nat),w.heap[Y.Ch]? = some (.chan Y.n buf false s 0 false)∧L.length=buf.size∧L.Nodup∧(∀ i,i∈L↔i < j∧(D i).stage≤7)∧∀ (p i:Nat) (v:Value),L[p]? = some i→buf[p]? = some v→Y.Res i v (D i).own w
structure Com (Y:Ph) (Shun:Loc→Prop) (c j:Nat) (gs:Array Goroutine) (w:World) (t:Trace) (D:Nat→WX) (d0:Nat) (O0:Nat→Prop) (q:Nat→Nat):Prop where
  c0:0 < c
  size:gs.size=c+j
  old:∀ i g,0 < i→i < c→gs[i]? = some g→QuitsD Y.P (q i) (Deaf t i) g
  wk:∀ i,i < j→∃ g,gs[c+i]? = some g∧WS Y i (D i).stage (D i).rank (D i).fuel (D i).deaf (D i).own g w
  pt:PT Shun Y.Wg (famOf Y c j D) c j w.heap.size t
  fam:(famOf Y c j D).Ok Shun w.heap.size
  shW:∀ l,ShN Y.Wg l→Shun l
  shO:∀ l b,Shun l→blockOf l=some b→¬ O0 b
  shL:∀ l b,Shun l→blockOf l=some b→b < w.heap.size
  own0:∀ b,O0 b→b < w.heap.size∧¬ Y.fro b∧b≠Y.Ch∧∀ i,i < j→¬ (D i).own b
  ownW:∀ i,i < j→∀ b,(D i).own b→b≠Y.Ch
  fro:∀ b,Y.fro b→b < w.heap.size∧b≠Y.Ch
  wgl:Y.Wg < w.heap.size∧Y.Wg≠Y.Ch
  deaf0:Deaf t 0=d0
  deafW:∀ i,i < j→Deaf t (c+i)=(D i).deaf
  rel:∀ i,i < j→(D i).stage≤6→∃ r,RelBy (stA Y.Wg) t (c+i) r
  chan:CO Y j D w
structure PhOk (Y:Ph):Prop where
  res:∀ i v O w w',Y.Res i v O w→Rly Y.fro O w w'→Y.Res i v O w'
section
variable {Y:Ph} {Shun:Loc→Prop} {c j:Nat} {gs gs':Array Goroutine} {w w':World} {t u:Trace} {D:Nat→WX} {d0:Nat} {O0:Nat→Prop} {q:Nat→Nat}
theorem sh_wg {Wg:Nat}:ShN Wg (.cell ⟨Wg,0,none⟩):=⟨_,rfl,rfl⟩
theorem Com.ownWg (h:Com Y Shun c j gs w t D d0 O0 q) {i:Nat} (hi:i < j):¬ (D i).own Y.Wg:=fun ho =>
  h.fam.osh (c+i) _ Y.Wg ⟨by omega,by omega,by rw [show c+i - c=i by omega];exact ho⟩ rfl (h.shW _ sh_wg)
theorem Com.own_one (h:Com Y Shun c j gs w t D d0 O0 q) {i k b:Nat} (hi:i < j) (hk:k < j) (h1:(D i).own b) (h2:(D k).own b):i=k:=by
  have:=h.fam.one (c+i) (c+k) b ⟨by omega,by omega,by rw [show c+i - c=i by omega];exact h1⟩ ⟨by omega,by omega,by rw [show c+k - c=k by omega];exact h2⟩
  omega
theorem Com.own_fro (h:Com Y Shun c j gs w t D d0 O0 q) {i b:Nat} (hi:i < j) (h1:(D i).own b):¬ Y.fro b :=
  h.fam.ofr (c+i) b ⟨by omega,by omega,by rw [show c+i - c=i by omega];exact h1⟩
theorem Com.own_low (h:Com Y Shun c j gs w t D d0 O0 q) {i b:Nat} (hi:i < j) (h1:(D i).own b):b < w.heap.size :=
  h.fam.low (c+i) b ⟨by omega,by omega,by rw [show c+i - c=i by omega];exact h1⟩
theorem Com.fro_wg (h:Com Y Shun c j gs w t D d0 O0 q):¬ Y.fro Y.Wg:=fun ho=>h.fam.fsh _ Y.Wg ho rfl (h.shW _ sh_wg)
theorem CO.keep (K:PhOk Y) (h:CO Y j D w) (hc:w'.heap[Y.Ch]? = w.heap[Y.Ch]?) (hr:∀ i,i < j→Rly Y.fro (D i).own w w'):CO Y j D w':=by
  obtain ⟨buf,s,L,h1,h2,h3,h4,h5⟩:=h
  exact ⟨buf,s,L,hc.trans h1,h2,h3,h4,fun p i v hp hv=>K.res _ _ _ _ _ (h5 p i v hp hv) (hr i ((h4 i).1 (List.mem_of_getElem? hp)).1)⟩
theorem Com.same (h:Com Y Shun c j gs w t D d0 O0 q) (a a':Goroutine) (w':World) {k:Nat} (hk:0 < k):(gs.map (woken Y.P a a' w'))[k]? = gs[k]? := by
  rw [Array.getElem?_map]
  cases hx:gs[k]? with
  | none=>rfl
  | some x =>
    rw [Option.map_some]
    rcases Nat.lt_or_ge k c with hlt | hge
    · rw [woken_quitsD (h.old k x hk hlt hx)]
    · have hlt:k < c+j:=by have:=(Array.getElem?_eq_some_iff.1 hx).1;rw [h.size] at this;exact this
      obtain ⟨y,hy,hs⟩:=h.wk (k - c) (by omega)
      rw [show c+(k - c)=k by omega,hx] at hy
      cases hy
      rw [hs.woken]
theorem relBy_other {a:Addr} {k r g:Nat} (h:RelBy a t k r) (hu:∀ op∈u,op.g=g) (hg:g≠k):RelBy a (t++u) k r:=h.appOther hu hg
theorem Com.at (K:PhOk Y) (h:Com Y Shun c j gs w t D d0 O0 q) (d:Nat):Com Y Shun c j gs (w.at d) t D d0 O0 q :=
  ⟨h.c0,h.size,h.old,fun i hi=>let ⟨g,hg,hs⟩:=h.wk i hi;⟨g,hg,hs.rely (rly_at w d) (fun b hb=>h.own_low hi hb) id⟩,h.pt,h.fam,h.shW,h.shO,h.shL,h.own0,h.ownW,h.fro,h.wgl,h.deaf0,h.deafW,h.rel,h.chan.keep K rfl fun i _=>rly_at w d⟩
theorem Com.stepW (h : Com Y Shun c j gs w t D d0 O0 q) {i : Nat} (hi : i < j) {g' : Goroutine} {x : WX} (hgs : gs'.size = gs.size) (hgi : gs'[c + i]? = some g') (hgo : ∀ k, 0 < k → k ≠ c + i → gs'[k]? = gs[k]?)
    {T : Nat → Prop} (hT : Turns T w w') (hTo : ∀ b, T b → (D i).own b ∨ b = Y.Wg ∨ b = Y.Ch) (hl : WgLive Y.ty Y.Wg w → WgLive Y.ty Y.Wg w')
    (hs : WS Y i x.stage x.rank x.fuel x.deaf x.own g' w') (ho : ∀ b, (D i).own b → x.own b) (hn : ∀ b, x.own b → (D i).own b ∨ (w.heap.size ≤ b ∧ b < w'.heap.size))
    (hok : ∀ op ∈ u, OkW' Y.Wg (famOf Y c j (updX D i x)) (c + i) w'.heap.size op) (hd : Deaf (t ++ u) (c + i) = x.deaf) (hr : x.stage ≤ 6 → ∃ r, RelBy (stA Y.Wg) (t ++ u) (c + i) r) (hco : CO Y j (updX D i x) w') :
    Com Y Shun c j gs' w' (t ++ u) (updX D i x) d0 O0 q := by
  have hg : ∀ op ∈ u, op.g = c + i := fun op hop => (hok op hop).1
  have fam' : (famOf Y c j (updX D i x)).Ok Shun w'.heap.size := by
    have cs : ∀ k b, (famOf Y c j (updX D i x)).own k b → (famOf Y c j D).own k b ∨ (k = c + i ∧ w.heap.size ≤ b ∧ b < w'.heap.size) := by
      rintro k b ⟨k1, k2, k3⟩
      by_cases e : k - c = i
      · rw [e, updX_same] at k3
        rcases hn b k3 with z | z
        · exact .inl ⟨k1, k2, by rw [e]; exact z⟩
        · exact .inr ⟨by omega, z⟩
      · rw [updX_ne D _ e] at k3; exact .inl ⟨k1, k2, k3⟩
    refine ⟨fun k k' b h1 h2 => ?_, fun k b h1 => ?_, fun k l b h1 hb => ?_, h.fam.fsh, fun k b h1 => ?_⟩
    · rcases cs k b h1 with z | ⟨z, z2, _⟩ <;> rcases cs k' b h2 with y | ⟨y, y2, _⟩
      · exact h.fam.one k k' b z y
      · have := h.fam.low k b z; omega
      · have := h.fam.low k' b y; omega
      · omega
    · rcases cs k b h1 with z | ⟨z, z2, _⟩
      · exact h.fam.ofr k b z
      · intro hf; have := (h.fro b hf).1; omega
    · rcases cs k b h1 with z | ⟨z, z2, _⟩
      · exact h.fam.osh k l b z hb
      · intro hS; have := h.shL l b hS hb; omega
    · rcases cs k b h1 with z | ⟨z, z2, z3⟩
      · exact Nat.lt_of_lt_of_le (h.fam.low k b z) hT.size
      · exact z3
  have rly : ∀ k, k < j → k ≠ i → Rly Y.fro (D k).own w w' := fun k hk e => hT.rly (fun b hb hf => by
      rcases hTo b hb with z | z | z
      · exact h.own_fro hi z hf
      · exact h.fro_wg (z ▸ hf)
      · exact (h.fro b hf).2 z) (fun b hb hf => by
      rcases hTo b hb with z | z | z
      · exact e (h.own_one hk hi hf z)
      · exact h.ownWg hk (z ▸ hf)
      · exact h.ownW k hk b hf z)
  have hle := hT.size
  refine ⟨h.c0, by rw [hgs, h.size], fun k g k1 k2 hk => ?_, fun k hk => ?_, ?_, fam', h.shW, h.shO, fun l b a1 a2 => Nat.lt_of_lt_of_le (h.shL l b a1 a2) hle, fun b hb => ?_, fun k hk b hb => ?_, fun b hb => ⟨Nat.lt_of_lt_of_le (h.fro b hb).1 hle, (h.fro b hb).2⟩, ⟨Nat.lt_of_lt_of_le h.wgl.1 hle, h.wgl.2⟩, ?_, fun k hk => ?_, fun k hk hst => ?_, hco⟩
  · rw [hgo k k1 (by omega)] at hk
    rw [Deaf_other t (by omega) _ hg]
    exact h.old k g k1 k2 hk
  · by_cases e : k = i
    · subst e; exact ⟨g', hgi, by rw [updX_same]; exact hs⟩
    · obtain ⟨y, hy, hs'⟩ := h.wk k hk
      refine ⟨y, by rw [hgo _ (by have := h.c0; omega) (by omega)]; exact hy, ?_⟩
      rw [updX_ne D _ e]
      exact hs'.rely (rly k hk e) (fun b hb => h.own_low hk hb) hl
  · have h0 : PT Shun Y.Wg (famOf Y c j (updX D i x)) c j w.heap.size t := h.pt.fresh rfl (by
        rintro k b ⟨k1, k2, k3⟩
        refine ⟨k1, k2, ?_⟩
        by_cases e : k - c = i
        · rw [e, updX_same]; rw [e] at k3; exact ho b k3
        · rw [updX_ne D _ e]; exact k3) (by
        rintro k b ⟨k1, k2, k3⟩
        by_cases e : k - c = i
        · rw [e, updX_same] at k3
          rcases hn b k3 with z | z
          · exact .inl ⟨k1, k2, by rw [e]; exact z⟩
          · exact .inr z.1
        · rw [updX_ne D _ e] at k3; exact .inl ⟨k1, k2, k3⟩)
    have h1 : PT Shun Y.Wg (famOf Y c j (updX D i x)) c j w'.heap.size t := ⟨h0.clean, h0.known0, h0.knownK, h0.quiet, fun op hop => MemAct.low_mono hle (h0.seen op hop), h0.gs, h0.over, h0.norel⟩
    exact h1.appW fam' h.shW (by omega) (by omega) (by have := h.c0; omega) (Nat.le_refl _) hok
  · obtain ⟨a1, a2, a3, a4⟩ := h.own0 b hb
    refine ⟨by omega, a2, a3, fun k hk hf => ?_⟩
    by_cases e : k = i
    · subst e
      rw [updX_same] at hf
      rcases hn b hf with z | z
      · exact a4 k hk z
      · omega
    · rw [updX_ne D _ e] at hf; exact a4 k hk hf
  · by_cases e : k = i
    · subst e
      rw [updX_same] at hb
      rcases hn b hb with z | z
      · exact h.ownW k hk b z
      · intro e
        obtain ⟨buf, s, L, hc, _⟩ := h.chan
        have := (Array.getElem?_eq_some_iff.1 hc).1
        omega
    · rw [updX_ne D _ e] at hb; exact h.ownW k hk b hb
  · rw [Deaf_other t (by have := h.c0; omega) _ hg, h.deaf0]
  · by_cases e : k = i
    · subst e; rw [updX_same]; exact hd
    · rw [Deaf_other t (by omega) _ hg, updX_ne D _ e, h.deafW k hk]
  · by_cases e : k = i
    · subst e; rw [updX_same] at hst; exact hr hst
    · rw [updX_ne D _ e] at hst
      obtain ⟨r, hr⟩ := h.rel k hk hst
      exact ⟨r, relBy_other hr hg (by omega)⟩
theorem Com.step0 (K:PhOk Y) (h:Com Y Shun c j gs w t D d0 O0 q) {d':Nat} {O0':Nat→Prop} (hgs:gs'.size=gs.size) (hgo:∀ k,0 < k→gs'[k]? = gs[k]?)
    {T:Nat→Prop} (hT:Turns T w w') (hTo:∀ b,T b→O0 b∨b=Y.Wg) (hl:WgLive Y.ty Y.Wg w→WgLive Y.ty Y.Wg w') (hn:∀ b,O0' b→O0 b∨(w.heap.size≤b∧b < w'.heap.size))
    (hok:∀ op∈u,Ok0' Shun Y.Wg (famOf Y c j D) c j w'.heap.size op) (hd:Deaf (t++u) 0=d'):Com Y Shun c j gs' w' (t++u) D d' O0' q:=by
  have hg:∀ op∈u,op.g=0:=fun op hop=>(hok op hop).1
  have hle:=hT.size
  have rly:∀ k,k < j→Rly Y.fro (D k).own w w':=fun k hk=>hT.rly (fun b hb hf=>by
      rcases hTo b hb with z | z
      · exact (h.own0 b z).2.1 hf
      · exact h.fro_wg (z▸hf)) (fun b hb hf=>by
      rcases hTo b hb with z | z
      · exact (h.own0 b z).2.2.2 k hk hf
      · exact h.ownWg hk (z▸hf))
  have fam':(famOf Y c j D).Ok Shun w'.heap.size:=⟨h.fam.one,h.fam.ofr,h.fam.osh,h.fam.fsh,fun k b hb=>Nat.lt_of_lt_of_le (h.fam.low k b hb) hle⟩
  have hcl:Y.Ch < w.heap.size:=by obtain ⟨buf,s,L,hc,_⟩:=h.chan;exact (Array.getElem?_eq_some_iff.1 hc).1
  refine ⟨h.c0,by rw [hgs,h.size],fun k g k1 k2 hk => ?_,fun k hk => ?_,?_,fam',h.shW,fun l b a1 a2 ho => ?_,fun l b a1 a2=>Nat.lt_of_lt_of_le (h.shL l b a1 a2) hle,fun b hb => ?_,h.ownW,fun b hb=>⟨Nat.lt_of_lt_of_le (h.fro b hb).1 hle,(h.fro b hb).2⟩,⟨Nat.lt_of_lt_of_le h.wgl.1 hle,h.wgl.2⟩,hd,fun k hk => ?_,fun k hk hst => ?_,?_⟩
  · rw [hgo k k1] at hk
    rw [Deaf_other t (by omega) _ hg]
    exact h.old k g k1 k2 hk
  · obtain ⟨y,hy,hs'⟩:=h.wk k hk
    exact ⟨y,by rw [hgo _ (by have:=h.c0;omega)];exact hy,hs'.rely (rly k hk) (fun b hb=>h.own_low hk hb) hl⟩
  · exact h.pt.app0 h.fam h.shW h.c0 hle hok
  · rcases hn b ho with z | z
    · exact h.shO l b a1 a2 z
    · have:=h.shL l b a1 a2;omega
  · rcases hn b hb with z | z
    · obtain ⟨a1,a2,a3,a4⟩:=h.own0 b z
      exact ⟨by omega,a2,a3,a4⟩
    · exact ⟨z.2,fun hf=>by have:=(h.fro b hf).1;omega,by omega,fun k hk hf=>by have:=h.own_low hk hf;omega⟩
  · rw [Deaf_other t (by have:=h.c0;omega) _ hg,h.deafW k hk]
  · obtain ⟨r,hr⟩:=h.rel k hk hst
    exact ⟨r,relBy_other hr hg (by have:=h.c0;omega)⟩
  · refine h.chan.keep K (hT.keep Y.Ch hcl fun ht => ?_) rly
    rcases hTo _ ht with z | z
    · exact (h.own0 _ z).2.2.1 rfl
    · exact h.wgl.2 z.symm
end
end Go.Id
namespace Go.Id
open Go.Conc
open Go.ConcN (ShN RelBy WgLive PayAt Has RW DWs AtD4 AtD3 AtD2 AtD1 AtK1 AtR0 sumTo upd sumTo_upd upd_ne upd_same)
open Go.ConcR (KK wgBlock WgAt stA smA rd wr mk Payload Aside2 DC0)
set_option linter.unusedVariables false
set_option linter.unusedSectionVars false
variable [Payload]
section
variable {Y:Ph} {Shun:Loc→Prop} {c j:Nat} {gs gs':Array Goroutine} {w w':World} {t u:Trace} {D:Nat→WX} {d0:Nat} {O0:Nat→Prop} {q:Nat→Nat}
theorem Com.stepL (h:Com Y Shun c j gs w t D d0 O0 q) {i k:Nat} (hi:0 < i) (hic:i < c) {g':Goroutine} (hgs:gs'.size=gs.size) (hgi:gs'[i]? = some g') (hgo:∀ k,0 < k→k≠i→gs'[k]? = gs[k]?)
    (hq:QuitsD Y.P k (Deaf (t++u) i) g') (hu:∀ op∈u,op.g=i∧op.act.touch? = none∧op.act.low w.heap.size∧op.act ≠ .mark (.release (stA Y.Wg))):Com Y Shun c j gs' w (t++u) D d0 O0 (upd q i k):=by
  have hg:∀ op∈u,op.g=i:=fun op hop=>(hu op hop).1
  refine ⟨h.c0,by rw [hgs,h.size],fun k' g k1 k2 hk => ?_,fun k' hk => ?_,h.pt.mute (by omega) hu,h.fam,h.shW,h.shO,h.shL,h.own0,h.ownW,h.fro,h.wgl,by rw [Deaf_other t (by omega) _ hg,h.deaf0],fun k' hk=>by rw [Deaf_other t (by omega) _ hg,h.deafW k' hk],fun k' hk hst => ?_,h.chan⟩
  · by_cases e:k'=i
    · subst e;rw [hgi] at hk;cases hk;rw [upd_same];exact hq
    · rw [hgo k' k1 e] at hk
      rw [upd_ne q k e,Deaf_other t (Ne.symm e) _ hg]
      exact h.old k' g k1 k2 hk
  · obtain ⟨y,hy,hs'⟩:=h.wk k' hk
    exact ⟨y,by rw [hgo _ (by omega) (by omega)];exact hy,hs'⟩
  · obtain ⟨r,hr⟩:=h.rel k' hk hst
    exact ⟨r,relBy_other hr hg (by omega)⟩
theorem Com.spawn (h:Com Y Shun c j gs w t D d0 O0 q) {a' child:Goroutine} {n:Nat→Prop} {x:WX} (hn:∀ b,n b→O0 b) (hx:x.stage=8∧x.deaf=0∧x.own=n∧x.fuel=0) (hs:GTr Y.P false Y.fro (AtSend Y j) x.rank n child w) (h0:d0=0)
    {e1 e2:MemOp} (he1:e1.g=0∧e1.act = .go (c+j)) (he2:e2.g=c+j∧e2.act = .start):Com Y Shun c (j+1) ((gs.setIfInBounds 0 a').push child) w (t++#[e1,e2]) (updX D j x) 0 (fun b=>O0 b∧¬ n b) q:=by
  subst h0
  have hD:∀ k,k < j→updX D j x k=D k:=fun k hk=>updX_ne D x (by omega)
  have hsz:(gs.setIfInBounds 0 a').size=c+j:=by simp [h.size]
  have get:∀ k,0 < k→k < c+j→((gs.setIfInBounds 0 a').push child)[k]? = gs[k]? := fun k k1 k2=>by
    rw [Array.getElem?_push,if_neg (by omega),Array.getElem?_setIfInBounds_ne (by omega)]
  have hk0:Deaf t (c+j)=0:=Go.ConcN.Deaf_absent fun i op hi e=>by have:=h.pt.gs op (Array.mem_of_getElem? hi);omega
  have dd:∀ g,Deaf (t++#[e1,e2]) g=Deaf t g:=fun g=>Go.ConcN.Deaf_still t g _ fun op hop=>by
    simp only [List.mem_toArray,List.mem_cons,List.not_mem_nil,or_false] at hop
    rcases hop with rfl | rfl
    · rw [he1.2];exact ⟨by simp,by simp⟩
    · rw [he2.2];exact ⟨by simp,by simp⟩
  have cs:∀ k b,(famOf Y c (j+1) (updX D j x)).own k b→(famOf Y c j D).own k b∨(k=c+j∧n b):=by
    rintro k b ⟨k1,k2,k3⟩
    by_cases e:k - c=j
    · rw [e,updX_same,hx.2.2.1] at k3;exact .inr ⟨by omega,k3⟩
    · rw [updX_ne D _ e] at k3;exact .inl ⟨k1,by omega,k3⟩
  have fam':(famOf Y c (j+1) (updX D j x)).Ok Shun w.heap.size:=by
    refine ⟨fun k k' b h1 h2 => ?_,fun k b h1 => ?_,fun k l b h1 hb => ?_,h.fam.fsh,fun k b h1 => ?_⟩
    · rcases cs k b h1 with z | ⟨z,z2⟩<;>rcases cs k' b h2 with y | ⟨y,y2⟩
      · exact h.fam.one k k' b z y
      · exact absurd z.2.2 ((h.own0 b (hn b y2)).2.2.2 _ (by have:=z.1;have:=z.2.1;omega))
      · exact absurd y.2.2 ((h.own0 b (hn b z2)).2.2.2 _ (by have:=y.1;have:=y.2.1;omega))
      · omega
    · rcases cs k b h1 with z | ⟨z,z2⟩
      · exact h.fam.ofr k b z
      · exact (h.own0 b (hn b z2)).2.1
    · rcases cs k b h1 with z | ⟨z,z2⟩
      · exact h.fam.osh k l b z hb
      · exact fun hS=>h.shO l b hS hb (hn b z2)
    · rcases cs k b h1 with z | ⟨z,z2⟩
      · exact h.fam.low k b z
      · exact (h.own0 b (hn b z2)).1
  refine ⟨h.c0,by simp [h.size];omega,fun k g k1 k2 hk => ?_,fun k hk => ?_,?_,fam',h.shW,fun l b a1 a2 ho=>h.shO l b a1 a2 ho.1,h.shL,fun b hb => ?_,fun k hk b hb => ?_,h.fro,h.wgl,by rw [dd,h.deaf0],fun k hk => ?_,fun k hk hst => ?_,?_⟩
  · rw [get k k1 (by omega)] at hk
    rw [dd];exact h.old k g k1 k2 hk
  · by_cases e:k=j
    · subst e
      refine ⟨child,by rw [Array.getElem?_push,if_pos (by omega)],?_⟩
      rw [updX_same]
      obtain ⟨s,ρ,f,d,o⟩:=x
      simp only at hx
      obtain ⟨rfl,rfl,rfl,rfl⟩:=hx
      exact .work hs
    · obtain ⟨y,hy,hs'⟩:=h.wk k (by omega)
      exact ⟨y,by rw [get _ (by have:=h.c0;omega) (by omega)];exact hy,by rw [hD k (by omega)];exact hs'⟩
  · refine h.pt.fork h.c0 fam' rfl (fun k b hk => ?_) he1 he2 h.deaf0
    constructor
    · rintro ⟨k1,k2,k3⟩
      exact ⟨k1,by omega,by rw [updX_ne D _ (by omega)] at k3;exact k3⟩
    · rintro ⟨k1,k2,k3⟩
      exact ⟨k1,by omega,by rw [updX_ne D _ (by omega)];exact k3⟩
  · obtain ⟨a1,a2,a3,a4⟩:=h.own0 b hb.1
    refine ⟨a1,a2,a3,fun k hk hf => ?_⟩
    by_cases e:k=j
    · subst e;rw [updX_same,hx.2.2.1] at hf;exact hb.2 hf
    · rw [updX_ne D _ e] at hf;exact a4 k (by omega) hf
  · by_cases e:k=j
    · subst e;rw [updX_same,hx.2.2.1] at hb;exact (h.own0 b (hn b hb)).2.2.1
    · rw [updX_ne D _ e] at hb;exact h.ownW k (by omega) b hb
  · by_cases e:k=j
    · subst e;rw [dd,hk0,updX_same,hx.2.1]
    · rw [dd,updX_ne D _ e,h.deafW k (by omega)]
  · by_cases e:k=j
    · subst e;rw [updX_same,hx.1] at hst;omega
    · rw [updX_ne D _ e] at hst
      obtain ⟨r,hr⟩:=h.rel k (by omega) hst
      refine ⟨r,Go.ConcN.RelBy.appNot hr fun op hop => ?_⟩
      simp only [List.mem_toArray,List.mem_cons,List.not_mem_nil,or_false] at hop
      have:=h.c0
      rcases hop with rfl | rfl
      · rw [he1.1];omega
      · rw [he2.1];omega
  · obtain ⟨buf,s,L,h1,h2,h3,h4,h5⟩:=h.chan
    refine ⟨buf,s,L,h1,h2,h3,fun i => ?_,fun p i v hp hv => ?_⟩
    · by_cases e:i=j
      · subst e;rw [updX_same,hx.1,h4];omega
      · rw [updX_ne D _ e,h4];constructor<;>(rintro ⟨z1,z2⟩;exact ⟨by omega,z2⟩)
    · have:=((h4 i).1 (List.mem_of_getElem? hp)).1
      rw [updX_ne D _ (by omega)];exact h5 p i v hp hv
end
end Go.Id
namespace Go.Id
open Go.Conc
open Go.ConcN (ShN RelBy WgLive PayAt Has RW DWs AtD4 AtD3 AtD2 AtD1 AtK1 AtR0 sumTo upd sumTo_upd upd_ne upd_same CTag WD Vc cnt)
open Go.ConcR (KK wgBlock WgAt stA smA rd wr mk Payload Aside2 DC0 again_blocked)
set_option linter.unusedVariables false
set_option linter.unusedSectionVars false
noncomputable def Rk.pair (a:Rk):Rk→Rk :=
  Rk.rec (motive:=fun _=>Rk→Rk) (fun ι f ihf=>fun b=>Rk.rec (motive:=fun _=>Rk) (fun κ g ihg => .mk (ι ⊕ κ) (fun x=>match x with | .inl i=>ihf i (.mk κ g) | .inr k=>ihg k)) b) a
theorem Rk.pair_left {a a':Rk} (h:Rk.lt a' a) (b:Rk):Rk.lt (a'.pair b) (a.pair b):=by
  cases a with
  | mk ι f =>
    obtain ⟨i,rfl⟩:=h
    cases b with
    | mk κ g=>exact ⟨Sum.inl i,rfl⟩
theorem Rk.pair_right {b b':Rk} (h:Rk.lt b' b) (a:Rk):Rk.lt (a.pair b') (a.pair b):=by
  cases b with
  | mk κ g =>
    obtain ⟨i,rfl⟩:=h
    cases a with
    | mk ι f=>exact ⟨Sum.inr i,rfl⟩
noncomputable def sumR:Nat→(Nat→WX)→Rk
  | 0,_ => .mk Empty fun x=>x.elim
  | j+1,D=>(sumR j D).pair (D j).rank
theorem sumR_congr {D D':Nat→WX}:∀ {j:Nat},(∀ i,i < j→(D' i).rank=(D i).rank)→sumR j D'=sumR j D
  | 0,_=>rfl
  | j+1,h=>by simp only [sumR];rw [sumR_congr (fun i hi=>h i (by omega)),h j (by omega)]
theorem sumR_lt {D:Nat→WX} {i:Nat} {x:WX} (hx:Rk.lt x.rank (D i).rank):∀ {j:Nat},i < j→Rk.lt (sumR j (updX D i x)) (sumR j D)
  | j+1,h=>by
    simp only [sumR]
    rcases Nat.lt_or_ge i j with hlt | hge
    · rw [updX_ne D x (show j≠i by omega)]
      exact Rk.pair_left (sumR_lt hx hlt) _
    · obtain rfl:i=j:=by omega
      rw [updX_same,sumR_congr (D:=D) (D':=updX D i x) (fun k hk=>by rw [updX_ne D x (by omega)])]
      exact Rk.pair_right hx _
def Lt3:(Nat×Rk×Nat)→(Nat×Rk×Nat)→Prop:=Prod.Lex (· < ·) (Prod.Lex Rk.lt (· < ·))
theorem Lt3.wf:WellFounded Lt3:=(Prod.lex Nat.lt_wfRel (Prod.lex ⟨Rk.lt,Rk.wf⟩ Nat.lt_wfRel)).wf
theorem Lt3.one {a a':Nat} {r r':Rk} {f f':Nat} (h:a' < a):Lt3 (a',r',f') (a,r,f) := .left _ _ h
theorem Lt3.two {a a':Nat} {r r':Rk} {f f':Nat} (h:a'=a) (h':Rk.lt r' r):Lt3 (a',r',f') (a,r,f):=by subst h;exact .right _ (.left _ _ h')
theorem Lt3.three {a a':Nat} {r r':Rk} {f f':Nat} (h:a'=a) (h':r'=r) (h'':f' < f):Lt3 (a',r',f') (a,r,f):=by subst h;subst h';exact .right _ (.right _ h'')
def toW (x:WX):WD:=⟨if x.stage=8 then 7 else x.stage,x.fuel,x.deaf⟩
def toD (D:Nat→WX):Nat→WD:=fun i=>toW (D i)
theorem toD_upd (D:Nat→WX) (i:Nat) (x:WX):toD (updX D i x)=upd (toD D) i (toW x):=by
  funext a
  unfold toD updX upd
  split<;>rfl
def toC:Tg→CTag
  | .sp r s => .sp r s
  | .kd0 => .kd
  | .kd => .kd
  | .anch => .anch
  | .w1 => .w1
  | .w2 vs => .w2 vs
  | .sw => .w3
  | .w3 => .w3
  | .blk => .blk
  | .w4 => .w4
  | .ke => .ke
  | .acq => .acq
def Ssum (j:Nat) (D:Nat→WX):Nat:=sumTo j fun i=>(D i).stage
def Fsum (j:Nat) (D:Nat→WX):Nat:=sumTo j fun i=>(D i).fuel
theorem sumTo_updX (D:Nat→WX) (x:WX) (φ:WX→Nat) {i:Nat}:∀ {j:Nat},i < j→sumTo j (fun a=>φ (updX D i x a))+φ (D i)=sumTo j (fun a=>φ (D a))+φ x
  | j+1,h=>by
    rcases Nat.lt_or_ge i j with hlt | hge
    · have:=sumTo_updX D x φ hlt
      simp only [sumTo,updX_ne D x (show j≠i by omega)]
      omega
    · obtain rfl:i=j:=by omega
      simp only [sumTo,updX_same]
      rw [Go.ConcN.sumTo_congr (g:=fun a=>φ (D a)) (fun a ha=>by rw [updX_ne D x (by omega)])]
      omega
theorem phi_mono (n:Nat) {v v':Nat} (h:v'≤v) (tag:Tg):phi n v' tag≤phi n v tag:=by
  cases tag<;>simp only [phi]<;>omega
theorem phi_retag (n v:Nat) {tag tag':Tg} (e:tag'=tag∨(tag = .blk∧tag' = .w3)):phi n v tag'=phi n v tag:=by
  rcases e with rfl | ⟨rfl,rfl⟩<;>rfl
variable [Payload]
section
variable (Y:Ph) (Fin:(Nat→Prop)→Goroutine→World→Prop) (Shun:Loc→Prop) (c:Nat)
noncomputable def mu (j:Nat) (D:Nat→WX) (tag:Tg) (ρ0:Rk) (f0:Nat) (q:Nat→Nat):Nat×Rk×Nat:=(phi Y.n (Vc j (toD D)) tag+Ssum j D,ρ0.pair (sumR j D),f0+2*Fsum j D+2*sumTo c q)
def Inv (μ:Nat×Rk×Nat) (m:Machine) (t:Trace):Prop :=
  ∃ (gs:Array Goroutine) (w:World) (sl:Option (Nat×Nat)) (j:Nat) (D:Nat→WX) (tag:Tg) (ρ0:Rk) (f0 d0:Nat) (O0:Nat→Prop) (q:Nat→Nat) (a:Goroutine) (st sm:Int),
    m=crowd gs w sl∧gs[0]? = some a∧CS Y Fin tag j ρ0 f0 d0 O0 a w∧Com Y Shun c j gs w t D d0 O0 q∧WgAt Y.ty Y.Wg w st sm∧Go.ConcN.Mode j (toD D) (toC tag) st sm∧μ=mu Y c j D tag ρ0 f0 q
end
section
variable {Y:Ph} {Fin:(Nat→Prop)→Goroutine→World→Prop} {Shun:Loc→Prop} {c j:Nat} {gs:Array Goroutine} {w w':World} {sl:Option (Nat×Nat)} {t u:Trace} {D:Nat→WX} {tag:Tg} {ρ0:Rk} {f0 d0:Nat} {O0:Nat→Prop} {q:Nat→Nat} {a:Goroutine} {st sm:Int}
theorem CS.wokenBy (hl:WgLive Y.ty Y.Wg w') (h:CS Y Fin tag j ρ0 f0 d0 O0 a w) (hr:RS Y O0 w w') (g g':Goroutine) :
    ∃ tag' f',CS Y Fin tag' j ρ0 f' d0 O0 (woken Y.P g g' w' a) w'∧f'≤f0+1∧(tag'=tag∨(tag = .blk∧tag' = .w3))∧(mayWake Y.P g=true→g'.status = .running→tag' ≠ .blk):=by
  have h':=h.rely hr
  unfold Go.Conc.woken
  split
  · rcases h'.status hl with hs | ⟨_,rfl⟩
    · refine ⟨tag,f0,by rw [again_running _ (.inl hs)];exact h',by omega,.inl rfl,fun _ _ e => ?_⟩
      subst e
      cases h' with
      | blk hb=>simp at hs
    · cases h' with
      | blk hb =>
        rename_i g0
        have h3:=hb w' (RS.refl _ w')
        exact ⟨.w3,0+1,by rw [again_blocked h3.1 h3.2.1];exact .w3 (Goes.stop hb),by omega,.inr ⟨rfl,rfl⟩,fun _ _=>by simp⟩
  · rename_i hc
    exact ⟨tag,f0,h',by omega,.inl rfl,fun h1 h2=>absurd (by simp [h1,h2]) hc⟩
theorem rs_of {T:Nat→Prop} (hT:Turns T w w') (hf:∀ b,T b→¬ Y.fro b) (ho:∀ b,T b→¬ O0 b) (hl:WgLive Y.ty Y.Wg w→WgLive Y.ty Y.Wg w'):RS Y O0 w w':=⟨hT.rly hf ho,hl⟩
theorem Com.aside (h:Com Y Shun c j gs w t D d0 O0 q) {i:Nat} (hi:i < j) {T:Nat→Prop} (hTo:∀ b,T b→(D i).own b∨b=Y.Wg∨b=Y.Ch):(∀ b,T b→¬ Y.fro b)∧(∀ b,T b→¬ O0 b):=by
  refine ⟨fun b hb hf => ?_,fun b hb ho => ?_⟩
  · rcases hTo b hb with z | z | z
    · exact h.own_fro hi z hf
    · exact h.fro_wg (z▸hf)
    · exact (h.fro b hf).2 z
  · rcases hTo b hb with z | z | z
    · exact (h.own0 b ho).2.2.2 i hi z
    · exact h.shO _ b (h.shW _ sh_wg) (by rw [z];rfl) ho
    · exact (h.own0 b ho).2.2.1 z
theorem workerStep (ha:gs[0]? = some a) (hcs:CS Y Fin tag j ρ0 f0 d0 O0 a w) (hcom:Com Y Shun c j gs w t D d0 O0 q)
    {i:Nat} (hi:i < j) {g g':Goroutine} {es:Array Event} {x:WX} {st' sm':Int} (hg:gs[c+i]? = some g) (hgo:stepG Y.P false g w = .go g' w' es)
    {T:Nat→Prop} (hT:Turns T w w') (hTo:∀ b,T b→(D i).own b∨b=Y.Wg) (hTc:¬ T Y.Ch) (K:PhOk Y)
    (hs:WS Y i x.stage x.rank x.fuel x.deaf x.own g' w') (ho:∀ b,(D i).own b→x.own b) (hn:∀ b,x.own b→(D i).own b∨(w.heap.size≤b∧b < w'.heap.size))
    (hRi:∀ v,(D i).stage≤7→Y.Res i v (D i).own w→Y.Res i v x.own w')
    (hok:∀ op∈MemOp.ofEvents (c+i) g.frame.fn g.frame.place es,OkW' Y.Wg (famOf Y c j (updX D i x)) (c+i) w'.heap.size op)
    (hdeaf:deafBehind (D i).deaf es=x.deaf) (h7:x.stage≤7↔(D i).stage≤7)
    (hrel:x.stage≤6→∃ r,RelBy (stA Y.Wg) (t++MemOp.ofEvents (c+i) g.frame.fn g.frame.place es) (c+i) r)
    (hwg:WgAt Y.ty Y.Wg w' st' sm')
    (hmode:∀ tag',(tag'=tag∨(tag = .blk∧tag' = .w3))→(mayWake Y.P g=true→g'.status = .running→tag' ≠ .blk)→Go.ConcN.Mode j (toD (updX D i x)) (toC tag') st' sm')
    (hlt:(x.stage < (D i).stage∧cnt (toW x)≤cnt (toD D i))∨(x.stage=(D i).stage∧cnt (toW x)=cnt (toD D i)∧(Rk.lt x.rank (D i).rank∨(x.rank=(D i).rank∧x.fuel+1=(D i).fuel)))) :
    ∃ m₁ ops μ',runT Y.P (crowd gs w sl) (c+i)=(.next m₁,ops)∧Lt3 μ' (mu Y c j D tag ρ0 f0 q)∧Inv Y Fin Shun c μ' m₁ (t++ops):=by
  have c0:=hcom.c0
  have hlive:WgLive Y.ty Y.Wg w':=⟨_,_,hwg⟩
  have hTo':∀ b,T b→(D i).own b∨b=Y.Wg∨b=Y.Ch:=fun b hb=>(hTo b hb).imp id .inl
  have has:=hcom.aside hi hTo'
  obtain ⟨tag',f',hcs',hf',htag,hwk⟩:=hcs.wokenBy hlive (rs_of hT has.1 has.2 fun _=>hlive) g g'
  have hrun:=runT_crowd_go (P:=Y.P) (sl:=sl) (i:=c+i) hg (by rw [show (c+i == 0)=false by simp;omega];exact hgo)
  have e1:=sumTo_upd (toD D) (toW x) cnt hi
  rw [← toD_upd] at e1
  have e2:=sumTo_updX D x WX.stage hi
  have e3:=sumTo_updX D x WX.fuel hi
  have hci:c+i < gs.size:=(Array.getElem?_eq_some_iff.1 hg).1
  have hcl:Y.Ch < w.heap.size:=by obtain ⟨buf,s,L,hc,_⟩:=hcom.chan;exact (Array.getElem?_eq_some_iff.1 hc).1
  have rlyK:∀ k,k < j→k≠i→Rly Y.fro (D k).own w w':=fun k hk e=>hT.rly has.1 fun b hb hf=>by
    rcases hTo b hb with z | z
    · exact e (hcom.own_one hk hi hf z)
    · exact hcom.ownWg hk (z▸hf)
  have hco:CO Y j (updX D i x) w':=by
    obtain ⟨buf,s,L,h1,h2,h3,h4,h5⟩:=hcom.chan
    refine ⟨buf,s,L,(hT.keep _ hcl hTc).trans h1,h2,h3,fun k => ?_,fun p k v hp hv => ?_⟩
    · by_cases e:k=i
      · subst e;rw [updX_same,h4,h7]
      · rw [updX_ne D _ e,h4]
    · have hk:=(h4 k).1 (List.mem_of_getElem? hp)
      by_cases e:k=i
      · subst e;rw [updX_same];exact hRi v hk.2 (h5 p k v hp hv)
      · rw [updX_ne D _ e];exact K.res _ _ _ _ _ (h5 p k v hp hv) (rlyK k hk.1 e)
  have hcom':=hcom.stepW (gs':=(gs.map (woken Y.P g g' w')).setIfInBounds (c+i) g') (u:=MemOp.ofEvents (c+i) g.frame.fn g.frame.place es) hi (by simp) (by simp [hci]) (fun k k1 k2=>by rw [Array.getElem?_setIfInBounds_ne (Ne.symm k2)];exact hcom.same g g' w' k1) hT hTo' (fun _=>hlive) hs ho hn hok (by rw [Deaf_own,hcom.deafW i hi];exact hdeaf) hrel hco
  refine ⟨_,_,mu Y c j (updX D i x) tag' ρ0 f' q,hrun,?_,_,w',sl,j,updX D i x,tag',ρ0,f',d0,O0,q,woken Y.P g g' w' a,st',sm',rfl,by rw [Array.getElem?_setIfInBounds_ne (by omega),Array.getElem?_map,ha];rfl,hcs',hcom',hwg,hmode tag' htag hwk,rfl⟩
  unfold mu
  rw [phi_retag Y.n _ htag]
  have ev:Vc j (toD (updX D i x))+cnt (toD D i)=Vc j (toD D)+cnt (toW x):=e1
  have es':Ssum j (updX D i x)+(D i).stage=Ssum j D+x.stage:=e2
  have ef:Fsum j (updX D i x)+(D i).fuel=Fsum j D+x.fuel:=e3
  rcases hlt with ⟨h1,h2⟩ | ⟨h1,h2,h3⟩
  · refine Lt3.one ?_
    have:=phi_mono Y.n (v':=Vc j (toD (updX D i x))) (v:=Vc j (toD D)) (by omega) tag
    omega
  · have ev':Vc j (toD (updX D i x))=Vc j (toD D):=by omega
    rcases h3 with h3 | ⟨h3,h4⟩
    · exact Lt3.two (by rw [ev'];omega) (Rk.pair_right (sumR_lt h3 hi) _)
    · refine Lt3.three (by rw [ev'];omega) ?_ (by omega)
      rw [sumR_congr (D:=D) fun k hk => ?_]
      by_cases e:k=i
      · subst e;rw [updX_same,h3]
      · rw [updX_ne D _ e]
end
end Go.Id
namespace Go.Id
open Go.Conc
open Go.ConcN (ShN RelBy WgLive PayAt Has RW DWs AtD4 AtD3 AtD2 AtD1 AtK1 AtR0 sumTo upd sumTo_upd upd_ne upd_same CTag WD Vc cnt Vc_upd Vc_le others_uncounted isW3 OpenSt pend)
open Go.ConcR (KK wgBlock WgAt stA smA rd wr mk Payload Aside2 DC0 again_blocked Bk bk_of_mute ofEvent_loc_mark ofEvent_cell ofEvent_mk)
set_option linter.unusedVariables false
set_option linter.unusedSectionVars false
theorem nodup_le {n:Nat}:∀ {L:List Nat},L.Nodup→(∀ x∈L,x < n)→L.length≤n:=by
  induction n with
  | zero=>intro L _ h;cases L with
    | nil=>simp
    | cons x L=>exact absurd (h x (by simp)) (by omega)
  | succ n ih =>
    intro L hn h
    by_cases hm:n∈L
    · have h1:=ih (hn.erase n) (fun x hx=>by
        have:=(hn.mem_erase_iff).1 hx
        have:=h x this.2
        omega)
      rw [List.length_erase_of_mem hm] at h1
      omega
    · have:=ih hn (fun x hx=>by
        have:=h x hx
        have:x≠n:=fun e=>hm (e▸hx)
        omega)
      omega
theorem Turns.chan {w:World} {c cap:Nat} {buf:Array Value} {cl:Bool} {s r:Nat} {tm:Bool}:Turns (fun b=>b=c) w (w.setChan c cap buf cl s r tm) :=
  ⟨by simp [World.setChan],fun b _ hb=>by simp only [World.setChan];rw [Array.getElem?_setIfInBounds_ne (Ne.symm hb)],rfl,rfl⟩
theorem okW_book {Wg B k:Nat} {F:Fam} {fn:FuncId} {pos:String} {es:Array Event} (hB:Wg < B) (h:∀ e∈es,Bk Wg e∨e=mk (.releaseMerge (stA Wg))):∀ op∈MemOp.ofEvents k fn pos es,OkW' Wg F k B op:=by
  intro op hop
  rw [ofEvents_eq] at hop
  obtain ⟨e,he,rfl⟩:=Array.mem_map.1 hop
  rcases h e he with (h1 | h1 | ⟨a,wr,rfl,ha⟩) | rfl
  · simp only [ofEvent_loc_mark h1];exact ⟨rfl,trivial,by simp,fun x hx=>by simp only at hx;cases hx⟩
  · simp only [ofEvent_loc_mark h1];exact ⟨rfl,trivial,by simp,fun x hx=>by simp only at hx;cases hx⟩
  · refine ⟨rfl,by simp only [ofEvent_cell];show a.block < B;omega,by simp [ofEvent_cell],fun x hx => ?_⟩
    simp only [ofEvent_cell,MemAct.touch?,Option.some.injEq] at hx
    subst hx
    exact .inl ⟨⟨a,rfl,ha⟩,by simp⟩
  · refine ⟨rfl,hB,by simp [ofEvent_mk],fun x hx => ?_⟩
    simp [ofEvent_mk,MemAct.touch?] at hx
theorem okW_priv {Wg B k:Nat} {F:Fam} {fro O:Nat→Prop} {fn:FuncId} {pos:String} {es:Array Event} (hf:F.fro=fro) (hO:∀ b,O b→F.own k b) (hb:∀ b,(fro b∨O b)→b < B) (h:∀ e∈es,EvOk fro O e):∀ op∈MemOp.ofEvents k fn pos es,OkW' Wg F k B op:=by
  intro op hop
  rw [ofEvents_eq] at hop
  obtain ⟨e,he,rfl⟩:=Array.mem_map.1 hop
  have h:=h e he
  obtain ⟨loc,wr,sy⟩:=e
  unfold EvOk at h
  cases loc with
  | cell a =>
    simp only at h
    obtain ⟨rfl,h⟩:=h
    have hin:fro a.block∨O a.block:=by cases wr<;>simp at h<;>first | exact h | exact .inr h
    refine ⟨rfl,hb _ hin,by simp [MemAct.ofEvent],fun x hx => .inr ?_⟩
    simp [MemAct.ofEvent,MemAct.touch?] at hx
    subst hx
    refine ⟨by simp,a.block,rfl,?_⟩
    cases wr with
    | true=>simp at h;exact .inl (hO _ h)
    | false=>exact hin.elim (fun z => .inr ⟨by rw [hf];exact z,rfl⟩) (fun z => .inl (hO _ z))
  | obj r =>
    simp only at h
    obtain ⟨rfl,h⟩:=h
    refine ⟨rfl,by have:=hb _ (.inr h);simpa [MemAct.ofEvent,MemAct.low,Loc.low] using this,by simp [MemAct.ofEvent],fun x hx => .inr ?_⟩
    simp [MemAct.ofEvent,MemAct.touch?] at hx
    subst hx
    exact ⟨by simp,r,rfl,.inl (hO _ h)⟩
  | mark m =>
    cases m<;>simp only at h
    exact ⟨rfl,trivial,by simp [MemAct.ofEvent],fun x hx=>by simp [MemAct.ofEvent,MemAct.touch?] at hx⟩
  | output=>exact h.elim
  | goroutines=>exact h.elim
theorem deaf_priv {fro O:Nat→Prop} {es:Array Event} (h:∀ e∈es,EvOk fro O e) (d:Nat):deafBehind d es=d :=
  deafBehind_still (fun e he=>by
    have h:=h e he
    obtain ⟨loc,wr,sy⟩:=e
    unfold EvOk at h
    cases loc with
    | mark m=>cases m<;>simp only at h;exact ⟨by simp,by simp⟩
    | _=>exact ⟨by simp,by simp⟩) d
variable [Payload]
section
variable {Y:Ph} {Fin:(Nat→Prop)→Goroutine→World→Prop} {Shun:Loc→Prop} {c j:Nat} {gs:Array Goroutine} {w w':World} {sl:Option (Nat×Nat)} {t u:Trace} {D:Nat→WX} {tag:Tg} {ρ0:Rk} {f0 d0:Nat} {O0:Nat→Prop} {q:Nat→Nat} {a:Goroutine} {st sm:Int}
theorem CS.bound (h:CS Y Fin tag j ρ0 f0 d0 O0 a w):j+pend (toC tag)≤Y.n:=by
  cases h<;>simp only [toC,pend]<;>(try simp)<;>omega
theorem isW3_blk {tag':Tg} (e:tag'=tag∨(tag = .blk∧tag' = .w3)):toC tag'=toC tag∨(toC tag = .blk∧toC tag' = .w3):=by
  rcases e with rfl | ⟨rfl,rfl⟩
  · exact .inl rfl
  · exact .inr ⟨rfl,rfl⟩
theorem getw {i:Nat}:(toD D i).stage=if (D i).stage=8 then 7 else (D i).stage:=rfl
set_option maxHeartbeats 1600000 in
theorem stepWorker (K:PhOk Y) (hn:Y.n < 2147483648) (ha:gs[0]? = some a) (hcs:CS Y Fin tag j ρ0 f0 d0 O0 a w) (hcom:Com Y Shun c j gs w t D d0 O0 q) (hwg:WgAt Y.ty Y.Wg w st sm) (hmode:Go.ConcN.Mode j (toD D) (toC tag) st sm)
    (hoff:∀ (k:Nat) (g:Goroutine),gs[k]? = some g→offersAt g Y.Ch false=[]) {i:Nat} (hi:i < j) {g:Goroutine} (hg:gs[c+i]? = some g) (hrun:g.status = .running) :
    ∃ m₁ ops μ',runT Y.P (crowd gs w sl) (c+i)=(.next m₁,ops)∧Lt3 μ' (mu Y c j D tag ρ0 f0 q)∧Inv Y Fin Shun c μ' m₁ (t++ops):=by
  obtain ⟨g₁,hg₁,hs⟩:=hcom.wk i hi
  obtain rfl:g=g₁:=by rw [hg] at hg₁;exact Option.some.inj hg₁
  have hb:=hcs.bound
  have hVj:=Vc_le j (toD D)
  have hdk:Deaf t (c+i)=(D i).deaf:=hcom.deafW i hi
  have hlive:WgLive Y.ty Y.Wg w:=⟨_,_,hwg⟩
  generalize hx0:D i=x0 at hs
  obtain ⟨s,ρ,m,dd,O⟩:=x0
  simp only at hs
  have hst:(D i).stage=s:=by rw [hx0]
  have hra:(D i).rank=ρ:=by rw [hx0]
  have hfu:(D i).fuel=m:=by rw [hx0]
  have hde:(D i).deaf=dd:=by rw [hx0]
  have how:(D i).own=O:=by rw [hx0]
  rw [hde] at hdk
  have bookG:∀ {g':Goroutine} {w':World} {es:Array Event} {s' m' dd':Nat} {st' sm':Int},s≤7→s'≤7→stepG Y.P false g w = .go g' w' es→Aside Y.Wg w w'→WgAt Y.ty Y.Wg w' st' sm'→(∀ e∈es,Bk Y.Wg e∨e=mk (.releaseMerge (stA Y.Wg))) →
      WS Y i s' ρ m' dd' O g' w'→deafBehind dd es=dd'→(s'≤6→∃ r,RelBy (stA Y.Wg) (t++MemOp.ofEvents (c+i) g.frame.fn g.frame.place es) (c+i) r) →
      (∀ tag',(tag'=tag∨(tag = .blk∧tag' = .w3))→(mayWake Y.P g=true→g'.status = .running→tag' ≠ .blk)→Go.ConcN.Mode j (upd (toD D) i ⟨s',m',dd'⟩) (toC tag') st' sm')→((s' < s∧cnt ⟨s',m',dd'⟩≤cnt (toD D i))∨(s'=s∧m'+1=m)) →
      ∃ m₁ ops μ',runT Y.P (crowd gs w sl) (c+i)=(.next m₁,ops)∧Lt3 μ' (mu Y c j D tag ρ0 f0 q)∧Inv Y Fin Shun c μ' m₁ (t++ops):=by
    intro g' w' es s' m' dd' st' sm' h7 h7' hgo hAs hwg' hbk hs' hdd hrel hmode' hlt
    have tW:toW ⟨s',ρ,m',dd',O⟩=⟨s',m',dd'⟩:=by simp only [toW];rw [if_neg (by omega)]
    have hT:=Turns.of_aside hAs
    refine workerStep (x:=⟨s',ρ,m',dd',O⟩) ha hcs hcom hi hg hgo hT (fun b hb => .inr hb) (fun e=>hcom.wgl.2 e.symm) K hs' (fun b hb=>by rw [how] at hb;exact hb) (fun b hb => .inl (by rw [how];exact hb)) (fun v _ hv => ?_) (okW_book (Nat.lt_of_lt_of_le hcom.wgl.1 hT.size) hbk) (by rw [hde];exact hdd) ⟨fun _=>by rw [hst];exact h7,fun _=>h7'⟩ hrel hwg' (fun tag' e1 e2=>by rw [toD_upd,tW];exact hmode' tag' e1 e2) ?_
    · rw [how] at hv
      refine K.res _ _ _ _ _ hv (hT.rly (fun b hb hf=>hcom.fro_wg (hb▸hf)) fun b hb ho=>hcom.ownWg hi (by rw [how];exact hb▸ho))
    · rw [tW,hst,hra,hfu]
      rcases hlt with ⟨h1,h2⟩ | ⟨h1,h2⟩
      · exact .inl ⟨h1,h2⟩
      · refine .inr ⟨h1,?_,.inr ⟨rfl,h2⟩⟩
        have:(toD D i).stage=s:=by rw [getw,if_neg (by omega),hst]
        simp only [cnt,this,h1]
  have book:∀ {g':Goroutine} {w':World} {es:Array Event} {s' m' dd':Nat} {st' sm':Int},s≤6→s'≤6→stepG Y.P false g w = .go g' w' es→Aside Y.Wg w w'→WgAt Y.ty Y.Wg w' st' sm'→(∀ e∈es,Bk Y.Wg e) →
      (∀ jx e,es[jx]? = some e→(MemAct.ofEvent e).touch? = none∨0 < deafBehind dd (es.extract 0 jx))→WS Y i s' ρ m' dd' O g' w'→deafBehind dd es=dd' →
      (∀ tag',(tag'=tag∨(tag = .blk∧tag' = .w3))→(mayWake Y.P g=true→g'.status = .running→tag' ≠ .blk)→Go.ConcN.Mode j (upd (toD D) i ⟨s',m',dd'⟩) (toC tag') st' sm')→((s' < s∧cnt ⟨s',m',dd'⟩≤cnt (toD D i))∨(s'=s∧m'+1=m)) →
      ∃ m₁ ops μ',runT Y.P (crowd gs w sl) (c+i)=(.next m₁,ops)∧Lt3 μ' (mu Y c j D tag ρ0 f0 q)∧Inv Y Fin Shun c μ' m₁ (t++ops) :=
    fun h6 h6' hgo hAs hwg' hbk hd hs' hdd hmode' hlt=>bookG (by omega) (by omega) hgo hAs hwg' (fun e he => .inl (hbk e he)) hs' hdd
      (fun _=>by obtain ⟨r,hr⟩:=hcom.rel i hi (by omega);exact ⟨r,hr.book hdk _ _ hbk hd⟩) hmode' hlt
  have idle:∀ {g':Goroutine} {m':Nat},s≤7→stepG Y.P false g w = .go g' w #[]→WS Y i s ρ m' dd O g' w→m'+1=m →
      ∃ m₁ ops μ',runT Y.P (crowd gs w sl) (c+i)=(.next m₁,ops)∧Lt3 μ' (mu Y c j D tag ρ0 f0 q)∧Inv Y Fin Shun c μ' m₁ (t++ops):=by
    intro g' m' h7 hgo hs' hm
    refine bookG h7 h7 hgo (.refl Y.Wg w) hwg (by simp) hs' rfl (fun h6 => ?_) (fun tag' e _ => ?_) (.inr ⟨rfl,hm⟩)
    · obtain ⟨r,hr⟩:=hcom.rel i hi (by omega)
      exact ⟨r,by simpa [ofEvents_eq] using hr⟩
    · have:=hmode.same (i:=i) m' dd
      rw [show (toD D i).stage=s by rw [getw,if_neg (by omega),hst]] at this
      exact this.retag (isW3_blk e)
  have hsD:s≠8→(toD D i).stage=s:=fun h=>by rw [getw,if_neg (by omega),hst]
  cases hs with
  | work h =>
    have h8:(toD D i).stage=7:=by rw [getw,if_pos hst]
    cases ρ with
    | mk ι f =>
    rcases h with h | ⟨_,h⟩
    ·
      obtain ⟨_,v,z,g₂,C,pn,x,hC,hHas,hres,hcm,hk⟩:=h w (Rly.refl _ _ _)
      obtain ⟨buf,sn,L,h1,h2,h3,h4,h5⟩:=hcom.chan
      have hCc:C≠Y.Ch:=hcom.ownW i hi C (by rw [how];exact hC)
      have hiL:i∉L:=fun e=>by have:=((h4 i).1 e).2;omega
      have hroom:buf.size < Y.n:=by
        have:=nodup_le (n:=Y.n) (L:=i::L) (List.nodup_cons.2 ⟨hiL,h3⟩) (fun x hx=>by
          rcases List.mem_cons.1 hx with rfl | hx
          · omega
          · have:=((h4 x).1 hx).1;omega)
        simp only [List.length_cons] at this
        omega
      have hrunT:=crowd_send_room (P:=Y.P) (sl:=sl) (i:=c+i) hg (by rw [show (c+i == 0)=false by have:=hcom.c0;simp;omega];exact hcm) h1 hroom (partners_nil fun k g' hk'=>by
        rw [Array.getElem?_setIfInBounds] at hk'
        split at hk'
        · split at hk'
          · cases hk';exact offersAt_ph _ _
          · cases hk'
        · exact hoff k g' hk')
      have hT:Turns (fun b=>b=Y.Ch) w (w.setChan Y.Ch Y.n (buf.push v) false (sn+1) 0 false):=Turns.chan
      have hcl:Y.Ch < w.heap.size:=(Array.getElem?_eq_some_iff.1 h1).1
      have hci:c+i < gs.size:=(Array.getElem?_eq_some_iff.1 hg).1
      have hTo:∀ b,b=Y.Ch→(D i).own b∨b=Y.Wg∨b=Y.Ch:=fun b hb => .inr (.inr hb)
      have has:=hcom.aside hi hTo
      have hlive':=live_of hT (fun e=>hcom.wgl.2 e) hlive
      have hwg':=at_of hT (fun e=>hcom.wgl.2 e) hwg
      have rlyO:∀ k,k < j→Rly Y.fro (D k).own w (w.setChan Y.Ch Y.n (buf.push v) false (sn+1) 0 false):=fun k hk=>hT.rly has.1 fun b hb ho=>hcom.ownW k hk b ho hb
      obtain ⟨m₂,hk⟩:=hk (w.setChan Y.Ch Y.n (buf.push v) false (sn+1) 0 false) hlive' (by
        have:(w.setChan Y.Ch Y.n (buf.push v) false (sn+1) 0 false).cell? ⟨C,0,none⟩=w.cell? ⟨C,0,none⟩:=cell_of_heap (hT.keep C (hcom.own_low hi (by rw [how];exact hC)) hCc)
        exact this.trans hHas)
      have hcom':=hcom.stepW (x:=⟨7,.mk ι f,m₂,0,O⟩) (gs':=gs.setIfInBounds (c+i) (g₂.finishComm Y.P #[scase Y.Ch v z] .send 0 undef false)) (u:=MemOp.ofEvents (c+i) g.frame.fn g.frame.place #[]++#[{ g:=c+i,fn:=g₂.frame.fn,pos:=g₂.frame.place,act := .send Y.Ch sn },{ g:=c+i,fn:=g₂.frame.fn,pos:=g₂.frame.place,act := .sendDone Y.Ch sn }]) hi (by simp) (by simp [hci]) (fun k k1 k2=>by rw [Array.getElem?_setIfInBounds_ne (Ne.symm k2)]) hT hTo (fun _=>hlive') (.r0 hC hk) (fun b hb=>by rw [how] at hb;exact hb) (fun b hb => .inl (by rw [how];exact hb)) (fun op hop => ?_) ?_ (fun h=>absurd h (by simp)) ?_
      · refine ⟨_,_,mu Y c j (updX D i ⟨7,.mk ι f,m₂,0,O⟩) tag ρ0 f0 q,hrunT,?_,_,_,sl,j,updX D i ⟨7,.mk ι f,m₂,0,O⟩,tag,ρ0,f0,d0,O0,q,a,st,sm,rfl,by rw [Array.getElem?_setIfInBounds_ne (by have:=hcom.c0;omega)];exact ha,hcs.rely (rs_of hT has.1 has.2 fun _=>hlive'),hcom',hwg',?_,rfl⟩
        · refine Lt3.one ?_
          have e1:=Vc_upd (toD D) (toW ⟨7,.mk ι f,m₂,0,O⟩) hi
          rw [← toD_upd] at e1
          have c1:cnt (toW ⟨7,.mk ι f,m₂,0,O⟩)=cnt (toD D i):=by simp [cnt,toW,h8]
          have e2:Ssum j (updX D i ⟨7,.mk ι f,m₂,0,O⟩)+(D i).stage=Ssum j D+7:=sumTo_updX D _ WX.stage hi
          rw [show Vc j (toD (updX D i ⟨7,.mk ι f,m₂,0,O⟩))=Vc j (toD D) by omega]
          omega
        · rw [toD_upd]
          have:=hmode.same (i:=i) m₂ 0
          rw [h8] at this
          exact this
      · have:op∈(#[{ g:=c+i,fn:=g₂.frame.fn,pos:=g₂.frame.place,act := .send Y.Ch sn },{ g:=c+i,fn:=g₂.frame.fn,pos:=g₂.frame.place,act := .sendDone Y.Ch sn }]:Array MemOp):=by
          rcases Array.mem_append.1 hop with z | z
          · simp [ofEvents_eq] at z
          · exact z
        simp only [List.mem_toArray,List.mem_cons,List.not_mem_nil,or_false] at this
        have hs':=hT.size
        rcases this with rfl | rfl
        · exact ⟨rfl,Nat.lt_of_lt_of_le hcl hs',by simp,fun x hx=>by simp [MemAct.touch?] at hx⟩
        · exact ⟨rfl,Nat.lt_of_lt_of_le hcl hs',by simp,fun x hx=>by simp [MemAct.touch?] at hx⟩
      · have:MemOp.ofEvents (c+i) g.frame.fn g.frame.place #[]=#[]:=by simp [ofEvents_eq]
        rw [this,Array.empty_append,Go.ConcN.Deaf_still,hdk]
        intro op hop
        simp only [List.mem_toArray,List.mem_cons,List.not_mem_nil,or_false] at hop
        rcases hop with rfl | rfl<;>exact ⟨by simp,by simp⟩
      · refine ⟨buf.push v,sn+1,L++[i],by simp [World.setChan,hcl],by simp [h2],?_,fun k => ?_,fun p k v' hp hv => ?_⟩
        · rw [List.nodup_append]
          exact ⟨h3,by simp,fun x hx y hy=>by simp at hy;subst hy;exact fun e=>hiL (e▸hx)⟩
        · rw [List.mem_append,h4]
          by_cases e:k=i
          · subst e;rw [updX_same];simp;omega
          · rw [updX_ne D _ e];simp [e]
        · rw [List.getElem?_append] at hp
          rw [Array.getElem?_push] at hv
          split at hp
          · rename_i hlt
            rw [if_neg (by omega)] at hv
            have hk':=(h4 k).1 (List.mem_of_getElem? hp)
            have hki:k≠i:=fun e=>hiL (e▸List.mem_of_getElem? hp)
            rw [updX_ne D _ hki]
            exact K.res _ _ _ _ _ (h5 p k v' hp hv) (rlyO k hk'.1)
          · rename_i hge
            have hp0:p=L.length:=by
              have:=(List.getElem?_eq_some_iff.1 hp).1
              simp at this;omega
            subst hp0
            simp at hp
            subst hp
            rw [if_pos (by omega)] at hv
            cases hv
            rw [updX_same]
            have:=rlyO _ hi
            rw [how] at this
            exact K.res _ _ _ _ _ hres this
    · obtain ⟨g',w',es,ix,hgo,hG,hg'⟩:=h w (Rly.refl _ _ _)
      have hT:=Turns.of_guar hG
      have hTW:¬ O Y.Wg:=fun ho=>hcom.ownWg hi (by rw [how];exact ho)
      have hTC:¬ O Y.Ch:=fun ho=>hcom.ownW i hi _ (by rw [how];exact ho) rfl
      refine workerStep (x:=⟨8,f ix,0,0,grow O w w'⟩) ha hcs hcom hi hg hgo hT (fun b hb => .inl (by rw [how];exact hb)) hTC K (.work hg') (fun b hb => .inl (by rw [how] at hb;exact hb)) (fun b hb=>by rw [how];exact hb) (fun v h7=>by omega) ?_ (by rw [hde];exact deaf_priv hG.evs 0) ⟨fun h=>absurd h (by simp),fun h=>by omega⟩ (fun h=>absurd h (by simp)) (at_of hT hTW hwg) (fun tag' e _ => ?_) (.inr ⟨hst.symm,?_,.inl ?_⟩)
      · refine okW_priv (O:=O) rfl (fun b hb=>⟨by omega,by omega,?_⟩) (fun b hb => ?_) hG.evs
        · rw [show c+i - c=i by omega,updX_same];exact .inl hb
        · rcases hb with hb | hb
          · exact Nat.lt_of_lt_of_le (hcom.fro b hb).1 hT.size
          · exact Nat.lt_of_lt_of_le (hcom.own_low hi (by rw [how];exact hb)) hT.size
      · rw [toD_upd]
        have:=hmode.same (i:=i) 0 0
        rw [h8] at this
        exact this.retag (isW3_blk e)
      · simp only [cnt,h8];simp [toW]
      · rw [hra];exact ⟨ix,rfl⟩
  | r0 hC h =>
    rcases Goes.cases h with hstop | ⟨m',rfl,hstep⟩
    · obtain ⟨_,g',hgo,m₂,hk⟩:=hstop w (RW.refl w)
      refine bookG (s':=6) (by omega) (by omega) hgo (.refl Y.Wg w) hwg (by intro e he;simp at he;exact .inr he) (.k1 hC hk) (by simp [deafBehind,mk]) (fun _=>⟨t.size,RelBy.new hdk _ _⟩) (fun tag' e _ => ?_) (.inl ⟨by omega,?_⟩)
      · exact (hmode.counted hi (by rw [hsD (by omega)];omega) (.inl rfl) _ _).retag (isW3_blk e)
      · simp [cnt,hsD]
    · obtain ⟨g',w',es,hgo,⟨rfl,rfl⟩,hg'⟩:=hstep w (RW.refl w)
      exact idle (by omega) hgo (.r0 hC hg') rfl
  | k1 hC h =>
    rcases Goes.cases h with hstop | ⟨m',rfl,hstep⟩
    · obtain ⟨_,g',hgo,m₂,hk⟩:=hstop w (RW.refl w)
      refine book (s':=5) (by omega) (by omega) hgo (.refl Y.Wg w) hwg (by intro e he;simp at he;subst he;exact .inl rfl) (by intro jx e he;exact .inl (by have:=Array.mem_of_getElem? he;simp at this;subst this;rfl)) (.d1 hC hk) (by simp [deafBehind,mk]) (fun tag' e _ => ?_) (.inl ⟨by omega,?_⟩)
      · exact (hmode.counted hi (by rw [hsD (by omega)];omega) (.inr rfl) _ _).retag (isW3_blk e)
      · simp [cnt,hsD]
    · obtain ⟨g',w',es,hgo,⟨rfl,rfl⟩,hg'⟩:=hstep w (RW.refl w)
      exact idle (by omega) hgo (.k1 hC hg') rfl
  | d1 hC h =>
    rcases Goes.cases h with hstop | ⟨m',rfl,hstep⟩
    · obtain ⟨_,hall⟩:=hstop w (RW.refl w)
      have hsD:=hsD (by omega)
      have hc1:cnt (toD D i)=1:=by simp [cnt,hsD]
      have hV1:1≤Vc j (toD D):=by have:=Go.ConcN.le_sumTo (f:=fun x=>cnt (toD D x)) hi;simp only [Vc];omega
      have bk2:∀ e∈#[rd (stA Y.Wg),wr (stA Y.Wg)],Bk Y.Wg e:=by intro e he;simp at he;rcases he with rfl | rfl<;>exact Go.ConcN.bk_cell _ _ rfl
      have df2:∀ jx e,(#[rd (stA Y.Wg),wr (stA Y.Wg)]:Array Event)[jx]? = some e→(MemAct.ofEvent e).touch? = none∨0 < deafBehind 1 ((#[rd (stA Y.Wg),wr (stA Y.Wg)]:Array Event).extract 0 jx):=by
        intro jx e he
        match jx,he with
        | 0,_=>exact .inr (by simp [deafBehind])
        | 1,_=>exact .inr (by simp [deafBehind,rd])
        | jx+2,he=>simp at he
      have hq0:∀ q,cnt (⟨1,q,1⟩:WD)=0:=fun _=>rfl
      have opq:∀ q,OpenSt j (toD D)→OpenSt j (upd (toD D) i ⟨1,q,1⟩):=fun q h a ha=>by
        by_cases e:a=i
        · subst e;rw [upd_same];simp
        · rw [upd_ne (toD D) _ e];exact h a ha
      have hm:=hmode
      generalize htg:toC tag=tg at hm hb
      cases hm with
      | opn h1 h2 h3 =>
        obtain ⟨v,hv⟩:∃ v,Vc j (toD D)+pend tg=v+1:=⟨Vc j (toD D)+pend tg - 1,by omega⟩
        rw [hv] at hwg
        have hw1:WgAt Y.ty Y.Wg w (((v:Nat)+1)*KK+((0:Nat):Int)) 0:=by simpa using hwg
        obtain ⟨g',hgo,_,hq⟩:=hall v 0 (by omega) (by omega) hw1
        obtain ⟨qq,hq⟩:=hq (by omega)
        have hv':Vc j (upd (toD D) i ⟨1,qq,1⟩)+pend tg=v:=by have:=Vc_upd (toD D) (⟨1,qq,1⟩:WD) hi;have:=hq0 qq;omega
        refine book (s':=1) (by omega) (by omega) hgo (aside_setCell w (stA Y.Wg) _) (hwg.setSt _) bk2 df2 (.quit hq) rfl (fun tag' et _=>Go.ConcN.Mode.retag ?_ (by have:=isW3_blk et;rw [htg] at this;exact this)) (.inl ⟨by omega,by simp [cnt]⟩)
        have e:((v:Nat):Int)*KK+((0:Nat):Int)=((Vc j (upd (toD D) i ⟨1,qq,1⟩)+pend tg:Nat):Int)*KK:=by rw [hv'];simp
        rw [e]
        exact .opn h1 (opq qq h2) (fun vs ev=>by have:=h3 vs ev;omega)
      | reg h1 h2 h3 =>
        obtain ⟨v,hv⟩:∃ v,Vc j (toD D)=v+1:=⟨Vc j (toD D) - 1,by omega⟩
        rw [hv] at hwg
        have hw1:WgAt Y.ty Y.Wg w (((v:Nat)+1)*KK+((1:Nat):Int)) 0:=by simpa using hwg
        obtain ⟨g',hgo,hl,hq⟩:=hall v 1 (by omega) (by omega) hw1
        by_cases hv0:v=0
        · subst hv0
          obtain ⟨m₂,hk⟩:=hl ⟨rfl,rfl⟩
          refine book (s':=4) (by omega) (by omega) hgo (aside_setCell w (stA Y.Wg) _) (hwg.setSt _) bk2 df2 (.d2 hC hk) rfl (fun tag' et _=>Go.ConcN.Mode.retag ?_ (by have:=isW3_blk et;rw [htg] at this;exact this)) (.inl ⟨by omega,by simp [cnt]⟩)
          have hoth:∀ a,a < j→a≠i→(toD D a).stage=1:=fun a ha e=>by
            have c0:=others_uncounted hi hv hc1 a ha e
            have:=h2 a ha
            simp only [cnt] at c0
            split at c0<;>omega
          have:=Go.ConcN.Mode.last (j:=j) (D:=upd (toD D) i ⟨4,m₂,1⟩) (tag:=tg) i h1 hi (by rw [upd_same];simp) (fun a ha e=>by rw [upd_ne (toD D) _ e];exact hoth a ha e)
          rw [upd_same] at this
          simpa using this
        · obtain ⟨qq,hq⟩:=hq (by omega)
          have hv':Vc j (upd (toD D) i ⟨1,qq,1⟩)=v:=by have:=Vc_upd (toD D) (⟨1,qq,1⟩:WD) hi;have:=hq0 qq;omega
          refine book (s':=1) (by omega) (by omega) hgo (aside_setCell w (stA Y.Wg) _) (hwg.setSt _) bk2 df2 (.quit hq) rfl (fun tag' et _=>Go.ConcN.Mode.retag ?_ (by have:=isW3_blk et;rw [htg] at this;exact this)) (.inl ⟨by omega,by simp [cnt]⟩)
          have e:((v:Nat):Int)*KK+((1:Nat):Int)=((Vc j (upd (toD D) i ⟨1,qq,1⟩):Nat):Int)*KK+1:=by rw [hv'];simp
          rw [e]
          exact .reg h1 (opq qq h2) (by omega)
      | last L _ h2 h3 h4 =>
        by_cases e:i=L
        · subst e;omega
        · have:=h4 i hi e;omega
      | sema h2=>have:=h2 i hi;omega
      | fin _ h2=>have:=h2 i hi;omega
    · obtain ⟨g',w',es,hgo,⟨rfl,rfl⟩,hg'⟩:=hstep w (RW.refl w)
      exact idle (by omega) hgo (.d1 hC hg') rfl
  | d2 hC h =>
    rcases Goes.cases h with hstop | ⟨m',rfl,hstep⟩
    · obtain ⟨_,hx⟩:=hstop w (RW.refl w)
      have hsD:=hsD (by omega)
      obtain ⟨hW3,hoth,rfl,rfl⟩:=hmode.isLast hi (by omega)
      simp only [hsD] at hwg
      obtain ⟨g',hgo,m₂,hk⟩:=hx (by simpa using hwg)
      refine book (s':=3) (by omega) (by omega) hgo (.refl Y.Wg w) hwg (by intro e he;simp at he;subst he;exact Go.ConcN.bk_cell _ _ rfl) (by intro jx e he;match jx,he with | 0,_=>exact .inr (by simp [deafBehind]) | jx+1,he=>simp at he) (.d3 hC hk) rfl (fun tag' et _=>Go.ConcN.Mode.retag ?_ (isW3_blk et)) (.inl ⟨by omega,by simp [cnt]⟩)
      have:=Go.ConcN.Mode.last (j:=j) (D:=upd (toD D) i ⟨3,m₂,1⟩) (tag:=toC tag) i hW3 hi (by rw [upd_same];simp) (fun a ha e=>by rw [upd_ne (toD D) _ e];exact hoth a ha e)
      rw [upd_same] at this
      simpa using this
    · obtain ⟨g',w',es,hgo,⟨rfl,rfl⟩,hg'⟩:=hstep w (RW.refl w)
      exact idle (by omega) hgo (.d2 hC hg') rfl
  | d3 hC h =>
    rcases Goes.cases h with hstop | ⟨m',rfl,hstep⟩
    · obtain ⟨_,hx⟩:=hstop w (RW.refl w)
      have hsD:=hsD (by omega)
      obtain ⟨hW3,hoth,rfl,rfl⟩:=hmode.isLast hi (by omega)
      simp only [hsD] at hwg
      obtain ⟨g',hgo,m₂,hk⟩:=hx (by simpa using hwg)
      refine book (s':=2) (by omega) (by omega) hgo (aside_setCell w (stA Y.Wg) _) (hwg.setSt 0) (by intro e he;simp at he;subst he;exact Go.ConcN.bk_cell _ _ rfl) (by intro jx e he;match jx,he with | 0,_=>exact .inr (by simp [deafBehind]) | jx+1,he=>simp at he) (.d4 hC hk) rfl (fun tag' et _=>Go.ConcN.Mode.retag ?_ (isW3_blk et)) (.inl ⟨by omega,by simp [cnt]⟩)
      have:=Go.ConcN.Mode.last (j:=j) (D:=upd (toD D) i ⟨2,m₂,1⟩) (tag:=toC tag) i hW3 hi (by rw [upd_same];simp) (fun a ha e=>by rw [upd_ne (toD D) _ e];exact hoth a ha e)
      rw [upd_same] at this
      simpa using this
    · obtain ⟨g',w',es,hgo,⟨rfl,rfl⟩,hg'⟩:=hstep w (RW.refl w)
      exact idle (by omega) hgo (.d3 hC hg') rfl
  | d4 hC h =>
    rcases Goes.cases h with hstop | ⟨m',rfl,hstep⟩
    · obtain ⟨_,hmw,hx⟩:=hstop w (RW.refl w)
      have hsD:=hsD (by omega)
      obtain ⟨hW3,hoth,rfl,rfl⟩:=hmode.isLast hi (by omega)
      simp only [hsD] at hwg
      obtain ⟨g',hgo,qq,hq⟩:=hx (by simpa using hwg)
      have hrun':g'.status = .running:=by
        cases qq with
        | zero=>exact absurd hq.2 (by decide)
        | succ qq=>exact hq.elim (fun x=>absurd x.2 (by decide)) (fun x=>x.1)
      refine book (s':=1) (by omega) (by omega) hgo (aside_setCell w (smA Y.Wg) _) (hwg.setSm 1) (es:=semEvents (smA Y.Wg)) ?_ ?_ (.quit hq) (by simp [deafBehind,semEvents]) ?_ (.inl ⟨by omega,by simp [cnt]⟩)
      · intro e he
        simp [semEvents] at he
        rcases he with rfl | rfl | rfl | rfl
        · exact .inl rfl
        · exact Go.ConcN.bk_cell _ _ rfl
        · exact Go.ConcN.bk_cell _ _ rfl
        · exact .inr (.inl rfl)
      · intro jx e he
        match jx,he with
        | 0,he=>simp [semEvents] at he;subst he;exact .inl rfl
        | 1,_=>exact .inr (by simp [deafBehind,semEvents])
        | 2,_=>exact .inr (by simp [deafBehind,semEvents])
        | 3,he=>simp [semEvents] at he;subst he;exact .inl rfl
        | jx+4,he=>simp [semEvents] at he
      · intro tag' ht hw
        have hnb:=hw hmw hrun'
        have e3:toC tag' = .w3:=by
          rcases ht with rfl | ⟨_,rfl⟩
          · cases tag'<;>first | rfl | exact hW3.elim | exact absurd rfl hnb
          · rfl
        rw [e3]
        simp only [if_true]
        exact .sema fun a ha=>by
          by_cases e:a=i
          · subst e;rw [upd_same]
          · rw [upd_ne (toD D) _ e];exact hoth a ha e
    · obtain ⟨g',w',es,hgo,⟨rfl,rfl⟩,hg'⟩:=hstep w (RW.refl w)
      exact idle (by omega) hgo (.d4 hC hg') rfl
  | quit h =>
    cases m with
    | zero=>rw [h.1] at hrun;cases hrun
    | succ qq =>
      rcases h with ⟨hf,_⟩ | ⟨_,g',es,hmute,hstep,hq⟩
      · rw [hf] at hrun;cases hrun
      · have hbk:∀ e∈es,Bk Y.Wg e:=fun e he=>bk_of_mute (hmute e he)
        have hno:∀ jx e,es[jx]? = some e→(MemAct.ofEvent e).touch? = none∨0 < deafBehind dd (es.extract 0 jx):=fun jx e he => .inl (by
          rcases bk_of_mute (Wg:=Y.Wg) (hmute e (Array.mem_of_getElem? he)) with h1 | h1 | ⟨a,wr,rfl,_⟩
          · rw [ofEvent_loc_mark h1];rfl
          · rw [ofEvent_loc_mark h1];rfl
          · have:=hmute _ (Array.mem_of_getElem? he);simp [Event.mute] at this)
        refine book (s':=1) (by omega) (by omega) (hstep w) (.refl Y.Wg w) hwg hbk hno (.quit hq) rfl (fun tag' et _=>Go.ConcN.Mode.retag ?_ (isW3_blk et)) (.inr ⟨rfl,rfl⟩)
        have:=hmode.same (i:=i) qq (deafBehind dd es)
        rwa [hsD (by omega)] at this
end
end Go.Id
namespace Go.Id
open Go.Conc
open Go.ConcN (ShN RelBy WgLive PayAt Has RW DWs AtD4 AtD3 AtD2 AtD1 AtK1 AtR0 sumTo upd sumTo_upd upd_ne upd_same CTag WD Vc cnt Vc_upd Vc_le others_uncounted isW3 OpenSt pend isOpen isFin AllQuit)
open Go.ConcR (KK wgBlock WgAt stA smA rd wr mk Payload Aside2 DC0 again_blocked Bk bk_of_mute ofEvent_loc_mark ofEvent_cell ofEvent_mk)
set_option linter.unusedVariables false
set_option linter.unusedSectionVars false
def Bk0 (Wg:Nat) (e:Event):Prop:=Bk Wg e∨e=mk (.read (smA Wg))∨e=mk (.write (smA Wg))∨e=mk (.acquire (stA Wg))
theorem ok0_book {Shun:Loc→Prop} {Wg B c j:Nat} {F:Fam} {fn:FuncId} {pos:String} {es:Array Event} (hB:Wg < B) (h:∀ e∈es,Bk0 Wg e):∀ op∈MemOp.ofEvents 0 fn pos es,Ok0' Shun Wg F c j B op:=by
  intro op hop
  rw [ofEvents_eq] at hop
  obtain ⟨e,he,rfl⟩:=Array.mem_map.1 hop
  rcases h e he with (h1 | h1 | ⟨a,wr,rfl,ha⟩) | rfl | rfl | rfl
  · simp only [ofEvent_loc_mark h1];exact ⟨rfl,trivial,by simp,fun x hx=>by simp only at hx;cases hx⟩
  · simp only [ofEvent_loc_mark h1];exact ⟨rfl,trivial,by simp,fun x hx=>by simp only at hx;cases hx⟩
  · refine ⟨rfl,by simp only [ofEvent_cell];show a.block < B;omega,by simp [ofEvent_cell],fun x hx => ?_⟩
    simp only [ofEvent_cell,MemAct.touch?,Option.some.injEq] at hx
    subst hx
    exact .inl ⟨⟨a,rfl,ha⟩,by simp⟩
  · refine ⟨rfl,hB,by simp [ofEvent_mk],fun x hx => ?_⟩
    simp [ofEvent_mk,MemAct.touch?] at hx
    subst hx
    exact .inl ⟨⟨_,rfl,rfl⟩,by simp⟩
  · refine ⟨rfl,hB,by simp [ofEvent_mk],fun x hx => ?_⟩
    simp [ofEvent_mk,MemAct.touch?] at hx
    subst hx
    exact .inl ⟨⟨_,rfl,rfl⟩,by simp⟩
  · refine ⟨rfl,hB,by simp [ofEvent_mk],fun x hx => ?_⟩
    simp [ofEvent_mk,MemAct.touch?] at hx
variable [Payload]
section
variable {Y:Ph} {Fin:(Nat→Prop)→Goroutine→World→Prop} {Shun:Loc→Prop} {c j:Nat} {gs:Array Goroutine} {w w':World} {sl:Option (Nat×Nat)} {t u:Trace} {D:Nat→WX} {tag:Tg} {ρ0:Rk} {f0 d0:Nat} {O0:Nat→Prop} {q:Nat→Nat} {a:Goroutine} {st sm:Int}
theorem Com.ok0_priv (h:Com Y Shun c j gs w t D d0 O0 q) {B:Nat} (hB:w.heap.size≤B) {fn:FuncId} {pos:String} {es:Array Event} (he:∀ e∈es,EvOk Y.fro O0 e):∀ op∈MemOp.ofEvents 0 fn pos es,Ok0' Shun Y.Wg (famOf Y c j D) c j B op:=by
  intro op hop
  rw [ofEvents_eq] at hop
  obtain ⟨e,hm,rfl⟩:=Array.mem_map.1 hop
  have he:=he e hm
  obtain ⟨loc,wr,sy⟩:=e
  have low:∀ b,(Y.fro b∨O0 b)→b < B:=fun b hb=>hb.elim (fun z=>Nat.lt_of_lt_of_le (h.fro b z).1 hB) (fun z=>Nat.lt_of_lt_of_le (h.own0 b z).1 hB)
  have key:∀ (l:Loc) (b:Nat),blockOf l=some b→(Y.fro b∨O0 b)→¬ Shun l∧∀ k,c≤k→k < c+j→¬ (famOf Y c j D).own k b:=fun l b hl hb=>hb.elim (fun z=>⟨h.fam.fsh l b z hl,fun k _ _ ho=>h.fam.ofr k b ho z⟩) (fun z=>⟨fun hs=>h.shO l b hs hl z,fun k k1 k2 ho=>(h.own0 b z).2.2.2 (k - c) (by omega) ho.2.2⟩)
  unfold EvOk at he
  cases loc with
  | cell a =>
    simp only at he
    obtain ⟨rfl,he⟩:=he
    have hin:Y.fro a.block∨O0 a.block:=by cases wr<;>simp at he<;>first | exact he | exact .inr he
    refine ⟨rfl,low _ hin,by simp [MemAct.ofEvent],fun x hx => .inr ?_⟩
    simp [MemAct.ofEvent,MemAct.touch?] at hx
    subst hx
    refine ⟨(key _ a.block rfl hin).1,fun b hb => ?_⟩
    simp [blockOf] at hb
    subst hb
    refine ⟨(key (.cell a) _ rfl hin).2,fun hw hf => ?_⟩
    subst hw
    simp at he
    exact (h.own0 _ he).2.1 hf
  | obj r =>
    simp only at he
    obtain ⟨rfl,he⟩:=he
    refine ⟨rfl,by have:=low _ (.inr he);simpa [MemAct.ofEvent,MemAct.low,Loc.low] using this,by simp [MemAct.ofEvent],fun x hx => .inr ?_⟩
    simp [MemAct.ofEvent,MemAct.touch?] at hx
    subst hx
    refine ⟨(key (.obj r) r rfl (.inr he)).1,fun b hb => ?_⟩
    simp [blockOf] at hb
    subst hb
    exact ⟨(key (.obj r) _ rfl (.inr he)).2,fun _ hf=>(h.own0 _ he).2.1 hf⟩
  | mark m =>
    cases m<;>simp only at he
    exact ⟨rfl,trivial,by simp [MemAct.ofEvent],fun x hx=>by simp [MemAct.ofEvent,MemAct.touch?] at hx⟩
  | output=>exact he.elim
  | goroutines=>exact he.elim
theorem callerStep (K:PhOk Y) (ha:gs[0]? = some a) (hcom:Com Y Shun c j gs w t D d0 O0 q) {a':Goroutine} {es:Array Event} {tag':Tg} {ρ':Rk} {f':Nat} {O0':Nat→Prop} {st' sm':Int}
    (hgo:stepG Y.P true a w = .go a' w' es) {T:Nat→Prop} (hT:Turns T w w') (hTo:∀ b,T b→O0 b∨b=Y.Wg) (hn:∀ b,O0' b→O0 b∨(w.heap.size≤b∧b < w'.heap.size))
    (hok:∀ op∈MemOp.ofEvents 0 a.frame.fn a.frame.place es,Ok0' Shun Y.Wg (famOf Y c j D) c j w'.heap.size op) (hcs':CS Y Fin tag' j ρ' f' (deafBehind d0 es) O0' a' w') (hwg:WgAt Y.ty Y.Wg w' st' sm') (hmode:Go.ConcN.Mode j (toD D) (toC tag') st' sm')
    (hlt:phi Y.n (Vc j (toD D)) tag' < phi Y.n (Vc j (toD D)) tag∨(phi Y.n (Vc j (toD D)) tag'=phi Y.n (Vc j (toD D)) tag∧(Rk.lt ρ' ρ0∨(ρ'=ρ0∧f' < f0)))) :
    ∃ m₁ ops μ',runT Y.P (crowd gs w sl) 0=(.next m₁,ops)∧Lt3 μ' (mu Y c j D tag ρ0 f0 q)∧Inv Y Fin Shun c μ' m₁ (t++ops):=by
  have hrun:=runT_crowd_go (P:=Y.P) (sl:=sl) (i:=0) ha (by simpa using hgo)
  have hlt0:0 < gs.size:=(Array.getElem?_eq_some_iff.1 ha).1
  refine ⟨_,_,mu Y c j D tag' ρ' f' q,hrun,?_,_,w',sl,j,D,tag',ρ',f',deafBehind d0 es,O0',q,a',st',sm',rfl,by simp [hlt0],hcs',hcom.step0 K (by simp) (fun k k1=>by rw [Array.getElem?_setIfInBounds_ne (by omega)];exact hcom.same a a' w' k1) hT hTo (fun _=>⟨_,_,hwg⟩) hn hok (by rw [Deaf_own,hcom.deaf0]),hwg,hmode,rfl⟩
  unfold mu
  rcases hlt with h | ⟨h1,h | ⟨h2,h3⟩⟩
  · exact Lt3.one (by omega)
  · exact Lt3.two (by omega) (Rk.pair_left h _)
  · exact Lt3.three (by omega) (by rw [h2]) (by omega)
def Ended (Y:Ph) (Fin:(Nat→Prop)→Goroutine→World→Prop) (Shun:Loc→Prop) (c:Nat) (m:Machine) (t:Trace):Prop :=
  ∃ gs w sl D O0 q a,m=crowd gs w sl∧gs[0]? = some a∧Fin O0 a w∧Com Y Shun c Y.n gs w t D 0 O0 q∧(∀ i,i < Y.n→(D i).stage=1)∧Past Shun w.heap.size t
theorem GTr.ix {ι:Type} {f:ι→Rk} {i:ι}:Rk.lt (f i) (.mk ι f):=⟨i,rfl⟩
theorem mode_open {j:Nat} {D:Nat→WD} {tg tg':CTag} {st sm:Int} (h:Go.ConcN.Mode j D tg st sm) (h1:isOpen tg) (h2:isOpen tg') (hp:pend tg'=pend tg) (hw:∀ vs,tg' ≠ .w2 vs):Go.ConcN.Mode j D tg' st sm:=by
  cases h with
  | opn a1 a2 a3=>rw [← hp];exact .opn h2 a2 (fun vs e=>absurd e (hw vs))
  | reg a1 _ _=>cases tg<;>first | exact a1.elim | exact h1.elim
  | last L a1 _ _ _=>cases tg<;>first | exact a1.elim | exact h1.elim
  | sema _=>exact h1.elim
  | fin a1 _=>cases tg<;>first | exact a1.elim | exact h1.elim
theorem mode_st {j:Nat} {D:Nat→WD} {tg:CTag} {st sm:Int} (h:Go.ConcN.Mode j D tg st sm) (h1:isOpen tg):st=((Vc j D+pend tg:Nat):Int)*KK∧sm=0∧OpenSt j D∧(∀ vs,tg = .w2 vs→Vc j D≤vs∧1≤vs):=by
  cases h with
  | opn a1 a2 a3=>exact ⟨rfl,rfl,a2,a3⟩
  | reg a1 _ _=>cases tg<;>first | exact a1.elim | exact h1.elim
  | last L a1 _ _ _=>cases tg<;>first | exact a1.elim | exact h1.elim
  | sema _=>exact h1.elim
  | fin a1 _=>cases tg<;>first | exact a1.elim | exact h1.elim
theorem mode_fin {j:Nat} {D:Nat→WD} {tg:CTag} {st sm:Int} (h:Go.ConcN.Mode j D tg st sm) (h1:isFin tg):st=0∧sm=0∧AllQuit j D:=by
  cases h with
  | opn a1 _ _=>cases tg<;>first | exact a1.elim | exact h1.elim
  | reg a1 _ _=>cases tg<;>first | exact a1.elim | exact h1.elim
  | last L a1 _ _ _=>cases tg<;>first | exact a1.elim | exact h1.elim
  | sema _=>exact h1.elim
  | fin a1 a2=>exact ⟨rfl,rfl,a2⟩
theorem quit_of {j:Nat} {D:Nat→WD} (h:OpenSt j D) (hv:Vc j D=0):AllQuit j D:=fun i hi=>by
  have:=Go.ConcN.le_sumTo (f:=fun x=>cnt (D x)) hi
  simp only [Vc] at hv
  have h1:=h i hi
  simp only [cnt] at this hv
  rw [hv] at this
  split at this<;>omega
theorem hmode_blk {j:Nat} {D:Nat→WD} {st:Int} (h:Go.ConcN.Mode j D .w3 st 0):Go.ConcN.Mode j D .blk st 0:=by
  cases h with
  | opn a1 _ _=>exact a1.elim
  | reg a1 a2 a3=>exact .reg trivial a2 a3
  | last L a1 a2 a3 a4=>exact .last L trivial a2 a3 a4
  | fin a1 _=>exact a1.elim
set_option maxHeartbeats 1600000 in
theorem stepCaller (K:PhOk Y) (hn:Y.n < 2147483648) (ha:gs[0]? = some a) (hcs:CS Y Fin tag j ρ0 f0 d0 O0 a w) (hcom:Com Y Shun c j gs w t D d0 O0 q) (hwg:WgAt Y.ty Y.Wg w st sm) (hmode:Go.ConcN.Mode j (toD D) (toC tag) st sm) (hrun:a.status = .running) :
    (∃ m₁ ops,runT Y.P (crowd gs w sl) 0=(.next m₁,ops)∧Ended Y Fin Shun c m₁ (t++ops))∨∃ m₁ ops μ',runT Y.P (crowd gs w sl) 0=(.next m₁,ops)∧Lt3 μ' (mu Y c j D tag ρ0 f0 q)∧Inv Y Fin Shun c μ' m₁ (t++ops):=by
  have hVj:=Vc_le j (toD D)
  have hbnd:=hcs.bound
  have hlive:WgLive Y.ty Y.Wg w:=⟨_,_,hwg⟩
  have book:∀ {a':Goroutine} {w':World} {es:Array Event} {tag':Tg} {ρ':Rk} {f':Nat} {st' sm':Int},stepG Y.P true a w = .go a' w' es→Aside Y.Wg w w'→WgAt Y.ty Y.Wg w' st' sm'→(∀ e∈es,Bk0 Y.Wg e)→CS Y Fin tag' j ρ' f' (deafBehind d0 es) O0 a' w' →
      Go.ConcN.Mode j (toD D) (toC tag') st' sm'→(phi Y.n (Vc j (toD D)) tag' < phi Y.n (Vc j (toD D)) tag∨(phi Y.n (Vc j (toD D)) tag'=phi Y.n (Vc j (toD D)) tag∧(Rk.lt ρ' ρ0∨(ρ'=ρ0∧f' < f0)))) →
      ∃ m₁ ops μ',runT Y.P (crowd gs w sl) 0=(.next m₁,ops)∧Lt3 μ' (mu Y c j D tag ρ0 f0 q)∧Inv Y Fin Shun c μ' m₁ (t++ops) :=
    fun hgo hAs hwg' hbk hcs' hmode' hlt=>callerStep K ha hcom hgo (Turns.of_aside hAs) (fun b hb => .inr hb) (fun b hb => .inl hb) (ok0_book (Nat.lt_of_lt_of_le hcom.wgl.1 (Turns.of_aside hAs).size) hbk) hcs' hwg' hmode' hlt
  have idle:∀ {a':Goroutine} {f':Nat},stepG Y.P true a w = .go a' w #[]→CS Y Fin tag j ρ0 f' d0 O0 a' w→f' < f0 →
      ∃ m₁ ops μ',runT Y.P (crowd gs w sl) 0=(.next m₁,ops)∧Lt3 μ' (mu Y c j D tag ρ0 f0 q)∧Inv Y Fin Shun c μ' m₁ (t++ops) :=
    fun hgo hcs' hlt=>book hgo (.refl Y.Wg w) hwg (by simp) (by simpa [deafBehind] using hcs') hmode (.inr ⟨rfl,.inr ⟨rfl,hlt⟩⟩)
  have tree:∀ {a':Goroutine} {w':World} {es:Array Event} {ρ':Rk},stepG Y.P true a w = .go a' w' es→Guar Y.fro O0 w w' es→CS Y Fin tag j ρ' 0 d0 (grow O0 w w') a' w'→Rk.lt ρ' ρ0 →
      ∃ m₁ ops μ',runT Y.P (crowd gs w sl) 0=(.next m₁,ops)∧Lt3 μ' (mu Y c j D tag ρ0 f0 q)∧Inv Y Fin Shun c μ' m₁ (t++ops) :=
    fun hgo hG hcs' hlt=>callerStep K ha hcom hgo (Turns.of_guar hG) (fun b hb => .inl hb) (fun b hb=>hb) (hcom.ok0_priv hG.size hG.evs) (by rw [deaf_priv hG.evs];exact hcs') (at_of (Turns.of_guar hG) (fun ho=>hcom.shO _ Y.Wg (hcom.shW _ sh_wg) rfl ho) hwg) hmode (.inr ⟨rfl,.inl hlt⟩)
  have bmk:∀ {m:Mark},(m = .disable∨m = .enable)→∀ e∈#[mk m],Bk0 Y.Wg e:=by
    intro m hm e he
    simp at he;subst he
    rcases hm with rfl | rfl
    · exact .inl (.inl rfl)
    · exact .inl (.inr (.inl rfl))
  have openM:∀ {tg:Tg},isOpen (toC tag)→isOpen (toC tg)→pend (toC tg)=pend (toC tag)→(∀ vs,toC tg ≠ .w2 vs)→Go.ConcN.Mode j (toD D) (toC tg) st sm:=fun h1 h2 h3 h4=>mode_open hmode h1 h2 h3 h4
  have bk2:∀ e∈#[rd (stA Y.Wg),wr (stA Y.Wg)],Bk0 Y.Wg e:=by intro e he;simp at he;rcases he with rfl | rfl<;>exact .inl (Go.ConcN.bk_cell _ _ rfl)
  have bk1:∀ e∈#[rd (stA Y.Wg)],Bk0 Y.Wg e:=by intro e he;simp at he;subst he;exact .inl (Go.ConcN.bk_cell _ _ rfl)
  have atW1:∀ {Anch:Goroutine→World→Prop},AncOk Y Fin O0 Anch→AtW1 Y O0 Fin Anch a w→isOpen (toC tag)→pend (toC tag)=0→j=Y.n→8*Vc j (toD D)+5≤phi Y.n (Vc j (toD D)) tag→d0=1 →
      ∃ m₁ ops μ',runT Y.P (crowd gs w sl) 0=(.next m₁,ops)∧Lt3 μ' (mu Y c j D tag ρ0 f0 q)∧Inv Y Fin Shun c μ' m₁ (t++ops):=by
    intro Anch hA hW ho hp hj hph hd
    subst hj
    subst hd
    obtain ⟨_,hall⟩:=hW
    obtain ⟨e1,rfl,e3,e4⟩:=mode_st hmode ho
    rw [hp,Nat.add_zero] at e1
    subst e1
    obtain ⟨g',hgo,hz,hnz⟩:=hall _ (by omega) hwg
    by_cases hv:Vc Y.n (toD D)=0
    · obtain ⟨m₂,hk⟩:=hz hv
      refine book (tag' := .ke) hgo (.refl Y.Wg w) hwg bk1 (by simpa [deafBehind,rd] using CS.ke (ρ:=ρ0) hk) ?_ (.inl (Nat.lt_of_lt_of_le (show (3:Nat) < 8*Vc Y.n (toD D)+5 by omega) hph))
      rw [hv]
      have:=Go.ConcN.Mode.fin (tag := .ke) trivial (quit_of e3 hv)
      show Go.ConcN.Mode Y.n (toD D) .ke _ 0
      simpa using this
    · obtain ⟨m₂,hk⟩:=hnz hv
      refine book (tag' := .w2 (Vc Y.n (toD D))) hgo (.refl Y.Wg w) hwg bk1 (by simpa [deafBehind,rd] using CS.w2 (ρ:=ρ0) hA hk) ?_ (.inl (Nat.lt_of_lt_of_le (show 8*Vc Y.n (toD D)+4 < 8*Vc Y.n (toD D)+5 by omega) hph))
      have:=Go.ConcN.Mode.opn (tag := .w2 (Vc Y.n (toD D))) trivial e3 (fun vs e=>by cases e;omega)
      simpa [pend,toC] using this
  cases hcs with
  | spt h1 h =>
    rename_i r
    cases ρ0 with
    | mk ι f =>
    rcases h with h | ⟨_,h⟩
    · obtain ⟨m,hm⟩:=h w (Rly.refl _ _ _) hlive
      rcases Goes.cases hm with hstop | ⟨m',rfl,hstep⟩
      · obtain ⟨_,g',hgo,m₂,hk⟩:=hstop w (RS.refl _ w)
        exact .inr (book (tag' := .sp r 4) hgo (.refl Y.Wg w) hwg (bmk (.inl rfl)) (by simpa [deafBehind,mk] using CS.sa1 (ρ := .mk ι f) h1 hk) (openM trivial trivial rfl (by simp [toC])) (.inl (by simp only [phi];omega)))
      · obtain ⟨g',w',es,hgo,⟨rfl,rfl⟩,hg'⟩:=hstep w (RS.refl _ w)
        exact .inr (book (tag' := .sp r 5) hgo (.refl Y.Wg w') hwg (by simp) (by simpa [deafBehind] using CS.skd (ρ := .mk ι f) h1 hg') (openM trivial trivial rfl (by simp [toC])) (.inl (by simp only [phi];omega)))
    · obtain ⟨g',w',es,ix,hgo,hG,hg'⟩:=h w (Rly.refl _ _ _)
      exact .inr (tree hgo hG (.spt h1 hg') GTr.ix)
  | skd h1 h =>
    rename_i r
    rcases Goes.cases h with hstop | ⟨m',rfl,hstep⟩
    · obtain ⟨_,g',hgo,m₂,hk⟩:=hstop w (RS.refl _ w)
      exact .inr (book (tag' := .sp r 4) hgo (.refl Y.Wg w) hwg (bmk (.inl rfl)) (by simpa [deafBehind,mk] using CS.sa1 (ρ:=ρ0) h1 hk) (openM trivial trivial rfl (by simp [toC])) (.inl (by simp only [phi];omega)))
    · obtain ⟨g',w',es,hgo,⟨rfl,rfl⟩,hg'⟩:=hstep w (RS.refl _ w)
      exact .inr (idle hgo (.skd h1 hg') (by omega))
  | sa1 h1 h =>
    rename_i r
    rcases Goes.cases h with hstop | ⟨m',rfl,hstep⟩
    · obtain ⟨_,hall⟩:=hstop w (RS.refl _ w)
      obtain ⟨e1,rfl,e3,_⟩:=mode_st hmode trivial
      have hp:pend (toC (.sp r 4))=0:=rfl
      rw [hp,Nat.add_zero] at e1
      subst e1
      obtain ⟨g',hgo,hz,hnz⟩:=hall _ (by omega) hwg
      have hst:WgAt Y.ty Y.Wg (w.setCell (stA Y.Wg) (.int .u64 ((Vc (Y.n - (r+1)) (toD D)+1)*KK))) ((Vc (Y.n - (r+1)) (toD D)+1)*KK) 0:=hwg.setSt _
      by_cases hv:Vc (Y.n - (r+1)) (toD D)=0
      · obtain ⟨m₂,hk⟩:=hz hv
        exact .inr (book (tag' := .sp r 3) hgo (aside_setCell w (stA Y.Wg) _) hst bk2 (by simpa [deafBehind,rd,wr] using CS.ssr (ρ:=ρ0) h1 hk) (Go.ConcN.Mode.opn (tag := .sp r 3) trivial e3 (by simp)) (.inl (by simp only [phi];omega)))
      · obtain ⟨m₂,hk⟩:=hnz hv
        exact .inr (book (tag' := .sp r 2) hgo (aside_setCell w (stA Y.Wg) _) hst bk2 (by simpa [deafBehind,rd,wr] using CS.ske (ρ:=ρ0) h1 hk) (Go.ConcN.Mode.opn (tag := .sp r 2) trivial e3 (by simp)) (.inl (by simp only [phi];omega)))
    · obtain ⟨g',w',es,hgo,⟨rfl,rfl⟩,hg'⟩:=hstep w (RS.refl _ w)
      exact .inr (idle hgo (.sa1 h1 hg') (by omega))
  | ssr h1 h =>
    rename_i r
    rcases Goes.cases h with hstop | ⟨m',rfl,hstep⟩
    · obtain ⟨_,g',hgo,m₂,hk⟩:=hstop w (RS.refl _ w)
      exact .inr (book (tag' := .sp r 2) hgo (.refl Y.Wg w) hwg (by intro e he;simp at he;subst he;exact .inr (.inl rfl)) (by simpa [deafBehind,mk] using CS.ske (ρ:=ρ0) h1 hk) (openM trivial trivial rfl (by simp [toC])) (.inl (by simp only [phi];omega)))
    · obtain ⟨g',w',es,hgo,⟨rfl,rfl⟩,hg'⟩:=hstep w (RS.refl _ w)
      exact .inr (idle hgo (.ssr h1 hg') (by omega))
  | ske h1 h =>
    rename_i r
    rcases Goes.cases h with hstop | ⟨m',rfl,hstep⟩
    · obtain ⟨_,g',hgo,ρ',hk⟩:=hstop w (RS.refl _ w)
      exact .inr (book (tag' := .sp r 1) hgo (.refl Y.Wg w) hwg (bmk (.inr rfl)) (by simpa [deafBehind,mk] using CS.sgo h1 hk) (openM trivial trivial rfl (by simp [toC])) (.inl (by simp only [phi];omega)))
    · obtain ⟨g',w',es,hgo,⟨rfl,rfl⟩,hg'⟩:=hstep w (RS.refl _ w)
      exact .inr (idle hgo (.ske h1 hg') (by omega))
  | sgo h1 h =>
    rename_i r
    cases ρ0 with
    | mk ι f =>
    rcases h with h | ⟨_,h⟩
    · obtain ⟨_,g',child,n,hsp,hcr,hnO,⟨ρw,hw⟩,ρn,hnx⟩:=h w (Rly.refl _ _ _)
      have hrunT:=runT_crowd_spawn (P:=Y.P) (sl:=sl) (i:=0) ha (by simpa using hsp)
      have hlt0:0 < gs.size:=(Array.getElem?_eq_some_iff.1 ha).1
      generalize hj:Y.n - (r+1)=j at *
      have hcom':=hcom.spawn (a':=g') (child:=child) (n:=n) (x:=⟨8,ρw,0,0,n⟩) hnO ⟨rfl,rfl,rfl,rfl⟩ hw rfl (e1:={ g:=0,fn:=a.frame.fn,pos:=a.frame.place,act := .go (c+j) }) (e2:={ g:=c+j,fn:=child.frame.fn,pos:=a.frame.place,act := .start }) ⟨rfl,rfl⟩ ⟨rfl,rfl⟩
      obtain ⟨e1,rfl,e3,_⟩:=mode_st hmode trivial
      have hV:Vc (j+1) (toD (updX D j ⟨8,ρw,0,0,n⟩))=Vc j (toD D)+1:=by
        simp only [Vc,sumTo]
        rw [Go.ConcN.sumTo_congr (g:=fun i=>cnt (toD D i)) (fun k hk=>by simp only [toD];rw [updX_ne D _ (by omega)])]
        simp [toD,updX_same,toW,cnt]
      have hS:Ssum (j+1) (updX D j ⟨8,ρw,0,0,n⟩)=Ssum j D+8:=by
        simp only [Ssum,sumTo]
        rw [Go.ConcN.sumTo_congr (g:=fun i=>(D i).stage) (fun k hk=>by rw [updX_ne D _ (by omega)])]
        simp [updX_same]
      have hop:OpenSt (j+1) (toD (updX D j ⟨8,ρw,0,0,n⟩)):=fun k hk=>by
        by_cases e:k=j
        · subst e;simp [toD,updX_same,toW]
        · simp only [toD];rw [updX_ne D _ e];exact e3 k (by omega)
      have hmd:∀ tg,isOpen (toC tg)→pend (toC tg)=0→(∀ vs,toC tg ≠ .w2 vs)→Go.ConcN.Mode (j+1) (toD (updX D j ⟨8,ρw,0,0,n⟩)) (toC tg) st 0:=fun tg h1 h2 h3=>by
        have:=Go.ConcN.Mode.opn (j:=j+1) (D:=toD (updX D j ⟨8,ρw,0,0,n⟩)) (tag:=toC tg) h1 hop (fun vs e=>absurd e (h3 vs))
        rw [h2,Nat.add_zero,hV] at this
        rw [e1];exact this
      have hops:((MemOp.ofEvents 0 a.frame.fn a.frame.place #[]).push { g:=0,fn:=a.frame.fn,pos:=a.frame.place,act := .go gs.size } |>.push { g:=gs.size,fn:=child.frame.fn,pos:=a.frame.place,act := .start })=#[({ g:=0,fn:=a.frame.fn,pos:=a.frame.place,act := .go (c+j) }:MemOp),{ g:=c+j,fn:=child.frame.fn,pos:=a.frame.place,act := .start }]:=by
        rw [hcom.size];simp [ofEvents_eq]
      rw [hops] at hrunT
      cases r with
      | zero =>
        refine .inr ⟨_,_,mu Y c (j+1) (updX D j ⟨8,ρw,0,0,n⟩) .kd0 ρn 0 q,hrunT,Lt3.one ?_,_,w,sl,j+1,updX D j ⟨8,ρw,0,0,n⟩,.kd0,ρn,0,0,_,q,g',st,0,rfl,by rw [Array.getElem?_push,if_neg (by simp;omega)];simp [hlt0],?_,hcom',hwg,hmd .kd0 trivial rfl (by simp [toC]),rfl⟩
        · rw [hS];simp only [phi];omega
        · rw [show j+1=Y.n by omega]
          exact .kd0 hnx
      | succ r =>
        refine .inr ⟨_,_,mu Y c (j+1) (updX D j ⟨8,ρw,0,0,n⟩) (.sp r 6) ρn 0 q,hrunT,Lt3.one ?_,_,w,sl,j+1,updX D j ⟨8,ρw,0,0,n⟩,.sp r 6,ρn,0,0,_,q,g',st,0,rfl,by rw [Array.getElem?_push,if_neg (by simp;omega)];simp [hlt0],?_,hcom',hwg,hmd (.sp r 6) trivial rfl (by simp [toC]),rfl⟩
        · rw [hS];simp only [phi];omega
        · have:=CS.spt (Fin:=Fin) (show r < Y.n by omega) hnx
          rw [show Y.n - (r+1)=j+1 by omega] at this
          exact this
    · obtain ⟨g',w',es,ix,hgo,hG,hg'⟩:=h w (Rly.refl _ _ _)
      exact .inr (tree hgo hG (.sgo h1 hg') GTr.ix)
  | kd0 h =>
    cases ρ0 with
    | mk ι f =>
    rcases h with h | ⟨_,h⟩
    · obtain ⟨A,hA1,hA2,m,hm⟩:=h w (Rly.refl _ _ _) hlive
      rcases Goes.cases hm with hstop | ⟨m',rfl,hstep⟩
      · obtain ⟨_,g',hgo,m₂,hk⟩:=hstop w (RS.refl _ w)
        exact .inr (book (tag' := .anch) hgo (.refl Y.Wg w) hwg (bmk (.inl rfl)) (by simpa [deafBehind,mk] using CS.anch (ρ := .mk ι f) ⟨hA1,hA2⟩ hk) (openM trivial trivial rfl (by simp [toC])) (.inl (by simp only [phi];omega)))
      · obtain ⟨g',w',es,hgo,⟨rfl,rfl⟩,hg'⟩:=hstep w (RS.refl _ w)
        exact .inr (book (tag' := .kd) hgo (.refl Y.Wg w') hwg (by simp) (by simpa [deafBehind] using CS.kd (ρ := .mk ι f) ⟨hA1,hA2⟩ hg') (openM trivial trivial rfl (by simp [toC])) (.inl (by simp only [phi];omega)))
    · obtain ⟨g',w',es,ix,hgo,hG,hg'⟩:=h w (Rly.refl _ _ _)
      exact .inr (tree hgo hG (.kd0 hg') GTr.ix)
  | kd hA h =>
    rcases Goes.cases h with hstop | ⟨m',rfl,hstep⟩
    · obtain ⟨_,g',hgo,m₂,hk⟩:=hstop w (RS.refl _ w)
      exact .inr (book (tag' := .anch) hgo (.refl Y.Wg w) hwg (bmk (.inl rfl)) (by simpa [deafBehind,mk] using CS.anch (ρ:=ρ0) hA hk) (openM trivial trivial rfl (by simp [toC])) (.inl (by simp only [phi];omega)))
    · obtain ⟨g',w',es,hgo,⟨rfl,rfl⟩,hg'⟩:=hstep w (RS.refl _ w)
      exact .inr (idle hgo (.kd hA hg') (by omega))
  | anch hA h =>
    rcases Goes.cases h with hstop | ⟨m',rfl,hstep⟩
    · obtain ⟨m,hm⟩:=hA.2 _ _ (hstop w (RS.refl _ w))
      rcases Goes.cases hm with hs1 | ⟨m',rfl,hstep⟩
      · exact .inr (atW1 hA (hs1 w (RS.refl _ w)) trivial (by rfl) (by rfl) (by simp only [phi];omega) rfl)
      · obtain ⟨g',w',es,hgo,⟨rfl,rfl⟩,hg'⟩:=hstep w (RS.refl _ w)
        exact .inr (book (tag' := .w1) hgo (.refl Y.Wg w') hwg (by simp) (by simpa [deafBehind] using CS.w1 (ρ:=ρ0) hA hg') (openM trivial trivial rfl (by simp [toC])) (.inl (by simp only [phi];omega)))
    · obtain ⟨g',w',es,hgo,⟨rfl,rfl⟩,hg'⟩:=hstep w (RS.refl _ w)
      exact .inr (idle hgo (.anch hA hg') (by omega))
  | w1 hA h =>
    rcases Goes.cases h with hstop | ⟨m',rfl,hstep⟩
    · exact .inr (atW1 hA (hstop w (RS.refl _ w)) trivial (by rfl) (by rfl) (by simp only [phi];omega) rfl)
    · obtain ⟨g',w',es,hgo,⟨rfl,rfl⟩,hg'⟩:=hstep w (RS.refl _ w)
      exact .inr (idle hgo (.w1 hA hg') (by omega))
  | w2 hA h =>
    rename_i vs A
    rcases Goes.cases h with hstop | ⟨m',rfl,hstep⟩
    · obtain ⟨_,hall⟩:=hstop w (RS.refl _ w)
      obtain ⟨e1,rfl,e3,e4⟩:=mode_st hmode trivial
      have hp:pend (toC (.w2 vs))=0:=rfl
      rw [hp,Nat.add_zero] at e1
      subst e1
      obtain ⟨h1,h2⟩:=e4 vs rfl
      obtain ⟨hz,hnz⟩:=hall _ (by omega) hwg
      by_cases hv:Vc Y.n (toD D)=vs
      · obtain ⟨g',hgo,m₂,hk⟩:=hz hv
        exact .inr (book (tag' := .sw) hgo (aside_setCell w (stA Y.Wg) _) (hwg.setSt _) bk2 (by simpa [deafBehind,rd,wr] using CS.sw (ρ:=ρ0) hk) (Go.ConcN.Mode.reg (tag := .w3) trivial e3 (by omega)) (.inl (by simp only [phi];omega)))
      · obtain ⟨g',hgo,m₂,hk⟩:=hnz hv
        exact .inr (book (tag' := .anch) hgo (.refl Y.Wg w) hwg bk1 (by simpa [deafBehind,rd] using CS.anch (ρ:=ρ0) hA hk) (openM trivial trivial rfl (by simp [toC])) (.inl (by simp only [phi];omega)))
    · obtain ⟨g',w',es,hgo,⟨rfl,rfl⟩,hg'⟩:=hstep w (RS.refl _ w)
      exact .inr (idle hgo (.w2 hA hg') (by omega))
  | sw h =>
    rcases Goes.cases h with hstop | ⟨m',rfl,hstep⟩
    · obtain ⟨_,g',hgo,m₂,hk⟩:=hstop w (RS.refl _ w)
      exact .inr (book (tag' := .w3) hgo (.refl Y.Wg w) hwg (by intro e he;simp at he;subst he;exact .inr (.inr (.inl rfl))) (by simpa [deafBehind,mk] using CS.w3 (ρ:=ρ0) hk) hmode (.inl (by simp only [phi];omega)))
    · obtain ⟨g',w',es,hgo,⟨rfl,rfl⟩,hg'⟩:=hstep w (RS.refl _ w)
      exact .inr (idle hgo (.sw hg') (by omega))
  | w3 h =>
    rcases Goes.cases h with hstop | ⟨m',rfl,hstep⟩
    · obtain ⟨_,hoff,hb,hs⟩:=hstop w (RS.refl _ w)
      have blocks:sm=0→∃ m₁ ops μ',runT Y.P (crowd gs w sl) 0=(.next m₁,ops)∧Lt3 μ' (mu Y c Y.n D .w3 ρ0 _ q)∧Inv Y Fin Shun c μ' m₁ (t++ops):=fun h0=>by
        subst h0
        exact book (tag' := .blk) (hb ⟨_,hwg⟩) (.refl Y.Wg w) hwg (by simp) (by simpa [deafBehind] using CS.blk (ρ:=ρ0) hstop) (hmode_blk hmode) (.inr ⟨rfl,.inr ⟨rfl,by omega⟩⟩)
      cases hmode with
      | opn h1 _ _=>exact h1.elim
      | fin h1 _=>exact h1.elim
      | reg h1 h2 h3=>exact .inr (blocks rfl)
      | last L h1 h2 h3 h4=>exact .inr (blocks rfl)
      | sema h2 =>
        obtain ⟨g',hgo,m₂,hk⟩:=hs hwg
        exact .inr (book (tag' := .w4) hgo (aside_setCell w (smA Y.Wg) _) (hwg.setSm 0) (by
          intro e he
          simp [semEvents] at he
          rcases he with rfl | rfl | rfl | rfl
          · exact .inl (.inl rfl)
          · exact .inl (Go.ConcN.bk_cell _ _ rfl)
          · exact .inl (Go.ConcN.bk_cell _ _ rfl)
          · exact .inl (.inr (.inl rfl))) (by simpa [deafBehind,semEvents] using CS.w4 (ρ:=ρ0) hk) (Go.ConcN.Mode.fin (tag := .w4) trivial h2) (.inl (by simp only [phi];omega)))
    · obtain ⟨g',w',es,hgo,⟨rfl,rfl⟩,hg'⟩:=hstep w (RS.refl _ w)
      exact .inr (idle hgo (.w3 hg') (by omega))
  | blk h=>simp at hrun
  | w4 h =>
    rcases Goes.cases h with hstop | ⟨m',rfl,hstep⟩
    · obtain ⟨_,hx⟩:=hstop w (RS.refl _ w)
      obtain ⟨rfl,rfl,hq⟩:=mode_fin hmode trivial
      obtain ⟨g',hgo,m₂,hk⟩:=hx hwg
      exact .inr (book (tag' := .ke) hgo (.refl Y.Wg w) hwg bk1 (by simpa [deafBehind,rd] using CS.ke (ρ:=ρ0) hk) (Go.ConcN.Mode.fin (tag := .ke) trivial hq) (.inl (by simp only [phi];omega)))
    · obtain ⟨g',w',es,hgo,⟨rfl,rfl⟩,hg'⟩:=hstep w (RS.refl _ w)
      exact .inr (idle hgo (.w4 hg') (by omega))
  | ke h =>
    rcases Goes.cases h with hstop | ⟨m',rfl,hstep⟩
    · obtain ⟨_,g',hgo,m₂,hk⟩:=hstop w (RS.refl _ w)
      obtain ⟨rfl,rfl,hq⟩:=mode_fin hmode trivial
      exact .inr (book (tag' := .acq) hgo (.refl Y.Wg w) hwg (bmk (.inr rfl)) (by simpa [deafBehind,mk] using CS.acq (ρ:=ρ0) hk) (Go.ConcN.Mode.fin (tag := .acq) trivial hq) (.inl (by simp only [phi];omega)))
    · obtain ⟨g',w',es,hgo,⟨rfl,rfl⟩,hg'⟩:=hstep w (RS.refl _ w)
      exact .inr (idle hgo (.ke hg') (by omega))
  | acq h =>
    rcases Goes.cases h with hstop | ⟨m',rfl,hstep⟩
    · obtain ⟨_,g',hgo,hk⟩:=hstop w (RS.refl _ w)
      obtain ⟨rfl,rfl,hq⟩:=mode_fin hmode trivial
      have hst1:∀ i,i < Y.n→(D i).stage=1:=fun i hi=>by
        have:=hq i hi
        rw [getw] at this
        split at this<;>omega
      have hrunT:=runT_crowd_go (P:=Y.P) (sl:=sl) (i:=0) ha (by simpa using hgo)
      have hlt0:0 < gs.size:=(Array.getElem?_eq_some_iff.1 ha).1
      have e1:MemOp.ofEvents 0 a.frame.fn a.frame.place #[mk (.acquire (stA Y.Wg))]=#[{ g:=0,fn:=a.frame.fn,pos:=a.frame.place,act := .mark (.acquire (stA Y.Wg)) }]:=by rw [ofEvents_eq];simp [ofEvent_mk]
      have hcom':=hcom.step0 (gs':=(gs.map (woken Y.P a g' w)).setIfInBounds 0 g') (u:=MemOp.ofEvents 0 a.frame.fn a.frame.place #[mk (.acquire (stA Y.Wg))]) (d':=0) (O0':=O0) K (by simp) (fun k k1=>by rw [Array.getElem?_setIfInBounds_ne (by omega)];exact hcom.same a g' w k1) (Turns.refl (fun _=>False) w) (fun b hb=>hb.elim) id (fun b hb => .inl hb) (ok0_book hcom.wgl.1 (by intro e he;simp at he;subst he;exact .inr (.inr (.inr rfl)))) (by rw [Deaf_own,hcom.deaf0];simp [deafBehind,mk])
      have hy:(t++#[({ g:=0,fn:=a.frame.fn,pos:=a.frame.place,act := .mark (.acquire (stA Y.Wg)) }:MemOp)])[t.size]? = some { g:=0,fn:=a.frame.fn,pos:=a.frame.place,act := .mark (.acquire (stA Y.Wg)) }:=by simp
      refine .inl ⟨_,_,hrunT,_,w,sl,D,O0,q,g',rfl,by simp [hlt0],hk,hcom',hst1,?_⟩
      refine hcom'.pt.end hcom'.deaf0 (q:=t.size) ?_ ?_ ?_ (fun i hi => ?_)
      · rw [e1,act?_of hy]
      · rw [e1];simp [Trace.g?]
      · rw [e1];exact ⟨0,by simp [Trace.g?],by rw [deaf_old (Nat.le_refl _)];exact hcom.deaf0⟩
      · obtain ⟨r,hr⟩:=hcom.rel i hi (by rw [hst1 i hi];omega)
        refine ⟨r,relBy_other hr (g:=0) (fun op hop => ?_) (by have:=hcom.c0;omega),lt_of_act? hr.act⟩
        rw [e1] at hop;simp at hop;rw [hop]
    · obtain ⟨g',w',es,hgo,⟨rfl,rfl⟩,hg'⟩:=hstep w (RS.refl _ w)
      exact .inr (idle hgo (.acq hg') (by omega))
end
end Go.Id
namespace Go.Id
open Go.Conc
open Go.ConcN (ShN RelBy WgLive sumTo upd sumTo_upd upd_ne upd_same CTag WD Vc cnt exists_counted)
open Go.ConcR (KK WgAt stA smA rd wr mk Payload DC0 bk_of_mute ofEvent_loc_mark)
set_option linter.unusedVariables false
set_option linter.unusedSectionVars false
variable [Payload]
section
variable {Y:Ph} {Fin:(Nat→Prop)→Goroutine→World→Prop} {Shun:Loc→Prop} {c j:Nat} {gs:Array Goroutine} {w w':World} {sl:Option (Nat×Nat)} {t u:Trace} {D:Nat→WX} {tag:Tg} {ρ0:Rk} {f0 d0:Nat} {O0:Nat→Prop} {q:Nat→Nat} {a:Goroutine} {st sm:Int}
theorem statuses (ha:gs[0]? = some a) (hcs:CS Y Fin tag j ρ0 f0 d0 O0 a w) (hcom:Com Y Shun c j gs w t D d0 O0 q) (hl:WgLive Y.ty Y.Wg w):∀ (k:Nat) (g:Goroutine),gs[k]? = some g→(g.status = .running∨g.status = .finished)∨(k=0∧g.status = .blocked∧g.offers=none):=by
  intro k g hk
  rcases Nat.eq_zero_or_pos k with rfl | hp
  · rw [ha] at hk;cases hk
    rcases hcs.status hl with h | ⟨h,rfl⟩
    · exact .inl (.inl h)
    · refine .inr ⟨rfl,h,?_⟩
      cases hcs with
      | blk hb=>exact (hb w (RS.refl _ w)).2.1
  · rcases Nat.lt_or_ge k c with hlt | hge
    · exact .inl (hcom.old k g hp hlt hk).status
    · have hlt:k < c+j:=by have:=(Array.getElem?_eq_some_iff.1 hk).1;rw [hcom.size] at this;exact this
      obtain ⟨y,hy,hs⟩:=hcom.wk (k - c) (by omega)
      rw [show c+(k - c)=k by omega,hk] at hy
      cases hy
      exact .inl hs.status
theorem all_awake (ha:gs[0]? = some a) (hcs:CS Y Fin tag j ρ0 f0 d0 O0 a w) (hcom:Com Y Shun c j gs w t D d0 O0 q) (hl:WgLive Y.ty Y.Wg w):∀ g∈gs,awake g:=by
  intro g hg tm
  obtain ⟨i,hi⟩:=Array.mem_iff_getElem?.1 hg
  rcases statuses ha hcs hcom hl i g hi with (h | h) | ⟨_,h,_⟩<;>rw [h]<;>simp
theorem no_offers (ha:gs[0]? = some a) (hcs:CS Y Fin tag j ρ0 f0 d0 O0 a w) (hcom:Com Y Shun c j gs w t D d0 O0 q) (hl:WgLive Y.ty Y.Wg w) (r:Nat):∀ (k:Nat) (g:Goroutine),gs[k]? = some g→offersAt g r false=[]:=by
  intro k g hk
  rcases statuses ha hcs hcom hl k g hk with (h | h) | ⟨_,h,ho⟩
  · exact offersAt_of_not_blocked (by rw [h];simp) _ _
  · exact offersAt_of_not_blocked (by rw [h];simp) _ _
  · unfold offersAt;simp [ho]
theorem someone_runs (ha:gs[0]? = some a) (hcs:CS Y Fin tag j ρ0 f0 d0 O0 a w) (hcom:Com Y Shun c j gs w t D d0 O0 q) (hl:WgLive Y.ty Y.Wg w) (hmode:Go.ConcN.Mode j (toD D) (toC tag) st sm):∃ (i:Nat) (g:Goroutine),gs[i]? = some g∧g.status = .running:=by
  rcases hcs.status hl with hs | ⟨_,rfl⟩
  · exact ⟨0,a,ha,hs⟩
  · have wk:∀ i,i < j→(toD D i).stage≠1→∃ (i:Nat) (g:Goroutine),gs[i]? = some g∧g.status = .running:=fun i hi h=>by
      obtain ⟨g,hg,hs⟩:=hcom.wk i hi
      exact ⟨c+i,g,hg,hs.running (fun e=>h (by rw [getw,if_neg (by omega),e]))⟩
    cases hmode with
    | opn h1 _ _=>exact h1.elim
    | reg _ _ h3 =>
      obtain ⟨i,hi,h5⟩:=exists_counted h3
      exact wk i hi (by omega)
    | last L _ h2 h3 _=>exact wk L h2 (by omega)
    | fin h1 _=>exact h1.elim
theorem stepLeaver (ha:gs[0]? = some a) (hcs:CS Y Fin tag j ρ0 f0 d0 O0 a w) (hcom:Com Y Shun c j gs w t D d0 O0 q) (hwg:WgAt Y.ty Y.Wg w st sm) (hmode:Go.ConcN.Mode j (toD D) (toC tag) st sm)
    {i:Nat} (hi:0 < i) (hic:i < c) {g:Goroutine} (hg:gs[i]? = some g) (hrun:g.status = .running) :
    ∃ m₁ ops μ',runT Y.P (crowd gs w sl) i=(.next m₁,ops)∧Lt3 μ' (mu Y c j D tag ρ0 f0 q)∧Inv Y Fin Shun c μ' m₁ (t++ops):=by
  have hq:=hcom.old i g hi hic hg
  have hlt:i < gs.size:=(Array.getElem?_eq_some_iff.1 hg).1
  cases hqi:q i with
  | zero=>rw [hqi] at hq;rw [hq.1] at hrun;cases hrun
  | succ k =>
    rw [hqi] at hq
    rcases hq with ⟨hf,_⟩ | ⟨_,g',es,hm,hstp,hq'⟩
    · rw [hf] at hrun;cases hrun
    have hrunT:=runT_crowd_go (P:=Y.P) (sl:=sl) (i:=i) hg (by rw [show (i == 0)=false by simp;omega];exact hstp w)
    obtain ⟨tag',f',hcs',hf',htag,hwk⟩:=hcs.wokenBy ⟨_,_,hwg⟩ (RS.refl O0 w) g g'
    have hcom':=hcom.stepL (k:=k) (gs':=(gs.map (woken Y.P g g' w)).setIfInBounds i g') (u:=MemOp.ofEvents i g.frame.fn g.frame.place es) hi hic (g':=g') (by simp) (by simp [hlt]) (fun k k1 k2=>by rw [Array.getElem?_setIfInBounds_ne (Ne.symm k2)];exact hcom.same g g' w k1) (by rw [Deaf_own];exact hq') (fun op hop=>by
      rw [ofEvents_eq] at hop
      obtain ⟨e,he,rfl⟩:=Array.mem_map.1 hop
      refine ⟨rfl,touch_mute (hm e he),low_mute (hm e he) _,fun e' => ?_⟩
      have:=hm e he
      obtain ⟨loc,wr,sy⟩:=e
      cases loc<;>simp_all [Event.mute,MemAct.ofEvent])
    refine ⟨_,_,mu Y c j D tag' ρ0 f' (upd q i k),hrunT,?_,_,w,sl,j,D,tag',ρ0,f',d0,O0,upd q i k,woken Y.P g g' w a,st,sm,rfl,by rw [Array.getElem?_setIfInBounds_ne (by omega),Array.getElem?_map,ha];rfl,hcs',hcom',hwg,hmode.retag (isW3_blk htag),rfl⟩
    unfold mu
    rw [phi_retag Y.n _ htag]
    have:=sumTo_upd q k id hic
    simp only [id] at this
    have e2:sumTo c (upd q i k)+q i=sumTo c q+k:=this
    exact Lt3.three rfl rfl (by omega)
theorem phase_step (K:PhOk Y) (hn:Y.n < 2147483648):∀ μ m t,Inv Y Fin Shun c μ m t →
    (∃ m' ops,stepT Y.P m=(.next m',ops)∧Ended Y Fin Shun c m' (t++ops))∨(∃ m' ops μ',stepT Y.P m=(.next m',ops)∧Lt3 μ' μ∧Inv Y Fin Shun c μ' m' (t++ops)):=by
  rintro μ m t ⟨gs,w,sl,j,D,tag,ρ0,f0,d0,O0,q,a,st,sm,rfl,ha,hcs,hcom,hwg,hmode,rfl⟩
  have hl:WgLive Y.ty Y.Wg w:=⟨_,_,hwg⟩
  obtain ⟨i,g,d,sl',hg,hrun,hstep⟩:=crowd_pick (P:=Y.P) (w:=w) (sl:=sl) (all_awake ha hcs hcom hl) (someone_runs ha hcs hcom hl hmode)
  rw [hstep]
  have hcs':=hcs.rely (show RS Y O0 w (w.at d) from ⟨rly_at w d,id⟩)
  have hcom':=hcom.at K d
  have hwg':WgAt Y.ty Y.Wg (w.at d) st sm:=hwg
  rcases Nat.eq_zero_or_pos i with rfl | hp
  · rw [ha] at hg;cases hg
    exact stepCaller K hn ha hcs' hcom' hwg' hmode hrun
  · rcases Nat.lt_or_ge i c with hlt | hge
    · exact .inr (stepLeaver ha hcs' hcom' hwg' hmode hp hlt hg hrun)
    · have hlt:i < c+j:=by have:=(Array.getElem?_eq_some_iff.1 hg).1;rw [hcom.size] at this;exact this
      have:=stepWorker (sl:=sl') K hn ha hcs' hcom' hwg' hmode (no_offers ha hcs' hcom' ⟨_,_,hwg'⟩ Y.Ch) (i:=i - c) (by omega) (g:=g) (by rw [show c+(i - c)=i by omega];exact hg) hrun
      rw [show c+(i - c)=i by omega] at this
      exact .inr this
theorem phase_runs (K:PhOk Y) (hn:Y.n < 2147483648):∀ μ m t,Inv Y Fin Shun c μ m t→∃ N m' t',runNT Y.P N m t=(.next m',t')∧Ended Y Fin Shun c m' t':=by
  intro μ
  induction μ using Lt3.wf.induction with
  | _ μ ih =>
    intro m t h
    rcases phase_step K hn μ m t h with ⟨m',ops,h1,h2⟩ | ⟨m',ops,μ',h1,h2,h3⟩
    · exact ⟨1,m',t++ops,by simp only [runNT,h1],h2⟩
    · obtain ⟨N,m'',t'',h4,h5⟩:=ih μ' h2 m' (t++ops) h3
      exact ⟨N+1,m'',t'',by simp only [runNT,h1];exact h4,h5⟩
end
end Go.Id
namespace Go.Id
open Go.Conc
set_option linter.unusedVariables false
section
variable {P:Program} {fn:Func} {f:FuncId} {lo:Nat} {Post:Value→Hp→Prop} {h:Hp}
theorem stepG_done {b:Frame} {a:Act} {w w':World} {todo:List Item} {v:Value} (hn:b.kind = .normal) (hd:a.defers=[]) (hf:P.funcs[b.fn]? = some fn) (hi:P.inits.idxOf? b.fn=none) (hr:(results fn a.tmps).run P w = .ok v w') :
    stepG P true (G { b.at a todo with mode := .returning } []) w = .ended (.done v) w' (seen P b.fn ((results fn a.tmps).events P w #[])):=by
  simp [G,stepG,unwind,doReturn,Frame.at,hn,hd,hf,hr,hi,GStep.after]
def lowOf (W:World):Nat→Prop:=fun b=>b < W.heap.size
def Told (N0:Nat→Prop) (lo:Nat) (Post:Value→Hp→Prop) (W:World) (s:Sim) (vr:Value) (w':World):Prop :=
  ∃ v h' s' O',Post v h'∧s.le s'∧SimOk N0 lo s' O' h' w'∧VR s' v vr∧Kept N0 (fun _=>False) W w'
theorem Told.at {N0:Nat→Prop} {W:World} {s:Sim} {vr:Value} {w w₁:World} (H:Told N0 lo Post W s vr w) (r:AtRel w w₁):Told N0 lo Post W s vr w₁:=by
  obtain ⟨d,rfl⟩:=r
  obtain ⟨v,h',s',O',h1,h2,h3,h4,h5⟩:=H
  exact ⟨v,h',s',O',h1,h2,h3.rely (rly_at w d),h4,h5.trans ⟨fun _ h=>h.elim,fun _ _=>rfl,Nat.le_refl _,rfl,rfl⟩⟩
theorem main_run {c:Code} {args:List Value} (hf:P.funcs[f]? = some fn) (hb:fn.body=some c) (hlen:args.length≤fn.ntmps) (hi:P.inits.idxOf? f=none) {W:World} {argsr:Array Value} {s:Sim} (S:SimOk (lowOf W) lo s (fun _=>False) h W) (ha:VRs s args argsr.toList)
    (H:R (mainCtx P (lowOf W)) lo f fn (.ret Post) [.code c] (argsTm 0 args) [] h) :
    ∃ M last o w' t',runNT P (M+1) (solo (G (Frame.enter P f argsr .normal) []) W) #[]=(.ended o w',t')∧runN P M (solo (G (Frame.enter P f argsr .normal) []) W) = .next last∧step P last = .ended o w'∧Go.Conc.Good P (fun vr w'=>Told (lowOf W) lo Post W s vr w') last o w' t':=by
  have hsz:args.length=argsr.size:=by simpa using ha.1
  let Stop:(Nat→Prop)→Goroutine→World→Prop:=fun O g w=>∃ (a':Act) (todo:List Item) (vr:Value),g=G { (base f).at a' todo with mode := .returning } []∧a'.defers=[]∧Reads P (lowOf W) O fn a'.tmps w vr∧Told (lowOf W) lo Post W s vr w
  have hJ:JM P (lowOf W) Stop (fun _=>False) (G (Frame.enter P f argsr .normal) []) W:=by
    rw [enter_at argsr hf hb]
    refine H s (fun _=>False) (fun _=>False) (fun _=>0) W (base f) { tmps:=argsr++Array.replicate (fn.ntmps - argsr.size) undef,defers:=[] } [] Stop rfl (by simp [base]) rfl (by simp;omega) ⟨S,⟨fun j cs hj=>by simp at hj,fun j j' hj=>by simp at hj⟩,fun b hb=>hb.elim⟩ ?_ ?_
    · intro j x hx
      obtain ⟨v,rfl,_,h3⟩:=look_args _ _ _ _ hx
      have hj:j < argsr.size:=by rw [← hsz];exact (List.getElem?_eq_some_iff.1 (by simpa using h3)).1
      exact ⟨argsr[j],by simp [Array.getElem?_append,hj],ha.2 j v _ (by simpa using h3) (by simp [hj])⟩
    · intro v vr h' s' O' w' h1 h2 h3 h4 h5 h6 h7 a' todo hd hrd
      refine JM.stop fun w₁ r=>⟨a',todo,vr,rfl,hd,fun w'' hw=>hrd w'' (r.trans hw),v,h',s',O',h1,h2,h3.rely r,h4,?_⟩
      exact h7.trans ⟨fun _ h=>h.elim,fun b hb=>r.2.1 b (h3.base _ hb) (.inl hb),r.1,r.2.2.1,r.2.2.2⟩
  obtain ⟨N,gs',sl',t',q',Shun',g',w',O',hr,F,a',todo,vr,rfl,hd,hrd,htold⟩:=hJ W (Rly.refl _ _ _) #[G (Frame.enter P f argsr .normal) []] none #[] (fun _=>0) (fun _=>False)
    ⟨by simp,leavers_one P _,past_nil.mono (Nat.zero_le _),fun _ _ h=>h.elim,fun _ _ h=>h.elim,fun _ h=>h.elim,fun _ h=>h,fun op hop=>by simp at hop⟩
  have hend:Goes P true AtRel (fun _ _ _=>False) (AtEnd P Shun' w'.heap.size fun vr w'=>Told (lowOf W) lo Post W s vr w') 0 (G { (base f).at a' todo with mode := .returning } []) w':=by
    rintro w₁ ⟨d,rfl⟩
    obtain ⟨x,w₂,g1,⟨rfl,rfl⟩,g3⟩:=hrd (w'.at d) (rly_at w' d)
    exact ⟨rfl,x,_,stepG_done (b:=base f) rfl hd hf hi g1,fun e he=>evL_of F.shun (fun b hb=>hb.elim (F.base _) (F.now b)) (g3 #[] (fun e he=>by simp at he) e (mem_seen he)),htold.at ⟨d,rfl⟩⟩
  obtain ⟨K,last,o,w₃,t₃,k1,k2,k3,k4⟩:=beside_ends (D:=fun _ _ _=>False) (fun _ _ _ h=>h.elim) (sl:=sl') F.zero F.lv F.past hend
  rw [solo_eq_crowd]
  refine ⟨N+K,last,o,w₃,t₃,?_,?_,k3,k4⟩
  · rw [Nat.add_assoc,runNT_add,hr];exact k1
  · have hrn:runN P N (crowd #[G (Frame.enter P f argsr .normal) []] W none) = .next (crowd gs' w' sl'):=by
      rw [← runNT_fst P N _ #[],hr]
    rw [runN_add,hrn];exact k2
end
end Go.Id
namespace Go.Id
open Go.Conc
open Go.ConcN (ShN RelBy WgLive sumTo upd sumTo_upd upd_ne upd_same CTag WD Vc cnt)
open Go.ConcR (KK WgAt stA smA rd wr mk Payload DC0)
set_option linter.unusedVariables false
set_option linter.unusedSectionVars false
section
variable {P:Program} {N0:Nat→Prop} {O:Nat→Prop} {g:Goroutine} {w:World} {gs:Array Goroutine} {sl:Option (Nat×Nat)} {t:Trace} {q:Nat→Nat} {Shun:Loc→Prop}
theorem Frm.pick (hrun : g.status = .running) : ∀ (M : Nat) (gs : Array Goroutine) (w : World) (sl : Option (Nat × Nat)) (t : Trace) (q : Nat → Nat), sumTo gs.size q ≤ M → Frm P N0 O g w gs t q Shun →
    ∃ N gs' d sl' sl'' t' q', runNT P N (crowd gs w sl) t = (.next (crowd gs' (w.at d) sl'), t') ∧ Frm P N0 O g (w.at d) gs' t' q' Shun ∧ ∃ d', stepT P (crowd gs' (w.at d) sl') = runT P (crowd gs' ((w.at d).at d') sl'') 0 := by
  intro M
  induction M with
  | zero | succ M ih =>
    intro gs w sl t q hM F
    have haw : ∀ x ∈ gs, awake x := by
      intro x hx
      obtain ⟨i, hi, rfl⟩ := Array.mem_iff_getElem.1 hx
      rcases Nat.eq_zero_or_pos i with rfl | hpos
      · have : gs[0] = g := by simpa [Array.getElem?_eq_getElem hi] using F.zero
        rw [this]; exact awake_of (.inl hrun)
      · exact awake_of ((F.lv.old i _ hpos (Array.getElem?_eq_getElem hi)).status.elim .inl fun x => .inr (.inr x))
    obtain ⟨i, x, d, sl', hi, hg, hst⟩ := crowd_pick (P := P) (w := w) (sl := sl) haw ⟨0, g, F.zero, hrun⟩
    rcases Nat.eq_zero_or_pos i with rfl | hpos
    · exact ⟨0, gs, w.drawn, sl, sl', t, q, rfl, F, d, hst⟩
    · have hq := F.lv.old i x hpos hi
      have hi0 : (i == 0) = false := by simp; omega
      have hlt : i < gs.size := (Array.getElem?_eq_some_iff.1 hi).1
      cases hqi : q i with
      | zero => rw [hqi] at hq; rw [hq.1] at hg; cases hg
      | succ k =>
        rw [hqi] at hq
        rcases hq with ⟨hf, _⟩ | ⟨_, g', es, hm, hstp, hq'⟩
        · rw [hf] at hg; cases hg
        have hsum : sumTo gs.size (upd q i k) + (k + 1) = sumTo gs.size q + k := by
          have := sumTo_upd q k id hlt
          simpa [hqi] using this
        first
        | (exfalso; omega)
        | (have hrunT := runT_crowd_go (P := P) (sl := sl') (i := i) hi (by rw [hi0]; exact hstp (w.at d))
           have hsz : ((gs.map (woken P x g' (w.at d))).setIfInBounds i g').size = gs.size := by simp
           obtain ⟨N, gs', d₂, sl₂, sl₃, t', q', hr, F', d₃, h3⟩ := ih ((gs.map (woken P x g' (w.at d))).setIfInBounds i g') (w.at d) sl' (t ++ MemOp.ofEvents i x.frame.fn x.frame.place es) (upd q i k) (by rw [hsz]; omega)
             ⟨by
               have hne : i ≠ 0 := by omega
               rw [Array.getElem?_setIfInBounds_ne hne, Array.getElem?_map, F.zero]
               simp [woken_run hrun],
             ⟨fun j y hj hy => by
               by_cases hji : i = j
               · subst hji
                 rw [Array.getElem?_setIfInBounds_self_of_lt (by simpa using hlt)] at hy
                 obtain rfl := Option.some.inj hy
                 rw [upd_same, Deaf_own]
                 exact hq'
               · rw [Array.getElem?_setIfInBounds_ne hji, Array.getElem?_map] at hy
                 obtain ⟨z, hz, rfl⟩ := Option.map_eq_some_iff.1 hy
                 have hqj := F.lv.old j z hj hz
                 rw [woken_quitsD hqj, upd_ne q k (Ne.symm hji), Deaf_other t hji _ (fun op hop => ofEvents_g hop)]
                 exact hqj, fun j hj => by
               rw [Deaf_other t (g' := i) (by simp at hj; omega) _ (fun op hop => ofEvents_g hop)]
               exact F.lv.above j (by simpa using hj)⟩,
             F.past.mute (by omega) hm, F.shun, F.old, F.now, F.base,
             fun op hop => by rw [hsz]; exact (Array.mem_append.1 hop).elim (F.num op) fun x => by rw [ofEvents_g x]; exact hlt⟩
           exact ⟨N + 1, gs', d₂, sl₂, sl₃, t', q', by simp only [runNT, hst, hrunT]; exact hr, F', d₃, h3⟩)
end
end Go.Id
