/- For every input the law returns true, and what came in reads as it did (the row of Rxo). No condition. Texts of this claim, joined: Wf, Te, Wj, Xa, Xb, Xf, Xg, Xc, Xd, Xh, Xe, Rxo. -/
import Derived.Test.YtjpcfaddimlbdaaGreatM5
import Derived.WalkKit
import Derived.ProofKit
import Derived.OpenShut
import Derived.Lib.SmallJoins
import Derived.Test.YtjpcfaddimlbdaaGreatRows
import Derived.Conc.LeavingOf
import Derived.ShutString
import Derived.SizedLaws
namespace Go.Proofs.YtjpcfaddimlbdaaGreat.Id
open Go.Id Go.Conc Go.Conc.Lib
open Go.Proofs
set_option linter.unusedVariables false
set_option maxRecDepth 100000
section
variable {X:Ctx Tryz.prog} {lo:Nat}
end
end Go.Proofs.YtjpcfaddimlbdaaGreat.Id
namespace Go.Proofs.YtjpcfaddimlbdaaGreat.Id
open Go.Id
open Go.Proofs
set_option linter.unusedVariables false
set_option maxRecDepth 100000
variable {X:Ctx Tryz.prog} {lo:Nat}
end Go.Proofs.YtjpcfaddimlbdaaGreat.Id
namespace Go.Proofs.YtjpcfaddimlbdaaGreat.Id
open Go.Id Go.Conc Go.Conc.Lib
open Go.Proofs
set_option linter.unusedVariables false
set_option maxRecDepth 100000
section
variable {N0:Nat→Prop} {lo:Nat}
end
end Go.Proofs.YtjpcfaddimlbdaaGreat.Id
namespace Go.Proofs.YtjpcfaddimlbdaaGreat.Id
open Go.Id
open Go.Proofs
set_option linter.unusedVariables false
set_option maxRecDepth 100000
section
variable {X:Ctx Tryz.prog} {lo:Nat}
theorem eqIntSSV_ok (a b:Option Addr) (fl fl':Nat) (L L':List Value) (ll mm:List (List Int)) (h:Hp) (hs:FtV h a L ll) (hs':FtV h b L' mm) (hn:ll.length≤1048576) (hl:∀ l∈ll,l.length≤1048576):Tri X lo 64 [.slice a ll.length fl,.slice b mm.length fl'] h fun v h'=>v = .bool (decide (ll=mm))∧h'=h:=by
  refine enter tbOk mtOk ⟨[],[(6,[0,1,2,3,4,5,6,7,8,9],[0,0,3,7,0,0,48,112,255,511])]⟩ 400 Tryz.func64 rfl rfl rfl fun hlo => ?_
  refine cnd (fun c1 => ?_) (fun c1 => ?_)
  · have c1:ll.length≠mm.length:=by simp at c1;omega
    exact And.intro (by rw [decide_eq_false (fun e=>c1 (congrArg List.length e))]) rfl
  · have c1:ll.length=mm.length:=by simp at c1;omega
    refine loop (σ:=Nat) tbOk mtOk ⟨[],[(6,[0,1,2,3,4,5,6,7,8,9],[0,0,3,7,0,0,48,112,255,511])]⟩ (fun i=>[(5,.v (.int .i64 (i:Int))),(0,.v (.slice a ll.length fl)),(1,.v (.slice b mm.length fl'))]) (fun _=>[]) (fun i h'=>i≤ll.length∧h'=h∧ll.take i=mm.take i) (fun i=>ll.length - i) 400 0 (fun _=>rfl) ⟨rfl,rfl,rfl,trivial⟩ trivial ⟨Nat.zero_le _,rfl,rfl⟩ (fun i h' hI again => ?_)
    obtain ⟨i1,rfl,i3⟩:=hI
    refine cnd (fun c2 => ?_) (fun c2 => ?_)
    · have c2:i < ll.length:=by simpa using c2
      have c2':i < mm.length:=by omega
      obtain ⟨a',xa,xf,rfl,xs,xl⟩:=hs.get c2
      obtain ⟨b',ya,yf,rfl,ys,yl⟩:=hs'.get c2'
      refine And.intro (by kernel_rfl) ?_
      refine And.intro ⟨by omega,by omega⟩ ?_
      refine ⟨_,xl _ (Ext.refl _),?_⟩
      refine And.intro ⟨by omega,by omega⟩ ?_
      refine ⟨_,yl _ (Ext.refl _),?_⟩
      refine callP (eqIntS_ok xa ya xf yf ll[i] mm[i] h' xs ys (hl _ (List.getElem_mem c2))) ?_
      rintro v h1 ⟨rfl,rfl⟩
      refine cnd (fun c3 => ?_) (fun c3 => ?_)
      · have c3:ll[i]≠mm[i]:=by simpa using c3
        refine And.intro ?_ rfl
        rw [decide_eq_false (fun e=>c3 (by subst e;rfl))]
      · have c3:ll[i]=mm[i]:=by simpa using c3
        exact again (i+1) _ _ _ (by omega) ⟨vI (wz (by omega) (by omega)),rfl,rfl,trivial⟩ trivial ⟨by omega,rfl,take_eq c2 c2' i3 c3⟩
    · have c2:ll.length=i:=by simp at c2;omega
      refine And.intro ?_ rfl
      rw [← c2,List.take_length,c1,List.take_length] at i3
      rw [i3];simp
theorem eqScene_ok (s t:Sc) (ga la fa ga' la' fa':Option Addr) (gf lf ff gf' lf' ff':Nat) (L L':List Value) (h:Hp) (hs:ScR h s ga la fa L) (hs':ScR h t ga' la' fa' L') (hb:ScB s):Tri X lo 19 [scV s ga la fa gf lf ff,scV t ga' la' fa' gf' lf' ff'] h fun v h'=>v = .bool (decide (s=t))∧h'=h:=by
  refine enter tbOk mtOk ⟨[],[]⟩ 400 Tryz.func19 rfl rfl rfl fun hlo => ?_
  refine callP (eqGrid_ok s.g t.g ga ga' gf gf' h hs.g hs'.g hb.g) ?_
  rintro v h1 ⟨rfl,rfl⟩
  refine cnd (fun c1 => ?_) (fun c1 => ?_)
  · have c1:s.g≠t.g:=by simpa using c1
    exact And.intro (by rw [decide_eq_false (fun e=>c1 (by rw [e]))]) rfl
  · have c1:s.g=t.g:=by simpa using c1
    refine callP (eqIntS_ok la la' lf lf' s.li t.li h1 hs.li hs'.li hb.li) ?_
    rintro v h2 ⟨rfl,rfl⟩
    refine cnd (fun c2 => ?_) (fun c2 => ?_)
    · have c2:s.li≠t.li:=by simpa using c2
      exact And.intro (by rw [decide_eq_false (fun e=>c2 (by rw [e]))]) rfl
    · have c2:s.li=t.li:=by simpa using c2
      refine callP (eqIntSSV_ok fa fa' ff ff' L L' s.ft t.ft h2 hs.ft hs'.ft hb.ft hb.el) ?_
      rintro v h3 ⟨rfl,rfl⟩
      refine cnd (fun c3 => ?_) (fun c3 => ?_)
      · have c3:s.ft≠t.ft:=by simpa using c3
        exact And.intro (by rw [decide_eq_false (fun e=>c3 (by rw [e]))]) rfl
      · have c3:s.ft=t.ft:=by simpa using c3
        exact And.intro (by rw [decide_eq_true (Sc.ext' c1 c2 c3)]) rfl
end
end Go.Proofs.YtjpcfaddimlbdaaGreat.Id
namespace Go.Proofs.YtjpcfaddimlbdaaGreat.Id
open Go.Id
open Go.Proofs
set_option linter.unusedVariables false
set_option maxRecDepth 100000
def totL (ls:List (List Int)):Nat:=(ls.map List.length).sum
theorem totL_take {ls:List (List Int)} {i:Nat} (hi:i < ls.length):totL (ls.take (i+1))=totL (ls.take i)+ls[i].length:=by
  unfold totL
  rw [List.take_succ_eq_append_getElem hi,List.map_append,List.sum_append];simp
theorem totL_le {ls:List (List Int)}:∀ i,totL (ls.take i)≤totL ls:=fun i=>by
  conv=>rhs;rw [← List.take_append_drop i ls]
  unfold totL
  rw [List.map_append,List.sum_append];omega
theorem totL_get {ls:List (List Int)} {i:Nat} (hi:i < ls.length):totL (ls.take i)+ls[i].length≤totL ls:=by
  rw [← totL_take hi];exact totL_le _
section
variable {X:Ctx Tryz.prog} {lo:Nat}
end
end Go.Proofs.YtjpcfaddimlbdaaGreat.Id
namespace Go.Proofs.YtjpcfaddimlbdaaGreat.Id
open Go.Id
open Go.Proofs
set_option linter.unusedVariables false
set_option maxRecDepth 100000
section
variable {X:Ctx Tryz.prog} {lo:Nat}
theorem szIntS_ok (a:Option Addr) (n fl:Nat) (m:Int) (h:Hp) (hm:0≤m∧m≤1048576) (hn:n≤9223372036854775807):Tri X lo 55 [.slice a n fl,.int .i64 m] h fun v h'=>v = .int .i64 (if (n:Int)≤m then m - n else -1)∧h'=h:=by
  refine enter tbOk mtOk ⟨[],[]⟩ 400 Tryz.func55 rfl rfl rfl fun hlo => ?_
  have hw:IntKind.i64.wrap (m - n)=m - n:=wr (by omega) (by omega)
  refine cnd (fun c1 => ?_) (fun c1 => ?_)
  · rw [hw] at c1
    have c1:m - n < 0:=by simpa using c1
    rw [if_neg (by omega)];exact ⟨rfl,rfl⟩
  · rw [hw] at c1
    have c1:¬ m - n < 0:=by simpa using c1
    rw [if_pos (by omega)]
    refine And.intro ?_ rfl
    rw [hw]
theorem szIntSS_ok (a:Option Addr) (fl:Nat) (L:List Value) (ll:List (List Int)) (m:Int) (h:Hp) (hs:FtV h a L ll) (hm:0≤m∧m≤1048576) (hn:ll.length≤9223372036854775807) (hl:∀ l∈ll,l.length≤9223372036854775807):Tri X lo 56 [.slice a ll.length fl,.int .i64 m] h fun v h'=>v = .int .i64 (if ((ll.length+totL ll:Nat):Int)≤m then m - ((ll.length+totL ll:Nat):Int) else -1)∧h'=h:=by
  refine enter tbOk mtOk ⟨[],[]⟩ 400 Tryz.func56 rfl rfl rfl fun hlo => ?_
  have hw:IntKind.i64.wrap (m - ll.length)=m - ll.length:=wr (by omega) (by omega)
  refine cnd (fun c1 => ?_) (fun c1 => ?_)
  · rw [hw] at c1
    have c1:m - ll.length < 0:=by simpa using c1
    rw [if_neg (by omega)];exact ⟨rfl,rfl⟩
  · rw [hw] at c1
    have c1:¬ m - ll.length < 0:=by simpa using c1
    refine loop (σ:=Nat) tbOk mtOk ⟨[],[]⟩ (fun i=>[(5,.v (.int .i64 (i:Int))),(1,.v (.int .i64 (m - ll.length - totL (ll.take i)))),(0,.v (.slice a ll.length fl))]) (fun _=>[]) (fun i h'=>i≤ll.length∧h'=h∧0≤m - ll.length - totL (ll.take i)) (fun i=>ll.length - i) 400 0 (fun _=>rfl) ⟨rfl,?_,rfl,trivial⟩ trivial ⟨Nat.zero_le _,rfl,by show 0≤m - ll.length - ((0:Nat):Int);omega⟩ (fun i h' hI again => ?_)
    · show some (Sl.v (.int .i64 (IntKind.i64.wrap (m - ll.length))))=some (Sl.v (.int .i64 (m - ll.length - ((0:Nat):Int))))
      rw [hw];simp
    obtain ⟨i1,rfl,i3⟩:=hI
    refine cnd (fun c2 => ?_) (fun c2 => ?_)
    · have c2:i < ll.length:=by simpa using c2
      obtain ⟨a',xa,xf,rfl,xs,xl⟩:=hs.get c2
      have t1:=totL_get c2
      have t2:=totL_take c2
      refine And.intro ⟨by omega,by omega⟩ ?_
      refine ⟨_,xl _ (Ext.refl _),?_⟩
      refine callP (szIntS_ok xa ll[i].length xf (m - ll.length - totL (ll.take i)) h' ⟨i3,by omega⟩ (hl _ (List.getElem_mem c2))) ?_
      rintro v h1 ⟨rfl,rfl⟩
      by_cases q:(ll[i].length:Int)≤m - ll.length - totL (ll.take i)
      · rw [if_pos q]
        refine cnd (fun c=>absurd (of_decide_eq_true c) (by omega)) (fun _ => ?_)
        refine again (i+1) _ _ _ (by omega) ⟨vI (wz (by omega) (by omega)),?_,rfl,trivial⟩ trivial ⟨by omega,rfl,by rw [t2];omega⟩
        show some (Sl.v (.int .i64 (m - ll.length - totL (ll.take i) - ll[i].length)))=some (Sl.v (.int .i64 (m - ll.length - totL (ll.take (i+1)))))
        rw [t2];congr 3;omega
      · rw [if_neg q]
        refine cnd (fun _ => ?_) (fun c=>absurd (of_decide_eq_false c) (by omega))
        rw [if_neg (by omega)]
        exact ⟨rfl,rfl⟩
    · have c2:ll.length=i:=by simp at c2;omega
      rw [← c2,List.take_length] at i3
      rw [if_pos (by omega)]
      refine ⟨?_,rfl⟩
      rw [← c2,List.take_length]
      congr 1;omega
theorem szScene_ok (s:Sc) (ga la fa:Option Addr) (gf lf ff:Nat) (L:List Value) (m:Int) (h:Hp) (hs:ScR h s ga la fa L) (hm:0≤m∧m≤1048576) (h1:s.g.cs.length≤9223372036854775807) (h2:s.li.length≤9223372036854775807) (h3:s.ft.length≤9223372036854775807) (h4:∀ l∈s.ft,l.length≤9223372036854775807):Tri X lo 15 [scV s ga la fa gf lf ff,.int .i64 m] h fun v h'=>(∃ q:Int,v = .int .i64 q∧(0≤q→q+s.g.cs.length+s.li.length+s.ft.length+totL s.ft=m)∧q≤1048576)∧h'=h:=by
  refine enter tbOk mtOk ⟨[],[]⟩ 400 Tryz.func15 rfl rfl rfl fun hlo => ?_
  refine callP (szGrid_ok s.g.w ga s.g.cs.length gf m h hm h1) ?_
  rintro v h' ⟨rfl,rfl⟩
  refine cnd (fun c => ?_) (fun c1 => ?_)
  · exact ⟨⟨-1,rfl,fun q=>absurd q (by decide),by decide⟩,rfl⟩
  have c1:=of_decide_eq_false c1
  split at c1
  case isFalse=>exact absurd c1 (by decide)
  case isTrue q1 =>
  rw [if_pos q1]
  refine callP (szIntS_ok la s.li.length lf (m - s.g.cs.length) h' ⟨by omega,by omega⟩ h2) ?_
  rintro v h'' ⟨rfl,rfl⟩
  refine cnd (fun c => ?_) (fun c2 => ?_)
  · exact ⟨⟨-1,rfl,fun q=>absurd q (by decide),by decide⟩,rfl⟩
  have c2:=of_decide_eq_false c2
  split at c2
  case isFalse=>exact absurd c2 (by decide)
  case isTrue q2 =>
  rw [if_pos q2]
  refine callP (szIntSS_ok fa ff L s.ft (m - s.g.cs.length - s.li.length) h'' hs.ft ⟨by omega,by omega⟩ h3 h4) ?_
  rintro v h3' ⟨rfl,rfl⟩
  refine cnd (fun c => ?_) (fun c3 => ?_)
  · exact ⟨⟨-1,rfl,fun q=>absurd q (by decide),by decide⟩,rfl⟩
  have c3:=of_decide_eq_false c3
  split at c3
  case isFalse=>exact absurd c3 (by decide)
  case isTrue q3 =>
  rw [if_pos q3]
  exact ⟨⟨_,rfl,fun _=>by omega,by omega⟩,rfl⟩
theorem toIntS_ok (a:Option Addr) (fl:Nat) (cs:List Int) (h:Hp) (hs:Sls h inE 1 a cs) (hn:cs.length≤1048576):Tri X lo 59 [.slice a cs.length fl] h fun v h'=>v = .slice (some ⟨h.n,0,some 0⟩) cs.length 1∧Row h' h.n 0 inE 1 cs∧Ext h h':=by
  refine enter tbOk mtOk ⟨[],[]⟩ 400 Tryz.func59 rfl rfl rfl fun hlo => ?_
  refine And.intro ⟨by omega,by omega,by unfold Id.maxLen;omega⟩ ?_
  have r0:Row (h.push (.cells (zeros [.int .i64 0] cs.length) 1 0)) h.n 0 inE 1 (List.replicate cs.length (0:Int)):=by rw [zeros_flat (enc:=inE) (z:=[.int .i64 0]) (x:=(0:Int)) rfl cs.length];exact Row.push
  refine loop (σ:=Nat) tbOk mtOk ⟨[],[]⟩ (fun i=>[(4,.v (.int .i64 (i:Int))),(3,.v (.slice (some ⟨h.n,0,some 0⟩) cs.length 1)),(0,.v (.slice a cs.length fl))]) (fun _=>[]) (fun i h'=>i≤cs.length∧Ext h h'∧Row h' h.n 0 inE 1 (cs.take i++List.replicate (cs.length - i) (0:Int))) (fun i=>cs.length - i) 400 0 (fun _=>rfl) ⟨rfl,rfl,rfl,trivial⟩ trivial ⟨Nat.zero_le _,Ext.push _ _,by simpa using r0⟩ (fun i h' hI again => ?_)
  obtain ⟨i1,i2,i3⟩:=hI
  refine cnd (fun c1 => ?_) (fun c1 => ?_)
  · have c1:i < cs.length:=by simpa using c1
    obtain ⟨a,rfl⟩:=hs.some c1
    refine And.intro ⟨by omega,by omega⟩ ?_
    refine ⟨_,(hs.ext i2).ld (fun _=>rfl) c1,?_⟩
    refine And.intro ⟨by omega,by omega⟩ ?_
    have hli:i < (cs.take i++List.replicate (cs.length - i) (0:Int)).length:=by simp;omega
    refine ⟨_,i3.st (fun _=>rfl) hlo hli cs[i],?_⟩
    refine again (i+1) _ _ _ (by omega) ⟨?_,rfl,rfl,trivial⟩ trivial ⟨by omega,i2.set (Nat.le_refl _) _,?_⟩
    · show some (Sl.v (.int .i64 (IntKind.i64.wrap ((i:Int)+1))))=_
      rw [wr (by omega) (by omega)];rfl
    · have e:cs.take (i+1)++List.replicate (cs.length - (i+1)) (0:Int)=(cs.take i++List.replicate (cs.length - i) (0:Int)).set i cs[i]:=by
        rw [List.set_append_right _ _ (by simp;omega),List.take_succ_eq_append_getElem c1,List.append_assoc]
        congr 1
        rw [List.length_take,Nat.min_eq_left (by omega),Nat.sub_self,show cs.length - i=(cs.length - (i+1))+1 from by omega,List.replicate_succ]
        rfl
      rw [e]
      exact Row.set i3.lt
  · have c1:cs.length=i:=by simp at c1;omega
    rw [← c1,List.take_length,Nat.sub_self,List.replicate_zero,List.append_nil] at i3
    exact ⟨rfl,i3,i2⟩
end
end Go.Proofs.YtjpcfaddimlbdaaGreat.Id
namespace Go.Proofs.YtjpcfaddimlbdaaGreat.Id
open Go.Id
open Go.Proofs
set_option linter.unusedVariables false
set_option maxRecDepth 100000
section
variable {X:Ctx Tryz.prog} {lo:Nat}
theorem toIntSS_ok (a : Option Addr) (fl : Nat) (L : List Value) (ll : List (List Int)) (h : Hp) (hs : FtV h a L ll) (hn : ll.length ≤ 1048576) (hl : ∀ l ∈ ll, l.length ≤ 1048576) : Tri X lo 60 [.slice a ll.length fl] h fun v h' => ∃ LV : List Value, v = .slice (some ⟨h.n, 0, some 0⟩) ll.length 1 ∧ Row h' h.n 0 vE1 1 LV ∧ LV.length = ll.length ∧ (∀ (j : Nat) (x : Value) (l : List Int), LV[j]? = some x → ll[j]? = some l → OwE (h.n + 1) h' x l) ∧ (blks LV).Pairwise (· < ·) ∧ (∀ b ∈ blks LV, h.n + 1 ≤ b) ∧ Ext h h' := by
  refine enter tbOk mtOk ⟨[], []⟩ 400 Tryz.func60 rfl rfl rfl fun hlo => ?_
  refine And.intro ⟨by omega, by omega, by unfold Id.maxLen; omega⟩ ?_
  have r0 : Row (h.push (.cells (zeros [.slice none 0 0] ll.length) 1 0)) h.n 0 vE1 1 (List.replicate ll.length (.slice none 0 0)) := by rw [zeros_flat (enc := vE1) (z := [.slice none 0 0]) (x := .slice none 0 0) rfl ll.length]; exact Row.push
  refine loop (σ := List Value) tbOk mtOk ⟨[], []⟩ (fun V => [(4, .v (.int .i64 (V.length : Int))), (3, .v (.slice (some ⟨h.n, 0, some 0⟩) ll.length 1)), (0, .v (.slice a ll.length fl))]) (fun _ => []) (fun V h' => V.length ≤ ll.length ∧ Ext h h' ∧ h.n + 1 ≤ h'.n ∧ Row h' h.n 0 vE1 1 (V ++ List.replicate (ll.length - V.length) (.slice none 0 0)) ∧ (∀ (j : Nat) (x : Value) (l : List Int), V[j]? = some x → ll[j]? = some l → OwE (h.n + 1) h' x l) ∧ (blks V).Pairwise (· < ·) ∧ ∀ b ∈ blks V, h.n + 1 ≤ b ∧ b < h'.n) (fun V => ll.length - V.length) 400 [] (fun _ => rfl) ⟨rfl, rfl, rfl, trivial⟩ trivial ⟨Nat.zero_le _, Ext.push _ _, Nat.le_refl _, by simpa using r0, fun j x l hx => by simp at hx, List.Pairwise.nil, fun b hb => by cases hb⟩ (fun V h' hI again => ?_)
  obtain ⟨i1, i2, i0, i3, i4, i5, i6⟩ := hI
  refine cnd (fun c1 => ?_) (fun c1 => ?_)
  · have c1 : V.length < ll.length := by simpa using c1
    obtain ⟨ad, xa, xf, rfl, xs, xl⟩ := hs.get c1
    refine And.intro ⟨by omega, by omega⟩ ?_
    refine ⟨_, xl _ i2, ?_⟩
    refine callP (toIntS_ok xa xf ll[V.length] h' (xs.ext i2) (hl _ (List.getElem_mem c1))) ?_
    rintro v h1 ⟨rfl, w1, e1⟩
    have n1 := e1.n
    have lt1 := w1.lt
    refine And.intro ⟨by omega, by omega⟩ ?_
    have i3' := i3.ext e1
    have hli : V.length < (V ++ List.replicate (ll.length - V.length) (Value.slice none 0 0)).length := by simp; omega
    refine ⟨_, i3'.st vE1_len hlo hli (.slice (some ⟨h'.n, 0, some 0⟩) ll[V.length].length 1), ?_⟩
    have e : (V ++ [Value.slice (some ⟨h'.n, 0, some 0⟩) ll[V.length].length 1]) ++ List.replicate (ll.length - (V ++ [Value.slice (some ⟨h'.n, 0, some 0⟩) ll[V.length].length 1]).length) (Value.slice none 0 0) = (V ++ List.replicate (ll.length - V.length) (Value.slice none 0 0)).set V.length (.slice (some ⟨h'.n, 0, some 0⟩) ll[V.length].length 1) := by
      rw [List.set_append_right _ _ (Nat.le_refl _), Nat.sub_self, show ll.length - V.length = (ll.length - (V.length + 1)) + 1 from by omega, List.replicate_succ, List.set_cons_zero, List.append_assoc, List.length_append]
      rfl
    have r2 : Row (h1.set h.n (.cells (((V ++ List.replicate (ll.length - V.length) (Value.slice none 0 0)).set V.length (.slice (some ⟨h'.n, 0, some 0⟩) ll[V.length].length 1)).flatMap vE1) 1 0)) h.n 0 vE1 1 ((V ++ [Value.slice (some ⟨h'.n, 0, some 0⟩) ll[V.length].length 1]) ++ List.replicate (ll.length - (V ++ [Value.slice (some ⟨h'.n, 0, some 0⟩) ll[V.length].length 1]).length) (Value.slice none 0 0)) := by rw [e]; exact Row.set i3'.lt
    have x2 : Ext h (h1.set h.n (.cells (((V ++ List.replicate (ll.length - V.length) (Value.slice none 0 0)).set V.length (.slice (some ⟨h'.n, 0, some 0⟩) ll[V.length].length 1)).flatMap vE1) 1 0)) := (i2.trans e1).set (Nat.le_refl _) _
    have k2 : ∀ i, i ≠ h.n → (h1.set h.n (.cells (((V ++ List.replicate (ll.length - V.length) (Value.slice none 0 0)).set V.length (.slice (some ⟨h'.n, 0, some 0⟩) ll[V.length].length 1)).flatMap vE1) 1 0)).g i = h1.g i := fun i hi => by simp only [Hp.set]; rw [if_neg hi]
    have n2 : (h1.set h.n (.cells (((V ++ List.replicate (ll.length - V.length) (Value.slice none 0 0)).set V.length (.slice (some ⟨h'.n, 0, some 0⟩) ll[V.length].length 1)).flatMap vE1) 1 0)).n = h1.n := rfl
    generalize h1.set h.n (.cells (((V ++ List.replicate (ll.length - V.length) (Value.slice none 0 0)).set V.length (.slice (some ⟨h'.n, 0, some 0⟩) ll[V.length].length 1)).flatMap vE1) 1 0) = h2 at r2 x2 k2 n2 ⊢
    have hbl : blks (V ++ [Value.slice (some ⟨h'.n, 0, some 0⟩) ll[V.length].length 1]) = blks V ++ [h'.n] := by rw [blks_snoc]; rfl
    have wn : IntKind.i64.wrap ((V.length : Int) + 1) = (((V ++ [Value.slice (some ⟨h'.n, 0, some 0⟩) ll[V.length].length 1]).length : Nat) : Int) := by rw [wr (by omega) (by omega), List.length_append]; rfl
    refine again (V ++ [Value.slice (some ⟨h'.n, 0, some 0⟩) ll[V.length].length 1]) _ _ _ (by show ll.length - (V ++ _).length < ll.length - V.length; rw [List.length_append]; simp; omega) ⟨vI wn, rfl, rfl, trivial⟩ trivial ⟨by rw [List.length_append]; exact c1, x2, by omega, r2, fun j x l hx hl' => ?_, ?_, ?_⟩
    · by_cases hj : j < V.length
      · rw [List.getElem?_append_left hj] at hx
        have ow := (i4 j x l hx hl').keep n1 (fun b hb => e1.g b ((i4 j x l hx hl').lt hb).1)
        refine ow.keep (by omega) fun b hb => k2 b ?_
        have := (ow.lt hb).2
        omega
      · have hj' : j = V.length := by
          have := (List.getElem?_eq_some_iff.1 hx).1
          rw [List.length_append] at this
          have : j < V.length + 1 := this
          omega
        subst hj'
        rw [List.getElem?_append_right (Nat.le_refl _), Nat.sub_self] at hx
        obtain rfl : Value.slice (some ⟨h'.n, 0, some 0⟩) ll[V.length].length 1 = x := Option.some.inj hx
        rw [List.getElem?_eq_getElem c1] at hl'
        obtain rfl := Option.some.inj hl'
        refine ⟨some (h'.n, 0), rfl, by omega, [], ?_, ?_⟩
        · rw [n2]; exact w1.lt
        · rw [List.append_nil, k2 _ (by omega)]; exact w1.g
    · rw [hbl]
      refine List.pairwise_append.2 ⟨i5, List.pairwise_singleton _ _, fun b hb c hc => ?_⟩
      rw [List.mem_singleton.1 hc]
      exact (i6 b hb).2
    · intro b hb
      rw [hbl] at hb
      rcases List.mem_append.1 hb with hb | hb
      · have := i6 b hb; omega
      · rw [List.mem_singleton.1 hb]; omega
  · have c1 : V.length = ll.length := by have : ¬ V.length < ll.length := by simpa using c1
                                         omega
    rw [c1, Nat.sub_self, List.replicate_zero, List.append_nil] at i3
    exact ⟨V, rfl, i3, c1, i4, i5, fun b hb => (i6 b hb).1, i2⟩
theorem toScene_ok (s:Sc) (ga la fa:Option Addr) (gf lf ff:Nat) (L:List Value) (h:Hp) (hs:ScR h s ga la fa L) (hb:ScB s):Tri X lo 17 [scV s ga la fa gf lf ff] h fun v h'=>∃ o1 o2 o3 LV,v=scOV s o1 o2 o3∧ScO h.n h' s o1 o2 o3 LV∧Ext h h':=by
  refine enter tbOk mtOk ⟨[],[]⟩ 400 Tryz.func17 rfl rfl rfl fun hlo => ?_
  refine callP (toGrid_ok s.g ga gf h hs.g hb.g) ?_
  rintro v h1 ⟨b1,rfl,q1,q2,q3,x1⟩
  refine callP (toIntS_ok la lf s.li h1 (hs.li.ext x1) hb.li) ?_
  rintro v h2 ⟨rfl,w2,x2⟩
  refine callP (toIntSS_ok fa ff L s.ft h2 (hs.ft.ext (x1.trans x2)) hb.ft hb.el) ?_
  rintro v h3 ⟨LV,rfl,w3,e3,el3,p3,b3,x3⟩
  have n1:=x1.n
  have n2:=x2.n
  have l1:=q3.lt
  have l2:=w2.lt
  refine ⟨some (b1,0),some (h1.n,0),some (h2.n,0),LV,rfl,⟨⟨q2,(q3.ext x2).ext x3⟩,⟨n1,w2.ext x3⟩,⟨by show h.n≤h2.n;omega,w3⟩,e3,fun j x l hx hl=>(el3 j x l hx hl).up fun b hb' => ?_,nd_mk (fun b hq => ?_) (fun b hq => ?_) (fun b hq hq' => ?_) (p3.imp fun h=>by omega)⟩,(x1.trans x2).trans x3⟩
  · have:=((el3 j x l hx hl).lt hb').2;omega
  · have:=isB_eq hq
    refine ⟨fun q=>by have:=isB_eq q;omega,fun q=>by have:=isB_eq q;omega,fun q=>by have:=b3 b q;omega⟩
  · have:=isB_eq hq
    exact ⟨fun q=>by have:=isB_eq q;omega,fun q=>by have:=b3 b q;omega⟩
  · have:=isB_eq hq
    have:=b3 b hq';omega
end
end Go.Proofs.YtjpcfaddimlbdaaGreat.Id
namespace Go.Proofs.YtjpcfaddimlbdaaGreat.Id
open Go.Id
open Go.Proofs
set_option linter.unusedVariables false
set_option maxRecDepth 100000
section
variable {base:Nat} {h h':Hp} {s:Sc} {o1 o2 o3:Option (Nat×Nat)} {L:List Value}
end
section
variable {X:Ctx Tryz.prog} {lo:Nat}
end
end Go.Proofs.YtjpcfaddimlbdaaGreat.Id
namespace Go.Proofs.YtjpcfaddimlbdaaGreat.Id
open Go.Id Go.Conc Go.Conc.Lib
open Go.Proofs
set_option linter.unusedVariables false
set_option maxRecDepth 100000
section
variable {N0:Nat→Prop} {lo:Nat}
end
end Go.Proofs.YtjpcfaddimlbdaaGreat.Id
namespace Go.Proofs.YtjpcfaddimlbdaaGreat.Id
open Go.Id Go.Conc Go.Conc.Lib
open Go.Proofs
set_option linter.unusedVariables false
set_option maxRecDepth 100000
section
variable {N0:Nat→Prop} {lo:Nat}
theorem mem_totL {l:List Int}:∀ {ls:List (List Int)},l∈ls→l.length≤totL ls
  | x::ls,h=>by
    unfold totL
    simp only [List.map_cons,List.sum_cons]
    rcases List.mem_cons.1 h with rfl | h
    · omega
    · have:=mem_totL h
      unfold totL at this
      omega
theorem size_B {s:Sc} {q:Int} (h0:0≤q) (h:q+s.g.cs.length+s.li.length+s.ft.length+totL s.ft=1048576):ScB s∧totL s.ft≤1048576 :=
  ⟨⟨by omega,by omega,by omega,fun l hl=>by have:=mem_totL hl;omega⟩,by omega⟩
theorem exactSceneOk_R (s:Sc) (ga la fa:Option Addr) (gf lf ff:Nat) (L:List Value) (h:Hp) (hs:ScR h s ga la fa L) (m1:s.g.cs.length≤9223372036854775807) (m2:s.li.length≤9223372036854775807) (m3:s.ft.length≤9223372036854775807) (m4:∀ l∈s.ft,l.length≤9223372036854775807) (hlo:lo≤h.n) :
    R (mainCtx Tryz.prog N0) lo 3 Tryz.f3 (.ret fun v _=>v = .bool true) [.code (bodyC Tryz.f3)] (argsTm 0 [scV s ga la fa gf lf ff]) [] h:=by
  refine more tbOk mtOk ⟨[],[(10,[0,1,2,3,4],[0,0,2,7,15])]⟩ 400 ?_
  refine callP (szScene_ok s ga la fa gf lf ff L 1048576 h hs ⟨by decide,by decide⟩ m1 m2 m3 m4) ?_
  rintro v h1 ⟨⟨q,rfl,hq,_⟩,rfl⟩
  refine cnd (fun c1=>rfl) (fun c1 => ?_)
  have q0:0≤q:=by have:=of_decide_eq_false c1;omega
  obtain ⟨hB,hT⟩:=size_B q0 (hq q0)
  refine callP (toScene_ok s ga la fa gf lf ff L h1 hs hB) ?_
  rintro v h2 ⟨o1,o2,o3,LV,rfl,r2,x2⟩
  obtain ⟨wg,wl,wf,wgf,wlf,wff,z,R2⟩:=r2.read
  rw [z]
  refine callP (sSceneOk_ok s wg wl wf wgf wlf wff LV h2 R2 hB) ?_
  rintro v h3 ⟨rfl,x3⟩
  refine callP (toScene_ok s ga la fa gf lf ff L h3 (hs.ext (x2.trans x3)) hB) ?_
  rintro v h4 ⟨p1,p2,p3,LX,rfl,r4,x4⟩
  obtain ⟨xg,xl,xf,xgf,xlf,xff,y,R4⟩:=r4.read
  rw [y]
  refine callP (SceneOk_ok s xg xl xf xgf xlf xff LX h4 R4 hB) ?_
  rintro v h5 ⟨rfl,x5⟩
  refine cnd (fun c=>by simp at c) (fun _ => ?_)
  refine And.intro (by kernel_rfl) ?_
  refine callP (toScene_ok s ga la fa gf lf ff L h5 (hs.ext (((x2.trans x3).trans x4).trans x5)) hB) ?_
  rintro v h6 ⟨t1,t2,t3,LY,rfl,r6,x6⟩
  obtain ⟨yg,yl,yf,ygf,ylf,yff,u,R6⟩:=r6.read
  rw [u]
  repeat refine And.intro Is.r ?_
  refine callP (eqScene_ok s s xg xl xf yg yl yf xgf xlf xff ygf ylf yff LX LY h6 (R4.ext (x5.trans x6)) R6 hB) ?_
  rintro v h7 ⟨rfl,rfl⟩
  refine cnd (fun c=>by simp at c) (fun _ => ?_)
  rfl
end
end Go.Proofs.YtjpcfaddimlbdaaGreat.Id
namespace Go.Proofs.YtjpcfaddimlbdaaGreat.Id
open Go.Id Go.Conc Go.Proofs
open Go.ChangeShapes Go.WideShapes Go.ChangeAt Go.RowKit
set_option linter.unusedVariables false
section
variable {H:Type} {enc:TypeId×Value→H} {W:World} {base:Nat} {spare:Nat→Bool} {held:Bool}
set_option maxRecDepth 100000
theorem deci (n:Nat) (cs:List Value) (y:DataW H×List MemPlace) (h:DataW.trod enc Tryz.prog W base spare held n 3 cs=some y):∃ q:Int,cs=inE q:=by
  obtain ⟨q,e,_⟩:=DataW.trod_int Tryz.underlying3 h
  exact ⟨q,e⟩
theorem celi:Tryz.prog.cellsOf 3=1:=by kernel_rfl
theorem celis:Tryz.prog.cellsOf 25=1:=by kernel_rfl
theorem plain_ints (l:List Int):∀ v∈l.flatMap inE,plainV v=true∧v.oneCell'=true:=by
  intro v hv
  obtain ⟨q,_,hq⟩:=List.mem_flatMap.1 hv
  simp only [inE,List.mem_cons,List.not_mem_nil,or_false] at hq
  subst hq;exact ⟨rfl,rfl⟩
theorem in_ints {s:Sim} {h:Hp} (I:InOk W s h) {v:Value} {n:Nat} {y:DataW H×List MemPlace} (t:DataW.trod enc Tryz.prog W base spare held n 25 [v]=some y) (hb:(∃ a ln cp,v = .slice (some a) ln cp)→∃ b0,b0 < W.heap.size) :
    ∃ (s':Sim) (h':Hp) (x:Value) (l:List Int),InOk W s' h'∧s.le s'∧Ext h h'∧VR s' x v∧SlV h' inE 1 x l∧l.length≤Go.maxLen∧v.oneCell'=true:=by
  obtain ⟨A,cap,l,rfl,hl,hm,hn,hc⟩:=open_plain (en:=inE) (sz:=1) Tryz.underlying25 celi (by decide) (fun _=>rfl) deci t
  obtain ⟨s',h',A',fl,I',l1,e1,v1,s1⟩:=I.slice (enc:=inE) (fun _=>rfl) (by decide) A cap hl (VRm.of_plain s (plain_ints l)) hc hn fun a ha _=>hb ⟨a,_,_,by rw [ha]⟩
  exact ⟨s',h',_,l,I',l1,e1,v1,⟨A',fl,rfl,s1⟩,Nat.le_trans hl hm,rfl⟩
theorem in_each:∀ (l:List Value) {s:Sim} {h:Hp} (_:l≠[]→∃ b0,b0 < W.heap.size) (_:InOk W s h) (_:∀ v∈l,∃ n y,DataW.trod enc Tryz.prog W base spare held n 25 [v]=some y),
    ∃ (s':Sim) (h':Hp) (L:List Value) (ll:List (List Int)),InOk W s' h'∧s.le s'∧Ext h h'∧VRm s' L l∧ll.length=l.length∧(∀ (j:Nat) (x:Value) (li:List Int),L[j]? = some x→ll[j]? = some li→SlV h' inE 1 x li)∧∀ li∈ll,li.length≤Go.maxLen
  | [],s,h,_,I,_=>⟨s,h,[],[],I,s.le_refl,Ext.refl h,VRm.nil s,rfl,fun j x li hx=>by simp at hx,fun li h=>by cases h⟩
  | v::l,s,h,hb,I,ht=>by
    have b:=hb (by simp)
    obtain ⟨n,y,t⟩:=ht v List.mem_cons_self
    obtain ⟨s1,h1,x,li,I1,le1,e1,v1,sl1,m1,o1⟩:=in_ints I t fun _=>b
    obtain ⟨s2,h2,L,ll,I2,le2,e2,v2,len2,el2,m2⟩:=in_each l (fun _=>b) I1 fun v hv=>ht v (List.mem_cons_of_mem _ hv)
    refine ⟨s2,h2,x::L,li::ll,I2,le1.trans le2,e1.trans e2,⟨VRs.cons (v1.mono le2) v2.1,fun u hu => ?_⟩,by simp [len2],fun j x' li' hx hl => ?_,fun li' hl => ?_⟩
    · rcases List.mem_cons.1 hu with rfl | hu
      · exact o1
      · exact v2.2 u hu
    · cases j with
      | zero =>
        simp only [List.getElem?_cons_zero,Option.some.injEq] at hx hl
        subst hx;subst hl
        exact sl1.ext e2
      | succ j =>
        simp only [List.getElem?_cons_succ] at hx hl
        exact el2 j x' li' hx hl
    · rcases List.mem_cons.1 hl with rfl | hl
      · exact m1
      · exact m2 li' hl
theorem oneCell_slice {v:Value} {n:Nat} {y:DataW H×List MemPlace} (t:DataW.trod enc Tryz.prog W base spare held n 26 [v]=some y):v.oneCell'=true:=by
  obtain ⟨a,ln,cp,e⟩:=Joins.slice_form Tryz.underlying26 t
  obtain rfl:v = .slice a ln cp:=by simpa using e
  rfl
theorem in_feet {s:Sim} {h:Hp} (I:InOk W s h) {v:Value} {n:Nat} {y:DataW H×List MemPlace} (t:DataW.trod enc Tryz.prog W base spare held n 26 [v]=some y) (hb:(∃ a ln cp,v = .slice (some a) ln cp)→∃ b0,b0 < W.heap.size) :
    ∃ (s':Sim) (h':Hp) (a:Option Addr) (fl:Nat) (L:List Value) (ll:List (List Int)),InOk W s' h'∧s.le s'∧Ext h h'∧VR s' (.slice a ll.length fl) v∧FtV h' a L ll∧ll.length≤Go.maxLen∧∀ li∈ll,li.length≤Go.maxLen:=by
  obtain ⟨A,cap,l,rfl,hl,hm,hn,hc⟩:=open_plain (α:={v:Value // ∃ n y,DataW.trod enc Tryz.prog W base spare held n 25 [v]=some y}) (en:=fun v=>[v.1]) (sz:=1) Tryz.underlying26 celis (by decide) (fun _=>rfl) (fun n cs y h=>by
    obtain ⟨a,ln,cp,rfl⟩:=Joins.slice_form Tryz.underlying25 h
    exact ⟨⟨_,n,y,h⟩,rfl⟩) t
  obtain ⟨s1,h1,L,ll,I1,le1,e1,v1,len1,el1,m1⟩:=in_each (l.map fun v=>v.1) (fun hne=>by
    cases hA:A with
    | none=>exact absurd (by rw [(hn hA).1];rfl) hne
    | some a=>exact hb ⟨a,_,_,by rw [hA]⟩) I fun v hv=>by
    obtain ⟨u,_,rfl⟩:=List.mem_map.1 hv
    exact u.2
  have fm:l.flatMap (fun v=>[v.1])=l.map fun v=>v.1:=by
    induction l with
    | nil=>rfl
    | cons x l ih=>simp [List.flatMap_cons]
  have lenL:L.length=l.length:=by rw [v1.1.1,List.length_map]
  have fL:L.flatMap vE1=L:=flat_vE1 L
  rw [fm] at hc
  obtain ⟨s2,h2,A',fl,I2,le2,e2,v2,sl2⟩:=I1.slice (enc:=vE1) vE1_len (by decide) (l:=L) A cap (by omega) (by rw [fL];exact v1) hc (fun q=>by
    obtain ⟨q1,q2⟩:=hn q
    exact ⟨List.length_eq_zero_iff.1 (by rw [lenL,q1];rfl),q2⟩) fun a ha _=>hb ⟨a,_,_,by rw [ha]⟩
  rw [List.length_map] at len1
  refine ⟨s2,h2,A',fl,L,ll,I2,le1.trans le2,e1.trans e2,?_,⟨sl2,by omega,fun j x li hx hl'=>(el1 j x li hx hl').ext e2⟩,by omega,m1⟩
  rw [lenL] at v2
  rw [len1];exact v2
theorem cells_lcell:Tryz.prog.cellsOf 131=2:=by kernel_rfl
theorem cells_lgrid:Tryz.prog.cellsOf 24=2:=by kernel_rfl
theorem cells_lscene:Tryz.prog.cellsOf 28=4:=by kernel_rfl
theorem celiss:Tryz.prog.cellsOf 26=1:=by kernel_rfl
theorem celcs:Tryz.prog.cellsOf 22=1:=by kernel_rfl
theorem decc (n:Nat) (cs:List Value) (y:DataW H×List MemPlace) (h:DataW.trod enc Tryz.prog W base spare held n 131 cs=some y):∃ q:Cl,cs=cE q:=by
  obtain ⟨y0,y1,m,_,hl,h0,h1⟩:=trod_struct2 Tryz.underlying131 h
  obtain ⟨a,ea⟩:=deci _ _ _ h0
  obtain ⟨b,eb⟩:=deci _ _ _ h1
  rw [cells_lcell] at hl
  match cs,hl with
  | [c0,c1],_ =>
    have fa:[c0]=inE a:=by simpa [celi] using ea
    have fb:[c1]=inE b:=by simpa [celi] using eb
    simp only [inE,List.cons.injEq,and_true] at fa fb
    subst fa;subst fb
    exact ⟨(a,b),rfl⟩
theorem in_scene {b0:Nat} {r:Reach} {v:Value} {d:DataW H} {p:List MemPlace} {s:Sim} {h:Hp} (I:InOk W s h) (hv:Value.okWide Tryz.prog W r b0 28 v) (ht:DataW.Trod enc Tryz.prog W base spare held 28 v d p) :
    ∃ (s':Sim) (h':Hp) (sc:Sc) (ga la fa:Option Addr) (gf lf ff:Nat) (L:List Value),InOk W s' h'∧s.le s'∧Ext h h'∧VR s' (scV sc ga la fa gf lf ff) v∧ScR h' sc ga la fa L∧sc.g.cs.length≤Go.maxLen∧sc.li.length≤Go.maxLen∧sc.ft.length≤Go.maxLen∧∀ l∈sc.ft,l.length≤Go.maxLen:=by
  have hv0:=hv
  obtain ⟨cs,rfl,hsz⟩:=okWide_struct Tryz.underlying28 hv
  obtain ⟨c0,c1,c2,c3,rfl⟩:=Joins.array4 (hsz.trans cells_lscene)
  have blk:∀ (i:Nat) (a:Addr) (ln cp:Nat),(#[c0,c1,c2,c3]:Array Value)[i]? = some (.slice (some a) ln cp)→∃ b0,b0 < W.heap.size:=fun i a ln cp q=>⟨a.block,block_agg Tryz.underlying28 hv0 q⟩
  obtain ⟨fuel,hf⟩:=ht
  obtain ⟨y0,y1,y2,n,_,_,t0,t1,t2⟩:=Go.Deep.trod_struct3 Tryz.underlying28 hf
  have t0:DataW.trod enc Tryz.prog W base spare held n 24 [c0,c1]=some y0:=by simpa [Value.cells,cells_lgrid] using t0
  have t1:DataW.trod enc Tryz.prog W base spare held n 25 [c2]=some y1:=by simpa [Value.cells,celis] using t1
  have t2:DataW.trod enc Tryz.prog W base spare held n 26 [c3]=some y2:=by simpa [Value.cells,celiss] using t2
  obtain ⟨z0,z1,m,_,_,g0,g1⟩:=trod_struct2 Tryz.underlying24 t0
  have g0:DataW.trod enc Tryz.prog W base spare held m 3 [c0]=some z0:=by simpa [celi] using g0
  have g1:DataW.trod enc Tryz.prog W base spare held m 22 [c1]=some z1:=by simpa [celcs] using g1
  obtain ⟨w,e0⟩:=deci _ _ _ g0
  simp only [inE,List.cons.injEq,and_true] at e0
  subst e0
  obtain ⟨A,cap,l,rfl,hl,hm,hn,hc⟩:=open_plain (en:=cE) (sz:=2) Tryz.underlying22 cells_lcell (by decide) cE2 decc g1
  have hpl:∀ v∈l.flatMap cE,plainV v=true∧v.oneCell'=true:=by
    intro v hv
    obtain ⟨q,_,hq⟩:=List.mem_flatMap.1 hv
    simp only [cE,List.mem_cons,List.not_mem_nil,or_false] at hq
    rcases hq with rfl | rfl<;>exact ⟨rfl,rfl⟩
  obtain ⟨s1,h1,A',gf,I1,le1,e1,v1,sl1⟩:=I.slice (enc:=cE) cE2 (by decide) A cap hl (VRm.of_plain s hpl) hc hn fun a ha _=>blk 1 a l.length cap (by rw [ha];rfl)
  obtain ⟨s2,h2,x2,li,I2,le2,e2,v2,⟨la,lf,rfl,sl2⟩,m2,o2⟩:=in_ints I1 t1 fun ⟨a,ln,cp,q⟩=>blk 2 a ln cp (by rw [q];rfl)
  obtain ⟨s3,h3,fa,ff,L,ll,I3,le3,e3,v3,sl3,m3,m4⟩:=in_feet I2 t2 fun ⟨a,ln,cp,q⟩=>blk 3 a ln cp (by rw [q];rfl)
  refine ⟨s3,h3,⟨⟨w,l⟩,li,ll⟩,A',la,fa,gf,lf,ff,L,I3,(le1.trans le2).trans le3,(e1.trans e2).trans e3,.agg _ _ rfl (fun i x y hx hy => ?_) (fun y hy => ?_),⟨(sl1.ext e2).ext e3,sl2.ext e3,sl3⟩,Nat.le_trans hl hm,m2,m3,m4⟩
  · rcases i with _ | _ | _ | _ | i
    · simp at hx hy;subst hx;subst hy;exact .int _ _
    · simp at hx hy;subst hx;subst hy;exact (v1.mono le2).mono le3
    · simp at hx hy;subst hx;subst hy;exact v2.mono le3
    · simp at hx hy;subst hx;subst hy;exact v3
    · simp at hx
  · simp at hy
    rcases hy with rfl | rfl | rfl | rfl
    · rfl
    · rfl
    · exact o2
    · exact oneCell_slice t2
end
end Go.Proofs.YtjpcfaddimlbdaaGreat.Id
namespace Go.Proofs.YtjpcfaddimlbdaaGreat.fnExactSceneOk
open Go.ChangeShapes Go.WideShapes Go.ChangeAt Go.RowKit Go.Id Go.Conc Go.Proofs.YtjpcfaddimlbdaaGreat.Id
set_option linter.unusedVariables false
theorem own:ownKnob Tryz.prog.godebug=none:=by kernel_rfl
theorem laidOut:laidOutB Tryz.prog=true:=by kernel_rfl
set_option maxRecDepth 100000 in
theorem lifted (os:Os) (started:os.Started) (H:Type) (enc:TypeId×Value→H) :
    ReturnsInLeavingWide {} Tryz.checked os 3 .any (Rows.fnExactSceneOkSpec.pre6 enc Tryz.prog Tryz.f3 Rows.fnExactSceneOkRow.domain false) (Rows.fnExactSceneOkSpec.post enc Tryz.prog Tryz.f3 false true false false):=by
  refine returnsInLeavingWide_of_change_sized (C:=Tryz.checked) own started Tryz.func3
    (ChangeSpec.witness6 (enc:=enc) (C:=Tryz.checked) false ⟨#[],#[.agg #[.int .i64 0,.slice none 0 0,.slice none 0 0,.slice none 0 0]],[]⟩ 8 (by kernel_rfl) (by kernel_rfl) (by kernel_rfl) (by kernel_rfl)) ?_
  intro W base args ds gs before hval0 hW hcnd hsz0 _
  have hval:∀ (j:Nat) t v,Tryz.f3.params[j]? = some t→args[j]? = some v→Value.okWide Tryz.prog W .any base t v:=hval0
  have hW':=hW
  obtain ⟨p,q,hA0,hV,rfl,hfz,hnd⟩:=hW
  have hA:DataW.TrodAll enc Tryz.prog W 0 (fun _=>true) true Tryz.f3.params.toList args.toList ds p:=hA0
  rw [Tryz.params3] at hA hval
  obtain ⟨v0,vs0,d0,ds0,p0,q0,hargs,rfl,rfl,h0,r0⟩:=trodAll_cons hA
  obtain ⟨rfl,rfl,rfl⟩:=trodAll_nil r0
  obtain rfl:args=#[v0]:=by cases args;simp_all
  obtain ⟨rfl,rfl⟩:=trodVars_none hV
  have k0:=h0
  have lt0:∀ x∈p0,x.block < W.heap.size:=by obtain ⟨m,hm⟩:=k0;exact DataW.trod_lt m _ _ _ hm
  obtain ⟨s,h,sc,ga,la,fa,gf,lf,ff,L,I,_,_,V,S,m1,m2,m3,m4⟩:=in_scene (InOk.nil W) (hval 0 28 v0 rfl rfl) h0
  clear hA0 hval0 hsz0
  obtain ⟨M,last,o,w',t',g1,g2,g3,g4⟩:=main_run (lo:=h.n) (Post:=fun v _=>v = .bool true) (argsr:=#[v0]) (args:=[scV sc ga la fa gf lf ff]) Tryz.func3 rfl (Nat.le_of_ble_eq_true rfl) (by kernel_rfl) I (VRs.cons V (VRs.nil s)) (exactSceneOk_R sc ga la fa gf lf ff L h S (Nat.le_trans m1 (by unfold Go.maxLen;exact Nat.le_refl _)) (Nat.le_trans m2 (by unfold Go.maxLen;exact Nat.le_refl _)) (Nat.le_trans m3 (by unfold Go.maxLen;exact Nat.le_refl _)) (fun l hl=>Nat.le_trans (m4 l hl) (by unfold Go.maxLen;exact Nat.le_refl _)) (Nat.le_refl _))
  refine ⟨M,last,o,w',t',g1,g2,g3,g4.mono fun vr ht => ?_⟩
  obtain ⟨v,h',s',O',rfl,_,_,hv,K⟩:=ht
  obtain rfl:vr = .bool true:=VR.bool_inv hv
  have bel:=below_of K
  exact ⟨_,_,_,[],_,[],hW',trodAll_mk1 (shut_bool Tryz.underlying4 _),trodAll_cons_mk (Trod_tape (Below.trod laidOut (by kernel_rfl) (of_decide_eq_true (by kernel_rfl)) k0 bel lt0)) trodAll_mk0,rfl,kept_frame K _,fun h=>by cases h⟩
theorem j2:laidOutB Tryz.pinned.checked.prog=true:=by kernel_rfl
theorem j3:mapsRowed Tryz.pinned.checked.prog=true:=by kernel_rfl
theorem j10:(Rows.fnExactSceneOkRow.inPlace == Program.inPlace Tryz.pinned.checked.prog 3)=true:=by kernel_rfl
theorem j11:(Rows.fnExactSceneOkRow.unfollowed == Program.unfollowed Tryz.pinned.checked.prog 3)=true:=by kernel_rfl
theorem j12:(Rows.fnExactSceneOkRow.recurses == Program.recurses Tryz.pinned.checked.prog 3)=true:=by kernel_rfl
theorem j13:(Rows.fnExactSceneOkRow.named == Program.varsNamed Tryz.pinned.checked.prog 3)=true:=by kernel_rfl
theorem j23:(Rows.fnExactSceneOkRow.plainKeys == Program.plainKeys Tryz.pinned.checked.prog)=true:=by kernel_rfl
theorem j25:Program.stopsHeard Tryz.pinned.checked.prog=true:=by kernel_rfl
theorem j26:Program.mayEnter Tryz.pinned.checked.prog=true:=by kernel_rfl
theorem j27:(Rows.fnExactSceneOkRow.lifted == Program.liftsFinal Tryz.pinned.checked.prog)=true:=by kernel_rfl
theorem j28:(Program.make Tryz.pinned.checked.prog == some Rows.fnExactSceneOkRow.make)=true:=by kernel_rfl
theorem closed:joinedFacts Tryz.pinned.checked.prog 3 Tryz.f3 Rows.fnExactSceneOkSpec Rows.fnExactSceneOkRow=true :=
  joined_of (by kernel_rfl) j2 j3 (by kernel_rfl) (by kernel_rfl) (by kernel_rfl) (by kernel_rfl) (by kernel_rfl) (by kernel_rfl) j10 j11 j12 j13 (by kernel_rfl) (by kernel_rfl) (by kernel_rfl) (by kernel_rfl) (by kernel_rfl) (by kernel_rfl) (by kernel_rfl) (by kernel_rfl) (by kernel_rfl) j23 (by kernel_rfl) j25 j26 j27 j28 (by kernel_rfl) (by kernel_rfl) (by kernel_rfl) (by kernel_rfl)
theorem over:Rows.fnExactSceneOkRow.holds Tryz.pinned (OpenSpec.ofChange Rows.fnExactSceneOkSpec) :=
  OpenClaim.holds_of_wide_leaving 3 Tryz.f3 rfl rfl rfl rfl rfl rfl rfl ⟨rfl,rfl,rfl,rfl,rfl⟩ rfl rfl rfl rfl rfl (by kernel_rfl) Tryz.func3 closed
    (of_decide_eq_true (by kernel_rfl)) (by unfold Func.isWrapper;first | (rw [if_pos (by decide +kernel)];kernel_rfl) | (rw [if_neg (by decide +kernel)];exact ⟨rfl,rfl⟩))
    (fun os started H enc _=>lifted os started H enc)
theorem proved:Rows.FnExactSceneOkSaid:=over
#print axioms proved
end Go.Proofs.YtjpcfaddimlbdaaGreat.fnExactSceneOk
namespace Go.Proofs.YtjpcfaddimlbdaaGreat
theorem fnExactSceneOk_holds:Rows.FnExactSceneOkSaid:=fnExactSceneOk.proved
end Go.Proofs.YtjpcfaddimlbdaaGreat
