/- For every input the law returns true, and what came in reads as it did (the row of Rsk). No condition. Texts of this claim, joined: Wf, Te, Wk, Rsk. -/
import Derived.Test.YtgmkdjjcleobhaaGreatM5
import Derived.Test.YtgmkdjjcleobhaaGreatRows
import Derived.Conc.LeavingOf
import Derived.WalkKit
import Derived.ProofKit
import Derived.OpenShut
import Derived.ShutString
import Derived.SizedLaws
import Derived.Lib.SmallJoins
namespace Go.Proofs.YtgmkdjjcleobhaaGreat.Id
open Go.Id Go.Conc Go.Conc.Lib
open Go.Proofs
set_option linter.unusedVariables false
set_option maxRecDepth 100000
section
variable {X:Ctx Tryz.prog} {lo:Nat}
end
end Go.Proofs.YtgmkdjjcleobhaaGreat.Id
namespace Go.Proofs.YtgmkdjjcleobhaaGreat.Id
open Go.Id
open Go.Proofs
set_option linter.unusedVariables false
set_option maxRecDepth 100000
variable {X:Ctx Tryz.prog} {lo:Nat}
theorem llHas_ok (l:List Int) (a:Option Addr) (fl:Nat) (n:Int) (h:Hp) (hs:Sls h inE 1 a l) (hn:l.length≤1048576):Tri X lo 34 [.slice a l.length fl,.int .i64 n] h fun v h'=>v = .bool (decide (n∈l))∧h'=h:=by
  refine enter tbOk mtOk ⟨[],[]⟩ 400 Tryz.func34 rfl rfl rfl fun hlo => ?_
  refine loop (σ:=Nat) tbOk mtOk ⟨[],[]⟩ (fun i=>[(5,.v (.int .i64 (i:Int))),(4,.v (.bool false)),(0,.v (.slice a l.length fl)),(1,.v (.int .i64 n))]) (fun _=>[]) (fun i h'=>i≤l.length∧h'=h∧n∉l.take i) (fun i=>l.length - i) 400 0 (fun _=>rfl) ⟨rfl,rfl,rfl,rfl,trivial⟩ trivial ⟨Nat.zero_le _,rfl,by simp⟩ (fun i h' hI again => ?_)
  obtain ⟨i1,rfl,i3⟩:=hI
  refine cnd (fun c2 => ?_) (fun c2 => ?_)
  · have c2:i < l.length:=by simpa using c2
    obtain ⟨a,rfl⟩:=hs.some c2
    refine And.intro ⟨by omega,by omega⟩ ?_
    refine ⟨_,hs.ld (fun _=>rfl) c2,?_⟩
    refine cnd (fun c3 => ?_) (fun c3 => ?_)
    · have c3:l[i]=n:=by simpa using c3
      refine And.intro ?_ rfl
      rw [decide_eq_true (c3▸List.getElem_mem c2)]
    · have c3:l[i]≠n:=by simpa using c3
      have wq:IntKind.i64.wrap ((i:Int)+1)=((i+1:Nat):Int):=wz (by omega) (by omega)
      refine again (i+1) _ _ _ (by omega) ⟨vI wq,rfl,rfl,rfl,trivial⟩ trivial ⟨by omega,rfl,?_⟩
      rw [List.take_succ_eq_append_getElem c2]
      intro hm
      rcases List.mem_append.1 hm with q | q
      · exact i3 q
      · exact c3 (List.mem_singleton.1 q).symm
  · have c2:l.length=i:=by simp at c2;omega
    refine And.intro ?_ rfl
    rw [← c2,List.take_length] at i3
    rw [decide_eq_false i3]
end Go.Proofs.YtgmkdjjcleobhaaGreat.Id
namespace Go.Proofs.YtgmkdjjcleobhaaGreat.Id
open Go.Id Go.Conc Go.Conc.Lib
open Go.Proofs
set_option linter.unusedVariables false
set_option maxRecDepth 100000
theorem sum_add (l:List Nat) (f g:Nat→Nat):(l.map fun k=>f k+g k).sum=(l.map f).sum+(l.map g).sum:=by
  induction l with
  | nil=>rfl
  | cons x l ih=>simp only [List.map_cons,List.sum_cons,ih];omega
theorem cnt_sum (l:List Nat) (p:Nat→Bool):(l.filter p).length=(l.map fun k=>if p k then 1 else 0).sum:=by
  induction l with
  | nil=>rfl
  | cons x l ih =>
    simp only [List.filter_cons,List.map_cons,List.sum_cons,← ih]
    split<;>simp<;>omega
theorem sum_le (l:List Nat) (f:Nat→Nat) (c:Nat) (h:∀ x∈l,f x≤c):(l.map f).sum≤l.length*c:=by
  induction l with
  | nil=>simp
  | cons x l ih =>
    have h1:=h x List.mem_cons_self
    have h2:=ih fun y hy=>h y (List.mem_cons_of_mem _ hy)
    simp only [List.map_cons,List.sum_cons,List.length_cons]
    rw [Nat.add_mul];omega
theorem twice (n m:Nat) (P:Nat→Nat→Bool):((List.range n).map fun a=>((List.range m).filter fun k=>P a k).length).sum=((List.range m).map fun k=>((List.range n).filter fun a=>P a k).length).sum:=by
  induction n with
  | zero =>
    simp only [List.range_zero,List.map_nil,List.sum_nil,List.filter_nil,List.length_nil]
    generalize List.range m=l
    induction l with
    | nil=>rfl
    | cons x l ih=>simp only [List.map_cons,List.sum_cons];omega
  | succ n ih =>
    have e:((List.range m).map fun k=>((List.range (n+1)).filter fun a=>P a k).length)=(List.range m).map fun k=>((List.range n).filter fun a=>P a k).length+if P n k then 1 else 0:=by
      refine List.map_congr_left fun k _ => ?_
      rw [List.range_succ,List.filter_append,List.length_append]
      congr 1
      cases h:P n k<;>simp [h]
    rw [e,sum_add,← ih,List.range_succ,List.map_append,List.sum_append,← cnt_sum]
    simp
theorem foot_cnt (g:Gd) (k:Int):(footG g k).length=((List.range g.cs.length).filter fun a=>decide (((a:Nat):Int)∈footG g k)).length:=by
  have:footG g k=((List.range g.cs.length).filter fun a=>decide (((a:Nat):Int)∈footG g k)).map fun (i:Nat)=>(i:Int):=by
    conv=>lhs;unfold footG footL
    congr 1
    refine List.filter_congr fun i hi => ?_
    rw [Bool.eq_iff_iff,decide_eq_true_iff]
    unfold footG
    rw [footL_mem]
    simp only [List.any_eq_true,beq_iff_eq]
    have:=List.mem_range.1 hi
    constructor
    · intro h;exact ⟨⟨by omega,by omega⟩,h⟩
    · intro h;exact h.2
  have h2:=congrArg List.length this
  rw [List.length_map] at h2
  exact h2
theorem foot_le (g:Gd) (k:Int):(footG g k).length≤g.cs.length:=by
  rw [foot_cnt];exact Nat.le_trans (List.length_filter_le _ _) (by simp)
def sumT (s:Sc) (i:Nat):Nat:=((List.range i).map fun a=>(touchS s ((a:Nat):Int)).length).sum
noncomputable def sumF (g:Gd) (i:Nat):Nat:=((List.range i).map fun k=>(footG g ((k:Nat):Int)).length).sum
theorem sumT_succ (s:Sc) (i:Nat):sumT s (i+1)=sumT s i+(touchS s i).length:=by
  unfold sumT;rw [List.range_succ,List.map_append,List.sum_append];simp
theorem sumF_succ (g:Gd) (i:Nat):sumF g (i+1)=sumF g i+(footG g i).length:=by
  unfold sumF;rw [List.range_succ,List.map_append,List.sum_append];simp
theorem sum_eq (g:Gd):sumT (scG g) g.cs.length=sumF g (many g).toNat:=by
  obtain ⟨_,l2⟩:=scG_len g
  have e1:sumT (scG g) g.cs.length=((List.range g.cs.length).map fun a=>((List.range (many g).toNat).filter fun k=>decide (((a:Nat):Int)∈footG g ((k:Nat):Int))).length).sum:=by
    unfold sumT
    congr 1
    refine List.map_congr_left fun a _ => ?_
    unfold touchS
    rw [List.length_map,l2]
    congr 1
    refine List.filter_congr fun k hk => ?_
    exact sees_G (List.mem_range.1 hk)
  have e2:sumF g (many g).toNat=((List.range (many g).toNat).map fun k=>((List.range g.cs.length).filter fun a=>decide (((a:Nat):Int)∈footG g ((k:Nat):Int))).length).sum:=by
    unfold sumF
    congr 1
    exact List.map_congr_left fun k _=>foot_cnt g k
  rw [e1,e2]
  exact twice _ _ _
section
variable {X:Ctx Tryz.prog} {lo:Nat}
def DrawnST (h:Hp) (v:Value) (h':Hp):Prop:=∃ (s:Sc) (ga la fa:Option Addr) (gf lf ff:Nat) (L:List Value) (q:Int),v = .tuple #[scV s ga la fa gf lf ff,.int .i64 q]∧ScR h' s ga la fa L∧ScS s∧Ext h h'
theorem DrawSceneTouch_ok (a:Option Addr) (fl:Nat) (bs:List Nat) (h:Hp) (hs:Sls h uE 1 a bs) (hn:bs.length≤1048576) (hb:∀ b∈bs,b < 256):Tri X lo 30 [.slice a bs.length fl] h (DrawnST h):=by
  refine enter tbOk mtOk ⟨[],[(3,[0,1,2,3,4,5,6],[0,0,0,4,14,31,63])]⟩ 400 Tryz.func30 rfl rfl rfl fun hlo => ?_
  refine callP (l6Open_ok a fl bs h hs hn hb) ?_
  rintro v h1 ⟨rfl,r1,x1⟩
  refine callP (l71Scene_ok h.n 0 h1 r1 (by decide)) ?_
  rintro v h2 ⟨s,ga,la,fa,gf,lf,ff,L,p,rfl,d,b,r2,i2,x2⟩
  have n1:=x1.n
  have lt:=r1.lt
  refine And.intro (by kernel_rfl) ?_
  refine callP (l71Place_ok h.n p s.g ga gf h2 r2 (by omega) (by have:=b.1;omega)) ?_
  rintro v h3 ⟨q,p',rfl,r3,i3,x3⟩
  repeat refine And.intro Is.r ?_
  exact ⟨s,ga,la,fa,gf,lf,ff,L,q,rfl,(d.keep x3 (by omega)).r,b,(x2.trans x3).out x1 (Nat.le_refl _)⟩
end
section
variable {N0:Nat→Prop} {lo:Nat}
set_option maxHeartbeats 800000 in
theorem sceneTouch_R (bs : List Nat) (a : Option Addr) (fl : Nat) (h : Hp) (hs : Sls h uE 1 a bs) (hb : ∀ b ∈ bs, b < 256) (hn : bs.length ≤ 9223372036854775807) (hlo : lo ≤ h.n) :
    R (mainCtx Tryz.prog N0) lo 6 Tryz.f6 (.ret fun v _ => v = .bool true) [.code (bodyC Tryz.f6)] (argsTm 0 [.slice a bs.length fl]) [] h := by
  refine more tbOk mtOk ⟨[], []⟩ 500 ?_
  refine cnd (fun c1 => rfl) (fun c1 => ?_)
  have hm : bs.length ≤ 1048576 := by simp at c1; omega
  refine callP (DrawSceneTouch_ok a fl bs h hs hm hb) ?_
  rintro v h1 ⟨s, ga, la, fa, gf, lf, ff, L, at_, rfl, hR, hS, x1⟩
  have hB := hS.b
  have tl : ∀ x, (touchO s x).length ≤ 20 := fun x => by
    unfold touchO
    split
    · have := touch_len s x; have := hS.2.2.1; omega
    · simp
  refine callP (SceneTouch_ok s at_ ga la fa gf lf ff L h1 hR hB) ?_
  rintro v h2 ⟨⟨o2, rfl, g2⟩, x2⟩
  obtain ⟨ta, tf, z2, t2⟩ := gx_slv g2 fun _ => rfl
  rw [z2]
  refine callP (sSceneTouch_ok s at_ ga la fa gf lf ff L h2 (hR.ext x2) hB) ?_
  rintro v h3 ⟨⟨b3, e3, rfl, _, w3⟩, x3⟩
  refine callP (llInts_ok ta _ tf _ (touchO s at_) (touchO s at_) h3 (t2.ext x3) (w3.sls fun _ => rfl) (by have := tl at_; omega)) ?_
  rintro v h3' ⟨rfl, rfl⟩
  refine cnd (fun c => by simp at c) (fun _ => ?_)
  refine callP (sSceneOk_ok s ga la fa gf lf ff L h3' (hR.ext (x2.trans x3)) hB) ?_
  rintro v h4 ⟨rfl, x4⟩
  obtain ⟨k1, hk1⟩ : ∃ k1, k1 = scOk s := ⟨_, rfl⟩
  rw [← hk1]
  have x24 := (x2.trans x3).trans x4
  refine cnd (fun c1 => ?_) (fun c1 => ?_)
  · refine callP (sSceneTouch_ok s at_ ga la fa gf lf ff L h4 (hR.ext x24) hB) ?_
    rintro v h5 ⟨⟨b5, e5, rfl, _, w5⟩, x5⟩
    refine callP (llInts_ok ta _ tf _ (touchO s at_) (touchO s at_) h5 (t2.ext ((x3.trans x4).trans x5)) (w5.sls fun _ => rfl) (by have := tl at_; omega)) ?_
    rintro v h6 ⟨rfl, rfl⟩
    exact congrArg Value.bool (decide_eq_true rfl)
  have hok : scOk s = true := by rw [← hk1]; simpa using c1
  obtain ⟨hg, hsG⟩ := scOk_iff.1 hok
  obtain ⟨l1, l2⟩ := scG_len s.g
  have hT : ∀ x, touchO s x = touchS s x := fun x => by unfold touchO; rw [if_pos hok]
  rw [hT] at z2 t2 ⊢
  have tl' : ∀ x, (touchS s x).length ≤ 20 := fun x => by rw [← hT]; exact tl x
  have s1 := hS.1
  have s2 := hS.2.1
  have s3 := hS.2.2.1
  have hli : s.li.length = (many s.g).toNat := by rw [hsG]; exact l1
  have hft : s.ft.length = (many s.g).toNat := by rw [hsG]; exact l2
  have bT : ∀ i, i ≤ 40 → sumT s i ≤ 800 := fun i hi => by
    have := sum_le (List.range i) (fun a => (touchS s ((a : Nat) : Int)).length) 20 fun x _ => tl' _
    rw [List.length_range] at this
    unfold sumT; omega
  have bF : ∀ i, i ≤ 21 → sumF s.g i ≤ 840 := fun i hi => by
    have := sum_le (List.range i) (fun k => (footG s.g ((k : Nat) : Int)).length) 40 fun x _ => by have := foot_le s.g ((x : Nat) : Int); omega
    rw [List.length_range] at this
    unfold sumF; omega
  have tS : (touchS s at_).length ≤ 1048576 := by have := tl' at_; omega
  refine loop (σ := Nat) tbOk mtOk ⟨[], []⟩ (fun i => [(8, .v (.int .i64 (i : Int))), (7, .v (.int .i64 0)), (6, .v (.int .i64 (sumT s i : Nat))), (5, .v (.slice ta (touchS s at_).length tf)), (4, .v (.int .i64 at_)), (3, .l 0 0)]) (fun _ => [[.int .i64 s.g.w, .slice ga s.g.cs.length gf, .slice la s.li.length lf, .slice fa s.ft.length ff]]) (fun i h' => i ≤ s.g.cs.length ∧ Ext h4 h') (fun i => s.g.cs.length - i) 400 0 (fun _ => rfl) ⟨rfl, rfl, rfl, rfl, rfl, rfl, trivial⟩ ⟨rfl, trivial⟩ ⟨Nat.zero_le _, Ext.refl _⟩ (fun i h5 hI again => ?_)
  obtain ⟨i1, x5⟩ := hI
  refine cnd (fun c => ?_) (fun c => ?_)
  · have c : i < s.g.cs.length := by simpa using c
    have wi : IntKind.i64.wrap ((i : Int) + 1) = ((i + 1 : Nat) : Int) := wz (by omega) (by omega)
    refine callP (SceneTouch_ok s i ga la fa gf lf ff L h5 (hR.ext (x24.trans x5)) hB) ?_
    rintro v h6 ⟨⟨o6, rfl, g6⟩, x6⟩
    obtain ⟨ua, uf, z6, t6⟩ := gx_slv g6 fun _ => rfl
    rw [hT] at z6
    rw [hT, z6]
    have b1 := bT i (by omega)
    have b2 := tl' i
    have ws : IntKind.i64.wrap ((sumT s i : Int) + ((touchS s i).length : Int)) = ((sumT s (i + 1) : Nat) : Int) := by rw [sumT_succ, wr (by omega) (by omega)]; omega
    exact again (i + 1) _ _ _ (by omega) ⟨vI wi, rfl, vI ws, rfl, rfl, rfl, trivial⟩ ⟨rfl, trivial⟩ ⟨by omega, x5.trans x6⟩
  · have c : i = s.g.cs.length := by have : ¬ i < s.g.cs.length := by simpa using c
                                     omega
    subst c
    refine loop (σ := Nat) tbOk mtOk ⟨[], []⟩ (fun k => [(9, .v (.int .i64 (k : Int))), (7, .v (.int .i64 (sumF s.g k : Nat))), (6, .v (.int .i64 (sumT s s.g.cs.length : Nat))), (5, .v (.slice ta (touchS s at_).length tf)), (4, .v (.int .i64 at_)), (3, .l 0 0)]) (fun _ => [[.int .i64 s.g.w, .slice ga s.g.cs.length gf, .slice la s.li.length lf, .slice fa s.ft.length ff]]) (fun k h' => k ≤ s.li.length ∧ Ext h5 h') (fun k => s.li.length - k) 400 0 (fun _ => rfl) ⟨rfl, rfl, rfl, rfl, rfl, rfl, trivial⟩ ⟨rfl, trivial⟩ ⟨Nat.zero_le _, Ext.refl _⟩ (fun k h6 hI again2 => ?_)
    obtain ⟨k1', x6⟩ := hI
    have x26 := (x24.trans x5).trans x6
    refine cnd (fun c => ?_) (fun c => ?_)
    · have c : k < s.li.length := by simpa using c
      have wk : IntKind.i64.wrap ((k : Int) + 1) = ((k + 1 : Nat) : Int) := wz (by omega) (by omega)
      refine callP (TrailFoot_ok s.g k ga gf h6 ((hR.ext x26).g) (by omega)) ?_
      rintro v h7 ⟨⟨o7, rfl, g7⟩, x7⟩
      obtain ⟨va, vf, z7, t7⟩ := g7.sl
      rw [z7]
      have fl := foot_le s.g k
      have b1 := bF k (by omega)
      have ws : IntKind.i64.wrap ((sumF s.g k : Int) + ((footG s.g k).length : Int)) = ((sumF s.g (k + 1) : Nat) : Int) := by rw [sumF_succ, wr (by omega) (by omega)]; omega
      refine callP (llHas_ok (footG s.g k) va vf at_ h7 t7 (by omega)) ?_
      rintro v h8 ⟨rfl, rfl⟩
      refine callP (llHas_ok (touchS s at_) ta tf k h8 (t2.ext ((((x3.trans x4).trans x5).trans x6).trans x7)) tS) ?_
      rintro v h9 ⟨rfl, rfl⟩
      have hq : decide (at_ ∈ footG s.g k) = decide ((k : Int) ∈ touchS s at_) := by
        have hs2 : sees s at_ k = decide (at_ ∈ footG s.g k) := by
          have := sees_G (g := s.g) (a := at_) (k := k) (by omega)
          rw [← hsG] at this
          exact this
        rw [← hs2, Bool.eq_iff_iff, decide_eq_true_iff, touch_mem]
        constructor
        · intro hh; exact ⟨k, rfl, by omega, hh⟩
        · rintro ⟨k', e1, _, hh⟩
          obtain rfl : k = k' := by omega
          exact hh
      rw [hq]
      refine cnd (fun c => by simp at c) (fun _ => ?_)
      exact again2 (k + 1) _ _ _ (by omega) ⟨vI wk, vI ws, rfl, rfl, rfl, rfl, trivial⟩ ⟨rfl, trivial⟩ ⟨by omega, x6.trans x7⟩
    · have c : k = (many s.g).toNat := by have : ¬ k < s.li.length := by simpa using c
                                          omega
      refine congrArg Value.bool (decide_eq_true ?_)
      have := sum_eq s.g
      rw [← hsG] at this
      rw [this, c]
end
end Go.Proofs.YtgmkdjjcleobhaaGreat.Id
namespace Go.Proofs.YtgmkdjjcleobhaaGreat.fnSceneTouch
open Go.ChangeShapes Go.WideShapes Go.ChangeAt Go.RowKit Go.Id Go.Conc Go.Proofs.YtgmkdjjcleobhaaGreat.Id
set_option linter.unusedVariables false
theorem own:ownKnob Tryz.prog.godebug=none:=by kernel_rfl
theorem laidOut:laidOutB Tryz.prog=true:=by kernel_rfl
set_option maxRecDepth 100000 in
theorem lifted (os:Os) (started:os.Started) (H:Type) (enc:TypeId×Value→H) :
    ReturnsInLeavingWide {} Tryz.checked os 6 .any (Rows.fnSceneTouchSpec.pre6 enc Tryz.prog Tryz.f6 Rows.fnSceneTouchRow.domain false) (Rows.fnSceneTouchSpec.post enc Tryz.prog Tryz.f6 false true false false):=by
  refine returnsInLeavingWide_of_change_sized (C:=Tryz.checked) own started Tryz.func6
    (ChangeSpec.witness6 (enc:=enc) (C:=Tryz.checked) false ⟨#[],#[.slice none 0 0],[]⟩ 8 (by kernel_rfl) (by kernel_rfl) (by kernel_rfl) (by kernel_rfl)) ?_
  intro W base args ds gs before hval0 hW hcnd hsz0 _
  have hval:∀ (j:Nat) t v,Tryz.f6.params[j]? = some t→args[j]? = some v→Value.okWide Tryz.prog W .any base t v:=hval0
  have hW':=hW
  obtain ⟨p,q,hA0,hV,rfl,hfz,hnd⟩:=hW
  have hA:DataW.TrodAll enc Tryz.prog W 0 (fun _=>true) true Tryz.f6.params.toList args.toList ds p:=hA0
  rw [Tryz.params6] at hA hval
  obtain ⟨v0,vs0,d0,ds0,p0,q0,hargs,rfl,rfl,h0,r0⟩:=trodAll_cons hA
  obtain ⟨rfl,rfl,rfl⟩:=trodAll_nil r0
  obtain rfl:args=#[v0]:=by cases args;simp_all
  obtain ⟨rfl,rfl⟩:=trodVars_none hV
  have k0:=h0
  have lt0:∀ x∈p0,x.block < W.heap.size:=by obtain ⟨m,hm⟩:=k0;exact DataW.trod_lt m _ _ _ hm
  obtain ⟨s,h,bs,a,fl,I,_,_,V,S,hn,hb⟩:=in_bytes (InOk.nil W) (hval 0 22 v0 rfl rfl) h0
  clear hA0 hval0 hsz0
  obtain ⟨M,last,o,w',t',g1,g2,g3,g4⟩:=main_run (lo:=h.n) (Post:=fun v _=>v = .bool true) (argsr:=#[v0]) (args:=[.slice a bs.length fl]) Tryz.func6 rfl (Nat.le_of_ble_eq_true rfl) (by kernel_rfl) I (VRs.cons V (VRs.nil s)) (sceneTouch_R bs a fl h S hb (Nat.le_trans hn (by unfold Go.maxLen;exact Nat.le_refl _)) (Nat.le_refl _))
  refine ⟨M,last,o,w',t',g1,g2,g3,g4.mono fun vr ht => ?_⟩
  obtain ⟨v,h',s',O',rfl,_,_,hv,K⟩:=ht
  obtain rfl:vr = .bool true:=VR.bool_inv hv
  have bel:=below_of K
  exact ⟨_,_,_,[],_,[],hW',trodAll_mk1 (shut_bool Tryz.underlying4 _),trodAll_cons_mk (Trod_tape (Below.trod laidOut (by kernel_rfl) (of_decide_eq_true (by kernel_rfl)) k0 bel lt0)) trodAll_mk0,rfl,kept_frame K _,fun h=>by cases h⟩
theorem j2:laidOutB Tryz.pinned.checked.prog=true:=by kernel_rfl
theorem j3:mapsRowed Tryz.pinned.checked.prog=true:=by kernel_rfl
theorem j10:(Rows.fnSceneTouchRow.inPlace == Program.inPlace Tryz.pinned.checked.prog 6)=true:=by kernel_rfl
theorem j11:(Rows.fnSceneTouchRow.unfollowed == Program.unfollowed Tryz.pinned.checked.prog 6)=true:=by kernel_rfl
theorem j12:(Rows.fnSceneTouchRow.recurses == Program.recurses Tryz.pinned.checked.prog 6)=true:=by kernel_rfl
theorem j13:(Rows.fnSceneTouchRow.named == Program.varsNamed Tryz.pinned.checked.prog 6)=true:=by kernel_rfl
theorem j23:(Rows.fnSceneTouchRow.plainKeys == Program.plainKeys Tryz.pinned.checked.prog)=true:=by kernel_rfl
theorem j25:Program.stopsHeard Tryz.pinned.checked.prog=true:=by kernel_rfl
theorem j26:Program.mayEnter Tryz.pinned.checked.prog=true:=by kernel_rfl
theorem j27:(Rows.fnSceneTouchRow.lifted == Program.liftsFinal Tryz.pinned.checked.prog)=true:=by kernel_rfl
theorem j28:(Program.make Tryz.pinned.checked.prog == some Rows.fnSceneTouchRow.make)=true:=by kernel_rfl
theorem closed:joinedFacts Tryz.pinned.checked.prog 6 Tryz.f6 Rows.fnSceneTouchSpec Rows.fnSceneTouchRow=true :=
  joined_of (by kernel_rfl) j2 j3 (by kernel_rfl) (by kernel_rfl) (by kernel_rfl) (by kernel_rfl) (by kernel_rfl) (by kernel_rfl) j10 j11 j12 j13 (by kernel_rfl) (by kernel_rfl) (by kernel_rfl) (by kernel_rfl) (by kernel_rfl) (by kernel_rfl) (by kernel_rfl) (by kernel_rfl) (by kernel_rfl) j23 (by kernel_rfl) j25 j26 j27 j28 (by kernel_rfl) (by kernel_rfl) (by kernel_rfl) (by kernel_rfl)
theorem over:Rows.fnSceneTouchRow.holds Tryz.pinned (OpenSpec.ofChange Rows.fnSceneTouchSpec) :=
  OpenClaim.holds_of_wide_leaving 6 Tryz.f6 rfl rfl rfl rfl rfl rfl rfl ⟨rfl,rfl,rfl,rfl,rfl⟩ rfl rfl rfl rfl rfl (by kernel_rfl) Tryz.func6 closed
    (of_decide_eq_true (by kernel_rfl)) (by unfold Func.isWrapper;first | (rw [if_pos (by decide +kernel)];kernel_rfl) | (rw [if_neg (by decide +kernel)];exact ⟨rfl,rfl⟩))
    (fun os started H enc _=>lifted os started H enc)
theorem proved:Rows.FnSceneTouchSaid:=over
#print axioms proved
end Go.Proofs.YtgmkdjjcleobhaaGreat.fnSceneTouch
namespace Go.Proofs.YtgmkdjjcleobhaaGreat
theorem fnSceneTouch_holds:Rows.FnSceneTouchSaid:=fnSceneTouch.proved
end Go.Proofs.YtgmkdjjcleobhaaGreat
