/- Texts of this claim, joined: IdPf, Vd, Ve, Vf, Vg, Vh, Vi, Vj, Vk, Vl, Vm, Vn, Ha, Ga, Gb, Gc, Gd, Ge, Vo, Vp, Vq, Vr, IdIn, In, IdJf. -/
import Derived.Test.YtgmkdjjcleobhaaGreatM4
import Derived.Deep.Slices
import Derived.Below
import Derived.ChangeFn
import Derived.ChangeOld
import Derived.WalkKit
import Derived.ProofKit
import Derived.OpenShut
import Derived.Conc.Holds
namespace Go.Id
open Go.Conc
set_option linter.unusedVariables false
inductive OTr where
  | fin
  | stop
  | fl (i:Nat) (r:OTr)
  | ch (c:Nat) (r alt:OTr)
def OTr.heads:OTr→List Nat
  | .ch c _ a=>c::a.heads
  | _=>[]
def OTr.path:OTr→List Nat
  | .fl i r=>i::r.path
  | .ch c r _=>c::r.path
  | _=>[]
def okAt (ops:Array Oper) (q:Bool) (i done:Nat):Bool:=match ops[i]? with
  | none=>false
  | some o=>match Nat.testBit done i with
    | true=>false
    | false=>match Nat.beq (pm o &&& done) (pm o) with
      | false=>false
      | true=>isFl o.op == q
def rdyAll (ops:List (Nat×Oper)) (hs:List Nat) (done:Nat):Bool:=allB (fun p=>match Nat.testBit done p.1 with
  | true=>true
  | false=>match Nat.beq (pm p.2 &&& done) (pm p.2) with
    | false=>true
    | true=>memN p.1 hs) ops
def ordT (ops:Array Oper):Bool→OTr→Nat→Bool
  | b,.fin,done=>match b with | true=>false | false=>Nat.beq done (2 ^ ops.size - 1)
  | b,.stop,_=>b
  | b,.fl i r,done=>match b with | true=>false | false=>match okAt ops true i done with
    | false=>false
    | true=>ordT ops false r (done ||| 2 ^ i)
  | b,.ch c r a,done=>match okAt ops false c done with
    | false=>false
    | true=>match ordT ops false r (done ||| 2 ^ c) with
      | false=>false
      | true=>match ordT ops true a done with
        | false=>false
        | true=>match b with
          | true=>true
          | false=>rdyAll (withIx ops.toList 0) (c::a.heads) done
def drawOkT (ops:Array Oper) (p:OTr) (bm:List Nat):Bool:=match eqL (bmOf ops.toList) bm with
  | false=>false
  | true=>match ordT ops false p 0 with
  | false=>false
  | true=>match rdOkAll (withIx ops.toList 0) with
    | false=>false
    | true=>match gdOk (withIx ops.toList 0) with
      | false=>false
      | true=>dstsOk (withIx ops.toList 0)
section
variable {P:Program} (X:Ctx P) (T:Nat→Option TyI) (Mt:Nat→String→Option FuncId) (lo:Nat) (fn:Func) (esc:Hint)
def vcT (ops:Array Oper) (bm:List Nat) (K:Tm→Lv→Hp→Prop):OTr→List Nat→Tm→Lv→Hp→Prop
  | .fin,_,t,ls,h=>K t ls h
  | .stop,_,_,_,_=>True
  | .fl i r,D,t,ls,h=>match ops[i]? with
    | none=>False
    | some o=>vcOp X T Mt lo fn esc ops t ls h o fun t ls h=>vcT ops bm K r (i::D) t ls h
  | .ch c r a,D,t,ls,h=>match ops[c]? with
    | none=>False
    | some o=>(vcOp X T Mt lo fn esc ops t ls h o fun t ls h=>reck T lo esc ops (bm.getD c 0) t ls h D (vcT ops bm K r (c::D) t ls h))∧vcT ops bm K a D t ls h
end
theorem okAt_spec {ops:Array Oper} {q:Bool} {i done:Nat} (h:okAt ops q i done=true):∃ o,ops[i]? = some o∧Nat.testBit done i=false∧(∀ j,Nat.testBit (pm o) j=true→Nat.testBit done j=true)∧isFl o.op=q:=by
  unfold okAt at h
  split at h
  · cases h
  · rename_i o ho
    split at h
    · cases h
    · rename_i hd
      split at h
      · cases h
      · rename_i h1
        refine ⟨o,ho,hd,fun j hj => ?_,by simpa using h⟩
        have:=Nat.eq_of_beq_eq_true h1
        rw [← this,Nat.testBit_and,Bool.and_eq_true] at hj
        exact hj.2
theorem memN_iff {i:Nat}:∀ {l:List Nat},memN i l=true→i∈l
  | [],h=>by cases h
  | j::r,h=>by
    unfold memN at h
    split at h
    · rename_i e;simp [e]
    · simp [memN_iff h]
section
variable {ops:Array Oper}
theorem ordT_fl {i:Nat} {r:OTr} {done:Nat} (h:ordT ops false (.fl i r) done=true):okAt ops true i done=true∧ordT ops false r (done ||| 2 ^ i)=true:=by
  unfold ordT at h
  simp only at h
  split at h
  · cases h
  · rename_i h1;exact ⟨h1,h⟩
theorem ordT_ch {b:Bool} {c:Nat} {r a:OTr} {done:Nat} (h:ordT ops b (.ch c r a) done=true):okAt ops false c done=true∧ordT ops false r (done ||| 2 ^ c)=true∧ordT ops true a done=true∧(b=false→rdyAll (withIx ops.toList 0) (c::a.heads) done=true):=by
  unfold ordT at h
  split at h
  · cases h
  · rename_i h1
    split at h
    · cases h
    · rename_i h2
      split at h
      · cases h
      · rename_i h3
        refine ⟨h1,h2,h3,fun hb => ?_⟩
        subst hb
        exact h
theorem ordT_all:∀ {p:OTr} {done:Nat},ordT ops false p done=true→∀ i,i < ops.size→Nat.testBit done i=true∨i∈p.path
  | .fin,done,h,i,hi=>by
    unfold ordT at h
    have:=Nat.eq_of_beq_eq_true h
    subst this
    exact .inl (by rw [Nat.testBit_two_pow_sub_one];simpa using hi)
  | .stop,done,h,i,hi=>by cases h
  | .fl j r,done,h,i,hi=>by
    obtain ⟨_,h3⟩:=ordT_fl h
    rcases ordT_all h3 i hi with h4 | h4
    · rw [Nat.testBit_or,Bool.or_eq_true,Nat.testBit_two_pow] at h4
      rcases h4 with h4 | h4
      · exact .inl h4
      · exact .inr (by simp at h4;simp [OTr.path,h4])
    · exact .inr (by simp [OTr.path,h4])
  | .ch j r a,done,h,i,hi=>by
    obtain ⟨_,h3,_⟩:=ordT_ch h
    rcases ordT_all h3 i hi with h4 | h4
    · rw [Nat.testBit_or,Bool.or_eq_true,Nat.testBit_two_pow] at h4
      rcases h4 with h4 | h4
      · exact .inl h4
      · exact .inr (by simp at h4;simp [OTr.path,h4])
    · exact .inr (by simp [OTr.path,h4])
theorem ordT_ready {S:Nat→Prop}:∀ {p:OTr} {done:Nat},ordT ops false p done=true→(∀ j,Nat.testBit done j=true→S j)→(∃ i,i∈p.path∧¬ S i)→∃ i o,¬ S i∧ops[i]? = some o∧∀ j,Nat.testBit (pm o) j=true→S j:=by
  have key:∀ {i done:Nat} {q:Bool} {r:OTr} {l:List Nat},okAt ops q i done=true→(∀ j,Nat.testBit done j=true→S j)→(∃ x,x∈i::l∧¬ S x)→((∀ j,Nat.testBit (done ||| 2 ^ i) j=true→S j)→(∃ x,x∈l∧¬ S x)→∃ i o,¬ S i∧ops[i]? = some o∧∀ j,Nat.testBit (pm o) j=true→S j)→∃ i o,¬ S i∧ops[i]? = some o∧∀ j,Nat.testBit (pm o) j=true→S j:=by
    intro i done q r l h hd hex ih
    obtain ⟨o,ho,h1,h2,_⟩:=okAt_spec h
    by_cases hs:S i
    · refine ih (fun j hj => ?_) ?_
      · rw [Nat.testBit_or,Bool.or_eq_true,Nat.testBit_two_pow] at hj
        rcases hj with hj | hj
        · exact hd j hj
        · have:i=j:=by simpa using hj
          exact this▸hs
      · obtain ⟨j,hj,hnj⟩:=hex
        rcases List.mem_cons.1 hj with rfl | hj
        · exact absurd hs hnj
        · exact ⟨j,hj,hnj⟩
    · exact ⟨i,o,hs,ho,fun j hj=>hd j (h2 j hj)⟩
  intro p
  induction p with
  | fin=>intro done h hd ⟨i,hi,_⟩;cases hi
  | stop=>intro done h hd ⟨i,hi,_⟩;cases hi
  | fl i r ih =>
    intro done h hd hex
    obtain ⟨h1,h2⟩:=ordT_fl h
    exact key (r:=r) h1 hd hex fun a b=>ih h2 a b
  | ch c r a ih _ =>
    intro done h hd hex
    obtain ⟨h1,h2,_⟩:=ordT_ch h
    exact key (r:=r) h1 hd hex fun a b=>ih h2 a b
theorem drawOk_of (h2:rdOkAll (withIx ops.toList 0)=true) (h3:gdOk (withIx ops.toList 0)=true) (h:dstsOk (withIx ops.toList 0)=true):DrawOk ops:=by
  refine ⟨fun i o d k ok hi hk hd hdst hne => ?_,fun i o d hi hl hd hdst => ?_,fun i o j want hi hg => ?_,fun i o k ok d hi hk h4 h5 => ?_⟩
  · have a1:=allB_iff h2 (i,o) (mem_ix.2 hi)
    have a2:=allB_iff a1 d (mem_tmpsOf (by simpa using hd))
    have a3:=allB_iff a2 (k,ok) (mem_ix.2 hk)
    simp only [rdOk1,eqO_iff.2 hdst] at a3
    split at a3
    · rename_i hb;exact absurd (Nat.eq_of_beq_eq_true hb) hne
    · split at a3
      · exact .inl ‹_›
      · split at a3
        · cases a3
        · exact .inr ⟨‹_›,a3⟩
  · have a1:=allB_iff h2 (i,o) (mem_ix.2 hi)
    have a2:=allB_iff a1 d (mem_tmpsOf (by simpa using hd))
    have a3:=allB_iff a2 (i,o) (mem_ix.2 hi)
    simp only [rdOk1,eqO_iff.2 hdst,Nat.beq_refl,hl] at a3
    cases a3
  · have a1:=allB_iff h3 (i,o) (mem_ix.2 hi)
    simp only [hg] at a1
    exact a1
  · have a1:=withIx_get (n:=0) (l:=ops.toList) (i:=i) (o:=o) (by simpa using hi)
    have a2:=withIx_get (n:=0) (l:=ops.toList) (i:=k) (o:=ok) (by simpa using hk)
    exact dsts_of h i k _ _ d a1 a2 h4 h5
theorem drawOkT_spec {p:OTr} {bm:List Nat} (h:drawOkT ops p bm=true):DrawOk ops∧bm=bmOf ops.toList∧ordT ops false p 0=true:=by
  unfold drawOkT at h
  split at h
  · cases h
  · rename_i h0
    split at h
    · cases h
    · rename_i h1
      split at h
      · cases h
      · rename_i h2
        split at h
        · cases h
        · rename_i h3
          exact ⟨drawOk_of h2 h3 h,(eqL_eq h0).symm,h1⟩
end
section
variable {P:Program} {X:Ctx P} {T:Nat→Option TyI} {Mt:Nat→String→Option FuncId} {lo:Nat} {f:FuncId} {fn:Func} {esc:Hint} {Post:En} {k:List Item} {ops:Array Oper}
theorem DS.advanceT (K:DrawOk ops) {bm:List Nat} {KK:Tm→Lv→Hp→Prop} {t0 tL:Tm} {S:Nat→Prop} {ls:Lv} {h:Hp}:∀ (p:OTr) (D:List Nat) (done:Nat) (tE:Tm),ordT ops false p done=true→(∀ j,Nat.testBit done j=true↔j∈D)→DS T lo fn esc ops t0 S D tL tE ls h→vcT X T Mt lo fn esc ops bm KK p D tE ls h →
    ∃ (p':OTr) (D':List Nat) (done':Nat) (tE':Tm),ordT ops false p' done'=true∧(∀ j,Nat.testBit done' j=true↔j∈D')∧DS T lo fn esc ops t0 S D' tL tE' ls h∧vcT X T Mt lo fn esc ops bm KK p' D' tE' ls h∧(p' = .fin∨∃ c r a,p' = .ch c r a)
  | .fin,D,done,tE,h1,h2,h3,h4=>⟨.fin,D,done,tE,h1,h2,h3,h4,.inl rfl⟩
  | .stop,D,done,tE,h1,h2,h3,h4=>by cases h1
  | .ch c r a,D,done,tE,h1,h2,h3,h4=>⟨.ch c r a,D,done,tE,h1,h2,h3,h4,.inr ⟨c,r,a,rfl⟩⟩
  | .fl i r,D,done,tE,h1,h2,h3,h4=>by
    obtain ⟨ok,e4⟩:=ordT_fl h1
    obtain ⟨o,ho,e1,e2,hf⟩:=okAt_spec ok
    have hi:i∉D:=fun hx=>by rw [(h2 i).2 hx] at e1;cases e1
    unfold vcT at h4
    rw [ho] at h4
    simp only at h4
    obtain ⟨hd,tk,hk,hcase⟩:=vcOp_cases h4
    rcases hcase with ⟨hw,hv⟩ | ⟨hw,hv⟩
    · obtain ⟨sl,k1,k2,k3⟩:=vcS_fl hf hv
      exact DS.advanceT K r (i::D) _ _ e4 (bits_step h2) (h3.fl K ho hi (fun j hj=>(h2 j).1 (e2 j hj)) hf hd hk (fun _=>rfl) (.inl ⟨hw,k2,k3⟩)) k1
    · exact DS.advanceT K r (i::D) _ _ e4 (bits_step h2) (h3.fl K ho hi (fun j hj=>(h2 j).1 (e2 j hj)) hf hd hk (fun _=>rfl) (.inr ⟨hw,rfl⟩)) hv
theorem vcT_head {bm:List Nat} {KK:Tm→Lv→Hp→Prop} {D:List Nat} {tE:Tm} {ls:Lv} {h:Hp} {i:Nat}:∀ {p:OTr} {b:Bool} {done:Nat},ordT ops b p done=true→vcT X T Mt lo fn esc ops bm KK p D tE ls h→i∈p.heads →
    ∃ r o,okAt ops false i done=true∧ops[i]? = some o∧ordT ops false r (done ||| 2 ^ i)=true∧vcOp X T Mt lo fn esc ops tE ls h o fun t ls h=>reck T lo esc ops (bm.getD i 0) t ls h D (vcT X T Mt lo fn esc ops bm KK r (i::D) t ls h)
  | .ch c r a,b,done,h1,h2,hi=>by
    obtain ⟨e1,e2,e3,_⟩:=ordT_ch h1
    obtain ⟨o,ho,_⟩:=okAt_spec e1
    unfold vcT at h2
    rw [ho] at h2
    simp only at h2
    rcases List.mem_cons.1 hi with rfl | hi
    · exact ⟨r,o,e1,ho,e2,h2.1⟩
    · exact vcT_head e3 h2.2 hi
  | .fin,_,_,_,_,hi=>by cases hi
  | .stop,_,_,_,_,hi=>by cases hi
  | .fl _ _,_,_,_,_,hi=>by cases hi
theorem simT (hT:TbOk P T) (hM:MtOk P Mt) (K:DrawOk ops) {bm:List Nat} {pl:OTr} (hbm:bm=bmOf ops.toList) (hord:ordT ops false pl 0=true) {KK:Tm→Lv→Hp→Prop} (hK:∀ t ls h,KK t ls h→R X lo f fn Post k t ls h) {t0:Tm} :
    ∀ (fuel tp:Nat) (listed:Array Bool) (E D:List Nat) (r:OTr) (done:Nat) (tL tE:Tm) (ls:Lv) (h:Hp),listed.size=ops.size→(∀ i,listed.getD i false=true↔i∈E)→E.Nodup→(∀ i∈E,i < ops.size)→E.length+fuel=ops.size→DS T lo fn esc ops t0 (· ∈ E) D tL tE ls h →
      ordT ops false r done=true→(∀ j,Nat.testBit done j=true↔j∈D)→vcT X T Mt lo fn esc ops bm KK r D tE ls h→(r = .fin∨∃ c r' a,r = .ch c r' a) →
      R X lo f fn Post (.inRegion ops (Region.linearise.go .any ops fuel tp listed [])::k) tL ls h:=by
  have fin:∀ (E D:List Nat) (r:OTr) (done:Nat) (tL tE:Tm) (ls:Lv) (h:Hp),(∀ i,i < ops.size→i∈E)→DS T lo fn esc ops t0 (· ∈ E) D tL tE ls h→ordT ops false r done=true→(∀ j,Nat.testBit done j=true↔j∈D)→vcT X T Mt lo fn esc ops bm KK r D tE ls h→(r = .fin∨∃ c r' a,r = .ch c r' a) →
      R X lo f fn Post (.inRegion ops []::k) tL ls h:=by
    intro E D r done tL tE ls h hall H h1 h2 h4 hst
    have hr:r = .fin:=by
      rcases hst with rfl | ⟨c,r',a,rfl⟩
      · rfl
      · obtain ⟨o,ho,e1,_⟩:=okAt_spec (ordT_ch h1).1
        have:=H.sub c (hall c (Array.getElem?_eq_some_iff.1 ho).1)
        rw [(h2 c).2 this] at e1;cases e1
    subst hr
    refine R_rend (R_n (t':=tE) (fun d x hx => ?_) (hK _ _ _ h4))
    by_cases hw:∃ (i:Nat) (o:Oper),ops[i]? = some o∧o.dst=some d
    · obtain ⟨i,o,ho,hd⟩:=hw
      rw [H.a i o d (hall i (Array.getElem?_eq_some_iff.1 ho).1) ho hd];exact hx
    · rw [H.b d fun i o _ ho hd=>hw ⟨i,o,ho,hd⟩,← H.c d fun i o _ ho hd=>hw ⟨i,o,ho,hd⟩];exact hx
  intro fuel
  induction fuel with
  | zero =>
    intro tp listed E D r done tL tE ls h hsz hl hn hlt hlen H h1 h2 h4 hstop
    simp only [Region.linearise.go,List.reverse_nil]
    exact fin E D r done tL tE ls h (fun i hi=>ordn_full hn hlt (by omega) hi) H h1 h2 h4 hstop
  | succ fuel ih =>
    intro tp listed E D r done tL tE ls h hsz hl hn hlt hlen H h1 h2 h4 hstop
    have hgf:∀ i,i < ops.size→(listed.getD i true=false↔i∉E):=by
      intro i hi
      rw [← hl i]
      have hi':i < listed.size:=by omega
      simp [Array.getD,hi']
    have rdy:∀ (i:Nat) (o:Oper),ops[i]? = some o→(i∈Region.ready .any ops listed↔i∉E∧∀ j,Nat.testBit (pm o) j=true→j∈E):=by
      intro i o ho
      rw [ready_iff ho,hgf i (Array.getElem?_eq_some_iff.1 ho).1]
      exact ⟨fun ⟨a,b⟩=>⟨a,fun j hj=>(hl j).1 (b j hj)⟩,fun ⟨a,b⟩=>⟨a,fun j hj=>(hl j).2 (b j hj)⟩⟩
    simp only [Region.linearise.go]
    change R X lo f fn Post (.inRegion ops (match (Region.ready .any ops listed)[tp % (Region.ready .any ops listed).length]? with
      | some i=>Region.linearise.go .any ops fuel (tp / (Region.ready .any ops listed).length) (listed.setIfInBounds i true) [i]
      | none=>[].reverse)::k) tL ls h
    cases hi:(Region.ready .any ops listed)[tp % (Region.ready .any ops listed).length]? with
    | none =>
      have hnil:Region.ready .any ops listed=[]:=by
        cases hr:Region.ready .any ops listed with
        | nil=>rfl
        | cons x xs =>
          rw [hr] at hi
          have hlt:tp % (x::xs).length < (x::xs).length:=Nat.mod_lt _ (by simp)
          rw [List.getElem?_eq_getElem hlt] at hi;cases hi
      simp only [List.reverse_nil]
      refine fin E D r done tL tE ls h (fun i hi => ?_) H h1 h2 h4 hstop
      refine Classical.byContradiction fun hni => ?_
      have hex:∃ j,j∈pl.path∧j∉E:=by
        rcases ordT_all hord i hi with hx | hx
        · simp at hx
        · exact ⟨i,hx,hni⟩
      obtain ⟨j,o,g1,g2,g3⟩:=ordT_ready (S:=(· ∈ E)) hord (fun j hj=>by simp at hj) hex
      have:=(rdy j o g2).2 ⟨g1,g3⟩
      rw [hnil] at this
      cases this
    | some i =>
      simp only []
      rw [linearise_go_acc,List.reverse_singleton,List.singleton_append]
      have hir:=List.mem_of_getElem? hi
      obtain ⟨_,o,ho,_⟩:=mem_ready.1 hir
      obtain ⟨hiE,hpE⟩:=(rdy i o ho).1 hir
      have hisz:i < ops.size:=(Array.getElem?_eq_some_iff.1 ho).1
      have hl':∀ j,(listed.setIfInBounds i true).getD j false=true↔j∈i::E:=by
        intro j
        by_cases hji:i=j
        · subst hji
          have:i < listed.size:=by omega
          simp [Array.getD,this]
        · rw [List.mem_cons,← hl j]
          simp only [Array.getD_eq_getD_getElem?,Array.getElem?_setIfInBounds_ne hji]
          constructor
          · exact .inr
          · rintro (rfl | h);exact absurd rfl hji;exact h
      have hSE:∀ {D:List Nat} {tL tE:Tm} {ls:Lv} {h:Hp},DS T lo fn esc ops t0 (fun j=>j∈E∨j=i) D tL tE ls h→DS T lo fn esc ops t0 (· ∈ i::E) D tL tE ls h:=by
        intro D tL tE ls h H
        have e:(fun j=>j∈E∨j=i)=(· ∈ i::E):=by
          funext j
          simp only [List.mem_cons,eq_iff_iff]
          exact ⟨fun h=>h.elim .inr .inl,fun h=>h.elim .inr .inl⟩
        rw [← e];exact H
      have next:∀ (D:List Nat) (r:OTr) (done:Nat) (tL tE:Tm) (ls:Lv) (h:Hp),DS T lo fn esc ops t0 (fun j=>j∈E∨j=i) D tL tE ls h→ordT ops false r done=true→(∀ j,Nat.testBit done j=true↔j∈D)→vcT X T Mt lo fn esc ops bm KK r D tE ls h →
          R X lo f fn Post (.inRegion ops (Region.linearise.go .any ops fuel (tp / (Region.ready .any ops listed).length) (listed.setIfInBounds i true) [])::k) tL ls h:=by
        intro D r done tL tE ls h H h1 h2 h4
        obtain ⟨r',D',done',tE',g1,g2,g3,g4,g5⟩:=DS.advanceT K r D done tE h1 h2 (hSE H) h4
        exact ih _ _ (i::E) D' r' done' tL tE' ls h (by simp [hsz]) hl' (List.nodup_cons.2 ⟨hiE,hn⟩) (fun j hj=>by rcases List.mem_cons.1 hj with rfl | hj;exact hisz;exact hlt j hj) (by simp;omega) g3 g1 g2 g4 g5
      by_cases hiD:i∈D
      ·
        obtain ⟨q1,q2,sl,q3,q4⟩:=H.pend i o hiD hiE ho
        rcases q4 with ⟨e1,ti,e2,e3,e4⟩ | ⟨e1,rfl⟩
        · have hag:∀ d∈tmpsOf o.op.operands.toList,Operand.tmp d∈o.op.operands→nlook ti d=nlook tL d:=fun d _ hd=>H.agree K ho hiE hpE hd (e2 d hd).1 (e2 d hd).2
          have hag':∀ d∈tmpsOf o.op.operands.toList,nlook ti d=nlook tL d:=fun d hd=>hag d hd (by
            have:∀ (l:List Operand) (d:Nat),d∈tmpsOf l→Operand.tmp d∈l:=by
              intro l
              induction l with
              | nil=>intro d h;simp [tmpsOf] at h
              | cons x r ih =>
                intro d h
                cases x with
                | tmp j =>
                  simp only [tmpsOf,List.mem_cons] at h
                  rcases h with rfl | h
                  · simp
                  · simp [ih d h]
                | const v=>simp only [tmpsOf] at h;simp [ih d h]
                | func v=>simp only [tmpsOf] at h;simp [ih d h]
                | global v=>simp only [tmpsOf] at h;simp [ih d h]
            simpa using this _ d hd)
          refine R_n (t':=ovl ti tL (tmpsOf o.op.operands.toList)) (fun d x hx=>by rw [nlook_ovl hag'] at hx;exact hx) ?_
          have hw:=H.wnt K ho hpE e1
          have hwr:∀ s lb (a:Act),TmOk s lb ls.length (ovl ti tL (tmpsOf o.op.operands.toList)) a.tmps→Region.wanted o (yielded ops a.tmps)=true:=fun s lb a tm=>(hw.of_n fun j want oj d _ _ _=>nlook_ovl hag' d).real tm
          refine vcS_ok (esc:=esc) hT hM ho hwr q2 (K:=Is sl ls h) (fun sl' ls' h' hIs => ?_) (vcS_congr (t:=ti) (fun x hx=>evS_ovl hag' fun d hd=>mem_tmpsOf (by subst hd;simpa using hx)) (vcS_of_fl q1 e3))
          obtain ⟨rfl,rfl,rfl⟩:=hIs
          exact next D r done _ tE ls' h' (H.doIt K ho hiD hpE q3 fun d=>by rw [nlook_put,nlook_put,nlook_ovl hag']) h1 h2 h4
        · exact R_unwanted ho (fun s lb a tm=>(H.wnt K ho hpE e1).real tm) q2 (next D r done _ tE ls h (H.doIt K ho hiD hpE q3 fun d=>rfl) h1 h2 h4)
      ·
        have hih:i∈r.heads:=by
          rcases hstop with rfl | ⟨c,r',a,rfl⟩
          · rcases ordT_all h1 i hisz with hx | hx
            · exact absurd ((h2 i).1 hx) hiD
            · cases hx
          · have hall:=allB_iff ((ordT_ch h1).2.2.2 rfl) (i,o) (mem_ix.2 ho)
            simp only at hall
            have hdi:Nat.testBit done i=false:=by
              cases hx:Nat.testBit done i with
              | false=>rfl
              | true=>exact absurd ((h2 i).1 hx) hiD
            rw [hdi] at hall
            simp only at hall
            have hpd:Nat.beq (pm o &&& done) (pm o)=true:=by
              have e:pm o &&& done=pm o:=Nat.eq_of_testBit_eq fun j=>by
                rw [Nat.testBit_and]
                cases hj:Nat.testBit (pm o) j with
                | false=>rfl
                | true=>rw [(h2 j).2 (H.sub j (hpE j hj))];rfl
              rw [e];exact Nat.beq_refl _
            rw [hpd] at hall
            exact memN_iff hall
        obtain ⟨r'',o',hok,ho',e4,h4'⟩:=vcT_head h1 h4 hih
        rw [ho] at ho';cases ho'
        obtain ⟨o',ho',_,_,hfc⟩:=okAt_spec hok
        rw [ho] at ho';cases ho'
        replace h4:=h4'
        obtain ⟨hd,tk,hk,hcase⟩:=vcOp_cases h4
        have hbmS:∀ j,Nat.testBit (bm.getD i 0) j=true→j∈E:=fun j hj=>by rw [hbm] at hj;exact bm_in H.cl ho hpE hj
        rcases hcase with ⟨hw,hv⟩ | ⟨hw,hv⟩
        · have hag':∀ d∈tmpsOf o.op.operands.toList,nlook tk d=nlook tL d:=fun d hd=>by
            have hdm:Operand.tmp d∈o.op.operands:=by
              have:∀ (l:List Operand) (d:Nat),d∈tmpsOf l→Operand.tmp d∈l:=by
                intro l
                induction l with
                | nil=>intro d h;simp [tmpsOf] at h
                | cons x r ih =>
                  intro d h
                  cases x with
                  | tmp j =>
                    simp only [tmpsOf,List.mem_cons] at h
                    rcases h with rfl | h
                    · simp
                    · simp [ih d h]
                  | const v=>simp only [tmpsOf] at h;simp [ih d h]
                  | func v=>simp only [tmpsOf] at h;simp [ih d h]
                  | global v=>simp only [tmpsOf] at h;simp [ih d h]
              simpa using this _ d hd
            rw [hk]
            refine H.agree K ho hiE hpE hdm (fun _ _ _ _ _=>rfl) fun hno=>H.c d fun m om hm hom hmd => ?_
            have hmi:i≠m:=by rintro rfl;exact hiD hm
            rcases K.rd i o d m om ho hom hdm hmd hmi with hx | ⟨_,hx⟩
            · rw [hno m om hom hmd] at hx;cases hx
            · exact hiD (H.dcl m om hm hom i hx)
          refine R_n (t':=ovl tk tL (tmpsOf o.op.operands.toList)) (fun d x hx=>by rw [nlook_ovl hag'] at hx;exact hx) ?_
          have hw':=H.wnt K ho hpE hw
          have hwr:∀ s lb (a:Act),TmOk s lb ls.length (ovl tk tL (tmpsOf o.op.operands.toList)) a.tmps→Region.wanted o (yielded ops a.tmps)=true:=fun s lb a tm=>(hw'.of_n fun j want oj d _ _ _=>nlook_ovl hag' d).real tm
          refine vcS_ok (esc:=esc) hT hM ho hwr hd (fun sl' ls' h' hq => ?_) (vcS_congr (t:=tk) (fun x hx=>evS_ovl hag' fun d hd=>mem_tmpsOf (by subst hd;simpa using hx)) hv)
          obtain ⟨hQ,H'⟩:=H.chain K ho hiD hpE hbmS hk (tL':=(ovl tk tL (tmpsOf o.op.operands.toList)).put o.dst sl') (fun d=>by rw [nlook_put,nlook_put,nlook_ovl hag']) hq
          exact next (i::D) r'' _ _ _ ls' h' H' e4 (bits_step h2) hQ
        · refine R_unwanted ho (fun s lb a tm=>(H.wnt K ho hpE hw).real tm) hd ?_
          obtain ⟨hQ,H'⟩:=H.chain K ho hiD hpE hbmS hk (tL':=tL.put o.dst (.v undef)) (fun d=>rfl) hv
          exact next (i::D) r'' _ _ _ ls h H' e4 (bits_step h2) hQ
theorem R_drawnT (hT:TbOk P T) (hM:MtOk P Mt) {id:Nat} {p:OTr} {bm:List Nat} {t:Tm} {ls:Lv} {h:Hp} {KK:Tm→Lv→Hp→Prop} (hd:drawOkT ops p bm=true) (H:vcT X T Mt lo fn esc ops bm KK p [] t ls h) (hK:∀ t ls h,KK t ls h→R X lo f fn Post k t ls h):R X lo f fn Post (.code (.region id ops true)::k) t ls h:=by
  obtain ⟨K,hbm,hord⟩:=drawOkT_spec hd
  have key:∀ tp,R X lo f fn Post (.inRegion ops (Region.schedule (P.follows .mixedOrders) ops tp)::k) t ls h:=by
    intro tp
    have hs:Region.schedule (P.follows .mixedOrders) ops tp=Region.linearise.go .any ops ops.size tp (Array.replicate ops.size false) []:=by
      simp only [Region.schedule,hT.mix,Bool.true_or,if_true];rfl
    rw [hs]
    have H0:DS T lo fn esc ops t (· ∈ ([]:List Nat)) [] t t ls h:=⟨fun i hi=>hi,fun i o hi=>(by cases hi),fun i o hi=>(by cases hi),fun i o hi=>(by cases hi),fun i o d hi=>(by cases hi),fun _ _=>rfl,fun _ _=>rfl,fun i o hi=>(by cases hi),fun i hi=>(by cases hi)⟩
    obtain ⟨r',D',done',tE',g1,g2,g3,g4,g5⟩:=DS.advanceT K p [] 0 t hord (fun j=>by simp) H0 H
    exact simT hT hM K hbm hord hK ops.size tp _ [] D' r' done' t tE' ls h (by simp) (fun i=>by simp [Array.getD]) List.nodup_nil (fun i hi=>by cases hi) (by simp) g3 g1 g2 g4 g5
  intro s O Pr lb w b a cs Stop h1 h2 h3 h4 M tm A
  refine X.step _ _ _ _ rfl fun w₁ r=>⟨_,_,#[],stepG_region_draw,⟨Nat.le_refl _,fun _ _ _=>rfl,rfl,rfl,fun e he=>by simp at he⟩,?_⟩
  have hr:Rly X.N0 O w { w₁ with drawn:=w₁.drawn+1 }:=r.trans ⟨Nat.le_refl _,fun _ _ _=>rfl,rfl,rfl⟩
  rw [grow_drawn]
  exact key _ s O Pr lb _ b a cs Stop h1 h2 h3 h4 (M.rely hr) tm (A.from s.le_refl (OG.refl O w) (kept_rly M hr))
theorem drawT (hT:TbOk P T) (hM:MtOk P Mt) (esc:Hint) (n:Nat) (p:OTr) (bm:List Nat) {id:Nat} {t:Tm} {ls:Lv} {h:Hp} (hd:drawOkT ops p bm=true) (H:vcT X T Mt lo fn esc ops bm (fun t ls h=>vc X T Mt lo f fn esc Post n k t ls h) p [] t ls h):R X lo f fn Post (.code (.region id ops true)::k) t ls h :=
  R_drawnT hT hM hd H fun t ls h=>vc_ok hT hM n k t ls h
theorem drawE {σ:Type} (hT:TbOk P T) (hM:MtOk P Mt) (esc:Hint) (n:Nat) (p:OTr) (bm:List Nat) (tm:σ→Tm) (lv:σ→Lv) (I:σ→Hp→Prop) {id:Nat} {t:Tm} {ls:Lv} {h:Hp} (hin:∀ s,tmIn (tm s) (lv s).length=true) (hd:drawOkT ops p bm=true) (H:vcT X T Mt lo fn esc ops bm (fun t ls h=>∃ s,keeps (tm s) t∧pre (lv s) ls∧I s h) p [] t ls h) (rest:∀ s h,I s h→vc X T Mt lo f fn esc Post n k (tm s) (lv s) h):R X lo f fn Post (.code (.region id ops true)::k) t ls h :=
  R_drawnT hT hM hd H fun t ls h ⟨s,hK⟩=>R_trim hK.1 (hin s) hK.2.1 (vc_ok hT hM n k (tm s) (lv s) h (rest s h hK.2.2))
end
end Go.Id
namespace Go.Proofs.YtgmkdjjcleobhaaGreat.Id
open Go.Id Go.Conc Go.Conc.Lib
open Go.Proofs
set_option linter.unusedVariables false
set_option maxRecDepth 100000
variable {N0:Nat→Prop} {lo:Nat}
theorem sceneOf_ok (g:Gd) (ad:Option Addr) (fl:Nat) (h:Hp) (hs:Sls h cE 2 ad g.cs) (hg:gOk g=true):Tri (mainCtx Tryz.prog N0) lo 54 [.agg #[.int .i64 g.w,.slice ad g.cs.length fl]] h fun v h'=>(∃ o1 o2 o3 L,v=scOV (scG g) o1 o2 o3∧ScO h.n h' (scG g) o1 o2 o3 L)∧Ext h h':=by
  refine enter tbOk mtOk ⟨[],[]⟩ 400 Tryz.func54 rfl rfl rfl fun hlo => ?_
  have hn1:g.cs.length≤1048576:=by have:=gOk_len hg;omega
  have hn2:(g.cs.length:Int) < 2 ^ 31:=by omega
  have cp:=fun {h':Hp} (x:Ext h h')=>gridCopy_ok (X:=mainCtx Tryz.prog N0) (lo:=lo) g ad fl h' (hs.ext x) hn1
  have pc:=fun {h':Hp} (x:Ext h h')=>PicOf_ok (N0:=N0) (lo:=lo) g ad fl h' (hs.ext x) hn2
  unfold PicP at pc
  rw [if_pos hg] at pc
  have key:∀ o o' h1 h2,Gx h.n h1 cE 2 o g.cs→Ext h h1→Gx lo h2 iE 1 o' (pic g)→(∀ b,isB o' b→h1.n≤b)→Ext h1 h2→Gx h.n h2 cE 2 o g.cs∧Gx h.n h2 inE 1 o' (pic g)∧(∀ b,isB o b→¬ isB o' b)∧Ext h h2:=fun o o' h1 h2 q1 e1 q2 q3 e2=>by
    have:=e1.n
    exact ⟨q1.ext e2,gx_lo q2 fun i hi=>by have:=q3 i hi;omega,fun b hb hb'=>by have:=(q1.lt hb).1;have:=q3 b hb';omega,e1.trans e2⟩
  refine drawE (σ:=(Option Addr×Nat)×(Option Addr×Nat)) tbOk mtOk ⟨[],[]⟩ 400 (.fl 0 (.fl 2 (.ch 1 (.ch 3 (.fl 4 (.ch 5 (.ch 6 .fin .stop) .stop)) (.ch 5 (.ch 3 (.fl 4 (.ch 6 .fin .stop)) .stop) .stop)) (.ch 5 (.ch 1 (.ch 3 (.fl 4 (.ch 6 .fin .stop)) .stop) .stop) .stop)))) [0,1,0,7,15,0,63] (fun _=>[(3,.l 2 0),(2,.l 1 0),(1,.l 0 0)]) (fun s=>[[.int .i64 g.w,.slice ad g.cs.length fl],[.int .i64 0,.slice none 0 0,.slice none 0 0,.slice none 0 0],[.int .i64 g.w,.slice s.1.1 g.cs.length s.1.2,.slice s.2.1 (pic g).length s.2.2,.slice none 0 0]]) (fun s h'=>∃ o o',gv o g.cs.length = .slice s.1.1 g.cs.length s.1.2∧gv o' (pic g).length = .slice s.2.1 (pic g).length s.2.2∧Gx h.n h' cE 2 o g.cs∧Gx h.n h' inE 1 o' (pic g)∧(∀ b,isB o b→¬ isB o' b)∧Ext h h') (fun _=>rfl) (by kernel_rfl) ?_ ?_
  · have k0:=Ext.refl h
    refine And.intro ?_ ?_
    · refine callP (cp k0) ?_
      rintro v h1 ⟨⟨o,rfl,q1⟩,e1⟩
      obtain ⟨ga,gf,z1,_⟩:=gx_slv q1 cE2
      rw [z1]
      repeat refine And.intro Is.r ?_
      refine And.intro ?_ ?_
      · refine callP (pc (k0.trans e1)) ?_
        rintro v h2 ⟨⟨o',rfl,q2,q3⟩,e2⟩
        obtain ⟨la,lf,z2,_⟩:=gx_slv q2 fun _=>rfl
        rw [z2]
        repeat refine And.intro Is.r ?_
        refine And.intro ?_ trivial
        repeat refine And.intro Is.r ?_
        refine And.intro ?_ trivial
        repeat refine And.intro Is.r ?_
        exact ⟨((ga,gf),(la,lf)),⟨rfl,rfl,rfl,trivial⟩,⟨rfl,rfl,rfl,trivial⟩,o,o',z1,z2,key o o' h1 h2 q1 e1 q2 q3 e2⟩
      · refine And.intro ?_ trivial
        repeat refine And.intro Is.r ?_
        refine And.intro ?_ trivial
        refine callP (pc (k0.trans e1)) ?_
        rintro v h2 ⟨⟨o',rfl,q2,q3⟩,e2⟩
        obtain ⟨la,lf,z2,_⟩:=gx_slv q2 fun _=>rfl
        rw [z2]
        repeat refine And.intro Is.r ?_
        refine And.intro ?_ trivial
        repeat refine And.intro Is.r ?_
        exact ⟨((ga,gf),(la,lf)),⟨rfl,rfl,rfl,trivial⟩,⟨rfl,rfl,rfl,trivial⟩,o,o',z1,z2,key o o' h1 h2 q1 e1 q2 q3 e2⟩
    · refine And.intro ?_ trivial
      repeat refine And.intro Is.r ?_
      refine And.intro ?_ trivial
      refine callP (cp k0) ?_
      rintro v h1 ⟨⟨o,rfl,q1⟩,e1⟩
      obtain ⟨ga,gf,z1,_⟩:=gx_slv q1 cE2
      rw [z1]
      repeat refine And.intro Is.r ?_
      refine And.intro ?_ trivial
      refine callP (pc (k0.trans e1)) ?_
      rintro v h2 ⟨⟨o',rfl,q2,q3⟩,e2⟩
      obtain ⟨la,lf,z2,_⟩:=gx_slv q2 fun _=>rfl
      rw [z2]
      repeat refine And.intro Is.r ?_
      refine And.intro ?_ trivial
      repeat refine And.intro Is.r ?_
      exact ⟨((ga,gf),(la,lf)),⟨rfl,rfl,rfl,trivial⟩,⟨rfl,rfl,rfl,trivial⟩,o,o',z1,z2,key o o' h1 h2 q1 e1 q2 q3 e2⟩
  · rintro ⟨⟨ga,gf⟩,la,lf⟩ h1 ⟨o1,o2,z1,z2,g1,g2,ap,e1⟩
    simp only at z1 z2 g1 g2 ap
    refine callP (SightMany_ok g ad fl h1 (hs.ext e1) hn2) ?_
    rintro v h2 ⟨rfl,e2⟩
    rw [if_pos hg]
    have hm:=many_le g hg
    have e12:=e1.trans e2
    have n12:=e12.n
    have r0:ScO h.n h2 ⟨g,pic g,(feetG g).take 0⟩ o1 o2 none []:=by
      refine ⟨g1.ext e2,g2.ext e2,rfl,rfl,fun j x l hx=>(by simp at hx),?_⟩
      simp only [blks,List.filterMap_nil,List.append_nil,bO]
      exact nodup_app (bO_nodup _) (bO_nodup _) fun x hx q=>ap x (bO_is.1 hx) (bO_is.1 q)
    refine loop (σ:=Nat×(Option Addr×Nat)×Option (Nat×Nat)×List Value) tbOk mtOk ⟨[],[(1,[0,2,1,3,4,5,6],[0,1,0,7,15,0,63]),(5,[0,1,2,3,4,5,6,7,8],[0,1,0,0,12,28,63,127,255])]⟩ (fun s=>[(12,.v (.int .i64 (s.1:Int))),(11,.v (.int .i64 (many g))),(3,.l 2 0),(2,.l 1 0),(1,.l 0 0)]) (fun s=>[[.int .i64 g.w,.slice ad g.cs.length fl],[.int .i64 0,.slice none 0 0,.slice none 0 0,.slice none 0 0],[.int .i64 g.w,.slice ga g.cs.length gf,.slice la (pic g).length lf,.slice s.2.1.1 s.1 s.2.1.2]]) (fun s h'=>(s.1:Int)≤many g∧gv s.2.2.1 s.1 = .slice s.2.1.1 s.1 s.2.1.2∧ScO h.n h' ⟨g,pic g,(feetG g).take s.1⟩ o1 o2 s.2.2.1 s.2.2.2∧Ext h h') (fun s=>(many g).toNat - s.1) 400 (0,(none,0),none,[]) (fun _=>rfl) ⟨rfl,rfl,rfl,rfl,rfl,trivial⟩ ⟨rfl,rfl,rfl,trivial⟩ ⟨by show ((0:Nat):Int)≤_;omega,rfl,r0,e12⟩ (fun s h3 hI again => ?_)
    obtain ⟨i,⟨fa,ff⟩,o3,L⟩:=s
    obtain ⟨i1,z3,r,x3⟩:=hI
    simp only at i1 z3 r
    have hfl:((feetG g).take i).length=i:=by rw [List.length_take,feetG_len];omega
    have hLi:L.length=i:=by rw [r.len];exact hfl
    refine cnd (fun c1 => ?_) (fun c1 => ?_)
    · have c1:(i:Int) < many g:=of_decide_eq_true c1
      refine And.intro (by kernel_rfl) ?_
      have n3:=x3.n
      refine callP (TrailFoot_ok g i ad fl h3 (hs.ext x3) hn2) ?_
      rintro v h4 ⟨⟨o,rfl,q⟩,e4⟩
      obtain ⟨o3',h5,ap,r5,x5⟩:=r.foot (lo:=lo) hlo e4 (x:=gv o (footG g i).length) (l:=footG g i) ⟨o,rfl,q⟩ (by unfold Id.maxLen;omega) x3 (Nat.le_refl _) n3
      obtain ⟨xa,xf,zx,_⟩:=q.sl
      obtain ⟨fa',ff',z4,_⟩:=gx_slv r5.g3 vE1_len
      rw [zx] at r5 z4 ap ⊢
      have hl1:(L++[Value.slice xa (footG g i).length xf]).length=i+1:=by simp [hLi]
      rw [hl1] at z4
      rw [hl1,z4,hLi,z3] at ap
      refine And.intro Is.r ?_
      refine And.intro Is.r ?_
      refine ⟨[.slice xa (footG g i).length xf],one_cells rfl,_,h5,ap,?_⟩
      have htk:(feetG g).take (i+1)=(feetG g).take i++[footG g i]:=by
        have hi:i < (feetG g).length:=by rw [feetG_len];omega
        rw [List.take_succ_eq_append_getElem hi,feetG_get hi]
      refine again (i+1,(fa',ff'),o3',L++[.slice xa (footG g i).length xf]) _ _ _ (by show (many g).toNat - (i+1) < (many g).toNat - i;omega) ⟨vI (wz (by omega) (by omega)),rfl,rfl,rfl,rfl,trivial⟩ ⟨rfl,rfl,rfl,trivial⟩ ⟨by show ((i+1:Nat):Int)≤_;omega,z4,?_,x5⟩
      show ScO h.n h5 ⟨g,pic g,(feetG g).take (i+1)⟩ o1 o2 o3' _
      rw [htk];exact r5
    · have c1:(i:Int)=many g:=by have:=of_decide_eq_false c1;omega
      have hi:(feetG g).length=i:=by rw [feetG_len];omega
      rw [← hi,List.take_length] at r
      refine ⟨⟨o1,o2,o3,L,?_,r⟩,x3⟩
      show Value.agg #[.int .i64 g.w,.slice ga g.cs.length gf,.slice la (pic g).length lf,.slice fa i ff]=_
      rw [← z1,← z2,← z3,← hi];rfl
theorem SceneNew_ok (g:Gd) (ad:Option Addr) (fl:Nat) (h:Hp) (hs:Sls h cE 2 ad g.cs) (hn:(g.cs.length:Int) < 2 ^ 31):Tri (mainCtx Tryz.prog N0) lo 12 [.agg #[.int .i64 g.w,.slice ad g.cs.length fl]] h fun v h'=>(∃ o1 o2 o3 L,v = .tuple #[scOV (newS g) o1 o2 o3,.bool (gOk g)]∧ScO h.n h' (newS g) o1 o2 o3 L)∧Ext h h':=by
  refine enter tbOk mtOk ⟨[],[]⟩ 400 Tryz.func12 rfl rfl rfl fun hlo => ?_
  refine callP (GridOk_ok g.w ad fl g.cs h hs hn) ?_
  rintro v h1 ⟨rfl,e1⟩
  refine cnd (fun c1 => ?_) (fun c1 => ?_)
  · have hg:gOk g=false:=by simpa using c1
    have hn0:newS g=sc0:=by unfold newS;rw [hg];rfl
    rw [hn0,hg]
    exact ⟨⟨none,none,none,[],rfl,rfl,rfl,rfl,rfl,fun j x l hx=>(by simp at hx),List.nodup_nil⟩,e1⟩
  · have hg:gOk g=true:=by simpa using c1
    have hn0:newS g=scG g:=by unfold newS;rw [hg];rfl
    rw [hn0,hg]
    refine callP (sceneOf_ok g ad fl h1 (hs.ext e1) hg) ?_
    rintro v h2 ⟨⟨o1,o2,o3,L,rfl,r⟩,e2⟩
    obtain ⟨ga,la,fa,gf,lf,ff,z,_⟩:=r.read
    rw [z]
    refine And.intro ⟨o1,o2,o3,L,?_,r.mono e1.n⟩ (e1.trans e2)
    rw [z];rfl
theorem feetG_el (g:Gd):∀ l∈feetG g,l.length≤g.cs.length:=by
  intro l hl
  obtain ⟨k,_,rfl⟩:=List.mem_map.1 hl
  unfold footG footL;rw [List.length_map];exact Nat.le_trans (List.length_filter_le _ _) (by simp)
theorem scG_B {g:Gd} (hg:gOk g=true):ScB (scG g):=by
  have h1:=gOk_len hg
  have h2:=many_le g hg
  obtain ⟨l1,l2⟩:=scG_len g
  refine ⟨by show g.cs.length≤_;omega,by omega,by omega,fun l hl => ?_⟩
  have:=feetG_el g l hl
  omega
theorem SceneOk_ok (s:Sc) (ga la fa:Option Addr) (gf lf ff:Nat) (L:List Value) (h:Hp) (hs:ScR h s ga la fa L) (hb:ScB s):Tri (mainCtx Tryz.prog N0) lo 16 [scV s ga la fa gf lf ff] h fun v h'=>v = .bool (scOk s)∧Ext h h':=by
  refine enter tbOk mtOk ⟨[],[(1,[0,1,2,3,4,5,6,7,8,9,10],[0,1,3,7,15,15,47,111,255,511,1023])]⟩ 400 Tryz.func16 rfl rfl rfl fun hlo => ?_
  refine And.intro (by kernel_rfl) ?_
  have hn2:(s.g.cs.length:Int) < 2 ^ 31:=by have:=hb.g;omega
  refine callP (GridOk_ok s.g.w ga gf s.g.cs h hs.g hn2) ?_
  rintro v h1 ⟨rfl,e1⟩
  refine cnd (fun c1 => ?_) (fun c1 => ?_)
  · have hg:gOk s.g=true:=c1
    refine callP (sceneOf_ok s.g ga gf h1 (hs.g.ext e1) hg) ?_
    rintro v h2 ⟨⟨o1,o2,o3,L',rfl,r⟩,e2⟩
    obtain ⟨ga',la',fa',gf',lf',ff',z,r'⟩:=r.read
    rw [z]
    refine And.intro Is.r ?_
    refine callP (sceneSame_ok s (scG s.g) ga la fa ga' la' fa' gf lf ff gf' lf' ff' L L' h2 (hs.ext (e1.trans e2)) r' hb) ?_
    rintro v h3 ⟨rfl,rfl⟩
    refine And.intro ?_ (e1.trans e2)
    unfold scOk
    rw [hg];rfl
  · have hg:gOk s.g=false:=c1
    refine And.intro ?_ e1
    unfold scOk
    rw [hg];rfl
end Go.Proofs.YtgmkdjjcleobhaaGreat.Id
namespace Go.Proofs.YtgmkdjjcleobhaaGreat.Id
open Go.Id Go.Conc Go.Conc.Lib
open Go.Proofs
set_option linter.unusedVariables false
set_option maxRecDepth 100000
section
variable {X:Ctx Tryz.prog} {lo:Nat}
structure MpS (base:Nat) (h:Hp) (m:Nat) (q:Int→Option (Nat×Nat)) (f:Int→List Int):Prop where
  lt:m < h.n
  lo:base≤m
  ex:∃ es,h.g m = .map es∧∀ a,mLook es a (some (.slice none 0 0))=some (gv (q a) (f a).length)
  row:∀ a,Gx base h inE 1 (q a) (f a)
  ap:∀ a a' b,isB (q a) b→isB (q a') b→a=a'
def addAt (f:Int→List Int) (a:Int) (k:Int):Int→List Int:=fun b=>if b=a then f a++[k] else f b
theorem mGet_cons (e:Int×Value) (r:List (Int×Value)) (b:Int):mGet (e::r) b=if e.1=b then some e.2 else mGet r b:=by
  obtain ⟨k,u⟩:=e
  unfold mGet
  rw [mIx]
  by_cases c:k=b
  · rw [if_pos c,if_pos c];rfl
  · rw [if_neg c,if_neg c]
    cases mIx r b with
    | none=>rfl
    | some i=>simp
theorem mPut_cons (e:Int×Value) (r:List (Int×Value)) (b:Int) (v:Value):mPut (e::r) b v=if e.1=b then (b,v)::r else e::mPut r b v:=by
  obtain ⟨k,u⟩:=e
  unfold mPut
  rw [mIx]
  by_cases c:k=b
  · rw [if_pos c,if_pos c];rfl
  · rw [if_neg c,if_neg c]
    cases mIx r b with
    | none=>rfl
    | some i=>simp
theorem mGet_put:∀ (es:List (Int×Value)) (a:Int) (v:Value) (b:Int),mGet (mPut es a v) b=if b=a then some v else mGet es b
  | [],a,v,b=>by
    show mGet [(a,v)] b=_
    rw [mGet_cons]
    by_cases c:b=a
    · rw [if_pos c.symm,if_pos c]
    · rw [if_neg (fun e=>c e.symm),if_neg c]
  | e::r,a,v,b=>by
    rw [mPut_cons]
    by_cases c:e.1=a
    · rw [if_pos c,mGet_cons,mGet_cons]
      by_cases d:b=a
      · rw [if_pos d.symm,if_pos d]
      · rw [if_neg (fun e=>d e.symm),if_neg d,if_neg (fun e'=>d (by rw [← e',c]))]
    · rw [if_neg c,mGet_cons,mGet_cons,mGet_put r]
      by_cases d:e.1=b
      · rw [if_pos d,if_pos d,if_neg (fun e'=>c (by rw [d,e']))]
      · rw [if_neg d,if_neg d]
theorem mLook_put {es:List (Int×Value)} {a:Int} {v:Value} {z:Option Value} (b:Int):mLook (mPut es a v) b z=if b=a then some v else mLook es b z:=by
  unfold mLook
  rw [mGet_put]
  by_cases c:b=a
  · rw [if_pos c,if_pos c]
  · rw [if_neg c,if_neg c]
theorem MpS.add {base:Nat} {h0 h:Hp} {m:Nat} {q:Int→Option (Nat×Nat)} {f:Int→List Int} (s:MpS base h m q f) (hb:lo≤base) (x0:Ext h0 h) (hb0:h0.n≤base) (hbn:base≤h.n) (a k:Int) (hm:(f a).length+1≤Id.maxLen) :
    ∃ o' h5 es,h5.g m = .map es∧h.g m = .map es∧mLook es a (some (.slice none 0 0))=some (gv (q a) (f a).length)∧Ap lo (h.push (.cells (inE k) 1 0)) 1 (gv (q a) (f a).length) (inE k) 1 (gv o' (f a++[k]).length) h5∧MpS base (h5.set m (.map (mPut es a (gv o' (f a++[k]).length)))) m (fun b=>if b=a then o' else q b) (addAt f a k)∧Ext h0 (h5.set m (.map (mPut es a (gv o' (f a++[k]).length)))):=by
  obtain ⟨es,g1,g2⟩:=s.ex
  have x2:Ext h (h.push (.cells (inE k) 1 0)):=Ext.push _ _
  have r2:=(s.row a).ext x2
  have n2:=x2.n
  have hn1:(h.push (.cells (inE k) 1 0)).n=h.n+1:=rfl
  obtain ⟨o',h5,a1,a2,a3⟩:=(gx_lo (lo':=lo) r2 fun i hi=>by have:=(r2.lt hi).2;omega).apps (fun _=>rfl) (by decide) [k] (by simpa using hm) (by omega)
  have a3n:=a3.n
  have mlt:=s.lt
  have mlo:=s.lo
  have old:∀ b,b < h.n→¬ isB (q a) b→h5.g b=h.g b:=fun b hb hi=>(a3.g b (by omega) hi).trans (x2.g b hb)
  have hmq:∀ a,¬ isB (q a) m:=fun a hi=>by
    have:=s.row a
    obtain ⟨e,he⟩:=hi
    rw [he] at this
    have:=this.2.g
    rw [g1] at this;cases this
  have hmo:¬ isB o' m:=fun hi=>(a3.b m hi).elim (hmq a) fun q=>by omega
  have new:∀ b,isB o' b→b < h.n→isB (q a) b:=fun b hb hl=>(a3.b b hb).elim id fun q=>by omega
  refine ⟨o',h5,es,(old m mlt (hmq a)).trans g1,g1,g2 a,by simpa using a1,⟨by show m < h5.n;omega,mlo,⟨mPut es a (gv o' (f a++[k]).length),by simp [Hp.set],fun b => ?_⟩,fun b => ?_,fun b b' c h1 h2 => ?_⟩,⟨by have:=x0.n;show h0.n≤h5.n;omega,fun i hi => ?_⟩⟩
  · rw [mLook_put]
    by_cases c:b=a
    · subst c;simp [addAt]
    · show (if b=a then _ else _)=some (gv (if b=a then o' else q b) (addAt f a k b).length)
      unfold addAt
      rw [if_neg c,if_neg c,if_neg c,g2 b]
  · by_cases c:b=a
    · subst c
      simp only [addAt,if_true]
      refine (gx_lo a2 fun i hb' => ?_).keep (Nat.le_refl _) fun i hi hb' => ?_
      · by_cases p:i < h.n
        · exact ((s.row b).lt (new i hb' p)).2
        · omega
      · simp only [Hp.set];rw [if_neg (fun e:i=m=>hmo (e▸hb'))]
    · simp only [addAt,if_neg c]
      refine (s.row b).keep (by show h.n≤h5.n;omega) fun i hi hb' => ?_
      simp only [Hp.set]
      rw [if_neg (fun e:i=m=>hmq b (e▸hb'))]
      exact old i hi fun p=>c (s.ap b a i hb' p)
  · by_cases c1:b=a
    · by_cases c2:b'=a
      · rw [c1,c2]
      · simp only [if_pos c1,if_neg c2] at h1 h2
        have:=((s.row b').lt h2).1
        rw [c1];exact s.ap a b' c (new c h1 this) h2
    · by_cases c2:b'=a
      · simp only [if_neg c1,if_pos c2] at h1 h2
        have:=((s.row b).lt h1).1
        rw [c2];exact s.ap b a c h1 (new c h2 this)
      · simp only [if_neg c1,if_neg c2] at h1 h2
        exact s.ap b b' c h1 h2
  · have:=x0.n
    simp only [Hp.set]
    rw [if_neg (by omega)]
    exact (old i (by omega) fun p=>by have:=((s.row a).lt p).2;omega).trans (x0.g i hi)
def touchN (s:Sc) (i:Nat) (a:Int):List Int:=((List.range i).filter fun k=>sees s a k).map fun (k:Nat)=>(k:Int)
def upTo (s:Sc) (i j:Nat):Int→List Int:=fun a=>touchN s i a++(if a∈(s.ft.getD i []).take j then [(i:Int)] else [])
theorem upTo_zero (s:Sc) (i:Nat):upTo s i 0=touchN s i:=by funext a;simp [upTo]
theorem upTo_all (s:Sc) (i:Nat):upTo s i (s.ft.getD i []).length=touchN s (i+1):=by
  funext a
  unfold upTo touchN sees
  rw [List.take_length,List.range_succ,List.filter_append,List.map_append]
  congr 1
  by_cases c:a∈s.ft.getD i []
  · rw [if_pos c];simp only [List.filter_cons,c,decide_true,if_true,List.filter_nil,List.map_cons,List.map_nil]
  · rw [if_neg c];simp only [List.filter_cons,c,decide_false,List.filter_nil];rfl
theorem upTo_succ {s:Sc} {i j:Nat} (hj:j < (s.ft.getD i []).length) (hn:(s.ft.getD i []).Nodup):upTo s i (j+1)=addAt (upTo s i j) (s.ft.getD i [])[j] (i:Int):=by
  funext a
  unfold addAt upTo
  generalize s.ft.getD i []=l at *
  rw [List.take_succ_eq_append_getElem hj]
  by_cases c:a=l[j]
  · rw [if_pos c]
    have:l[j]∉l.take j:=fun q=>by
      obtain ⟨n,hn',e⟩:=List.getElem_of_mem q
      rw [List.length_take] at hn'
      rw [List.getElem_take] at e
      have:=(List.getElem_inj hn).1 e
      omega
    have h2:a∈l.take j++[l[j]]:=by rw [c];exact List.mem_append.2 (.inr (List.mem_singleton.2 rfl))
    rw [if_neg this,if_pos h2,List.append_nil,← c]
  · rw [if_neg c]
    have:(a∈l.take j++[l[j]])↔a∈l.take j:=⟨fun q=>(List.mem_append.1 q).elim id fun p=>absurd (List.mem_singleton.1 p) c,fun q=>List.mem_append.2 (.inl q)⟩
    simp only [this]
theorem touchN_len (s:Sc) (i:Nat) (a:Int):(touchN s i a).length≤i:=by
  unfold touchN;rw [List.length_map];exact Nat.le_trans (List.length_filter_le _ _) (by simp)
theorem upTo_len (s:Sc) (i j:Nat) (a:Int):(upTo s i j a).length≤i+1:=by
  have:=touchN_len s i a
  unfold upTo
  rw [List.length_append]
  split<;>simp<;>omega
theorem sightsOf_ok (s:Sc) (ga la fa:Option Addr) (gf lf ff:Nat) (L:List Value) (h:Hp) (hs:ScR h s ga la fa L) (hb:ScB s) (hnd:∀ l∈s.ft,l.Nodup):Tri X lo 81 [scV s ga la fa gf lf ff] h fun v h'=>(∃ m q,v = .map (some m)∧MpS h.n h' m q (touchS s))∧Ext h h':=by
  refine enter tbOk mtOk ⟨[],[]⟩ 400 Tryz.func81 rfl rfl rfl fun hlo => ?_
  have e0:Ext h (h.push (.map [])):=Ext.push _ _
  have m0:MpS h.n (h.push (.map [])) h.n (fun _=>none) (touchN s 0):=by
    refine ⟨by simp [Hp.push],Nat.le_refl _,⟨[],by simp [Hp.push],fun a=>rfl⟩,fun a=>rfl,fun a a' b ⟨e,h1⟩=>by cases h1⟩
  refine loop (σ:=Nat×(Int→Option (Nat×Nat))) tbOk mtOk ⟨[],[]⟩ (fun i=>[(12,.v (.int .i64 (i.1:Int))),(11,.v (.int .i64 (s.ft.length:Int))),(10,.v (.slice fa s.ft.length ff)),(3,.v (.map (some h.n)))]) (fun _=>[]) (fun i h'=>i.1≤s.ft.length∧MpS h.n h' h.n i.2 (touchN s i.1)∧Ext h h') (fun i=>s.ft.length - i.1) 400 (0,fun _=>none) (fun _=>rfl) ⟨rfl,rfl,rfl,rfl,trivial⟩ trivial ⟨Nat.zero_le _,m0,e0⟩ (fun i h1 hI again => ?_)
  obtain ⟨i,q⟩:=i
  obtain ⟨i1,m1,x1⟩:=hI
  simp only at i1 m1
  have hbf:=hb.ft
  refine cnd (fun c1 => ?_) (fun c1 => ?_)
  · have c1:i < s.ft.length:=by simpa using c1
    obtain ⟨ad,xa,xf,rfl,xs,xl⟩:=hs.ft.get c1
    have hgd:s.ft.getD i []=s.ft[i]:=by rw [List.getD_eq_getElem?_getD,List.getElem?_eq_getElem c1];rfl
    have hni:=hnd _ (List.getElem_mem c1)
    have hli:=hb.el _ (List.getElem_mem c1)
    have us:=fun j=>@upTo_succ s i j
    have ua:=upTo_all s i
    rw [hgd] at us ua
    generalize hl:s.ft[i]=l at *
    refine And.intro ⟨by omega,by omega⟩ ?_
    refine ⟨_,xl _ x1,?_⟩
    refine loop (σ:=Nat×(Int→Option (Nat×Nat))) tbOk mtOk ⟨[],[]⟩ (fun j=>[(19,.v (.int .i64 (j.1:Int))),(18,.v (.int .i64 (l.length:Int))),(17,.v (.slice xa l.length xf)),(4,.v (.int .i64 (i:Int))),(12,.v (.int .i64 (i:Int))),(11,.v (.int .i64 (s.ft.length:Int))),(10,.v (.slice (some ad) s.ft.length ff)),(3,.v (.map (some h.n)))]) (fun _=>[]) (fun j h'=>j.1≤l.length∧MpS h.n h' h.n j.2 (upTo s i j.1)∧Ext h h') (fun j=>l.length - j.1) 400 (0,q) (fun _=>rfl) ⟨rfl,rfl,rfl,rfl,rfl,rfl,rfl,rfl,trivial⟩ trivial ⟨Nat.zero_le _,by rw [upTo_zero];exact m1,x1⟩ (fun j h2 hJ again' => ?_)
    obtain ⟨j,q⟩:=j
    obtain ⟨j1,m2,x3⟩:=hJ
    simp only at j1 m2
    refine cnd (fun c2 => ?_) (fun c2 => ?_)
    · have c2:j < l.length:=by simpa using c2
      obtain ⟨xad,rfl⟩:=xs.some c2
      have hld:=(xs.ext x3).ld (e:=inE) (fun _=>rfl) c2
      obtain ⟨o',h5,es,b1,b2,b3,b4,b5,b6⟩:=m2.add (lo:=lo) hlo x3 (Nat.le_refl _) x3.n l[j] (i:Int) (by have:=upTo_len s i j l[j];unfold Id.maxLen;omega)
      refine And.intro ⟨by omega,by omega⟩ ?_
      refine ⟨_,hld,?_⟩
      refine ⟨by omega,es,b2,_,b3,?_⟩
      refine ⟨inE (i:Int),one_cells rfl,_,h5,b4,?_⟩
      refine ⟨by omega,es,b1,?_⟩
      rw [← us j c2 hni] at b5
      exact again' (j+1,_) _ _ _ (by show l.length - (j+1) < l.length - j;omega) ⟨vI (wz (by omega) (by omega)),rfl,rfl,rfl,rfl,rfl,rfl,rfl,trivial⟩ trivial ⟨by show j+1≤_;omega,b5,b6⟩
    · have c2:l.length=j:=by simp at c2;omega
      subst c2
      rw [ua] at m2
      exact again (i+1,q) _ _ _ (by show s.ft.length - (i+1) < s.ft.length - i;omega) ⟨vI (wz (by omega) (by omega)),rfl,rfl,rfl,trivial⟩ trivial ⟨by show i+1≤_;omega,m2,x3⟩
  · have c1:s.ft.length=i:=by simp at c1;omega
    rw [← c1] at m1
    exact And.intro ⟨h.n,q,rfl,m1⟩ x1
end
variable {N0:Nat→Prop} {lo:Nat}
theorem feetG_nodup {s:Sc} (h:scOk s=true):∀ l∈s.ft,l.Nodup:=by
  obtain ⟨hg,e⟩:=scOk_iff.1 h
  intro l hl
  rw [e] at hl
  obtain ⟨k,_,rfl⟩:=List.mem_map.1 hl
  exact (footL_lt _ _).imp fun h=>by omega
noncomputable def touchO (s:Sc) (a:Int):List Int:=if scOk s then touchS s a else []
theorem SceneTouch_ok (s:Sc) (a:Int) (ga la fa:Option Addr) (gf lf ff:Nat) (L:List Value) (h:Hp) (hs:ScR h s ga la fa L) (hb:ScB s):Tri (mainCtx Tryz.prog N0) lo 31 [scV s ga la fa gf lf ff,.int .i64 a] h fun v h'=>(∃ o,v=gv o (touchO s a).length∧Gx h.n h' inE 1 o (touchO s a))∧Ext h h':=by
  refine enter tbOk mtOk ⟨[],[]⟩ 400 Tryz.func31 rfl rfl rfl fun hlo => ?_
  refine callP (SceneOk_ok s ga la fa gf lf ff L h hs hb) ?_
  rintro v h1 ⟨rfl,e1⟩
  refine cnd (fun c1 => ?_) (fun c1 => ?_)
  · have hk:scOk s=false:=by simpa using c1
    unfold touchO
    rw [hk]
    exact ⟨⟨none,rfl,rfl⟩,e1⟩
  · have hk:scOk s=true:=by simpa using c1
    unfold touchO
    rw [hk]
    refine callP (sightsOf_ok s ga la fa gf lf ff L h1 (hs.ext e1) hb (feetG_nodup hk)) ?_
    rintro v h2 ⟨⟨m,q,rfl,M⟩,e2⟩
    obtain ⟨es,g1,g2⟩:=M.ex
    have n1:=e1.n
    have ml:=M.lo
    refine ⟨by omega,es,g1,_,g2 a,?_⟩
    exact ⟨⟨q a,rfl,gx_lo (M.row a) fun i hi=>by have:=((M.row a).lt hi).2;omega⟩,e1.trans e2⟩
end Go.Proofs.YtgmkdjjcleobhaaGreat.Id
namespace Go.Proofs.YtgmkdjjcleobhaaGreat.Id
open Go.Id Go.Conc Go.Conc.Lib
open Go.Proofs
set_option linter.unusedVariables false
set_option maxRecDepth 100000
section
variable {X:Ctx Tryz.prog} {lo:Nat}
end
end Go.Proofs.YtgmkdjjcleobhaaGreat.Id
namespace Go.Proofs.YtgmkdjjcleobhaaGreat.Id
open Go.Id Go.Conc Go.Conc.Lib
open Go.Proofs
set_option linter.unusedVariables false
theorem blks_nd {L:List Value}:(blks L).Nodup↔∀ (i j:Nat) (x y:Value) (b:Nat),L[i]? = some x→L[j]? = some y→blkOf x=some b→blkOf y=some b→i=j:=by
  unfold blks List.Nodup
  rw [List.pairwise_filterMap,List.pairwise_iff_getElem]
  constructor
  · intro h i j x y b hi hj hx hy
    obtain ⟨hi',rfl⟩:=List.getElem?_eq_some_iff.1 hi
    obtain ⟨hj',rfl⟩:=List.getElem?_eq_some_iff.1 hj
    rcases Nat.lt_trichotomy i j with q | q | q
    · exact absurd rfl (h i j hi' hj' q b hx b hy)
    · exact q
    · exact absurd rfl (h j i hj' hi' q b hy b hx)
  · intro h i j hi hj hlt b hb b' hb' e
    subst e
    have:=h i j _ _ b (List.getElem?_eq_getElem hi) (List.getElem?_eq_getElem hj) hb hb'
    omega
theorem mem_blks {L:List Value} {b:Nat}:b∈blks L↔∃ (i:Nat) (x:Value),L[i]? = some x∧blkOf x=some b:=by
  unfold blks
  rw [List.mem_filterMap]
  constructor
  · rintro ⟨x,hx,hb⟩
    obtain ⟨i,hi,rfl⟩:=List.getElem_of_mem hx
    exact ⟨i,_,List.getElem?_eq_getElem hi,hb⟩
  · rintro ⟨i,x,hx,hb⟩
    exact ⟨x,List.mem_of_getElem? hx,hb⟩
theorem get_set {L:List Value} {j i:Nat} {x y:Value} (h:(L.set j x)[i]? = some y):(i=j∧y=x)∨(i≠j∧L[i]? = some y):=by
  rw [List.getElem?_set] at h
  by_cases c:j=i
  · rw [if_pos c] at h
    split at h
    · cases h;exact .inl ⟨c.symm,rfl⟩
    · cases h
  · rw [if_neg c] at h
    exact .inr ⟨fun e=>c e.symm,h⟩
theorem mem_blks_set {L:List Value} {j b:Nat} {x:Value} (h:b∈blks (L.set j x)):b∈blks L∨blkOf x=some b:=by
  obtain ⟨i,y,hy,hb⟩:=mem_blks.1 h
  rcases get_set hy with ⟨_,rfl⟩ | ⟨_,hy⟩
  · exact .inr hb
  · exact .inl (mem_blks.2 ⟨i,y,hy,hb⟩)
theorem blks_set {L:List Value} {j:Nat} {x:Value} (h:(blks L).Nodup) (hx:∀ b,blkOf x=some b→b∉blks L):(blks (L.set j x)).Nodup:=by
  rw [blks_nd] at h ⊢
  intro i k y z b hi hk hy hz
  rcases get_set hi with ⟨ei,ey⟩ | ⟨ni,hi2⟩
  · rcases get_set hk with ⟨ek,ez⟩ | ⟨nk,hk2⟩
    · rw [ei,ek]
    · exact absurd (mem_blks.2 ⟨k,z,hk2,hz⟩) (hx b (ey▸hy))
  · rcases get_set hk with ⟨ek,ez⟩ | ⟨nk,hk2⟩
    · exact absurd (mem_blks.2 ⟨i,y,hi2,hy⟩) (hx b (ez▸hz))
    · exact h i k y z b hi2 hk2 hy hz
section
variable {base lo:Nat} {h h':Hp} {s:Sc} {o1 o2 o3:Option (Nat×Nat)} {L:List Value}
theorem ScO.nd (r:ScO base h s o1 o2 o3 L):(∀ b,isB o1 b→¬isB o2 b∧¬isB o3 b∧b∉blks L)∧(∀ b,isB o2 b→¬isB o3 b∧b∉blks L)∧(∀ b,isB o3 b→b∉blks L)∧(blks L).Nodup:=by
  refine ⟨fun b hb => ?_,fun b hb => ?_,fun b hb => ?_,(List.nodup_append.1 r.ap).2.1⟩
  · have:=r.off.1 (bO_is.2 hb)
    exact ⟨fun q=>this.1 (bO_is.2 q),fun q=>this.2.1 (bO_is.2 q),this.2.2⟩
  · have:=r.off.2.1 (bO_is.2 hb)
    exact ⟨fun q=>this.2.1 (bO_is.2 q),this.2.2⟩
  · exact (r.off.2.2 (bO_is.2 hb)).2.2
theorem nd_mk (h1:∀ b,isB o1 b→¬isB o2 b∧¬isB o3 b∧b∉blks L) (h2:∀ b,isB o2 b→¬isB o3 b∧b∉blks L) (h3:∀ b,isB o3 b→b∉blks L) (h4:(blks L).Nodup):(bO o1++bO o2++bO o3++blks L).Nodup:=by
  refine nodup_app (nodup_app (nodup_app (bO_nodup _) (bO_nodup _) fun x hx q => ?_) (bO_nodup _) fun x hx q => ?_) h4 fun x hx q => ?_
  · exact (h1 x (bO_is.1 hx)).1 (bO_is.1 q)
  · rcases List.mem_append.1 hx with hx | hx
    · exact (h1 x (bO_is.1 hx)).2.1 (bO_is.1 q)
    · exact (h2 x (bO_is.1 hx)).1 (bO_is.1 q)
  · rcases List.mem_append.1 hx with hx | hx
    · rcases List.mem_append.1 hx with hx | hx
      · exact (h1 x (bO_is.1 hx)).2.2 q
      · exact (h2 x (bO_is.1 hx)).2 q
    · exact h3 x (bO_is.1 hx) q
theorem ScO.cells {b1 e1:Nat} (r:ScO base h s (some (b1,e1)) o2 o3 L) (x:Ext1 b1 h h') {cs:List Cl} (w:Row h' b1 e1 cE 2 cs):ScO base h' ⟨⟨s.g.w,cs⟩,s.li,s.ft⟩ (some (b1,e1)) o2 o3 L:=by
  obtain ⟨n1,n2,n3,n4⟩:=r.nd
  have hb1:isB (some (b1,e1)) b1:=⟨e1,rfl⟩
  obtain ⟨a1,a2,a3⟩:=n1 b1 hb1
  have hg:∀ i,i < h.n→i≠b1→h'.g i=h.g i:=x.g
  refine ⟨⟨r.g1.1,w⟩,r.g2.keep x.n fun i hi hb=>hg i hi fun e=>a1 (e▸hb),r.g3.keep x.n fun i hi hb=>hg i hi fun e=>a2 (e▸hb),r.len,fun j y l h1 h2 => ?_,r.ap⟩
  have E:=r.el j y l h1 h2
  exact E.keep x.n fun b hb=>hg b (E.lt hb).1 fun e=>a3 (mem_blks.2 ⟨j,y,h1,e▸hb⟩)
theorem ScO.light {b2 e2:Nat} (r:ScO base h s o1 (some (b2,e2)) o3 L) (hlo:lo≤base) {j:Nat} (hj:j < s.li.length) (x:Int) :
    ∃ h',St lo h (addA ⟨b2,0,some e2⟩ (j*1)) [.int .i64 x] h'∧ScO base h' ⟨s.g,s.li.set j x,s.ft⟩ o1 (some (b2,e2)) o3 L∧h'.n=h.n∧∀ i,i≠b2→h'.g i=h.g i:=by
  obtain ⟨n1,n2,n3,n4⟩:=r.nd
  have hb2:isB (some (b2,e2)) b2:=⟨e2,rfl⟩
  obtain ⟨a1,a2⟩:=n2 b2 hb2
  have st:=r.g2.2.st (lo:=lo) (fun _=>rfl) (Nat.le_trans hlo r.g2.1) hj x
  have hg:∀ i,i≠b2→(h.set b2 (.cells ((s.li.set j x).flatMap inE) 1 e2)).g i=h.g i:=fun i hi=>by simp only [Hp.set];rw [if_neg hi]
  refine ⟨_,st,⟨r.g1.keep (Nat.le_refl _) fun i hi hb=>hg i fun e=>(n1 i hb).1 (e▸hb2),⟨r.g2.1,Row.set r.g2.2.lt⟩,r.g3.keep (Nat.le_refl _) fun i hi hb=>hg i fun e=>a1 (e▸hb),r.len,fun k y l h1 h2 => ?_,r.ap⟩,rfl,hg⟩
  have E:=r.el k y l h1 h2
  exact E.keep (Nat.le_refl _) fun b hb=>hg b fun e=>a2 (mem_blks.2 ⟨k,y,h1,e▸hb⟩)
theorem ScO.setFoot {b3 e3:Nat} (r:ScO base h s o1 o2 (some (b3,e3)) L) (hlo:lo≤base) {h1:Hp} (x1:Ext h h1) (hbn:base≤h.n) {j:Nat} (hj:j < s.ft.length) {x:Value} {l:List Int} (e:OwE h.n h1 x l) :
    ∃ h',St lo h1 (addA ⟨b3,0,some e3⟩ (j*1)) [x] h'∧ScO base h' ⟨s.g,s.li,s.ft.set j l⟩ o1 o2 (some (b3,e3)) (L.set j x)∧h'.n=h1.n∧∀ i,i≠b3→h'.g i=h1.g i:=by
  obtain ⟨n1,n2,n3,n4⟩:=r.nd
  have hb3:isB (some (b3,e3)) b3:=⟨e3,rfl⟩
  have a3:=n3 b3 hb3
  have r1:=r.ext x1
  have hjL:j < L.length:=by rw [r.len];exact hj
  have st:=r1.g3.2.st (lo:=lo) vE1_len (Nat.le_trans hlo r1.g3.1) hjL x
  have hg:∀ i,i≠b3→(h1.set b3 (.cells ((L.set j x).flatMap vE1) 1 e3)).g i=h1.g i:=fun i hi=>by simp only [Hp.set];rw [if_neg hi]
  have hx:∀ b,blkOf x=some b→h.n≤b:=fun b hb=>(e.lt hb).2
  have hlt:=fun b hb=>(r.lt (b:=b) hb).1
  have hxL:∀ b,blkOf x=some b→b∉blks L:=fun b hb q=>by
    have:=hlt b (List.mem_append.2 (.inr q));have:=hx b hb;omega
  have hx3:∀ b,blkOf x=some b→b≠b3:=fun b hb q=>by
    have:=(r.g3.lt ⟨e3,rfl⟩:b3 < h.n∧base≤b3).1;have:=hx b hb;omega
  refine ⟨_,st,⟨r1.g1.keep (Nat.le_refl _) fun i hi hb=>hg i fun e=>(n1 i hb).2.1 (e▸hb3),r1.g2.keep (Nat.le_refl _) fun i hi hb=>hg i fun e=>(n2 i hb).1 (e▸hb3),⟨r1.g3.1,Row.set r1.g3.2.lt⟩,by simp [r.len],fun k y m h1' h2' => ?_,?_⟩,rfl,hg⟩
  · rcases get_set h1' with ⟨rfl,rfl⟩ | ⟨nk,h1'⟩
    · have h2':(s.ft.set k l)[k]? = some m:=h2'
      rw [List.getElem?_set_self hj] at h2'
      cases h2'
      exact (e.up fun b hb=>by have:=hx b hb;omega).keep (Nat.le_refl _) fun b hb=>hg b (hx3 b hb)
    · have h2':(s.ft.set j l)[k]? = some m:=h2'
      rw [List.getElem?_set_ne (fun e=>nk e.symm)] at h2'
      have E:=r1.el k y m h1' h2'
      exact E.keep (Nat.le_refl _) fun b hb=>hg b fun e=>a3 (mem_blks.2 ⟨k,y,h1',e▸hb⟩)
  · have out:∀ b,b∈blks (L.set j x)→b∈blks L∨h.n≤b:=fun b hb=>(mem_blks_set hb).imp id (hx b)
    have l1:∀ b,isB o1 b→b < h.n:=fun b hb=>(r.g1.lt hb).1
    have l2:∀ b,isB o2 b→b < h.n:=fun b hb=>(r.g2.lt hb).1
    have l3:∀ b,isB (some (b3,e3)) b→b < h.n:=fun b hb=>(r.g3.lt hb).1
    refine nd_mk (fun b hb=>⟨(n1 b hb).1,(n1 b hb).2.1,fun q => ?_⟩) (fun b hb=>⟨(n2 b hb).1,fun q => ?_⟩) (fun b hb q => ?_) (blks_set n4 hxL)
    · rcases out b q with q | q
      · exact (n1 b hb).2.2 q
      · have:=l1 b hb;omega
    · rcases out b q with q | q
      · exact (n2 b hb).2 q
      · have:=l2 b hb;omega
    · rcases out b q with q | q
      · exact n3 b hb q
      · have:=l3 b hb;omega
end
end Go.Proofs.YtgmkdjjcleobhaaGreat.Id
namespace Go.Proofs.YtgmkdjjcleobhaaGreat.Id
open Go.Id Go.Conc Go.Conc.Lib Go.Sort
open Go.Proofs
set_option linter.unusedVariables false
set_option maxRecDepth 100000
variable {N0:Nat→Prop} {lo:Nat}
theorem scOk_len {s:Sc} (h:scOk s=true):(1≤s.g.cs.length∧s.g.cs.length≤25)∧(1≤s.li.length∧s.li.length≤20)∧s.ft.length=s.li.length:=by
  obtain ⟨hg,e⟩:=scOk_iff.1 h
  have h1:=gOk_len hg
  obtain ⟨_,_,g3,_⟩:=gOk_iff.1 hg
  have h2:=many_le s.g hg
  obtain ⟨l1,l2⟩:=scG_len s.g
  have e1:s.li.length=(many s.g).toNat:=by rw [e];exact l1
  have e2:s.ft.length=(many s.g).toNat:=by rw [e];exact l2
  omega
theorem gx_some {α:Type} {lo:Nat} {h:Hp} {enc:α→List Value} {sz:Nat} {o:Option (Nat×Nat)} {l:List α} (g:Gx lo h enc sz o l) (hl:1≤l.length):∃ b e,o=some (b,e):=by
  match o,g with
  | none,g=>rw [show l=[] from g] at hl;simp at hl
  | some (b,e),_=>exact ⟨b,e,rfl⟩
section
variable {X:Ctx Tryz.prog}
end
end Go.Proofs.YtgmkdjjcleobhaaGreat.Id
namespace Go.Proofs.YtgmkdjjcleobhaaGreat.Id
open Go.Id Go.Conc Go.Conc.Lib
open Go.Proofs
set_option linter.unusedVariables false
set_option maxRecDepth 100000
variable {N0:Nat→Prop} {lo:Nat}
theorem sls_keep {α:Type} {h h':Hp} {enc:α→List Value} {sz:Nat} {a:Option Addr} {l:List α} (s:Sls h enc sz a l) (hn:h.n≤h'.n) (hg:∀ ad,a=some ad→h'.g ad.block=h.g ad.block):Sls h' enc sz a l:=by
  cases a with
  | none=>exact s
  | some ad=>exact ⟨Nat.lt_of_lt_of_le s.1 hn,by rw [hg ad rfl];exact s.2⟩
section
variable {X:Ctx Tryz.prog}
theorem l13Look_ok (base:Nat) (s:Sc) (k:Nat) (b1 t1 b2 t2 b3 t3:Nat) (L:List Value) (h:Hp) (r:ScO base h s (some (b1,t1)) (some (b2,t2)) (some (b3,t3)) L) (hl:lo≤base) (hg:gOk s.g=true) (hk:(k:Int) < many s.g) (h1:s.li.length=(many s.g).toNat) (h2:s.ft.length=(many s.g).toNat):Tri X lo 52 [scOV s (some (b1,t1)) (some (b2,t2)) (some (b3,t3)),.int .i64 (k:Int)] h fun v h'=>v=scOV s (some (b1,t1)) (some (b2,t2)) (some (b3,t3))∧(∃ L',ScO base h' (lookS s k) (some (b1,t1)) (some (b2,t2)) (some (b3,t3)) L'∧∀ b∈blks L',b∈blks L∨h.n≤b)∧h.n≤h'.n∧∀ b,b < h.n→b≠b2→b≠b3→h'.g b=h.g b:=by
  refine enter tbOk mtOk ⟨[],[(2,[0,1,2,3,4,5,6,7,8,9,10,11],[0,1,0,0,8,0,32,96,224,504,1023,2047]),(3,[0,1,2,3,4,5,6,7,8,9,10,11],[0,1,0,0,8,0,32,96,224,504,1023,2047])]⟩ 400 Tryz.func52 rfl rfl rfl fun hlo => ?_
  have gs:Sls h cE 2 (some ⟨b1,0,some t1⟩) s.g.cs:=r.g1.2.sls cE2
  have hn:(s.g.cs.length:Int) < 2 ^ 31:=by have:=gOk_len hg;omega
  obtain ⟨T1,T2,T3,T4,_⟩:=trail_ok s.g k
  have hvis:=trail_vis s.g k
  refine callP (l11Go_ok s.g k (some ⟨b1,0,some t1⟩) 1 h gs hg hk) ?_
  rintro v h2 ⟨wb,o1,o2,rfl,m⟩
  obtain ⟨va,vf,p1,p2,p5⟩:=gw_sls' (m.g1.up m.l1)
  obtain ⟨ea,ef,p3,p4⟩:=gw_sls m.g2
  have hbx:=m.bx
  rw [p1,p3] at hbx
  have x2:=m.ext
  refine And.intro (by kernel_rfl) ?_
  repeat refine And.intro Is.r ?_
  refine ⟨_,hbx.ldF (i:=3) rfl,?_⟩
  refine callP (l11Light_ok s.g (trail s.g k).2 (some ⟨b1,0,some t1⟩) 1 ea ef h2 (gs.ext x2) hn p4 T2.2 T3 T4) ?_
  rintro v h3 ⟨rfl,x3⟩
  have x23:=x2.trans x3
  have n23:=x23.n
  obtain ⟨h4,st4,r4,n4,k4⟩:=(r.ext x23).light hl (j:=k) (by omega) (lightAt s.g k)
  refine And.intro Is.r ?_
  refine And.intro ⟨by omega,by omega⟩ ?_
  refine ⟨h4,st4,?_⟩
  repeat refine And.intro Is.r ?_
  have k42:∀ b,b < h2.n→b≠b2→h4.g b=h2.g b:=fun b hb hne=>(k4 b hne).trans (x3.g b hb)
  have lb2:b2 < h.n:=r.g2.2.lt
  have lwb:=m.l4
  have bx4:Bx h4 wb [.int .i64 s.g.w,.slice (some ⟨b1,0,some t1⟩) s.g.cs.length 1,.slice va (trail s.g k).1.length vf,.slice ea (trail s.g k).2.length ef]:=⟨by have:=hbx.lt;have:=x3.n;omega,by rw [k42 wb hbx.lt (by omega)];exact hbx.g⟩
  have vs4:Sls h4 vE 3 va (trail s.g k).1:=sls_keep p2 (by have:=x3.n;omega) fun ad e=>by
    subst e
    exact k42 _ p2.1 (by have:=p5 _ rfl;omega)
  have gs4:Sls h4 cE 2 (some ⟨b1,0,some t1⟩) s.g.cs:=r4.g1.2.sls cE2
  refine And.intro (by kernel_rfl) ?_
  refine ⟨_,bx4.ldF (i:=2) rfl,?_⟩
  refine callP (l11Foot_ok s.g (trail s.g k).1 (some ⟨b1,0,some t1⟩) va 1 vf h4 gs4 hn vs4 T2.1 hvis) ?_
  rintro v h5 ⟨⟨c,ce,rfl,w1,w2⟩,x5⟩
  have hfoot:footL (trail s.g k).1 s.g.cs.length=footG s.g k:=rfl
  rw [hfoot] at w2 ⊢
  obtain ⟨h6,st6,r6,n6,k6⟩:=r4.setFoot (lo:=lo) hl x5 (by have:=r.g1.1;have:=r.g1.2.lt;omega) (j:=k) (by show k < s.ft.length;omega) (x := .slice (some ⟨c,0,some ce⟩) (footG s.g k).length 1) (l:=footG s.g k) ⟨some (c,ce),rfl,w1,[],by rw [List.append_nil];exact w2⟩
  have n5:=x5.n
  refine And.intro Is.r ?_
  refine And.intro ⟨by omega,by omega⟩ ?_
  refine ⟨h6,st6,?_⟩
  repeat refine And.intro Is.r ?_
  have lb3:b3 < h.n:=r.g3.2.lt
  have n3':=x3.n
  refine And.intro rfl ⟨⟨_,r6,fun b hb => ?_⟩,by omega,fun b hb hb2 hb3 => ?_⟩
  · rcases mem_blks_set hb with hb | hb
    · exact .inl hb
    · have:c=b:=Option.some.inj hb
      exact .inr (by omega)
  · exact (k6 b hb3).trans ((x5.g b (by omega)).trans ((k4 b hb2).trans (x23.g b hb)))
theorem copyA {α:Type} {h:Hp} {enc:α→List Value} {sz fl:Nat} {a:Option Addr} {cs:List α} (hs:Sls h enc sz a cs) (he:∀ x,(enc x).length=sz) (hz:sz≠0) (hlo:lo≤h.n) (hn:cs.length≤1048576) :
    SlCells (h.push (.cells [] sz 0)) (.slice a cs.length fl) sz (cs.flatMap enc)∧Ap lo (h.push (.cells [] sz 0)) sz (.slice (some ⟨h.n,0,some 0⟩) 0 1) (cs.flatMap enc) cs.length (.slice (some ⟨h.n,0,some 1⟩) cs.length 1) ((h.push (.cells [] sz 0)).set h.n (.cells (cs.flatMap enc) sz 1))∧Ext h ((h.push (.cells [] sz 0)).set h.n (.cells (cs.flatMap enc) sz 1))∧Row ((h.push (.cells [] sz 0)).set h.n (.cells (cs.flatMap enc) sz 1)) h.n 1 enc sz cs:=by
  have e1:Ext h (h.push (.cells [] sz 0)):=Ext.push _ _
  have r1:Row (h.push (.cells [] sz 0)) h.n 0 enc sz ([]:List α):=⟨by simp [Hp.push],by simp [Hp.push]⟩
  have ap:=r1.app (m:=cs) (lo:=lo) he hz hlo (by unfold Id.maxLen;simp;omega)
  refine ⟨sls_cells (hs.ext e1),by simpa using ap,e1.set (Nat.le_refl _) _,Row.set r1.lt⟩
theorem l1Copy_ok (g:Gd) (a:Option Addr) (fl:Nat) (h:Hp) (hs:Sls h cE 2 a g.cs) (hn:g.cs.length≤1048576):Tri X lo 51 [.agg #[.int .i64 g.w,.slice a g.cs.length fl]] h fun v h'=>(∃ b,v = .agg #[.int .i64 g.w,.slice (some ⟨b,0,some 1⟩) g.cs.length 1]∧h.n≤b∧Row h' b 1 cE 2 g.cs)∧Ext h h':=by
  refine enter tbOk mtOk ⟨[],[(1,[0,1,3,4,2,5,6,7],[0,1,0,0,8,28,63,127])]⟩ 400 Tryz.func51 rfl rfl rfl fun hlo => ?_
  obtain ⟨c1,c2,c3,c4⟩:=copyA (fl:=fl) (lo:=lo) hs cE2 (by decide) hlo hn
  refine And.intro (by kernel_rfl) ?_
  refine And.intro Is.r ?_
  refine And.intro Is.r ?_
  refine ⟨_,c1,_,_,c2,?_⟩
  repeat refine And.intro Is.r ?_
  exact And.intro ⟨h.n,rfl,Nat.le_refl _,c4⟩ c3
structure Mk (h0 h:Hp) (g:Gd) (m:Nat) (o l f:Option Nat):Prop where
  x:Ext h0 h
  rc:∀ b,o=some b→h0.n≤b∧Row h b 1 cE 2 g.cs
  rl:∀ b,l=some b→h0.n≤b∧Row h b 0 inE 1 (List.replicate m 0)
  rf:∀ b,f=some b→h0.n≤b∧Row h b 0 vE1 1 (List.replicate m (.slice none 0 0))
  a1:∀ b,o=some b→l≠some b
  a2:∀ b,o=some b→f≠some b
  a3:∀ b,l=some b→f≠some b
section
variable {h0 h h1:Hp} {g:Gd} {m:Nat} {o l f:Option Nat}
theorem Mk.zero:Mk h h g m none none none:=⟨Ext.refl _,fun b e=>(by cases e),fun b e=>(by cases e),fun b e=>(by cases e),fun b e=>(by cases e),fun b e=>(by cases e),fun b e=>(by cases e)⟩
theorem Mk.copy (k:Mk h0 h g m none l f) {b:Nat} (hb:h.n≤b) (r:Row h1 b 1 cE 2 g.cs) (e:Ext h h1):Mk h0 h1 g m (some b) l f:=by
  have n0:=k.x.n
  refine ⟨k.x.trans e,fun c q => ?_,fun c q=>⟨(k.rl c q).1,(k.rl c q).2.ext e⟩,fun c q=>⟨(k.rf c q).1,(k.rf c q).2.ext e⟩,fun c q q' => ?_,fun c q q' => ?_,k.a3⟩
  · cases q;exact ⟨by omega,r⟩
  · cases q;have:=(k.rl b q').2.lt;omega
  · cases q;have:=(k.rf b q').2.lt;omega
theorem Mk.mkL (k:Mk h0 h g m o none f):Mk h0 (h.push (.cells (zeros [.int .i64 0] m) 1 0)) g m o (some h.n) f:=by
  have n0:=k.x.n
  have e:Ext h (h.push (.cells (zeros [.int .i64 0] m) 1 0)):=Ext.push _ _
  refine ⟨k.x.trans e,fun c q=>⟨(k.rc c q).1,(k.rc c q).2.ext e⟩,fun c q => ?_,fun c q=>⟨(k.rf c q).1,(k.rf c q).2.ext e⟩,fun c q q' => ?_,k.a2,fun c q q' => ?_⟩
  · cases q;exact ⟨n0,by rw [zeros_flat (enc:=inE) (z:=[.int .i64 0]) (x:=(0:Int)) rfl];exact Row.push⟩
  · cases q';have:=(k.rc h.n q).2.lt;omega
  · cases q;have:=(k.rf h.n q').2.lt;omega
theorem Mk.mkF (k:Mk h0 h g m o l none):Mk h0 (h.push (.cells (zeros [.slice none 0 0] m) 1 0)) g m o l (some h.n):=by
  have n0:=k.x.n
  have e:Ext h (h.push (.cells (zeros [.slice none 0 0] m) 1 0)):=Ext.push _ _
  refine ⟨k.x.trans e,fun c q=>⟨(k.rc c q).1,(k.rc c q).2.ext e⟩,fun c q=>⟨(k.rl c q).1,(k.rl c q).2.ext e⟩,fun c q => ?_,k.a1,fun c q q' => ?_,fun c q q' => ?_⟩
  · cases q;exact ⟨n0,by rw [zeros_flat (enc:=vE1) (z:=[.slice none 0 0]) (x:=(.slice none 0 0:Value)) rfl];exact Row.push⟩
  · cases q';have:=(k.rc h.n q).2.lt;omega
  · cases q';have:=(k.rl h.n q).2.lt;omega
theorem Mk.fin {b1 b2 b3:Nat} (k:Mk h0 h g m (some b1) (some b2) (some b3)):ScO h0.n h ⟨g,List.replicate m 0,List.replicate m []⟩ (some (b1,1)) (some (b2,0)) (some (b3,0)) (List.replicate m (.slice none 0 0)):=by
  have hbl:blks (List.replicate m (.slice none 0 0))=[]:=by
    unfold blks
    exact List.filterMap_replicate_of_none rfl
  refine ⟨k.rc b1 rfl,k.rl b2 rfl,k.rf b3 rfl,by simp,fun j x l hx hl => ?_,nd_mk (fun b hb => ?_) (fun b hb => ?_) (fun b hb => ?_) ?_⟩
  · obtain ⟨hj,rfl⟩:=List.getElem?_eq_some_iff.1 hx
    obtain ⟨hj',rfl⟩:=List.getElem?_eq_some_iff.1 hl
    simp only [List.getElem_replicate]
    exact ⟨none,rfl,rfl⟩
  · rw [hbl]
    have:=isB_eq hb
    subst this
    exact ⟨fun q=>k.a1 b1 rfl (by rw [isB_eq q]),fun q=>k.a2 b1 rfl (by rw [isB_eq q]),by simp⟩
  · rw [hbl]
    have:=isB_eq hb
    subst this
    exact ⟨fun q=>k.a3 b2 rfl (by rw [isB_eq q]),by simp⟩
  · rw [hbl];simp
  · rw [hbl];exact List.nodup_nil
end
end
end Go.Proofs.YtgmkdjjcleobhaaGreat.Id
namespace Go.Proofs.YtgmkdjjcleobhaaGreat.Id
open Go.Id Go.Conc Go.Conc.Lib
open Go.Proofs
set_option linter.unusedVariables false
set_option maxRecDepth 100000
variable {X:Ctx Tryz.prog} {lo:Nat}
theorem Mk.leaf {Q:Nat×Nat×Nat→Prop} {h0 h:Hp} {g:Gd} {m b1 b2 b3:Nat} (k:Mk h0 h g m (some b1) (some b2) (some b3)) (q:Q (b1,b2,b3)):∃ t,Q t:=⟨_,q⟩
set_option maxHeartbeats 1600000 in
theorem sSceneNew_ok (g:Gd) (ad:Option Addr) (fl:Nat) (h:Hp) (hs:Sls h cE 2 ad g.cs) (hn:(g.cs.length:Int) < 2 ^ 31):Tri X lo 11 [.agg #[.int .i64 g.w,.slice ad g.cs.length fl]] h fun v h'=>(∃ o1 o2 o3 L,v = .tuple #[scOV (newS g) o1 o2 o3,.bool (gOk g)]∧ScO h.n h' (newS g) o1 o2 o3 L)∧Ext h h':=by
  refine enter tbOk mtOk ⟨[],[]⟩ 400 Tryz.func11 rfl rfl rfl fun hlo => ?_
  refine callP (sGridOk_ok g.w ad fl g.cs h hs hn) ?_
  rintro v h1 ⟨rfl,e1⟩
  refine cnd (fun c1 => ?_) (fun c1 => ?_)
  · have hg:gOk g=false:=by simpa using c1
    have hn0:newS g=sc0:=by unfold newS;rw [hg];rfl
    rw [hn0,hg]
    exact ⟨⟨none,none,none,[],rfl,rfl,rfl,rfl,rfl,fun j x l hx=>(by simp at hx),List.nodup_nil⟩,e1⟩
  · have hg:gOk g=true:=by simpa using c1
    have hn0:newS g=scG g:=by unfold newS;rw [hg];rfl
    rw [hn0,hg]
    have hn1:g.cs.length≤1048576:=by have:=gOk_len hg;omega
    have hm:=many_le g hg
    refine callP (l3Many_ok g ad fl h1 hg hn) ?_
    rintro v h2 ⟨rfl,e2⟩
    have e12:=e1.trans e2
    have cp:=fun {h':Hp} (x:Ext h2 h')=>l1Copy_ok (X:=X) (lo:=lo) g ad fl h' ((hs.ext e12).ext x) hn1
    have hmk:0≤many g∧many g≤many g∧many g≤Id.maxLen:=⟨by omega,Int.le_refl _,by unfold Id.maxLen;omega⟩
    have hmv:some (Sl.v (Value.int .i64 (many g)))=some (Sl.v (.int .i64 (many g))):=rfl
    refine drawE (σ:=Nat×Nat×Nat) tbOk mtOk ⟨[],[(4,[0,2,4,1,3,5,6,7,8],[0,1,0,4,0,16,63,0,255])]⟩ 400 (.fl 0 (.fl 2 (.fl 4 (.ch 1 (.ch 3 (.ch 5 (.fl 6 (.ch 7 (.ch 8 .fin .stop) .stop)) (.ch 7 (.ch 5 (.fl 6 (.ch 8 .fin .stop)) .stop) .stop)) (.ch 5 (.ch 3 (.fl 6 (.ch 7 (.ch 8 .fin .stop) .stop)) (.ch 7 (.ch 3 (.fl 6 (.ch 8 .fin .stop)) .stop) .stop)) (.ch 7 (.ch 3 (.ch 5 (.fl 6 (.ch 8 .fin .stop)) .stop) (.ch 5 (.ch 3 (.fl 6 (.ch 8 .fin .stop)) .stop) .stop)) .stop))) (.ch 3 (.ch 1 (.ch 5 (.fl 6 (.ch 7 (.ch 8 .fin .stop) .stop)) (.ch 7 (.ch 5 (.fl 6 (.ch 8 .fin .stop)) .stop) .stop)) (.ch 5 (.ch 1 (.fl 6 (.ch 7 (.ch 8 .fin .stop) .stop)) (.ch 7 (.ch 1 (.fl 6 (.ch 8 .fin .stop)) .stop) .stop)) (.ch 7 (.ch 1 (.ch 5 (.fl 6 (.ch 8 .fin .stop)) .stop) (.ch 5 (.ch 1 (.fl 6 (.ch 8 .fin .stop)) .stop) .stop)) .stop))) (.ch 5 (.ch 1 (.ch 3 (.fl 6 (.ch 7 (.ch 8 .fin .stop) .stop)) (.ch 7 (.ch 3 (.fl 6 (.ch 8 .fin .stop)) .stop) .stop)) (.ch 3 (.ch 1 (.fl 6 (.ch 7 (.ch 8 .fin .stop) .stop)) (.ch 7 (.ch 1 (.fl 6 (.ch 8 .fin .stop)) .stop) .stop)) (.ch 7 (.ch 1 (.ch 3 (.fl 6 (.ch 8 .fin .stop)) .stop) (.ch 3 (.ch 1 (.fl 6 (.ch 8 .fin .stop)) .stop) .stop)) .stop))) (.ch 7 (.ch 1 (.ch 3 (.ch 5 (.fl 6 (.ch 8 .fin .stop)) .stop) (.ch 5 (.ch 3 (.fl 6 (.ch 8 .fin .stop)) .stop) .stop)) (.ch 3 (.ch 1 (.ch 5 (.fl 6 (.ch 8 .fin .stop)) .stop) (.ch 5 (.ch 1 (.fl 6 (.ch 8 .fin .stop)) .stop) .stop)) (.ch 5 (.ch 1 (.ch 3 (.fl 6 (.ch 8 .fin .stop)) .stop) (.ch 3 (.ch 1 (.fl 6 (.ch 8 .fin .stop)) .stop) .stop)) .stop))) .stop))))))) [0,1,0,4,0,16,63,0,255] (fun _=>[(5,.l 2 0),(2,.l 1 0),(1,.l 0 0),(4,.v (.int .i64 (many g)))]) (fun t=>[[.int .i64 g.w,.slice ad g.cs.length fl],[.int .i64 0,.slice none 0 0,.slice none 0 0,.slice none 0 0],[.int .i64 g.w,.slice (some ⟨t.1,0,some 1⟩) g.cs.length 1,.slice (some ⟨t.2.1,0,some 0⟩) (many g).toNat 1,.slice (some ⟨t.2.2,0,some 0⟩) (many g).toNat 1]]) (fun t h'=>Mk h2 h' g (many g).toNat (some t.1) (some t.2.1) (some t.2.2)) (fun _=>rfl) (by kernel_rfl) ?_ ?_
    · have M:Mk h2 h2 g (many g).toNat none none none:=Mk.zero
      refine And.intro ?_ ?_
      · refine callP (cp M.x) ?_
        rintro v hc ⟨⟨b,rfl,q1,q2⟩,e1⟩
        have M:=M.copy q1 q2 e1
        repeat refine And.intro Is.r ?_
        refine And.intro ?_ ?_
        · refine And.intro hmk ?_
          have M:=M.mkL
          repeat refine And.intro Is.r ?_
          refine And.intro ?_ ?_
          · refine And.intro hmk ?_
            have M:=M.mkF
            repeat refine And.intro Is.r ?_
            refine And.intro ?_ trivial
            repeat refine And.intro Is.r ?_
            refine And.intro ?_ trivial
            repeat refine And.intro Is.r ?_
            exact M.leaf ⟨⟨rfl,rfl,rfl,hmv,trivial⟩,⟨rfl,rfl,rfl,trivial⟩,M⟩
          · refine And.intro ?_ trivial
            repeat refine And.intro Is.r ?_
            refine And.intro ?_ trivial
            refine And.intro hmk ?_
            have M:=M.mkF
            repeat refine And.intro Is.r ?_
            refine And.intro ?_ trivial
            repeat refine And.intro Is.r ?_
            exact M.leaf ⟨⟨rfl,rfl,rfl,hmv,trivial⟩,⟨rfl,rfl,rfl,trivial⟩,M⟩
        · refine And.intro ?_ ?_
          · refine And.intro hmk ?_
            have M:=M.mkF
            repeat refine And.intro Is.r ?_
            refine And.intro ?_ ?_
            · refine And.intro hmk ?_
              have M:=M.mkL
              repeat refine And.intro Is.r ?_
              refine And.intro ?_ trivial
              repeat refine And.intro Is.r ?_
              refine And.intro ?_ trivial
              repeat refine And.intro Is.r ?_
              exact M.leaf ⟨⟨rfl,rfl,rfl,hmv,trivial⟩,⟨rfl,rfl,rfl,trivial⟩,M⟩
            · refine And.intro ?_ trivial
              repeat refine And.intro Is.r ?_
              refine And.intro ?_ trivial
              refine And.intro hmk ?_
              have M:=M.mkL
              repeat refine And.intro Is.r ?_
              refine And.intro ?_ trivial
              repeat refine And.intro Is.r ?_
              exact M.leaf ⟨⟨rfl,rfl,rfl,hmv,trivial⟩,⟨rfl,rfl,rfl,trivial⟩,M⟩
          · refine And.intro ?_ trivial
            repeat refine And.intro Is.r ?_
            refine And.intro ?_ ?_
            · refine And.intro hmk ?_
              have M:=M.mkL
              repeat refine And.intro Is.r ?_
              refine And.intro ?_ trivial
              refine And.intro hmk ?_
              have M:=M.mkF
              repeat refine And.intro Is.r ?_
              refine And.intro ?_ trivial
              repeat refine And.intro Is.r ?_
              exact M.leaf ⟨⟨rfl,rfl,rfl,hmv,trivial⟩,⟨rfl,rfl,rfl,trivial⟩,M⟩
            · refine And.intro ?_ trivial
              refine And.intro hmk ?_
              have M:=M.mkF
              repeat refine And.intro Is.r ?_
              refine And.intro ?_ trivial
              refine And.intro hmk ?_
              have M:=M.mkL
              repeat refine And.intro Is.r ?_
              refine And.intro ?_ trivial
              repeat refine And.intro Is.r ?_
              exact M.leaf ⟨⟨rfl,rfl,rfl,hmv,trivial⟩,⟨rfl,rfl,rfl,trivial⟩,M⟩
      · refine And.intro ?_ ?_
        · refine And.intro hmk ?_
          have M:=M.mkL
          repeat refine And.intro Is.r ?_
          refine And.intro ?_ ?_
          · refine callP (cp M.x) ?_
            rintro v hc ⟨⟨b,rfl,q1,q2⟩,e1⟩
            have M:=M.copy q1 q2 e1
            repeat refine And.intro Is.r ?_
            refine And.intro ?_ ?_
            · refine And.intro hmk ?_
              have M:=M.mkF
              repeat refine And.intro Is.r ?_
              refine And.intro ?_ trivial
              repeat refine And.intro Is.r ?_
              refine And.intro ?_ trivial
              repeat refine And.intro Is.r ?_
              exact M.leaf ⟨⟨rfl,rfl,rfl,hmv,trivial⟩,⟨rfl,rfl,rfl,trivial⟩,M⟩
            · refine And.intro ?_ trivial
              repeat refine And.intro Is.r ?_
              refine And.intro ?_ trivial
              refine And.intro hmk ?_
              have M:=M.mkF
              repeat refine And.intro Is.r ?_
              refine And.intro ?_ trivial
              repeat refine And.intro Is.r ?_
              exact M.leaf ⟨⟨rfl,rfl,rfl,hmv,trivial⟩,⟨rfl,rfl,rfl,trivial⟩,M⟩
          · refine And.intro ?_ ?_
            · refine And.intro hmk ?_
              have M:=M.mkF
              repeat refine And.intro Is.r ?_
              refine And.intro ?_ ?_
              · refine callP (cp M.x) ?_
                rintro v hc ⟨⟨b,rfl,q1,q2⟩,e1⟩
                have M:=M.copy q1 q2 e1
                repeat refine And.intro Is.r ?_
                refine And.intro ?_ trivial
                repeat refine And.intro Is.r ?_
                refine And.intro ?_ trivial
                repeat refine And.intro Is.r ?_
                exact M.leaf ⟨⟨rfl,rfl,rfl,hmv,trivial⟩,⟨rfl,rfl,rfl,trivial⟩,M⟩
              · refine And.intro ?_ trivial
                repeat refine And.intro Is.r ?_
                refine And.intro ?_ trivial
                refine callP (cp M.x) ?_
                rintro v hc ⟨⟨b,rfl,q1,q2⟩,e1⟩
                have M:=M.copy q1 q2 e1
                repeat refine And.intro Is.r ?_
                refine And.intro ?_ trivial
                repeat refine And.intro Is.r ?_
                exact M.leaf ⟨⟨rfl,rfl,rfl,hmv,trivial⟩,⟨rfl,rfl,rfl,trivial⟩,M⟩
            · refine And.intro ?_ trivial
              repeat refine And.intro Is.r ?_
              refine And.intro ?_ ?_
              · refine callP (cp M.x) ?_
                rintro v hc ⟨⟨b,rfl,q1,q2⟩,e1⟩
                have M:=M.copy q1 q2 e1
                repeat refine And.intro Is.r ?_
                refine And.intro ?_ trivial
                refine And.intro hmk ?_
                have M:=M.mkF
                repeat refine And.intro Is.r ?_
                refine And.intro ?_ trivial
                repeat refine And.intro Is.r ?_
                exact M.leaf ⟨⟨rfl,rfl,rfl,hmv,trivial⟩,⟨rfl,rfl,rfl,trivial⟩,M⟩
              · refine And.intro ?_ trivial
                refine And.intro hmk ?_
                have M:=M.mkF
                repeat refine And.intro Is.r ?_
                refine And.intro ?_ trivial
                refine callP (cp M.x) ?_
                rintro v hc ⟨⟨b,rfl,q1,q2⟩,e1⟩
                have M:=M.copy q1 q2 e1
                repeat refine And.intro Is.r ?_
                refine And.intro ?_ trivial
                repeat refine And.intro Is.r ?_
                exact M.leaf ⟨⟨rfl,rfl,rfl,hmv,trivial⟩,⟨rfl,rfl,rfl,trivial⟩,M⟩
        · refine And.intro ?_ ?_
          · refine And.intro hmk ?_
            have M:=M.mkF
            repeat refine And.intro Is.r ?_
            refine And.intro ?_ ?_
            · refine callP (cp M.x) ?_
              rintro v hc ⟨⟨b,rfl,q1,q2⟩,e1⟩
              have M:=M.copy q1 q2 e1
              repeat refine And.intro Is.r ?_
              refine And.intro ?_ ?_
              · refine And.intro hmk ?_
                have M:=M.mkL
                repeat refine And.intro Is.r ?_
                refine And.intro ?_ trivial
                repeat refine And.intro Is.r ?_
                refine And.intro ?_ trivial
                repeat refine And.intro Is.r ?_
                exact M.leaf ⟨⟨rfl,rfl,rfl,hmv,trivial⟩,⟨rfl,rfl,rfl,trivial⟩,M⟩
              · refine And.intro ?_ trivial
                repeat refine And.intro Is.r ?_
                refine And.intro ?_ trivial
                refine And.intro hmk ?_
                have M:=M.mkL
                repeat refine And.intro Is.r ?_
                refine And.intro ?_ trivial
                repeat refine And.intro Is.r ?_
                exact M.leaf ⟨⟨rfl,rfl,rfl,hmv,trivial⟩,⟨rfl,rfl,rfl,trivial⟩,M⟩
            · refine And.intro ?_ ?_
              · refine And.intro hmk ?_
                have M:=M.mkL
                repeat refine And.intro Is.r ?_
                refine And.intro ?_ ?_
                · refine callP (cp M.x) ?_
                  rintro v hc ⟨⟨b,rfl,q1,q2⟩,e1⟩
                  have M:=M.copy q1 q2 e1
                  repeat refine And.intro Is.r ?_
                  refine And.intro ?_ trivial
                  repeat refine And.intro Is.r ?_
                  refine And.intro ?_ trivial
                  repeat refine And.intro Is.r ?_
                  exact M.leaf ⟨⟨rfl,rfl,rfl,hmv,trivial⟩,⟨rfl,rfl,rfl,trivial⟩,M⟩
                · refine And.intro ?_ trivial
                  repeat refine And.intro Is.r ?_
                  refine And.intro ?_ trivial
                  refine callP (cp M.x) ?_
                  rintro v hc ⟨⟨b,rfl,q1,q2⟩,e1⟩
                  have M:=M.copy q1 q2 e1
                  repeat refine And.intro Is.r ?_
                  refine And.intro ?_ trivial
                  repeat refine And.intro Is.r ?_
                  exact M.leaf ⟨⟨rfl,rfl,rfl,hmv,trivial⟩,⟨rfl,rfl,rfl,trivial⟩,M⟩
              · refine And.intro ?_ trivial
                repeat refine And.intro Is.r ?_
                refine And.intro ?_ ?_
                · refine callP (cp M.x) ?_
                  rintro v hc ⟨⟨b,rfl,q1,q2⟩,e1⟩
                  have M:=M.copy q1 q2 e1
                  repeat refine And.intro Is.r ?_
                  refine And.intro ?_ trivial
                  refine And.intro hmk ?_
                  have M:=M.mkL
                  repeat refine And.intro Is.r ?_
                  refine And.intro ?_ trivial
                  repeat refine And.intro Is.r ?_
                  exact M.leaf ⟨⟨rfl,rfl,rfl,hmv,trivial⟩,⟨rfl,rfl,rfl,trivial⟩,M⟩
                · refine And.intro ?_ trivial
                  refine And.intro hmk ?_
                  have M:=M.mkL
                  repeat refine And.intro Is.r ?_
                  refine And.intro ?_ trivial
                  refine callP (cp M.x) ?_
                  rintro v hc ⟨⟨b,rfl,q1,q2⟩,e1⟩
                  have M:=M.copy q1 q2 e1
                  repeat refine And.intro Is.r ?_
                  refine And.intro ?_ trivial
                  repeat refine And.intro Is.r ?_
                  exact M.leaf ⟨⟨rfl,rfl,rfl,hmv,trivial⟩,⟨rfl,rfl,rfl,trivial⟩,M⟩
          · refine And.intro ?_ trivial
            repeat refine And.intro Is.r ?_
            refine And.intro ?_ ?_
            · refine callP (cp M.x) ?_
              rintro v hc ⟨⟨b,rfl,q1,q2⟩,e1⟩
              have M:=M.copy q1 q2 e1
              repeat refine And.intro Is.r ?_
              refine And.intro ?_ ?_
              · refine And.intro hmk ?_
                have M:=M.mkL
                repeat refine And.intro Is.r ?_
                refine And.intro ?_ trivial
                refine And.intro hmk ?_
                have M:=M.mkF
                repeat refine And.intro Is.r ?_
                refine And.intro ?_ trivial
                repeat refine And.intro Is.r ?_
                exact M.leaf ⟨⟨rfl,rfl,rfl,hmv,trivial⟩,⟨rfl,rfl,rfl,trivial⟩,M⟩
              · refine And.intro ?_ trivial
                refine And.intro hmk ?_
                have M:=M.mkF
                repeat refine And.intro Is.r ?_
                refine And.intro ?_ trivial
                refine And.intro hmk ?_
                have M:=M.mkL
                repeat refine And.intro Is.r ?_
                refine And.intro ?_ trivial
                repeat refine And.intro Is.r ?_
                exact M.leaf ⟨⟨rfl,rfl,rfl,hmv,trivial⟩,⟨rfl,rfl,rfl,trivial⟩,M⟩
            · refine And.intro ?_ ?_
              · refine And.intro hmk ?_
                have M:=M.mkL
                repeat refine And.intro Is.r ?_
                refine And.intro ?_ ?_
                · refine callP (cp M.x) ?_
                  rintro v hc ⟨⟨b,rfl,q1,q2⟩,e1⟩
                  have M:=M.copy q1 q2 e1
                  repeat refine And.intro Is.r ?_
                  refine And.intro ?_ trivial
                  refine And.intro hmk ?_
                  have M:=M.mkF
                  repeat refine And.intro Is.r ?_
                  refine And.intro ?_ trivial
                  repeat refine And.intro Is.r ?_
                  exact M.leaf ⟨⟨rfl,rfl,rfl,hmv,trivial⟩,⟨rfl,rfl,rfl,trivial⟩,M⟩
                · refine And.intro ?_ trivial
                  refine And.intro hmk ?_
                  have M:=M.mkF
                  repeat refine And.intro Is.r ?_
                  refine And.intro ?_ trivial
                  refine callP (cp M.x) ?_
                  rintro v hc ⟨⟨b,rfl,q1,q2⟩,e1⟩
                  have M:=M.copy q1 q2 e1
                  repeat refine And.intro Is.r ?_
                  refine And.intro ?_ trivial
                  repeat refine And.intro Is.r ?_
                  exact M.leaf ⟨⟨rfl,rfl,rfl,hmv,trivial⟩,⟨rfl,rfl,rfl,trivial⟩,M⟩
              · refine And.intro ?_ trivial
                refine And.intro hmk ?_
                have M:=M.mkF
                repeat refine And.intro Is.r ?_
                refine And.intro ?_ ?_
                · refine callP (cp M.x) ?_
                  rintro v hc ⟨⟨b,rfl,q1,q2⟩,e1⟩
                  have M:=M.copy q1 q2 e1
                  repeat refine And.intro Is.r ?_
                  refine And.intro ?_ trivial
                  refine And.intro hmk ?_
                  have M:=M.mkL
                  repeat refine And.intro Is.r ?_
                  refine And.intro ?_ trivial
                  repeat refine And.intro Is.r ?_
                  exact M.leaf ⟨⟨rfl,rfl,rfl,hmv,trivial⟩,⟨rfl,rfl,rfl,trivial⟩,M⟩
                · refine And.intro ?_ trivial
                  refine And.intro hmk ?_
                  have M:=M.mkL
                  repeat refine And.intro Is.r ?_
                  refine And.intro ?_ trivial
                  refine callP (cp M.x) ?_
                  rintro v hc ⟨⟨b,rfl,q1,q2⟩,e1⟩
                  have M:=M.copy q1 q2 e1
                  repeat refine And.intro Is.r ?_
                  refine And.intro ?_ trivial
                  repeat refine And.intro Is.r ?_
                  exact M.leaf ⟨⟨rfl,rfl,rfl,hmv,trivial⟩,⟨rfl,rfl,rfl,trivial⟩,M⟩
    · rintro ⟨b1,b2,b3⟩ h3 M
      simp only at M
      have r0:=M.fin
      have x3:=M.x
      have e13:=e12.trans x3
      have n13:=e12.n
      refine loop (σ:=Nat×List Value) tbOk mtOk ⟨[],[(4,[0,2,4,1,3,5,6,7,8],[0,1,0,4,0,16,63,0,255])]⟩ (fun t=>[(6,.v (.int .i64 (t.1:Int))),(5,.l 2 0),(2,.l 1 0),(1,.l 0 0),(4,.v (.int .i64 (many g)))]) (fun _=>[[.int .i64 g.w,.slice ad g.cs.length fl],[.int .i64 0,.slice none 0 0,.slice none 0 0,.slice none 0 0],[.int .i64 g.w,.slice (some ⟨b1,0,some 1⟩) g.cs.length 1,.slice (some ⟨b2,0,some 0⟩) (many g).toNat 1,.slice (some ⟨b3,0,some 0⟩) (many g).toNat 1]]) (fun t h'=>(t.1:Int)≤many g∧ScO h2.n h' (((List.range t.1).map fun (k:Nat)=>(k:Int)).foldl lookS ⟨g,List.replicate (many g).toNat 0,List.replicate (many g).toNat []⟩) (some (b1,1)) (some (b2,0)) (some (b3,0)) t.2∧Ext h h') (fun t=>(many g).toNat - t.1) 400 (0,List.replicate (many g).toNat (.slice none 0 0)) (fun _=>rfl) ⟨rfl,rfl,rfl,rfl,rfl,trivial⟩ ⟨rfl,rfl,rfl,trivial⟩ ⟨by show ((0:Nat):Int)≤_;omega,r0,e13⟩ (fun t h4 hI again => ?_)
      obtain ⟨i,L⟩:=t
      obtain ⟨i1,r,x4⟩:=hI
      simp only at i1 r
      have hgl:=looks_g ((List.range i).map fun (k:Nat)=>(k:Int)) ⟨g,List.replicate (many g).toNat 0,List.replicate (many g).toNat []⟩
      obtain ⟨hn1',hn2'⟩:=looks_n ((List.range i).map fun (k:Nat)=>(k:Int)) ⟨g,List.replicate (many g).toNat 0,List.replicate (many g).toNat []⟩
      have hn1':_=(many g).toNat:=hn1'.trans (by simp)
      have hn2':_=(many g).toNat:=hn2'.trans (by simp)
      refine cnd (fun c2 => ?_) (fun c2 => ?_)
      · have c2:(i:Int) < many g:=of_decide_eq_true c2
        have hst:((List.range (i+1)).map fun (k:Nat)=>(k:Int)).foldl lookS ⟨g,List.replicate (many g).toNat 0,List.replicate (many g).toNat []⟩=lookS (((List.range i).map fun (k:Nat)=>(k:Int)).foldl lookS ⟨g,List.replicate (many g).toNat 0,List.replicate (many g).toNat []⟩) (i:Int):=by
          rw [List.range_succ,List.map_append,List.foldl_append];rfl
        generalize ((List.range i).map fun (k:Nat)=>(k:Int)).foldl lookS ⟨g,List.replicate (many g).toNat 0,List.replicate (many g).toNat []⟩=S4 at *
        have hgS:S4.g=g:=hgl
        have C:=l13Look_ok (X:=X) (lo:=lo) h2.n S4 i b1 1 b2 0 b3 0 L h4 r (by omega) (by rw [hgS];exact hg) (by rw [hgS];exact c2) (by rw [hgS];exact hn1') (by rw [hgS];exact hn2')
        have hv:scOV S4 (some (b1,1)) (some (b2,0)) (some (b3,0)) = .agg #[.int .i64 g.w,.slice (some ⟨b1,0,some 1⟩) g.cs.length 1,.slice (some ⟨b2,0,some 0⟩) (many g).toNat 1,.slice (some ⟨b3,0,some 0⟩) (many g).toNat 1]:=by
          unfold scOV
          rw [hn1',hn2',hgS];rfl
        rw [hv] at C
        refine callP C ?_
        rintro v h5 ⟨rfl,⟨L5,r5,u5⟩,n5,k5⟩
        have lo2:h2.n≤b2:=r.g2.1
        have lo3:h2.n≤b3:=r.g3.1
        have x4n:=x4.n
        refine again (i+1,L5) _ _ _ (by show (many g).toNat - (i+1) < (many g).toNat - i;omega) ⟨vI (wz (by omega) (by omega)),rfl,rfl,rfl,rfl,trivial⟩ ⟨rfl,rfl,rfl,trivial⟩ ⟨by show ((i+1:Nat):Int)≤_;omega,?_,⟨by omega,fun j hj=>(k5 j (by omega) (by omega) (by omega)).trans (x4.g j hj)⟩⟩
        show ScO h2.n h5 (((List.range (i+1)).map fun (k:Nat)=>(k:Int)).foldl lookS ⟨g,List.replicate (many g).toNat 0,List.replicate (many g).toNat []⟩) _ _ _ _
        rw [hst];exact r5
      · have c2:(i:Int)=many g:=by have:=of_decide_eq_false c2;omega
        have hD:((List.range i).map fun (k:Nat)=>(k:Int)).foldl lookS ⟨g,List.replicate (many g).toNat 0,List.replicate (many g).toNat []⟩=scG g:=by
          refine scG_of hgl hn1' hn2' fun j hj => ?_
          refine looks_in (n:=(many g).toNat) (g:=g) _ _ (fun x hx => ?_) rfl (fun j hj hjn=>absurd (List.mem_map.2 ⟨j,List.mem_range.2 (by omega),rfl⟩) hj) (by simp) (by simp) j hj
          obtain ⟨k,_,rfl⟩:=List.mem_map.1 hx
          omega
        rw [hD] at r
        have hv:scOV (scG g) (some (b1,1)) (some (b2,0)) (some (b3,0)) = .agg #[.int .i64 g.w,.slice (some ⟨b1,0,some 1⟩) g.cs.length 1,.slice (some ⟨b2,0,some 0⟩) (many g).toNat 1,.slice (some ⟨b3,0,some 0⟩) (many g).toNat 1]:=by
          unfold scOV
          rw [(scG_len g).1,(scG_len g).2];rfl
        refine And.intro ⟨_,_,_,_,?_,r.mono n13⟩ x4
        rw [hv];rfl
end Go.Proofs.YtgmkdjjcleobhaaGreat.Id
namespace Go.Proofs.YtgmkdjjcleobhaaGreat.Id
open Go.Id Go.Conc Go.Conc.Lib
open Go.Proofs
set_option linter.unusedVariables false
set_option maxRecDepth 100000
variable {X:Ctx Tryz.prog} {lo:Nat}
theorem l13Same_ok (a b:Option Addr) (fl fl':Nat) (cs ds:List Int) (h:Hp) (hs:Sls h inE 1 a cs) (hs':Sls h inE 1 b ds) (hn:cs.length≤1048576):Tri X lo 83 [.slice a cs.length fl,.slice b ds.length fl'] h fun v h'=>v = .bool (decide (cs=ds))∧h'=h:=by
  refine enter tbOk mtOk ⟨[],[(6,[0,1,2,3,4,5,6,7,8],[0,0,3,7,0,0,48,112,255])]⟩ 400 Tryz.func83 rfl rfl rfl fun hlo => ?_
  refine cnd (fun c1 => ?_) (fun c1 => ?_)
  · have c1:cs.length≠ds.length:=by simp at c1;omega
    exact And.intro (by rw [decide_eq_false (fun e=>c1 (congrArg List.length e))]) rfl
  · have c1:cs.length=ds.length:=by simp at c1;omega
    refine loop (σ:=Nat) tbOk mtOk ⟨[],[(6,[0,1,2,3,4,5,6,7,8],[0,0,3,7,0,0,48,112,255])]⟩ (fun i=>[(5,.v (.int .i64 (i:Int))),(0,.v (.slice a cs.length fl)),(1,.v (.slice b ds.length fl'))]) (fun _=>[]) (fun i h'=>i≤cs.length∧h'=h∧cs.take i=ds.take i) (fun i=>cs.length - i) 400 0 (fun _=>rfl) ⟨rfl,rfl,rfl,trivial⟩ trivial ⟨Nat.zero_le _,rfl,rfl⟩ (fun i h' hI again => ?_)
    obtain ⟨i1,rfl,i3⟩:=hI
    refine cnd (fun c2 => ?_) (fun c2 => ?_)
    · have c2:i < cs.length:=by simpa using c2
      have c2':i < ds.length:=by omega
      obtain ⟨a,rfl⟩:=hs.some c2
      obtain ⟨b,rfl⟩:=hs'.some c2'
      refine And.intro (by kernel_rfl) ?_
      refine And.intro ⟨by omega,by omega⟩ ?_
      refine ⟨_,hs.ld (fun _=>rfl) c2,?_⟩
      refine And.intro ⟨by omega,by omega⟩ ?_
      refine ⟨_,hs'.ld (fun _=>rfl) c2',?_⟩
      refine cnd (fun c3 => ?_) (fun c3 => ?_)
      · have c3:cs[i]≠ds[i]:=by simpa using c3
        refine And.intro ?_ rfl
        rw [decide_eq_false (fun e=>c3 (by subst e;rfl))]
      · have c3:cs[i]=ds[i]:=by simpa using c3
        exact again (i+1) _ _ _ (by omega) ⟨vI (wz (by omega) (by omega)),rfl,rfl,trivial⟩ trivial ⟨by omega,rfl,take_eq c2 c2' i3 c3⟩
    · have c2:cs.length=i:=by simp at c2;omega
      refine And.intro ?_ rfl
      rw [← c2,List.take_length,c1,List.take_length] at i3
      rw [i3];simp
theorem newS_B {g:Gd}:ScB (newS g):=by
  unfold newS
  split
  · exact scG_B (by assumption)
  · exact ⟨by simp [sc0],by simp [sc0],by simp [sc0],fun l hl=>by simp [sc0] at hl⟩
theorem sSceneOk_ok (s:Sc) (ga la fa:Option Addr) (gf lf ff:Nat) (L:List Value) (h:Hp) (hs:ScR h s ga la fa L) (hb:ScB s):Tri X lo 33 [scV s ga la fa gf lf ff] h fun v h'=>v = .bool (scOk s)∧Ext h h':=by
  refine enter tbOk mtOk ⟨[],[(7,[0,1,2,3,4,5,6,7,8,9,10,11],[0,1,0,7,15,0,32,0,224,480,1023,2047])]⟩ 400 Tryz.func33 rfl rfl rfl fun hlo => ?_
  have hn2:(s.g.cs.length:Int) < 2 ^ 31:=by have:=hb.g;omega
  have hbf:=hb.ft
  refine callP (sSceneNew_ok s.g ga gf h hs.g hn2) ?_
  rintro v h1 ⟨⟨o1,o2,o3,L1,rfl,r⟩,e1⟩
  obtain ⟨xg,xl,xf,xgf,xlf,xff,z,r'⟩:=r.read
  rw [z]
  have nB:=newS_B (g:=s.g)
  refine cnd (fun c1 => ?_) (fun c1 => ?_)
  · have hg:gOk s.g=false:=by simpa using c1
    have hk:scOk s=false:=by unfold scOk;rw [hg];rfl
    rw [hk]
    refine cndT ?_
    refine cndT ?_
    exact And.intro rfl e1
  · have hg:gOk s.g=true:=by simpa using c1
    have hN:newS s.g=scG s.g:=by unfold newS;rw [hg];rfl
    rw [hN] at r' nB ⊢
    have hno:s≠scG s.g→scOk s=false:=fun q=>by unfold scOk;rw [hg,decide_eq_false q];rfl
    refine callP (l13Same_ok xl la xlf lf (scG s.g).li s.li h1 r'.li (hs.li.ext e1) nB.li) ?_
    rintro v h2 ⟨rfl,rfl⟩
    refine cnd (fun c2 => ?_) (fun c2 => ?_)
    · have c2:(scG s.g).li≠s.li:=by simpa using c2
      refine cndT ?_
      refine And.intro ?_ e1
      rw [hno fun e=>c2 (by rw [← e])]
    · have c2:(scG s.g).li=s.li:=by simpa using c2
      refine cnd (fun c3 => ?_) (fun c3 => ?_)
      · have c3:(scG s.g).ft.length≠s.ft.length:=by simp at c3;omega
        refine And.intro ?_ e1
        rw [hno fun e=>c3 (by rw [← e])]
      · have c3:(scG s.g).ft.length=s.ft.length:=by simp at c3;omega
        refine loop (σ:=Nat) tbOk mtOk ⟨[],[(7,[0,1,2,3,4,5,6,7,8,9,10,11],[0,1,0,7,15,0,32,0,224,480,1023,2047])]⟩ (fun i=>[(5,.v (.int .i64 (i:Int))),(3,.l 1 0),(1,.l 0 0)]) (fun _=>[[.int .i64 s.g.w,.slice ga s.g.cs.length gf,.slice la s.li.length lf,.slice fa s.ft.length ff],[.int .i64 (scG s.g).g.w,.slice xg (scG s.g).g.cs.length xgf,.slice xl (scG s.g).li.length xlf,.slice xf (scG s.g).ft.length xff]]) (fun i h'=>i≤s.ft.length∧h'=h2∧s.ft.take i=(scG s.g).ft.take i) (fun i=>s.ft.length - i) 400 0 (fun _=>rfl) ⟨rfl,rfl,rfl,trivial⟩ ⟨rfl,rfl,trivial⟩ ⟨Nat.zero_le _,rfl,rfl⟩ (fun i h' hI again => ?_)
        obtain ⟨i1,rfl,i3⟩:=hI
        refine cnd (fun c4 => ?_) (fun c4 => ?_)
        · have c4:i < s.ft.length:=by simpa using c4
          have c4':i < (scG s.g).ft.length:=by omega
          obtain ⟨ad,ya,yf,rfl,ys,yl⟩:=(hs.ft.ext e1).get c4
          obtain ⟨ad',za,zf,rfl,zs,zl⟩:=r'.ft.get c4'
          refine And.intro (by kernel_rfl) ?_
          refine And.intro ⟨by omega,by omega⟩ ?_
          refine ⟨_,zl _ (Ext.refl _),?_⟩
          refine And.intro ⟨by omega,by omega⟩ ?_
          refine ⟨_,yl _ (Ext.refl _),?_⟩
          refine callP (l13Same_ok za ya zf yf (scG s.g).ft[i] s.ft[i] h' zs ys (nB.el _ (List.getElem_mem c4'))) ?_
          rintro v h3 ⟨rfl,rfl⟩
          refine cnd (fun c5 => ?_) (fun c5 => ?_)
          · have c5:(scG s.g).ft[i]≠s.ft[i]:=by simpa using c5
            refine And.intro ?_ e1
            rw [hno fun e=>c5 (by generalize hgg:scG s.g=G at *;subst e;rfl)]
          · have c5:(scG s.g).ft[i]=s.ft[i]:=by simpa using c5
            exact again (i+1) _ _ _ (by omega) ⟨vI (wz (by omega) (by omega)),rfl,rfl,trivial⟩ ⟨rfl,rfl,trivial⟩ ⟨by omega,rfl,take_eq c4 c4' i3 c5.symm⟩
        · have c4:s.ft.length=i:=by simp at c4;omega
          rw [← c4,List.take_length,← c3,List.take_length] at i3
          refine And.intro ?_ e1
          have:s=scG s.g:=Sc.ext' rfl c2.symm i3
          rw [scOk_iff.2 ⟨hg,this⟩]
theorem l13Has_ok (l:List Int) (a:Option Addr) (fl:Nat) (n:Int) (h:Hp) (hs:Sls h inE 1 a l) (hn:l.length≤1048576):Tri X lo 131 [.slice a l.length fl,.int .i64 n] h fun v h'=>v = .bool (decide (n∈l))∧h'=h:=by
  refine enter tbOk mtOk ⟨[],[]⟩ 400 Tryz.func131 rfl rfl rfl fun hlo => ?_
  refine loop (σ:=Nat) tbOk mtOk ⟨[],[]⟩ (fun i=>[(5,.v (.int .i64 (i:Int))),(0,.v (.slice a l.length fl)),(1,.v (.int .i64 n))]) (fun _=>[]) (fun i h'=>i≤l.length∧h'=h∧n∉l.take i) (fun i=>l.length - i) 400 0 (fun _=>rfl) ⟨rfl,rfl,rfl,trivial⟩ trivial ⟨Nat.zero_le _,rfl,by simp⟩ (fun i h' hI again => ?_)
  obtain ⟨i1,rfl,i3⟩:=hI
  refine cnd (fun c2 => ?_) (fun c2 => ?_)
  · have c2:i < l.length:=by simpa using c2
    obtain ⟨a,rfl⟩:=hs.some c2
    refine And.intro ⟨by omega,by omega⟩ ?_
    refine ⟨_,hs.ld (fun _=>rfl) c2,?_⟩
    refine cnd (fun c3 => ?_) (fun c3 => ?_)
    · have c3:l[i]=n:=by simpa using c3
      refine And.intro ?_ rfl
      rw [decide_eq_true (by rw [← c3];exact List.getElem_mem c2)]
    · have c3:l[i]≠n:=by simpa using c3
      refine again (i+1) _ _ _ (by omega) ⟨vI (wz (by omega) (by omega)),rfl,rfl,trivial⟩ trivial ⟨by omega,rfl,fun q => ?_⟩
      rw [List.take_succ_eq_append_getElem c2] at q
      rcases List.mem_append.1 q with q | q
      · exact i3 q
      · exact c3 (List.mem_singleton.1 q).symm
  · have c2:l.length=i:=by simp at c2;omega
    refine And.intro ?_ rfl
    rw [← c2,List.take_length] at i3
    rw [decide_eq_false i3]
theorem touchN_step (s:Sc) (i:Nat) (a:Int):touchN s (i+1) a=touchN s i a++(if sees s a i=true then [(i:Int)] else []):=by
  unfold touchN
  rw [List.range_succ,List.filter_append,List.map_append]
  congr 1
  by_cases c:sees s a i=true
  · rw [if_pos c];simp only [List.filter_cons,c,if_true,List.filter_nil,List.map_cons,List.map_nil]
  · rw [if_neg c];simp only [List.filter_cons,c,List.filter_nil];rfl
theorem l13Touch_ok (s:Sc) (n:Int) (ga la fa:Option Addr) (gf lf ff:Nat) (L:List Value) (h:Hp) (hs:ScR h s ga la fa L) (hb:ScB s):Tri X lo 82 [scV s ga la fa gf lf ff,.int .i64 n] h fun v h'=>(∃ b e,v = .slice (some ⟨b,0,some e⟩) (touchS s n).length 1∧h.n≤b∧Row h' b e inE 1 (touchS s n))∧Ext h h':=by
  refine enter tbOk mtOk ⟨[],[]⟩ 400 Tryz.func82 rfl rfl rfl fun hlo => ?_
  have hbf:=hb.ft
  refine loop (σ:=Nat×Nat) tbOk mtOk ⟨[],[]⟩ (fun t=>[(6,.v (.int .i64 (t.1:Int))),(5,.v (.slice (some ⟨h.n,0,some t.2⟩) (touchN s t.1 n).length 1)),(1,.v (.int .i64 n)),(2,.l 0 0)]) (fun _=>[[.int .i64 s.g.w,.slice ga s.g.cs.length gf,.slice la s.li.length lf,.slice fa s.ft.length ff]]) (fun t h'=>t.1≤s.ft.length∧Ext h h'∧Row h' h.n t.2 inE 1 (touchN s t.1 n)) (fun t=>s.ft.length - t.1) 400 (0,0) (fun _=>rfl) ⟨rfl,rfl,rfl,rfl,trivial⟩ ⟨rfl,trivial⟩ ⟨Nat.zero_le _,Ext.push _ _,by show Row (h.push (.cells (([]:List Int).flatMap inE) 1 0)) h.n 0 inE 1 [];exact Row.push⟩ (fun t h1 hI again => ?_)
  obtain ⟨i,e⟩:=t
  obtain ⟨i1,x1,r1⟩:=hI
  simp only at i1 r1
  refine cnd (fun c1 => ?_) (fun c1 => ?_)
  · have c1:i < s.ft.length:=by simpa using c1
    obtain ⟨ad,ya,yf,rfl,ys,yl⟩:=hs.ft.get c1
    have hli:=hb.el _ (List.getElem_mem c1)
    have hst:=touchN_step s i n
    have hsl:=touchN_len s i n
    have hsee:sees s n i=decide (n∈s.ft[i]):=by unfold sees;rw [List.getD_eq_getElem?_getD,List.getElem?_eq_getElem c1];rfl
    refine And.intro ⟨by omega,by omega⟩ ?_
    refine ⟨_,yl _ x1,?_⟩
    refine callP (l13Has_ok s.ft[i] ya yf n h1 (ys.ext x1) hli) ?_
    rintro v h2 ⟨rfl,rfl⟩
    refine cnd (fun c2 => ?_) (fun c2 => ?_)
    · rw [hsee,c2,if_pos rfl] at hst
      have e4:Ext h2 (h2.push (.cells (inE (i:Int)) 1 0)):=Ext.push _ _
      have ap:=(r1.ext e4).app (m:=[(i:Int)]) (lo:=lo) (fun _=>rfl) (by decide) (by omega) (by unfold Id.maxLen;simp;omega)
      refine ⟨inE (i:Int),one_cells rfl,_,_,ap,?_⟩
      refine again (i+1,e+1) _ _ _ (by show s.ft.length - (i+1) < s.ft.length - i;omega) ⟨vI (wz (by omega) (by omega)),?_,rfl,rfl,trivial⟩ ⟨rfl,trivial⟩ ⟨by show i+1≤_;omega,(x1.trans e4).set (Nat.le_refl _) _,?_⟩
      · show _=some (Sl.v (.slice _ (touchN s (i+1) n).length 1))
        rw [hst,List.length_append];rfl
      · show Row _ h.n (e+1) inE 1 (touchN s (i+1) n)
        rw [hst];exact Row.set (r1.ext e4).lt
    · rw [hsee,c2,if_neg (by decide),List.append_nil] at hst
      refine again (i+1,e) _ _ _ (by show s.ft.length - (i+1) < s.ft.length - i;omega) ⟨vI (wz (by omega) (by omega)),?_,rfl,rfl,trivial⟩ ⟨rfl,trivial⟩ ⟨by show i+1≤_;omega,x1,?_⟩
      · show _=some (Sl.v (.slice _ (touchN s (i+1) n).length 1))
        rw [hst];rfl
      · show Row _ h.n e inE 1 (touchN s (i+1) n)
        rw [hst];exact r1
  · have c1:s.ft.length=i:=by simp at c1;omega
    subst c1
    exact And.intro ⟨h.n,e,rfl,Nat.le_refl _,r1⟩ x1
theorem sSceneTouch_ok (s:Sc) (n:Int) (ga la fa:Option Addr) (gf lf ff:Nat) (L:List Value) (h:Hp) (hs:ScR h s ga la fa L) (hb:ScB s):Tri X lo 32 [scV s ga la fa gf lf ff,.int .i64 n] h fun v h'=>(∃ b e,v = .slice (some ⟨b,0,some e⟩) (touchO s n).length 1∧h.n≤b∧Row h' b e inE 1 (touchO s n))∧Ext h h':=by
  refine enter tbOk mtOk ⟨[],[]⟩ 400 Tryz.func32 rfl rfl rfl fun hlo => ?_
  refine callP (sSceneOk_ok s ga la fa gf lf ff L h hs hb) ?_
  rintro v h1 ⟨rfl,e1⟩
  refine cnd (fun c1 => ?_) (fun c1 => ?_)
  · have hk:scOk s=false:=by simpa using c1
    unfold touchO
    rw [hk]
    exact ⟨⟨h1.n,0,rfl,e1.n,Row.push (l:=([]:List Int))⟩,e1.trans (Ext.push _ _)⟩
  · have hk:scOk s=true:=by simpa using c1
    unfold touchO
    rw [hk]
    refine callP (l13Touch_ok s n ga la fa gf lf ff L h1 (hs.ext e1) hb) ?_
    rintro v h2 ⟨⟨b,e,rfl,q1,q2⟩,e2⟩
    have:=e1.n
    exact ⟨⟨b,e,rfl,by omega,q2⟩,e1.trans e2⟩
end Go.Proofs.YtgmkdjjcleobhaaGreat.Id
namespace Go.Proofs.YtgmkdjjcleobhaaGreat.Id
open Go.Id Go.Conc Go.Conc.Lib
open Go.Proofs
set_option linter.unusedVariables false
set_option maxRecDepth 100000
variable {X:Ctx Tryz.prog} {lo:Nat}
structure Mc (h0 h:Hp) (s:Sc) (o e l:Option Nat):Prop where
  x:Ext h0 h
  rc:∀ b,o=some b→h0.n≤b∧Row h b 1 cE 2 s.g.cs
  re:∀ b,e=some b→h0.n≤b∧Row h b 0 inE 1 []
  rl:∀ b,l=some b→h0.n≤b∧Row h b 1 inE 1 s.li
  a1:∀ b,o=some b→e≠some b
  a2:∀ b,o=some b→l≠some b
section
variable {h0 h h1:Hp} {s:Sc} {o e l:Option Nat}
end
end Go.Proofs.YtgmkdjjcleobhaaGreat.Id
namespace Go.Proofs.YtgmkdjjcleobhaaGreat.Id
open Go.Id Go.Conc Go.Conc.Lib
open Go.Proofs
set_option linter.unusedVariables false
set_option maxRecDepth 100000
variable {X:Ctx Tryz.prog} {lo:Nat}
end Go.Proofs.YtgmkdjjcleobhaaGreat.Id
namespace Go.Proofs.YtgmkdjjcleobhaaGreat.Id
open Go.Id Go.Conc Go.Conc.Lib
open Go.Proofs
set_option linter.unusedVariables false
set_option maxRecDepth 100000
variable {X:Ctx Tryz.prog} {lo:Nat}
end Go.Proofs.YtgmkdjjcleobhaaGreat.Id
namespace Go.Proofs.YtgmkdjjcleobhaaGreat.Id
open Go.Id
open Go.Proofs
set_option linter.unusedVariables false
set_option maxRecDepth 100000
variable {X:Ctx Tryz.prog} {lo:Nat}
theorem llInts_ok (a b:Option Addr) (fl fl':Nat) (cs ds:List Int) (h:Hp) (hs:Sls h iE 1 a cs) (hs':Sls h iE 1 b ds) (hn:cs.length≤1048576):Tri X lo 14 [.slice a cs.length fl,.slice b ds.length fl'] h fun v h'=>v = .bool (decide (cs=ds))∧h'=h:=by
  refine enter tbOk mtOk ⟨[],[(6,[0,1,2,3,4,5,6,7,8],[0,0,3,7,0,0,48,112,255])]⟩ 400 Tryz.func14 rfl rfl rfl fun hlo => ?_
  refine cnd (fun c1 => ?_) (fun c1 => ?_)
  · have c1:cs.length≠ds.length:=by simp at c1;omega
    exact And.intro (by rw [decide_eq_false (fun e=>c1 (congrArg List.length e))]) rfl
  · have c1:cs.length=ds.length:=by simp at c1;omega
    refine loop (σ:=Nat) tbOk mtOk ⟨[],[(6,[0,1,2,3,4,5,6,7,8],[0,0,3,7,0,0,48,112,255])]⟩ (fun i=>[(5,.v (.int .i64 (i:Int))),(0,.v (.slice a cs.length fl)),(1,.v (.slice b ds.length fl'))]) (fun _=>[]) (fun i h'=>i≤cs.length∧h'=h∧cs.take i=ds.take i) (fun i=>cs.length - i) 400 0 (fun _=>rfl) ⟨rfl,rfl,rfl,trivial⟩ trivial ⟨Nat.zero_le _,rfl,rfl⟩ (fun i h' hI again => ?_)
    obtain ⟨i1,rfl,i3⟩:=hI
    refine cnd (fun c2 => ?_) (fun c2 => ?_)
    · have c2:i < cs.length:=by simpa using c2
      have c2':i < ds.length:=by omega
      obtain ⟨a,rfl⟩:=hs.some c2
      obtain ⟨b,rfl⟩:=hs'.some c2'
      refine And.intro (by kernel_rfl) ?_
      refine And.intro ⟨by omega,by omega⟩ ?_
      refine ⟨_,hs.ld (fun _=>rfl) c2,?_⟩
      refine And.intro ⟨by omega,by omega⟩ ?_
      refine ⟨_,hs'.ld (fun _=>rfl) c2',?_⟩
      refine cnd (fun c3 => ?_) (fun c3 => ?_)
      · have c3:cs[i]≠ds[i]:=by simpa using c3
        refine And.intro ?_ rfl
        rw [decide_eq_false (fun e=>c3 (by subst e;rfl))]
      · have c3:cs[i]=ds[i]:=by simpa using c3
        refine again (i+1) _ _ _ (by omega) ⟨?_,rfl,rfl,trivial⟩ trivial ⟨by omega,rfl,take_eq c2 c2' i3 c3⟩
        show some (Sl.v (.int .i64 (IntKind.i64.wrap ((i:Int)+1))))=_
        rw [wr (by omega) (by omega)];rfl
    · have c2:cs.length=i:=by simp at c2;omega
      refine And.intro ?_ rfl
      rw [← c2,List.take_length,c1,List.take_length] at i3
      rw [i3];simp
instance:DecidableEq Gd:=fun a b=>if h:a.w=b.w∧a.cs=b.cs then isTrue (by cases a;cases b;simp only at h;rw [h.1,h.2]) else isFalse fun e=>h (by subst e;exact ⟨rfl,rfl⟩)
end Go.Proofs.YtgmkdjjcleobhaaGreat.Id
namespace Go.Proofs.YtgmkdjjcleobhaaGreat.Id
open Go.Id
open Go.Proofs
set_option linter.unusedVariables false
set_option maxRecDepth 100000
variable {X:Ctx Tryz.prog} {lo:Nat}
def uE (x:Nat):List Value:=[.int .u8 x]
structure Rd (lo:Nat) (h:Hp) (rb:Nat) (p:Int):Prop where
  ex:∃ (a:Option Addr) (fl:Nat) (bs:List Nat),Bx h rb [.slice a bs.length fl,.int .i64 p]∧Sls h uE 1 a bs∧bs.length≤2000∧(∀ b∈bs,b < 256)∧∀ ad,a=some ad→ad.block < rb
  lo:lo≤rb
  p:0≤p∧p≤1000000000
theorem Rd.ext {h h':Hp} {rb:Nat} {p:Int} (r:Rd lo h rb p) (e:Ext h h'):Rd lo h' rb p:=by
  obtain ⟨a,fl,bs,h1,h2,h3⟩:=r.ex
  exact ⟨⟨a,fl,bs,h1.ext e,h2.ext e,h3⟩,r.lo,r.p⟩
theorem Rd.keep {h h':Hp} {rb:Nat} {p:Int} (r:Rd lo h rb p) (hn:h.n≤h'.n) (hg:∀ i,i≤rb→h'.g i=h.g i):Rd lo h' rb p:=by
  obtain ⟨a,fl,bs,h1,h2,h3,h4,h5⟩:=r.ex
  refine ⟨⟨a,fl,bs,⟨Nat.lt_of_lt_of_le h1.lt hn,(hg _ (Nat.le_refl _)).trans h1.g⟩,?_,h3,h4,h5⟩,r.lo,r.p⟩
  cases a with
  | none=>exact h2
  | some ad=>exact ⟨Nat.lt_of_lt_of_le h2.1 hn,by rw [hg _ (Nat.le_of_lt (h5 ad rfl))];exact h2.2⟩
theorem sls_x1 {α:Type} {j:Nat} {h h':Hp} (x:Ext1 j h h') {e:α→List Value} {sz:Nat} {a:Option Addr} {l:List α} (s:Sls h e sz a l) (hj:∀ ad,a=some ad→ad.block≠j):Sls h' e sz a l:=by
  cases a with
  | none=>exact s
  | some ad=>exact ⟨Nat.lt_of_lt_of_le s.1 x.n,by rw [x.g _ s.1 (hj ad rfl)];exact s.2⟩
theorem xor_ok {x y:Int} (hx:0≤x∧x < 2 ^ 40) (hy:0≤y∧y < 2 ^ 40):0≤IntKind.i64.wrap ((BitVec.ofInt IntKind.i64.bits x ^^^ BitVec.ofInt IntKind.i64.bits y).toNat:Int):=by
  have e:∀ z:Int,0≤z∧z < 2 ^ 40→(BitVec.ofInt 64 z).toNat < 2 ^ 40:=fun z hz=>by
    rw [BitVec.toNat_ofInt];omega
  have:(BitVec.ofInt 64 x ^^^ BitVec.ofInt 64 y).toNat < 2 ^ 40:=by
    rw [BitVec.toNat_xor];exact Nat.xor_lt_two_pow (e x hx) (e y hy)
  show 0≤IntKind.i64.wrap ((BitVec.ofInt 64 x ^^^ BitVec.ofInt 64 y).toNat:Int)
  rw [wr (by omega) (by omega)];omega
theorem pick_ok (rb:Nat) (p n:Int) (h:Hp) (r:Rd lo h rb p) (hn:n≤1000000) (hp:p+1≤1000000000):Tri X lo 103 [.pointer (some ⟨rb,0,none⟩),.int .i64 n] h fun v h'=>∃ q:Int,v = .int .i64 q∧0≤q∧(1≤n→q < n)∧(n < 1→q=0)∧Rd lo h' rb (p+1)∧Ext1 rb h h':=by
  refine enter tbOk mtOk ⟨[],[(7,[0,1,2,3,4,5,6,7,8,9,10,11,12,13,14,15,16,17,18,19,20,21,22,23,24,25,26,27,28,29,30,31,32,33,34,35,36,37,38,39,40,41,42,43,44,45],[0,1,3,7,0,0,32,96,224,480,1008,2047,4095,8191,16383,0,32768,98304,229376,0,524288,1572864,0,4194304,12582912,29360128,62914560,133693440,268402688,536838144,1073709056,2147450880,4294967295,0,8589934592,34359738367,0,0,137438953472,412316860416,962072674304,2061584302080,4329327034368,8727373545472,17592186044415,35184372088831])]⟩ 400 Tryz.func103 rfl rfl rfl fun hlo => ?_
  obtain ⟨a,fl,bs,h1,h2,h3,h4,h5⟩:=r.ex
  have hp0:=r.p
  have w1:IntKind.i64.wrap (p+1)=p+1:=wr (by omega) (by omega)
  refine ⟨_,h1.ldF (i:=1) rfl,?_⟩
  refine ⟨_,h1.stF (i:=1) r.lo (Nat.le_of_ble_eq_true rfl),?_⟩
  have hb2:Bx (h.set rb (.cells [.slice a bs.length fl,.int .i64 (IntKind.i64.wrap (p+1))] 0 0)) rb [.slice a bs.length fl,.int .i64 (IntKind.i64.wrap (p+1))]:=h1.set
  have x1:Ext1 rb h (h.set rb (.cells [.slice a bs.length fl,.int .i64 (IntKind.i64.wrap (p+1))] 0 0)):=((Ext.refl h).one rb).set _ (.inl rfl)
  have s2:Sls (h.set rb (.cells [.slice a bs.length fl,.int .i64 (IntKind.i64.wrap (p+1))] 0 0)) uE 1 a bs:=sls_x1 x1 h2 (fun ad e=>Nat.ne_of_lt (h5 ad e))
  have rd2:Rd lo (h.set rb (.cells [.slice a bs.length fl,.int .i64 (IntKind.i64.wrap (p+1))] 0 0)) rb (p+1):=⟨⟨a,fl,bs,by have hb2':=hb2;rw [w1] at hb2' ⊢;exact hb2',s2,h3,h4,h5⟩,r.lo,by omega⟩
  refine cnd (fun c1 => ?_) (fun c1 => ?_)
  · refine cndT ?_
    have c1:n < 1:=of_decide_eq_true c1
    exact ⟨0,rfl,Int.le_refl 0,fun h=>by omega,fun _=>rfl,rd2,x1⟩
  · have c1:¬ n < 1:=of_decide_eq_false c1
    refine ⟨_,hb2.ldF (i:=0) rfl,?_⟩
    refine cnd (fun c2 => ?_) (fun c2 => ?_)
    · exact ⟨0,rfl,Int.le_refl 0,fun h=>by omega,fun _=>rfl,rd2,x1⟩
    · have c2:bs.length≠0:=by simpa using c2
      have w2:IntKind.i64.wrap (IntKind.i64.wrap (p+1) - 1)=p:=by rw [w1,wr (by omega) (by omega)];omega
      refine ⟨_,hb2.ldF (i:=1) rfl,?_⟩
      refine ⟨_,hb2.ldF (i:=0) rfl,?_⟩
      have by':∀ {j:Nat} (hj:j < bs.length),bs[j] < 256:=fun hj=>h4 _ (List.getElem_mem hj)
      refine cnd (fun c3 => ?_) (fun c3 => ?_)
      · rw [w2] at c3
        have c3:p < bs.length:=of_decide_eq_true c3
        refine ⟨_,hb2.ldF (i:=0) rfl,?_⟩
        have hj:p.toNat < bs.length:=by omega
        obtain ⟨a,rfl⟩:=s2.some hj
        refine And.intro ⟨by rw [w2];omega,by rw [w2];exact c3⟩ ?_
        have ldb:Ld (h.set rb (.cells [.slice (some a) bs.length fl,.int .i64 (IntKind.i64.wrap (p+1))] 0 0)) (addA a ((IntKind.i64.wrap (IntKind.i64.wrap (p+1) - 1)).toNat*1)) 1 [.int .u8 (bs[p.toNat]:Nat)]:=by
          rw [w2];exact s2.ld (fun _=>rfl) hj
        refine ⟨_,ldb,?_⟩
        have hb8:=by' hj
        have w3:IntKind.i64.wrap ((bs[p.toNat]:Nat):Int)=(bs[p.toNat]:Nat):=wr (by omega) (by omega)
        refine And.intro (by omega) ?_
        refine ⟨_,rfl,?_,fun hn1 => ?_,fun h=>by omega,rd2,x1⟩
        · rw [w3,Int.tmod_eq_emod_of_nonneg (by omega)];exact Int.emod_nonneg _ (by omega)
        · rw [w3,Int.tmod_eq_emod_of_nonneg (by omega)];exact Int.emod_lt_of_pos _ (by omega)
      · rw [w2] at c3
        have c3:¬ p < bs.length:=of_decide_eq_false c3
        have hj:0 < bs.length:=by omega
        obtain ⟨a,rfl⟩:=s2.some hj
        have ldi:∀ (x:Int),(0≤x∧x < bs.length)→∃ b:Nat,b < 256∧Ld (h.set rb (.cells [.slice (some a) bs.length fl,.int .i64 (IntKind.i64.wrap (p+1))] 0 0)) (addA a (x.toNat*1)) 1 [.int .u8 (b:Nat)]:=fun x hx=>⟨bs[x.toNat]'(by omega),by' _,s2.ld (fun _=>rfl) (by omega)⟩
        have ln0:(bs.length:Int)≠0:=by omega
        have md:∀ y:Int,0≤y→0≤y.tmod bs.length∧y.tmod bs.length < bs.length:=fun y hy=>by
          rw [Int.tmod_eq_emod_of_nonneg hy]
          exact ⟨Int.emod_nonneg _ ln0,Int.emod_lt_of_pos _ (by omega)⟩
        have w7:IntKind.i64.wrap (IntKind.i64.wrap (IntKind.i64.wrap (IntKind.i64.wrap (p+1) - 1)*7)+3)=p*7+3:=by rw [w2,wr (n:=p*7) (by omega) (by omega),wr (by omega) (by omega)]
        refine And.intro (by kernel_rfl) ?_
        refine ⟨_,hb2.ldF (i:=0) rfl,?_⟩
        refine ⟨_,hb2.ldF (i:=0) rfl,?_⟩
        refine And.intro ln0 ?_
        refine And.intro (by rw [w2];exact md p hp0.1) ?_
        obtain ⟨b1,l1,d1⟩:=ldi ((IntKind.i64.wrap (IntKind.i64.wrap (p+1) - 1)).tmod bs.length) (by rw [w2];exact md p hp0.1)
        refine ⟨_,d1,?_⟩
        refine ⟨_,hb2.ldF (i:=0) rfl,?_⟩
        refine ⟨_,hb2.ldF (i:=0) rfl,?_⟩
        refine And.intro ln0 ?_
        refine And.intro (by rw [w7];exact md _ (by omega)) ?_
        obtain ⟨b2,l2,d2⟩:=ldi ((IntKind.i64.wrap (IntKind.i64.wrap (IntKind.i64.wrap (IntKind.i64.wrap (p+1) - 1)*7)+3)).tmod bs.length) (by rw [w7];exact md _ (by omega))
        refine ⟨_,d2,?_⟩
        refine ⟨_,hb2.ldF (i:=0) rfl,?_⟩
        refine And.intro ln0 ?_
        refine And.intro (by decide) ?_
        refine And.intro (by omega) ?_
        have hq:0≤p.tdiv bs.length∧p.tdiv bs.length≤p:=by
          rw [Int.tdiv_eq_ediv_of_nonneg hp0.1]
          exact ⟨Int.ediv_nonneg hp0.1 (by omega),Int.ediv_le_self _ hp0.1⟩
        have hE:0≤IntKind.i64.wrap (IntKind.i64.wrap (IntKind.i64.wrap (IntKind.i64.wrap (IntKind.i64.wrap (b1:Int)*131)+IntKind.i64.wrap (IntKind.i64.wrap (b2:Int)*1117))+IntKind.i64.wrap (IntKind.i64.wrap (IntKind.i64.wrap (p+1) - 1)*29))+IntKind.i64.wrap (IntKind.i64.wrap ((IntKind.i64.wrap (IntKind.i64.wrap (p+1) - 1)).tdiv bs.length)*53)) ∧
            IntKind.i64.wrap (IntKind.i64.wrap (IntKind.i64.wrap (IntKind.i64.wrap (IntKind.i64.wrap (b1:Int)*131)+IntKind.i64.wrap (IntKind.i64.wrap (b2:Int)*1117))+IntKind.i64.wrap (IntKind.i64.wrap (IntKind.i64.wrap (p+1) - 1)*29))+IntKind.i64.wrap (IntKind.i64.wrap ((IntKind.i64.wrap (IntKind.i64.wrap (p+1) - 1)).tdiv bs.length)*53)) < 2 ^ 40:=by
          rw [w2]
          generalize p.tdiv bs.length=q at hq ⊢
          rw [wr (n:=(b1:Int)) (by omega) (by omega),wr (n:=(b2:Int)) (by omega) (by omega),wr (n:=q) (by omega) (by omega),wr (n:=(b1:Int)*131) (by omega) (by omega),wr (n:=(b2:Int)*1117) (by omega) (by omega),wr (n:=p*29) (by omega) (by omega),wr (n:=q*53) (by omega) (by omega),wr (n:=(b1:Int)*131+(b2:Int)*1117) (by omega) (by omega),wr (n:=(b1:Int)*131+(b2:Int)*1117+p*29) (by omega) (by omega),wr (by omega) (by omega)]
          omega
        generalize hEE:IntKind.i64.wrap (IntKind.i64.wrap (IntKind.i64.wrap (IntKind.i64.wrap (IntKind.i64.wrap (b1:Int)*131)+IntKind.i64.wrap (IntKind.i64.wrap (b2:Int)*1117))+IntKind.i64.wrap (IntKind.i64.wrap (IntKind.i64.wrap (p+1) - 1)*29))+IntKind.i64.wrap (IntKind.i64.wrap ((IntKind.i64.wrap (IntKind.i64.wrap (p+1) - 1)).tdiv bs.length)*53))=E at hE
        have hX:0≤IntKind.i64.wrap ((BitVec.ofInt IntKind.i64.bits E ^^^ BitVec.ofInt IntKind.i64.bits (IntKind.i64.wrap (E.tdiv 64))).toNat:Int):=by
          have hd:IntKind.i64.wrap (E.tdiv 64)=E / 64:=by rw [Int.tdiv_eq_ediv_of_nonneg hE.1,wr (by omega) (by omega)]
          rw [hd]
          exact xor_ok hE ⟨by omega,by omega⟩
        refine ⟨_,rfl,?_,fun hn1 => ?_,fun h=>by omega,rd2,x1⟩
        · rw [Int.tmod_eq_emod_of_nonneg hX];exact Int.emod_nonneg _ (by omega)
        · rw [Int.tmod_eq_emod_of_nonneg hX];exact Int.emod_lt_of_pos _ (by omega)
end Go.Proofs.YtgmkdjjcleobhaaGreat.Id
namespace Go.Proofs.YtgmkdjjcleobhaaGreat.Id
open Go.Id
open Go.Proofs
set_option linter.unusedVariables false
set_option maxRecDepth 100000
variable {X:Ctx Tryz.prog} {lo rb:Nat}
def DrawC (lo rb:Nat) (p k:Int) (h:Hp) (v:Value) (h':Hp):Prop:=∃ (c:Cl) (p':Int),v = .agg #[.int .i64 c.1,.int .i64 c.2]∧Rd lo h' rb p'∧(p≤p'∧p'≤p+k)∧Ext1 rb h h'
theorem l71Cell_ok (rb:Nat) (p:Int) (h:Hp) (r:Rd lo h rb p) (hp:p+2≤1000000000):Tri X lo 188 [.pointer (some ⟨rb,0,none⟩)] h (DrawC lo rb p 2 h):=by
  refine enter tbOk mtOk ⟨[],[]⟩ 400 Tryz.func188 rfl rfl rfl fun hlo => ?_
  refine callP (pick_ok rb p 12 h r (by decide) (by omega)) ?_
  rintro v h1 ⟨q,rfl,q1,q2,q3,r1,x1⟩
  have fin:∀ a b:Int,DrawC lo rb p 2 h (.agg #[.int .i64 a,.int .i64 b]) h1:=fun a b=>⟨(a,b),p+1,rfl,r1,⟨by omega,by omega⟩,x1⟩
  refine cnd (fun _=>fin _ _) (fun _ => ?_)
  refine cnd (fun _=>fin _ _) (fun _ => ?_)
  refine cnd (fun _=>fin _ _) (fun _ => ?_)
  refine cnd (fun _=>fin _ _) (fun _ => ?_)
  refine cnd (fun _=>fin _ _) (fun _ => ?_)
  refine cnd (fun _=>fin _ _) (fun _ => ?_)
  refine cnd (fun _=>fin _ _) (fun _ => ?_)
  refine cnd (fun _=>fin _ _) (fun _ => ?_)
  refine cnd (fun _ => ?_) (fun _ => ?_)
  · refine callP (pick_ok rb (p+1) 9 h1 r1 (by decide) (by omega)) ?_
    rintro v h2 ⟨q',rfl,_,_,_,r2,x2⟩
    exact ⟨(7,_),p+1+1,rfl,r2,⟨by omega,by omega⟩,x1.trans x2⟩
  · exact fin _ _
theorem Rd.lt {h:Hp} {rb:Nat} {p:Int} (r:Rd lo h rb p):rb < h.n:=by
  obtain ⟨a,fl,bs,h1,h2,h3⟩:=r.ex
  exact h1.lt
theorem l71Off_ok (rb:Nat) (p:Int) (h:Hp) (r:Rd lo h rb p) (hp:p+2≤1000000000):Tri X lo 142 [.pointer (some ⟨rb,0,none⟩)] h (DrawC lo rb p 2 h):=by
  refine enter tbOk mtOk ⟨[],[]⟩ 400 Tryz.func142 rfl rfl rfl fun hlo => ?_
  let cs:List Cl:=[(-1,0),(8,0),(7,0),(7,10),(1,1),(0,0)]
  let h1:=h.push (.cells (cs.flatMap cE) 2 0)
  have e1:Ext h h1:=Ext.push _ _
  have rw1:Row h1 h.n 0 cE 2 cs:=Row.push
  have lt:=r.lt
  refine callP (pick_ok rb p 6 h1 (r.ext e1) (by decide) (by omega)) ?_
  rintro v h2 ⟨q,rfl,q1,q2,q3,r1,x1⟩
  have q2:=q2 (by decide)
  have rw2:Row h2 h.n 0 cE 2 cs:=rw1.ext1 x1 (by omega)
  have hj:q.toNat < cs.length:=by show q.toNat < 6;omega
  refine And.intro ⟨q1,q2⟩ ?_
  refine ⟨_,(rw2.sls cE2).ld cE2 hj,?_⟩
  exact ⟨cs[q.toNat],p+1,rfl,r1,⟨by omega,by omega⟩,(e1.one rb).trans x1⟩
def Dw (lo:Nat) (h:Hp) (sv:Value) (cs:List Cl):Prop:=∃ a fl,sv = .slice a cs.length fl∧match a with
  | none=>cs=[]
  | some ad=>lo≤ad.block∧ad.block < h.n∧∃ pr po e,ad.spot=some e∧ad.off=(pr:List Cl).length*2∧h.g ad.block = .cells ((pr++cs++po).flatMap cE) 2 e
theorem Dw.keep {h h':Hp} {sv:Value} {cs:List Cl} (d:Dw lo h sv cs) (x:Ext1 rb h h') (hb:rb < lo):Dw lo h' sv cs:=by
  obtain ⟨a,fl,rfl,d⟩:=d
  refine ⟨a,fl,rfl,?_⟩
  cases a with
  | none=>exact d
  | some ad =>
    obtain ⟨d1,d2,pr,po,e,d3,d4,d5⟩:=d
    exact ⟨d1,Nat.lt_of_lt_of_le d2 x.n,pr,po,e,d3,d4,by rw [x.g _ d2 (by omega)];exact d5⟩
theorem Dw.sls {h:Hp} {a:Option Addr} {n fl:Nat} {cs:List Cl} (d:Dw lo h (.slice a n fl) cs):n=cs.length∧Sls h cE 2 a cs:=by
  obtain ⟨a',fl',e,d⟩:=d
  cases e
  refine ⟨rfl,?_⟩
  cases a with
  | none=>exact d
  | some ad =>
    obtain ⟨d1,d2,pr,po,e,d3,d4,d5⟩:=d
    refine ⟨d2,_,2,by rw [d3];exact d5,?_⟩
    unfold sub?
    rw [if_pos (by rw [flat_len cE2,d4];simp;omega)]
    rw [List.append_assoc,List.flatMap_append,d4,← flat_len cE2 pr,List.drop_left,List.flatMap_append,← flat_len cE2 cs,List.take_left]
theorem Dw.st {lo':Nat} {h:Hp} {a:Option Addr} {n fl:Nat} {cs:List Cl} (d:Dw lo h (.slice a n fl) cs) (hlo:lo'≤lo) {j:Nat} (hj:j < cs.length) (c:Cl):∃ ad h',a=some ad∧lo≤ad.block∧St lo' h (addA ad (j*2)) (cE c) h'∧Dw lo h' (.slice (some ad) n fl) (cs.set j c)∧(∀ rb,∀ h0,Ext1 rb h0 h→h0.n≤lo→Ext1 rb h0 h')∧h.n≤h'.n∧∀ i,i < lo→h'.g i=h.g i:=by
  obtain ⟨a',fl',e,d⟩:=d
  cases e
  cases a with
  | none=>simp at d;subst d;simp at hj
  | some ad =>
    obtain ⟨d1,d2,pr,po,e,d3,d4,d5⟩:=d
    have hg:∀ (i:Nat),(pr++cs++po).set (pr.length+i) c=if i < cs.length then pr++cs.set i c++po else pr++cs++po.set (i - cs.length) c:=by
      intro i
      rw [List.append_assoc,List.set_append_right _ _ (by omega)]
      split
      · rw [List.set_append_left _ _ (by omega),List.append_assoc];simp
      · rw [List.set_append_right _ _ (by omega),List.append_assoc];simp
    have hl:pr.length+j < (pr++cs++po).length:=by simp;omega
    have key:=flat_set (enc:=cE) (sz:=2) cE2 (l:=pr++cs++po) (j:=pr.length+j) (f:=0) hl (x:=c) (ys:=cE c) (by simp [cE]) (setL_all [] _ _ rfl)
    rw [hg,if_pos hj] at key
    refine ⟨ad,h.set ad.block (.cells ((pr++cs.set j c++po).flatMap cE) 2 e),rfl,d1,⟨by show lo'≤ad.block;omega,d2,_,2,by show h.g ad.block=_;rw [d5];congr 1;show e=epOf ad.spot;rw [d3];rfl,?_,?_⟩,⟨some ad,fl,by simp,d1,d2,pr,po,e,d3,d4,by simp [Hp.set]⟩,fun rb h0 x hx=>x.set _ (.inr (by omega)),Nat.le_refl _,fun i hi=>by simp only [Hp.set];rw [if_neg (by omega)]⟩
    · rw [flat_len cE2];simp only [addA,cE,List.length_cons,List.length_nil,d4];simp at hl ⊢;omega
    · rw [← key]
      simp only [addA,d4,d3]
      rw [show (pr.length+j)*2+0=pr.length*2+j*2 from by omega];rfl
theorem gx_dw {h:Hp} {o:Option (Nat×Nat)} {cs:List Cl} (g:Gx lo h cE 2 o cs):Dw lo h (gv o cs.length) cs:=by
  match o,g with
  | none,g=>obtain rfl:cs=[]:=g;exact ⟨none,0,rfl,rfl⟩
  | some (b,e),⟨g1,g2⟩=>exact ⟨some ⟨b,0,some e⟩,1,rfl,g1,g2.lt,[],[],e,rfl,rfl,by simpa using g2.g⟩
theorem gx_re {α:Type} {enc:α→List Value} {sz lo':Nat} {h:Hp} {o:Option (Nat×Nat)} {l:List α} (g:Gx lo h enc sz o l) (hl:∀ i,isB o i→lo'≤i):Gx lo' h enc sz o l:=by
  match o,g with
  | none,g=>exact g
  | some (b,e),⟨g1,g2⟩=>exact ⟨hl b ⟨e,rfl⟩,g2⟩
structure GS where
  k:Nat
  o:Option (Nat×Nat)
  cs:List Cl
def DrawG (lo rb:Nat) (p k:Int) (L:Nat) (h:Hp) (v:Value) (h':Hp):Prop:=∃ (w:Int) (sv:Value) (cs:List Cl) (p':Int),v = .agg #[.int .i64 w,sv]∧(-1≤w∧w≤6)∧Dw h.n h' sv cs∧cs.length≤L∧Rd lo h' rb p'∧(p≤p'∧p'≤p+k)∧Ext1 rb h h'
theorem l71Grid_ok (rb:Nat) (p:Int) (h:Hp) (r:Rd lo h rb p) (hp:p+60≤1000000000):Tri X lo 141 [.pointer (some ⟨rb,0,none⟩)] h (fun v h'=>∃ (w:Int) (b e:Nat) (cs:List Cl) (p':Int),v = .agg #[.int .i64 w,.slice (some ⟨b,0,some e⟩) cs.length 1]∧(1≤w∧w≤5)∧(1≤cs.length∧cs.length≤25)∧h.n≤b∧Row h' b e cE 2 cs∧Rd lo h' rb p'∧(p≤p'∧p'≤p+60)∧Ext1 rb h h'):=by
  refine enter tbOk mtOk ⟨[],[(2,[0,1,2,3,4,5,6],[0,1,0,4,12,31,63]),(5,[0,1,2,3,4,5,6,7],[0,1,0,4,12,31,63,127])]⟩ 400 Tryz.func141 rfl rfl rfl fun hlo => ?_
  refine callP (pick_ok rb p 5 h r (by decide) (by omega)) ?_
  rintro v h1 ⟨q,rfl,q1,q2,q3,r1,x1⟩
  have q2:=q2 (by decide)
  refine And.intro (by kernel_rfl) ?_
  refine callP (pick_ok rb (p+1) 5 h1 r1 (by decide) (by omega)) ?_
  rintro v h2 ⟨q',rfl,q1',q2',q3',r2,x2⟩
  have q2':=q2' (by decide)
  refine And.intro Is.r ?_
  have w1:IntKind.i64.wrap (1+q)=1+q:=wr (by omega) (by omega)
  have w2:IntKind.i64.wrap (1+q')=1+q':=wr (by omega) (by omega)
  obtain ⟨tot,ht0,ht⟩:∃ tot:Nat,(1+q)*(1+q')=(tot:Int)∧1≤tot∧tot≤25:=by
    have h1:(1:Int)*1≤(1+q)*(1+q'):=Int.mul_le_mul (by omega) (by omega) (by omega) (by omega)
    have h2:(1+q)*(1+q')≤5*5:=Int.mul_le_mul (by omega) (by omega) (by omega) (by omega)
    exact ⟨((1+q)*(1+q')).toNat,by omega,by omega,by omega⟩
  have w3:IntKind.i64.wrap (IntKind.i64.wrap (1+q)*IntKind.i64.wrap (1+q'))=(tot:Int):=by rw [w1,w2,ht0,wr (by omega) (by omega)]
  refine loop (σ:=GS) tbOk mtOk ⟨[],[(2,[0,1,2,3,4,5,6],[0,1,0,4,12,31,63]),(5,[0,1,2,3,4,5,6,7],[0,1,0,4,12,31,63,127])]⟩ (fun s=>[(4,.v (.int .i64 (s.k:Int))),(3,.l 1 0),(2,.l 0 0),(0,.v (.pointer (some ⟨rb,0,none⟩)))]) (fun s=>[[.int .i64 0,.slice none 0 0],[.int .i64 (IntKind.i64.wrap (1+q)),gv s.o s.cs.length]]) (fun s h'=>s.k+s.cs.length=tot∧Gx h.n h' cE 2 s.o s.cs∧(∃ p',Rd lo h' rb p'∧p≤p'∧p'≤p+2+2*s.cs.length)∧Ext1 rb h h') (fun s=>s.k) 400 ⟨tot,none,[]⟩ (fun _=>rfl) ⟨?_,rfl,rfl,rfl,trivial⟩ ⟨rfl,rfl,trivial⟩ ⟨by simp,rfl,⟨p+1+1,r2,by omega,by simp;omega⟩,x1.trans x2⟩ (fun s h' hI again => ?_)
  · show some (Sl.v (.int .i64 _))=_
    rw [w3]
  obtain ⟨k,o,cs⟩:=s
  obtain ⟨i1,i2,⟨p',r3,i3,i4⟩,x3⟩:=hI
  simp only at i1 i2 i3 i4
  have lt:=r.lt
  refine cnd (fun c1 => ?_) (fun c1 => ?_)
  · have c1:0 < k:=by simpa using c1
    refine And.intro (by kernel_rfl) ?_
    refine callP (l71Cell_ok rb p' h' r3 (by omega)) ?_
    rintro v h3 ⟨c,p2,rfl,r4,i5,x4⟩
    refine And.intro Is.r ?_
    refine And.intro Is.r ?_
    have hn3:=(x3.trans x4).n
    have e4:Ext h3 (h3.push (.cells ([c].flatMap cE) 2 0)):=Ext.push _ _
    have g4:Gx h.n (h3.push (.cells ([c].flatMap cE) 2 0)) cE 2 o cs:=(i2.keep x4.n fun i hi hb=>x4.g i hi (by have:=(i2.lt hb).2;omega)).ext e4
    have g1:Gx 0 (h3.push (.cells ([c].flatMap cE) 2 0)) cE 2 (some (h3.n,0)) [c]:=⟨Nat.zero_le _,Row.push⟩
    obtain ⟨o',h5,a1,a2,a3⟩:=(gx_re (lo':=lo) g4 fun i hi=>by have:=(g4.lt hi).2;omega).apps cE2 (by decide) [c] (by unfold Id.maxLen;simp;omega) (by have:=e4.n;omega)
    refine ⟨[c].flatMap cE,g1.cells cE2,_,h5,a1,?_⟩
    obtain ⟨b1,e1,rfl⟩:∃ b e,o'=some (b,e):=by
      cases o' with
      | none=>exact absurd (show cs++[c]=[] from a2) (by simp)
      | some x=>exact ⟨x.1,x.2,rfl⟩
    have e4n:=e4.n
    have a3n:=a3.n
    have k5:∀ i,i < h.n→h5.g i=h3.g i:=fun i hi=>by
      refine (a3.g i (by omega) fun hb => ?_).trans (e4.g i (by omega))
      have:=(g4.lt hb).2
      omega
    have x5:Ext1 rb h h5:=⟨by omega,fun i hi hj=>(k5 i hi).trans ((x3.trans x4).g i hi hj)⟩
    have r5:Rd lo h5 rb p2:=r4.keep (by omega) fun i hi=>k5 i (by omega)
    have fin:Gx h.n h5 cE 2 (some (b1,e1)) (cs++[c]):=gx_re a2 fun i hb=>by
      rcases a3.b i hb with hb | hb
      · exact (g4.lt hb).2
      · omega
    have hk:IntKind.i64.wrap ((k:Int) - 1)=((k - 1:Nat):Int):=by rw [wr (by omega) (by omega)];omega
    have hl:(cs++[c]).length=cs.length+1:=by simp
    rcases o with _ | ⟨b0,e0⟩
    all_goals
      refine again ⟨k - 1,some (b1,e1),cs++[c]⟩ _ _ _ (by show k - 1 < k;omega) ⟨?_,rfl,rfl,rfl,trivial⟩ ⟨rfl,rfl,trivial⟩ ⟨by show k - 1+(cs++[c]).length=tot;omega,fin,⟨p2,r5,by omega,by show p2≤p+2+2*((cs++[c]).length:Int);omega⟩,x5⟩
      show some (Sl.v (.int .i64 (IntKind.i64.wrap ((k:Int) - 1))))=_
      rw [hk]
  · have c1:k=0:=by simpa using c1
    rcases o with _ | ⟨b,e⟩
    · exfalso
      have:cs=[]:=i2
      subst this
      simp at i1;omega
    · exact ⟨_,b,e,cs,p',rfl,by omega,by omega,i2.1,i2.2,r3,⟨by omega,by omega⟩,x3⟩
end Go.Proofs.YtgmkdjjcleobhaaGreat.Id
namespace Go.Proofs.YtgmkdjjcleobhaaGreat.Id
open Go.Id
open Go.Proofs
set_option linter.unusedVariables false
set_option maxRecDepth 100000
variable {X:Ctx Tryz.prog} {lo rb:Nat}
theorem Dw.mono {lo':Nat} {h:Hp} {sv:Value} {cs:List Cl} (d:Dw lo h sv cs) (hl:lo'≤lo):Dw lo' h sv cs:=by
  obtain ⟨a,fl,rfl,d⟩:=d
  refine ⟨a,fl,rfl,?_⟩
  cases a with
  | none=>exact d
  | some ad=>exact ⟨Nat.le_trans hl d.1,d.2⟩
theorem l71Some_ok (rb:Nat) (p:Int) (h:Hp) (r:Rd lo h rb p) (hp:p+100≤1000000000):Tri X lo 102 [.pointer (some ⟨rb,0,none⟩)] h (DrawG lo rb p 100 40 h):=by
  refine enter tbOk mtOk ⟨[],[(11,[0,1,2,3,4,5,7,6,8,9,10],[0,1,0,0,8,24,60,0,252,511,1023])]⟩ 400 Tryz.func102 rfl rfl rfl fun hlo => ?_
  refine callP (l71Grid_ok rb p h r (by omega)) ?_
  rintro v h1 ⟨w,b,e,cs,p1,rfl,w1,l1,hb,ro,r1,i1,x1⟩
  have lt:=r.lt
  have hn1:=x1.n
  have dw:∀ {h':Hp} {cs:List Cl} {e:Nat},Row h' b e cE 2 cs→Dw h.n h' (.slice (some ⟨b,0,some e⟩) cs.length 1) cs:=fun r=>gx_dw (o:=some (b,_)) ⟨hb,r⟩
  refine callP (pick_ok rb p1 24 h1 r1 (by decide) (by omega)) ?_
  rintro v h2 ⟨q,rfl,q1,q2,q3,r2,x2⟩
  have ro:=ro.ext1 x2 (by omega)
  have x2:=x1.trans x2
  refine cnd (fun c1 => ?_) (fun c1 => ?_)
  · exact ⟨w,_,cs,_,rfl,by omega,dw ro,by omega,r2,⟨by omega,by omega⟩,x2⟩
  · refine callP (pick_ok rb (p1+1) 5 h2 r2 (by decide) (by omega)) ?_
    rintro v h3 ⟨q',rfl,q1',q2',q3',r3,x3⟩
    have ro:=ro.ext1 x3 (by omega)
    have x3:=x2.trans x3
    have hn3:=x3.n
    have fin:∀ w sv h',(-1≤w∧w≤6)→(∃ cs,Dw h.n h' sv cs∧cs.length≤40)→(∃ p',Rd lo h' rb p'∧p≤p'∧p'≤p+100)→Ext1 rb h h'→DrawG lo rb p 100 40 h (.agg #[.int .i64 w,sv]) h':=fun w sv h' a1 a2 a3 a4=>by
      obtain ⟨cs,a2,a2'⟩:=a2
      obtain ⟨p',a3,a3'⟩:=a3
      exact ⟨w,sv,cs,p',rfl,a1,a2,a2',a3,a3',a4⟩
    refine cnd (fun c2 => ?_) (fun c2 => ?_)
    · let ws:List Int:=[0,-1,6]
      have e3:Ext h3 (h3.push (.cells (ws.flatMap iE) 1 0)):=Ext.push _ _
      have rw3:Row (h3.push (.cells (ws.flatMap iE) 1 0)) h3.n 0 iE 1 ws:=Row.push
      refine callP (pick_ok rb (p1+1+1) 3 (h3.push (.cells (ws.flatMap iE) 1 0)) (r3.ext e3) (by decide) (by omega)) ?_
      rintro v h4 ⟨q4,rfl,u1,u2,u3,r4,x4⟩
      have u2:=u2 (by decide)
      have rw4:Row h4 h3.n 0 iE 1 ws:=rw3.ext1 x4 (by omega)
      have hj:q4.toNat < ws.length:=by show q4.toNat < 3;omega
      refine And.intro ⟨u1,u2⟩ ?_
      refine ⟨_,(rw4.sls (fun _=>rfl)).ld (fun _=>rfl) hj,?_⟩
      have hw : -1≤ws[q4.toNat]∧ws[q4.toNat]≤6:=(by decide:∀ x∈([0,-1,6]:List Int),-1≤x∧x≤6) _ (List.getElem_mem hj)
      exact fin _ _ h4 hw ⟨cs,dw ((ro.ext e3).ext1 x4 (by omega)),by omega⟩ ⟨_,r4,by omega,by omega⟩ (x3.trans ((e3.one rb).trans x4))
    · refine cnd (fun c3 => ?_) (fun c3 => ?_)
      · refine And.intro ⟨by decide,by omega,by omega⟩ ?_
        obtain ⟨c,cs',rfl⟩:∃ c cs',cs=c::cs':=by
          cases cs with
          | nil=>simp at l1
          | cons c cs'=>exact ⟨c,cs',rfl⟩
        rw [List.length_cons]
        by_cases hn:cs'=[]
        · subst hn
          refine .inr ⟨rfl,?_⟩
          exact fin _ _ h3 (by omega) ⟨[],⟨some ⟨b,0,some e⟩,2,rfl,hb,ro.lt,[],[c],e,rfl,rfl,ro.g⟩,by simp⟩ ⟨_,r3,by omega,by omega⟩ x3
        · refine .inl ⟨by have:=List.length_pos_iff.2 hn;omega,?_⟩
          refine fin _ _ h3 (by omega) ⟨cs',⟨some (addA ⟨b,0,some e⟩ 2),2,?_,hb,ro.lt,[c],[],e,rfl,rfl,by show h3.g b=_;simpa using ro.g⟩,by simp at l1;omega⟩ ⟨_,r3,by omega,by omega⟩ x3
          congr 1;omega
      · refine cnd (fun c4 => ?_) (fun c4 => ?_)
        · refine And.intro (by kernel_rfl) ?_
          refine callP (pick_ok rb (p1+1+1) cs.length h3 r3 (by omega) (by omega)) ?_
          rintro v h4 ⟨q4,rfl,u1,u2,u3,r4,x4⟩
          have u2:=u2 (by omega)
          refine And.intro Is.r ?_
          refine callP (l71Off_ok rb _ h4 r4 (by omega)) ?_
          rintro v h5 ⟨c,p5,rfl,r5,i5,x5⟩
          have ro:=(ro.ext1 x4 (by omega)).ext1 x5 (by omega)
          have hj:q4.toNat < cs.length:=by omega
          have x5':=(x3.trans x4).trans x5
          refine And.intro Is.r ?_
          refine And.intro ⟨u1,u2⟩ ?_
          refine ⟨_,ro.st cE2 (by omega) hj c,?_⟩
          refine fin _ _ _ (by omega) ⟨cs.set q4.toNat c,?_,by rw [List.length_set];omega⟩ ⟨p5,r5.keep (Nat.le_refl _) fun i hi=>by simp only [Hp.set];rw [if_neg (by omega)],by omega,by omega⟩ (x5'.set _ (.inr hb))
          have:=dw (h':=h5.set b (.cells ((cs.set q4.toNat c).flatMap cE) 2 e)) (Row.set ro.lt)
          rwa [List.length_set] at this
        · refine cnd (fun c5 => ?_) (fun c5 => ?_)
          · refine loop (σ:=Nat×List Cl) tbOk mtOk ⟨[],[(11,[0,1,2,3,4,5,7,6,8,9,10],[0,1,0,0,8,24,60,0,252,511,1023])]⟩ (fun s=>[(3,.l 1 0),(2,.l 0 0),(0,.v (.pointer (some ⟨rb,0,none⟩)))]) (fun s=>[[.int .i64 0,.slice none 0 0],[.int .i64 w,.slice (some ⟨b,0,some s.1⟩) s.2.length 1]]) (fun s h'=>(1≤s.2.length∧s.2.length≤26)∧Row h' b s.1 cE 2 s.2∧Rd lo h' rb (p1+1+1)∧Ext1 rb h h') (fun s=>40 - s.2.length) 400 (e,cs) (fun _=>rfl) ⟨rfl,rfl,rfl,trivial⟩ ⟨rfl,rfl,trivial⟩ ⟨⟨l1.1,Nat.le_trans l1.2 (by decide)⟩,ro,r3,x3⟩ (fun s h' hI again => ?_)
            obtain ⟨e,cs⟩:=s
            obtain ⟨i2,ro,r4,x4⟩:=hI
            simp only at i2
            have w5:IntKind.i64.wrap (w*5)=w*5:=wr (by omega) (by omega)
            refine cnd (fun c6 => ?_) (fun c6 => ?_)
            · have c6:(cs.length:Int)≤w*5:=by rw [w5] at c6;exact of_decide_eq_true c6
              have e4:Ext h' (h'.push (.cells ([((0,0):Cl)].flatMap cE) 2 0)):=Ext.push _ _
              have g1:Gx 0 (h'.push (.cells ([((0,0):Cl)].flatMap cE) 2 0)) cE 2 (some (h'.n,0)) [((0,0):Cl)]:=⟨Nat.zero_le _,Row.push⟩
              refine ⟨[((0,0):Cl)].flatMap cE,g1.cells cE2,_,_,(ro.ext e4).app (m:=[((0,0):Cl)]) cE2 (by decide) (by omega) (by unfold Id.maxLen;simp;omega),?_⟩
              have x5:=(x4.trans (e4.one rb)).set (.cells ((cs++[((0,0):Cl)]).flatMap cE) 2 (e+1)) (.inr hb)
              refine again (e+1,cs++[((0,0):Cl)]) _ _ _ (by show 40 - (cs++[((0,0):Cl)]).length < 40 - cs.length;simp;omega) ⟨rfl,rfl,rfl,trivial⟩ ⟨rfl,?_,trivial⟩ ⟨⟨by simp,by simp;omega⟩,Row.set (ro.ext e4).lt,(r4.ext e4).keep (Nat.le_refl _) fun i hi=>by simp only [Hp.set];rw [if_neg (by omega)],x5⟩
              show [Value.int .i64 w,Value.slice (some ⟨b,0,some (e+1)⟩) (cs++[((0,0):Cl)]).length 1]=[Value.int .i64 w,Value.slice (some ⟨b,0,some (e+1)⟩) (cs.length+[((0,0):Cl)].length) 1]
              rw [List.length_append]
            · exact fin _ _ _ (by omega) ⟨cs,dw ro,by omega⟩ ⟨_,r4,by omega,by omega⟩ x4
          · exact fin _ _ h3 (by omega) ⟨[],⟨none,0,rfl,rfl⟩,by simp⟩ ⟨_,r3,by omega,by omega⟩ x3
end Go.Proofs.YtgmkdjjcleobhaaGreat.Id
namespace Go.Proofs.YtgmkdjjcleobhaaGreat.Id
open Go.Id
open Go.Proofs
set_option linter.unusedVariables false
set_option maxRecDepth 100000
variable {X:Ctx Tryz.prog} {lo rb:Nat}
theorem l71Bright_ok (rb:Nat) (p:Int) (h:Hp) (r:Rd lo h rb p) (hp:p+200≤1000000000):Tri X lo 47 [.pointer (some ⟨rb,0,none⟩)] h (DrawG lo rb p 200 40 h):=by
  refine enter tbOk mtOk ⟨[],[(5,[0,1,2,3,4,5,8,6,7,9,10,11,12,13,14],[0,1,0,0,8,24,60,0,0,380,1020,2044,4092,8191,16383])]⟩ 400 Tryz.func47 rfl rfl rfl fun hlo => ?_
  refine callP (l71Some_ok rb p h r (by omega)) ?_
  rintro v h1 ⟨w,sv,cs,p1,rfl,w1,d1,l1,r1,i1,x1⟩
  have lt:=r.lt
  have hn1:=x1.n
  have d1':=d1
  obtain ⟨a,fl,rfl,_⟩:=d1'
  refine callP (pick_ok rb p1 8 h1 r1 (by decide) (by omega)) ?_
  rintro v h2 ⟨q,rfl,q1,q2,q3,r2,x2⟩
  have q2:=q2 (by decide)
  have d2:=d1.keep x2 lt
  have x2:=x1.trans x2
  refine loop (σ:=Nat×List Cl) tbOk mtOk ⟨[],[(5,[0,1,2,3,4,5,8,6,7,9,10,11,12,13,14],[0,1,0,0,8,24,60,0,0,380,1020,2044,4092,8191,16383])]⟩ (fun s=>[(4,.v (.int .i64 (s.1:Int))),(3,.l 1 0),(2,.l 0 0),(0,.v (.pointer (some ⟨rb,0,none⟩)))]) (fun s=>[[.int .i64 0,.slice none 0 0],[.int .i64 w,.slice a cs.length fl]]) (fun s h'=>s.1≤7∧s.2.length=cs.length∧Dw h.n h' (.slice a cs.length fl) s.2∧(∃ p',Rd lo h' rb p'∧p≤p'∧p'≤p+100+1+2*(8 - s.1))∧Ext1 rb h h') (fun s=>s.1) 16 (q.toNat,cs) (fun _=>rfl) ⟨?_,rfl,rfl,rfl,trivial⟩ ⟨rfl,rfl,trivial⟩ ⟨by show q.toNat≤7;omega,rfl,d2,⟨p1+1,r2,by omega,by show p1+1≤p+100+1+2*(8 - (q.toNat:Int));omega⟩,x2⟩ (fun s h' hI again => ?_)
  · show some (Sl.v (.int .i64 q))=some (Sl.v (.int .i64 (q.toNat:Int)))
    rw [Int.toNat_of_nonneg q1]
  obtain ⟨k,cs'⟩:=s
  obtain ⟨i1,i2,d3,⟨p3,r3,i3,i4⟩,x3⟩:=hI
  simp only at i1 i2 i3 i4
  refine cnd (fun c1 => ?_) (fun c1 => ?_)
  · have c1:0 < k:=by simpa using c1
    refine cnd (fun c2 => ?_) (fun c2 => ?_)
    · have c2:0 < cs.length:=by simpa using c2
      refine drawT tbOk mtOk ⟨[],[(5,[0,1,2,3,4,5,8,6,7,9,10,11,12,13,14],[0,1,0,0,8,24,60,0,0,380,1020,2044,4092,8191,16383])]⟩ 400 (.fl 0 (.fl 1 (.fl 2 (.fl 3 (.fl 4 (.fl 5 (.fl 8 (.ch 6 (.ch 7 (.ch 9 (.fl 10 (.fl 11 (.fl 12 (.fl 13 (.ch 14 .fin .stop))))) .stop) (.ch 9 (.ch 7 (.fl 10 (.fl 11 (.fl 12 (.fl 13 (.ch 14 .fin .stop))))) .stop) .stop)) (.ch 7 (.ch 6 (.ch 9 (.fl 10 (.fl 11 (.fl 12 (.fl 13 (.ch 14 .fin .stop))))) .stop) .stop) .stop))))))))) [0,1,0,0,8,24,60,0,0,380,1020,2044,4092,8191,16383] (by kernel_rfl) ?_
      obtain ⟨ad,rfl⟩:∃ ad,a=some ad:=d3.sls.2.some (show 0 < cs'.length by omega)
      have hkw:IntKind.i64.wrap ((k:Int) - 1)=((k - 1:Nat):Int):=by rw [wr (by omega) (by omega)];omega
      have hk1:some (Sl.v (.int .i64 (IntKind.i64.wrap ((k:Int) - 1))))=some (Sl.v (.int .i64 ((k - 1:Nat):Int))):=by rw [hkw]
      have hn3:=x3.n
      refine And.intro ?_ ?_
      · refine callP (pick_ok rb p3 cs.length h' r3 (by omega) (by omega)) ?_
        rintro v h3 ⟨u,rfl,u1,u2,u3,r4,x4⟩
        have u2:=u2 (by omega)
        have n4:=x4.n
        refine And.intro Is.r ?_
        refine And.intro ?_ ?_
        · have e4:Ext h3 (h3.push (.cells ([2,3,4,5].flatMap iE) 1 0)):=Ext.push _ _
          have rw4:Row (h3.push (.cells ([2,3,4,5].flatMap iE) 1 0)) h3.n 0 iE 1 [2,3,4,5]:=Row.push
          refine And.intro Is.r ?_
          refine And.intro Is.r ?_
          refine And.intro ?_ trivial
          refine callP (pick_ok rb (p3+1) 4 (h3.push (.cells ([2,3,4,5].flatMap iE) 1 0)) (r4.ext e4) (by decide) (by omega)) ?_
          rintro v h4 ⟨z,rfl,z1,z2,z3,r5,x5⟩
          have z2:=z2 (by decide)
          have rw5:Row h4 h3.n 0 iE 1 [2,3,4,5]:=rw4.ext1 x5 (by omega)
          have d5:=((d3.keep x4 lt).keep (e4.one rb) lt).keep x5 lt
          have x6:=((x3.trans x4).trans (e4.one rb)).trans x5
          refine And.intro Is.r ?_
          refine And.intro ⟨z1,z2⟩ ?_
          refine ⟨_,(rw5.sls (fun _=>rfl)).ld (fun _=>rfl) (show z.toNat < 4 by omega),?_⟩
          obtain ⟨_,h6,e6,b6,st6,d6,f6,n6,k6⟩:=d5.st hlo (j:=u.toNat) (show u.toNat < cs'.length by omega) (([2,3,4,5]:List Int)[z.toNat]'(show z.toNat < 4 by omega),(0:Int))
          cases e6
          have x7:=f6 rb h x6 (Nat.le_refl _)
          refine And.intro ⟨u1,u2⟩ ?_
          refine And.intro ?_ trivial
          refine ⟨_,st6,?_⟩
          exact again (k - 1,cs'.set u.toNat (([2,3,4,5]:List Int)[z.toNat]'(show z.toNat < 4 by omega),(0:Int))) _ _ _ (by show k - 1 < k;omega) ⟨hk1,rfl,rfl,rfl,trivial⟩ ⟨rfl,rfl,trivial⟩ ⟨by show k - 1≤7;omega,by rw [List.length_set];exact i2,d6,⟨_,r5.keep n6 fun i hi=>k6 i (by omega),by omega,by show p3+1+1≤p+100+1+2*(8 - ((k - 1:Nat):Int));omega⟩,x7⟩
        · refine And.intro ?_ trivial
          refine callP (pick_ok rb (p3+1) 4 h3 r4 (by decide) (by omega)) ?_
          rintro v h4 ⟨z,rfl,z1,z2,z3,r5,x5⟩
          have z2:=z2 (by decide)
          have e4:Ext h4 (h4.push (.cells ([2,3,4,5].flatMap iE) 1 0)):=Ext.push _ _
          have rw5:Row (h4.push (.cells ([2,3,4,5].flatMap iE) 1 0)) h4.n 0 iE 1 [2,3,4,5]:=Row.push
          have d5:=((d3.keep x4 lt).keep x5 lt).keep (e4.one rb) lt
          have x6:=((x3.trans x4).trans x5).trans (e4.one rb)
          have r5:=r5.ext e4
          refine And.intro Is.r ?_
          refine And.intro ?_ trivial
          refine And.intro Is.r ?_
          refine And.intro Is.r ?_
          refine And.intro ⟨z1,z2⟩ ?_
          refine ⟨_,(rw5.sls (fun _=>rfl)).ld (fun _=>rfl) (show z.toNat < 4 by omega),?_⟩
          obtain ⟨_,h6,e6,b6,st6,d6,f6,n6,k6⟩:=d5.st hlo (j:=u.toNat) (show u.toNat < cs'.length by omega) (([2,3,4,5]:List Int)[z.toNat]'(show z.toNat < 4 by omega),(0:Int))
          cases e6
          have x7:=f6 rb h x6 (Nat.le_refl _)
          refine And.intro ⟨u1,u2⟩ ?_
          refine And.intro ?_ trivial
          refine ⟨_,st6,?_⟩
          exact again (k - 1,cs'.set u.toNat (([2,3,4,5]:List Int)[z.toNat]'(show z.toNat < 4 by omega),(0:Int))) _ _ _ (by show k - 1 < k;omega) ⟨hk1,rfl,rfl,rfl,trivial⟩ ⟨rfl,rfl,trivial⟩ ⟨by show k - 1≤7;omega,by rw [List.length_set];exact i2,d6,⟨_,r5.keep n6 fun i hi=>k6 i (by omega),by omega,by show p3+1+1≤p+100+1+2*(8 - ((k - 1:Nat):Int));omega⟩,x7⟩
      · have e4:Ext h' (h'.push (.cells ([2,3,4,5].flatMap iE) 1 0)):=Ext.push _ _
        have rw4:Row (h'.push (.cells ([2,3,4,5].flatMap iE) 1 0)) h'.n 0 iE 1 [2,3,4,5]:=Row.push
        refine And.intro ?_ trivial
        refine And.intro Is.r ?_
        refine And.intro Is.r ?_
        refine And.intro ?_ trivial
        refine callP (pick_ok rb p3 cs.length (h'.push (.cells ([2,3,4,5].flatMap iE) 1 0)) (r3.ext e4) (by omega) (by omega)) ?_
        rintro v h3 ⟨u,rfl,u1,u2,u3,r4,x4⟩
        have u2:=u2 (by omega)
        have n4:=x4.n
        have e4n:=e4.n
        refine And.intro Is.r ?_
        refine And.intro ?_ trivial
        refine callP (pick_ok rb (p3+1) 4 h3 r4 (by decide) (by omega)) ?_
        rintro v h4 ⟨z,rfl,z1,z2,z3,r5,x5⟩
        have z2:=z2 (by decide)
        have rw5:Row h4 h'.n 0 iE 1 [2,3,4,5]:=(rw4.ext1 x4 (by omega)).ext1 x5 (by omega)
        have d5:=((d3.keep (e4.one rb) lt).keep x4 lt).keep x5 lt
        have x6:=((x3.trans (e4.one rb)).trans x4).trans x5
        refine And.intro Is.r ?_
        refine And.intro ⟨z1,z2⟩ ?_
        refine ⟨_,(rw5.sls (fun _=>rfl)).ld (fun _=>rfl) (show z.toNat < 4 by omega),?_⟩
        obtain ⟨_,h6,e6,b6,st6,d6,f6,n6,k6⟩:=d5.st hlo (j:=u.toNat) (show u.toNat < cs'.length by omega) (([2,3,4,5]:List Int)[z.toNat]'(show z.toNat < 4 by omega),(0:Int))
        cases e6
        have x7:=f6 rb h x6 (Nat.le_refl _)
        refine And.intro ⟨u1,u2⟩ ?_
        refine And.intro ?_ trivial
        refine ⟨_,st6,?_⟩
        exact again (k - 1,cs'.set u.toNat (([2,3,4,5]:List Int)[z.toNat]'(show z.toNat < 4 by omega),(0:Int))) _ _ _ (by show k - 1 < k;omega) ⟨hk1,rfl,rfl,rfl,trivial⟩ ⟨rfl,rfl,trivial⟩ ⟨by show k - 1≤7;omega,by rw [List.length_set];exact i2,d6,⟨_,r5.keep n6 fun i hi=>k6 i (by omega),by omega,by show p3+1+1≤p+100+1+2*(8 - ((k - 1:Nat):Int));omega⟩,x7⟩
    · refine more tbOk mtOk ⟨[],[(5,[0,1,2,3,4,5,8,6,7,9,10,11,12,13,14],[0,1,0,0,8,24,60,0,0,380,1020,2044,4092,8191,16383])]⟩ 400 ?_
      exact ⟨w,_,cs',p3,rfl,w1,d3,by omega,r3,⟨by omega,by omega⟩,x3⟩
  · refine cndF ?_
    refine more tbOk mtOk ⟨[],[(5,[0,1,2,3,4,5,8,6,7,9,10,11,12,13,14],[0,1,0,0,8,24,60,0,0,380,1020,2044,4092,8191,16383])]⟩ 400 ?_
    exact ⟨w,_,cs',p3,rfl,w1,d3,by omega,r3,⟨by omega,by omega⟩,x3⟩
end Go.Proofs.YtgmkdjjcleobhaaGreat.Id
namespace Go.Proofs.YtgmkdjjcleobhaaGreat.Id
open Go.Id
open Go.Proofs
set_option linter.unusedVariables false
set_option maxRecDepth 100000
variable {X:Ctx Tryz.prog} {lo rb:Nat}
theorem l6Open_ok (a:Option Addr) (fl:Nat) (bs:List Nat) (h:Hp) (hs:Sls h uE 1 a bs) (hn:bs.length≤1048576) (hb:∀ b∈bs,b < 256):Tri X lo 48 [.slice a bs.length fl] h (fun v h'=>v = .pointer (some ⟨h.n,0,none⟩)∧Rd lo h' h.n 0∧Ext h h'):=by
  refine enter tbOk mtOk ⟨[10],[]⟩ 400 Tryz.func48 rfl rfl rfl fun hlo => ?_
  refine cnd (fun c1 => ?_) (fun c1 => ?_)
  · have c1:(2000:Int) < bs.length:=by simpa using c1
    obtain ⟨ad,rfl⟩:=hs.some (show 0 < bs.length by omega)
    refine And.intro ⟨by decide,by decide,by omega⟩ ?_
    have hl:(bs.take 2000).length=2000:=by rw [List.length_take];omega
    have cut:∀ fl':Nat,Bx (h.push (.cells [.slice (some ad) (bs.take 2000).length fl',.int .i64 0] 0 0)) h.n [.slice (some ad) (bs.take 2000).length fl',.int .i64 0]→Rd lo (h.push (.cells [.slice (some ad) (bs.take 2000).length fl',.int .i64 0] 0 0)) h.n 0:=fun fl' hb'=>by
      refine ⟨⟨some ad,fl',bs.take 2000,hb',?_,by omega,fun b hb'=>hb b (List.mem_of_mem_take hb'),fun ad' e=>by cases e;exact hs.1⟩,hlo,by omega⟩
      have h1:Sls h uE 1 (some ad) (bs.take 2000):=by
        obtain ⟨q1,c,sz,q2,q3⟩:=hs
        refine ⟨q1,c,sz,q2,?_⟩
        obtain ⟨g1,g2⟩:=sub_some q3
        have hfl:(bs.take 2000).flatMap uE=(bs.flatMap uE).take 2000:=by
          have:∀ (l:List Nat) (n:Nat),(l.take n).flatMap uE=(l.flatMap uE).take n:=by
            intro l
            induction l with
            | nil=>intro n;simp
            | cons x l ih=>intro n;cases n with
              | zero=>simp
              | succ n=>simp [uE,ih]
          exact this bs 2000
        rw [hl]
        unfold sub?
        rw [if_pos (by omega),hfl,g2,List.take_take,Nat.min_eq_left (by omega)]
      exact h1.ext (Ext.push _ _)
    rw [hl] at cut
    refine .inl ⟨by decide,?_⟩
    exact ⟨rfl,cut _ Bx.push,Ext.push _ _⟩
  · have c1:bs.length≤2000:=by simp at c1;omega
    refine ⟨rfl,⟨⟨a,fl,bs,Bx.push,hs.ext (Ext.push _ _),c1,hb,fun ad e => ?_⟩,hlo,by omega⟩,Ext.push _ _⟩
    subst e;exact hs.1
def DrawnG (h:Hp) (v:Value) (h':Hp):Prop:=∃ (g:Gd) (a:Option Addr) (fl:Nat),v = .agg #[.int .i64 g.w,.slice a g.cs.length fl]∧Dw h.n h' (.slice a g.cs.length fl) g.cs∧g.cs.length≤40∧Ext h h'
end Go.Proofs.YtgmkdjjcleobhaaGreat.Id
namespace Go.Proofs.YtgmkdjjcleobhaaGreat.Id
open Go.Id Go.Conc Go.Conc.Lib
open Go.Proofs
set_option linter.unusedVariables false
set_option maxRecDepth 100000
variable {X:Ctx Tryz.prog} {lo:Nat}
theorem llGrid_ok (g g':Gd) (a b:Option Addr) (fl fl':Nat) (h:Hp) (hs:Sls h cE 2 a g.cs) (hs':Sls h cE 2 b g'.cs) (hn:g.cs.length≤1048576):Tri X lo 17 [.agg #[.int .i64 g.w,.slice a g.cs.length fl],.agg #[.int .i64 g'.w,.slice b g'.cs.length fl']] h fun v h'=>v = .bool (decide (g=g'))∧h'=h:=by
  refine enter tbOk mtOk ⟨[],[(6,[0,1,2,3,4,5,6,7,8,9,10],[0,1,0,7,15,0,32,0,224,480,1023])]⟩ 400 Tryz.func17 rfl rfl rfl fun hlo => ?_
  obtain ⟨w,cs⟩:=g
  obtain ⟨w',ds⟩:=g'
  simp only at hs hs' hn
  refine cnd (fun c1 => ?_) (fun c1 => ?_)
  · have c1:w≠w':=by simpa using c1
    refine cndT ?_
    exact And.intro (by rw [decide_eq_false (fun e=>c1 (congrArg Gd.w e))]) rfl
  · have c1:w=w':=by simpa using c1
    subst c1
    refine cnd (fun c2 => ?_) (fun c2 => ?_)
    · have c2:cs.length≠ds.length:=by simp at c2;omega
      exact And.intro (by rw [decide_eq_false (fun e=>c2 (congrArg (fun g:Gd=>g.cs.length) e))]) rfl
    · have c2:cs.length=ds.length:=by simp at c2;omega
      refine loop (σ:=Nat) tbOk mtOk ⟨[],[(6,[0,1,2,3,4,5,6,7,8,9,10],[0,1,0,7,15,0,32,0,224,480,1023])]⟩ (fun i=>[(5,.v (.int .i64 (i:Int))),(3,.l 1 0),(2,.l 0 0)]) (fun _=>[[.int .i64 w,.slice a cs.length fl],[.int .i64 w,.slice b ds.length fl']]) (fun i h'=>i≤cs.length∧h'=h∧cs.take i=ds.take i) (fun i=>cs.length - i) 400 0 (fun _=>rfl) ⟨rfl,rfl,rfl,trivial⟩ ⟨rfl,rfl,trivial⟩ ⟨Nat.zero_le _,rfl,rfl⟩ (fun i h' hI again => ?_)
      obtain ⟨i1,rfl,i3⟩:=hI
      refine cnd (fun c3 => ?_) (fun c3 => ?_)
      · have c3:i < cs.length:=by simpa using c3
        have c3':i < ds.length:=by omega
        obtain ⟨a,rfl⟩:=hs.some c3
        obtain ⟨b,rfl⟩:=hs'.some c3'
        refine And.intro (by kernel_rfl) ?_
        refine And.intro ⟨by omega,by omega⟩ ?_
        refine ⟨_,hs.ld cE2 c3,?_⟩
        refine And.intro ⟨by omega,by omega⟩ ?_
        refine ⟨_,hs'.ld cE2 c3',?_⟩
        refine cnd (fun c4 => ?_) (fun c4 => ?_)
        · have c4:cs[i]≠ds[i]:=fun e=>by rw [e] at c4;simp at c4
          refine And.intro ?_ rfl
          rw [decide_eq_false (fun e=>c4 (by have e:=congrArg Gd.cs e;simp only at e;subst e;rfl))]
        · have c4:cs[i]=ds[i]:=by simp at c4;exact Prod.ext c4.1 c4.2
          refine again (i+1) _ _ _ (by omega) ⟨vI (wz (by omega) (by omega)),rfl,rfl,trivial⟩ ⟨rfl,rfl,trivial⟩ ⟨by omega,rfl,take_eq c3 c3' i3 c4⟩
      · have c3:cs.length=i:=by simp at c3;omega
        refine And.intro ?_ rfl
        rw [← c3,List.take_length,c2,List.take_length] at i3
        rw [i3];simp
theorem llRowsV_ok (a b:Option Addr) (fl fl':Nat) (L L':List Value) (ll mm:List (List Int)) (h:Hp) (hs:FtV h a L ll) (hs':FtV h b L' mm) (hn:ll.length≤1048576) (hl:∀ l∈ll,l.length≤1048576):Tri X lo 55 [.slice a ll.length fl,.slice b mm.length fl'] h fun v h'=>v = .bool (decide (ll=mm))∧h'=h:=by
  refine enter tbOk mtOk ⟨[],[(6,[0,1,2,3,4,5,6,7,8,9],[0,0,3,7,0,0,48,112,255,511])]⟩ 400 Tryz.func55 rfl rfl rfl fun hlo => ?_
  refine cnd (fun c1 => ?_) (fun c1 => ?_)
  · have c1:ll.length≠mm.length:=by simp at c1;omega
    exact And.intro (by rw [decide_eq_false (fun e=>c1 (congrArg List.length e))]) rfl
  · have c1:ll.length=mm.length:=by simp at c1;omega
    refine loop (σ:=Nat) tbOk mtOk ⟨[],[(6,[0,1,2,3,4,5,6,7,8,9],[0,0,3,7,0,0,48,112,255,511])]⟩ (fun i=>[(5,.v (.int .i64 (i:Int))),(0,.v (.slice a ll.length fl)),(1,.v (.slice b mm.length fl'))]) (fun _=>[]) (fun i h'=>i≤ll.length∧h'=h∧ll.take i=mm.take i) (fun i=>ll.length - i) 400 0 (fun _=>rfl) ⟨rfl,rfl,rfl,trivial⟩ trivial ⟨Nat.zero_le _,rfl,rfl⟩ (fun i h' hI again => ?_)
    obtain ⟨i1,rfl,i3⟩:=hI
    refine cnd (fun c2 => ?_) (fun c2 => ?_)
    · have c2:i < ll.length:=by simpa using c2
      have c2':i < mm.length:=by omega
      obtain ⟨a',xa,xf,rfl,xs,xl⟩:=hs.get c2
      obtain ⟨b',ya,yf,rfl,ys,yl⟩:=hs'.get c2'
      refine And.intro (by kernel_rfl) ?_
      refine And.intro ⟨by omega,by omega⟩ ?_
      refine ⟨_,xl _ (Ext.refl _),?_⟩
      refine And.intro ⟨by omega,by omega⟩ ?_
      refine ⟨_,yl _ (Ext.refl _),?_⟩
      refine callP (llInts_ok xa ya xf yf ll[i] mm[i] h' xs ys (hl _ (List.getElem_mem c2))) ?_
      rintro v h1 ⟨rfl,rfl⟩
      refine cnd (fun c3 => ?_) (fun c3 => ?_)
      · have c3:ll[i]≠mm[i]:=by simpa using c3
        refine And.intro ?_ rfl
        rw [decide_eq_false (fun e=>c3 (by subst e;rfl))]
      · have c3:ll[i]=mm[i]:=by simpa using c3
        exact again (i+1) _ _ _ (by omega) ⟨vI (wz (by omega) (by omega)),rfl,rfl,trivial⟩ trivial ⟨by omega,rfl,take_eq c2 c2' i3 c3⟩
    · have c2:ll.length=i:=by simp at c2;omega
      refine And.intro ?_ rfl
      rw [← c2,List.take_length,c1,List.take_length] at i3
      rw [i3];simp
theorem llScene_ok (s t:Sc) (ga la fa ga' la' fa':Option Addr) (gf lf ff gf' lf' ff':Nat) (L L':List Value) (h:Hp) (hs:ScR h s ga la fa L) (hs':ScR h t ga' la' fa' L') (hb:ScB s):Tri X lo 13 [scV s ga la fa gf lf ff,scV t ga' la' fa' gf' lf' ff'] h fun v h'=>v = .bool (decide (s=t))∧h'=h:=by
  refine enter tbOk mtOk ⟨[],[]⟩ 400 Tryz.func13 rfl rfl rfl fun hlo => ?_
  refine callP (llGrid_ok s.g t.g ga ga' gf gf' h hs.g hs'.g hb.g) ?_
  rintro v h1 ⟨rfl,rfl⟩
  refine cnd (fun c1 => ?_) (fun c1 => ?_)
  · have c1:s.g=t.g:=of_decide_eq_true c1
    refine callP (llInts_ok la la' lf lf' s.li t.li h1 hs.li hs'.li hb.li) ?_
    rintro v h2 ⟨rfl,rfl⟩
    refine cnd (fun c2 => ?_) (fun c2 => ?_)
    · have c2:s.li=t.li:=of_decide_eq_true c2
      refine callP (llRowsV_ok fa fa' ff ff' L L' s.ft t.ft h2 hs.ft hs'.ft hb.ft hb.el) ?_
      rintro v h3 ⟨rfl,rfl⟩
      refine And.intro ?_ rfl
      congr 1
      rw [decide_eq_decide]
      exact ⟨fun e=>Sc.ext' c1 c2 e,fun e=>by rw [e]⟩
    · have c2:s.li≠t.li:=of_decide_eq_false c2
      exact And.intro (by rw [decide_eq_false (fun e=>c2 (by rw [e]))]) rfl
  · have c1:s.g≠t.g:=of_decide_eq_false c1
    refine cndF ?_
    exact And.intro (by rw [decide_eq_false (fun e=>c1 (by rw [e]))]) rfl
structure ScD (base:Nat) (h:Hp) (s:Sc) (ga la fa:Option Addr) (L:List Value):Prop where
  r:ScR h s ga la fa L
  bg:∀ ad,ga=some ad→base≤ad.block
  bl:∀ ad,la=some ad→base≤ad.block
  bf:∀ ad,fa=some ad→base≤ad.block
  be:∀ x∈L,∀ b,blkOf x=some b→base≤b
theorem sls_x {α:Type} {h h':Hp} {enc:α→List Value} {sz rb base:Nat} {a:Option Addr} {l:List α} (s:Sls h enc sz a l) (x:Ext1 rb h h') (hb:rb < base) (ha:∀ ad,a=some ad→base≤ad.block):Sls h' enc sz a l :=
  sls_x1 x s fun ad e=>by have:=ha ad e;omega
theorem ScD.keep {base rb:Nat} {h h':Hp} {s:Sc} {ga la fa:Option Addr} {L:List Value} (d:ScD base h s ga la fa L) (x:Ext1 rb h h') (hb:rb < base):ScD base h' s ga la fa L:=by
  refine ⟨⟨sls_x d.r.g x hb d.bg,sls_x d.r.li x hb d.bl,sls_x d.r.ft.s x hb d.bf,d.r.ft.len,fun j v l h1 h2 => ?_⟩,d.bg,d.bl,d.bf,d.be⟩
  obtain ⟨a,fl,rfl,e⟩:=d.r.ft.el j v l h1 h2
  exact ⟨a,fl,rfl,sls_x e x hb fun ad q=>d.be _ (List.mem_of_getElem? h1) _ (by rw [q];rfl)⟩
theorem gx_sla {α:Type} {lo:Nat} {h:Hp} {enc:α→List Value} {sz:Nat} {o:Option (Nat×Nat)} {l:List α} (g:Gx lo h enc sz o l) (he:∀ x,(enc x).length=sz):∃ a fl,gv o l.length = .slice a l.length fl∧Sls h enc sz a l∧∀ ad,a=some ad→lo≤ad.block:=by
  match o,g with
  | none,g=>exact ⟨none,0,by rw [show l=[] from g];rfl,g,fun _ h=>by cases h⟩
  | some (b,e),g=>exact ⟨_,1,rfl,(g.2.p he).sls,fun ad h=>by cases h;exact g.1⟩
theorem ScO.drawn {base:Nat} {h:Hp} {s:Sc} {o1 o2 o3:Option (Nat×Nat)} {L:List Value} (r:ScO base h s o1 o2 o3 L):∃ ga la fa gf lf ff,scOV s o1 o2 o3=scV s ga la fa gf lf ff∧ScD base h s ga la fa L:=by
  obtain ⟨ga,gf,a1,a2,a3⟩:=gx_sla r.g1 cE2
  obtain ⟨la,lf,b1,b2,b3⟩:=gx_sla r.g2 fun _=>rfl
  obtain ⟨fa,ff,c1,c2,c3⟩:=gx_sla r.g3 vE1_len
  refine ⟨ga,la,fa,gf,lf,ff,?_,⟨a2,b2,c2,r.len,fun j x l h1 h2=>(r.el j x l h1 h2).sl⟩,a3,b3,c3,fun x hx b hb=>(r.lt (List.mem_append.2 (.inr (List.mem_filterMap.2 ⟨x,hx,hb⟩)))).2⟩
  unfold scOV scV
  rw [a1,b1,← r.len,c1]
theorem ScD.mono {base base':Nat} {h:Hp} {s:Sc} {ga la fa:Option Addr} {L:List Value} (d:ScD base h s ga la fa L) (hb:base'≤base):ScD base' h s ga la fa L :=
  ⟨d.r,fun ad e=>Nat.le_trans hb (d.bg ad e),fun ad e=>Nat.le_trans hb (d.bl ad e),fun ad e=>Nat.le_trans hb (d.bf ad e),fun x hx b e=>Nat.le_trans hb (d.be x hx b e)⟩
end Go.Proofs.YtgmkdjjcleobhaaGreat.Id
namespace Go.Proofs.YtgmkdjjcleobhaaGreat.Id
open Go.Id Go.Conc Go.Conc.Lib
open Go.Proofs
set_option linter.unusedVariables false
set_option maxRecDepth 100000
variable {X:Ctx Tryz.prog} {lo rb:Nat}
def DrawI (lo rb:Nat) (p k:Int) (h:Hp) (v:Value) (h':Hp):Prop:=∃ (q p':Int),v = .int .i64 q∧Rd lo h' rb p'∧(p≤p'∧p'≤p+k)∧Ext1 rb h h'
theorem l71Place_ok (rb:Nat) (p:Int) (g:Gd) (ad:Option Addr) (fl:Nat) (h:Hp) (r:Rd lo h rb p) (hp:p+3≤1000000000) (hn:g.cs.length≤1000):Tri X lo 80 [.pointer (some ⟨rb,0,none⟩),.agg #[.int .i64 g.w,.slice ad g.cs.length fl]] h (DrawI lo rb p 3 h):=by
  refine enter tbOk mtOk ⟨[],[]⟩ 400 Tryz.func80 rfl rfl rfl fun hlo => ?_
  have tail:∀ (h2:Hp) (p':Int),Rd lo h2 rb p'→p'+1≤1000000000→Tri X lo 103 [.pointer (some ⟨rb,0,none⟩),.int .i64 3] (h2.push (.cells [.int .i64 (-1),.int .i64 25,.int .i64 g.cs.length] 1 0)) fun v h'=>∃ q:Int,v = .int .i64 q∧0≤q∧q < 3∧Rd lo h' rb (p'+1)∧Ext1 rb (h2.push (.cells [.int .i64 (-1),.int .i64 25,.int .i64 g.cs.length] 1 0)) h':=fun h2 p' r2 hp'=>(pick_ok rb p' 3 _ (r2.ext (Ext.push _ _)) (by decide) hp').mono fun v h' ⟨q,a1,a2,a3,_,a5,a6⟩=>⟨q,a1,a2,a3 (by decide),a5,a6⟩
  have lt:=r.lt
  have rdL:∀ (h2 h3:Hp) (q:Int),rb < h2.n→0≤q→q < 3→Ext1 rb (h2.push (.cells [.int .i64 (-1),.int .i64 25,.int .i64 g.cs.length] 1 0)) h3→∃ k:Int,Ld h3 (addA ⟨h2.n,0,some 0⟩ (q.toNat*1)) 1 (inE k):=fun h2 h3 q l2 q1 q2 x=>by
    have r0:Row (h2.push (.cells [.int .i64 (-1),.int .i64 25,.int .i64 g.cs.length] 1 0)) h2.n 0 inE 1 [-1,25,(g.cs.length:Int)]:=Row.push (l:=[-1,25,(g.cs.length:Int)]) (enc:=inE)
    have hj:q.toNat < [-1,25,(g.cs.length:Int)].length:=by show q.toNat < 3;omega
    exact ⟨_,((r0.ext1 x (by omega)).sls (fun _=>rfl)).ld (fun _=>rfl) hj⟩
  refine cnd (fun c1 => ?_) (fun c1 => ?_)
  · refine cndT ?_
    refine drawE (σ:=Int×Int) tbOk mtOk ⟨[],[(2,[0,1,2,4,3,5,6,7,8],[0,1,3,7,0,16,63,127,255])]⟩ 400 (.fl 0 (.fl 1 (.fl 2 (.fl 4 (.ch 3 (.ch 5 (.fl 6 (.fl 7 (.fl 8 .fin))) .stop) (.ch 5 (.ch 3 (.fl 6 (.fl 7 (.fl 8 .fin))) .stop) .stop)))))) [0,1,3,7,0,16,63,127,255] (fun t=>[(4,.v (.int .i64 t.1))]) (fun _=>[]) (fun t h'=>Rd lo h' rb t.2∧(p≤t.2∧t.2≤p+3)∧Ext1 rb h h') (fun _=>rfl) (by kernel_rfl) ?_ ?_
    · refine And.intro ?_ ?_
      · repeat refine And.intro Is.r ?_
        refine And.intro ?_ trivial
        refine callP (tail h p r (by omega)) ?_
        rintro v h3 ⟨q',rfl,q1',q2',r3,x3⟩
        obtain ⟨y,ld⟩:=rdL h h3 q' lt q1' q2' x3
        repeat refine And.intro Is.r ?_
        refine And.intro ⟨q1',q2'⟩ ?_
        refine ⟨_,ld,?_⟩
        exact ⟨(y,_),⟨rfl,trivial⟩,trivial,r3,⟨by show p≤p+1;omega,by show p+1≤p+3;omega⟩,(((Ext.push _ _).one rb)).trans x3⟩
      · refine And.intro ?_ trivial
        refine callP (pick_ok rb (p) 3 h r (by decide) (by omega)) ?_
        rintro v h3 ⟨q',rfl,q1',q2',_,r3,x3⟩
        have q2':=q2' (by decide)
        have lt3:=r3.lt
        repeat refine And.intro Is.r ?_
        refine And.intro ?_ trivial
        obtain ⟨y,ld⟩:=rdL h3 _ q' lt3 q1' q2' ((Ext.refl _).one rb)
        repeat refine And.intro Is.r ?_
        refine And.intro ⟨q1',q2'⟩ ?_
        refine ⟨_,ld,?_⟩
        exact ⟨(y,_),⟨rfl,trivial⟩,trivial,r3.ext (Ext.push _ _),⟨by show p≤p+1;omega,by show p+1≤p+3;omega⟩,(id x3).trans ((Ext.push _ _).one rb)⟩
    · rintro ⟨y,p'⟩ h3 ⟨r3,i3,x3⟩
      exact ⟨y,p',rfl,r3,i3,x3⟩
  · have c1:g.cs.length≠0:=by have:=of_decide_eq_false c1;omega
    refine callP (pick_ok rb p 24 h r (by decide) (by omega)) ?_
    rintro v h2 ⟨q,rfl,q1,q2,q3,r2,x2⟩
    have l2:=r2.lt
    refine cnd (fun c2 => ?_) (fun c2 => ?_)
    · have hp1:p+1≤p+1:=Int.le_refl _
      refine drawE (σ:=Int×Int) tbOk mtOk ⟨[],[(2,[0,1,2,4,3,5,6,7,8],[0,1,3,7,0,16,63,127,255])]⟩ 400 (.fl 0 (.fl 1 (.fl 2 (.fl 4 (.ch 3 (.ch 5 (.fl 6 (.fl 7 (.fl 8 .fin))) .stop) (.ch 5 (.ch 3 (.fl 6 (.fl 7 (.fl 8 .fin))) .stop) .stop)))))) [0,1,3,7,0,16,63,127,255] (fun t=>[(4,.v (.int .i64 t.1))]) (fun _=>[]) (fun t h'=>Rd lo h' rb t.2∧(p≤t.2∧t.2≤p+3)∧Ext1 rb h h') (fun _=>rfl) (by kernel_rfl) ?_ ?_
      · refine And.intro ?_ ?_
        · repeat refine And.intro Is.r ?_
          refine And.intro ?_ trivial
          refine callP (tail h2 (p+1) r2 (by omega)) ?_
          rintro v h3 ⟨q',rfl,q1',q2',r3,x3⟩
          obtain ⟨y,ld⟩:=rdL h2 h3 q' l2 q1' q2' x3
          repeat refine And.intro Is.r ?_
          refine And.intro ⟨q1',q2'⟩ ?_
          refine ⟨_,ld,?_⟩
          exact ⟨(y,_),⟨rfl,trivial⟩,trivial,r3,⟨by show p≤(p+1)+1;omega,by show (p+1)+1≤p+3;omega⟩,(x2.trans ((Ext.push _ _).one rb)).trans x3⟩
        · refine And.intro ?_ trivial
          refine callP (pick_ok rb ((p+1)) 3 h2 r2 (by decide) (by omega)) ?_
          rintro v h3 ⟨q',rfl,q1',q2',_,r3,x3⟩
          have q2':=q2' (by decide)
          have lt3:=r3.lt
          repeat refine And.intro Is.r ?_
          refine And.intro ?_ trivial
          obtain ⟨y,ld⟩:=rdL h3 _ q' lt3 q1' q2' ((Ext.refl _).one rb)
          repeat refine And.intro Is.r ?_
          refine And.intro ⟨q1',q2'⟩ ?_
          refine ⟨_,ld,?_⟩
          exact ⟨(y,_),⟨rfl,trivial⟩,trivial,r3.ext (Ext.push _ _),⟨by show p≤(p+1)+1;omega,by show (p+1)+1≤p+3;omega⟩,(x2.trans x3).trans ((Ext.push _ _).one rb)⟩
      · rintro ⟨y,p'⟩ h3 ⟨r3,i3,x3⟩
        exact ⟨y,p',rfl,r3,i3,x3⟩
    · refine callP (pick_ok rb (p+1) g.cs.length h2 r2 (by omega) (by omega)) ?_
      rintro v h3 ⟨q',rfl,q1',q2',q3',r3,x3⟩
      exact ⟨q',_,rfl,r3,⟨by omega,by omega⟩,x2.trans x3⟩
theorem ScO.growFoot {base:Nat} {h:Hp} {s:Sc} {o1 o2:Option (Nat×Nat)} {b3 e3:Nat} {L:List Value} (r:ScO base h s o1 o2 (some (b3,e3)) L) (hlo:lo≤base) (hbn:base≤h.n) {j:Nat} (hj:j < s.ft.length) (x:Int) (hm:s.ft[j].length+1≤Id.maxLen) :
    ∃ v c ce h2 h3,L[j]? = some v∧Ap lo (h.push (.cells (inE x) 1 0)) 1 v (inE x) 1 (gv (some (c,ce)) (s.ft[j]++[x]).length) h2∧St lo h2 (addA ⟨b3,0,some e3⟩ (j*1)) [gv (some (c,ce)) (s.ft[j]++[x]).length] h3∧ScO base h3 ⟨s.g,s.li,s.ft.set j (s.ft[j]++[x])⟩ o1 o2 (some (b3,e3)) (L.set j (gv (some (c,ce)) (s.ft[j]++[x]).length))∧h.n≤h3.n∧∀ i,i < base→h3.g i=h.g i:=by
  have hjL:j < L.length:=by rw [r.len];exact hj
  obtain ⟨o,hv,g⟩:=r.el j L[j] s.ft[j] (List.getElem?_eq_getElem hjL) (List.getElem?_eq_getElem hj)
  have hLj:=List.getElem?_eq_getElem hjL
  have e1:Ext h (h.push (.cells (inE x) 1 0)):=Ext.push _ _
  have hn1:(h.push (.cells (inE x) 1 0)).n=h.n+1:=rfl
  have r1:=r.ext e1
  obtain ⟨n1,n2,n3,n4⟩:=r.nd
  generalize hl:s.ft[j]=l at *
  obtain ⟨o',h2,ap,g2,hn2,hk,ho⟩:∃ o' h2,Ap lo (h.push (.cells (inE x) 1 0)) 1 (gv o l.length) (inE x) 1 (gv o' (l++[x]).length) h2∧GR base h2 o' (l++[x])∧h.n≤h2.n∧(∀ i,i < h.n→¬isB o i→h2.g i=h.g i)∧∀ i,isB o' i→isB o i∨h.n≤i:=by
    match o,g with
    | none,g =>
      obtain rfl:l=[]:=g
      refine ⟨some (h.n+1,0),(h.push (.cells (inE x) 1 0)).push (.cells (inE x) 1 0),⟨by decide,rfl,?_⟩,⟨by omega,[],by simp [Hp.push],by simp [Hp.push,inE]⟩,by simp [Hp.push];omega,fun i hi _ => ?_,fun i hi => .inr ?_⟩
      · show (if 1=0 then _ else _)
        rw [if_neg (by decide)]
        exact ⟨by unfold Id.maxLen;omega,rfl,rfl⟩
      · simp only [Hp.push];rw [if_neg (by omega)];exact if_neg (by omega)
      · have:=isB_eq hi;omega
    | some (b,e),⟨g1,rr,g2⟩ =>
      have rp:=(((g2.ext e1).p fun _=>rfl).cut (m:=rr) fun _=>rfl)
      have ap:=rp.app (m:=[x]) (lo:=lo) (fun _=>rfl) (by decide) (by omega) (by simpa using hm)
      refine ⟨some (b,e+1),(h.push (.cells (inE x) 1 0)).set b (.cells ((l++[x]).flatMap inE) 1 (e+1)),by rw [List.length_append];exact ap,⟨g1,[],by rw [List.append_nil];exact Row.set (by have:=g2.lt;omega)⟩,by simp [Hp.set,Hp.push],fun i hi hb => ?_,fun i hi => .inl ?_⟩
      · simp only [Hp.set];rw [if_neg (fun q=>hb ⟨e,by rw [q]⟩)];exact e1.g i hi
      · have:=isB_eq hi;subst this;exact ⟨e,rfl⟩
  obtain ⟨c,ce,hoc⟩:∃ c e,o'=some (c,e):=by
    match o',g2 with
    | none,g2=>exact absurd (show l++[x]=[] from g2) (by simp)
    | some (c,e),_=>exact ⟨c,e,rfl⟩
  have lb3:b3 < h.n:=r.g3.2.lt
  have bj:∀ i,isB o i→blkOf L[j]=some i:=fun i ⟨e,q⟩=>by rw [hv,q];rfl
  have bjL:∀ i,isB o i→i∈blks L:=fun i hi=>mem_blks.2 ⟨j,_,hLj,bj i hi⟩
  have no3:¬ isB o b3:=fun q=>n3 b3 ⟨e3,rfl⟩ (bjL b3 q)
  have row3:Row h2 b3 e3 vE1 1 L:=⟨by omega,by rw [hk b3 lb3 no3];exact r.g3.2.g⟩
  have st:=row3.st (lo:=lo) vE1_len (by have:=r.g3.1;omega) hjL (gv o' (l++[x]).length)
  have hg:∀ i,i≠b3→(h2.set b3 (.cells ((L.set j (gv o' (l++[x]).length)).flatMap vE1) 1 e3)).g i=h2.g i:=fun i hi=>by simp only [Hp.set];rw [if_neg hi]
  have hxb:∀ i,blkOf (gv o' (l++[x]).length)=some i→isB o' i:=fun i hi=>by
    rw [blk_gv] at hi
    match o',hi with
    | some (c,e),hi=>cases hi;exact ⟨e,rfl⟩
  refine ⟨L[j],c,ce,h2,h2.set b3 (.cells ((L.set j (gv o' (l++[x]).length)).flatMap vE1) 1 e3),?_⟩
  rw [← hoc]
  refine ⟨hLj,by rw [hv];exact ap,st,⟨?_,?_,⟨r.g3.1,Row.set row3.lt⟩,by simp [r.len],fun k y m h1' h2' => ?_,?_⟩,hn2,fun i hi => ?_⟩
  · refine r.g1.keep hn2 fun i hi hb=>(hg i fun q=>(n1 i hb).2.1 (q▸⟨e3,rfl⟩)).trans (hk i hi fun q=>(n1 i hb).2.2 (bjL i q))
  · refine r.g2.keep hn2 fun i hi hb=>(hg i fun q=>(n2 i hb).1 (q▸⟨e3,rfl⟩)).trans (hk i hi fun q=>(n2 i hb).2 (bjL i q))
  · rcases get_set h1' with ⟨rfl,rfl⟩ | ⟨nk,h1'⟩
    · have h2':(s.ft.set k (l++[x]))[k]? = some m:=h2'
      rw [List.getElem?_set_self hj] at h2'
      cases h2'
      refine ⟨o',rfl,g2.keep (Nat.le_refl _) fun i hi hb=>hg i fun q => ?_⟩
      rcases ho i hb with p | p
      · exact no3 (q▸p)
      · omega
    · have h2':(s.ft.set j (l++[x]))[k]? = some m:=h2'
      rw [List.getElem?_set_ne (fun e=>nk e.symm)] at h2'
      have E:=r.el k y m h1' h2'
      refine E.keep hn2 fun b hb=>(hg b fun q=>n3 b3 ⟨e3,rfl⟩ (mem_blks.2 ⟨k,y,h1',q▸hb⟩)).trans (hk b (E.lt hb).1 fun q=>nk ?_)
      exact (blks_nd.1 n4) k j y L[j] b h1' hLj hb (bj b q)
  · have out:∀ b,b∈blks (L.set j (gv o' (l++[x]).length))→b∈blks L∨h.n≤b:=fun b hb=>by
      rcases mem_blks_set hb with q | q
      · exact .inl q
      · exact (ho b (hxb b q)).imp (bjL b) id
    refine nd_mk (fun b hb=>⟨(n1 b hb).1,(n1 b hb).2.1,fun q => ?_⟩) (fun b hb=>⟨(n2 b hb).1,fun q => ?_⟩) (fun b hb q => ?_) ?_
    · rcases out b q with q | q
      · exact (n1 b hb).2.2 q
      · have:=(r.g1.lt hb).1;omega
    · rcases out b q with q | q
      · exact (n2 b hb).2 q
      · have:=(r.g2.lt hb).1;omega
    · rcases out b q with q | q
      · exact n3 b hb q
      · have:=isB_eq hb;omega
    · rw [blks_nd] at n4 ⊢
      intro i k y z b hi hk' hy hz
      have lt:∀ {n:Nat} {y:Value},L[n]? = some y→blkOf y=some b→b < h.n:=fun q p=>(r.lt (List.mem_append.2 (.inr (mem_blks.2 ⟨_,_,q,p⟩)))).1
      rcases get_set hi with ⟨ei,ey⟩ | ⟨ni,hi2⟩
      · rcases get_set hk' with ⟨ek,ez⟩ | ⟨nk,hk2⟩
        · rw [ei,ek]
        · subst ey
          rcases ho b (hxb b hy) with p | p
          · have:=n4 k j z L[j] b hk2 hLj hz (bj b p);omega
          · have:=lt hk2 hz;omega
      · rcases get_set hk' with ⟨ek,ez⟩ | ⟨nk,hk2⟩
        · subst ez
          rcases ho b (hxb b hz) with p | p
          · have:=n4 i j y L[j] b hi2 hLj hy (bj b p);omega
          · have:=lt hi2 hy;omega
        · exact n4 i k y z b hi2 hk2 hy hz
  · have:i≠b3:=by have:=r.g3.1;omega
    exact (hg i this).trans (hk i (by omega) fun q=>by have:=(g.lt q).2;omega)
def DrawS (lo rb:Nat) (p k:Int) (h:Hp) (v:Value) (h':Hp):Prop:=∃ (s:Sc) (ga la fa:Option Addr) (gf lf ff:Nat) (L:List Value) (p':Int),v=scV s ga la fa gf lf ff∧ScD h.n h' s ga la fa L∧(s.g.cs.length≤40∧s.li.length≤21∧s.ft.length≤20∧∀ l∈s.ft,l.length≤41)∧Rd lo h' rb p'∧(p≤p'∧p'≤p+k)∧Ext1 rb h h'
theorem l71Scene_ok (rb:Nat) (p:Int) (h:Hp) (r:Rd lo h rb p) (hp:p+210≤1000000000):Tri X lo 79 [.pointer (some ⟨rb,0,none⟩)] h (DrawS lo rb p 210 h):=by
  refine enter tbOk mtOk ⟨[],[(8,[0,1,2,3,4,5,6,7,8,9,10],[0,1,0,0,8,0,56,120,248,511,1023]),(10,[0,1,2,3,4,5,6,7,8,9,10,11,12,13],[0,1,0,0,8,0,56,120,0,256,768,2040,4095,8191])]⟩ 400 Tryz.func79 rfl rfl rfl fun hlo => ?_
  refine callP (l71Bright_ok rb p h r (by omega)) ?_
  rintro v h1 ⟨w,sv,cs,p1,rfl,w1,d1,l1,r1,i1,x1⟩
  obtain ⟨a,fl,rfl,_⟩:=id d1
  have x1n:=x1.n
  have lt:=r.lt
  refine callP (sSceneNew_ok ⟨w,cs⟩ a fl h1 d1.sls.2 (by show (cs.length:Int) < _;omega)) ?_
  rintro v h2 ⟨⟨o1,o2,o3,L,rfl,rO⟩,e2⟩
  have r2:=r1.ext e2
  have n2:=e2.n
  have x2:=x1.trans (e2.one rb)
  have fin:∀ (s:Sc) (o1 o2 o3:Option (Nat×Nat)) (L:List Value) (h':Hp) (p':Int),ScO h1.n h' s o1 o2 o3 L→(s.g.cs.length≤40∧s.li.length≤21∧s.ft.length≤20∧∀ l∈s.ft,l.length≤41)→Rd lo h' rb p'→(p≤p'∧p'≤p+210)→Ext1 rb h h'→DrawS lo rb p 210 h (scOV s o1 o2 o3) h':=fun s o1 o2 o3 L h' p' q1 q2 q3 q4 q5=>by
    obtain ⟨ga,la,fa,gf,lf,ff,z,d⟩:=q1.drawn
    exact ⟨s,ga,la,fa,gf,lf,ff,L,p',z,d.mono x1n,q2,q3,q4,q5⟩
  refine callP (pick_ok rb p1 16 h2 r2 (by decide) (by omega)) ?_
  rintro v h3 ⟨q,rfl,q1,q2,q3,r3,x3⟩
  have n3:=x3.n
  have x03:=x2.trans x3
  have rO3:=rO.keep n3 fun b hb=>x3.g b (rO.lt hb).1 (by have:=(rO.lt hb).2;omega)
  by_cases hg:gOk ⟨w,cs⟩=true
  · have hN:newS ⟨w,cs⟩=scG ⟨w,cs⟩:=by unfold newS;rw [hg];rfl
    rw [hN] at rO3 ⊢
    have hk:scOk (scG ⟨w,cs⟩)=true:=scOk_G hg
    obtain ⟨ln1,ln2,ln3⟩:=scOk_len hk
    have hfl:∀ l∈(scG ⟨w,cs⟩).ft,l.length≤40:=fun l hl=>by have:=feetG_el _ l hl;have:(⟨w,cs⟩:Gd).cs.length=cs.length:=rfl;omega
    have bnd:(scG ⟨w,cs⟩).g.cs.length≤40∧(scG ⟨w,cs⟩).li.length≤21∧(scG ⟨w,cs⟩).ft.length≤20∧∀ l∈(scG ⟨w,cs⟩).ft,l.length≤41:=⟨by omega,by omega,by omega,fun l hl=>by have:=hfl l hl;omega⟩
    have hw:(scG ⟨w,cs⟩).g.w=w:=rfl
    generalize scG ⟨w,cs⟩=s at *
    obtain ⟨b1,t1,rfl⟩:=gx_some rO3.g1 ln1.1
    obtain ⟨b2,t2,rfl⟩:=gx_some rO3.g2 ln2.1
    obtain ⟨b3,t3,rfl⟩:=gx_some rO3.g3 (by rw [rO3.len];omega)
    refine cnd (fun c1 => ?_) (fun c1 => ?_)
    · refine cndT ?_
      exact fin s _ _ _ L h3 _ rO3 bnd r3 ⟨by omega,by omega⟩ x03
    · refine cnd (fun c2=>absurd (of_decide_eq_true c2) (by omega)) (fun _ => ?_)
      refine callP (pick_ok rb (p1+1) s.li.length h3 r3 (by omega) (by omega)) ?_
      rintro v h4 ⟨k,rfl,k1,k2,k3,r4,x4⟩
      have k2:=k2 (by omega)
      refine callP (pick_ok rb (p1+1+1) 6 h4 r4 (by decide) (by omega)) ?_
      rintro v h5 ⟨z,rfl,z1,z2,z3,r5,x5⟩
      have x35:=x4.trans x5
      have n5:=x35.n
      have x05:=x03.trans x35
      have rO5:=rO3.keep n5 fun b hb=>x35.g b (rO3.lt hb).1 (by have:=(rO3.lt hb).2;omega)
      have finD:∀ (s':Sc) (ga la fa:Option Addr) (gf lf ff:Nat) (L':List Value) (h':Hp) (p':Int),ScD h1.n h' s' ga la fa L'→(s'.g.cs.length≤40∧s'.li.length≤21∧s'.ft.length≤20∧∀ l∈s'.ft,l.length≤41)→Rd lo h' rb p'→(p≤p'∧p'≤p+210)→Ext1 rb h h'→DrawS lo rb p 210 h (scV s' ga la fa gf lf ff) h':=fun s' ga la fa gf lf ff L' h' p' q1 q2 q3 q4 q5=>⟨s',ga,la,fa,gf,lf,ff,L',p',rfl,q1.mono x1n,q2,q3,q4,q5⟩
      obtain ⟨bd1,bd2,bd3,bd4⟩:=bnd
      have lo1:h1.n≤b1:=rO5.g1.1
      have lo2:h1.n≤b2:=rO5.g2.1
      have lo3:h1.n≤b3:=rO5.g3.1
      obtain ⟨nd1,nd2,nd3,nd4⟩:=rO5.nd
      have rd:∀ {h':Hp},h5.n≤h'.n→(∀ i,i < h1.n→h'.g i=h5.g i)→Rd lo h' rb (p1+1+1+1):=fun hn hg=>r5.keep hn fun i hi=>hg i (by omega)
      have xx:∀ {h':Hp},h5.n≤h'.n→(∀ i,i < h1.n→h'.g i=h5.g i)→Ext1 rb h h':=fun hn hg=>⟨by have:=x05.n;omega,fun i hi hne=>(hg i (by omega)).trans (x05.g i hi hne)⟩
      refine cnd (fun c1 => ?_) (fun c1 => ?_)
      · obtain ⟨h6,st6,r6,n6,k6⟩:=rO5.light (lo:=lo) (by omega) (j:=k.toNat) (by omega) (IntKind.i64.wrap (s.li[k.toNat]'(by omega)+1))
        have hg6:∀ i,i < h1.n→h6.g i=h5.g i:=fun i hi=>k6 i (by omega)
        have F:=fin _ _ _ _ _ h6 _ r6 ⟨bd1,by show (s.li.set _ _).length≤21;rw [List.length_set];omega,bd3,bd4⟩ (rd (by omega) hg6) ⟨by omega,by omega⟩ (xx (by omega) hg6)
        have hv:scOV ⟨s.g,s.li.set k.toNat (IntKind.i64.wrap (s.li[k.toNat]'(by omega)+1)),s.ft⟩ (some (b1,t1)) (some (b2,t2)) (some (b3,t3))=scOV s (some (b1,t1)) (some (b2,t2)) (some (b3,t3)):=by unfold scOV;simp only [List.length_set]
        rw [hv] at F
        refine And.intro (by kernel_rfl) ?_
        refine And.intro ⟨by omega,by omega⟩ ?_
        refine ⟨_,(rO5.g2.2.sls fun _=>rfl).ld (fun _=>rfl) (show k.toNat < s.li.length by omega),?_⟩
        refine And.intro ⟨by omega,by omega⟩ ?_
        refine ⟨h6,st6,?_⟩
        repeat refine And.intro Is.r ?_
        exact F
      · refine cnd (fun c2 => ?_) (fun c2 => ?_)
        · have hkf:k.toNat < s.ft.length:=by omega
          have hLk:k.toNat < L.length:=by rw [rO5.len];exact hkf
          have hld:∀ {h':Hp},Ext1 rb h5 h'→Ld h' (addA ⟨b3,0,some t3⟩ (k.toNat*1)) 1 [L[k.toNat]]:=fun x=>((rO5.g3.2.ext1 x (by omega)).sls vE1_len).ld vE1_len hLk
          obtain ⟨oo,hvv,_⟩:=rO5.el k.toNat _ _ (List.getElem?_eq_getElem hLk) (List.getElem?_eq_getElem hkf)
          refine And.intro (by kernel_rfl) ?_
          refine And.intro ⟨by omega,by omega⟩ ?_
          refine ⟨_,hld ((Ext.refl _).one rb),?_⟩
          refine callP (pick_ok rb (p1+1+1+1) 26 h5 r5 (by decide) (by omega)) ?_
          rintro v h6 ⟨x,rfl,y1,y2,y3,r6,x6⟩
          have n6:=x6.n
          have rO6:=rO5.keep n6 fun b hb=>x6.g b (rO5.lt hb).1 (by have:=(rO5.lt hb).2;omega)
          repeat first | refine And.intro Is.r ?_ | refine And.intro ⟨_,hld x6,Is.r⟩ ?_
          have hlk:=bd4 _ (List.getElem_mem hkf)
          obtain ⟨v',c7,ce7,h7,h8,hv',ap,st8,r8,n8,k8⟩:=rO6.growFoot (lo:=lo) (by omega) (by omega) hkf x (by unfold Id.maxLen;omega)
          obtain rfl:L[k.toNat]=v':=Option.some.inj ((List.getElem?_eq_getElem hLk).symm.trans hv')
          repeat first | refine And.intro Is.r ?_ | refine And.intro ⟨_,hld (x6.trans ((Ext.push _ _).one rb)),Is.r⟩ ?_
          refine ⟨inE x,one_cells rfl,_,h7,ap,?_⟩
          repeat refine And.intro Is.r ?_
          refine And.intro ⟨by omega,by omega⟩ ?_
          refine ⟨h8,st8,?_⟩
          repeat refine And.intro Is.r ?_
          have hg8:∀ i,i < h1.n→h8.g i=h6.g i:=k8
          have F:=fin _ _ _ _ _ h8 (p1+1+1+1+1) r8 ⟨bd1,bd2,by show (s.ft.set _ _).length≤20;rw [List.length_set];omega,fun l hl=>by
            rcases List.mem_or_eq_of_mem_set hl with q | q
            · exact bd4 l q
            · rw [q,List.length_append];have:=hfl _ (List.getElem_mem hkf);simp;omega⟩ (r6.keep n8 fun i hi=>k8 i (by omega)) ⟨by omega,by omega⟩ ⟨by have:=x05.n;omega,fun i hi hne=>(k8 i (by omega)).trans ((x05.trans x6).g i hi hne)⟩
          have hv:scOV ⟨s.g,s.li,s.ft.set k.toNat (s.ft[k.toNat]++[x])⟩ (some (b1,t1)) (some (b2,t2)) (some (b3,t3))=scOV s (some (b1,t1)) (some (b2,t2)) (some (b3,t3)):=by unfold scOV;simp only [List.length_set]
          rw [hv] at F
          exact F
        · refine cnd (fun c3 => ?_) (fun c3 => ?_)
          · have st6:=rO5.g1.2.st (lo:=lo) cE2 (by omega) (j:=0) (by omega) ((6,0):Cl)
            have x6:Ext1 b1 h5 (h5.set b1 (.cells ((s.g.cs.set 0 (6,0)).flatMap cE) 2 t1)):=((Ext.refl _).one b1).set _ (.inl rfl)
            have r6:=rO5.cells x6 (Row.set rO5.g1.2.lt)
            have hg6:∀ i,i < h1.n→(h5.set b1 (.cells ((s.g.cs.set 0 (6,0)).flatMap cE) 2 t1)).g i=h5.g i:=fun i hi=>x6.g i (by omega) (by omega)
            have F:=fin _ _ _ _ _ _ _ r6 ⟨by show (s.g.cs.set _ _).length≤40;rw [List.length_set];omega,bd2,bd3,bd4⟩ (rd (Nat.le_refl _) hg6) ⟨by omega,by omega⟩ (xx (Nat.le_refl _) hg6)
            have hv:scOV ⟨⟨s.g.w,s.g.cs.set 0 (6,0)⟩,s.li,s.ft⟩ (some (b1,t1)) (some (b2,t2)) (some (b3,t3))=scOV s (some (b1,t1)) (some (b2,t2)) (some (b3,t3)):=by unfold scOV;simp only [List.length_set]
            rw [hv] at F
            refine And.intro ⟨by omega,by omega⟩ ?_
            refine ⟨_,st6,?_⟩
            exact F
          · have hR:ScD h1.n h5 s (some ⟨b1,0,some t1⟩) (some ⟨b2,0,some t2⟩) (some ⟨b3,0,some t3⟩) L:=⟨⟨rO5.g1.2.sls cE2,rO5.g2.2.sls fun _=>rfl,rO5.g3.2.sls vE1_len,rO5.len,fun j x l q1 q2=>(rO5.el j x l q1 q2).sl⟩,fun ad e=>by cases e;exact lo1,fun ad e=>by cases e;exact lo2,fun ad e=>by cases e;exact lo3,fun x hx b hb=>(rO5.lt (List.mem_append.2 (.inr (List.mem_filterMap.2 ⟨x,hx,hb⟩)))).2⟩
            refine cnd (fun c4 => ?_) (fun c4 => ?_)
            · refine And.intro ⟨by omega,by omega,by omega⟩ ?_
              obtain ⟨l0,ft',hft⟩:∃ l0 ft',s.ft=l0::ft':=by
                cases hh:s.ft with
                | nil=>rw [hh] at ln3;simp at ln3;omega
                | cons a l=>exact ⟨a,l,rfl⟩
              obtain ⟨x0,L',hL⟩:∃ x0 L',L=x0::L':=by
                cases hh:L with
                | nil=>have:=rO5.len;rw [hh,hft] at this;simp at this
                | cons a l=>exact ⟨a,l,rfl⟩
              have hlen:L'.length=ft'.length:=by have:=rO5.len;rw [hL,hft] at this;simpa using this
              have hlf:s.ft.length=ft'.length+1:=by rw [hft];rfl
              have el':∀ (j:Nat) (x:Value) (l:List Int),L'[j]? = some x→ft'[j]? = some l→SlV h5 inE 1 x l:=fun j x l q1 q2=>hR.r.ft.el (j+1) x l (by rw [hL];simpa using q1) (by rw [hft];simpa using q2)
              have bb:∀ l∈ft',l.length≤41:=fun l hl=>bd4 l (by rw [hft];exact List.mem_cons_of_mem _ hl)
              have be':∀ x∈L',∀ b,blkOf x=some b→h1.n≤b:=fun x hx=>hR.be x (by rw [hL];exact List.mem_cons_of_mem _ hx)
              have g3:h5.g b3 = .cells (x0::L') 1 t3:=by rw [rO5.g3.2.g,flat_vE1,hL]
              by_cases hn:ft'=[]
              · refine .inr ⟨by rw [hlf,hn];rfl,?_⟩
                have F:=finD ⟨s.g,s.li,[]⟩ (some ⟨b1,0,some t1⟩) (some ⟨b2,0,some t2⟩) (some ⟨b3,0,some t3⟩) 1 1 2 [] h5 _ ⟨⟨hR.r.g,hR.r.li,⟨⟨rO5.g3.2.lt,_,_,g3,by unfold sub?;simp⟩,rfl,fun j x l q1=>by simp at q1⟩⟩,hR.bg,hR.bl,hR.bf,fun x hx=>by simp at hx⟩ ⟨bd1,bd2,by simp,fun l hl=>by simp at hl⟩ r5 ⟨by omega,by omega⟩ x05
                exact F
              · have hp:=List.length_pos_iff.2 hn
                refine .inl ⟨by omega,?_⟩
                have F:=finD ⟨s.g,s.li,ft'⟩ (some ⟨b1,0,some t1⟩) (some ⟨b2,0,some t2⟩) (some (addA ⟨b3,0,some t3⟩ 1)) 1 1 2 L' h5 _ ⟨⟨hR.r.g,hR.r.li,⟨⟨rO5.g3.2.lt,_,_,g3,by unfold sub?;simp [addA,flat_vE1,Nat.add_comm]⟩,hlen,el'⟩⟩,hR.bg,hR.bl,fun ad e=>by cases e;exact lo3,be'⟩ ⟨bd1,bd2,by show ft'.length≤20;omega,bb⟩ r5 ⟨by omega,by omega⟩ x05
                have e:((s.ft.length:Int) - 1).toNat=ft'.length:=by omega
                have hv:scV ⟨s.g,s.li,ft'⟩ (some ⟨b1,0,some t1⟩) (some ⟨b2,0,some t2⟩) (some (addA ⟨b3,0,some t3⟩ 1)) 1 1 2=Value.agg #[.int .i64 s.g.w,.slice (some ⟨b1,0,some t1⟩) s.g.cs.length 1,.slice (some ⟨b2,0,some t2⟩) s.li.length 1,.slice (some (addA ⟨b3,0,some t3⟩ 1)) ((s.ft.length:Int) - 1).toNat 2]:=by unfold scV;rw [e]
                rw [hv] at F
                exact F
            · refine cnd (fun c5 => ?_) (fun c5 => ?_)
              · have e6:Ext h5 (h5.push (.cells (inE 0) 1 0)):=Ext.push _ _
                have ap:=(rO5.g2.2.ext e6).app (m:=[(0:Int)]) (lo:=lo) (fun _=>rfl) (by decide) (by omega) (by unfold Id.maxLen;simp;omega)
                have x6:Ext1 b2 h5 ((h5.push (.cells (inE 0) 1 0)).set b2 (.cells ((s.li++[(0:Int)]).flatMap inE) 1 (t2+1))):=(e6.one b2).set _ (.inl rfl)
                have rw6:Row ((h5.push (.cells (inE 0) 1 0)).set b2 (.cells ((s.li++[(0:Int)]).flatMap inE) 1 (t2+1))) b2 (t2+1) inE 1 (s.li++[(0:Int)]):=Row.set (rO5.g2.2.ext e6).lt
                refine ⟨inE 0,one_cells rfl,_,_,ap,?_⟩
                have n12:b1≠b2:=fun e=>(nd1 b1 ⟨t1,rfl⟩).1 ⟨t2,by rw [e]⟩
                have n32:b3≠b2:=fun e=>(nd2 b2 ⟨t2,rfl⟩).1 ⟨t3,by rw [e]⟩
                have x6n:=x6.n
                have D:ScD h1.n _ ⟨s.g,s.li++[(0:Int)],s.ft⟩ (some ⟨b1,0,some t1⟩) (some ⟨b2,0,some (t2+1)⟩) (some ⟨b3,0,some t3⟩) L:=⟨⟨(rO5.g1.2.ext1 x6 n12).sls cE2,rw6.sls fun _=>rfl,⟨(rO5.g3.2.ext1 x6 n32).sls vE1_len,rO5.len,fun j x l q1 q2=>by
                  have E:=rO5.el j x l q1 q2
                  exact (E.keep x6n fun b hb=>x6.g b (E.lt hb).1 fun e=>(nd2 b2 ⟨t2,rfl⟩).2 (mem_blks.2 ⟨j,x,q1,e▸hb⟩)).sl⟩⟩,hR.bg,fun ad e=>by cases e;exact lo2,hR.bf,hR.be⟩
                have hg6:∀ i,i < h1.n→((h5.push (.cells (inE 0) 1 0)).set b2 (.cells ((s.li++[(0:Int)]).flatMap inE) 1 (t2+1))).g i=h5.g i:=fun i hi=>x6.g i (by omega) (by omega)
                have F:=finD _ _ _ _ 1 1 1 _ _ _ D ⟨bd1,by show (s.li++[(0:Int)]).length≤21;simp;omega,bd3,bd4⟩ (rd x6n hg6) ⟨by omega,by omega⟩ (xx x6n hg6)
                have hv:scV ⟨s.g,s.li++[(0:Int)],s.ft⟩ (some ⟨b1,0,some t1⟩) (some ⟨b2,0,some (t2+1)⟩) (some ⟨b3,0,some t3⟩) 1 1 1=Value.agg #[.int .i64 s.g.w,.slice (some ⟨b1,0,some t1⟩) s.g.cs.length 1,.slice (some ⟨b2,0,some (t2+1)⟩) (s.li.length+1) 1,.slice (some ⟨b3,0,some t3⟩) s.ft.length 1]:=by unfold scV;simp only [List.length_append,List.length_singleton]
                rw [hv] at F
                exact F
              · have F:=finD ⟨⟨0,s.g.cs⟩,s.li,s.ft⟩ (some ⟨b1,0,some t1⟩) (some ⟨b2,0,some t2⟩) (some ⟨b3,0,some t3⟩) 1 1 1 L h5 _ ⟨⟨hR.r.g,hR.r.li,hR.r.ft⟩,hR.bg,hR.bl,hR.bf,hR.be⟩ ⟨bd1,bd2,bd3,bd4⟩ r5 ⟨by omega,by omega⟩ x05
                exact F
  · have hg:gOk ⟨w,cs⟩=false:=by simpa using hg
    have hN:newS ⟨w,cs⟩=sc0:=by unfold newS;rw [hg];rfl
    rw [hN] at rO3 ⊢
    obtain ⟨ga,la,fa,gf,lf,ff,z,d⟩:=rO3.drawn
    have F:=fin sc0 o1 o2 o3 L h3 _ rO3 ⟨by simp [sc0],by simp [sc0],by simp [sc0],fun l hl=>by simp [sc0] at hl⟩ r3 ⟨by omega,by omega⟩ x03
    rw [z] at F ⊢
    refine cnd (fun c1 => ?_) (fun c1 => ?_)
    · refine cndT ?_
      exact F
    · refine cndT ?_
      exact F
end Go.Proofs.YtgmkdjjcleobhaaGreat.Id
namespace Go.Proofs.YtgmkdjjcleobhaaGreat.Id
open Go.Id Go.Conc Go.Conc.Lib
open Go.Proofs
set_option linter.unusedVariables false
set_option maxRecDepth 100000
section
variable {X:Ctx Tryz.prog} {lo:Nat}
def ScS (s:Sc):Prop:=s.g.cs.length≤40∧s.li.length≤21∧s.ft.length≤20∧∀ l∈s.ft,l.length≤41
theorem ScS.b {s:Sc} (h:ScS s):ScB s:=⟨by have:=h.1;omega,by have:=h.2.1;omega,by have:=h.2.2.1;omega,fun l hl=>by have:=h.2.2.2 l hl;omega⟩
theorem DrawSceneNew_ok (a:Option Addr) (fl:Nat) (bs:List Nat) (h:Hp) (hs:Sls h uE 1 a bs) (hn:bs.length≤1048576) (hb:∀ b∈bs,b < 256):Tri X lo 10 [.slice a bs.length fl] h (DrawnG h):=by
  refine enter tbOk mtOk ⟨[],[]⟩ 400 Tryz.func10 rfl rfl rfl fun hlo => ?_
  refine callP (l6Open_ok a fl bs h hs hn hb) ?_
  rintro v h1 ⟨rfl,r1,x1⟩
  refine callP (l71Bright_ok h.n 0 h1 r1 (by decide)) ?_
  rintro v h2 ⟨w,sv,cs,p,rfl,w1,d,l,r2,i2,x2⟩
  obtain ⟨a',fl',rfl,_⟩:=id d
  exact ⟨⟨w,cs⟩,a',fl',rfl,d.mono x1.n,l,x2.out x1 (Nat.le_refl _)⟩
end
variable {N0:Nat→Prop} {lo:Nat}
end Go.Proofs.YtgmkdjjcleobhaaGreat.Id
namespace Go.Proofs.YtgmkdjjcleobhaaGreat.Id
open Go.Id Go.Conc Go.Conc.Lib
open Go.Proofs
set_option linter.unusedVariables false
section
variable {N0:Nat→Prop} {lo:Nat}
end
end Go.Proofs.YtgmkdjjcleobhaaGreat.Id
namespace Go.Id
open Go.Conc Go.ChangeShapes Go.WideShapes
set_option linter.unusedVariables false
theorem cell_spot {w:World} {a:Addr} {v:Value} (h:w.cell? a=some v):a.spot=none∧a.block < w.heap.size:=by
  unfold World.cell? at h
  split at h
  · rename_i c _ _ hb
    split at h
    · cases h
    · rename_i hs
      refine ⟨?_,(Array.getElem?_eq_some_iff.1 hb).1⟩
      cases hsp:a.spot with
      | none=>rfl
      | some _=>rw [hsp] at hs;exact absurd rfl hs
  · cases h
def InOk (W:World) (s:Sim) (h:Hp):Prop:=SimOk (lowOf W) h.n s (fun _=>False) h W
theorem InOk.nil (W:World):InOk W ⟨fun _=>none,fun _=>0,fun _=>none⟩ ⟨0,fun _ => .cells [] 0 0⟩ :=
  ⟨fun id c h=>(by cases h),fun id c h=>(by cases h),fun id c id' c' h=>(by cases h),fun id b h=>(by cases h),fun b h=>h.elim,fun b h=>h.elim,fun b h=>h,Nat.le_refl _⟩
section
variable {W:World} {s:Sim} {h:Hp} {α:Type} {enc:α→List Value} {sz:Nat} {l:List α} {ys:List Value}
theorem InOk.slice (I:InOk W s h) (he:∀ x,(enc x).length=sz) (hz:sz≠0) (A:Option Addr) (cap:Nat) (hl:l.length≤cap) (hv:VRm s (l.flatMap enc) ys) (hc:∀ a,A=some a→∀ (i:Nat) (v:Value),ys[i]? = some v→W.cell? (a.add i)=some v)
    (hn:A=none→l=[]∧cap=0) (hb:∀ a,A=some a→l=[]→∃ b0,b0 < W.heap.size) :
    ∃ s' h' A' fl,InOk W s' h'∧s.le s'∧Ext h h'∧VR s' (.slice A' l.length fl) (.slice A l.length cap)∧Sls h' enc sz A' l:=by
  cases A with
  | none =>
    obtain ⟨rfl,rfl⟩:=hn rfl
    exact ⟨s,h,none,0,I,s.le_refl,Ext.refl h,.sl0,rfl⟩
  | some a =>
    have hnone:s.adr h.n=none:=by
      cases hx:s.adr h.n with
      | none=>rfl
      | some c=>exact absurd (I.cells _ c hx).1 (Nat.lt_irrefl _)
    obtain ⟨c,hcap,hcb,hH,hne⟩:∃ c:Cel,c.cap=cap∧c.b < W.heap.size∧Holds W c.b c.o ys∧(l.length≠0→a=⟨c.b,c.o+0,none⟩):=by
      by_cases hl0:l=[]
      · obtain ⟨b0,hb0⟩:=hb a rfl hl0
        refine ⟨⟨b0,0,cap⟩,rfl,hb0,fun i v hv' => ?_,fun h=>absurd (by rw [hl0];rfl) h⟩
        have:=hv.1.1
        rw [hl0] at this
        have:=(List.getElem?_eq_some_iff.1 hv').1
        simp at *;omega
      · have hy:0 < ys.length:=by
          rw [← hv.1.1,flat_len he]
          exact Nat.mul_pos (List.length_pos_iff.2 hl0) (Nat.pos_of_ne_zero hz)
        have h0:=hc a rfl 0 ys[0] (List.getElem?_eq_getElem hy)
        rw [show a.add 0=a from rfl] at h0
        obtain ⟨e1,e2⟩:=cell_spot h0
        have ea:a=⟨a.block,a.off,none⟩:=by cases a;simp only at e1;rw [e1]
        refine ⟨⟨a.block,a.off,cap⟩,rfl,e2,fun i v hv' => ?_,fun _=>ea⟩
        have:=hc a rfl i v hv'
        rw [ea,add_none] at this
        exact this
    refine ⟨s.up h.n c 0,h.push (.cells (l.flatMap enc) sz 0),some ⟨h.n,0,some 0⟩,2,?_,?_,Ext.push _ _,?_,?_⟩
    · have hle:s.le (s.up h.n c 0):=Sim.up_le fun c₀ hc₀=>by rw [hnone] at hc₀;cases hc₀
      refine ⟨fun id c' hc' => ?_,fun id c' hc' hlo => ?_,fun id c' id' c'' h1 h2 hlo => ?_,fun id b hb' => ?_,fun b h=>h.elim,fun b h=>h.elim,fun b h=>h,Nat.le_refl _⟩
      · simp only [Sim.up] at hc'
        by_cases hid:id=h.n
        · subst hid
          rw [if_pos rfl] at hc';cases hc'
          exact ⟨by simp [Hp.push],fun _=>hcb,l.flatMap enc,sz,by simp [Hp.push,Sim.up],ys,hv.mono hle,hH⟩
        · rw [if_neg hid] at hc'
          obtain ⟨g1,g2,cs,sz',g3,ys',g4,g5⟩:=I.cells id c' hc'
          refine ⟨by simp [Hp.push];omega,fun _=>g2 g1,cs,sz',?_,ys',g4.mono hle,g5⟩
          simp [Hp.push,Sim.up,hid,g3]
      · simp only [Sim.up] at hc'
        by_cases hid:id=h.n
        · subst hid;exact absurd (show h.n+1≤h.n from hlo) (by omega)
        · rw [if_neg hid] at hc';have:=(I.cells id c' hc').1;exact absurd (show h.n+1≤id from hlo) (by omega)
      · simp only [Sim.up] at h1
        by_cases hid:id=h.n
        · subst hid;exact absurd (show h.n+1≤h.n from hlo) (by omega)
        · rw [if_neg hid] at h1;have:=(I.cells id c' h1).1;exact absurd (show h.n+1≤id from hlo) (by omega)
      · have hb'':s.mp id=some b:=hb'
        have:=(I.maps id b hb'').1
        exact ⟨by simp [Hp.push];omega,fun hlo=>absurd (show h.n+1≤id from hlo) (by omega)⟩
    · exact Sim.up_le fun c₀ hc₀=>by rw [hnone] at hc₀;cases hc₀
    · refine .sl h.n 0 (some 0) l.length 2 a cap c (by simp [Sim.up]) (by simp [Sim.up,epOf]) (fun _=>⟨fun hx => ?_,fun hx=>by cases hx⟩) (fun hx=>by cases hx) hl
      rcases hx with hx | hx
      · exact hne hx
      · cases hx
    · exact (Row.push (h:=h) (e:=0) (enc:=enc) (sz:=sz) (l:=l)).sls he
end
section
variable {H:Type} {enc:TypeId×Value→H} {P:Program} {W:World} {base:Nat} {spare:Nat→Bool} {held:Bool} {α:Type} {en:α→List Value} {sz:Nat}
theorem cells_get {a:Addr} {n:Nat} {cs:List Value} (h:W.cells? base a n=some cs):cs.length=n∧∀ i,i < n→W.cell? (a.add i)=cs[i]? := by
  obtain ⟨_,h1,h2⟩:=World.cells?_some h
  exact ⟨h1,h2⟩
theorem open_plain {t e:TypeId} {v:Value} {x:DataW H×List MemPlace} (ht:P.underlying t=some (.slice e)) (hsz:P.cellsOf e=sz) (hz:sz≠0) (hen:∀ x,(en x).length=sz)
    (dec:∀ n cs y,DataW.trod enc P W base spare held n e cs=some y→∃ q,cs=en q) {fuel:Nat} (h:DataW.trod enc P W base spare held fuel t [v]=some x) :
    ∃ (A:Option Addr) (cap:Nat) (l:List α),v = .slice A l.length cap∧l.length≤cap∧cap≤Go.maxLen∧(A=none→l=[]∧cap=0)∧∀ a,A=some a→∀ (i:Nat) (u:Value),(l.flatMap en)[i]? = some u→W.cell? (a.add i)=some u:=by
  rcases Go.Deep.open_slice ht h with ⟨hcs,_⟩ | ⟨a,len,cap,m,n,D,Pl,hcs,_,hl,hm,hmm,_,hx⟩
  · simp at hcs;subst hcs
    exact ⟨none,0,[],rfl,Nat.le_refl _,by unfold Go.maxLen;omega,fun _=>⟨rfl,rfl⟩,fun a h=>by cases h⟩
  · simp at hcs;subst hcs
    have hlm:len≤m:=by rw [hmm];split<;>omega
    have each:∀ i,i < len→∃ q:α,∀ k,k < sz→W.cell? ((a.add (i*sz)).add k)=(en q)[k]? := by
      intro i hi
      obtain ⟨cs',h1,h2⟩:=hx i (by omega)
      obtain ⟨q,rfl⟩:=dec _ _ _ h2
      rw [hsz] at h1
      exact ⟨q,(cells_get h1).2⟩
    by_cases h0:len=0
    · subst h0
      exact ⟨some a,cap,[],rfl,Nat.zero_le _,hm,fun h=>(by cases h),fun a _ i u hu=>by simp at hu⟩
    · obtain ⟨q0,hq0⟩:=each 0 (by omega)
      have hs:a.spot=none:=by
        have h1:=hq0 0 (by omega)
        have hlt:0 < (en q0).length:=by rw [hen];omega
        rw [List.getElem?_eq_getElem hlt] at h1
        have:(a.add (0*sz)).add 0=a:=by simp [Addr.add]
        rw [this] at h1
        exact (cell_spot h1).1
      have ea:a=⟨a.block,a.off,none⟩:=by cases a;simp only at hs;rw [hs]
      obtain ⟨q,hq⟩:∃ q:Nat→α,∀ i,i < len→∀ k,k < sz→W.cell? ((a.add (i*sz)).add k)=(en (q i))[k]? := by
        classical
        exact ⟨fun i=>if hi:i < len then (each i hi).choose else q0,fun i hi=>by simp only [dif_pos hi];exact (each i hi).choose_spec⟩
      have hlen:((List.range len).map q).length=len:=by simp
      refine ⟨some a,cap,(List.range len).map q,by rw [hlen],by rw [hlen];exact hl,hm,fun h=>(by cases h),fun b hb i u hu => ?_⟩
      cases hb
      have hi:i < len*sz:=by
        have:=(List.getElem?_eq_some_iff.1 hu).1
        rw [flat_len hen,hlen] at this;exact this
      have hdiv:i / sz < len:=Nat.div_lt_of_lt_mul (by rw [Nat.mul_comm];exact hi)
      have hmod:i % sz < sz:=Nat.mod_lt _ (Nat.pos_of_ne_zero hz)
      have hsum:i / sz*sz+i % sz=i:=by rw [Nat.mul_comm];exact Nat.div_add_mod i sz
      have h1:=hq (i / sz) hdiv (i % sz) hmod
      rw [ea,add_none,add_none,Nat.add_assoc,hsum] at h1
      rw [ea,add_none,h1]
      have h2:=flat_get hen ((List.range len).map q) (i / sz) (by rw [hlen];exact hdiv)
      have h3:(((List.range len).map q).flatMap en)[i]? = (((((List.range len).map q).flatMap en).drop (i / sz*sz)).take sz)[i % sz]? := by
        rw [List.getElem?_take,if_pos hmod,List.getElem?_drop,hsum]
      rw [h3,h2] at hu
      simp at hu
      rw [← hu]
end
section
variable {P:Program} {W:World} {r:Reach} {b0:Nat}
theorem block_cell {t : TypeId} {a : Addr} {len cap : Nat} (h : Cell.okWide P W r b0 t (.slice (some a) len cap)) : a.block < W.heap.size := by
  have h' : Cell.ok P W r b0 t (.slice (some a) len cap) := by
    unfold Cell.okWide at h
    split at h <;> first | exact h | (rename_i e; cases e)
  unfold Cell.ok at h'
  split at h' <;> first | exact h'.elim | skip
  all_goals first
    | (rename_i e; cases e; done)
    | (rename_i e _ _ _ _ he; cases he
       obtain ⟨_, _, _, _, row, cells, hs, _⟩ := h'
       unfold World.shape? at hs
       cases hb : W.heap[a.block]? with
       | none => rw [hb] at hs; cases hs
       | some o => exact (Array.getElem?_eq_some_iff.1 hb).1)
end
open Go.RowKit
theorem below_of {W w':World} (K:Kept (lowOf W) (fun _=>False) W w'):Below W.heap.size W { w' with tape:=W.tape }:=⟨K.os,rfl,K.out,K.size,fun k hk=>K.low k hk⟩
theorem kept_frame {W w':World} (K:Kept (lowOf W) (fun _=>False) W w') (may:MemPlace→Prop):W.keptBut w' may:=by
  obtain ⟨a,b,c⟩:=(below_of K).frame may
  exact ⟨a,b,c⟩
theorem Trod_tape {H:Type} {enc:TypeId×Value→H} {P:Program} {w:World} {tp:Tape} {base:Nat} {spare:Nat→Bool} {held:Bool} {t:TypeId} {v:Value} {d:DataW H} {ps:List MemPlace} (h:DataW.Trod enc P { w with tape:=tp } base spare held t v d ps):DataW.Trod enc P w base spare held t v d ps :=
  DataW.Trod.of_heap (w:={ w with tape:=tp }) (w':=w) rfl h
end Go.Id
namespace Go.Proofs.YtgmkdjjcleobhaaGreat.Id
open Go.Id Go.Conc Go.Proofs
open Go.ChangeShapes Go.WideShapes Go.ChangeAt Go.RowKit
set_option linter.unusedVariables false
def uF (x:Fin 256):List Value:=[.int .u8 (x.val:Nat)]
section
variable {H:Type} {enc:TypeId×Value→H} {W:World} {base:Nat} {spare:Nat→Bool} {held:Bool}
set_option maxRecDepth 100000
theorem dec_byte (n:Nat) (cs:List Value) (y:DataW H×List MemPlace) (h:DataW.trod enc Tryz.prog W base spare held n 5 cs=some y):∃ q:Fin 256,cs=uF q:=by
  obtain ⟨q,e,_,hw⟩:=DataW.trod_int Tryz.underlying5 h
  have hw:0≤q∧q < 256:=by
    have e1:IntKind.u8.min=0:=by decide
    have e2:IntKind.u8.max=255:=by decide
    simp [Lit.wf,e1,e2] at hw
    omega
  refine ⟨⟨q.toNat,by omega⟩,?_⟩
  rw [e]
  show [Value.int .u8 q]=[Value.int .u8 ((q.toNat:Nat):Int)]
  rw [Int.toNat_of_nonneg hw.1]
theorem cells_byte:Tryz.prog.cellsOf 5=1:=by kernel_rfl
theorem in_bytes {b0:Nat} {r:Reach} {v:Value} {d:DataW H} {p:List MemPlace} {s:Sim} {h:Hp} (I:InOk W s h) (hv:Value.okWide Tryz.prog W r b0 22 v) (ht:DataW.Trod enc Tryz.prog W base spare held 22 v d p) :
    ∃ (s':Sim) (h':Hp) (bs:List Nat) (a:Option Addr) (fl:Nat),InOk W s' h'∧s.le s'∧Ext h h'∧VR s' (.slice a bs.length fl) v∧Sls h' (fun x:Nat=>[Value.int .u8 x]) 1 a bs∧bs.length≤Go.maxLen∧∀ b∈bs,b < 256:=by
  have hv0:Cell.okWide Tryz.prog W r b0 22 v:=by
    unfold Value.okWide at hv
    rw [Tryz.underlying22] at hv
    exact hv
  obtain ⟨n,t0⟩:=ht
  have hcl:v.cells.toList=[v]:=by
    cases v with
    | agg cs =>
      exfalso
      have h':Cell.ok Tryz.prog W r b0 22 (.agg cs):=by
        unfold Cell.okWide at hv0
        split at hv0<;>first | exact hv0 | (rename_i e;cases e)
      unfold Cell.ok at h'
      split at h'<;>first | exact h'.elim | (rename_i e;cases e) | (rename_i e _;cases e) | (rename_i e _ _;cases e) | (rename_i e _ _ _;cases e)
    | _=>rfl
  rw [hcl] at t0
  obtain ⟨A,cap,l,rfl,hl,hm,hn,hc⟩:=open_plain (en:=uF) (sz:=1) Tryz.underlying22 cells_byte (by decide) (fun _=>rfl) dec_byte t0
  have hpl:∀ v∈l.flatMap uF,plainV v=true∧v.oneCell'=true:=by
    intro v hv
    obtain ⟨q,_,hq⟩:=List.mem_flatMap.1 hv
    simp only [uF,List.mem_cons,List.not_mem_nil,or_false] at hq
    subst hq;exact ⟨rfl,rfl⟩
  have hblk:∀ a,A=some a→l=[]→∃ b0,b0 < W.heap.size:=by
    intro a ha hl0
    subst ha
    refine ⟨a.block,block_cell (P:=Tryz.prog) (r:=r) (b0:=b0) (t:=22) (len:=l.length) (cap:=cap) hv0⟩
  obtain ⟨s',h',A',fl,I',l1,e1,v1,s1⟩:=I.slice (enc:=uF) (fun _=>rfl) (by decide) A cap hl (VRm.of_plain s hpl) hc hn hblk
  have hfm:∀ l:List (Fin 256),(l.map fun x=>x.val).flatMap (fun x:Nat=>[Value.int .u8 x])=l.flatMap uF:=by
    intro l
    induction l with
    | nil=>rfl
    | cons x l ih=>simp only [List.map_cons,List.flatMap_cons,ih];rfl
  refine ⟨s',h',l.map fun x=>x.val,A',fl,I',l1,e1,by simpa using v1,?_,by simpa using Nat.le_trans hl hm,fun b hb => ?_⟩
  · cases A' with
    | none =>
      have:l=[]:=s1
      subst this;rfl
    | some a =>
      obtain ⟨q1,c,sz,q2,q3⟩:=s1
      exact ⟨q1,c,sz,q2,by rw [hfm,List.length_map];exact q3⟩
  · obtain ⟨x,_,rfl⟩:=List.mem_map.1 hb
    exact x.isLt
end
end Go.Proofs.YtgmkdjjcleobhaaGreat.Id
namespace Go.Id
set_option linter.unusedVariables false
theorem joined_of {P:Program} {f:FuncId} {fn:Func} {s:ChangeSpec} {c:OpenClaim}
    (h1:c.wf (OpenSpec.ofChange s)=true) (h2:laidOutB P=true) (h3:mapsRowed P=true) (h4:fn.params.all (P.readableRec ·)=true) (h5:namedTie P c.named s.vars=true)
    (h6:(c.stops == [])=true) (h7:(P.stops == [])=true) (h8:(c.knobs == [])=true) (h9:(P.stopKnobs == [])=true)
    (h10:(c.inPlace == P.inPlace f)=true) (h11:(c.unfollowed == P.unfollowed f)=true) (h12:(c.recurses == P.recurses f)=true) (h13:(c.named == P.varsNamed f)=true)
    (h14:(c.maps == (fn.params.toList++s.plain.varTypes P).any (P.mapsRec ·))=true) (h15:(c.ifaces == (fn.params.toList++s.plain.varTypes P).any (P.ifacesRec ·))=true) (h16:(c.mapsOut == P.mapsAmong fn.resultTypes.toList)=true)
    (h17:(c.loops == (fn.params.toList++s.plain.varTypes P).any (P.loopsFrom ·))=true) (h18:(c.wideKeys == (fn.params.toList++s.plain.varTypes P++fn.resultTypes.toList).any (P.wideKeysFrom ·))=true)
    (h19:s.vars.all (P.varReadable ·)=true) (h20:fn.resultTypes.all (fun t=>P.readableRec t&&decide (t < P.types.size))=true) (h21:(c.ifacesOut == fn.resultTypes.toList.any (P.ifacesRec ·))=true) (h22:(c.loopsOut == fn.resultTypes.toList.any (P.loopsFrom ·))=true)
    (h23:(c.plainKeys == P.plainKeys)=true) (h24:c.shortTexts.isNone=true) (h25:P.stopsHeard=true) (h26:P.mayEnter=true) (h27:(c.lifted == P.liftsFinal)=true) (h28:(P.make == some c.make)=true)
    (h29:(c.kinds == (if c.domain.isEmpty then [] else fn.params.toList.map fun t=>match P.underlying t with | some (.int k)=>some k | _=>none))=true) (h30:(c.pinned == c.pinnedBy)=true)
    (h31:(c.veiled == (fn.params.toList++s.plain.varTypes P++fn.resultTypes.toList).any (P.veiledRec ·))=true) (h32:c.veiledFits P fn.params.toList (fn.params.toList++s.plain.varTypes P++fn.resultTypes.toList)=true):joinedFacts P f fn s c=true:=by
  unfold joinedFacts
  simp only [Bool.and_eq_true]
  exact ⟨⟨⟨⟨⟨⟨⟨⟨⟨⟨⟨⟨⟨⟨⟨⟨⟨⟨⟨⟨⟨⟨⟨⟨⟨⟨⟨⟨⟨⟨⟨h1,h2⟩,h3⟩,h4⟩,h5⟩,h6⟩,h7⟩,h8⟩,h9⟩,h10⟩,h11⟩,h12⟩,h13⟩,h14⟩,h15⟩,h16⟩,h17⟩,h18⟩,h19⟩,h20⟩,h21⟩,h22⟩,h23⟩,h24⟩,h25⟩,h26⟩,h27⟩,h28⟩,h29⟩,h30⟩,h31⟩,h32⟩
end Go.Id
