/- Texts of this claim, joined: IdPf, Vd, Ve, Vf, Vg, Vh, Vi, Vj, Vk, Vl, Vm, Vn, Ha, Ga, Gb, Gc, Gd, Ge, Vo, Vp, Vq, Vr, IdIn, In, IdJf. -/
import Derived.Test.YtjpcfaddimlbdaaGreatM4
import Derived.Deep.Slices
import Derived.Below
import Derived.ChangeFn
import Derived.ChangeOld
import Derived.WalkKit
import Derived.ProofKit
import Derived.OpenShut
import Derived.Conc.Holds
namespace Go.Id
open Go.Conc
set_option linter.unusedVariables false
inductive OTr where
  | fin
  | stop
  | fl (i:Nat) (r:OTr)
  | ch (c:Nat) (r alt:OTr)
def OTr.heads:OTr→List Nat
  | .ch c _ a=>c::a.heads
  | _=>[]
def OTr.path:OTr→List Nat
  | .fl i r=>i::r.path
  | .ch c r _=>c::r.path
  | _=>[]
def okAt (ops:Array Oper) (q:Bool) (i done:Nat):Bool:=match ops[i]? with
  | none=>false
  | some o=>match Nat.testBit done i with
    | true=>false
    | false=>match Nat.beq (pm o &&& done) (pm o) with
      | false=>false
      | true=>isFl o.op == q
def rdyAll (ops:List (Nat×Oper)) (hs:List Nat) (done:Nat):Bool:=allB (fun p=>match Nat.testBit done p.1 with
  | true=>true
  | false=>match Nat.beq (pm p.2 &&& done) (pm p.2) with
    | false=>true
    | true=>memN p.1 hs) ops
def ordT (ops:Array Oper):Bool→OTr→Nat→Bool
  | b,.fin,done=>match b with | true=>false | false=>Nat.beq done (2 ^ ops.size - 1)
  | b,.stop,_=>b
  | b,.fl i r,done=>match b with | true=>false | false=>match okAt ops true i done with
    | false=>false
    | true=>ordT ops false r (done ||| 2 ^ i)
  | b,.ch c r a,done=>match okAt ops false c done with
    | false=>false
    | true=>match ordT ops false r (done ||| 2 ^ c) with
      | false=>false
      | true=>match ordT ops true a done with
        | false=>false
        | true=>match b with
          | true=>true
          | false=>rdyAll (withIx ops.toList 0) (c::a.heads) done
def drawOkT (ops:Array Oper) (p:OTr) (bm:List Nat):Bool:=match eqL (bmOf ops.toList) bm with
  | false=>false
  | true=>match ordT ops false p 0 with
  | false=>false
  | true=>match rdOkAll (withIx ops.toList 0) with
    | false=>false
    | true=>match gdOk (withIx ops.toList 0) with
      | false=>false
      | true=>dstsOk (withIx ops.toList 0)
section
variable {P:Program} (X:Ctx P) (T:Nat→Option TyI) (Mt:Nat→String→Option FuncId) (lo:Nat) (fn:Func) (esc:Hint)
def vcT (ops:Array Oper) (bm:List Nat) (K:Tm→Lv→Hp→Prop):OTr→List Nat→Tm→Lv→Hp→Prop
  | .fin,_,t,ls,h=>K t ls h
  | .stop,_,_,_,_=>True
  | .fl i r,D,t,ls,h=>match ops[i]? with
    | none=>False
    | some o=>vcOp X T Mt lo fn esc ops t ls h o fun t ls h=>vcT ops bm K r (i::D) t ls h
  | .ch c r a,D,t,ls,h=>match ops[c]? with
    | none=>False
    | some o=>(vcOp X T Mt lo fn esc ops t ls h o fun t ls h=>reck T lo esc ops (bm.getD c 0) t ls h D (vcT ops bm K r (c::D) t ls h))∧vcT ops bm K a D t ls h
end
theorem okAt_spec {ops:Array Oper} {q:Bool} {i done:Nat} (h:okAt ops q i done=true):∃ o,ops[i]? = some o∧Nat.testBit done i=false∧(∀ j,Nat.testBit (pm o) j=true→Nat.testBit done j=true)∧isFl o.op=q:=by
  unfold okAt at h
  split at h
  · cases h
  · rename_i o ho
    split at h
    · cases h
    · rename_i hd
      split at h
      · cases h
      · rename_i h1
        refine ⟨o,ho,hd,fun j hj => ?_,by simpa using h⟩
        have:=Nat.eq_of_beq_eq_true h1
        rw [← this,Nat.testBit_and,Bool.and_eq_true] at hj
        exact hj.2
theorem memN_iff {i:Nat}:∀ {l:List Nat},memN i l=true→i∈l
  | [],h=>by cases h
  | j::r,h=>by
    unfold memN at h
    split at h
    · rename_i e;simp [e]
    · simp [memN_iff h]
section
variable {ops:Array Oper}
theorem ordT_fl {i:Nat} {r:OTr} {done:Nat} (h:ordT ops false (.fl i r) done=true):okAt ops true i done=true∧ordT ops false r (done ||| 2 ^ i)=true:=by
  unfold ordT at h
  simp only at h
  split at h
  · cases h
  · rename_i h1;exact ⟨h1,h⟩
theorem ordT_ch {b:Bool} {c:Nat} {r a:OTr} {done:Nat} (h:ordT ops b (.ch c r a) done=true):okAt ops false c done=true∧ordT ops false r (done ||| 2 ^ c)=true∧ordT ops true a done=true∧(b=false→rdyAll (withIx ops.toList 0) (c::a.heads) done=true):=by
  unfold ordT at h
  split at h
  · cases h
  · rename_i h1
    split at h
    · cases h
    · rename_i h2
      split at h
      · cases h
      · rename_i h3
        refine ⟨h1,h2,h3,fun hb => ?_⟩
        subst hb
        exact h
theorem ordT_all:∀ {p:OTr} {done:Nat},ordT ops false p done=true→∀ i,i < ops.size→Nat.testBit done i=true∨i∈p.path
  | .fin,done,h,i,hi=>by
    unfold ordT at h
    have:=Nat.eq_of_beq_eq_true h
    subst this
    exact .inl (by rw [Nat.testBit_two_pow_sub_one];simpa using hi)
  | .stop,done,h,i,hi=>by cases h
  | .fl j r,done,h,i,hi=>by
    obtain ⟨_,h3⟩:=ordT_fl h
    rcases ordT_all h3 i hi with h4 | h4
    · rw [Nat.testBit_or,Bool.or_eq_true,Nat.testBit_two_pow] at h4
      rcases h4 with h4 | h4
      · exact .inl h4
      · exact .inr (by simp at h4;simp [OTr.path,h4])
    · exact .inr (by simp [OTr.path,h4])
  | .ch j r a,done,h,i,hi=>by
    obtain ⟨_,h3,_⟩:=ordT_ch h
    rcases ordT_all h3 i hi with h4 | h4
    · rw [Nat.testBit_or,Bool.or_eq_true,Nat.testBit_two_pow] at h4
      rcases h4 with h4 | h4
      · exact .inl h4
      · exact .inr (by simp at h4;simp [OTr.path,h4])
    · exact .inr (by simp [OTr.path,h4])
theorem ordT_ready {S:Nat→Prop}:∀ {p:OTr} {done:Nat},ordT ops false p done=true→(∀ j,Nat.testBit done j=true→S j)→(∃ i,i∈p.path∧¬ S i)→∃ i o,¬ S i∧ops[i]? = some o∧∀ j,Nat.testBit (pm o) j=true→S j:=by
  have key:∀ {i done:Nat} {q:Bool} {r:OTr} {l:List Nat},okAt ops q i done=true→(∀ j,Nat.testBit done j=true→S j)→(∃ x,x∈i::l∧¬ S x)→((∀ j,Nat.testBit (done ||| 2 ^ i) j=true→S j)→(∃ x,x∈l∧¬ S x)→∃ i o,¬ S i∧ops[i]? = some o∧∀ j,Nat.testBit (pm o) j=true→S j)→∃ i o,¬ S i∧ops[i]? = some o∧∀ j,Nat.testBit (pm o) j=true→S j:=by
    intro i done q r l h hd hex ih
    obtain ⟨o,ho,h1,h2,_⟩:=okAt_spec h
    by_cases hs:S i
    · refine ih (fun j hj => ?_) ?_
      · rw [Nat.testBit_or,Bool.or_eq_true,Nat.testBit_two_pow] at hj
        rcases hj with hj | hj
        · exact hd j hj
        · have:i=j:=by simpa using hj
          exact this▸hs
      · obtain ⟨j,hj,hnj⟩:=hex
        rcases List.mem_cons.1 hj with rfl | hj
        · exact absurd hs hnj
        · exact ⟨j,hj,hnj⟩
    · exact ⟨i,o,hs,ho,fun j hj=>hd j (h2 j hj)⟩
  intro p
  induction p with
  | fin=>intro done h hd ⟨i,hi,_⟩;cases hi
  | stop=>intro done h hd ⟨i,hi,_⟩;cases hi
  | fl i r ih =>
    intro done h hd hex
    obtain ⟨h1,h2⟩:=ordT_fl h
    exact key (r:=r) h1 hd hex fun a b=>ih h2 a b
  | ch c r a ih _ =>
    intro done h hd hex
    obtain ⟨h1,h2,_⟩:=ordT_ch h
    exact key (r:=r) h1 hd hex fun a b=>ih h2 a b
theorem drawOk_of (h2:rdOkAll (withIx ops.toList 0)=true) (h3:gdOk (withIx ops.toList 0)=true) (h:dstsOk (withIx ops.toList 0)=true):DrawOk ops:=by
  refine ⟨fun i o d k ok hi hk hd hdst hne => ?_,fun i o d hi hl hd hdst => ?_,fun i o j want hi hg => ?_,fun i o k ok d hi hk h4 h5 => ?_⟩
  · have a1:=allB_iff h2 (i,o) (mem_ix.2 hi)
    have a2:=allB_iff a1 d (mem_tmpsOf (by simpa using hd))
    have a3:=allB_iff a2 (k,ok) (mem_ix.2 hk)
    simp only [rdOk1,eqO_iff.2 hdst] at a3
    split at a3
    · rename_i hb;exact absurd (Nat.eq_of_beq_eq_true hb) hne
    · split at a3
      · exact .inl ‹_›
      · split at a3
        · cases a3
        · exact .inr ⟨‹_›,a3⟩
  · have a1:=allB_iff h2 (i,o) (mem_ix.2 hi)
    have a2:=allB_iff a1 d (mem_tmpsOf (by simpa using hd))
    have a3:=allB_iff a2 (i,o) (mem_ix.2 hi)
    simp only [rdOk1,eqO_iff.2 hdst,Nat.beq_refl,hl] at a3
    cases a3
  · have a1:=allB_iff h3 (i,o) (mem_ix.2 hi)
    simp only [hg] at a1
    exact a1
  · have a1:=withIx_get (n:=0) (l:=ops.toList) (i:=i) (o:=o) (by simpa using hi)
    have a2:=withIx_get (n:=0) (l:=ops.toList) (i:=k) (o:=ok) (by simpa using hk)
    exact dsts_of h i k _ _ d a1 a2 h4 h5
theorem drawOkT_spec {p:OTr} {bm:List Nat} (h:drawOkT ops p bm=true):DrawOk ops∧bm=bmOf ops.toList∧ordT ops false p 0=true:=by
  unfold drawOkT at h
  split at h
  · cases h
  · rename_i h0
    split at h
    · cases h
    · rename_i h1
      split at h
      · cases h
      · rename_i h2
        split at h
        · cases h
        · rename_i h3
          exact ⟨drawOk_of h2 h3 h,(eqL_eq h0).symm,h1⟩
end
section
variable {P:Program} {X:Ctx P} {T:Nat→Option TyI} {Mt:Nat→String→Option FuncId} {lo:Nat} {f:FuncId} {fn:Func} {esc:Hint} {Post:En} {k:List Item} {ops:Array Oper}
theorem DS.advanceT (K:DrawOk ops) {bm:List Nat} {KK:Tm→Lv→Hp→Prop} {t0 tL:Tm} {S:Nat→Prop} {ls:Lv} {h:Hp}:∀ (p:OTr) (D:List Nat) (done:Nat) (tE:Tm),ordT ops false p done=true→(∀ j,Nat.testBit done j=true↔j∈D)→DS T lo fn esc ops t0 S D tL tE ls h→vcT X T Mt lo fn esc ops bm KK p D tE ls h →
    ∃ (p':OTr) (D':List Nat) (done':Nat) (tE':Tm),ordT ops false p' done'=true∧(∀ j,Nat.testBit done' j=true↔j∈D')∧DS T lo fn esc ops t0 S D' tL tE' ls h∧vcT X T Mt lo fn esc ops bm KK p' D' tE' ls h∧(p' = .fin∨∃ c r a,p' = .ch c r a)
  | .fin,D,done,tE,h1,h2,h3,h4=>⟨.fin,D,done,tE,h1,h2,h3,h4,.inl rfl⟩
  | .stop,D,done,tE,h1,h2,h3,h4=>by cases h1
  | .ch c r a,D,done,tE,h1,h2,h3,h4=>⟨.ch c r a,D,done,tE,h1,h2,h3,h4,.inr ⟨c,r,a,rfl⟩⟩
  | .fl i r,D,done,tE,h1,h2,h3,h4=>by
    obtain ⟨ok,e4⟩:=ordT_fl h1
    obtain ⟨o,ho,e1,e2,hf⟩:=okAt_spec ok
    have hi:i∉D:=fun hx=>by rw [(h2 i).2 hx] at e1;cases e1
    unfold vcT at h4
    rw [ho] at h4
    simp only at h4
    obtain ⟨hd,tk,hk,hcase⟩:=vcOp_cases h4
    rcases hcase with ⟨hw,hv⟩ | ⟨hw,hv⟩
    · obtain ⟨sl,k1,k2,k3⟩:=vcS_fl hf hv
      exact DS.advanceT K r (i::D) _ _ e4 (bits_step h2) (h3.fl K ho hi (fun j hj=>(h2 j).1 (e2 j hj)) hf hd hk (fun _=>rfl) (.inl ⟨hw,k2,k3⟩)) k1
    · exact DS.advanceT K r (i::D) _ _ e4 (bits_step h2) (h3.fl K ho hi (fun j hj=>(h2 j).1 (e2 j hj)) hf hd hk (fun _=>rfl) (.inr ⟨hw,rfl⟩)) hv
theorem vcT_head {bm:List Nat} {KK:Tm→Lv→Hp→Prop} {D:List Nat} {tE:Tm} {ls:Lv} {h:Hp} {i:Nat}:∀ {p:OTr} {b:Bool} {done:Nat},ordT ops b p done=true→vcT X T Mt lo fn esc ops bm KK p D tE ls h→i∈p.heads →
    ∃ r o,okAt ops false i done=true∧ops[i]? = some o∧ordT ops false r (done ||| 2 ^ i)=true∧vcOp X T Mt lo fn esc ops tE ls h o fun t ls h=>reck T lo esc ops (bm.getD i 0) t ls h D (vcT X T Mt lo fn esc ops bm KK r (i::D) t ls h)
  | .ch c r a,b,done,h1,h2,hi=>by
    obtain ⟨e1,e2,e3,_⟩:=ordT_ch h1
    obtain ⟨o,ho,_⟩:=okAt_spec e1
    unfold vcT at h2
    rw [ho] at h2
    simp only at h2
    rcases List.mem_cons.1 hi with rfl | hi
    · exact ⟨r,o,e1,ho,e2,h2.1⟩
    · exact vcT_head e3 h2.2 hi
  | .fin,_,_,_,_,hi=>by cases hi
  | .stop,_,_,_,_,hi=>by cases hi
  | .fl _ _,_,_,_,_,hi=>by cases hi
theorem simT (hT:TbOk P T) (hM:MtOk P Mt) (K:DrawOk ops) {bm:List Nat} {pl:OTr} (hbm:bm=bmOf ops.toList) (hord:ordT ops false pl 0=true) {KK:Tm→Lv→Hp→Prop} (hK:∀ t ls h,KK t ls h→R X lo f fn Post k t ls h) {t0:Tm} :
    ∀ (fuel tp:Nat) (listed:Array Bool) (E D:List Nat) (r:OTr) (done:Nat) (tL tE:Tm) (ls:Lv) (h:Hp),listed.size=ops.size→(∀ i,listed.getD i false=true↔i∈E)→E.Nodup→(∀ i∈E,i < ops.size)→E.length+fuel=ops.size→DS T lo fn esc ops t0 (· ∈ E) D tL tE ls h →
      ordT ops false r done=true→(∀ j,Nat.testBit done j=true↔j∈D)→vcT X T Mt lo fn esc ops bm KK r D tE ls h→(r = .fin∨∃ c r' a,r = .ch c r' a) →
      R X lo f fn Post (.inRegion ops (Region.linearise.go .any ops fuel tp listed [])::k) tL ls h:=by
  have fin:∀ (E D:List Nat) (r:OTr) (done:Nat) (tL tE:Tm) (ls:Lv) (h:Hp),(∀ i,i < ops.size→i∈E)→DS T lo fn esc ops t0 (· ∈ E) D tL tE ls h→ordT ops false r done=true→(∀ j,Nat.testBit done j=true↔j∈D)→vcT X T Mt lo fn esc ops bm KK r D tE ls h→(r = .fin∨∃ c r' a,r = .ch c r' a) →
      R X lo f fn Post (.inRegion ops []::k) tL ls h:=by
    intro E D r done tL tE ls h hall H h1 h2 h4 hst
    have hr:r = .fin:=by
      rcases hst with rfl | ⟨c,r',a,rfl⟩
      · rfl
      · obtain ⟨o,ho,e1,_⟩:=okAt_spec (ordT_ch h1).1
        have:=H.sub c (hall c (Array.getElem?_eq_some_iff.1 ho).1)
        rw [(h2 c).2 this] at e1;cases e1
    subst hr
    refine R_rend (R_n (t':=tE) (fun d x hx => ?_) (hK _ _ _ h4))
    by_cases hw:∃ (i:Nat) (o:Oper),ops[i]? = some o∧o.dst=some d
    · obtain ⟨i,o,ho,hd⟩:=hw
      rw [H.a i o d (hall i (Array.getElem?_eq_some_iff.1 ho).1) ho hd];exact hx
    · rw [H.b d fun i o _ ho hd=>hw ⟨i,o,ho,hd⟩,← H.c d fun i o _ ho hd=>hw ⟨i,o,ho,hd⟩];exact hx
  intro fuel
  induction fuel with
  | zero =>
    intro tp listed E D r done tL tE ls h hsz hl hn hlt hlen H h1 h2 h4 hstop
    simp only [Region.linearise.go,List.reverse_nil]
    exact fin E D r done tL tE ls h (fun i hi=>ordn_full hn hlt (by omega) hi) H h1 h2 h4 hstop
  | succ fuel ih =>
    intro tp listed E D r done tL tE ls h hsz hl hn hlt hlen H h1 h2 h4 hstop
    have hgf:∀ i,i < ops.size→(listed.getD i true=false↔i∉E):=by
      intro i hi
      rw [← hl i]
      have hi':i < listed.size:=by omega
      simp [Array.getD,hi']
    have rdy:∀ (i:Nat) (o:Oper),ops[i]? = some o→(i∈Region.ready .any ops listed↔i∉E∧∀ j,Nat.testBit (pm o) j=true→j∈E):=by
      intro i o ho
      rw [ready_iff ho,hgf i (Array.getElem?_eq_some_iff.1 ho).1]
      exact ⟨fun ⟨a,b⟩=>⟨a,fun j hj=>(hl j).1 (b j hj)⟩,fun ⟨a,b⟩=>⟨a,fun j hj=>(hl j).2 (b j hj)⟩⟩
    simp only [Region.linearise.go]
    change R X lo f fn Post (.inRegion ops (match (Region.ready .any ops listed)[tp % (Region.ready .any ops listed).length]? with
      | some i=>Region.linearise.go .any ops fuel (tp / (Region.ready .any ops listed).length) (listed.setIfInBounds i true) [i]
      | none=>[].reverse)::k) tL ls h
    cases hi:(Region.ready .any ops listed)[tp % (Region.ready .any ops listed).length]? with
    | none =>
      have hnil:Region.ready .any ops listed=[]:=by
        cases hr:Region.ready .any ops listed with
        | nil=>rfl
        | cons x xs =>
          rw [hr] at hi
          have hlt:tp % (x::xs).length < (x::xs).length:=Nat.mod_lt _ (by simp)
          rw [List.getElem?_eq_getElem hlt] at hi;cases hi
      simp only [List.reverse_nil]
      refine fin E D r done tL tE ls h (fun i hi => ?_) H h1 h2 h4 hstop
      refine Classical.byContradiction fun hni => ?_
      have hex:∃ j,j∈pl.path∧j∉E:=by
        rcases ordT_all hord i hi with hx | hx
        · simp at hx
        · exact ⟨i,hx,hni⟩
      obtain ⟨j,o,g1,g2,g3⟩:=ordT_ready (S:=(· ∈ E)) hord (fun j hj=>by simp at hj) hex
      have:=(rdy j o g2).2 ⟨g1,g3⟩
      rw [hnil] at this
      cases this
    | some i =>
      simp only []
      rw [linearise_go_acc,List.reverse_singleton,List.singleton_append]
      have hir:=List.mem_of_getElem? hi
      obtain ⟨_,o,ho,_⟩:=mem_ready.1 hir
      obtain ⟨hiE,hpE⟩:=(rdy i o ho).1 hir
      have hisz:i < ops.size:=(Array.getElem?_eq_some_iff.1 ho).1
      have hl':∀ j,(listed.setIfInBounds i true).getD j false=true↔j∈i::E:=by
        intro j
        by_cases hji:i=j
        · subst hji
          have:i < listed.size:=by omega
          simp [Array.getD,this]
        · rw [List.mem_cons,← hl j]
          simp only [Array.getD_eq_getD_getElem?,Array.getElem?_setIfInBounds_ne hji]
          constructor
          · exact .inr
          · rintro (rfl | h);exact absurd rfl hji;exact h
      have hSE:∀ {D:List Nat} {tL tE:Tm} {ls:Lv} {h:Hp},DS T lo fn esc ops t0 (fun j=>j∈E∨j=i) D tL tE ls h→DS T lo fn esc ops t0 (· ∈ i::E) D tL tE ls h:=by
        intro D tL tE ls h H
        have e:(fun j=>j∈E∨j=i)=(· ∈ i::E):=by
          funext j
          simp only [List.mem_cons,eq_iff_iff]
          exact ⟨fun h=>h.elim .inr .inl,fun h=>h.elim .inr .inl⟩
        rw [← e];exact H
      have next:∀ (D:List Nat) (r:OTr) (done:Nat) (tL tE:Tm) (ls:Lv) (h:Hp),DS T lo fn esc ops t0 (fun j=>j∈E∨j=i) D tL tE ls h→ordT ops false r done=true→(∀ j,Nat.testBit done j=true↔j∈D)→vcT X T Mt lo fn esc ops bm KK r D tE ls h →
          R X lo f fn Post (.inRegion ops (Region.linearise.go .any ops fuel (tp / (Region.ready .any ops listed).length) (listed.setIfInBounds i true) [])::k) tL ls h:=by
        intro D r done tL tE ls h H h1 h2 h4
        obtain ⟨r',D',done',tE',g1,g2,g3,g4,g5⟩:=DS.advanceT K r D done tE h1 h2 (hSE H) h4
        exact ih _ _ (i::E) D' r' done' tL tE' ls h (by simp [hsz]) hl' (List.nodup_cons.2 ⟨hiE,hn⟩) (fun j hj=>by rcases List.mem_cons.1 hj with rfl | hj;exact hisz;exact hlt j hj) (by simp;omega) g3 g1 g2 g4 g5
      by_cases hiD:i∈D
      ·
        obtain ⟨q1,q2,sl,q3,q4⟩:=H.pend i o hiD hiE ho
        rcases q4 with ⟨e1,ti,e2,e3,e4⟩ | ⟨e1,rfl⟩
        · have hag:∀ d∈tmpsOf o.op.operands.toList,Operand.tmp d∈o.op.operands→nlook ti d=nlook tL d:=fun d _ hd=>H.agree K ho hiE hpE hd (e2 d hd).1 (e2 d hd).2
          have hag':∀ d∈tmpsOf o.op.operands.toList,nlook ti d=nlook tL d:=fun d hd=>hag d hd (by
            have:∀ (l:List Operand) (d:Nat),d∈tmpsOf l→Operand.tmp d∈l:=by
              intro l
              induction l with
              | nil=>intro d h;simp [tmpsOf] at h
              | cons x r ih =>
                intro d h
                cases x with
                | tmp j =>
                  simp only [tmpsOf,List.mem_cons] at h
                  rcases h with rfl | h
                  · simp
                  · simp [ih d h]
                | const v=>simp only [tmpsOf] at h;simp [ih d h]
                | func v=>simp only [tmpsOf] at h;simp [ih d h]
                | global v=>simp only [tmpsOf] at h;simp [ih d h]
            simpa using this _ d hd)
          refine R_n (t':=ovl ti tL (tmpsOf o.op.operands.toList)) (fun d x hx=>by rw [nlook_ovl hag'] at hx;exact hx) ?_
          have hw:=H.wnt K ho hpE e1
          have hwr:∀ s lb (a:Act),TmOk s lb ls.length (ovl ti tL (tmpsOf o.op.operands.toList)) a.tmps→Region.wanted o (yielded ops a.tmps)=true:=fun s lb a tm=>(hw.of_n fun j want oj d _ _ _=>nlook_ovl hag' d).real tm
          refine vcS_ok (esc:=esc) hT hM ho hwr q2 (K:=Is sl ls h) (fun sl' ls' h' hIs => ?_) (vcS_congr (t:=ti) (fun x hx=>evS_ovl hag' fun d hd=>mem_tmpsOf (by subst hd;simpa using hx)) (vcS_of_fl q1 e3))
          obtain ⟨rfl,rfl,rfl⟩:=hIs
          exact next D r done _ tE ls' h' (H.doIt K ho hiD hpE q3 fun d=>by rw [nlook_put,nlook_put,nlook_ovl hag']) h1 h2 h4
        · exact R_unwanted ho (fun s lb a tm=>(H.wnt K ho hpE e1).real tm) q2 (next D r done _ tE ls h (H.doIt K ho hiD hpE q3 fun d=>rfl) h1 h2 h4)
      ·
        have hih:i∈r.heads:=by
          rcases hstop with rfl | ⟨c,r',a,rfl⟩
          · rcases ordT_all h1 i hisz with hx | hx
            · exact absurd ((h2 i).1 hx) hiD
            · cases hx
          · have hall:=allB_iff ((ordT_ch h1).2.2.2 rfl) (i,o) (mem_ix.2 ho)
            simp only at hall
            have hdi:Nat.testBit done i=false:=by
              cases hx:Nat.testBit done i with
              | false=>rfl
              | true=>exact absurd ((h2 i).1 hx) hiD
            rw [hdi] at hall
            simp only at hall
            have hpd:Nat.beq (pm o &&& done) (pm o)=true:=by
              have e:pm o &&& done=pm o:=Nat.eq_of_testBit_eq fun j=>by
                rw [Nat.testBit_and]
                cases hj:Nat.testBit (pm o) j with
                | false=>rfl
                | true=>rw [(h2 j).2 (H.sub j (hpE j hj))];rfl
              rw [e];exact Nat.beq_refl _
            rw [hpd] at hall
            exact memN_iff hall
        obtain ⟨r'',o',hok,ho',e4,h4'⟩:=vcT_head h1 h4 hih
        rw [ho] at ho';cases ho'
        obtain ⟨o',ho',_,_,hfc⟩:=okAt_spec hok
        rw [ho] at ho';cases ho'
        replace h4:=h4'
        obtain ⟨hd,tk,hk,hcase⟩:=vcOp_cases h4
        have hbmS:∀ j,Nat.testBit (bm.getD i 0) j=true→j∈E:=fun j hj=>by rw [hbm] at hj;exact bm_in H.cl ho hpE hj
        rcases hcase with ⟨hw,hv⟩ | ⟨hw,hv⟩
        · have hag':∀ d∈tmpsOf o.op.operands.toList,nlook tk d=nlook tL d:=fun d hd=>by
            have hdm:Operand.tmp d∈o.op.operands:=by
              have:∀ (l:List Operand) (d:Nat),d∈tmpsOf l→Operand.tmp d∈l:=by
                intro l
                induction l with
                | nil=>intro d h;simp [tmpsOf] at h
                | cons x r ih =>
                  intro d h
                  cases x with
                  | tmp j =>
                    simp only [tmpsOf,List.mem_cons] at h
                    rcases h with rfl | h
                    · simp
                    · simp [ih d h]
                  | const v=>simp only [tmpsOf] at h;simp [ih d h]
                  | func v=>simp only [tmpsOf] at h;simp [ih d h]
                  | global v=>simp only [tmpsOf] at h;simp [ih d h]
              simpa using this _ d hd
            rw [hk]
            refine H.agree K ho hiE hpE hdm (fun _ _ _ _ _=>rfl) fun hno=>H.c d fun m om hm hom hmd => ?_
            have hmi:i≠m:=by rintro rfl;exact hiD hm
            rcases K.rd i o d m om ho hom hdm hmd hmi with hx | ⟨_,hx⟩
            · rw [hno m om hom hmd] at hx;cases hx
            · exact hiD (H.dcl m om hm hom i hx)
          refine R_n (t':=ovl tk tL (tmpsOf o.op.operands.toList)) (fun d x hx=>by rw [nlook_ovl hag'] at hx;exact hx) ?_
          have hw':=H.wnt K ho hpE hw
          have hwr:∀ s lb (a:Act),TmOk s lb ls.length (ovl tk tL (tmpsOf o.op.operands.toList)) a.tmps→Region.wanted o (yielded ops a.tmps)=true:=fun s lb a tm=>(hw'.of_n fun j want oj d _ _ _=>nlook_ovl hag' d).real tm
          refine vcS_ok (esc:=esc) hT hM ho hwr hd (fun sl' ls' h' hq => ?_) (vcS_congr (t:=tk) (fun x hx=>evS_ovl hag' fun d hd=>mem_tmpsOf (by subst hd;simpa using hx)) hv)
          obtain ⟨hQ,H'⟩:=H.chain K ho hiD hpE hbmS hk (tL':=(ovl tk tL (tmpsOf o.op.operands.toList)).put o.dst sl') (fun d=>by rw [nlook_put,nlook_put,nlook_ovl hag']) hq
          exact next (i::D) r'' _ _ _ ls' h' H' e4 (bits_step h2) hQ
        · refine R_unwanted ho (fun s lb a tm=>(H.wnt K ho hpE hw).real tm) hd ?_
          obtain ⟨hQ,H'⟩:=H.chain K ho hiD hpE hbmS hk (tL':=tL.put o.dst (.v undef)) (fun d=>rfl) hv
          exact next (i::D) r'' _ _ _ ls h H' e4 (bits_step h2) hQ
theorem R_drawnT (hT:TbOk P T) (hM:MtOk P Mt) {id:Nat} {p:OTr} {bm:List Nat} {t:Tm} {ls:Lv} {h:Hp} {KK:Tm→Lv→Hp→Prop} (hd:drawOkT ops p bm=true) (H:vcT X T Mt lo fn esc ops bm KK p [] t ls h) (hK:∀ t ls h,KK t ls h→R X lo f fn Post k t ls h):R X lo f fn Post (.code (.region id ops true)::k) t ls h:=by
  obtain ⟨K,hbm,hord⟩:=drawOkT_spec hd
  have key:∀ tp,R X lo f fn Post (.inRegion ops (Region.schedule (P.follows .mixedOrders) ops tp)::k) t ls h:=by
    intro tp
    have hs:Region.schedule (P.follows .mixedOrders) ops tp=Region.linearise.go .any ops ops.size tp (Array.replicate ops.size false) []:=by
      simp only [Region.schedule,hT.mix,Bool.true_or,if_true];rfl
    rw [hs]
    have H0:DS T lo fn esc ops t (· ∈ ([]:List Nat)) [] t t ls h:=⟨fun i hi=>hi,fun i o hi=>(by cases hi),fun i o hi=>(by cases hi),fun i o hi=>(by cases hi),fun i o d hi=>(by cases hi),fun _ _=>rfl,fun _ _=>rfl,fun i o hi=>(by cases hi),fun i hi=>(by cases hi)⟩
    obtain ⟨r',D',done',tE',g1,g2,g3,g4,g5⟩:=DS.advanceT K p [] 0 t hord (fun j=>by simp) H0 H
    exact simT hT hM K hbm hord hK ops.size tp _ [] D' r' done' t tE' ls h (by simp) (fun i=>by simp [Array.getD]) List.nodup_nil (fun i hi=>by cases hi) (by simp) g3 g1 g2 g4 g5
  intro s O Pr lb w b a cs Stop h1 h2 h3 h4 M tm A
  refine X.step _ _ _ _ rfl fun w₁ r=>⟨_,_,#[],stepG_region_draw,⟨Nat.le_refl _,fun _ _ _=>rfl,rfl,rfl,fun e he=>by simp at he⟩,?_⟩
  have hr:Rly X.N0 O w { w₁ with drawn:=w₁.drawn+1 }:=r.trans ⟨Nat.le_refl _,fun _ _ _=>rfl,rfl,rfl⟩
  rw [grow_drawn]
  exact key _ s O Pr lb _ b a cs Stop h1 h2 h3 h4 (M.rely hr) tm (A.from s.le_refl (OG.refl O w) (kept_rly M hr))
theorem drawE {σ:Type} (hT:TbOk P T) (hM:MtOk P Mt) (esc:Hint) (n:Nat) (p:OTr) (bm:List Nat) (tm:σ→Tm) (lv:σ→Lv) (I:σ→Hp→Prop) {id:Nat} {t:Tm} {ls:Lv} {h:Hp} (hin:∀ s,tmIn (tm s) (lv s).length=true) (hd:drawOkT ops p bm=true) (H:vcT X T Mt lo fn esc ops bm (fun t ls h=>∃ s,keeps (tm s) t∧pre (lv s) ls∧I s h) p [] t ls h) (rest:∀ s h,I s h→vc X T Mt lo f fn esc Post n k (tm s) (lv s) h):R X lo f fn Post (.code (.region id ops true)::k) t ls h :=
  R_drawnT hT hM hd H fun t ls h ⟨s,hK⟩=>R_trim hK.1 (hin s) hK.2.1 (vc_ok hT hM n k (tm s) (lv s) h (rest s h hK.2.2))
end
end Go.Id
namespace Go.Proofs.YtjpcfaddimlbdaaGreat.Id
open Go.Id Go.Conc Go.Conc.Lib
open Go.Proofs
set_option linter.unusedVariables false
set_option maxRecDepth 100000
variable {N0:Nat→Prop} {lo:Nat}
theorem sceneOf_ok (g:Gd) (ad:Option Addr) (fl:Nat) (h:Hp) (hs:Sls h cE 2 ad g.cs) (hg:gOk g=true):Tri (mainCtx Tryz.prog N0) lo 63 [.agg #[.int .i64 g.w,.slice ad g.cs.length fl]] h fun v h'=>(∃ o1 o2 o3 L,v=scOV (scG g) o1 o2 o3∧ScO h.n h' (scG g) o1 o2 o3 L)∧Ext h h':=by
  refine enter tbOk mtOk ⟨[],[]⟩ 400 Tryz.func63 rfl rfl rfl fun hlo => ?_
  have hn1:g.cs.length≤1048576:=by have:=gOk_len hg;omega
  have hn2:(g.cs.length:Int) < 2 ^ 31:=by omega
  have cp:=fun {h':Hp} (x:Ext h h')=>gridCopy_ok (X:=mainCtx Tryz.prog N0) (lo:=lo) g ad fl h' (hs.ext x) hn1
  have pc:=fun {h':Hp} (x:Ext h h')=>PicOf_ok (N0:=N0) (lo:=lo) g ad fl h' (hs.ext x) hn2
  unfold PicP at pc
  rw [if_pos hg] at pc
  have key:∀ o o' h1 h2,Gx h.n h1 cE 2 o g.cs→Ext h h1→Gx lo h2 iE 1 o' (pic g)→(∀ b,isB o' b→h1.n≤b)→Ext h1 h2→Gx h.n h2 cE 2 o g.cs∧Gx h.n h2 inE 1 o' (pic g)∧(∀ b,isB o b→¬ isB o' b)∧Ext h h2:=fun o o' h1 h2 q1 e1 q2 q3 e2=>by
    have:=e1.n
    exact ⟨q1.ext e2,gx_lo q2 fun i hi=>by have:=q3 i hi;omega,fun b hb hb'=>by have:=(q1.lt hb).1;have:=q3 b hb';omega,e1.trans e2⟩
  refine drawE (σ:=(Option Addr×Nat)×(Option Addr×Nat)) tbOk mtOk ⟨[],[]⟩ 400 (.fl 0 (.fl 2 (.ch 1 (.ch 3 (.fl 4 (.ch 5 (.ch 6 .fin .stop) .stop)) (.ch 5 (.ch 3 (.fl 4 (.ch 6 .fin .stop)) .stop) .stop)) (.ch 5 (.ch 1 (.ch 3 (.fl 4 (.ch 6 .fin .stop)) .stop) .stop) .stop)))) [0,1,0,7,15,0,63] (fun _=>[(3,.l 2 0),(2,.l 1 0),(1,.l 0 0)]) (fun s=>[[.int .i64 g.w,.slice ad g.cs.length fl],[.int .i64 0,.slice none 0 0,.slice none 0 0,.slice none 0 0],[.int .i64 g.w,.slice s.1.1 g.cs.length s.1.2,.slice s.2.1 (pic g).length s.2.2,.slice none 0 0]]) (fun s h'=>∃ o o',gv o g.cs.length = .slice s.1.1 g.cs.length s.1.2∧gv o' (pic g).length = .slice s.2.1 (pic g).length s.2.2∧Gx h.n h' cE 2 o g.cs∧Gx h.n h' inE 1 o' (pic g)∧(∀ b,isB o b→¬ isB o' b)∧Ext h h') (fun _=>rfl) (by kernel_rfl) ?_ ?_
  · have k0:=Ext.refl h
    refine And.intro ?_ ?_
    · refine callP (cp k0) ?_
      rintro v h1 ⟨⟨o,rfl,q1⟩,e1⟩
      obtain ⟨ga,gf,z1,_⟩:=gx_slv q1 cE2
      rw [z1]
      repeat refine And.intro Is.r ?_
      refine And.intro ?_ ?_
      · refine callP (pc (k0.trans e1)) ?_
        rintro v h2 ⟨⟨o',rfl,q2,q3⟩,e2⟩
        obtain ⟨la,lf,z2,_⟩:=gx_slv q2 fun _=>rfl
        rw [z2]
        repeat refine And.intro Is.r ?_
        refine And.intro ?_ trivial
        repeat refine And.intro Is.r ?_
        refine And.intro ?_ trivial
        repeat refine And.intro Is.r ?_
        exact ⟨((ga,gf),(la,lf)),⟨rfl,rfl,rfl,trivial⟩,⟨rfl,rfl,rfl,trivial⟩,o,o',z1,z2,key o o' h1 h2 q1 e1 q2 q3 e2⟩
      · refine And.intro ?_ trivial
        repeat refine And.intro Is.r ?_
        refine And.intro ?_ trivial
        refine callP (pc (k0.trans e1)) ?_
        rintro v h2 ⟨⟨o',rfl,q2,q3⟩,e2⟩
        obtain ⟨la,lf,z2,_⟩:=gx_slv q2 fun _=>rfl
        rw [z2]
        repeat refine And.intro Is.r ?_
        refine And.intro ?_ trivial
        repeat refine And.intro Is.r ?_
        exact ⟨((ga,gf),(la,lf)),⟨rfl,rfl,rfl,trivial⟩,⟨rfl,rfl,rfl,trivial⟩,o,o',z1,z2,key o o' h1 h2 q1 e1 q2 q3 e2⟩
    · refine And.intro ?_ trivial
      repeat refine And.intro Is.r ?_
      refine And.intro ?_ trivial
      refine callP (cp k0) ?_
      rintro v h1 ⟨⟨o,rfl,q1⟩,e1⟩
      obtain ⟨ga,gf,z1,_⟩:=gx_slv q1 cE2
      rw [z1]
      repeat refine And.intro Is.r ?_
      refine And.intro ?_ trivial
      refine callP (pc (k0.trans e1)) ?_
      rintro v h2 ⟨⟨o',rfl,q2,q3⟩,e2⟩
      obtain ⟨la,lf,z2,_⟩:=gx_slv q2 fun _=>rfl
      rw [z2]
      repeat refine And.intro Is.r ?_
      refine And.intro ?_ trivial
      repeat refine And.intro Is.r ?_
      exact ⟨((ga,gf),(la,lf)),⟨rfl,rfl,rfl,trivial⟩,⟨rfl,rfl,rfl,trivial⟩,o,o',z1,z2,key o o' h1 h2 q1 e1 q2 q3 e2⟩
  · rintro ⟨⟨ga,gf⟩,la,lf⟩ h1 ⟨o1,o2,z1,z2,g1,g2,ap,e1⟩
    simp only at z1 z2 g1 g2 ap
    refine callP (SightMany_ok g ad fl h1 (hs.ext e1) hn2) ?_
    rintro v h2 ⟨rfl,e2⟩
    rw [if_pos hg]
    have hm:=many_le g hg
    have e12:=e1.trans e2
    have n12:=e12.n
    have r0:ScO h.n h2 ⟨g,pic g,(feetG g).take 0⟩ o1 o2 none []:=by
      refine ⟨g1.ext e2,g2.ext e2,rfl,rfl,fun j x l hx=>(by simp at hx),?_⟩
      simp only [blks,List.filterMap_nil,List.append_nil,bO]
      exact nodup_app (bO_nodup _) (bO_nodup _) fun x hx q=>ap x (bO_is.1 hx) (bO_is.1 q)
    refine loop (σ:=Nat×(Option Addr×Nat)×Option (Nat×Nat)×List Value) tbOk mtOk ⟨[],[(1,[0,2,1,3,4,5,6],[0,1,0,7,15,0,63]),(5,[0,1,2,3,4,5,6,7,8],[0,1,0,0,12,28,63,127,255])]⟩ (fun s=>[(12,.v (.int .i64 (s.1:Int))),(11,.v (.int .i64 (many g))),(3,.l 2 0),(2,.l 1 0),(1,.l 0 0)]) (fun s=>[[.int .i64 g.w,.slice ad g.cs.length fl],[.int .i64 0,.slice none 0 0,.slice none 0 0,.slice none 0 0],[.int .i64 g.w,.slice ga g.cs.length gf,.slice la (pic g).length lf,.slice s.2.1.1 s.1 s.2.1.2]]) (fun s h'=>(s.1:Int)≤many g∧gv s.2.2.1 s.1 = .slice s.2.1.1 s.1 s.2.1.2∧ScO h.n h' ⟨g,pic g,(feetG g).take s.1⟩ o1 o2 s.2.2.1 s.2.2.2∧Ext h h') (fun s=>(many g).toNat - s.1) 400 (0,(none,0),none,[]) (fun _=>rfl) ⟨rfl,rfl,rfl,rfl,rfl,trivial⟩ ⟨rfl,rfl,rfl,trivial⟩ ⟨by show ((0:Nat):Int)≤_;omega,rfl,r0,e12⟩ (fun s h3 hI again => ?_)
    obtain ⟨i,⟨fa,ff⟩,o3,L⟩:=s
    obtain ⟨i1,z3,r,x3⟩:=hI
    simp only at i1 z3 r
    have hfl:((feetG g).take i).length=i:=by rw [List.length_take,feetG_len];omega
    have hLi:L.length=i:=by rw [r.len];exact hfl
    refine cnd (fun c1 => ?_) (fun c1 => ?_)
    · have c1:(i:Int) < many g:=of_decide_eq_true c1
      refine And.intro (by kernel_rfl) ?_
      have n3:=x3.n
      refine callP (TrailFoot_ok g i ad fl h3 (hs.ext x3) hn2) ?_
      rintro v h4 ⟨⟨o,rfl,q⟩,e4⟩
      obtain ⟨o3',h5,ap,r5,x5⟩:=r.foot (lo:=lo) hlo e4 (x:=gv o (footG g i).length) (l:=footG g i) ⟨o,rfl,q⟩ (by unfold Id.maxLen;omega) x3 (Nat.le_refl _) n3
      obtain ⟨xa,xf,zx,_⟩:=q.sl
      obtain ⟨fa',ff',z4,_⟩:=gx_slv r5.g3 vE1_len
      rw [zx] at r5 z4 ap ⊢
      have hl1:(L++[Value.slice xa (footG g i).length xf]).length=i+1:=by simp [hLi]
      rw [hl1] at z4
      rw [hl1,z4,hLi,z3] at ap
      refine And.intro Is.r ?_
      refine And.intro Is.r ?_
      refine ⟨[.slice xa (footG g i).length xf],one_cells rfl,_,h5,ap,?_⟩
      have htk:(feetG g).take (i+1)=(feetG g).take i++[footG g i]:=by
        have hi:i < (feetG g).length:=by rw [feetG_len];omega
        rw [List.take_succ_eq_append_getElem hi,feetG_get hi]
      refine again (i+1,(fa',ff'),o3',L++[.slice xa (footG g i).length xf]) _ _ _ (by show (many g).toNat - (i+1) < (many g).toNat - i;omega) ⟨vI (wz (by omega) (by omega)),rfl,rfl,rfl,rfl,trivial⟩ ⟨rfl,rfl,rfl,trivial⟩ ⟨by show ((i+1:Nat):Int)≤_;omega,z4,?_,x5⟩
      show ScO h.n h5 ⟨g,pic g,(feetG g).take (i+1)⟩ o1 o2 o3' _
      rw [htk];exact r5
    · have c1:(i:Int)=many g:=by have:=of_decide_eq_false c1;omega
      have hi:(feetG g).length=i:=by rw [feetG_len];omega
      rw [← hi,List.take_length] at r
      refine ⟨⟨o1,o2,o3,L,?_,r⟩,x3⟩
      show Value.agg #[.int .i64 g.w,.slice ga g.cs.length gf,.slice la (pic g).length lf,.slice fa i ff]=_
      rw [← z1,← z2,← z3,← hi];rfl
theorem feetG_el (g:Gd):∀ l∈feetG g,l.length≤g.cs.length:=by
  intro l hl
  obtain ⟨k,_,rfl⟩:=List.mem_map.1 hl
  unfold footG footL;rw [List.length_map];exact Nat.le_trans (List.length_filter_le _ _) (by simp)
theorem scG_B {g:Gd} (hg:gOk g=true):ScB (scG g):=by
  have h1:=gOk_len hg
  have h2:=many_le g hg
  obtain ⟨l1,l2⟩:=scG_len g
  refine ⟨by show g.cs.length≤_;omega,by omega,by omega,fun l hl => ?_⟩
  have:=feetG_el g l hl
  omega
theorem SceneOk_ok (s:Sc) (ga la fa:Option Addr) (gf lf ff:Nat) (L:List Value) (h:Hp) (hs:ScR h s ga la fa L) (hb:ScB s):Tri (mainCtx Tryz.prog N0) lo 18 [scV s ga la fa gf lf ff] h fun v h'=>v = .bool (scOk s)∧Ext h h':=by
  refine enter tbOk mtOk ⟨[],[(1,[0,1,2,3,4,5,6,7,8,9,10],[0,1,3,7,15,15,47,111,255,511,1023])]⟩ 400 Tryz.func18 rfl rfl rfl fun hlo => ?_
  refine And.intro (by kernel_rfl) ?_
  have hn2:(s.g.cs.length:Int) < 2 ^ 31:=by have:=hb.g;omega
  refine callP (GridOk_ok s.g.w ga gf s.g.cs h hs.g hn2) ?_
  rintro v h1 ⟨rfl,e1⟩
  refine cnd (fun c1 => ?_) (fun c1 => ?_)
  · have hg:gOk s.g=true:=c1
    refine callP (sceneOf_ok s.g ga gf h1 (hs.g.ext e1) hg) ?_
    rintro v h2 ⟨⟨o1,o2,o3,L',rfl,r⟩,e2⟩
    obtain ⟨ga',la',fa',gf',lf',ff',z,r'⟩:=r.read
    rw [z]
    refine And.intro Is.r ?_
    refine callP (sceneSame_ok s (scG s.g) ga la fa ga' la' fa' gf lf ff gf' lf' ff' L L' h2 (hs.ext (e1.trans e2)) r' hb) ?_
    rintro v h3 ⟨rfl,rfl⟩
    refine And.intro ?_ (e1.trans e2)
    unfold scOk
    rw [hg];rfl
  · have hg:gOk s.g=false:=c1
    refine And.intro ?_ e1
    unfold scOk
    rw [hg];rfl
end Go.Proofs.YtjpcfaddimlbdaaGreat.Id
namespace Go.Proofs.YtjpcfaddimlbdaaGreat.Id
open Go.Id Go.Conc Go.Conc.Lib
open Go.Proofs
set_option linter.unusedVariables false
set_option maxRecDepth 100000
section
variable {X:Ctx Tryz.prog} {lo:Nat}
structure MpS (base:Nat) (h:Hp) (m:Nat) (q:Int→Option (Nat×Nat)) (f:Int→List Int):Prop where
  lt:m < h.n
  lo:base≤m
  ex:∃ es,h.g m = .map es∧∀ a,mLook es a (some (.slice none 0 0))=some (gv (q a) (f a).length)
  row:∀ a,Gx base h inE 1 (q a) (f a)
  ap:∀ a a' b,isB (q a) b→isB (q a') b→a=a'
end
variable {N0:Nat→Prop} {lo:Nat}
end Go.Proofs.YtjpcfaddimlbdaaGreat.Id
namespace Go.Proofs.YtjpcfaddimlbdaaGreat.Id
open Go.Id Go.Conc Go.Conc.Lib
open Go.Proofs
set_option linter.unusedVariables false
set_option maxRecDepth 100000
section
variable {X:Ctx Tryz.prog} {lo:Nat}
end
end Go.Proofs.YtjpcfaddimlbdaaGreat.Id
namespace Go.Proofs.YtjpcfaddimlbdaaGreat.Id
open Go.Id Go.Conc Go.Conc.Lib
open Go.Proofs
set_option linter.unusedVariables false
theorem blks_nd {L:List Value}:(blks L).Nodup↔∀ (i j:Nat) (x y:Value) (b:Nat),L[i]? = some x→L[j]? = some y→blkOf x=some b→blkOf y=some b→i=j:=by
  unfold blks List.Nodup
  rw [List.pairwise_filterMap,List.pairwise_iff_getElem]
  constructor
  · intro h i j x y b hi hj hx hy
    obtain ⟨hi',rfl⟩:=List.getElem?_eq_some_iff.1 hi
    obtain ⟨hj',rfl⟩:=List.getElem?_eq_some_iff.1 hj
    rcases Nat.lt_trichotomy i j with q | q | q
    · exact absurd rfl (h i j hi' hj' q b hx b hy)
    · exact q
    · exact absurd rfl (h j i hj' hi' q b hy b hx)
  · intro h i j hi hj hlt b hb b' hb' e
    subst e
    have:=h i j _ _ b (List.getElem?_eq_getElem hi) (List.getElem?_eq_getElem hj) hb hb'
    omega
theorem mem_blks {L:List Value} {b:Nat}:b∈blks L↔∃ (i:Nat) (x:Value),L[i]? = some x∧blkOf x=some b:=by
  unfold blks
  rw [List.mem_filterMap]
  constructor
  · rintro ⟨x,hx,hb⟩
    obtain ⟨i,hi,rfl⟩:=List.getElem_of_mem hx
    exact ⟨i,_,List.getElem?_eq_getElem hi,hb⟩
  · rintro ⟨i,x,hx,hb⟩
    exact ⟨x,List.mem_of_getElem? hx,hb⟩
theorem get_set {L:List Value} {j i:Nat} {x y:Value} (h:(L.set j x)[i]? = some y):(i=j∧y=x)∨(i≠j∧L[i]? = some y):=by
  rw [List.getElem?_set] at h
  by_cases c:j=i
  · rw [if_pos c] at h
    split at h
    · cases h;exact .inl ⟨c.symm,rfl⟩
    · cases h
  · rw [if_neg c] at h
    exact .inr ⟨fun e=>c e.symm,h⟩
theorem mem_blks_set {L:List Value} {j b:Nat} {x:Value} (h:b∈blks (L.set j x)):b∈blks L∨blkOf x=some b:=by
  obtain ⟨i,y,hy,hb⟩:=mem_blks.1 h
  rcases get_set hy with ⟨_,rfl⟩ | ⟨_,hy⟩
  · exact .inr hb
  · exact .inl (mem_blks.2 ⟨i,y,hy,hb⟩)
theorem blks_set {L:List Value} {j:Nat} {x:Value} (h:(blks L).Nodup) (hx:∀ b,blkOf x=some b→b∉blks L):(blks (L.set j x)).Nodup:=by
  rw [blks_nd] at h ⊢
  intro i k y z b hi hk hy hz
  rcases get_set hi with ⟨ei,ey⟩ | ⟨ni,hi2⟩
  · rcases get_set hk with ⟨ek,ez⟩ | ⟨nk,hk2⟩
    · rw [ei,ek]
    · exact absurd (mem_blks.2 ⟨k,z,hk2,hz⟩) (hx b (ey▸hy))
  · rcases get_set hk with ⟨ek,ez⟩ | ⟨nk,hk2⟩
    · exact absurd (mem_blks.2 ⟨i,y,hi2,hy⟩) (hx b (ez▸hz))
    · exact h i k y z b hi2 hk2 hy hz
section
variable {base lo:Nat} {h h':Hp} {s:Sc} {o1 o2 o3:Option (Nat×Nat)} {L:List Value}
theorem ScO.nd (r:ScO base h s o1 o2 o3 L):(∀ b,isB o1 b→¬isB o2 b∧¬isB o3 b∧b∉blks L)∧(∀ b,isB o2 b→¬isB o3 b∧b∉blks L)∧(∀ b,isB o3 b→b∉blks L)∧(blks L).Nodup:=by
  refine ⟨fun b hb => ?_,fun b hb => ?_,fun b hb => ?_,(List.nodup_append.1 r.ap).2.1⟩
  · have:=r.off.1 (bO_is.2 hb)
    exact ⟨fun q=>this.1 (bO_is.2 q),fun q=>this.2.1 (bO_is.2 q),this.2.2⟩
  · have:=r.off.2.1 (bO_is.2 hb)
    exact ⟨fun q=>this.2.1 (bO_is.2 q),this.2.2⟩
  · exact (r.off.2.2 (bO_is.2 hb)).2.2
theorem nd_mk (h1:∀ b,isB o1 b→¬isB o2 b∧¬isB o3 b∧b∉blks L) (h2:∀ b,isB o2 b→¬isB o3 b∧b∉blks L) (h3:∀ b,isB o3 b→b∉blks L) (h4:(blks L).Nodup):(bO o1++bO o2++bO o3++blks L).Nodup:=by
  refine nodup_app (nodup_app (nodup_app (bO_nodup _) (bO_nodup _) fun x hx q => ?_) (bO_nodup _) fun x hx q => ?_) h4 fun x hx q => ?_
  · exact (h1 x (bO_is.1 hx)).1 (bO_is.1 q)
  · rcases List.mem_append.1 hx with hx | hx
    · exact (h1 x (bO_is.1 hx)).2.1 (bO_is.1 q)
    · exact (h2 x (bO_is.1 hx)).1 (bO_is.1 q)
  · rcases List.mem_append.1 hx with hx | hx
    · rcases List.mem_append.1 hx with hx | hx
      · exact (h1 x (bO_is.1 hx)).2.2 q
      · exact (h2 x (bO_is.1 hx)).2 q
    · exact h3 x (bO_is.1 hx) q
theorem ScO.light {b2 e2:Nat} (r:ScO base h s o1 (some (b2,e2)) o3 L) (hlo:lo≤base) {j:Nat} (hj:j < s.li.length) (x:Int) :
    ∃ h',St lo h (addA ⟨b2,0,some e2⟩ (j*1)) [.int .i64 x] h'∧ScO base h' ⟨s.g,s.li.set j x,s.ft⟩ o1 (some (b2,e2)) o3 L∧h'.n=h.n∧∀ i,i≠b2→h'.g i=h.g i:=by
  obtain ⟨n1,n2,n3,n4⟩:=r.nd
  have hb2:isB (some (b2,e2)) b2:=⟨e2,rfl⟩
  obtain ⟨a1,a2⟩:=n2 b2 hb2
  have st:=r.g2.2.st (lo:=lo) (fun _=>rfl) (Nat.le_trans hlo r.g2.1) hj x
  have hg:∀ i,i≠b2→(h.set b2 (.cells ((s.li.set j x).flatMap inE) 1 e2)).g i=h.g i:=fun i hi=>by simp only [Hp.set];rw [if_neg hi]
  refine ⟨_,st,⟨r.g1.keep (Nat.le_refl _) fun i hi hb=>hg i fun e=>(n1 i hb).1 (e▸hb2),⟨r.g2.1,Row.set r.g2.2.lt⟩,r.g3.keep (Nat.le_refl _) fun i hi hb=>hg i fun e=>a1 (e▸hb),r.len,fun k y l h1 h2 => ?_,r.ap⟩,rfl,hg⟩
  have E:=r.el k y l h1 h2
  exact E.keep (Nat.le_refl _) fun b hb=>hg b fun e=>a2 (mem_blks.2 ⟨k,y,h1,e▸hb⟩)
theorem ScO.setFoot {b3 e3:Nat} (r:ScO base h s o1 o2 (some (b3,e3)) L) (hlo:lo≤base) {h1:Hp} (x1:Ext h h1) (hbn:base≤h.n) {j:Nat} (hj:j < s.ft.length) {x:Value} {l:List Int} (e:OwE h.n h1 x l) :
    ∃ h',St lo h1 (addA ⟨b3,0,some e3⟩ (j*1)) [x] h'∧ScO base h' ⟨s.g,s.li,s.ft.set j l⟩ o1 o2 (some (b3,e3)) (L.set j x)∧h'.n=h1.n∧∀ i,i≠b3→h'.g i=h1.g i:=by
  obtain ⟨n1,n2,n3,n4⟩:=r.nd
  have hb3:isB (some (b3,e3)) b3:=⟨e3,rfl⟩
  have a3:=n3 b3 hb3
  have r1:=r.ext x1
  have hjL:j < L.length:=by rw [r.len];exact hj
  have st:=r1.g3.2.st (lo:=lo) vE1_len (Nat.le_trans hlo r1.g3.1) hjL x
  have hg:∀ i,i≠b3→(h1.set b3 (.cells ((L.set j x).flatMap vE1) 1 e3)).g i=h1.g i:=fun i hi=>by simp only [Hp.set];rw [if_neg hi]
  have hx:∀ b,blkOf x=some b→h.n≤b:=fun b hb=>(e.lt hb).2
  have hlt:=fun b hb=>(r.lt (b:=b) hb).1
  have hxL:∀ b,blkOf x=some b→b∉blks L:=fun b hb q=>by
    have:=hlt b (List.mem_append.2 (.inr q));have:=hx b hb;omega
  have hx3:∀ b,blkOf x=some b→b≠b3:=fun b hb q=>by
    have:=(r.g3.lt ⟨e3,rfl⟩:b3 < h.n∧base≤b3).1;have:=hx b hb;omega
  refine ⟨_,st,⟨r1.g1.keep (Nat.le_refl _) fun i hi hb=>hg i fun e=>(n1 i hb).2.1 (e▸hb3),r1.g2.keep (Nat.le_refl _) fun i hi hb=>hg i fun e=>(n2 i hb).1 (e▸hb3),⟨r1.g3.1,Row.set r1.g3.2.lt⟩,by simp [r.len],fun k y m h1' h2' => ?_,?_⟩,rfl,hg⟩
  · rcases get_set h1' with ⟨rfl,rfl⟩ | ⟨nk,h1'⟩
    · have h2':(s.ft.set k l)[k]? = some m:=h2'
      rw [List.getElem?_set_self hj] at h2'
      cases h2'
      exact (e.up fun b hb=>by have:=hx b hb;omega).keep (Nat.le_refl _) fun b hb=>hg b (hx3 b hb)
    · have h2':(s.ft.set j l)[k]? = some m:=h2'
      rw [List.getElem?_set_ne (fun e=>nk e.symm)] at h2'
      have E:=r1.el k y m h1' h2'
      exact E.keep (Nat.le_refl _) fun b hb=>hg b fun e=>a3 (mem_blks.2 ⟨k,y,h1',e▸hb⟩)
  · have out:∀ b,b∈blks (L.set j x)→b∈blks L∨h.n≤b:=fun b hb=>(mem_blks_set hb).imp id (hx b)
    have l1:∀ b,isB o1 b→b < h.n:=fun b hb=>(r.g1.lt hb).1
    have l2:∀ b,isB o2 b→b < h.n:=fun b hb=>(r.g2.lt hb).1
    have l3:∀ b,isB (some (b3,e3)) b→b < h.n:=fun b hb=>(r.g3.lt hb).1
    refine nd_mk (fun b hb=>⟨(n1 b hb).1,(n1 b hb).2.1,fun q => ?_⟩) (fun b hb=>⟨(n2 b hb).1,fun q => ?_⟩) (fun b hb q => ?_) (blks_set n4 hxL)
    · rcases out b q with q | q
      · exact (n1 b hb).2.2 q
      · have:=l1 b hb;omega
    · rcases out b q with q | q
      · exact (n2 b hb).2 q
      · have:=l2 b hb;omega
    · rcases out b q with q | q
      · exact n3 b hb q
      · have:=l3 b hb;omega
end
end Go.Proofs.YtjpcfaddimlbdaaGreat.Id
namespace Go.Proofs.YtjpcfaddimlbdaaGreat.Id
open Go.Id Go.Conc Go.Conc.Lib Go.Sort
open Go.Proofs
set_option linter.unusedVariables false
set_option maxRecDepth 100000
variable {N0:Nat→Prop} {lo:Nat}
section
variable {X:Ctx Tryz.prog}
end
end Go.Proofs.YtjpcfaddimlbdaaGreat.Id
namespace Go.Proofs.YtjpcfaddimlbdaaGreat.Id
open Go.Id Go.Conc Go.Conc.Lib
open Go.Proofs
set_option linter.unusedVariables false
set_option maxRecDepth 100000
variable {N0:Nat→Prop} {lo:Nat}
theorem sls_keep {α:Type} {h h':Hp} {enc:α→List Value} {sz:Nat} {a:Option Addr} {l:List α} (s:Sls h enc sz a l) (hn:h.n≤h'.n) (hg:∀ ad,a=some ad→h'.g ad.block=h.g ad.block):Sls h' enc sz a l:=by
  cases a with
  | none=>exact s
  | some ad=>exact ⟨Nat.lt_of_lt_of_le s.1 hn,by rw [hg ad rfl];exact s.2⟩
section
variable {X:Ctx Tryz.prog}
theorem l13Look_ok (base:Nat) (s:Sc) (k:Nat) (b1 t1 b2 t2 b3 t3:Nat) (L:List Value) (h:Hp) (r:ScO base h s (some (b1,t1)) (some (b2,t2)) (some (b3,t3)) L) (hl:lo≤base) (hg:gOk s.g=true) (hk:(k:Int) < many s.g) (h1:s.li.length=(many s.g).toNat) (h2:s.ft.length=(many s.g).toNat):Tri X lo 100 [scOV s (some (b1,t1)) (some (b2,t2)) (some (b3,t3)),.int .i64 (k:Int)] h fun v h'=>v=scOV s (some (b1,t1)) (some (b2,t2)) (some (b3,t3))∧(∃ L',ScO base h' (lookS s k) (some (b1,t1)) (some (b2,t2)) (some (b3,t3)) L'∧∀ b∈blks L',b∈blks L∨h.n≤b)∧h.n≤h'.n∧∀ b,b < h.n→b≠b2→b≠b3→h'.g b=h.g b:=by
  refine enter tbOk mtOk ⟨[],[(2,[0,1,2,3,4,5,6,7,8,9,10,11],[0,1,0,0,8,0,32,96,224,504,1023,2047]),(3,[0,1,2,3,4,5,6,7,8,9,10,11],[0,1,0,0,8,0,32,96,224,504,1023,2047])]⟩ 400 Tryz.func100 rfl rfl rfl fun hlo => ?_
  have gs:Sls h cE 2 (some ⟨b1,0,some t1⟩) s.g.cs:=r.g1.2.sls cE2
  have hn:(s.g.cs.length:Int) < 2 ^ 31:=by have:=gOk_len hg;omega
  obtain ⟨T1,T2,T3,T4,_⟩:=trail_ok s.g k
  have hvis:=trail_vis s.g k
  refine callP (l11Go_ok s.g k (some ⟨b1,0,some t1⟩) 1 h gs hg hk) ?_
  rintro v h2 ⟨wb,o1,o2,rfl,m⟩
  obtain ⟨va,vf,p1,p2,p5⟩:=gw_sls' (m.g1.up m.l1)
  obtain ⟨ea,ef,p3,p4⟩:=gw_sls m.g2
  have hbx:=m.bx
  rw [p1,p3] at hbx
  have x2:=m.ext
  refine And.intro (by kernel_rfl) ?_
  repeat refine And.intro Is.r ?_
  refine ⟨_,hbx.ldF (i:=3) rfl,?_⟩
  refine callP (l11Light_ok s.g (trail s.g k).2 (some ⟨b1,0,some t1⟩) 1 ea ef h2 (gs.ext x2) hn p4 T2.2 T3 T4) ?_
  rintro v h3 ⟨rfl,x3⟩
  have x23:=x2.trans x3
  have n23:=x23.n
  obtain ⟨h4,st4,r4,n4,k4⟩:=(r.ext x23).light hl (j:=k) (by omega) (lightAt s.g k)
  refine And.intro Is.r ?_
  refine And.intro ⟨by omega,by omega⟩ ?_
  refine ⟨h4,st4,?_⟩
  repeat refine And.intro Is.r ?_
  have k42:∀ b,b < h2.n→b≠b2→h4.g b=h2.g b:=fun b hb hne=>(k4 b hne).trans (x3.g b hb)
  have lb2:b2 < h.n:=r.g2.2.lt
  have lwb:=m.l4
  have bx4:Bx h4 wb [.int .i64 s.g.w,.slice (some ⟨b1,0,some t1⟩) s.g.cs.length 1,.slice va (trail s.g k).1.length vf,.slice ea (trail s.g k).2.length ef]:=⟨by have:=hbx.lt;have:=x3.n;omega,by rw [k42 wb hbx.lt (by omega)];exact hbx.g⟩
  have vs4:Sls h4 vE 3 va (trail s.g k).1:=sls_keep p2 (by have:=x3.n;omega) fun ad e=>by
    subst e
    exact k42 _ p2.1 (by have:=p5 _ rfl;omega)
  have gs4:Sls h4 cE 2 (some ⟨b1,0,some t1⟩) s.g.cs:=r4.g1.2.sls cE2
  refine And.intro (by kernel_rfl) ?_
  refine ⟨_,bx4.ldF (i:=2) rfl,?_⟩
  refine callP (l11Foot_ok s.g (trail s.g k).1 (some ⟨b1,0,some t1⟩) va 1 vf h4 gs4 hn vs4 T2.1 hvis) ?_
  rintro v h5 ⟨⟨c,ce,rfl,w1,w2⟩,x5⟩
  have hfoot:footL (trail s.g k).1 s.g.cs.length=footG s.g k:=rfl
  rw [hfoot] at w2 ⊢
  obtain ⟨h6,st6,r6,n6,k6⟩:=r4.setFoot (lo:=lo) hl x5 (by have:=r.g1.1;have:=r.g1.2.lt;omega) (j:=k) (by show k < s.ft.length;omega) (x := .slice (some ⟨c,0,some ce⟩) (footG s.g k).length 1) (l:=footG s.g k) ⟨some (c,ce),rfl,w1,[],by rw [List.append_nil];exact w2⟩
  have n5:=x5.n
  refine And.intro Is.r ?_
  refine And.intro ⟨by omega,by omega⟩ ?_
  refine ⟨h6,st6,?_⟩
  repeat refine And.intro Is.r ?_
  have lb3:b3 < h.n:=r.g3.2.lt
  have n3':=x3.n
  refine And.intro rfl ⟨⟨_,r6,fun b hb => ?_⟩,by omega,fun b hb hb2 hb3 => ?_⟩
  · rcases mem_blks_set hb with hb | hb
    · exact .inl hb
    · have:c=b:=Option.some.inj hb
      exact .inr (by omega)
  · exact (k6 b hb3).trans ((x5.g b (by omega)).trans ((k4 b hb2).trans (x23.g b hb)))
theorem copyA {α:Type} {h:Hp} {enc:α→List Value} {sz fl:Nat} {a:Option Addr} {cs:List α} (hs:Sls h enc sz a cs) (he:∀ x,(enc x).length=sz) (hz:sz≠0) (hlo:lo≤h.n) (hn:cs.length≤1048576) :
    SlCells (h.push (.cells [] sz 0)) (.slice a cs.length fl) sz (cs.flatMap enc)∧Ap lo (h.push (.cells [] sz 0)) sz (.slice (some ⟨h.n,0,some 0⟩) 0 1) (cs.flatMap enc) cs.length (.slice (some ⟨h.n,0,some 1⟩) cs.length 1) ((h.push (.cells [] sz 0)).set h.n (.cells (cs.flatMap enc) sz 1))∧Ext h ((h.push (.cells [] sz 0)).set h.n (.cells (cs.flatMap enc) sz 1))∧Row ((h.push (.cells [] sz 0)).set h.n (.cells (cs.flatMap enc) sz 1)) h.n 1 enc sz cs:=by
  have e1:Ext h (h.push (.cells [] sz 0)):=Ext.push _ _
  have r1:Row (h.push (.cells [] sz 0)) h.n 0 enc sz ([]:List α):=⟨by simp [Hp.push],by simp [Hp.push]⟩
  have ap:=r1.app (m:=cs) (lo:=lo) he hz hlo (by unfold Id.maxLen;simp;omega)
  refine ⟨sls_cells (hs.ext e1),by simpa using ap,e1.set (Nat.le_refl _) _,Row.set r1.lt⟩
theorem l1Copy_ok (g:Gd) (a:Option Addr) (fl:Nat) (h:Hp) (hs:Sls h cE 2 a g.cs) (hn:g.cs.length≤1048576):Tri X lo 99 [.agg #[.int .i64 g.w,.slice a g.cs.length fl]] h fun v h'=>(∃ b,v = .agg #[.int .i64 g.w,.slice (some ⟨b,0,some 1⟩) g.cs.length 1]∧h.n≤b∧Row h' b 1 cE 2 g.cs)∧Ext h h':=by
  refine enter tbOk mtOk ⟨[],[(1,[0,1,3,4,2,5,6,7],[0,1,0,0,8,28,63,127])]⟩ 400 Tryz.func99 rfl rfl rfl fun hlo => ?_
  obtain ⟨c1,c2,c3,c4⟩:=copyA (fl:=fl) (lo:=lo) hs cE2 (by decide) hlo hn
  refine And.intro (by kernel_rfl) ?_
  refine And.intro Is.r ?_
  refine And.intro Is.r ?_
  refine ⟨_,c1,_,_,c2,?_⟩
  repeat refine And.intro Is.r ?_
  exact And.intro ⟨h.n,rfl,Nat.le_refl _,c4⟩ c3
structure Mk (h0 h:Hp) (g:Gd) (m:Nat) (o l f:Option Nat):Prop where
  x:Ext h0 h
  rc:∀ b,o=some b→h0.n≤b∧Row h b 1 cE 2 g.cs
  rl:∀ b,l=some b→h0.n≤b∧Row h b 0 inE 1 (List.replicate m 0)
  rf:∀ b,f=some b→h0.n≤b∧Row h b 0 vE1 1 (List.replicate m (.slice none 0 0))
  a1:∀ b,o=some b→l≠some b
  a2:∀ b,o=some b→f≠some b
  a3:∀ b,l=some b→f≠some b
section
variable {h0 h h1:Hp} {g:Gd} {m:Nat} {o l f:Option Nat}
theorem Mk.zero:Mk h h g m none none none:=⟨Ext.refl _,fun b e=>(by cases e),fun b e=>(by cases e),fun b e=>(by cases e),fun b e=>(by cases e),fun b e=>(by cases e),fun b e=>(by cases e)⟩
theorem Mk.copy (k:Mk h0 h g m none l f) {b:Nat} (hb:h.n≤b) (r:Row h1 b 1 cE 2 g.cs) (e:Ext h h1):Mk h0 h1 g m (some b) l f:=by
  have n0:=k.x.n
  refine ⟨k.x.trans e,fun c q => ?_,fun c q=>⟨(k.rl c q).1,(k.rl c q).2.ext e⟩,fun c q=>⟨(k.rf c q).1,(k.rf c q).2.ext e⟩,fun c q q' => ?_,fun c q q' => ?_,k.a3⟩
  · cases q;exact ⟨by omega,r⟩
  · cases q;have:=(k.rl b q').2.lt;omega
  · cases q;have:=(k.rf b q').2.lt;omega
theorem Mk.mkL (k:Mk h0 h g m o none f):Mk h0 (h.push (.cells (zeros [.int .i64 0] m) 1 0)) g m o (some h.n) f:=by
  have n0:=k.x.n
  have e:Ext h (h.push (.cells (zeros [.int .i64 0] m) 1 0)):=Ext.push _ _
  refine ⟨k.x.trans e,fun c q=>⟨(k.rc c q).1,(k.rc c q).2.ext e⟩,fun c q => ?_,fun c q=>⟨(k.rf c q).1,(k.rf c q).2.ext e⟩,fun c q q' => ?_,k.a2,fun c q q' => ?_⟩
  · cases q;exact ⟨n0,by rw [zeros_flat (enc:=inE) (z:=[.int .i64 0]) (x:=(0:Int)) rfl];exact Row.push⟩
  · cases q';have:=(k.rc h.n q).2.lt;omega
  · cases q;have:=(k.rf h.n q').2.lt;omega
theorem Mk.mkF (k:Mk h0 h g m o l none):Mk h0 (h.push (.cells (zeros [.slice none 0 0] m) 1 0)) g m o l (some h.n):=by
  have n0:=k.x.n
  have e:Ext h (h.push (.cells (zeros [.slice none 0 0] m) 1 0)):=Ext.push _ _
  refine ⟨k.x.trans e,fun c q=>⟨(k.rc c q).1,(k.rc c q).2.ext e⟩,fun c q=>⟨(k.rl c q).1,(k.rl c q).2.ext e⟩,fun c q => ?_,k.a1,fun c q q' => ?_,fun c q q' => ?_⟩
  · cases q;exact ⟨n0,by rw [zeros_flat (enc:=vE1) (z:=[.slice none 0 0]) (x:=(.slice none 0 0:Value)) rfl];exact Row.push⟩
  · cases q';have:=(k.rc h.n q).2.lt;omega
  · cases q';have:=(k.rl h.n q).2.lt;omega
theorem Mk.fin {b1 b2 b3:Nat} (k:Mk h0 h g m (some b1) (some b2) (some b3)):ScO h0.n h ⟨g,List.replicate m 0,List.replicate m []⟩ (some (b1,1)) (some (b2,0)) (some (b3,0)) (List.replicate m (.slice none 0 0)):=by
  have hbl:blks (List.replicate m (.slice none 0 0))=[]:=by
    unfold blks
    exact List.filterMap_replicate_of_none rfl
  refine ⟨k.rc b1 rfl,k.rl b2 rfl,k.rf b3 rfl,by simp,fun j x l hx hl => ?_,nd_mk (fun b hb => ?_) (fun b hb => ?_) (fun b hb => ?_) ?_⟩
  · obtain ⟨hj,rfl⟩:=List.getElem?_eq_some_iff.1 hx
    obtain ⟨hj',rfl⟩:=List.getElem?_eq_some_iff.1 hl
    simp only [List.getElem_replicate]
    exact ⟨none,rfl,rfl⟩
  · rw [hbl]
    have:=isB_eq hb
    subst this
    exact ⟨fun q=>k.a1 b1 rfl (by rw [isB_eq q]),fun q=>k.a2 b1 rfl (by rw [isB_eq q]),by simp⟩
  · rw [hbl]
    have:=isB_eq hb
    subst this
    exact ⟨fun q=>k.a3 b2 rfl (by rw [isB_eq q]),by simp⟩
  · rw [hbl];simp
  · rw [hbl];exact List.nodup_nil
end
end
end Go.Proofs.YtjpcfaddimlbdaaGreat.Id
namespace Go.Proofs.YtjpcfaddimlbdaaGreat.Id
open Go.Id Go.Conc Go.Conc.Lib
open Go.Proofs
set_option linter.unusedVariables false
set_option maxRecDepth 100000
variable {X:Ctx Tryz.prog} {lo:Nat}
theorem Mk.leaf {Q:Nat×Nat×Nat→Prop} {h0 h:Hp} {g:Gd} {m b1 b2 b3:Nat} (k:Mk h0 h g m (some b1) (some b2) (some b3)) (q:Q (b1,b2,b3)):∃ t,Q t:=⟨_,q⟩
set_option maxHeartbeats 1600000 in
theorem sSceneNew_ok (g:Gd) (ad:Option Addr) (fl:Nat) (h:Hp) (hs:Sls h cE 2 ad g.cs) (hn:(g.cs.length:Int) < 2 ^ 31):Tri X lo 57 [.agg #[.int .i64 g.w,.slice ad g.cs.length fl]] h fun v h'=>(∃ o1 o2 o3 L,v = .tuple #[scOV (newS g) o1 o2 o3,.bool (gOk g)]∧ScO h.n h' (newS g) o1 o2 o3 L)∧Ext h h':=by
  refine enter tbOk mtOk ⟨[],[]⟩ 400 Tryz.func57 rfl rfl rfl fun hlo => ?_
  refine callP (sGridOk_ok g.w ad fl g.cs h hs hn) ?_
  rintro v h1 ⟨rfl,e1⟩
  refine cnd (fun c1 => ?_) (fun c1 => ?_)
  · have hg:gOk g=false:=by simpa using c1
    have hn0:newS g=sc0:=by unfold newS;rw [hg];rfl
    rw [hn0,hg]
    exact ⟨⟨none,none,none,[],rfl,rfl,rfl,rfl,rfl,fun j x l hx=>(by simp at hx),List.nodup_nil⟩,e1⟩
  · have hg:gOk g=true:=by simpa using c1
    have hn0:newS g=scG g:=by unfold newS;rw [hg];rfl
    rw [hn0,hg]
    have hn1:g.cs.length≤1048576:=by have:=gOk_len hg;omega
    have hm:=many_le g hg
    refine callP (l3Many_ok g ad fl h1 hg hn) ?_
    rintro v h2 ⟨rfl,e2⟩
    have e12:=e1.trans e2
    have cp:=fun {h':Hp} (x:Ext h2 h')=>l1Copy_ok (X:=X) (lo:=lo) g ad fl h' ((hs.ext e12).ext x) hn1
    have hmk:0≤many g∧many g≤many g∧many g≤Id.maxLen:=⟨by omega,Int.le_refl _,by unfold Id.maxLen;omega⟩
    have hmv:some (Sl.v (Value.int .i64 (many g)))=some (Sl.v (.int .i64 (many g))):=rfl
    refine drawE (σ:=Nat×Nat×Nat) tbOk mtOk ⟨[],[(4,[0,2,4,1,3,5,6,7,8],[0,1,0,4,0,16,63,0,255])]⟩ 400 (.fl 0 (.fl 2 (.fl 4 (.ch 1 (.ch 3 (.ch 5 (.fl 6 (.ch 7 (.ch 8 .fin .stop) .stop)) (.ch 7 (.ch 5 (.fl 6 (.ch 8 .fin .stop)) .stop) .stop)) (.ch 5 (.ch 3 (.fl 6 (.ch 7 (.ch 8 .fin .stop) .stop)) (.ch 7 (.ch 3 (.fl 6 (.ch 8 .fin .stop)) .stop) .stop)) (.ch 7 (.ch 3 (.ch 5 (.fl 6 (.ch 8 .fin .stop)) .stop) (.ch 5 (.ch 3 (.fl 6 (.ch 8 .fin .stop)) .stop) .stop)) .stop))) (.ch 3 (.ch 1 (.ch 5 (.fl 6 (.ch 7 (.ch 8 .fin .stop) .stop)) (.ch 7 (.ch 5 (.fl 6 (.ch 8 .fin .stop)) .stop) .stop)) (.ch 5 (.ch 1 (.fl 6 (.ch 7 (.ch 8 .fin .stop) .stop)) (.ch 7 (.ch 1 (.fl 6 (.ch 8 .fin .stop)) .stop) .stop)) (.ch 7 (.ch 1 (.ch 5 (.fl 6 (.ch 8 .fin .stop)) .stop) (.ch 5 (.ch 1 (.fl 6 (.ch 8 .fin .stop)) .stop) .stop)) .stop))) (.ch 5 (.ch 1 (.ch 3 (.fl 6 (.ch 7 (.ch 8 .fin .stop) .stop)) (.ch 7 (.ch 3 (.fl 6 (.ch 8 .fin .stop)) .stop) .stop)) (.ch 3 (.ch 1 (.fl 6 (.ch 7 (.ch 8 .fin .stop) .stop)) (.ch 7 (.ch 1 (.fl 6 (.ch 8 .fin .stop)) .stop) .stop)) (.ch 7 (.ch 1 (.ch 3 (.fl 6 (.ch 8 .fin .stop)) .stop) (.ch 3 (.ch 1 (.fl 6 (.ch 8 .fin .stop)) .stop) .stop)) .stop))) (.ch 7 (.ch 1 (.ch 3 (.ch 5 (.fl 6 (.ch 8 .fin .stop)) .stop) (.ch 5 (.ch 3 (.fl 6 (.ch 8 .fin .stop)) .stop) .stop)) (.ch 3 (.ch 1 (.ch 5 (.fl 6 (.ch 8 .fin .stop)) .stop) (.ch 5 (.ch 1 (.fl 6 (.ch 8 .fin .stop)) .stop) .stop)) (.ch 5 (.ch 1 (.ch 3 (.fl 6 (.ch 8 .fin .stop)) .stop) (.ch 3 (.ch 1 (.fl 6 (.ch 8 .fin .stop)) .stop) .stop)) .stop))) .stop))))))) [0,1,0,4,0,16,63,0,255] (fun _=>[(5,.l 2 0),(2,.l 1 0),(1,.l 0 0),(4,.v (.int .i64 (many g)))]) (fun t=>[[.int .i64 g.w,.slice ad g.cs.length fl],[.int .i64 0,.slice none 0 0,.slice none 0 0,.slice none 0 0],[.int .i64 g.w,.slice (some ⟨t.1,0,some 1⟩) g.cs.length 1,.slice (some ⟨t.2.1,0,some 0⟩) (many g).toNat 1,.slice (some ⟨t.2.2,0,some 0⟩) (many g).toNat 1]]) (fun t h'=>Mk h2 h' g (many g).toNat (some t.1) (some t.2.1) (some t.2.2)) (fun _=>rfl) (by kernel_rfl) ?_ ?_
    · have M:Mk h2 h2 g (many g).toNat none none none:=Mk.zero
      refine And.intro ?_ ?_
      · refine callP (cp M.x) ?_
        rintro v hc ⟨⟨b,rfl,q1,q2⟩,e1⟩
        have M:=M.copy q1 q2 e1
        repeat refine And.intro Is.r ?_
        refine And.intro ?_ ?_
        · refine And.intro hmk ?_
          have M:=M.mkL
          repeat refine And.intro Is.r ?_
          refine And.intro ?_ ?_
          · refine And.intro hmk ?_
            have M:=M.mkF
            repeat refine And.intro Is.r ?_
            refine And.intro ?_ trivial
            repeat refine And.intro Is.r ?_
            refine And.intro ?_ trivial
            repeat refine And.intro Is.r ?_
            exact M.leaf ⟨⟨rfl,rfl,rfl,hmv,trivial⟩,⟨rfl,rfl,rfl,trivial⟩,M⟩
          · refine And.intro ?_ trivial
            repeat refine And.intro Is.r ?_
            refine And.intro ?_ trivial
            refine And.intro hmk ?_
            have M:=M.mkF
            repeat refine And.intro Is.r ?_
            refine And.intro ?_ trivial
            repeat refine And.intro Is.r ?_
            exact M.leaf ⟨⟨rfl,rfl,rfl,hmv,trivial⟩,⟨rfl,rfl,rfl,trivial⟩,M⟩
        · refine And.intro ?_ ?_
          · refine And.intro hmk ?_
            have M:=M.mkF
            repeat refine And.intro Is.r ?_
            refine And.intro ?_ ?_
            · refine And.intro hmk ?_
              have M:=M.mkL
              repeat refine And.intro Is.r ?_
              refine And.intro ?_ trivial
              repeat refine And.intro Is.r ?_
              refine And.intro ?_ trivial
              repeat refine And.intro Is.r ?_
              exact M.leaf ⟨⟨rfl,rfl,rfl,hmv,trivial⟩,⟨rfl,rfl,rfl,trivial⟩,M⟩
            · refine And.intro ?_ trivial
              repeat refine And.intro Is.r ?_
              refine And.intro ?_ trivial
              refine And.intro hmk ?_
              have M:=M.mkL
              repeat refine And.intro Is.r ?_
              refine And.intro ?_ trivial
              repeat refine And.intro Is.r ?_
              exact M.leaf ⟨⟨rfl,rfl,rfl,hmv,trivial⟩,⟨rfl,rfl,rfl,trivial⟩,M⟩
          · refine And.intro ?_ trivial
            repeat refine And.intro Is.r ?_
            refine And.intro ?_ ?_
            · refine And.intro hmk ?_
              have M:=M.mkL
              repeat refine And.intro Is.r ?_
              refine And.intro ?_ trivial
              refine And.intro hmk ?_
              have M:=M.mkF
              repeat refine And.intro Is.r ?_
              refine And.intro ?_ trivial
              repeat refine And.intro Is.r ?_
              exact M.leaf ⟨⟨rfl,rfl,rfl,hmv,trivial⟩,⟨rfl,rfl,rfl,trivial⟩,M⟩
            · refine And.intro ?_ trivial
              refine And.intro hmk ?_
              have M:=M.mkF
              repeat refine And.intro Is.r ?_
              refine And.intro ?_ trivial
              refine And.intro hmk ?_
              have M:=M.mkL
              repeat refine And.intro Is.r ?_
              refine And.intro ?_ trivial
              repeat refine And.intro Is.r ?_
              exact M.leaf ⟨⟨rfl,rfl,rfl,hmv,trivial⟩,⟨rfl,rfl,rfl,trivial⟩,M⟩
      · refine And.intro ?_ ?_
        · refine And.intro hmk ?_
          have M:=M.mkL
          repeat refine And.intro Is.r ?_
          refine And.intro ?_ ?_
          · refine callP (cp M.x) ?_
            rintro v hc ⟨⟨b,rfl,q1,q2⟩,e1⟩
            have M:=M.copy q1 q2 e1
            repeat refine And.intro Is.r ?_
            refine And.intro ?_ ?_
            · refine And.intro hmk ?_
              have M:=M.mkF
              repeat refine And.intro Is.r ?_
              refine And.intro ?_ trivial
              repeat refine And.intro Is.r ?_
              refine And.intro ?_ trivial
              repeat refine And.intro Is.r ?_
              exact M.leaf ⟨⟨rfl,rfl,rfl,hmv,trivial⟩,⟨rfl,rfl,rfl,trivial⟩,M⟩
            · refine And.intro ?_ trivial
              repeat refine And.intro Is.r ?_
              refine And.intro ?_ trivial
              refine And.intro hmk ?_
              have M:=M.mkF
              repeat refine And.intro Is.r ?_
              refine And.intro ?_ trivial
              repeat refine And.intro Is.r ?_
              exact M.leaf ⟨⟨rfl,rfl,rfl,hmv,trivial⟩,⟨rfl,rfl,rfl,trivial⟩,M⟩
          · refine And.intro ?_ ?_
            · refine And.intro hmk ?_
              have M:=M.mkF
              repeat refine And.intro Is.r ?_
              refine And.intro ?_ ?_
              · refine callP (cp M.x) ?_
                rintro v hc ⟨⟨b,rfl,q1,q2⟩,e1⟩
                have M:=M.copy q1 q2 e1
                repeat refine And.intro Is.r ?_
                refine And.intro ?_ trivial
                repeat refine And.intro Is.r ?_
                refine And.intro ?_ trivial
                repeat refine And.intro Is.r ?_
                exact M.leaf ⟨⟨rfl,rfl,rfl,hmv,trivial⟩,⟨rfl,rfl,rfl,trivial⟩,M⟩
              · refine And.intro ?_ trivial
                repeat refine And.intro Is.r ?_
                refine And.intro ?_ trivial
                refine callP (cp M.x) ?_
                rintro v hc ⟨⟨b,rfl,q1,q2⟩,e1⟩
                have M:=M.copy q1 q2 e1
                repeat refine And.intro Is.r ?_
                refine And.intro ?_ trivial
                repeat refine And.intro Is.r ?_
                exact M.leaf ⟨⟨rfl,rfl,rfl,hmv,trivial⟩,⟨rfl,rfl,rfl,trivial⟩,M⟩
            · refine And.intro ?_ trivial
              repeat refine And.intro Is.r ?_
              refine And.intro ?_ ?_
              · refine callP (cp M.x) ?_
                rintro v hc ⟨⟨b,rfl,q1,q2⟩,e1⟩
                have M:=M.copy q1 q2 e1
                repeat refine And.intro Is.r ?_
                refine And.intro ?_ trivial
                refine And.intro hmk ?_
                have M:=M.mkF
                repeat refine And.intro Is.r ?_
                refine And.intro ?_ trivial
                repeat refine And.intro Is.r ?_
                exact M.leaf ⟨⟨rfl,rfl,rfl,hmv,trivial⟩,⟨rfl,rfl,rfl,trivial⟩,M⟩
              · refine And.intro ?_ trivial
                refine And.intro hmk ?_
                have M:=M.mkF
                repeat refine And.intro Is.r ?_
                refine And.intro ?_ trivial
                refine callP (cp M.x) ?_
                rintro v hc ⟨⟨b,rfl,q1,q2⟩,e1⟩
                have M:=M.copy q1 q2 e1
                repeat refine And.intro Is.r ?_
                refine And.intro ?_ trivial
                repeat refine And.intro Is.r ?_
                exact M.leaf ⟨⟨rfl,rfl,rfl,hmv,trivial⟩,⟨rfl,rfl,rfl,trivial⟩,M⟩
        · refine And.intro ?_ ?_
          · refine And.intro hmk ?_
            have M:=M.mkF
            repeat refine And.intro Is.r ?_
            refine And.intro ?_ ?_
            · refine callP (cp M.x) ?_
              rintro v hc ⟨⟨b,rfl,q1,q2⟩,e1⟩
              have M:=M.copy q1 q2 e1
              repeat refine And.intro Is.r ?_
              refine And.intro ?_ ?_
              · refine And.intro hmk ?_
                have M:=M.mkL
                repeat refine And.intro Is.r ?_
                refine And.intro ?_ trivial
                repeat refine And.intro Is.r ?_
                refine And.intro ?_ trivial
                repeat refine And.intro Is.r ?_
                exact M.leaf ⟨⟨rfl,rfl,rfl,hmv,trivial⟩,⟨rfl,rfl,rfl,trivial⟩,M⟩
              · refine And.intro ?_ trivial
                repeat refine And.intro Is.r ?_
                refine And.intro ?_ trivial
                refine And.intro hmk ?_
                have M:=M.mkL
                repeat refine And.intro Is.r ?_
                refine And.intro ?_ trivial
                repeat refine And.intro Is.r ?_
                exact M.leaf ⟨⟨rfl,rfl,rfl,hmv,trivial⟩,⟨rfl,rfl,rfl,trivial⟩,M⟩
            · refine And.intro ?_ ?_
              · refine And.intro hmk ?_
                have M:=M.mkL
                repeat refine And.intro Is.r ?_
                refine And.intro ?_ ?_
                · refine callP (cp M.x) ?_
                  rintro v hc ⟨⟨b,rfl,q1,q2⟩,e1⟩
                  have M:=M.copy q1 q2 e1
                  repeat refine And.intro Is.r ?_
                  refine And.intro ?_ trivial
                  repeat refine And.intro Is.r ?_
                  refine And.intro ?_ trivial
                  repeat refine And.intro Is.r ?_
                  exact M.leaf ⟨⟨rfl,rfl,rfl,hmv,trivial⟩,⟨rfl,rfl,rfl,trivial⟩,M⟩
                · refine And.intro ?_ trivial
                  repeat refine And.intro Is.r ?_
                  refine And.intro ?_ trivial
                  refine callP (cp M.x) ?_
                  rintro v hc ⟨⟨b,rfl,q1,q2⟩,e1⟩
                  have M:=M.copy q1 q2 e1
                  repeat refine And.intro Is.r ?_
                  refine And.intro ?_ trivial
                  repeat refine And.intro Is.r ?_
                  exact M.leaf ⟨⟨rfl,rfl,rfl,hmv,trivial⟩,⟨rfl,rfl,rfl,trivial⟩,M⟩
              · refine And.intro ?_ trivial
                repeat refine And.intro Is.r ?_
                refine And.intro ?_ ?_
                · refine callP (cp M.x) ?_
                  rintro v hc ⟨⟨b,rfl,q1,q2⟩,e1⟩
                  have M:=M.copy q1 q2 e1
                  repeat refine And.intro Is.r ?_
                  refine And.intro ?_ trivial
                  refine And.intro hmk ?_
                  have M:=M.mkL
                  repeat refine And.intro Is.r ?_
                  refine And.intro ?_ trivial
                  repeat refine And.intro Is.r ?_
                  exact M.leaf ⟨⟨rfl,rfl,rfl,hmv,trivial⟩,⟨rfl,rfl,rfl,trivial⟩,M⟩
                · refine And.intro ?_ trivial
                  refine And.intro hmk ?_
                  have M:=M.mkL
                  repeat refine And.intro Is.r ?_
                  refine And.intro ?_ trivial
                  refine callP (cp M.x) ?_
                  rintro v hc ⟨⟨b,rfl,q1,q2⟩,e1⟩
                  have M:=M.copy q1 q2 e1
                  repeat refine And.intro Is.r ?_
                  refine And.intro ?_ trivial
                  repeat refine And.intro Is.r ?_
                  exact M.leaf ⟨⟨rfl,rfl,rfl,hmv,trivial⟩,⟨rfl,rfl,rfl,trivial⟩,M⟩
          · refine And.intro ?_ trivial
            repeat refine And.intro Is.r ?_
            refine And.intro ?_ ?_
            · refine callP (cp M.x) ?_
              rintro v hc ⟨⟨b,rfl,q1,q2⟩,e1⟩
              have M:=M.copy q1 q2 e1
              repeat refine And.intro Is.r ?_
              refine And.intro ?_ ?_
              · refine And.intro hmk ?_
                have M:=M.mkL
                repeat refine And.intro Is.r ?_
                refine And.intro ?_ trivial
                refine And.intro hmk ?_
                have M:=M.mkF
                repeat refine And.intro Is.r ?_
                refine And.intro ?_ trivial
                repeat refine And.intro Is.r ?_
                exact M.leaf ⟨⟨rfl,rfl,rfl,hmv,trivial⟩,⟨rfl,rfl,rfl,trivial⟩,M⟩
              · refine And.intro ?_ trivial
                refine And.intro hmk ?_
                have M:=M.mkF
                repeat refine And.intro Is.r ?_
                refine And.intro ?_ trivial
                refine And.intro hmk ?_
                have M:=M.mkL
                repeat refine And.intro Is.r ?_
                refine And.intro ?_ trivial
                repeat refine And.intro Is.r ?_
                exact M.leaf ⟨⟨rfl,rfl,rfl,hmv,trivial⟩,⟨rfl,rfl,rfl,trivial⟩,M⟩
            · refine And.intro ?_ ?_
              · refine And.intro hmk ?_
                have M:=M.mkL
                repeat refine And.intro Is.r ?_
                refine And.intro ?_ ?_
                · refine callP (cp M.x) ?_
                  rintro v hc ⟨⟨b,rfl,q1,q2⟩,e1⟩
                  have M:=M.copy q1 q2 e1
                  repeat refine And.intro Is.r ?_
                  refine And.intro ?_ trivial
                  refine And.intro hmk ?_
                  have M:=M.mkF
                  repeat refine And.intro Is.r ?_
                  refine And.intro ?_ trivial
                  repeat refine And.intro Is.r ?_
                  exact M.leaf ⟨⟨rfl,rfl,rfl,hmv,trivial⟩,⟨rfl,rfl,rfl,trivial⟩,M⟩
                · refine And.intro ?_ trivial
                  refine And.intro hmk ?_
                  have M:=M.mkF
                  repeat refine And.intro Is.r ?_
                  refine And.intro ?_ trivial
                  refine callP (cp M.x) ?_
                  rintro v hc ⟨⟨b,rfl,q1,q2⟩,e1⟩
                  have M:=M.copy q1 q2 e1
                  repeat refine And.intro Is.r ?_
                  refine And.intro ?_ trivial
                  repeat refine And.intro Is.r ?_
                  exact M.leaf ⟨⟨rfl,rfl,rfl,hmv,trivial⟩,⟨rfl,rfl,rfl,trivial⟩,M⟩
              · refine And.intro ?_ trivial
                refine And.intro hmk ?_
                have M:=M.mkF
                repeat refine And.intro Is.r ?_
                refine And.intro ?_ ?_
                · refine callP (cp M.x) ?_
                  rintro v hc ⟨⟨b,rfl,q1,q2⟩,e1⟩
                  have M:=M.copy q1 q2 e1
                  repeat refine And.intro Is.r ?_
                  refine And.intro ?_ trivial
                  refine And.intro hmk ?_
                  have M:=M.mkL
                  repeat refine And.intro Is.r ?_
                  refine And.intro ?_ trivial
                  repeat refine And.intro Is.r ?_
                  exact M.leaf ⟨⟨rfl,rfl,rfl,hmv,trivial⟩,⟨rfl,rfl,rfl,trivial⟩,M⟩
                · refine And.intro ?_ trivial
                  refine And.intro hmk ?_
                  have M:=M.mkL
                  repeat refine And.intro Is.r ?_
                  refine And.intro ?_ trivial
                  refine callP (cp M.x) ?_
                  rintro v hc ⟨⟨b,rfl,q1,q2⟩,e1⟩
                  have M:=M.copy q1 q2 e1
                  repeat refine And.intro Is.r ?_
                  refine And.intro ?_ trivial
                  repeat refine And.intro Is.r ?_
                  exact M.leaf ⟨⟨rfl,rfl,rfl,hmv,trivial⟩,⟨rfl,rfl,rfl,trivial⟩,M⟩
    · rintro ⟨b1,b2,b3⟩ h3 M
      simp only at M
      have r0:=M.fin
      have x3:=M.x
      have e13:=e12.trans x3
      have n13:=e12.n
      refine loop (σ:=Nat×List Value) tbOk mtOk ⟨[],[(4,[0,2,4,1,3,5,6,7,8],[0,1,0,4,0,16,63,0,255])]⟩ (fun t=>[(6,.v (.int .i64 (t.1:Int))),(5,.l 2 0),(2,.l 1 0),(1,.l 0 0),(4,.v (.int .i64 (many g)))]) (fun _=>[[.int .i64 g.w,.slice ad g.cs.length fl],[.int .i64 0,.slice none 0 0,.slice none 0 0,.slice none 0 0],[.int .i64 g.w,.slice (some ⟨b1,0,some 1⟩) g.cs.length 1,.slice (some ⟨b2,0,some 0⟩) (many g).toNat 1,.slice (some ⟨b3,0,some 0⟩) (many g).toNat 1]]) (fun t h'=>(t.1:Int)≤many g∧ScO h2.n h' (((List.range t.1).map fun (k:Nat)=>(k:Int)).foldl lookS ⟨g,List.replicate (many g).toNat 0,List.replicate (many g).toNat []⟩) (some (b1,1)) (some (b2,0)) (some (b3,0)) t.2∧Ext h h') (fun t=>(many g).toNat - t.1) 400 (0,List.replicate (many g).toNat (.slice none 0 0)) (fun _=>rfl) ⟨rfl,rfl,rfl,rfl,rfl,trivial⟩ ⟨rfl,rfl,rfl,trivial⟩ ⟨by show ((0:Nat):Int)≤_;omega,r0,e13⟩ (fun t h4 hI again => ?_)
      obtain ⟨i,L⟩:=t
      obtain ⟨i1,r,x4⟩:=hI
      simp only at i1 r
      have hgl:=looks_g ((List.range i).map fun (k:Nat)=>(k:Int)) ⟨g,List.replicate (many g).toNat 0,List.replicate (many g).toNat []⟩
      obtain ⟨hn1',hn2'⟩:=looks_n ((List.range i).map fun (k:Nat)=>(k:Int)) ⟨g,List.replicate (many g).toNat 0,List.replicate (many g).toNat []⟩
      have hn1':_=(many g).toNat:=hn1'.trans (by simp)
      have hn2':_=(many g).toNat:=hn2'.trans (by simp)
      refine cnd (fun c2 => ?_) (fun c2 => ?_)
      · have c2:(i:Int) < many g:=of_decide_eq_true c2
        have hst:((List.range (i+1)).map fun (k:Nat)=>(k:Int)).foldl lookS ⟨g,List.replicate (many g).toNat 0,List.replicate (many g).toNat []⟩=lookS (((List.range i).map fun (k:Nat)=>(k:Int)).foldl lookS ⟨g,List.replicate (many g).toNat 0,List.replicate (many g).toNat []⟩) (i:Int):=by
          rw [List.range_succ,List.map_append,List.foldl_append];rfl
        generalize ((List.range i).map fun (k:Nat)=>(k:Int)).foldl lookS ⟨g,List.replicate (many g).toNat 0,List.replicate (many g).toNat []⟩=S4 at *
        have hgS:S4.g=g:=hgl
        have C:=l13Look_ok (X:=X) (lo:=lo) h2.n S4 i b1 1 b2 0 b3 0 L h4 r (by omega) (by rw [hgS];exact hg) (by rw [hgS];exact c2) (by rw [hgS];exact hn1') (by rw [hgS];exact hn2')
        have hv:scOV S4 (some (b1,1)) (some (b2,0)) (some (b3,0)) = .agg #[.int .i64 g.w,.slice (some ⟨b1,0,some 1⟩) g.cs.length 1,.slice (some ⟨b2,0,some 0⟩) (many g).toNat 1,.slice (some ⟨b3,0,some 0⟩) (many g).toNat 1]:=by
          unfold scOV
          rw [hn1',hn2',hgS];rfl
        rw [hv] at C
        refine callP C ?_
        rintro v h5 ⟨rfl,⟨L5,r5,u5⟩,n5,k5⟩
        have lo2:h2.n≤b2:=r.g2.1
        have lo3:h2.n≤b3:=r.g3.1
        have x4n:=x4.n
        refine again (i+1,L5) _ _ _ (by show (many g).toNat - (i+1) < (many g).toNat - i;omega) ⟨vI (wz (by omega) (by omega)),rfl,rfl,rfl,rfl,trivial⟩ ⟨rfl,rfl,rfl,trivial⟩ ⟨by show ((i+1:Nat):Int)≤_;omega,?_,⟨by omega,fun j hj=>(k5 j (by omega) (by omega) (by omega)).trans (x4.g j hj)⟩⟩
        show ScO h2.n h5 (((List.range (i+1)).map fun (k:Nat)=>(k:Int)).foldl lookS ⟨g,List.replicate (many g).toNat 0,List.replicate (many g).toNat []⟩) _ _ _ _
        rw [hst];exact r5
      · have c2:(i:Int)=many g:=by have:=of_decide_eq_false c2;omega
        have hD:((List.range i).map fun (k:Nat)=>(k:Int)).foldl lookS ⟨g,List.replicate (many g).toNat 0,List.replicate (many g).toNat []⟩=scG g:=by
          refine scG_of hgl hn1' hn2' fun j hj => ?_
          refine looks_in (n:=(many g).toNat) (g:=g) _ _ (fun x hx => ?_) rfl (fun j hj hjn=>absurd (List.mem_map.2 ⟨j,List.mem_range.2 (by omega),rfl⟩) hj) (by simp) (by simp) j hj
          obtain ⟨k,_,rfl⟩:=List.mem_map.1 hx
          omega
        rw [hD] at r
        have hv:scOV (scG g) (some (b1,1)) (some (b2,0)) (some (b3,0)) = .agg #[.int .i64 g.w,.slice (some ⟨b1,0,some 1⟩) g.cs.length 1,.slice (some ⟨b2,0,some 0⟩) (many g).toNat 1,.slice (some ⟨b3,0,some 0⟩) (many g).toNat 1]:=by
          unfold scOV
          rw [(scG_len g).1,(scG_len g).2];rfl
        refine And.intro ⟨_,_,_,_,?_,r.mono n13⟩ x4
        rw [hv];rfl
end Go.Proofs.YtjpcfaddimlbdaaGreat.Id
namespace Go.Proofs.YtjpcfaddimlbdaaGreat.Id
open Go.Id Go.Conc Go.Conc.Lib
open Go.Proofs
set_option linter.unusedVariables false
set_option maxRecDepth 100000
variable {X:Ctx Tryz.prog} {lo:Nat}
theorem l13Same_ok (a b:Option Addr) (fl fl':Nat) (cs ds:List Int) (h:Hp) (hs:Sls h inE 1 a cs) (hs':Sls h inE 1 b ds) (hn:cs.length≤1048576):Tri X lo 58 [.slice a cs.length fl,.slice b ds.length fl'] h fun v h'=>v = .bool (decide (cs=ds))∧h'=h:=by
  refine enter tbOk mtOk ⟨[],[(6,[0,1,2,3,4,5,6,7,8],[0,0,3,7,0,0,48,112,255])]⟩ 400 Tryz.func58 rfl rfl rfl fun hlo => ?_
  refine cnd (fun c1 => ?_) (fun c1 => ?_)
  · have c1:cs.length≠ds.length:=by simp at c1;omega
    exact And.intro (by rw [decide_eq_false (fun e=>c1 (congrArg List.length e))]) rfl
  · have c1:cs.length=ds.length:=by simp at c1;omega
    refine loop (σ:=Nat) tbOk mtOk ⟨[],[(6,[0,1,2,3,4,5,6,7,8],[0,0,3,7,0,0,48,112,255])]⟩ (fun i=>[(5,.v (.int .i64 (i:Int))),(0,.v (.slice a cs.length fl)),(1,.v (.slice b ds.length fl'))]) (fun _=>[]) (fun i h'=>i≤cs.length∧h'=h∧cs.take i=ds.take i) (fun i=>cs.length - i) 400 0 (fun _=>rfl) ⟨rfl,rfl,rfl,trivial⟩ trivial ⟨Nat.zero_le _,rfl,rfl⟩ (fun i h' hI again => ?_)
    obtain ⟨i1,rfl,i3⟩:=hI
    refine cnd (fun c2 => ?_) (fun c2 => ?_)
    · have c2:i < cs.length:=by simpa using c2
      have c2':i < ds.length:=by omega
      obtain ⟨a,rfl⟩:=hs.some c2
      obtain ⟨b,rfl⟩:=hs'.some c2'
      refine And.intro (by kernel_rfl) ?_
      refine And.intro ⟨by omega,by omega⟩ ?_
      refine ⟨_,hs.ld (fun _=>rfl) c2,?_⟩
      refine And.intro ⟨by omega,by omega⟩ ?_
      refine ⟨_,hs'.ld (fun _=>rfl) c2',?_⟩
      refine cnd (fun c3 => ?_) (fun c3 => ?_)
      · have c3:cs[i]≠ds[i]:=by simpa using c3
        refine And.intro ?_ rfl
        rw [decide_eq_false (fun e=>c3 (by subst e;rfl))]
      · have c3:cs[i]=ds[i]:=by simpa using c3
        exact again (i+1) _ _ _ (by omega) ⟨vI (wz (by omega) (by omega)),rfl,rfl,trivial⟩ trivial ⟨by omega,rfl,take_eq c2 c2' i3 c3⟩
    · have c2:cs.length=i:=by simp at c2;omega
      refine And.intro ?_ rfl
      rw [← c2,List.take_length,c1,List.take_length] at i3
      rw [i3];simp
theorem newS_B {g:Gd}:ScB (newS g):=by
  unfold newS
  split
  · exact scG_B (by assumption)
  · exact ⟨by simp [sc0],by simp [sc0],by simp [sc0],fun l hl=>by simp [sc0] at hl⟩
theorem sSceneOk_ok (s:Sc) (ga la fa:Option Addr) (gf lf ff:Nat) (L:List Value) (h:Hp) (hs:ScR h s ga la fa L) (hb:ScB s):Tri X lo 16 [scV s ga la fa gf lf ff] h fun v h'=>v = .bool (scOk s)∧Ext h h':=by
  refine enter tbOk mtOk ⟨[],[(7,[0,1,2,3,4,5,6,7,8,9,10,11],[0,1,0,7,15,0,32,0,224,480,1023,2047])]⟩ 400 Tryz.func16 rfl rfl rfl fun hlo => ?_
  have hn2:(s.g.cs.length:Int) < 2 ^ 31:=by have:=hb.g;omega
  have hbf:=hb.ft
  refine callP (sSceneNew_ok s.g ga gf h hs.g hn2) ?_
  rintro v h1 ⟨⟨o1,o2,o3,L1,rfl,r⟩,e1⟩
  obtain ⟨xg,xl,xf,xgf,xlf,xff,z,r'⟩:=r.read
  rw [z]
  have nB:=newS_B (g:=s.g)
  refine cnd (fun c1 => ?_) (fun c1 => ?_)
  · have hg:gOk s.g=false:=by simpa using c1
    have hk:scOk s=false:=by unfold scOk;rw [hg];rfl
    rw [hk]
    refine cndT ?_
    refine cndT ?_
    exact And.intro rfl e1
  · have hg:gOk s.g=true:=by simpa using c1
    have hN:newS s.g=scG s.g:=by unfold newS;rw [hg];rfl
    rw [hN] at r' nB ⊢
    have hno:s≠scG s.g→scOk s=false:=fun q=>by unfold scOk;rw [hg,decide_eq_false q];rfl
    refine callP (l13Same_ok xl la xlf lf (scG s.g).li s.li h1 r'.li (hs.li.ext e1) nB.li) ?_
    rintro v h2 ⟨rfl,rfl⟩
    refine cnd (fun c2 => ?_) (fun c2 => ?_)
    · have c2:(scG s.g).li≠s.li:=by simpa using c2
      refine cndT ?_
      refine And.intro ?_ e1
      rw [hno fun e=>c2 (by rw [← e])]
    · have c2:(scG s.g).li=s.li:=by simpa using c2
      refine cnd (fun c3 => ?_) (fun c3 => ?_)
      · have c3:(scG s.g).ft.length≠s.ft.length:=by simp at c3;omega
        refine And.intro ?_ e1
        rw [hno fun e=>c3 (by rw [← e])]
      · have c3:(scG s.g).ft.length=s.ft.length:=by simp at c3;omega
        refine loop (σ:=Nat) tbOk mtOk ⟨[],[(7,[0,1,2,3,4,5,6,7,8,9,10,11],[0,1,0,7,15,0,32,0,224,480,1023,2047])]⟩ (fun i=>[(5,.v (.int .i64 (i:Int))),(3,.l 1 0),(1,.l 0 0)]) (fun _=>[[.int .i64 s.g.w,.slice ga s.g.cs.length gf,.slice la s.li.length lf,.slice fa s.ft.length ff],[.int .i64 (scG s.g).g.w,.slice xg (scG s.g).g.cs.length xgf,.slice xl (scG s.g).li.length xlf,.slice xf (scG s.g).ft.length xff]]) (fun i h'=>i≤s.ft.length∧h'=h2∧s.ft.take i=(scG s.g).ft.take i) (fun i=>s.ft.length - i) 400 0 (fun _=>rfl) ⟨rfl,rfl,rfl,trivial⟩ ⟨rfl,rfl,trivial⟩ ⟨Nat.zero_le _,rfl,rfl⟩ (fun i h' hI again => ?_)
        obtain ⟨i1,rfl,i3⟩:=hI
        refine cnd (fun c4 => ?_) (fun c4 => ?_)
        · have c4:i < s.ft.length:=by simpa using c4
          have c4':i < (scG s.g).ft.length:=by omega
          obtain ⟨ad,ya,yf,rfl,ys,yl⟩:=(hs.ft.ext e1).get c4
          obtain ⟨ad',za,zf,rfl,zs,zl⟩:=r'.ft.get c4'
          refine And.intro (by kernel_rfl) ?_
          refine And.intro ⟨by omega,by omega⟩ ?_
          refine ⟨_,zl _ (Ext.refl _),?_⟩
          refine And.intro ⟨by omega,by omega⟩ ?_
          refine ⟨_,yl _ (Ext.refl _),?_⟩
          refine callP (l13Same_ok za ya zf yf (scG s.g).ft[i] s.ft[i] h' zs ys (nB.el _ (List.getElem_mem c4'))) ?_
          rintro v h3 ⟨rfl,rfl⟩
          refine cnd (fun c5 => ?_) (fun c5 => ?_)
          · have c5:(scG s.g).ft[i]≠s.ft[i]:=by simpa using c5
            refine And.intro ?_ e1
            rw [hno fun e=>c5 (by generalize hgg:scG s.g=G at *;subst e;rfl)]
          · have c5:(scG s.g).ft[i]=s.ft[i]:=by simpa using c5
            exact again (i+1) _ _ _ (by omega) ⟨vI (wz (by omega) (by omega)),rfl,rfl,trivial⟩ ⟨rfl,rfl,trivial⟩ ⟨by omega,rfl,take_eq c4 c4' i3 c5.symm⟩
        · have c4:s.ft.length=i:=by simp at c4;omega
          rw [← c4,List.take_length,← c3,List.take_length] at i3
          refine And.intro ?_ e1
          have:s=scG s.g:=Sc.ext' rfl c2.symm i3
          rw [scOk_iff.2 ⟨hg,this⟩]
end Go.Proofs.YtjpcfaddimlbdaaGreat.Id
namespace Go.Proofs.YtjpcfaddimlbdaaGreat.Id
open Go.Id Go.Conc Go.Conc.Lib
open Go.Proofs
set_option linter.unusedVariables false
set_option maxRecDepth 100000
variable {X:Ctx Tryz.prog} {lo:Nat}
structure Mc (h0 h:Hp) (s:Sc) (o e l:Option Nat):Prop where
  x:Ext h0 h
  rc:∀ b,o=some b→h0.n≤b∧Row h b 1 cE 2 s.g.cs
  re:∀ b,e=some b→h0.n≤b∧Row h b 0 inE 1 []
  rl:∀ b,l=some b→h0.n≤b∧Row h b 1 inE 1 s.li
  a1:∀ b,o=some b→e≠some b
  a2:∀ b,o=some b→l≠some b
section
variable {h0 h h1:Hp} {s:Sc} {o e l:Option Nat}
end
end Go.Proofs.YtjpcfaddimlbdaaGreat.Id
namespace Go.Proofs.YtjpcfaddimlbdaaGreat.Id
open Go.Id Go.Conc Go.Conc.Lib
open Go.Proofs
set_option linter.unusedVariables false
set_option maxRecDepth 100000
variable {X:Ctx Tryz.prog} {lo:Nat}
end Go.Proofs.YtjpcfaddimlbdaaGreat.Id
namespace Go.Proofs.YtjpcfaddimlbdaaGreat.Id
open Go.Id Go.Conc Go.Conc.Lib
open Go.Proofs
set_option linter.unusedVariables false
set_option maxRecDepth 100000
variable {X:Ctx Tryz.prog} {lo:Nat}
end Go.Proofs.YtjpcfaddimlbdaaGreat.Id
namespace Go.Proofs.YtjpcfaddimlbdaaGreat.Id
open Go.Id
open Go.Proofs
set_option linter.unusedVariables false
set_option maxRecDepth 100000
variable {X:Ctx Tryz.prog} {lo:Nat}
instance:DecidableEq Gd:=fun a b=>if h:a.w=b.w∧a.cs=b.cs then isTrue (by cases a;cases b;simp only at h;rw [h.1,h.2]) else isFalse fun e=>h (by subst e;exact ⟨rfl,rfl⟩)
end Go.Proofs.YtjpcfaddimlbdaaGreat.Id
namespace Go.Proofs.YtjpcfaddimlbdaaGreat.Id
open Go.Id
open Go.Proofs
set_option linter.unusedVariables false
set_option maxRecDepth 100000
variable {X:Ctx Tryz.prog} {lo:Nat}
def uE (x:Nat):List Value:=[.int .u8 x]
structure Rd (lo:Nat) (h:Hp) (rb:Nat) (p:Int):Prop where
  ex:∃ (a:Option Addr) (fl:Nat) (bs:List Nat),Bx h rb [.slice a bs.length fl,.int .i64 p]∧Sls h uE 1 a bs∧bs.length≤2000∧(∀ b∈bs,b < 256)∧∀ ad,a=some ad→ad.block < rb
  lo:lo≤rb
  p:0≤p∧p≤1000000000
end Go.Proofs.YtjpcfaddimlbdaaGreat.Id
namespace Go.Proofs.YtjpcfaddimlbdaaGreat.Id
open Go.Id
open Go.Proofs
set_option linter.unusedVariables false
set_option maxRecDepth 100000
variable {X:Ctx Tryz.prog} {lo rb:Nat}
structure GS where
  k:Nat
  o:Option (Nat×Nat)
  cs:List Cl
end Go.Proofs.YtjpcfaddimlbdaaGreat.Id
namespace Go.Proofs.YtjpcfaddimlbdaaGreat.Id
open Go.Id
open Go.Proofs
set_option linter.unusedVariables false
set_option maxRecDepth 100000
variable {X:Ctx Tryz.prog} {lo rb:Nat}
end Go.Proofs.YtjpcfaddimlbdaaGreat.Id
namespace Go.Proofs.YtjpcfaddimlbdaaGreat.Id
open Go.Id
open Go.Proofs
set_option linter.unusedVariables false
set_option maxRecDepth 100000
variable {X:Ctx Tryz.prog} {lo rb:Nat}
end Go.Proofs.YtjpcfaddimlbdaaGreat.Id
namespace Go.Proofs.YtjpcfaddimlbdaaGreat.Id
open Go.Id
open Go.Proofs
set_option linter.unusedVariables false
set_option maxRecDepth 100000
variable {X:Ctx Tryz.prog} {lo rb:Nat}
end Go.Proofs.YtjpcfaddimlbdaaGreat.Id
namespace Go.Proofs.YtjpcfaddimlbdaaGreat.Id
open Go.Id Go.Conc Go.Conc.Lib
open Go.Proofs
set_option linter.unusedVariables false
set_option maxRecDepth 100000
variable {X:Ctx Tryz.prog} {lo:Nat}
structure ScD (base:Nat) (h:Hp) (s:Sc) (ga la fa:Option Addr) (L:List Value):Prop where
  r:ScR h s ga la fa L
  bg:∀ ad,ga=some ad→base≤ad.block
  bl:∀ ad,la=some ad→base≤ad.block
  bf:∀ ad,fa=some ad→base≤ad.block
  be:∀ x∈L,∀ b,blkOf x=some b→base≤b
end Go.Proofs.YtjpcfaddimlbdaaGreat.Id
namespace Go.Proofs.YtjpcfaddimlbdaaGreat.Id
open Go.Id Go.Conc Go.Conc.Lib
open Go.Proofs
set_option linter.unusedVariables false
set_option maxRecDepth 100000
variable {X:Ctx Tryz.prog} {lo rb:Nat}
end Go.Proofs.YtjpcfaddimlbdaaGreat.Id
namespace Go.Proofs.YtjpcfaddimlbdaaGreat.Id
open Go.Id Go.Conc Go.Conc.Lib
open Go.Proofs
set_option linter.unusedVariables false
set_option maxRecDepth 100000
section
variable {X:Ctx Tryz.prog} {lo:Nat}
end
variable {N0:Nat→Prop} {lo:Nat}
end Go.Proofs.YtjpcfaddimlbdaaGreat.Id
namespace Go.Proofs.YtjpcfaddimlbdaaGreat.Id
open Go.Id Go.Conc Go.Conc.Lib
open Go.Proofs
set_option linter.unusedVariables false
section
variable {N0:Nat→Prop} {lo:Nat}
end
end Go.Proofs.YtjpcfaddimlbdaaGreat.Id
namespace Go.Id
open Go.Conc Go.ChangeShapes Go.WideShapes
set_option linter.unusedVariables false
theorem cell_spot {w:World} {a:Addr} {v:Value} (h:w.cell? a=some v):a.spot=none∧a.block < w.heap.size:=by
  unfold World.cell? at h
  split at h
  · rename_i c _ _ hb
    split at h
    · cases h
    · rename_i hs
      refine ⟨?_,(Array.getElem?_eq_some_iff.1 hb).1⟩
      cases hsp:a.spot with
      | none=>rfl
      | some _=>rw [hsp] at hs;exact absurd rfl hs
  · cases h
def InOk (W:World) (s:Sim) (h:Hp):Prop:=SimOk (lowOf W) h.n s (fun _=>False) h W
theorem InOk.nil (W:World):InOk W ⟨fun _=>none,fun _=>0,fun _=>none⟩ ⟨0,fun _ => .cells [] 0 0⟩ :=
  ⟨fun id c h=>(by cases h),fun id c h=>(by cases h),fun id c id' c' h=>(by cases h),fun id b h=>(by cases h),fun b h=>h.elim,fun b h=>h.elim,fun b h=>h,Nat.le_refl _⟩
section
variable {W:World} {s:Sim} {h:Hp} {α:Type} {enc:α→List Value} {sz:Nat} {l:List α} {ys:List Value}
theorem InOk.slice (I:InOk W s h) (he:∀ x,(enc x).length=sz) (hz:sz≠0) (A:Option Addr) (cap:Nat) (hl:l.length≤cap) (hv:VRm s (l.flatMap enc) ys) (hc:∀ a,A=some a→∀ (i:Nat) (v:Value),ys[i]? = some v→W.cell? (a.add i)=some v)
    (hn:A=none→l=[]∧cap=0) (hb:∀ a,A=some a→l=[]→∃ b0,b0 < W.heap.size) :
    ∃ s' h' A' fl,InOk W s' h'∧s.le s'∧Ext h h'∧VR s' (.slice A' l.length fl) (.slice A l.length cap)∧Sls h' enc sz A' l:=by
  cases A with
  | none =>
    obtain ⟨rfl,rfl⟩:=hn rfl
    exact ⟨s,h,none,0,I,s.le_refl,Ext.refl h,.sl0,rfl⟩
  | some a =>
    have hnone:s.adr h.n=none:=by
      cases hx:s.adr h.n with
      | none=>rfl
      | some c=>exact absurd (I.cells _ c hx).1 (Nat.lt_irrefl _)
    obtain ⟨c,hcap,hcb,hH,hne⟩:∃ c:Cel,c.cap=cap∧c.b < W.heap.size∧Holds W c.b c.o ys∧(l.length≠0→a=⟨c.b,c.o+0,none⟩):=by
      by_cases hl0:l=[]
      · obtain ⟨b0,hb0⟩:=hb a rfl hl0
        refine ⟨⟨b0,0,cap⟩,rfl,hb0,fun i v hv' => ?_,fun h=>absurd (by rw [hl0];rfl) h⟩
        have:=hv.1.1
        rw [hl0] at this
        have:=(List.getElem?_eq_some_iff.1 hv').1
        simp at *;omega
      · have hy:0 < ys.length:=by
          rw [← hv.1.1,flat_len he]
          exact Nat.mul_pos (List.length_pos_iff.2 hl0) (Nat.pos_of_ne_zero hz)
        have h0:=hc a rfl 0 ys[0] (List.getElem?_eq_getElem hy)
        rw [show a.add 0=a from rfl] at h0
        obtain ⟨e1,e2⟩:=cell_spot h0
        have ea:a=⟨a.block,a.off,none⟩:=by cases a;simp only at e1;rw [e1]
        refine ⟨⟨a.block,a.off,cap⟩,rfl,e2,fun i v hv' => ?_,fun _=>ea⟩
        have:=hc a rfl i v hv'
        rw [ea,add_none] at this
        exact this
    refine ⟨s.up h.n c 0,h.push (.cells (l.flatMap enc) sz 0),some ⟨h.n,0,some 0⟩,2,?_,?_,Ext.push _ _,?_,?_⟩
    · have hle:s.le (s.up h.n c 0):=Sim.up_le fun c₀ hc₀=>by rw [hnone] at hc₀;cases hc₀
      refine ⟨fun id c' hc' => ?_,fun id c' hc' hlo => ?_,fun id c' id' c'' h1 h2 hlo => ?_,fun id b hb' => ?_,fun b h=>h.elim,fun b h=>h.elim,fun b h=>h,Nat.le_refl _⟩
      · simp only [Sim.up] at hc'
        by_cases hid:id=h.n
        · subst hid
          rw [if_pos rfl] at hc';cases hc'
          exact ⟨by simp [Hp.push],fun _=>hcb,l.flatMap enc,sz,by simp [Hp.push,Sim.up],ys,hv.mono hle,hH⟩
        · rw [if_neg hid] at hc'
          obtain ⟨g1,g2,cs,sz',g3,ys',g4,g5⟩:=I.cells id c' hc'
          refine ⟨by simp [Hp.push];omega,fun _=>g2 g1,cs,sz',?_,ys',g4.mono hle,g5⟩
          simp [Hp.push,Sim.up,hid,g3]
      · simp only [Sim.up] at hc'
        by_cases hid:id=h.n
        · subst hid;exact absurd (show h.n+1≤h.n from hlo) (by omega)
        · rw [if_neg hid] at hc';have:=(I.cells id c' hc').1;exact absurd (show h.n+1≤id from hlo) (by omega)
      · simp only [Sim.up] at h1
        by_cases hid:id=h.n
        · subst hid;exact absurd (show h.n+1≤h.n from hlo) (by omega)
        · rw [if_neg hid] at h1;have:=(I.cells id c' h1).1;exact absurd (show h.n+1≤id from hlo) (by omega)
      · have hb'':s.mp id=some b:=hb'
        have:=(I.maps id b hb'').1
        exact ⟨by simp [Hp.push];omega,fun hlo=>absurd (show h.n+1≤id from hlo) (by omega)⟩
    · exact Sim.up_le fun c₀ hc₀=>by rw [hnone] at hc₀;cases hc₀
    · refine .sl h.n 0 (some 0) l.length 2 a cap c (by simp [Sim.up]) (by simp [Sim.up,epOf]) (fun _=>⟨fun hx => ?_,fun hx=>by cases hx⟩) (fun hx=>by cases hx) hl
      rcases hx with hx | hx
      · exact hne hx
      · cases hx
    · exact (Row.push (h:=h) (e:=0) (enc:=enc) (sz:=sz) (l:=l)).sls he
end
section
variable {H:Type} {enc:TypeId×Value→H} {P:Program} {W:World} {base:Nat} {spare:Nat→Bool} {held:Bool} {α:Type} {en:α→List Value} {sz:Nat}
theorem cells_get {a:Addr} {n:Nat} {cs:List Value} (h:W.cells? base a n=some cs):cs.length=n∧∀ i,i < n→W.cell? (a.add i)=cs[i]? := by
  obtain ⟨_,h1,h2⟩:=World.cells?_some h
  exact ⟨h1,h2⟩
theorem open_plain {t e:TypeId} {v:Value} {x:DataW H×List MemPlace} (ht:P.underlying t=some (.slice e)) (hsz:P.cellsOf e=sz) (hz:sz≠0) (hen:∀ x,(en x).length=sz)
    (dec:∀ n cs y,DataW.trod enc P W base spare held n e cs=some y→∃ q,cs=en q) {fuel:Nat} (h:DataW.trod enc P W base spare held fuel t [v]=some x) :
    ∃ (A:Option Addr) (cap:Nat) (l:List α),v = .slice A l.length cap∧l.length≤cap∧cap≤Go.maxLen∧(A=none→l=[]∧cap=0)∧∀ a,A=some a→∀ (i:Nat) (u:Value),(l.flatMap en)[i]? = some u→W.cell? (a.add i)=some u:=by
  rcases Go.Deep.open_slice ht h with ⟨hcs,_⟩ | ⟨a,len,cap,m,n,D,Pl,hcs,_,hl,hm,hmm,_,hx⟩
  · simp at hcs;subst hcs
    exact ⟨none,0,[],rfl,Nat.le_refl _,by unfold Go.maxLen;omega,fun _=>⟨rfl,rfl⟩,fun a h=>by cases h⟩
  · simp at hcs;subst hcs
    have hlm:len≤m:=by rw [hmm];split<;>omega
    have each:∀ i,i < len→∃ q:α,∀ k,k < sz→W.cell? ((a.add (i*sz)).add k)=(en q)[k]? := by
      intro i hi
      obtain ⟨cs',h1,h2⟩:=hx i (by omega)
      obtain ⟨q,rfl⟩:=dec _ _ _ h2
      rw [hsz] at h1
      exact ⟨q,(cells_get h1).2⟩
    by_cases h0:len=0
    · subst h0
      exact ⟨some a,cap,[],rfl,Nat.zero_le _,hm,fun h=>(by cases h),fun a _ i u hu=>by simp at hu⟩
    · obtain ⟨q0,hq0⟩:=each 0 (by omega)
      have hs:a.spot=none:=by
        have h1:=hq0 0 (by omega)
        have hlt:0 < (en q0).length:=by rw [hen];omega
        rw [List.getElem?_eq_getElem hlt] at h1
        have:(a.add (0*sz)).add 0=a:=by simp [Addr.add]
        rw [this] at h1
        exact (cell_spot h1).1
      have ea:a=⟨a.block,a.off,none⟩:=by cases a;simp only at hs;rw [hs]
      obtain ⟨q,hq⟩:∃ q:Nat→α,∀ i,i < len→∀ k,k < sz→W.cell? ((a.add (i*sz)).add k)=(en (q i))[k]? := by
        classical
        exact ⟨fun i=>if hi:i < len then (each i hi).choose else q0,fun i hi=>by simp only [dif_pos hi];exact (each i hi).choose_spec⟩
      have hlen:((List.range len).map q).length=len:=by simp
      refine ⟨some a,cap,(List.range len).map q,by rw [hlen],by rw [hlen];exact hl,hm,fun h=>(by cases h),fun b hb i u hu => ?_⟩
      cases hb
      have hi:i < len*sz:=by
        have:=(List.getElem?_eq_some_iff.1 hu).1
        rw [flat_len hen,hlen] at this;exact this
      have hdiv:i / sz < len:=Nat.div_lt_of_lt_mul (by rw [Nat.mul_comm];exact hi)
      have hmod:i % sz < sz:=Nat.mod_lt _ (Nat.pos_of_ne_zero hz)
      have hsum:i / sz*sz+i % sz=i:=by rw [Nat.mul_comm];exact Nat.div_add_mod i sz
      have h1:=hq (i / sz) hdiv (i % sz) hmod
      rw [ea,add_none,add_none,Nat.add_assoc,hsum] at h1
      rw [ea,add_none,h1]
      have h2:=flat_get hen ((List.range len).map q) (i / sz) (by rw [hlen];exact hdiv)
      have h3:(((List.range len).map q).flatMap en)[i]? = (((((List.range len).map q).flatMap en).drop (i / sz*sz)).take sz)[i % sz]? := by
        rw [List.getElem?_take,if_pos hmod,List.getElem?_drop,hsum]
      rw [h3,h2] at hu
      simp at hu
      rw [← hu]
end
section
variable {P:Program} {W:World} {r:Reach} {b0:Nat}
theorem block_cell {t : TypeId} {a : Addr} {len cap : Nat} (h : Cell.okWide P W r b0 t (.slice (some a) len cap)) : a.block < W.heap.size := by
  have h' : Cell.ok P W r b0 t (.slice (some a) len cap) := by
    unfold Cell.okWide at h
    split at h <;> first | exact h | (rename_i e; cases e)
  unfold Cell.ok at h'
  split at h' <;> first | exact h'.elim | skip
  all_goals first
    | (rename_i e; cases e; done)
    | (rename_i e _ _ _ _ he; cases he
       obtain ⟨_, _, _, _, row, cells, hs, _⟩ := h'
       unfold World.shape? at hs
       cases hb : W.heap[a.block]? with
       | none => rw [hb] at hs; cases hs
       | some o => exact (Array.getElem?_eq_some_iff.1 hb).1)
theorem block_agg {t:TypeId} {fs:Array Field} {cs:Array Value} (ht:P.underlying t=some (.struct fs)) (h:Value.okWide P W r b0 t (.agg cs)) {i:Nat} {a:Addr} {len cap:Nat} (hi:cs[i]? = some (.slice (some a) len cap)):a.block < W.heap.size:=by
  simp only [Value.okWide,ht] at h
  obtain ⟨cs',he,_,ts,_,_,hx⟩:=h
  cases he
  obtain ⟨u,_,hu⟩:=hx i _ hi
  exact block_cell hu
end
open Go.RowKit
theorem below_of {W w':World} (K:Kept (lowOf W) (fun _=>False) W w'):Below W.heap.size W { w' with tape:=W.tape }:=⟨K.os,rfl,K.out,K.size,fun k hk=>K.low k hk⟩
theorem kept_frame {W w':World} (K:Kept (lowOf W) (fun _=>False) W w') (may:MemPlace→Prop):W.keptBut w' may:=by
  obtain ⟨a,b,c⟩:=(below_of K).frame may
  exact ⟨a,b,c⟩
theorem Trod_tape {H:Type} {enc:TypeId×Value→H} {P:Program} {w:World} {tp:Tape} {base:Nat} {spare:Nat→Bool} {held:Bool} {t:TypeId} {v:Value} {d:DataW H} {ps:List MemPlace} (h:DataW.Trod enc P { w with tape:=tp } base spare held t v d ps):DataW.Trod enc P w base spare held t v d ps :=
  DataW.Trod.of_heap (w:={ w with tape:=tp }) (w':=w) rfl h
end Go.Id
namespace Go.Proofs.YtjpcfaddimlbdaaGreat.Id
open Go.Id Go.Conc Go.Proofs
open Go.ChangeShapes Go.WideShapes Go.ChangeAt Go.RowKit
set_option linter.unusedVariables false
section
variable {H:Type} {enc:TypeId×Value→H} {W:World} {base:Nat} {spare:Nat→Bool} {held:Bool}
set_option maxRecDepth 100000
end
end Go.Proofs.YtjpcfaddimlbdaaGreat.Id
namespace Go.Id
set_option linter.unusedVariables false
theorem joined_of {P:Program} {f:FuncId} {fn:Func} {s:ChangeSpec} {c:OpenClaim}
    (h1:c.wf (OpenSpec.ofChange s)=true) (h2:laidOutB P=true) (h3:mapsRowed P=true) (h4:fn.params.all (P.readableRec ·)=true) (h5:namedTie P c.named s.vars=true)
    (h6:(c.stops == [])=true) (h7:(P.stops == [])=true) (h8:(c.knobs == [])=true) (h9:(P.stopKnobs == [])=true)
    (h10:(c.inPlace == P.inPlace f)=true) (h11:(c.unfollowed == P.unfollowed f)=true) (h12:(c.recurses == P.recurses f)=true) (h13:(c.named == P.varsNamed f)=true)
    (h14:(c.maps == (fn.params.toList++s.plain.varTypes P).any (P.mapsRec ·))=true) (h15:(c.ifaces == (fn.params.toList++s.plain.varTypes P).any (P.ifacesRec ·))=true) (h16:(c.mapsOut == P.mapsAmong fn.resultTypes.toList)=true)
    (h17:(c.loops == (fn.params.toList++s.plain.varTypes P).any (P.loopsFrom ·))=true) (h18:(c.wideKeys == (fn.params.toList++s.plain.varTypes P++fn.resultTypes.toList).any (P.wideKeysFrom ·))=true)
    (h19:s.vars.all (P.varReadable ·)=true) (h20:fn.resultTypes.all (fun t=>P.readableRec t&&decide (t < P.types.size))=true) (h21:(c.ifacesOut == fn.resultTypes.toList.any (P.ifacesRec ·))=true) (h22:(c.loopsOut == fn.resultTypes.toList.any (P.loopsFrom ·))=true)
    (h23:(c.plainKeys == P.plainKeys)=true) (h24:c.shortTexts.isNone=true) (h25:P.stopsHeard=true) (h26:P.mayEnter=true) (h27:(c.lifted == P.liftsFinal)=true) (h28:(P.make == some c.make)=true)
    (h29:(c.kinds == (if c.domain.isEmpty then [] else fn.params.toList.map fun t=>match P.underlying t with | some (.int k)=>some k | _=>none))=true) (h30:(c.pinned == c.pinnedBy)=true)
    (h31:(c.veiled == (fn.params.toList++s.plain.varTypes P++fn.resultTypes.toList).any (P.veiledRec ·))=true) (h32:c.veiledFits P fn.params.toList (fn.params.toList++s.plain.varTypes P++fn.resultTypes.toList)=true):joinedFacts P f fn s c=true:=by
  unfold joinedFacts
  simp only [Bool.and_eq_true]
  exact ⟨⟨⟨⟨⟨⟨⟨⟨⟨⟨⟨⟨⟨⟨⟨⟨⟨⟨⟨⟨⟨⟨⟨⟨⟨⟨⟨⟨⟨⟨⟨h1,h2⟩,h3⟩,h4⟩,h5⟩,h6⟩,h7⟩,h8⟩,h9⟩,h10⟩,h11⟩,h12⟩,h13⟩,h14⟩,h15⟩,h16⟩,h17⟩,h18⟩,h19⟩,h20⟩,h21⟩,h22⟩,h23⟩,h24⟩,h25⟩,h26⟩,h27⟩,h28⟩,h29⟩,h30⟩,h31⟩,h32⟩
end Go.Id
