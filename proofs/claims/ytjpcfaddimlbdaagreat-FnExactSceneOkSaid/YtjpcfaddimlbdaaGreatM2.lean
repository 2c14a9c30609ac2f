/- Texts of this claim, joined: IdPe, IdQ, IdTy, Tab, Ca, Tr, Tr2, Cb, IdQb, Cb2, Cc, Cp, Cd, Ce, Cq, Cr, Hc, IdQc, Sa, Sb, Sc, IdQd, Sd, Se, Sf. -/
import Derived.Test.YtjpcfaddimlbdaaGreatM1
import Derived.Conc.CompanyDraw
import Derived.Test.YtjpcfaddimlbdaaGreatProg
import Derived.Sort.LotA
import Derived.Sort.LotB
import Derived.Sort.LotC
import Derived.Sort.LotD1
import Derived.Sort.LotD3
import Derived.Sort.LotD4
import Derived.Sort.LotD5
namespace Go.Id
open Go.Conc
set_option linter.unusedVariables false
section
variable {ops:Array Oper} {bm:List Nat}
theorem ord_step {i:Nat} {r:List Nat} {done ch:Nat} (h:ordOk ops bm (i::r) done ch=true):∃ o,ops[i]? = some o∧Nat.testBit done i=false∧(∀ j,Nat.testBit (pm o) j=true→Nat.testBit done j=true)∧(∀ j,Nat.testBit ch j=true→Nat.testBit (bm.getD i 0) j=true) ∧
    ordOk ops bm r (done ||| 2 ^ i) (match isFl o.op with | true=>ch | false=>ch ||| 2 ^ i)=true:=by
  unfold ordOk at h
  split at h
  · cases h
  · rename_i o ho
    split at h
    · cases h
    · rename_i hd
      split at h
      · cases h
      · rename_i h1
        split at h
        · cases h
        · rename_i h2
          refine ⟨o,ho,hd,fun j hj => ?_,fun j hj => ?_,h⟩
          · have:=Nat.eq_of_beq_eq_true h1
            rw [← this,Nat.testBit_and,Bool.and_eq_true] at hj
            exact hj.2
          · have:=Nat.eq_of_beq_eq_true h2
            rw [← this,Nat.testBit_and,Bool.and_eq_true] at hj
            exact hj.1
theorem ord_late:∀ {r:List Nat} {done ch i c:Nat},ordOk ops bm r done ch=true→i∈r→Nat.testBit ch c=true→Nat.testBit (bm.getD i 0) c=true
  | j::r,done,ch,i,c,h,hi,hc=>by
    obtain ⟨o,ho,_,_,h2,h3⟩:=ord_step h
    rcases List.mem_cons.1 hi with rfl | hi
    · exact h2 c hc
    · refine ord_late h3 hi ?_
      split
      · exact hc
      · rw [Nat.testBit_or,hc];rfl
theorem ord_all:∀ {r:List Nat} {done ch:Nat},ordOk ops bm r done ch=true→∀ i,i < ops.size→Nat.testBit done i=true∨i∈r
  | [],done,ch,h,i,hi=>by
    unfold ordOk at h
    have:=Nat.eq_of_beq_eq_true h
    subst this
    exact .inl (by rw [Nat.testBit_two_pow_sub_one];simpa using hi)
  | j::r,done,ch,h,i,hi=>by
    obtain ⟨o,ho,_,_,_,h3⟩:=ord_step h
    rcases ord_all h3 i hi with h4 | h4
    · rw [Nat.testBit_or,Bool.or_eq_true,Nat.testBit_two_pow] at h4
      rcases h4 with h4 | h4
      · exact .inl h4
      · exact .inr (by simp at h4;simp [h4])
    · exact .inr (by simp [h4])
end
section
variable {P:Program} {X:Ctx P} {T:Nat→Option TyI} {Mt:Nat→String→Option FuncId} {lo:Nat} {f:FuncId} {fn:Func} {esc:Hint} {Post:En} {k:List Item} {ops:Array Oper}
structure Pend (T:Nat→Option TyI) (lo:Nat) (fn:Func) (esc:Hint) (ops:Array Oper) (t0 tE:Tm) (ls:Lv) (h:Hp) (o:Oper):Prop where
  fl:isFl o.op=true
  dst:dstOk fn.ntmps o.dst=true
  ex:∃ sl,(∀ d,o.dst=some d→nlook tE d=some (nrm sl)) ∧
    ((Wnt ops tE o true∧∃ ti,(∀ d,.tmp d∈o.op.operands→((∀ (k:Nat) (ok:Oper),ops[k]? = some ok→ok.dst=some d→Nat.testBit (pm o) k=true→nlook ti d=nlook tE d)∧((∀ (k:Nat) (ok:Oper),ops[k]? = some ok→ok.dst=some d→Nat.testBit (pm o) k=false)→nlook ti d=nlook t0 d))) ∧
      FlAt T lo (isLoc esc.esc o.dst) ti ls h o.op sl∧(isLd o.op=false→∀ ls h,FlAt T lo (isLoc esc.esc o.dst) ti ls h o.op sl))∨(Wnt ops tE o false∧sl = .v undef))
structure DS (T:Nat→Option TyI) (lo:Nat) (fn:Func) (esc:Hint) (ops:Array Oper) (t0:Tm) (S:Nat→Prop) (D:List Nat) (tL tE:Tm) (ls:Lv) (h:Hp):Prop where
  sub:∀ i,S i→i∈D
  cl:ClosedS ops S
  dcl:ClosedS ops (· ∈ D)
  ch:∀ (i:Nat) (o:Oper),i∈D→ops[i]? = some o→isFl o.op=false→S i
  a:∀ (i:Nat) (o:Oper) (d:Nat),S i→ops[i]? = some o→o.dst=some d→nlook tL d=nlook tE d
  b:∀ d,(∀ (i:Nat) (o:Oper),S i→ops[i]? = some o→o.dst≠some d)→nlook tL d=nlook t0 d
  c:∀ d,(∀ (i:Nat) (o:Oper),i∈D→ops[i]? = some o→o.dst≠some d)→nlook tE d=nlook t0 d
  pend:∀ (i:Nat) (o:Oper),i∈D→¬ S i→ops[i]? = some o→Pend T lo fn esc ops t0 tE ls h o
  real:∀ i,i∈D→i < ops.size
theorem Wnt.of_n {t t':Tm} {o:Oper} {w:Bool} (h:Wnt ops t o w) (hn:∀ (j:Nat) (want:Bool) (oj:Oper) (d:Nat),o.guard=some (j,want)→ops[j]? = some oj→oj.dst=some d→nlook t' d=nlook t d):Wnt ops t' o w:=by
  unfold Wnt at h ⊢
  split at h
  · exact h
  · rename_i j want hg
    obtain ⟨d,q,h1,h2,h3⟩:=h
    obtain ⟨oj,h4,h5⟩:=Option.bind_eq_some_iff.1 h1
    exact ⟨d,q,h1,by rw [hn j want oj d hg h4 h5];exact h2,h3⟩
theorem put_other {t:Tm} {o:Oper} {sl:Sl} {d:Nat} (h:o.dst≠some d):nlook (t.put o.dst sl) d=nlook t d:=by rw [nlook_put,if_neg h]
theorem DS.fl (K:DrawOk ops) {t0 tL tE:Tm} {S:Nat→Prop} {D:List Nat} {ls:Lv} {h:Hp} (H:DS T lo fn esc ops t0 S D tL tE ls h) {i:Nat} {o:Oper} (ho:ops[i]? = some o) (hi:i∉D) (hp:∀ j,Nat.testBit (pm o) j=true→j∈D) (hf:isFl o.op=true) (hd:dstOk fn.ntmps o.dst=true) {tk tE':Tm} {sl:Sl}
    (hk:∀ d,nlook tk d=nlook tE d) (hE:∀ d,nlook tE' d=nlook (tk.put o.dst sl) d) (hw:(Wnt ops tE o true∧FlAt T lo (isLoc esc.esc o.dst) tk ls h o.op sl∧(isLd o.op=false→∀ ls h,FlAt T lo (isLoc esc.esc o.dst) tk ls h o.op sl))∨(Wnt ops tE o false∧sl = .v undef)) :
    DS T lo fn esc ops t0 S (i::D) tL tE' ls h:=by
  have hnS:¬ S i:=fun hs=>hi (H.sub i hs)
  have keep:∀ (j:Nat) (oj:Oper) (d:Nat),j≠i→ops[j]? = some oj→oj.dst=some d→nlook tE' d=nlook tE d:=by
    intro j oj d hji hj hjd
    rw [hE,put_other (fun e=>hji (K.dst j oj i o d hj ho hjd e)),hk]
  refine ⟨fun j hj=>by simp [H.sub j hj],H.cl,fun j oj hj hoj m hm => ?_,fun j oj hj hoj hfl => ?_,fun j oj d hj hoj hjd => ?_,H.b,fun d hno => ?_,fun j oj hj hs hoj => ?_,fun j hj => ?_⟩
  · rcases List.mem_cons.1 hj with rfl | hj
    · rw [ho] at hoj;cases hoj;simp [hp m hm]
    · simp [H.dcl j oj hj hoj m hm]
  · rcases List.mem_cons.1 hj with rfl | hj
    · rw [ho] at hoj;cases hoj;rw [hf] at hfl;cases hfl
    · exact H.ch j oj hj hoj hfl
  · rw [keep j oj d (by rintro rfl;exact hnS hj) hoj hjd];exact H.a j oj d hj hoj hjd
  · rw [hE,put_other (hno i o (by simp) ho),hk]
    exact H.c d fun j oj hj hoj=>hno j oj (by simp [hj]) hoj
  · rcases List.mem_cons.1 hj with rfl | hjD
    · rw [ho] at hoj;cases hoj
      have hg:∀ (j:Nat) (want:Bool) (oj:Oper) (d:Nat),o.guard=some (j,want)→ops[j]? = some oj→oj.dst=some d→nlook tE' d=nlook tE d:=fun m want om d hgd hm hmd =>
        keep m om d (by rintro rfl;exact hi (hp m (K.gd m o m want ho hgd))) hm hmd
      refine ⟨hf,hd,sl,fun d hdd=>by rw [hE,nlook_put,if_pos hdd],?_⟩
      rcases hw with ⟨h1,h2,h3⟩ | ⟨h1,h2⟩
      · refine .inl ⟨h1.of_n hg,tk,fun d hdm=>⟨fun m om hm hmd hpm => ?_,fun hno => ?_⟩,h2,h3⟩
        · rw [hk,keep m om d (by rintro rfl;exact hi (hp m hpm)) hm hmd]
        · rw [hk]
          refine H.c d fun m om hm hom hmd => ?_
          have hmi:m≠j:=by rintro rfl;exact hi hm
          rcases K.rd j o d m om ho hom hdm hmd (Ne.symm hmi) with hx | ⟨_,hx⟩
          · rw [hno m om hom hmd] at hx;cases hx
          · exact hi (H.dcl m om hm hom j hx)
      · exact .inr ⟨h1.of_n hg,h2⟩
    · obtain ⟨q1,q2,sl',q3,q4⟩:=H.pend j oj hjD hs hoj
      have hji:j≠i:=by rintro rfl;exact hi hjD
      have hg:∀ (m:Nat) (want:Bool) (om:Oper) (d:Nat),oj.guard=some (m,want)→ops[m]? = some om→om.dst=some d→nlook tE' d=nlook tE d:=fun m want om d hgd hm hmd =>
        keep m om d (by rintro rfl;exact hi (H.dcl j oj hjD hoj m (K.gd j oj m want hoj hgd))) hm hmd
      refine ⟨q1,q2,sl',fun d hdd=>by rw [keep j oj d hji hoj hdd];exact q3 d hdd,?_⟩
      rcases q4 with ⟨e1,ti,e2,e3,e4⟩ | ⟨e1,e2⟩
      · refine .inl ⟨e1.of_n hg,ti,fun d hdm=>⟨fun m om hm hmd hpm => ?_,(e2 d hdm).2⟩,e3,e4⟩
        rw [(e2 d hdm).1 m om hm hmd hpm,keep m om d (by rintro rfl;exact hi (H.dcl j oj hjD hoj m hpm)) hm hmd]
      · exact .inr ⟨e1.of_n hg,e2⟩
  · rcases List.mem_cons.1 hj with rfl | hj
    · exact (Array.getElem?_eq_some_iff.1 ho).1
    · exact H.real j hj
theorem DS.doIt (K:DrawOk ops) {t0 tL tE tL':Tm} {S:Nat→Prop} {D:List Nat} {ls:Lv} {h:Hp} (H:DS T lo fn esc ops t0 S D tL tE ls h) {i:Nat} {o:Oper} (ho:ops[i]? = some o) (hi:i∈D) (hp:∀ j,Nat.testBit (pm o) j=true→S j) {sl:Sl} (hsl:∀ d,o.dst=some d→nlook tE d=some (nrm sl))
    (hL:∀ d,nlook tL' d=nlook (tL.put o.dst sl) d):DS T lo fn esc ops t0 (fun j=>S j∨j=i) D tL' tE ls h:=by
  refine ⟨fun j hj=>hj.elim (H.sub j) fun e=>e▸hi,fun j oj hj hoj m hm => ?_,H.dcl,fun j oj hj hoj hfl => .inl (H.ch j oj hj hoj hfl),fun j oj d hj hoj hjd => ?_,fun d hno => ?_,H.c,fun j oj hj hs hoj=>H.pend j oj hj (fun x=>hs (.inl x)) hoj,H.real⟩
  · rcases hj with hj | rfl
    · exact .inl (H.cl j oj hj hoj m hm)
    · rw [ho] at hoj;cases hoj;exact .inl (hp m hm)
  · rw [hL,nlook_put]
    split
    · rename_i hd
      obtain rfl:=K.dst j oj i o d hoj ho hjd hd
      exact (hsl d hd).symm
    · rename_i hd
      rcases hj with hj | rfl
      · exact H.a j oj d hj hoj hjd
      · rw [ho] at hoj;cases hoj;exact absurd hjd hd
  · rw [hL,put_other (hno i o (.inr rfl) ho)]
    exact H.b d fun j oj hj hoj=>hno j oj (.inl hj) hoj
theorem DS.agree (K:DrawOk ops) {t0 tL tE:Tm} {S:Nat→Prop} {D:List Nat} {ls:Lv} {h:Hp} (H:DS T lo fn esc ops t0 S D tL tE ls h) {i:Nat} {o:Oper} (ho:ops[i]? = some o) (hi:¬ S i) (hp:∀ j,Nat.testBit (pm o) j=true→S j) {ti:Tm} {d:Nat} (hd : .tmp d∈o.op.operands)
    (h1:∀ (k:Nat) (ok:Oper),ops[k]? = some ok→ok.dst=some d→Nat.testBit (pm o) k=true→nlook ti d=nlook tE d) (h2:(∀ (k:Nat) (ok:Oper),ops[k]? = some ok→ok.dst=some d→Nat.testBit (pm o) k=false)→nlook ti d=nlook t0 d):nlook ti d=nlook tL d:=by
  by_cases hex:∃ (k:Nat) (ok:Oper),ops[k]? = some ok∧ok.dst=some d∧Nat.testBit (pm o) k=true
  · obtain ⟨m,om,hm,hmd,hpm⟩:=hex
    rw [h1 m om hm hmd hpm,H.a m om d (hp m hpm) hm hmd]
  · have hno:∀ (k:Nat) (ok:Oper),ops[k]? = some ok→ok.dst=some d→Nat.testBit (pm o) k=false:=fun m om hm hmd=>by
      cases hb:Nat.testBit (pm o) m with
      | false=>rfl
      | true=>exact absurd ⟨m,om,hm,hmd,hb⟩ hex
    rw [h2 hno]
    refine (H.b d fun m om hm hom hmd => ?_).symm
    have hmi:m≠i:=by rintro rfl;exact hi hm
    rcases K.rd i o d m om ho hom hd hmd (Ne.symm hmi) with hx | ⟨_,hx⟩
    · rw [hno m om hom hmd] at hx;cases hx
    · exact hi (H.cl m om hm hom i hx)
theorem DS.wnt (K:DrawOk ops) {t0 tL tE:Tm} {S:Nat→Prop} {D:List Nat} {ls:Lv} {h:Hp} (H:DS T lo fn esc ops t0 S D tL tE ls h) {i:Nat} {o:Oper} (ho:ops[i]? = some o) (hp:∀ j,Nat.testBit (pm o) j=true→S j) {w:Bool} (hw:Wnt ops tE o w):Wnt ops tL o w :=
  hw.of_n fun j want oj d hg hj hjd=>H.a j oj d (hp j (K.gd i o j want ho hg)) hj hjd
theorem Wnt.one {t:Tm} {o:Oper} {w w':Bool} (h:Wnt ops t o w) (h':Wnt ops t o w'):w=w':=by
  unfold Wnt at h h'
  cases hg:o.guard with
  | none=>rw [hg] at h h';simp only at h h';rw [h,h']
  | some p =>
    obtain ⟨j,want⟩:=p
    rw [hg] at h h'
    obtain ⟨d,q,h1,h2,h3⟩:=h
    obtain ⟨d',q',h1',h2',h3'⟩:=h'
    rw [h1] at h1'
    cases h1'
    rw [h2] at h2'
    cases h2'
    rw [h3] at h3'
    exact Option.some.inj h3'
theorem reck_spec {bmc:Nat} {t:Tm} {ls:Lv} {h:Hp} {Q:Prop}:∀ {D:List Nat},reck T lo esc ops bmc t ls h D Q→Q∧∀ (j:Nat) (o:Oper),j∈D→ops[j]? = some o→isLd o.op=true→Nat.testBit bmc j=false →
    (Wnt ops t o true∧∃ d x,o.dst=some d∧look t d=some x∧FlAt T lo (isLoc esc.esc o.dst) t ls h o.op (nrm x))∨Wnt ops t o false
  | [],H=>⟨H,fun j o hj=>by cases hj⟩
  | i::D,H=>by
    unfold reck at H
    split at H
    · exact H.elim
    · rename_i oi hoi
      have tail:∀ (H':reck T lo esc ops bmc t ls h D Q),(∀ o,ops[i]? = some o→isLd o.op=true→Nat.testBit bmc i=false→(Wnt ops t o true∧∃ d x,o.dst=some d∧look t d=some x∧FlAt T lo (isLoc esc.esc o.dst) t ls h o.op (nrm x))∨Wnt ops t o false) →
          Q∧∀ (j:Nat) (o:Oper),j∈i::D→ops[j]? = some o→isLd o.op=true→Nat.testBit bmc j=false→(Wnt ops t o true∧∃ d x,o.dst=some d∧look t d=some x∧FlAt T lo (isLoc esc.esc o.dst) t ls h o.op (nrm x))∨Wnt ops t o false:=by
        intro H' hi
        obtain ⟨h1,h2⟩:=reck_spec H'
        refine ⟨h1,fun j o hj hoj hl hb => ?_⟩
        rcases List.mem_cons.1 hj with rfl | hj
        · exact hi o hoj hl hb
        · exact h2 j o hj hoj hl hb
      split at H
      · rename_i hl
        exact tail H fun o ho hl'=>by rw [hoi] at ho;cases ho;rw [hl] at hl';cases hl'
      · rename_i hl
        split at H
        · rename_i hb
          exact tail H fun o ho _ hb'=>by rw [hb] at hb';cases hb'
        · rename_i hb
          split at H
          · exact H.elim
          · rename_i hgd
            refine tail H fun o ho _ _ => .inr ?_
            rw [hoi] at ho;cases ho
            unfold Wnt
            split at hgd
            · cases hgd
            · rename_i g want hg
              try rw [hg]
              split at hgd
              · cases hgd
              · rename_i d hd
                split at hgd
                · rename_i q hq
                  exact ⟨d,.v (.bool q),hd,by simp [nlook,hq,nrm],hgd⟩
                · rename_i q hq
                  exact ⟨d,.v (.tuple q),hd,by simp [nlook,hq,nrm],hgd⟩
                · cases hgd
          · rename_i hgd
            split at H
            · exact H.elim
            · rename_i d hdst
              split at H
              · exact H.elim
              · rename_i x hx
                refine tail H.2 fun o ho _ _ => .inl ⟨?_,d,x,?_,hx,?_⟩<;>(rw [hoi] at ho;cases ho)
                · unfold Wnt
                  split at hgd
                  · rename_i hg;first | rw [hg] | rfl
                  · rename_i g want hg
                    try rw [hg]
                    split at hgd
                    · cases hgd
                    · rename_i d' hd'
                      split at hgd
                      · rename_i q hq
                        exact ⟨d',.v (.bool q),hd',by simp [nlook,hq,nrm],hgd⟩
                      · cases hgd
                      · cases hgd
                · exact hdst
                · rw [hdst] at H ⊢;exact H.1
theorem bits_step {D:List Nat} {done i:Nat} (h:∀ j,Nat.testBit done j=true↔j∈D) (j:Nat):Nat.testBit (done ||| 2 ^ i) j=true↔j∈i::D:=by
  rw [Nat.testBit_or,Bool.or_eq_true,h,Nat.testBit_two_pow,List.mem_cons]
  simp only [decide_eq_true_eq]
  constructor
  · rintro (h | h)
    · exact .inr h
    · exact .inl h.symm
  · rintro (h | h)
    · exact .inr h.symm
    · exact .inl h
theorem DS.advance (K:DrawOk ops) {bm:List Nat} {KK:Tm→Lv→Hp→Prop} {t0 tL:Tm} {S:Nat→Prop} {ls:Lv} {h:Hp}:∀ (r D:List Nat) (done ch:Nat) (tE:Tm),ordOk ops bm r done ch=true→(∀ j,Nat.testBit done j=true↔j∈D)→DS T lo fn esc ops t0 S D tL tE ls h→vcD X T Mt lo fn esc ops bm KK r D tE ls h →
    ∃ (r' D':List Nat) (done' ch':Nat) (tE':Tm),ordOk ops bm r' done' ch'=true∧(∀ j,Nat.testBit done' j=true↔j∈D')∧DS T lo fn esc ops t0 S D' tL tE' ls h∧vcD X T Mt lo fn esc ops bm KK r' D' tE' ls h∧(r'=[]∨∃ c r'' oc,r'=c::r''∧ops[c]? = some oc∧isFl oc.op=false)
  | [],D,done,ch,tE,h1,h2,h3,h4=>⟨[],D,done,ch,tE,h1,h2,h3,h4,.inl rfl⟩
  | i::r,D,done,ch,tE,h1,h2,h3,h4=>by
    obtain ⟨o,ho,e1,e2,e3,e4⟩:=ord_step h1
    cases hf:isFl o.op with
    | false=>exact ⟨i::r,D,done,ch,tE,h1,h2,h3,h4,.inr ⟨i,r,o,rfl,ho,hf⟩⟩
    | true =>
      have hi:i∉D:=fun hx=>by rw [(h2 i).2 hx] at e1;cases e1
      unfold vcD at h4
      rw [ho] at h4
      simp only [hf] at h4
      obtain ⟨hd,tk,hk,hcase⟩:=vcOp_cases h4
      rw [hf] at e4
      rcases hcase with ⟨hw,hv⟩ | ⟨hw,hv⟩
      · obtain ⟨sl,k1,k2,k3⟩:=vcS_fl hf hv
        exact DS.advance K r (i::D) _ _ _ e4 (bits_step h2) (h3.fl K ho hi (fun j hj=>(h2 j).1 (e2 j hj)) hf hd hk (fun _=>rfl) (.inl ⟨hw,k2,k3⟩)) k1
      · exact DS.advance K r (i::D) _ _ _ e4 (bits_step h2) (h3.fl K ho hi (fun j hj=>(h2 j).1 (e2 j hj)) hf hd hk (fun _=>rfl) (.inr ⟨hw,rfl⟩)) hv
theorem DS.chain (K:DrawOk ops) {bmc:Nat} {t0 tL tE tk tL':Tm} {S:Nat→Prop} {D:List Nat} {ls ls':Lv} {h h':Hp} {Q:Prop} (H:DS T lo fn esc ops t0 S D tL tE ls h) {c:Nat} {o:Oper} (ho:ops[c]? = some o) (hc:c∉D) (hp:∀ j,Nat.testBit (pm o) j=true→S j) (hb:∀ j,Nat.testBit bmc j=true→S j)
    (hk:∀ d,nlook tk d=nlook tE d) {sl:Sl} (hL:∀ d,nlook tL' d=nlook (tL.put o.dst sl) d) (hr:reck T lo esc ops bmc (tk.put o.dst sl) ls' h' D Q):Q∧DS T lo fn esc ops t0 (fun j=>S j∨j=c) (c::D) tL' (tk.put o.dst sl) ls' h':=by
  obtain ⟨hQ,hrk⟩:=reck_spec hr
  refine ⟨hQ,?_⟩
  have keep:∀ (j:Nat) (oj:Oper) (d:Nat),j≠c→ops[j]? = some oj→oj.dst=some d→nlook (tk.put o.dst sl) d=nlook tE d:=by
    intro j oj d hji hj hjd
    rw [put_other (fun e=>hji (K.dst j oj c o d hj ho hjd e)),hk]
  have hcc:∀ d,(∀ (i:Nat) (oi:Oper),i∈c::D→ops[i]? = some oi→oi.dst≠some d)→nlook (tk.put o.dst sl) d=nlook t0 d:=fun d hno=>by
    rw [put_other (hno c o (by simp) ho),hk]
    exact H.c d fun j oj hj hoj=>hno j oj (by simp [hj]) hoj
  refine ⟨fun j hj => ?_,fun j oj hj hoj m hm => ?_,fun j oj hj hoj m hm => ?_,fun j oj hj hoj hfl => ?_,fun j oj d hj hoj hjd => ?_,fun d hno => ?_,hcc,fun j oj hj hs hoj => ?_,fun j hj => ?_⟩
  · rcases hj with hj | rfl
    · simp [H.sub j hj]
    · simp
  · rcases hj with hj | rfl
    · exact .inl (H.cl j oj hj hoj m hm)
    · rw [ho] at hoj;cases hoj;exact .inl (hp m hm)
  · rcases List.mem_cons.1 hj with rfl | hjD
    · rw [ho] at hoj;cases hoj;simp [H.sub m (hp m hm)]
    · simp [H.dcl j oj hjD hoj m hm]
  · rcases List.mem_cons.1 hj with rfl | hjD
    · exact .inr rfl
    · exact .inl (H.ch j oj hjD hoj hfl)
  · rw [hL]
    by_cases hd:o.dst=some d
    · obtain rfl:=K.dst j oj c o d hoj ho hjd hd
      rw [nlook_put,nlook_put,if_pos hd,if_pos hd]
    · rw [put_other hd,put_other hd,hk]
      rcases hj with hj | rfl
      · exact H.a j oj d hj hoj hjd
      · rw [ho] at hoj;cases hoj;exact absurd hjd hd
  · rw [hL,put_other (hno c o (.inr rfl) ho)]
    exact H.b d fun j oj hj hoj=>hno j oj (.inl hj) hoj
  · rcases List.mem_cons.1 hj with rfl | hjD
    · exact absurd (.inr rfl) hs
    · have hsj:¬ S j:=fun x=>hs (.inl x)
      have hjc:j≠c:=by rintro rfl;exact hc hjD
      obtain ⟨q1,q2,sl',q3,q4⟩:=H.pend j oj hjD hsj hoj
      have hg:∀ (m:Nat) (want:Bool) (om:Oper) (d:Nat),oj.guard=some (m,want)→ops[m]? = some om→om.dst=some d→nlook (tk.put o.dst sl) d=nlook tE d:=fun m want om d hgd hm hmd =>
        keep m om d (by rintro rfl;exact hc (H.dcl j oj hjD hoj m (K.gd j oj m want hoj hgd))) hm hmd
      rcases q4 with ⟨e1,ti,e2,e3,e4⟩ | ⟨e1,e2⟩
      · have e1':=e1.of_n hg
        cases hl:isLd oj.op with
        | false =>
          refine ⟨q1,q2,sl',fun d hdd=>by rw [keep j oj d hjc hoj hdd];exact q3 d hdd,.inl ⟨e1',ti,fun d hdm=>⟨fun m om hm hmd hpm => ?_,(e2 d hdm).2⟩,e4 hl _ _,e4⟩⟩
          rw [(e2 d hdm).1 m om hm hmd hpm,keep m om d (by rintro rfl;exact hc (H.dcl j oj hjD hoj m hpm)) hm hmd]
        | true =>
          have hbj:Nat.testBit bmc j=false:=by
            cases hx:Nat.testBit bmc j with
            | false=>rfl
            | true=>exact absurd (hb j hx) hsj
          rcases hrk j oj hjD hoj hl hbj with ⟨_,d,x,hd,hx,hfl⟩ | hf
          · refine ⟨q1,q2,nrm x,fun d' hdd => ?_,.inl ⟨e1',_,fun d' hdm=>⟨fun m om hm hmd hpm=>rfl,fun hno => ?_⟩,hfl,fun h=>by rw [hl] at h;cases h⟩⟩
            · rw [hd] at hdd;cases hdd
              rw [nrm_nrm]
              simp [nlook,hx]
            · refine hcc d' fun m om hm hom hmd => ?_
              have hmj:j≠m:=by
                rintro rfl
                rw [hoj] at hom;cases hom
                exact K.own j oj d' hoj hl hdm hmd
              rcases K.rd j oj d' m om hoj hom hdm hmd hmj with hx | ⟨hx,_⟩
              · rw [hno m om hom hmd] at hx;cases hx
              · rw [hl] at hx;cases hx
          · exact absurd (e1'.one hf) (by simp)
      · exact ⟨q1,q2,sl',fun d hdd=>by rw [keep j oj d hjc hoj hdd];exact q3 d hdd,.inr ⟨e1.of_n hg,e2⟩⟩
  · rcases List.mem_cons.1 hj with rfl | hj
    · exact (Array.getElem?_eq_some_iff.1 ho).1
    · exact H.real j hj
theorem ordn_le:∀ (N:Nat) (L:List Nat),L.Nodup→(∀ x∈L,x < N)→L.length≤N
  | 0,L,_,h=>by
    cases L with
    | nil=>exact Nat.le_refl _
    | cons x L=>exact absurd (h x (List.mem_cons_self ..)) (by omega)
  | N+1,L,hn,h=>by
    by_cases hm:N∈L
    · have ih:=ordn_le N (L.erase N) (hn.erase N) (fun x hx=>by
        have h1:=(hn.mem_erase_iff).1 hx
        have h2:=h x h1.2
        have h3:=h1.1
        omega)
      rw [List.length_erase_of_mem hm] at ih
      omega
    · have ih:=ordn_le N L hn (fun x hx=>by
        have h2:=h x hx
        have h3:x≠N:=fun e=>hm (e▸hx)
        omega)
      omega
theorem ordn_full {N:Nat} {L:List Nat} (hn:L.Nodup) (h:∀ x∈L,x < N) (hl:L.length=N) {i:Nat} (hi:i < N):i∈L:=by
  refine Classical.byContradiction fun hni => ?_
  have:=ordn_le N (i::L) (List.nodup_cons.2 ⟨hni,hn⟩) fun x hx=>by
    rcases List.mem_cons.1 hx with rfl | hx
    · exact hi
    · exact h x hx
  simp at this
  omega
theorem ord_ready {bm:List Nat} {S:Nat→Prop}:∀ {r:List Nat} {done ch:Nat},ordOk ops bm r done ch=true→(∀ j,Nat.testBit done j=true→S j)→(∃ i,i∈r∧¬ S i)→∃ i o,¬ S i∧ops[i]? = some o∧∀ j,Nat.testBit (pm o) j=true→S j
  | i::r,done,ch,h,hd,hex=>by
    obtain ⟨o,ho,h1,h2,_,h3⟩:=ord_step h
    by_cases hs:S i
    · refine ord_ready h3 (fun j hj => ?_) ?_
      · rw [Nat.testBit_or,Bool.or_eq_true,Nat.testBit_two_pow] at hj
        rcases hj with hj | hj
        · exact hd j hj
        · have:i=j:=by simpa using hj
          exact this▸hs
      · obtain ⟨j,hj,hnj⟩:=hex
        rcases List.mem_cons.1 hj with rfl | hj
        · exact absurd hs hnj
        · exact ⟨j,hj,hnj⟩
    · exact ⟨i,o,hs,ho,fun j hj=>hd j (h2 j hj)⟩
  | [],done,ch,h,hd,⟨i,hi,_⟩=>by cases hi
theorem ready_iff {listed:Array Bool} {i:Nat} {o:Oper} (ho:ops[i]? = some o):i∈Region.ready .any ops listed↔listed.getD i true=false∧∀ j,Nat.testBit (pm o) j=true→listed.getD j false=true:=by
  rw [mem_ready]
  constructor
  · rintro ⟨h1,o',h2,h3⟩
    rw [ho] at h2;cases h2
    refine ⟨h1,fun j hj => ?_⟩
    obtain ⟨e,h4,h5,rfl⟩:=pm_iff.1 hj
    exact h3 e (by simpa using h4) h5
  · rintro ⟨h1,h2⟩
    exact ⟨h1,o,ho,fun e he hb=>h2 e.on (pm_iff.2 ⟨e,by simpa using he,hb,rfl⟩)⟩
theorem sim (hT:TbOk P T) (hM:MtOk P Mt) (K:DrawOk ops) {bm ord:List Nat} (hbm:bm=bmOf ops.toList) (hord:ordOk ops bm ord 0 0=true) {KK:Tm→Lv→Hp→Prop} (hK:∀ t ls h,KK t ls h→R X lo f fn Post k t ls h) {t0:Tm} :
    ∀ (fuel tp:Nat) (listed:Array Bool) (E D r:List Nat) (done ch:Nat) (tL tE:Tm) (ls:Lv) (h:Hp),listed.size=ops.size→(∀ i,listed.getD i false=true↔i∈E)→E.Nodup→(∀ i∈E,i < ops.size)→E.length+fuel=ops.size→DS T lo fn esc ops t0 (· ∈ E) D tL tE ls h →
      ordOk ops bm r done ch=true→(∀ j,Nat.testBit done j=true↔j∈D)→vcD X T Mt lo fn esc ops bm KK r D tE ls h→(r=[]∨∃ c r'' oc,r=c::r''∧ops[c]? = some oc∧isFl oc.op=false) →
      R X lo f fn Post (.inRegion ops (Region.linearise.go .any ops fuel tp listed [])::k) tL ls h:=by
  have fin:∀ (E D r:List Nat) (done ch:Nat) (tL tE:Tm) (ls:Lv) (h:Hp),(∀ i,i < ops.size→i∈E)→DS T lo fn esc ops t0 (· ∈ E) D tL tE ls h→ordOk ops bm r done ch=true→(∀ j,Nat.testBit done j=true↔j∈D)→vcD X T Mt lo fn esc ops bm KK r D tE ls h →
      R X lo f fn Post (.inRegion ops []::k) tL ls h:=by
    intro E D r done ch tL tE ls h hall H h1 h2 h4
    have hr:r=[]:=by
      cases r with
      | nil=>rfl
      | cons c r =>
        obtain ⟨o,ho,e1,_⟩:=ord_step h1
        have:=H.sub c (hall c (Array.getElem?_eq_some_iff.1 ho).1)
        rw [(h2 c).2 this] at e1;cases e1
    subst hr
    refine R_rend (R_n (t':=tE) (fun d x hx => ?_) (hK _ _ _ h4))
    by_cases hw:∃ (i:Nat) (o:Oper),ops[i]? = some o∧o.dst=some d
    · obtain ⟨i,o,ho,hd⟩:=hw
      rw [H.a i o d (hall i (Array.getElem?_eq_some_iff.1 ho).1) ho hd];exact hx
    · rw [H.b d fun i o _ ho hd=>hw ⟨i,o,ho,hd⟩,← H.c d fun i o _ ho hd=>hw ⟨i,o,ho,hd⟩];exact hx
  intro fuel
  induction fuel with
  | zero =>
    intro tp listed E D r done ch tL tE ls h hsz hl hn hlt hlen H h1 h2 h4 hstop
    simp only [Region.linearise.go,List.reverse_nil]
    exact fin E D r done ch tL tE ls h (fun i hi=>ordn_full hn hlt (by omega) hi) H h1 h2 h4
  | succ fuel ih =>
    intro tp listed E D r done ch tL tE ls h hsz hl hn hlt hlen H h1 h2 h4 hstop
    have hgf:∀ i,i < ops.size→(listed.getD i true=false↔i∉E):=by
      intro i hi
      rw [← hl i]
      have hi':i < listed.size:=by omega
      simp [Array.getD,hi']
    have rdy:∀ (i:Nat) (o:Oper),ops[i]? = some o→(i∈Region.ready .any ops listed↔i∉E∧∀ j,Nat.testBit (pm o) j=true→j∈E):=by
      intro i o ho
      rw [ready_iff ho,hgf i (Array.getElem?_eq_some_iff.1 ho).1]
      exact ⟨fun ⟨a,b⟩=>⟨a,fun j hj=>(hl j).1 (b j hj)⟩,fun ⟨a,b⟩=>⟨a,fun j hj=>(hl j).2 (b j hj)⟩⟩
    simp only [Region.linearise.go]
    change R X lo f fn Post (.inRegion ops (match (Region.ready .any ops listed)[tp % (Region.ready .any ops listed).length]? with
      | some i=>Region.linearise.go .any ops fuel (tp / (Region.ready .any ops listed).length) (listed.setIfInBounds i true) [i]
      | none=>[].reverse)::k) tL ls h
    cases hi:(Region.ready .any ops listed)[tp % (Region.ready .any ops listed).length]? with
    | none =>
      have hnil:Region.ready .any ops listed=[]:=by
        cases hr:Region.ready .any ops listed with
        | nil=>rfl
        | cons x xs =>
          rw [hr] at hi
          have hlt:tp % (x::xs).length < (x::xs).length:=Nat.mod_lt _ (by simp)
          rw [List.getElem?_eq_getElem hlt] at hi;cases hi
      simp only [List.reverse_nil]
      refine fin E D r done ch tL tE ls h (fun i hi => ?_) H h1 h2 h4
      refine Classical.byContradiction fun hni => ?_
      have hex:∃ j,j∈ord∧j∉E:=by
        rcases ord_all hord i hi with hx | hx
        · simp at hx
        · exact ⟨i,hx,hni⟩
      obtain ⟨j,o,g1,g2,g3⟩:=ord_ready (S:=(· ∈ E)) hord (fun j hj=>by simp at hj) hex
      have:=(rdy j o g2).2 ⟨g1,g3⟩
      rw [hnil] at this
      cases this
    | some i =>
      simp only []
      rw [linearise_go_acc,List.reverse_singleton,List.singleton_append]
      have hir:=List.mem_of_getElem? hi
      obtain ⟨_,o,ho,_⟩:=mem_ready.1 hir
      obtain ⟨hiE,hpE⟩:=(rdy i o ho).1 hir
      have hisz:i < ops.size:=(Array.getElem?_eq_some_iff.1 ho).1
      have hl':∀ j,(listed.setIfInBounds i true).getD j false=true↔j∈i::E:=by
        intro j
        by_cases hji:i=j
        · subst hji
          have:i < listed.size:=by omega
          simp [Array.getD,this]
        · rw [List.mem_cons,← hl j]
          simp only [Array.getD_eq_getD_getElem?,Array.getElem?_setIfInBounds_ne hji]
          constructor
          · exact .inr
          · rintro (rfl | h);exact absurd rfl hji;exact h
      have hSE:∀ {D:List Nat} {tL tE:Tm} {ls:Lv} {h:Hp},DS T lo fn esc ops t0 (fun j=>j∈E∨j=i) D tL tE ls h→DS T lo fn esc ops t0 (· ∈ i::E) D tL tE ls h:=by
        intro D tL tE ls h H
        have e:(fun j=>j∈E∨j=i)=(· ∈ i::E):=by
          funext j
          simp only [List.mem_cons,eq_iff_iff]
          exact ⟨fun h=>h.elim .inr .inl,fun h=>h.elim .inr .inl⟩
        rw [← e];exact H
      have next:∀ (D r:List Nat) (done ch:Nat) (tL tE:Tm) (ls:Lv) (h:Hp),DS T lo fn esc ops t0 (fun j=>j∈E∨j=i) D tL tE ls h→ordOk ops bm r done ch=true→(∀ j,Nat.testBit done j=true↔j∈D)→vcD X T Mt lo fn esc ops bm KK r D tE ls h →
          R X lo f fn Post (.inRegion ops (Region.linearise.go .any ops fuel (tp / (Region.ready .any ops listed).length) (listed.setIfInBounds i true) [])::k) tL ls h:=by
        intro D r done ch tL tE ls h H h1 h2 h4
        obtain ⟨r',D',done',ch',tE',g1,g2,g3,g4,g5⟩:=DS.advance K r D done ch tE h1 h2 (hSE H) h4
        exact ih _ _ (i::E) D' r' done' ch' tL tE' ls h (by simp [hsz]) hl' (List.nodup_cons.2 ⟨hiE,hn⟩) (fun j hj=>by rcases List.mem_cons.1 hj with rfl | hj;exact hisz;exact hlt j hj) (by simp;omega) g3 g1 g2 g4 g5
      by_cases hiD:i∈D
      ·
        obtain ⟨q1,q2,sl,q3,q4⟩:=H.pend i o hiD hiE ho
        rcases q4 with ⟨e1,ti,e2,e3,e4⟩ | ⟨e1,rfl⟩
        · have hag:∀ d∈tmpsOf o.op.operands.toList,Operand.tmp d∈o.op.operands→nlook ti d=nlook tL d:=fun d _ hd=>H.agree K ho hiE hpE hd (e2 d hd).1 (e2 d hd).2
          have hag':∀ d∈tmpsOf o.op.operands.toList,nlook ti d=nlook tL d:=fun d hd=>hag d hd (by
            have:∀ (l:List Operand) (d:Nat),d∈tmpsOf l→Operand.tmp d∈l:=by
              intro l
              induction l with
              | nil=>intro d h;simp [tmpsOf] at h
              | cons x r ih =>
                intro d h
                cases x with
                | tmp j =>
                  simp only [tmpsOf,List.mem_cons] at h
                  rcases h with rfl | h
                  · simp
                  · simp [ih d h]
                | const v=>simp only [tmpsOf] at h;simp [ih d h]
                | func v=>simp only [tmpsOf] at h;simp [ih d h]
                | global v=>simp only [tmpsOf] at h;simp [ih d h]
            simpa using this _ d hd)
          refine R_n (t':=ovl ti tL (tmpsOf o.op.operands.toList)) (fun d x hx=>by rw [nlook_ovl hag'] at hx;exact hx) ?_
          have hw:=H.wnt K ho hpE e1
          have hwr:∀ s lb (a:Act),TmOk s lb ls.length (ovl ti tL (tmpsOf o.op.operands.toList)) a.tmps→Region.wanted o (yielded ops a.tmps)=true:=fun s lb a tm=>(hw.of_n fun j want oj d _ _ _=>nlook_ovl hag' d).real tm
          refine vcS_ok (esc:=esc) hT hM ho hwr q2 (K:=Is sl ls h) (fun sl' ls' h' hIs => ?_) (vcS_congr (t:=ti) (fun x hx=>evS_ovl hag' fun d hd=>mem_tmpsOf (by subst hd;simpa using hx)) (vcS_of_fl q1 e3))
          obtain ⟨rfl,rfl,rfl⟩:=hIs
          exact next D r done ch _ tE ls' h' (H.doIt K ho hiD hpE q3 fun d=>by rw [nlook_put,nlook_put,nlook_ovl hag']) h1 h2 h4
        · exact R_unwanted ho (fun s lb a tm=>(H.wnt K ho hpE e1).real tm) q2 (next D r done ch _ tE ls h (H.doIt K ho hiD hpE q3 fun d=>rfl) h1 h2 h4)
      ·
        have hbits:=h2 i
        rcases hstop with rfl | ⟨c,r'',oc,rfl,hoc,hfc⟩
        · rcases ord_all h1 i hisz with hx | hx
          · exact absurd ((h2 i).1 hx) hiD
          · cases hx
        obtain ⟨o',ho',e1,e2,e3,e4⟩:=ord_step h1
        rw [hoc] at ho';cases ho'
        rw [hfc] at e4
        simp only at e4
        have hic:i=c:=by
          rcases ord_all h1 i hisz with hx | hx
          · exact absurd ((h2 i).1 hx) hiD
          · rcases List.mem_cons.1 hx with rfl | hx
            · rfl
            · have hb:=ord_late e4 hx (c:=c) (by rw [Nat.testBit_or,Nat.testBit_two_pow];simp)
              have hcE:c∈E:=by
                rw [hbm] at hb
                exact bm_in H.cl ho hpE hb
              exact absurd ((h2 c).2 (H.sub c hcE)) (by rw [e1];simp)
        subst hic
        rw [ho] at hoc;cases hoc
        unfold vcD at h4
        rw [ho] at h4
        simp only [hfc] at h4
        obtain ⟨hd,tk,hk,hcase⟩:=vcOp_cases h4
        have hbmS:∀ j,Nat.testBit (bm.getD i 0) j=true→j∈E:=fun j hj=>by rw [hbm] at hj;exact bm_in H.cl ho hpE hj
        rcases hcase with ⟨hw,hv⟩ | ⟨hw,hv⟩
        · have hag':∀ d∈tmpsOf o.op.operands.toList,nlook tk d=nlook tL d:=fun d hd=>by
            have hdm:Operand.tmp d∈o.op.operands:=by
              have:∀ (l:List Operand) (d:Nat),d∈tmpsOf l→Operand.tmp d∈l:=by
                intro l
                induction l with
                | nil=>intro d h;simp [tmpsOf] at h
                | cons x r ih =>
                  intro d h
                  cases x with
                  | tmp j =>
                    simp only [tmpsOf,List.mem_cons] at h
                    rcases h with rfl | h
                    · simp
                    · simp [ih d h]
                  | const v=>simp only [tmpsOf] at h;simp [ih d h]
                  | func v=>simp only [tmpsOf] at h;simp [ih d h]
                  | global v=>simp only [tmpsOf] at h;simp [ih d h]
              simpa using this _ d hd
            rw [hk]
            refine H.agree K ho hiE hpE hdm (fun _ _ _ _ _=>rfl) fun hno=>H.c d fun m om hm hom hmd => ?_
            have hmi:i≠m:=by rintro rfl;exact hiD hm
            rcases K.rd i o d m om ho hom hdm hmd hmi with hx | ⟨_,hx⟩
            · rw [hno m om hom hmd] at hx;cases hx
            · exact hiD (H.dcl m om hm hom i hx)
          refine R_n (t':=ovl tk tL (tmpsOf o.op.operands.toList)) (fun d x hx=>by rw [nlook_ovl hag'] at hx;exact hx) ?_
          have hw':=H.wnt K ho hpE hw
          have hwr:∀ s lb (a:Act),TmOk s lb ls.length (ovl tk tL (tmpsOf o.op.operands.toList)) a.tmps→Region.wanted o (yielded ops a.tmps)=true:=fun s lb a tm=>(hw'.of_n fun j want oj d _ _ _=>nlook_ovl hag' d).real tm
          refine vcS_ok (esc:=esc) hT hM ho hwr hd (fun sl' ls' h' hq => ?_) (vcS_congr (t:=tk) (fun x hx=>evS_ovl hag' fun d hd=>mem_tmpsOf (by subst hd;simpa using hx)) hv)
          obtain ⟨hQ,H'⟩:=H.chain K ho hiD hpE hbmS hk (tL':=(ovl tk tL (tmpsOf o.op.operands.toList)).put o.dst sl') (fun d=>by rw [nlook_put,nlook_put,nlook_ovl hag']) hq
          exact next (i::D) r'' _ _ _ _ ls' h' H' e4 (bits_step h2) hQ
        · refine R_unwanted ho (fun s lb a tm=>(H.wnt K ho hpE hw).real tm) hd ?_
          obtain ⟨hQ,H'⟩:=H.chain K ho hiD hpE hbmS hk (tL':=tL.put o.dst (.v undef)) (fun d=>rfl) hv
          exact next (i::D) r'' _ _ _ _ ls h H' e4 (bits_step h2) hQ
theorem R_drawn (hT:TbOk P T) (hM:MtOk P Mt) {id:Nat} {ord bm:List Nat} {t:Tm} {ls:Lv} {h:Hp} {KK:Tm→Lv→Hp→Prop} (hd:drawOk ops ord bm=true) (H:vcD X T Mt lo fn esc ops bm KK ord [] t ls h) (hK:∀ t ls h,KK t ls h→R X lo f fn Post k t ls h):R X lo f fn Post (.code (.region id ops true)::k) t ls h:=by
  obtain ⟨K,hbm,hord⟩:=drawOk_spec hd
  have key:∀ tp,R X lo f fn Post (.inRegion ops (Region.schedule (P.follows .mixedOrders) ops tp)::k) t ls h:=by
    intro tp
    have hs:Region.schedule (P.follows .mixedOrders) ops tp=Region.linearise.go .any ops ops.size tp (Array.replicate ops.size false) []:=by
      simp only [Region.schedule,hT.mix,Bool.true_or,if_true];rfl
    rw [hs]
    have H0:DS T lo fn esc ops t (· ∈ ([]:List Nat)) [] t t ls h:=⟨fun i hi=>hi,fun i o hi=>(by cases hi),fun i o hi=>(by cases hi),fun i o hi=>(by cases hi),fun i o d hi=>(by cases hi),fun _ _=>rfl,fun _ _=>rfl,fun i o hi=>(by cases hi),fun i hi=>(by cases hi)⟩
    obtain ⟨r',D',done',ch',tE',g1,g2,g3,g4,g5⟩:=DS.advance K ord [] 0 0 t hord (fun j=>by simp) H0 H
    exact sim hT hM K hbm hord hK ops.size tp _ [] D' r' done' ch' t tE' ls h (by simp) (fun i=>by simp [Array.getD]) List.nodup_nil (fun i hi=>by cases hi) (by simp) g3 g1 g2 g4 g5
  intro s O Pr lb w b a cs Stop h1 h2 h3 h4 M tm A
  refine X.step _ _ _ _ rfl fun w₁ r=>⟨_,_,#[],stepG_region_draw,⟨Nat.le_refl _,fun _ _ _=>rfl,rfl,rfl,fun e he=>by simp at he⟩,?_⟩
  have hr:Rly X.N0 O w { w₁ with drawn:=w₁.drawn+1 }:=r.trans ⟨Nat.le_refl _,fun _ _ _=>rfl,rfl,rfl⟩
  rw [grow_drawn]
  exact key _ s O Pr lb _ b a cs Stop h1 h2 h3 h4 (M.rely hr) tm (A.from s.le_refl (OG.refl O w) (kept_rly M hr))
theorem vc_ok (hT:TbOk P T) (hM:MtOk P Mt):∀ (n:Nat) (k:List Item) (t:Tm) (ls:Lv) (h:Hp),vc X T Mt lo f fn esc Post n k t ls h→R X lo f fn Post k t ls h
  | 0,k,t,ls,h,H=>H
  | n+1,k,t,ls,h,H=>by
    unfold vc at H
    split at H
    · split at H
      · exact R_end hT ‹_› H
      · exact H.elim
    · exact R_skip (vc_ok hT hM n _ _ _ _ H)
    · exact R_label (vc_ok hT hM n _ _ _ _ H)
    · exact R_seq (vc_ok hT hM n _ _ _ _ H)
    · rename_i c x y k'
      split at H
      · rename_i q hq
        have hq':ev t c=some (.bool q):=by unfold ev;rw [hq]
        refine R_cond hq' ?_
        have:=vc_ok hT hM n _ _ _ _ H
        cases q<;>exact this
      · rename_i q hq
        have hq':ev t c=some (.bool q):=by unfold ev;rw [hq]
        refine R_cond hq' ?_
        have H':vc X T Mt lo f fn esc Post n (.code (ifC q x y)::k') (knowT c q t) ls h:=by
          cases q with
          | true=>exact H.t rfl
          | false=>exact H.f rfl
        have H'':=vc_ok hT hM n _ _ _ _ H'
        have e:(if q=true then x else y)=ifC q x y:=by cases q<;>rfl
        rw [e]
        cases c with
        | tmp j=>exact R_know hq H''
        | _=>exact H''
      · exact H.elim
    · exact R_block (vc_ok hT hM n _ _ _ _ H)
    · exact R_scope (vc_ok hT hM n _ _ _ _ H)
    · split at H
      · exact R_exit ‹_› (vc_ok hT hM n _ _ _ _ H)
      · exact H.elim
    · split at H
      · exact R_ret hT ‹_› H
      · exact H.elim
    · exact R_region (vc_ok hT hM n _ _ _ _ H)
    · split at H
      · exact R_drawn hT hM H.1 H.2 fun t ls h=>vc_ok hT hM n _ t ls h
      · exact H
    · exact R_inBlock (vc_ok hT hM n _ _ _ _ H)
    · exact R_inScope (vc_ok hT hM n _ _ _ _ H)
    · exact R_rend (vc_ok hT hM n _ _ _ _ H)
    · split at H
      · exact vcOp_ok hT hM ‹_› (fun t ls h=>vc_ok hT hM n _ t ls h) H
      · exact H.elim
    · exact H
end
end Go.Id
namespace Go.Id
open Go.Conc
set_option linter.unusedVariables false
theorem cnd {q:Bool} {K:Bool→Prop} (h1:q=true→K true) (h2:q=false→K false):Cnd q K:=⟨h1,h2⟩
theorem cndT {K:Bool→Prop} (h:K true):Cnd true K:=⟨fun _=>h,fun e=>Bool.noConfusion e⟩
theorem cndF {K:Bool→Prop} (h:K false):Cnd false K:=⟨fun e=>Bool.noConfusion e,fun _=>h⟩
theorem callP {P:Program} {X:Ctx P} {lo:Nat} {g:FuncId} {args:List Value} {h:Hp} {K:Value→Hp→Prop} {Post:Value→Hp→Prop} (h1:Tri X lo g args h Post) (h2:∀ v h',Post v h'→K v h'):CallP X lo g args h K:=⟨Post,h1,h2⟩
section
variable {P:Program} {X:Ctx P} {T:Nat→Option TyI} {Mt:Nat→String→Option FuncId} {lo:Nat} {f:FuncId} {fn:Func} {Post:En} {h:Hp}
theorem enter {Post:Value→Hp→Prop} (hT:TbOk P T) (hM:MtOk P Mt) (esc:Hint) (n:Nat) {c:Code} {args:List Value} (hf:P.funcs[f]? = some fn) (hname:(fn.name == "runtime.NumGoroutine")=false) (hb:fn.body=some c) (hlen:Nat.ble args.length fn.ntmps=true)
    (H:lo≤h.n→vc X T Mt lo f fn esc (.ret Post) n [.code c] (argsTm 0 args) [] h):Tri X lo f args h Post :=
  Tri_enter hf hname hb (by simpa using hlen) fun hlo=>vc_ok hT hM n _ _ _ _ (H hlo)
def keeps:Tm→Tm→Prop
  | [],_=>True
  | (j,x)::r,t=>look t j=some x∧keeps r t
theorem keeps_sub:∀ {t' t:Tm},keeps t' t→Sub t' t
  | [],_,_,j,x,h=>by cases h
  | (i,y)::r,t,hk,j,x,h=>by
    simp only [look] at h
    split at h
    · rename_i e;subst e;cases h;exact hk.1
    · exact keeps_sub hk.2 j x h
def tmIn:Tm→Nat→Bool
  | [],_=>true
  | (_,.l j _)::r,n=>match Nat.blt j n with | true=>tmIn r n | false=>false
  | _::r,n=>tmIn r n
theorem tmIn_ok:∀ {t:Tm} {n:Nat},tmIn t n=true→∀ i j off,look t i=some (.l j off)→j < n
  | [],n,h,i,j,off,hl=>by cases hl
  | (k,x)::r,n,h,i,j,off,hl=>by
    simp only [look] at hl
    split at hl
    · cases hl
      unfold tmIn at h
      split at h
      · rename_i hb;simpa using hb
      · cases h
    · have hr:tmIn r n=true:=by
        cases x with
        | l a b=>unfold tmIn at h;split at h;exact h;cases h
        | _=>exact h
      exact tmIn_ok hr i j off hl
def pre:Lv→Lv→Prop
  | [],_=>True
  | x::l,y::m=>x=y∧pre l m
  | _::_,[]=>False
theorem pre_get:∀ {l m:Lv},pre l m→∀ (j:Nat) (c:List Value),l[j]? = some c→m[j]? = some c
  | [],m,_,j,c,h=>by simp at h
  | x::l,y::m,hp,j,c,h=>by
    cases j with
    | zero=>simp at h ⊢;rw [← hp.1];exact h
    | succ j=>simp at h ⊢;exact pre_get hp.2 j c h
  | _::_,[],hp,_,_,_=>hp.elim
theorem R_trim {k:List Item} {t t':Tm} {ls ls':Lv} (ht:keeps t' t) (hi:tmIn t' ls'.length=true) (hp:pre ls' ls) (H:R X lo f fn Post k t' ls' h):R X lo f fn Post k t ls h:=by
  intro s O Pr lb w b a cs Stop h1 h2 h3 h4 M tm A
  have hg:=pre_get hp
  have hlen:ls'.length≤ls.length:=by
    rcases Nat.lt_or_ge ls.length ls'.length with hlt | hge
    · have:=hg ls.length _ (List.getElem?_eq_getElem hlt)
      simp at this
    · exact hge
  refine H s O Pr lb w b a cs Stop h1 h2 h3 h4 ⟨M.sim,⟨fun j cs hj=>M.loc.cell j cs (hg j cs hj),fun i j h1 h2=>M.loc.inj i j (by omega) (by omega)⟩,M.pr⟩ (fun i x hx => ?_) A
  obtain ⟨vr,e1,e2⟩:=tm i x (keeps_sub ht i x hx)
  refine ⟨vr,e1,?_⟩
  cases x with
  | l j off=>exact ⟨tmIn_ok hi i j off hx,e2.2⟩
  | _=>exact e2
theorem loop {σ:Type} (hT:TbOk P T) (hM:MtOk P Mt) (esc:Hint) (tm:σ→Tm) (lv:σ→Lv) (I:σ→Hp→Prop) (m:σ→Nat) (n:Nat) {c:Code} {k:List Item} {t:Tm} {ls:Lv} (s₀:σ) (hin:∀ s,tmIn (tm s) (lv s).length=true) (ht:keeps (tm s₀) t) (hl:pre (lv s₀) ls) (hI:I s₀ h)
    (round:∀ s h,I s h→(∀ s' h' t' ls',m s' < m s→keeps (tm s') t'→pre (lv s') ls'→I s' h'→R X lo f fn Post (.inLoop c::k) t' ls' h')→vc X T Mt lo f fn esc Post n (.code c :: .inLoop c::k) (tm s) (lv s) h):R X lo f fn Post (.code (.loop c)::k) t ls h:=by
  have key:∀ d s h t ls,m s≤d→keeps (tm s) t→pre (lv s) ls→I s h→R X lo f fn Post (.code c :: .inLoop c::k) t ls h:=by
    intro d
    induction d with
    | zero =>
      intro s h t ls hm ht hl hI
      exact R_trim ht (hin s) hl (vc_ok hT hM n _ _ _ _ (round s h hI fun s' h' t' ls' hlt=>by omega))
    | succ d ih =>
      intro s h t ls hm ht hl hI
      refine R_trim ht (hin s) hl (vc_ok hT hM n _ _ _ _ (round s h hI fun s' h' t' ls' hlt ht' hl' hI' => ?_))
      exact R_inLoop (ih s' h' t' ls' (by omega) ht' hl' hI')
  exact R_loop (key _ s₀ h t ls (Nat.le_refl _) ht hl hI)
theorem more (hT:TbOk P T) (hM:MtOk P Mt) (esc:Hint) (n:Nat) {k:List Item} {t:Tm} {ls:Lv} (H:vc X T Mt lo f fn esc Post n k t ls h):R X lo f fn Post k t ls h:=vc_ok hT hM n _ _ _ _ H
end
structure Ext (h h':Hp):Prop where
  n:h.n≤h'.n
  g:∀ i,i < h.n→h'.g i=h.g i
theorem Ext.refl (h:Hp):Ext h h:=⟨Nat.le_refl _,fun _ _=>rfl⟩
theorem Ext.trans {h h' h'':Hp} (a:Ext h h') (b:Ext h' h''):Ext h h'':=⟨Nat.le_trans a.n b.n,fun i hi=>(b.g i (Nat.lt_of_lt_of_le hi a.n)).trans (a.g i hi)⟩
theorem Ext.push (h:Hp) (o:Ob):Ext h (h.push o):=⟨by simp [Hp.push],fun i hi=>by simp [Hp.push];intro e;omega⟩
theorem Ext.set {h h':Hp} (a:Ext h h') {j:Nat} (hj:h.n≤j) (o:Ob):Ext h (h'.set j o):=⟨a.n,fun i hi=>by simp only [Hp.set];rw [if_neg (by omega)];exact a.g i hi⟩
section
variable {α:Type}
def Sls (h:Hp) (e:α→List Value) (sz:Nat) (a:Option Addr) (l:List α):Prop :=
  match a with
  | none=>l=[]
  | some ad=>ad.block < h.n∧∃ c sz',h.g ad.block = .cells c sz' (epOf ad.spot)∧sub? c ad.off (l.length*sz)=some (l.flatMap e)
theorem Sls.ext {h h':Hp} (x:Ext h h') {e:α→List Value} {sz:Nat} {a:Option Addr} {l:List α} (s:Sls h e sz a l):Sls h' e sz a l:=by
  cases a with
  | none=>exact s
  | some ad=>exact ⟨Nat.lt_of_lt_of_le s.1 x.n,by rw [x.g _ s.1];exact s.2⟩
theorem Sls.some {h:Hp} {e:α→List Value} {sz:Nat} {a:Option Addr} {l:List α} (s:Sls h e sz a l) {i:Nat} (hi:i < l.length):∃ ad,a = .some ad:=by
  cases a with
  | none=>rw [show l=[] from s] at hi;simp at hi
  | some ad=>exact ⟨ad,rfl⟩
theorem flat_get {e:α→List Value} {sz:Nat} (he:∀ x,(e x).length=sz):∀ (l:List α) (i:Nat) (hi:i < l.length),((l.flatMap e).drop (i*sz)).take sz=e l[i]
  | x::l,0,_=>by
    simp only [List.flatMap_cons,Nat.zero_mul,List.drop_zero,List.getElem_cons_zero]
    rw [List.take_append_of_le_length (by rw [he];exact Nat.le_refl _),← he x,List.take_length]
  | x::l,i+1,hi=>by
    simp only [List.flatMap_cons,List.getElem_cons_succ]
    rw [show (i+1)*sz=(e x).length+i*sz from by rw [he,Nat.add_mul];omega,List.drop_append,List.drop_eq_nil_of_le (by omega),List.nil_append,Nat.add_sub_cancel_left,flat_get he l i (by simpa using hi)]
theorem flat_len {e:α→List Value} {sz:Nat} (he:∀ x,(e x).length=sz):∀ (l:List α),(l.flatMap e).length=l.length*sz
  | []=>by simp
  | x::l=>by simp [List.flatMap_cons,flat_len he l,he,Nat.add_mul];omega
theorem Sls.ld {h:Hp} {e:α→List Value} {sz:Nat} {ad:Addr} {l:List α} (s:Sls h e sz (.some ad) l) (he:∀ x,(e x).length=sz) {i:Nat} (hi:i < l.length):Ld h (addA ad (i*sz)) sz (e l[i]):=by
  obtain ⟨_,c,sz',h1,h2⟩:=s
  refine ⟨c,sz',h1,?_⟩
  obtain ⟨g1,g2⟩:=sub_some h2
  have hm:i*sz+sz≤l.length*sz:=by rw [← Nat.succ_mul];exact Nat.mul_le_mul_right _ hi
  unfold sub?
  rw [if_pos (by simp only [addA];omega)]
  simp only [addA]
  rw [← flat_get he l i hi,g2,List.drop_take,List.drop_drop,List.take_take,Nat.min_eq_left (by omega)]
end
section
variable {α:Type}
structure Row (h:Hp) (b e:Nat) (enc:α→List Value) (sz:Nat) (l:List α):Prop where
  lt:b < h.n
  g:h.g b = .cells (l.flatMap enc) sz e
theorem Row.sls {h:Hp} {b e:Nat} {enc:α→List Value} {sz:Nat} {l:List α} (r:Row h b e enc sz l) (he:∀ x,(enc x).length=sz):Sls h enc sz (.some ⟨b,0,.some e⟩) l:=by
  refine ⟨r.lt,l.flatMap enc,sz,r.g,?_⟩
  unfold sub?
  have:=flat_len he l
  rw [if_pos (by simp only;omega)]
  simp only [List.drop_zero]
  rw [← this,List.take_length]
theorem Row.ext {h h':Hp} {b e:Nat} {enc:α→List Value} {sz:Nat} {l:List α} (r:Row h b e enc sz l) (x:Ext h h'):Row h' b e enc sz l:=⟨Nat.lt_of_lt_of_le r.lt x.n,by rw [x.g _ r.lt];exact r.g⟩
theorem Row.app {lo:Nat} {h:Hp} {b e:Nat} {enc:α→List Value} {sz:Nat} {l m:List α} (r:Row h b e enc sz l) (he:∀ x,(enc x).length=sz) (hz:sz≠0) (hlo:lo≤b) (hm:l.length+m.length≤maxLen) :
    Ap lo h sz (.slice (.some ⟨b,0,.some e⟩) l.length 1) (m.flatMap enc) m.length (.slice (.some ⟨b,0,.some (e+1)⟩) (l.length+m.length) 1) (h.set b (.cells ((l++m).flatMap enc) sz (e+1))):=by
  refine ⟨hz,flat_len he m,hm,rfl,hlo,r.lt,l.flatMap enc,r.g,?_,rfl,?_⟩
  · rw [flat_len he];exact Nat.le_refl _
  · rw [← flat_len he l,List.take_length,List.flatMap_append];rfl
theorem Row.set {h:Hp} {b e:Nat} {enc:α→List Value} {sz:Nat} {l:List α} (hb:b < h.n):Row (h.set b (.cells (l.flatMap enc) sz e)) b e enc sz l:=⟨hb,by simp [Hp.set]⟩
theorem Row.push {h:Hp} {e:Nat} {enc:α→List Value} {sz:Nat} {l:List α}:Row (h.push (.cells (l.flatMap enc) sz e)) h.n e enc sz l:=⟨by simp [Hp.push],by simp [Hp.push]⟩
end
end Go.Id
namespace Go.Id
open Go.Conc
set_option linter.unusedVariables false
def veq:Value→Value→Bool
  | .bool a,.bool b=>a == b
  | .int k a,.int k' b=>k == k'&&a == b
  | .string a,.string b=>a.data.toList.length == 0&&b.data.toList.length == 0
  | .pointer none,.pointer none=>true
  | .slice none 0 0,.slice none 0 0=>true
  | .map none,.map none=>true
  | .chan none,.chan none=>true
  | .nilFunc,.nilFunc=>true
  | .nilIface,.nilIface=>true
  | _,_=>false
theorem veq_eq:∀ {a b:Value},veq a b=true→a=b:=by
  intro a b h
  unfold veq at h
  split at h
  · simp at h;rw [h]
  · simp at h;rw [h.1,h.2]
  · rename_i a b
    simp at h
    obtain ⟨⟨a⟩⟩:=a
    obtain ⟨⟨b⟩⟩:=b
    simp_all
  all_goals first | rfl | cases h
def vseq:List Value→List Value→Bool
  | [],[]=>true
  | x::xs,y::ys=>veq x y&&vseq xs ys
  | _,_=>false
theorem vseq_eq:∀ {xs ys:List Value},vseq xs ys=true→xs=ys
  | [],[],_=>rfl
  | x::xs,y::ys,h=>by
    simp only [vseq,Bool.and_eq_true] at h
    rw [veq_eq h.1,vseq_eq h.2]
  | [],_::_,h=>by cases h
  | _::_,[],h=>by cases h
section
def intTy (P:Program) (t:Nat):Bool:=match P.underlying t with | some (.int _)=>true | _=>false
def eqFs (P:Program):List Field→Nat→Nat→Bool
  | [],j,n=>j == n
  | f::fs,j,n=>f.name != "_"&&f.offset == j&&intTy P f.type&&eqFs P fs (j+1) n
def eqChk (P:Program) (t:Nat) (n:Nat):Bool := !(P.eqGuardType P.depth t) && !(P.stoodInHeld t)&&match P.underlying t with | some (.struct fs)=>eqFs P fs.toList 0 n | _=>false
variable {P:Program}
theorem dz_partI {t off:Nat} {cs:Array Value} {v:Value} {w:World} {E:Event→Prop} {Q:Value→World→Prop} (ht:intTy P t=true) (hv:cs[off]? = some v) (h:Q v w):Dz P E (part t cs off) w Q:=by
  unfold intTy at ht
  split at ht
  case h_2=>cases ht
  rename_i k hk
  unfold part isAgg
  refine Dz.bind (Q:=fun r w'=>r=false∧w'=w) ?_ ?_
  · refine Dz.bind (Q:=fun d w'=>d = .int k∧w'=w) (Dz.underlying hk ⟨rfl,rfl⟩) ?_
    rintro d w' ⟨rfl,rfl⟩
    exact Dz.pure ⟨rfl,rfl⟩
  · rintro r w' ⟨rfl,rfl⟩
    simp only [Bool.false_eq_true,if_false,hv]
    exact Dz.pure h
theorem dz_eqInt {d t:Nat} {k:IntKind} {a b:Int} {w:World} {E:Event→Prop} {Q:Bool→World→Prop} (ht:intTy P t=true) (h:Q (a == b) w):Dz P E (Op.equalIn (d+1) t (.int k a) (.int k b)) w Q:=by
  unfold intTy at ht
  split at ht
  case h_2=>cases ht
  rename_i k' hk
  unfold Op.equalIn
  refine Dz.bind (Q:=fun d w'=>d = .int k'∧w'=w) (Dz.underlying hk ⟨rfl,rfl⟩) ?_
  rintro d w' ⟨rfl,rfl⟩
  simp only [if_true]
  exact Dz.pure h
theorem eqFs_le {n:Nat}:∀ {fs:List Field} {j:Nat},eqFs P fs j n=true→j≤n
  | [],j,h=>by simp [eqFs] at h;omega
  | f::fs,j,h=>by
    simp only [eqFs,Bool.and_eq_true] at h
    have:=eqFs_le h.2;omega
theorem drop_cons {α:Type} {l:List α} {j:Nat} {x:α} {r:List α} (h:l.drop j=x::r):l[j]? = some x∧l.drop (j+1)=r:=by
  refine ⟨?_,?_⟩
  · have:=List.getElem?_drop (xs:=l) (i:=j) (j:=0)
    rw [h] at this;simpa using this.symm
  · rw [← List.drop_drop,h];rfl
theorem dz_eqLoop {d n : Nat} {w : World} {E : Event → Prop} {xs ys : Array Value} (hx : xs.size = n) : ∀ {fs : List Field} {j : Nat} {r : Bool}, eqFs P fs j n = true → intsEq (xs.toList.drop j) (ys.toList.drop j) = some r →
    Dz P E (forIn (m := Sem) fs ((none, ()) : Option Bool × Unit) fun f __s =>
              if f.name ≠ "_" then do
                let __do_lift ← part f.type xs f.offset
                let __do_lift_1 ← part f.type ys f.offset
                let __do_lift ← Op.equalIn (d + 1) f.type __do_lift __do_lift_1
                if (!__do_lift) = true then pure (ForInStep.done (some false, ()))
                  else pure (ForInStep.yield (none, ()))
              else pure (ForInStep.yield (none, ()))) w fun v w' => v = (if r then none else some false, ()) ∧ w' = w
  | [], j, r, h, hr => by
    simp only [List.forIn_nil]
    refine Dz.pure ⟨?_, rfl⟩
    have : j = n := by simpa [eqFs] using h
    subst this
    rw [List.drop_eq_nil_of_le (by simp [hx])] at hr
    unfold intsEq at hr
    split at hr
    · cases hr; rfl
    · rename_i h1 h2; cases h1
    · cases hr
  | f :: fs, j, r, h, hr => by
    simp only [eqFs, Bool.and_eq_true] at h
    obtain ⟨⟨⟨h1, h2⟩, h3⟩, h4⟩ := h
    have hj := eqFs_le h4
    have h2 : f.offset = j := by simpa using h2
    simp only [List.forIn_cons]
    rw [if_pos (by simpa using h1), h2]
    generalize hxd : xs.toList.drop j = xl at hr
    generalize hyd : ys.toList.drop j = yl at hr
    unfold intsEq at hr
    split at hr
    · have := congrArg List.length hxd
      simp [hx] at this; omega
    · rename_i k a xr k' b yr
      split at hr
      case isFalse => cases hr
      rename_i hk; subst hk
      split at hr
      case h_2 => cases hr
      rename_i r' hr'
      cases hr
      obtain ⟨x1, x2⟩ := drop_cons hxd
      obtain ⟨y1, y2⟩ := drop_cons hyd
      rw [← x2, ← y2] at hr'
      refine Dz.bind (Q := fun v w' => v = (if (a == b) = true then ForInStep.yield (none, ()) else ForInStep.done (some false, ())) ∧ w' = w) ?_ ?_
      · refine Dz.bind (Q := fun v w' => v = .int k a ∧ w' = w) (dz_partI h3 (by simpa using x1) ⟨rfl, rfl⟩) ?_
        rintro _ w' ⟨rfl, rfl⟩
        refine Dz.bind (Q := fun v w'' => v = .int k b ∧ w'' = w') (dz_partI h3 (by simpa using y1) ⟨rfl, rfl⟩) ?_
        rintro _ w'' ⟨rfl, rfl⟩
        refine Dz.bind (Q := fun v w' => v = (a == b) ∧ w' = w'') (dz_eqInt h3 ⟨rfl, rfl⟩) ?_
        rintro _ w' ⟨rfl, rfl⟩
        by_cases hab : a = b
        · simp only [hab, beq_self_eq_true, Bool.not_true, Bool.false_eq_true, if_false, if_true]; exact Dz.pure ⟨rfl, rfl⟩
        · have : (a == b) = false := by simpa using hab
          rw [this]; exact Dz.pure ⟨rfl, rfl⟩
      · rintro v w' ⟨rfl, rfl⟩
        by_cases hab : a = b
        · simp only [hab, beq_self_eq_true, if_true, Bool.true_and]
          exact dz_eqLoop hx h4 hr'
        · have : (a == b) = false := by simpa using hab
          rw [this]; exact Dz.pure ⟨rfl, rfl⟩
    · cases hr
theorem dz_eqStruct {t n:Nat} {w:World} {E:Event→Prop} {xs ys:Array Value} {r:Bool} (h:eqChk P t n=true) (hx:xs.size=n) (hr:intsEq xs.toList ys.toList=some r) {Q:Bool→World→Prop} (hq:Q r w):Dz P E (Op.equal t (.agg xs) (.agg ys)) w Q:=by
  unfold eqChk at h
  simp only [Bool.and_eq_true] at h
  obtain ⟨⟨_,hs⟩,h⟩:=h
  split at h
  case h_2=>cases h
  rename_i fs hf
  unfold Op.equal Op.maxDepth Op.equalIn
  refine Dz.bind (Q:=fun d w'=>d = .struct fs∧w'=w) (Dz.underlying hf ⟨rfl,rfl⟩) ?_
  rintro _ w' ⟨rfl,rfl⟩
  refine Dz.bind (Q:=fun p w''=>p=P∧w''=w') (Dz.program ⟨rfl,rfl⟩) ?_
  rintro p w'' ⟨rfl,rfl⟩
  rw [if_neg (by simpa using hs),← Array.forIn_toList]
  refine Dz.bind (dz_eqLoop hx (j:=0) (r:=r) h (by simpa using hr)) ?_
  rintro v w' ⟨rfl,rfl⟩
  cases r<;>exact Dz.pure hq
end
def zOk (i:TyI) (z:Value):Bool:=match i.agg with
  | true=>(match z with | .agg xs=>vseq xs.toList i.zero | _=>false)
  | false=>(match i.zero with | [x]=>veq x z | _=>false)
def tyChk (P:Program) (t:Nat) (i:TyI):Bool :=
  (match P.info? t with
    | some info=>info.size == i.sz&&Nat.ble info.bytes 4096&&(match info.zero with | some z=>zOk i z | none=>false)
    | none=>false) &&
  (match P.underlying t with
    | some d=>kOk d i.k&&(match d with | .struct fs=>(fs.toList.mapM (fun f=>(P.info? f.type).map fun i=>(f.offset,i.size))).isSome | _=>true)
    | none=>false) &&
  i.zero.all (fun v=>plainV v&&v.oneCell')&&i.zero.length == i.sz&&(!i.eq||(i.agg&&eqChk P t i.sz))&&(i.agg||i.sz == 1)
theorem cells_one {z:Value} (h:plainV z=true∧z.oneCell'=true):z.cells=#[z]:=by
  obtain ⟨h1,h2⟩:=h
  unfold plainV at h1
  split at h1<;>first | rfl | (cases h1;done) | simp_all [Value.oneCell']
theorem tyChk_ok {P:Program} {t:Nat} {i:TyI} (h:tyChk P t i=true):TyOk P t i:=by
  unfold tyChk at h
  simp only [Bool.and_eq_true] at h
  obtain ⟨⟨⟨⟨⟨h1,h2⟩,h3⟩,h4⟩,h5⟩,h6⟩:=h
  have hp:∀ v∈i.zero,plainV v=true∧v.oneCell'=true:=fun v hv=>by
    have:=List.all_eq_true.1 h3 v hv
    simpa using this
  refine ⟨?_,?_,hp,by simpa using h4,fun e=>by
    rw [e] at h5
    simp only [Bool.not_true,Bool.false_or,Bool.and_eq_true] at h5
    refine ⟨by have:=h5.2;unfold eqChk at this;simp only [Bool.and_eq_true] at this;simpa using this.1.1,fun xs ys r w E Q hx hr hq=>dz_eqStruct h5.2 (by simpa using hx) (by simpa using hr) hq⟩,fun e=>by rw [e] at h6;simpa using h6,fun fs hfs => ?_⟩
  · split at h1
    · rename_i info hi
      simp only [Bool.and_eq_true] at h1
      obtain ⟨⟨a1,a2⟩,a3⟩:=h1
      split at a3
      · rename_i z hz
        refine ⟨info,hi,by simpa using a1,⟨z,hz,?_,?_⟩,by simpa using a2⟩
        · unfold zOk at a3
          split at a3
          · split at a3
            · rename_i xs
              have:=vseq_eq a3
              rw [← this];rfl
            · cases a3
          · split at a3
            · rename_i x hx
              have:=veq_eq a3
              subst this
              rw [hx,cells_one (hp x (by rw [hx];simp))]
            · cases a3
        · unfold zOk at a3
          split at a3
          · rename_i ha
            split at a3
            · rename_i xs
              have:=vseq_eq a3
              rw [ha,← this]
            · cases a3
          · rename_i ha
            split at a3
            · rename_i x hx
              have:=veq_eq a3
              subst this
              rw [ha];exact hx
            · cases a3
      · cases a3
    · cases h1
  · split at h2
    · rename_i d hd
      simp only [Bool.and_eq_true] at h2
      exact ⟨d,hd,h2.1⟩
    · cases h2
  · rw [hfs] at h2
    simp only [Bool.and_eq_true] at h2
    exact Option.isSome_iff_exists.1 h2.2
def tyLook:List (Nat×TyI)→Nat→Option TyI
  | [],_=>none
  | (i,x)::r,j=>if i=j then some x else tyLook r j
def notOther:TyK→Bool
  | .other=>false
  | _=>true
def tabChk (P:Program):List (Nat×TyI)→Bool
  | []=>P.follows .mixedOrders
  | (t,i)::r=>tyChk P t i&&notOther i.k&&tabChk P r
theorem tabChk_ok {P:Program}:∀ {tab:List (Nat×TyI)},tabChk P tab=true→TbOk P (tyLook tab)
  | [],h=>⟨fun t i h=>(by simp [tyLook] at h),fun t i h=>(by simp [tyLook] at h),h⟩
  | (t,i)::r,h=>by
    simp only [tabChk,Bool.and_eq_true] at h
    have ih:=tabChk_ok h.2
    refine ⟨fun t' i' h' => ?_,fun t' i' h' => ?_,ih.mix⟩<;>simp only [tyLook] at h'<;>split at h'
    · rename_i e;subst e;cases h';exact tyChk_ok h.1.1
    · exact ih.ok _ _ h'
    · cases h';intro e;have:=h.1.2;rw [e] at this;cases this
    · exact ih.known _ _ h'
end Go.Id
namespace Go.Proofs.YtjpcfaddimlbdaaGreat.Id
open Go.Id
open Go.Proofs
def tab:List (Nat×TyI):=[(1,⟨.func,1,[.nilFunc],false⟩),
  (2,⟨.int .i64,1,[.int .i64 0],false⟩),
  (3,⟨.int .i64,1,[.int .i64 0],false⟩),
  (4,⟨.bool,1,[.bool false],false⟩),
  (5,⟨.int .u8,1,[.int .u8 0],false⟩),
  (6,⟨.int .u8,1,[.int .u8 0],false⟩),
  (7,⟨.struct [(0,2),(1,3),(2,4),(3,6)],4,[.int .i64 0,.int .i64 0,.bool false,.int .u8 0],false⟩),
  (9,⟨.str,1,[.string .empty],false⟩),
  (10,⟨.str,1,[.string .empty],false⟩),
  (11,⟨.str,1,[.string .empty],false⟩),
  (12,⟨.int .u64,1,[.int .u64 0],false⟩),
  (13,⟨.struct [(0,9),(1,12)],2,[.string .empty,.int .u64 0],false⟩),
  (15,⟨.ptr 265,1,[.pointer none],false⟩),
  (16,⟨.ptr 268,1,[.pointer none],false⟩),
  (17,⟨.ptr 277,1,[.pointer none],false⟩),
  (18,⟨.struct [(0,17)],1,[.pointer none],false⟩),
  (19,⟨.struct [(0,17)],1,[.pointer none],false⟩),
  (20,⟨.iface,1,[.nilIface],false⟩),
  (21,⟨.int .i32,1,[.int .i32 0],false⟩),
  (22,⟨.slice 131,1,[.slice none 0 0],false⟩),
  (23,⟨.struct [(0,3),(1,22)],2,[.int .i64 0,.slice none 0 0],false⟩),
  (24,⟨.struct [(0,3),(1,22)],2,[.int .i64 0,.slice none 0 0],false⟩),
  (25,⟨.slice 3,1,[.slice none 0 0],false⟩),
  (26,⟨.slice 25,1,[.slice none 0 0],false⟩),
  (27,⟨.struct [(0,24),(2,25),(3,26)],4,[.int .i64 0,.slice none 0 0,.slice none 0 0,.slice none 0 0],false⟩),
  (28,⟨.struct [(0,24),(2,25),(3,26)],4,[.int .i64 0,.slice none 0 0,.slice none 0 0,.slice none 0 0],false⟩),
  (29,⟨.func,1,[.nilFunc],false⟩),
  (30,⟨.func,1,[.nilFunc],false⟩),
  (31,⟨.slice 70,1,[.slice none 0 0],false⟩),
  (32,⟨.struct [(0,3),(1,31)],2,[.int .i64 0,.slice none 0 0],false⟩),
  (33,⟨.struct [(0,3),(1,31)],2,[.int .i64 0,.slice none 0 0],false⟩),
  (34,⟨.struct [(0,33),(2,25),(3,26)],4,[.int .i64 0,.slice none 0 0,.slice none 0 0,.slice none 0 0],false⟩),
  (35,⟨.struct [(0,33),(2,25),(3,26)],4,[.int .i64 0,.slice none 0 0,.slice none 0 0,.slice none 0 0],false⟩),
  (36,⟨.func,1,[.nilFunc],false⟩),
  (37,⟨.func,1,[.nilFunc],false⟩),
  (38,⟨.func,1,[.nilFunc],false⟩),
  (39,⟨.slice 5,1,[.slice none 0 0],false⟩),
  (40,⟨.func,1,[.nilFunc],false⟩),
  (41,⟨.slice 72,1,[.slice none 0 0],false⟩),
  (42,⟨.struct [(0,35),(4,41),(5,41)],6,[.int .i64 0,.slice none 0 0,.slice none 0 0,.slice none 0 0,.slice none 0 0,.slice none 0 0],false⟩),
  (43,⟨.struct [(0,35),(4,41),(5,41)],6,[.int .i64 0,.slice none 0 0,.slice none 0 0,.slice none 0 0,.slice none 0 0,.slice none 0 0],false⟩),
  (45,⟨.func,1,[.nilFunc],false⟩),
  (46,⟨.func,1,[.nilFunc],false⟩),
  (48,⟨.func,1,[.nilFunc],false⟩),
  (49,⟨.func,1,[.nilFunc],false⟩),
  (50,⟨.func,1,[.nilFunc],false⟩),
  (51,⟨.func,1,[.nilFunc],false⟩),
  (52,⟨.func,1,[.nilFunc],false⟩),
  (53,⟨.func,1,[.nilFunc],false⟩),
  (54,⟨.func,1,[.nilFunc],false⟩),
  (55,⟨.func,1,[.nilFunc],false⟩),
  (56,⟨.func,1,[.nilFunc],false⟩),
  (57,⟨.func,1,[.nilFunc],false⟩),
  (58,⟨.func,1,[.nilFunc],false⟩),
  (59,⟨.func,1,[.nilFunc],false⟩),
  (60,⟨.func,1,[.nilFunc],false⟩),
  (61,⟨.func,1,[.nilFunc],false⟩),
  (62,⟨.func,1,[.nilFunc],false⟩),
  (63,⟨.slice 137,1,[.slice none 0 0],false⟩),
  (64,⟨.struct [(0,28),(4,63),(5,63)],6,[.int .i64 0,.slice none 0 0,.slice none 0 0,.slice none 0 0,.slice none 0 0,.slice none 0 0],false⟩),
  (65,⟨.struct [(0,28),(4,63),(5,63)],6,[.int .i64 0,.slice none 0 0,.slice none 0 0,.slice none 0 0,.slice none 0 0,.slice none 0 0],false⟩),
  (66,⟨.func,1,[.nilFunc],false⟩),
  (67,⟨.func,1,[.nilFunc],false⟩),
  (68,⟨.func,1,[.nilFunc],false⟩),
  (69,⟨.struct [(0,3),(1,3)],2,[.int .i64 0,.int .i64 0],true⟩),
  (70,⟨.struct [(0,3),(1,3)],2,[.int .i64 0,.int .i64 0],true⟩),
  (71,⟨.struct [(0,3),(1,70)],3,[.int .i64 0,.int .i64 0,.int .i64 0],false⟩),
  (72,⟨.struct [(0,3),(1,70)],3,[.int .i64 0,.int .i64 0,.int .i64 0],false⟩),
  (74,⟨.func,1,[.nilFunc],false⟩),
  (76,⟨.func,1,[.nilFunc],false⟩),
  (77,⟨.func,1,[.nilFunc],false⟩),
  (78,⟨.func,1,[.nilFunc],false⟩),
  (80,⟨.func,1,[.nilFunc],false⟩),
  (81,⟨.func,1,[.nilFunc],false⟩),
  (83,⟨.func,1,[.nilFunc],false⟩),
  (84,⟨.func,1,[.nilFunc],false⟩),
  (85,⟨.func,1,[.nilFunc],false⟩),
  (86,⟨.func,1,[.nilFunc],false⟩),
  (87,⟨.func,1,[.nilFunc],false⟩),
  (88,⟨.func,1,[.nilFunc],false⟩),
  (89,⟨.func,1,[.nilFunc],false⟩),
  (90,⟨.func,1,[.nilFunc],false⟩),
  (91,⟨.ptr 122,1,[.pointer none],false⟩),
  (92,⟨.func,1,[.nilFunc],false⟩),
  (93,⟨.func,1,[.nilFunc],false⟩),
  (95,⟨.func,1,[.nilFunc],false⟩),
  (96,⟨.func,1,[.nilFunc],false⟩),
  (97,⟨.func,1,[.nilFunc],false⟩),
  (98,⟨.func,1,[.nilFunc],false⟩),
  (99,⟨.func,1,[.nilFunc],false⟩),
  (100,⟨.func,1,[.nilFunc],false⟩),
  (101,⟨.func,1,[.nilFunc],false⟩),
  (102,⟨.map 3 25,1,[.map none],false⟩),
  (103,⟨.func,1,[.nilFunc],false⟩),
  (104,⟨.func,1,[.nilFunc],false⟩),
  (105,⟨.func,1,[.nilFunc],false⟩),
  (106,⟨.func,1,[.nilFunc],false⟩),
  (107,⟨.func,1,[.nilFunc],false⟩),
  (108,⟨.func,1,[.nilFunc],false⟩),
  (109,⟨.func,1,[.nilFunc],false⟩),
  (110,⟨.func,1,[.nilFunc],false⟩),
  (111,⟨.func,1,[.nilFunc],false⟩),
  (113,⟨.func,1,[.nilFunc],false⟩),
  (114,⟨.func,1,[.nilFunc],false⟩),
  (115,⟨.func,1,[.nilFunc],false⟩),
  (116,⟨.func,1,[.nilFunc],false⟩),
  (117,⟨.func,1,[.nilFunc],false⟩),
  (118,⟨.func,1,[.nilFunc],false⟩),
  (119,⟨.func,1,[.nilFunc],false⟩),
  (120,⟨.func,1,[.nilFunc],false⟩),
  (121,⟨.struct [(0,39),(1,3)],2,[.slice none 0 0,.int .i64 0],false⟩),
  (122,⟨.struct [(0,39),(1,3)],2,[.slice none 0 0,.int .i64 0],false⟩),
  (123,⟨.ptr 126,1,[.pointer none],false⟩),
  (124,⟨.func,1,[.nilFunc],false⟩),
  (125,⟨.struct [(0,72),(3,123)],4,[.int .i64 0,.int .i64 0,.int .i64 0,.pointer none],false⟩),
  (126,⟨.struct [(0,72),(3,123)],4,[.int .i64 0,.int .i64 0,.int .i64 0,.pointer none],false⟩),
  (127,⟨.func,1,[.nilFunc],false⟩),
  (128,⟨.func,1,[.nilFunc],false⟩),
  (129,⟨.func,1,[.nilFunc],false⟩),
  (130,⟨.func,1,[.nilFunc],false⟩),
  (131,⟨.struct [(0,3),(1,3)],2,[.int .i64 0,.int .i64 0],true⟩),
  (132,⟨.func,1,[.nilFunc],false⟩),
  (133,⟨.func,1,[.nilFunc],false⟩),
  (134,⟨.func,1,[.nilFunc],false⟩),
  (135,⟨.func,1,[.nilFunc],false⟩),
  (136,⟨.struct [(0,3),(1,131)],3,[.int .i64 0,.int .i64 0,.int .i64 0],false⟩),
  (137,⟨.struct [(0,3),(1,131)],3,[.int .i64 0,.int .i64 0,.int .i64 0],false⟩),
  (138,⟨.func,1,[.nilFunc],false⟩),
  (139,⟨.func,1,[.nilFunc],false⟩),
  (140,⟨.func,1,[.nilFunc],false⟩),
  (141,⟨.int .u64,1,[.int .u64 0],false⟩),
  (142,⟨.slice 150,1,[.slice none 0 0],false⟩),
  (143,⟨.slice 148,1,[.slice none 0 0],false⟩),
  (144,⟨.struct [(0,142),(1,143)],2,[.slice none 0 0,.slice none 0 0],false⟩),
  (145,⟨.struct [(0,142),(1,143)],2,[.slice none 0 0,.slice none 0 0],false⟩),
  (146,⟨.func,1,[.nilFunc],false⟩),
  (147,⟨.struct [(0,3),(1,3),(2,3)],3,[.int .i64 0,.int .i64 0,.int .i64 0],true⟩),
  (148,⟨.struct [(0,3),(1,3),(2,3)],3,[.int .i64 0,.int .i64 0,.int .i64 0],true⟩),
  (149,⟨.struct [(0,3),(1,3),(2,3)],3,[.int .i64 0,.int .i64 0,.int .i64 0],true⟩),
  (150,⟨.struct [(0,3),(1,3),(2,3)],3,[.int .i64 0,.int .i64 0,.int .i64 0],true⟩),
  (151,⟨.slice 4,1,[.slice none 0 0],false⟩),
  (152,⟨.iface,1,[.nilIface],false⟩),
  (153,⟨.iface,1,[.nilIface],false⟩),
  (155,⟨.func,1,[.nilFunc],false⟩),
  (156,⟨.func,1,[.nilFunc],false⟩),
  (157,⟨.ptr 161,1,[.pointer none],false⟩),
  (158,⟨.func,1,[.nilFunc],false⟩),
  (159,⟨.func,1,[.nilFunc],false⟩),
  (160,⟨.struct [(0,33),(2,142),(3,143)],4,[.int .i64 0,.slice none 0 0,.slice none 0 0,.slice none 0 0],false⟩),
  (161,⟨.struct [(0,33),(2,142),(3,143)],4,[.int .i64 0,.slice none 0 0,.slice none 0 0,.slice none 0 0],false⟩),
  (162,⟨.func,1,[.nilFunc],false⟩),
  (163,⟨.func,1,[.nilFunc],false⟩),
  (164,⟨.func,1,[.nilFunc],false⟩),
  (165,⟨.int .i64,1,[.int .i64 0],false⟩),
  (167,⟨.func,1,[.nilFunc],false⟩),
  (168,⟨.func,1,[.nilFunc],false⟩),
  (169,⟨.func,1,[.nilFunc],false⟩),
  (170,⟨.func,1,[.nilFunc],false⟩),
  (172,⟨.func,1,[.nilFunc],false⟩),
  (173,⟨.func,1,[.nilFunc],false⟩),
  (174,⟨.int .u32,1,[.int .u32 0],false⟩),
  (175,⟨.func,1,[.nilFunc],false⟩),
  (176,⟨.int .u64,1,[.int .u64 0],false⟩),
  (177,⟨.struct [(0,3),(1,3)],2,[.int .i64 0,.int .i64 0],true⟩),
  (178,⟨.struct [(0,3),(1,3)],2,[.int .i64 0,.int .i64 0],true⟩),
  (180,⟨.func,1,[.nilFunc],false⟩),
  (181,⟨.struct [(0,150),(3,3)],4,[.int .i64 0,.int .i64 0,.int .i64 0,.int .i64 0],false⟩),
  (182,⟨.struct [(0,150),(3,3)],4,[.int .i64 0,.int .i64 0,.int .i64 0,.int .i64 0],false⟩),
  (183,⟨.slice 182,1,[.slice none 0 0],false⟩),
  (184,⟨.func,1,[.nilFunc],false⟩),
  (185,⟨.struct [(0,3),(1,3),(2,3),(3,3)],4,[.int .i64 0,.int .i64 0,.int .i64 0,.int .i64 0],true⟩),
  (186,⟨.struct [(0,3),(1,3),(2,3),(3,3)],4,[.int .i64 0,.int .i64 0,.int .i64 0,.int .i64 0],true⟩),
  (187,⟨.func,1,[.nilFunc],false⟩),
  (188,⟨.func,1,[.nilFunc],false⟩),
  (189,⟨.func,1,[.nilFunc],false⟩),
  (190,⟨.struct [(0,3)],1,[.int .i64 0],true⟩),
  (191,⟨.struct [(0,3)],1,[.int .i64 0],true⟩),
  (192,⟨.struct [],0,[],false⟩),
  (193,⟨.struct [],0,[],false⟩),
  (194,⟨.struct [],0,[],false⟩),
  (195,⟨.struct [],0,[],false⟩),
  (196,⟨.struct [],0,[],false⟩),
  (197,⟨.struct [],0,[],false⟩),
  (198,⟨.struct [],0,[],false⟩),
  (199,⟨.struct [],0,[],false⟩),
  (200,⟨.array 7 153,7,[.nilIface,.nilIface,.nilIface,.nilIface,.nilIface,.nilIface,.nilIface],false⟩),
  (201,⟨.func,1,[.nilFunc],false⟩),
  (202,⟨.array 5 3,5,[.int .i64 0,.int .i64 0,.int .i64 0,.int .i64 0,.int .i64 0],false⟩),
  (203,⟨.func,1,[.nilFunc],false⟩),
  (204,⟨.chan,1,[.chan none],false⟩),
  (205,⟨.struct [],0,[],false⟩),
  (206,⟨.struct [],0,[],false⟩),
  (207,⟨.struct [],0,[],false⟩),
  (208,⟨.struct [(0,206),(0,207),(0,176)],1,[.int .u64 0],false⟩),
  (209,⟨.struct [(0,206),(0,207),(0,176)],1,[.int .u64 0],false⟩),
  (210,⟨.struct [(0,205),(0,209),(1,174)],2,[.int .u64 0,.int .u32 0],false⟩),
  (211,⟨.struct [(0,205),(0,209),(1,174)],2,[.int .u64 0,.int .u32 0],false⟩),
  (212,⟨.func,1,[.nilFunc],false⟩),
  (213,⟨.struct [(0,3),(1,25)],2,[.int .i64 0,.slice none 0 0],false⟩),
  (214,⟨.struct [(0,3),(1,25)],2,[.int .i64 0,.slice none 0 0],false⟩),
  (215,⟨.array 4 25,4,[.slice none 0 0,.slice none 0 0,.slice none 0 0,.slice none 0 0],false⟩),
  (216,⟨.int .u64,1,[.int .u64 0],false⟩),
  (217,⟨.func,1,[.nilFunc],false⟩),
  (218,⟨.func,1,[.nilFunc],false⟩),
  (219,⟨.func,1,[.nilFunc],false⟩),
  (220,⟨.ptr 3,1,[.pointer none],false⟩),
  (221,⟨.func,1,[.nilFunc],false⟩),
  (222,⟨.func,1,[.nilFunc],false⟩),
  (223,⟨.slice 178,1,[.slice none 0 0],false⟩),
  (224,⟨.func,1,[.nilFunc],false⟩),
  (225,⟨.func,1,[.nilFunc],false⟩),
  (226,⟨.ptr 145,1,[.pointer none],false⟩),
  (227,⟨.func,1,[.nilFunc],false⟩),
  (228,⟨.array 8 227,8,[.nilFunc,.nilFunc,.nilFunc,.nilFunc,.nilFunc,.nilFunc,.nilFunc,.nilFunc],false⟩),
  (229,⟨.func,1,[.nilFunc],false⟩),
  (230,⟨.func,1,[.nilFunc],false⟩),
  (231,⟨.array 4 3,4,[.int .i64 0,.int .i64 0,.int .i64 0,.int .i64 0],false⟩),
  (232,⟨.ptr 211,1,[.pointer none],false⟩),
  (233,⟨.func,1,[.nilFunc],false⟩),
  (235,⟨.func,1,[.nilFunc],false⟩),
  (236,⟨.int .i64,1,[.int .i64 0],false⟩),
  (237,⟨.func,1,[.nilFunc],false⟩),
  (238,⟨.func,1,[.nilFunc],false⟩),
  (239,⟨.func,1,[.nilFunc],false⟩),
  (240,⟨.ptr 174,1,[.pointer none],false⟩),
  (241,⟨.func,1,[.nilFunc],false⟩),
  (242,⟨.func,1,[.nilFunc],false⟩),
  (243,⟨.func,1,[.nilFunc],false⟩),
  (244,⟨.func,1,[.nilFunc],false⟩),
  (245,⟨.func,1,[.nilFunc],false⟩),
  (246,⟨.func,1,[.nilFunc],false⟩),
  (247,⟨.ptr 216,1,[.pointer none],false⟩),
  (249,⟨.func,1,[.nilFunc],false⟩),
  (250,⟨.func,1,[.nilFunc],false⟩),
  (251,⟨.func,1,[.nilFunc],false⟩),
  (252,⟨.struct [(0,33),(2,3)],3,[.int .i64 0,.slice none 0 0,.int .i64 0],false⟩),
  (253,⟨.struct [(0,33),(2,3)],3,[.int .i64 0,.slice none 0 0,.int .i64 0],false⟩),
  (254,⟨.array 4 250,4,[.nilFunc,.nilFunc,.nilFunc,.nilFunc],false⟩),
  (255,⟨.func,1,[.nilFunc],false⟩),
  (256,⟨.func,1,[.nilFunc],false⟩),
  (257,⟨.ptr 209,1,[.pointer none],false⟩),
  (258,⟨.func,1,[.nilFunc],false⟩),
  (259,⟨.ptr 176,1,[.pointer none],false⟩),
  (260,⟨.func,1,[.nilFunc],false⟩),
  (261,⟨.func,1,[.nilFunc],false⟩),
  (262,⟨.func,1,[.nilFunc],false⟩),
  (263,⟨.func,1,[.nilFunc],false⟩),
  (264,⟨.struct [(0,17),(1,17),(2,17),(3,9)],4,[.pointer none,.pointer none,.pointer none,.string .empty],false⟩),
  (266,⟨.array 0 16,0,[],false⟩),
  (267,⟨.struct [(0,266)],0,[],false⟩),
  (269,⟨.func,1,[.nilFunc],false⟩),
  (270,⟨.int .u8,1,[.int .u8 0],false⟩),
  (271,⟨.int .u8,1,[.int .u8 0],false⟩),
  (272,⟨.func,1,[.nilFunc],false⟩),
  (273,⟨.ptr 5,1,[.pointer none],false⟩),
  (274,⟨.int .i32,1,[.int .i32 0],false⟩),
  (275,⟨.int .i32,1,[.int .i32 0],false⟩),
  (276,⟨.struct [(0,12),(1,12),(2,174),(3,270),(4,5),(5,5),(6,271),(7,272),(8,273),(9,274),(10,275)],11,[.int .u64 0,.int .u64 0,.int .u32 0,.int .u8 0,.int .u8 0,.int .u8 0,.int .u8 0,.nilFunc,.pointer none,.int .i32 0,.int .i32 0],false⟩),
  (277,⟨.struct [(0,12),(1,12),(2,174),(3,270),(4,5),(5,5),(6,271),(7,272),(8,273),(9,274),(10,275)],11,[.int .u64 0,.int .u64 0,.int .u32 0,.int .u8 0,.int .u8 0,.int .u8 0,.int .u8 0,.nilFunc,.pointer none,.int .i32 0,.int .i32 0],false⟩)]
def T:Nat→Option TyI:=tyLook tab
set_option maxRecDepth 100000 in
theorem tbOk:TbOk Tryz.prog T:=tabChk_ok (by kernel_rfl)
def mtab:Nat→Option FuncId
  | 191=>some 231
  | 193=>some 232
  | 194=>some 233
  | 195=>some 234
  | 196=>some 235
  | 197=>some 236
  | 198=>some 237
  | 199=>some 238
  | _=>none
def Mt:Nat→String→Option FuncId:=fun ty nm=>if nm == "loop.example/lucarne/impl.kind" then mtab ty else none
set_option maxRecDepth 100000 in
theorem mtOk:MtOk Tryz.prog Mt:=⟨fun ty nm g h v w=>by
  unfold Mt at h
  by_cases c:(nm == "loop.example/lucarne/impl.kind")=true
  · rw [if_pos c] at h
    rw [eq_of_beq c]
    unfold mtab at h
    split at h
    · cases h;exact ⟨by kernel_rfl,fun _=>by kernel_rfl⟩
    · cases h;exact ⟨by kernel_rfl,fun _=>by kernel_rfl⟩
    · cases h;exact ⟨by kernel_rfl,fun _=>by kernel_rfl⟩
    · cases h;exact ⟨by kernel_rfl,fun _=>by kernel_rfl⟩
    · cases h;exact ⟨by kernel_rfl,fun _=>by kernel_rfl⟩
    · cases h;exact ⟨by kernel_rfl,fun _=>by kernel_rfl⟩
    · cases h;exact ⟨by kernel_rfl,fun _=>by kernel_rfl⟩
    · cases h;exact ⟨by kernel_rfl,fun _=>by kernel_rfl⟩
    · cases h
  · rw [if_neg c] at h;cases h⟩
end Go.Proofs.YtjpcfaddimlbdaaGreat.Id
namespace Go.Proofs.YtjpcfaddimlbdaaGreat.Id
open Go.Id
open Go.Proofs
set_option linter.unusedVariables false
set_option maxRecDepth 100000
abbrev Cl:=Int×Int
structure Gd where
  w:Int
  cs:List Cl
def cE (c:Cl):List Value:=[.int .i64 c.1,.int .i64 c.2]
def cOk (c:Cl):Bool:=if c.1=7 then decide (1≤c.2)&&decide (c.2≤9) else decide (0≤c.1)&&decide (c.1≤6)&&decide (c.2=0)
def gOk (g:Gd):Bool:=decide (1≤g.w)&&decide (g.w≤5)&&decide (g.cs.length≠0)&&decide ((g.cs.length:Int)≤g.w*5)&&decide ((g.cs.length:Int) % g.w=0)&&g.cs.all cOk
variable {X:Ctx Tryz.prog} {lo:Nat}
theorem wr {n:Int} (h1 : -9223372036854775808≤n) (h2:n≤9223372036854775807):IntKind.i64.wrap n=n:=by rw [IntKind.wrap_i64];omega
theorem l6In_ok (a b c:Int) (h:Hp):Tri X lo 119 [.int .i64 a,.int .i64 b,.int .i64 c] h fun v h'=>v = .bool (decide (b≤a)&&decide (a≤c))∧h'=h:=by
  refine enter tbOk mtOk ⟨[],[]⟩ 200 Tryz.func119 rfl rfl rfl fun hlo => ?_
  refine cnd (fun h1 => ?_) (fun h1 => ?_)
  · refine And.intro (by simp at h1;simp [h1]) rfl
  · refine And.intro (by simp at h1;simp;omega) rfl
theorem dirOk_ok (d:Int) (h:Hp):Tri X lo 177 [.int .i64 d] h fun v h'=>v = .bool (decide (0≤d)&&decide (d≤3))∧h'=h:=by
  refine enter tbOk mtOk ⟨[],[]⟩ 200 Tryz.func177 rfl rfl rfl fun hlo => ?_
  refine cnd (fun h1 => ?_) (fun h1 => ?_)
  · refine And.intro (by simp at h1;simp [h1]) rfl
  · refine And.intro (by simp at h1;simp;omega) rfl
theorem cellTyped_ok (a b:Int) (h:Hp):Tri X lo 128 [.agg #[.int .i64 a,.int .i64 b]] h fun v h'=>(∃ t,v = .tuple #[t,.bool (cOk (a,b))])∧Ext h h':=by
  refine enter tbOk mtOk ⟨[],[(2,[0,1,2,3,4,5,6,7,8,9,10,11,12,13],[0,1,3,7,0,16,48,112,240,496,1008,2032,255,8191])]⟩ 400 Tryz.func128 rfl rfl rfl fun hlo => ?_
  refine cnd (fun c1 => ?_) (fun c1 => ?_)
  · refine And.intro (by kernel_rfl) ?_
    have c1:a=7:=by simpa using c1
    subst c1
    refine cnd (fun c2 => ?_) (fun c2 => ?_)
    · have c2:1≤b:=by simpa using c2
      exact ⟨⟨_,by simp [cOk,c2];rfl⟩,Ext.refl _⟩
    · have c2:¬ 1≤b:=by simpa using c2
      exact ⟨⟨_,by simp [cOk,c2];rfl⟩,Ext.refl _⟩
  · have c1:a≠7:=by simpa using c1
    refine cnd (fun c2 => ?_) (fun c2 => ?_)
    · have c2:¬ 0≤a:=by simpa using c2
      refine cndT ?_
      refine cndT ?_
      exact ⟨⟨.nilIface,by simp [cOk,c1,c2]⟩,Ext.refl _⟩
    · have c2:0≤a:=by simpa using c2
      refine cnd (fun c3 => ?_) (fun c3 => ?_)
      · have c3:¬ a≤6:=by simp at c3;omega
        refine cndT ?_
        exact ⟨⟨.nilIface,by simp [cOk,c1,c3]⟩,Ext.refl _⟩
      · have c3:a≤6:=by simp at c3;omega
        refine cnd (fun c4 => ?_) (fun c4 => ?_)
        · have c4:¬ b=0:=by simpa using c4
          exact ⟨⟨.nilIface,by simp [cOk,c1,c4]⟩,Ext.refl _⟩
        · have c4:b=0:=by simpa using c4
          subst c4
          refine And.intro ⟨c2,by omega⟩ ?_
          have hc:a=0∨a=1∨a=2∨a=3∨a=4∨a=5∨a=6:=by omega
          rcases hc with rfl | rfl | rfl | rfl | rfl | rfl | rfl<;>exact ⟨⟨_,rfl⟩,Ext.refl _⟩
theorem cOk_ok (a b:Int) (h:Hp):Tri X lo 95 [.agg #[.int .i64 a,.int .i64 b]] h fun v h'=>v = .bool (cOk (a,b))∧Ext h h':=by
  refine enter tbOk mtOk ⟨[],[]⟩ 200 Tryz.func95 rfl rfl rfl fun hlo => ?_
  refine callP (cellTyped_ok a b h) ?_
  rintro v h' ⟨⟨t,rfl⟩,e⟩
  exact ⟨rfl,e⟩
theorem gridRows_ok (w:Int) (a:Option Addr) (n fl:Nat) (h:Hp) (hw:1≤w) (hn:(n:Int) < 2 ^ 31):Tri X lo 137 [.agg #[.int .i64 w,.slice a n fl]] h fun v h'=>v = .int .i64 ((n:Int) / w)∧Ext h h':=by
  refine enter tbOk mtOk ⟨[],[]⟩ 200 Tryz.func137 rfl rfl rfl fun hlo => ?_
  refine And.intro (by omega) ?_
  have h1:(n:Int).tdiv w=(n:Int) / w:=Int.tdiv_eq_ediv_of_nonneg (by omega)
  have h2:0≤(n:Int) / w:=Int.ediv_nonneg (by omega) (by omega)
  have h3:(n:Int) / w≤n:=Int.ediv_le_self _ (by omega)
  rw [h1,wr (by omega) (by omega)]
  exact ⟨rfl,Ext.refl _⟩
theorem GridOk_ok (w:Int) (a:Option Addr) (fl:Nat) (cs:List Cl) (h:Hp) (hs:Sls h cE 2 a cs) (hn:(cs.length:Int) < 2 ^ 31):Tri X lo 61 [.agg #[.int .i64 w,.slice a cs.length fl]] h fun v h'=>v = .bool (gOk ⟨w,cs⟩)∧Ext h h':=by
  refine enter tbOk mtOk ⟨[],[]⟩ 400 Tryz.func61 rfl rfl rfl fun hlo => ?_
  refine cnd (fun c1 => ?_) (fun c1 => ?_)
  · refine cndT ?_
    have c1:¬ 1≤w:=by simp at c1;omega
    exact ⟨by simp [gOk,c1],Ext.refl _⟩
  · have c1:1≤w:=by simp at c1;omega
    refine cnd (fun c2 => ?_) (fun c2 => ?_)
    · have c2:¬ w≤5:=by simp at c2;omega
      exact ⟨by simp [gOk,c2],Ext.refl _⟩
    · have c2:w≤5:=by simp at c2;omega
      refine cnd (fun c3 => ?_) (fun c3 => ?_)
      · refine cndT ?_
        refine cndT ?_
        have c3:cs.length=0:=by simpa using c3
        exact ⟨by simp [gOk,c3],Ext.refl _⟩
      · have c3:cs.length≠0:=by simpa using c3
        have e5:IntKind.i64.wrap (w*5)=w*5:=wr (by omega) (by omega)
        refine cnd (fun c4 => ?_) (fun c4 => ?_)
        · refine cndT ?_
          rw [e5] at c4
          have c4:¬ (cs.length:Int)≤w*5:=by simp at c4;omega
          exact ⟨by simp [gOk,c4],Ext.refl _⟩
        · rw [e5] at c4
          have c4:(cs.length:Int)≤w*5:=by simp at c4;omega
          have e6:(cs.length:Int).tmod w=(cs.length:Int) % w:=Int.tmod_eq_emod_of_nonneg (by omega)
          refine And.intro (by omega) ?_
          refine cnd (fun c5 => ?_) (fun c5 => ?_)
          · rw [e6] at c5
            have c5:¬ (cs.length:Int) % w=0:=by simpa using c5
            exact ⟨by simp [gOk,c5],Ext.refl _⟩
          · rw [e6] at c5
            have c5:(cs.length:Int) % w=0:=by simpa using c5
            have hg:gOk ⟨w,cs⟩=cs.all cOk:=by simp [gOk,c1,c2,c3,c4,c5]
            refine loop (σ:=Nat) tbOk mtOk ⟨[],[]⟩ (fun i=>[(38,.v (.int .i64 (i:Int))),(37,.v (.int .i64 (cs.length:Int))),(36,.v (.slice a cs.length fl))]) (fun _=>[]) (fun i h'=>i≤cs.length∧Ext h h'∧∀ j,j < i→∀ c,cs[j]? = some c→cOk c=true) (fun i=>cs.length - i) 300 0 (fun _=>rfl) ⟨rfl,rfl,rfl,trivial⟩ trivial ⟨by omega,Ext.refl _,fun j hj=>by omega⟩ (fun i h' hI again => ?_)
            obtain ⟨i1,i2,i3⟩:=hI
            refine cnd (fun c6 => ?_) (fun c6 => ?_)
            · have hi:i < cs.length:=by simpa using c6
              obtain ⟨ad,rfl⟩:=hs.some hi
              refine And.intro ⟨by omega,by omega⟩ ?_
              refine ⟨_,(hs.ext i2).ld (fun _=>rfl) hi,?_⟩
              refine callP (cOk_ok _ _ _) ?_
              rintro v h'' ⟨rfl,e⟩
              refine cnd (fun c7 => ?_) (fun c7 => ?_)
              · have c7:cOk cs[i]=false:=by simpa using c7
                refine ⟨?_,i2.trans e⟩
                rw [hg,eq_comm]
                refine congrArg _ (Bool.eq_false_iff.2 fun hall => ?_)
                have:=(List.all_eq_true.1 hall) cs[i] (List.getElem_mem hi)
                rw [this] at c7;cases c7
              · have c7:cOk cs[i]=true:=by simpa using c7
                refine again (i+1) _ _ _ (by omega) ⟨?_,rfl,rfl,trivial⟩ trivial ⟨by omega,i2.trans e,fun j hj c hc => ?_⟩
                · show some (Sl.v (.int .i64 (IntKind.i64.wrap ((i:Int)+1))))=_
                  rw [wr (by omega) (by omega)];rfl
                · rcases Nat.lt_or_ge j i with h1 | h1
                  · exact i3 j h1 c hc
                  · have:j=i:=by omega
                    subst this
                    rw [List.getElem?_eq_getElem hi] at hc;cases hc;exact c7
            · have hi:¬ i < cs.length:=by simpa using c6
              refine ⟨?_,i2⟩
              rw [hg,eq_comm]
              refine congrArg _ (List.all_eq_true.2 fun c hc => ?_)
              obtain ⟨j,hj⟩:=List.mem_iff_getElem?.1 hc
              exact i3 j (by have:=(List.getElem?_eq_some_iff.1 hj).1;omega) c hj
end Go.Proofs.YtjpcfaddimlbdaaGreat.Id
namespace Go.Proofs.YtjpcfaddimlbdaaGreat.Tr
set_option linter.unusedVariables false
def dirT (k d:Int):Int:=if k=2∨k=4 then (if d=0 then 1 else if d=1 then 0 else if d=2 then 3 else 2) else if k=3∨k=5 then 3 - d else d
def dl (w d:Int):Int:=if d=0 then -w else if d=1 then 1 else if d=2 then w else -1
def nxt (w n a d:Int):Option Int :=
  if d=0 then (if w≤a then some (a - w) else none)
  else if d=1 then (if a % w≠w - 1 then some (a+1) else none)
  else if d=2 then (if a+w < n then some (a+w) else none)
  else (if a % w≠0 then some (a - 1) else none)
abbrev V:=Int×Int×Int
abbrev Tr:=List V×List V
def en (k a wt:Int):List V:=if wt > 0 then [(k,a,wt)] else []
section
variable (w n:Int) (kd:Int→Int) (sg:Int→Int→Int)
def lv (go:Int→Int→Int→Option Tr) (a d wt:Int):Option Tr :=
  if wt=0 then some ([],[]) else match nxt w n a d with
    | some a'=>go a' d wt
    | none=>some ([],[(0,sg a d,wt)])
def go:Nat→Int→Int→Int→Option Tr
  | 0,_,_,_=>none
  | q+1,a,d,wt =>
    if wt=0 then some ([],[])
    else if kd a=1 then some ([(a,d,wt)],[(1,a,wt)])
    else if kd a=7 then some ([(a,d,wt)],[(2,a,wt)])
    else if kd a=6 then (lv w n sg (go q) a d (wt / 2)).bind fun t=>some ((a,d,wt)::t.1,en 3 a (wt - wt / 2)++t.2)
    else if kd a=4∨kd a=5 then (lv w n sg (go q) a d (wt / 2)).bind fun t=>(lv w n sg (go q) a (dirT (kd a) d) (wt / 2)).bind fun u=>some ((a,d,wt)::(t.1++u.1),en 3 a (wt - 2*(wt / 2))++(t.2++u.2))
    else (lv w n sg (go q) a (dirT (kd a) d) wt).bind fun t=>some ((a,d,wt)::t.1,t.2)
end
theorem bind_some {α β:Type} {o:Option α} {f:α→Option β} {r:β} (h:o.bind f=some r):∃ a,o=some a∧f a=some r:=by
  cases o with
  | none=>cases h
  | some a=>exact ⟨a,rfl,h⟩
theorem lv_mono {w n:Int} {sg:Int→Int→Int} {g g':Int→Int→Int→Option Tr} (h:∀ a d wt r,g a d wt=some r→g' a d wt=some r):∀ a d wt r,lv w n sg g a d wt=some r→lv w n sg g' a d wt=some r:=by
  intro a d wt r hr
  unfold lv at hr ⊢
  split
  · rename_i h0;rw [if_pos h0] at hr;exact hr
  · rename_i h0;rw [if_neg h0] at hr
    split
    · rename_i a' ha;rw [ha] at hr;exact h _ _ _ _ hr
    · rename_i ha;rw [ha] at hr;exact hr
theorem go_mono {w n:Int} {kd:Int→Int} {sg:Int→Int→Int}:∀ (q:Nat) a d wt r,go w n kd sg q a d wt=some r→go w n kd sg (q+1) a d wt=some r
  | 0,_,_,_,_,h=>by cases h
  | q+1,a,d,wt,r,h=>by
    have ih:=go_mono (w:=w) (n:=n) (kd:=kd) (sg:=sg) q
    rw [go] at h ⊢
    by_cases h0:wt=0
    · rw [if_pos h0] at h ⊢;exact h
    rw [if_neg h0] at h ⊢
    by_cases h1:kd a=1
    · rw [if_pos h1] at h ⊢;exact h
    rw [if_neg h1] at h ⊢
    by_cases h7:kd a=7
    · rw [if_pos h7] at h ⊢;exact h
    rw [if_neg h7] at h ⊢
    by_cases h6:kd a=6
    · rw [if_pos h6] at h ⊢
      obtain ⟨t,ht,h⟩:=bind_some h
      rw [lv_mono ih _ _ _ _ ht];exact h
    rw [if_neg h6] at h ⊢
    by_cases h4:kd a=4∨kd a=5
    · rw [if_pos h4] at h ⊢
      obtain ⟨t,ht,h⟩:=bind_some h
      obtain ⟨u,hu,h⟩:=bind_some h
      rw [lv_mono ih _ _ _ _ ht,Option.bind_some,lv_mono ih _ _ _ _ hu];exact h
    · rw [if_neg h4] at h ⊢
      obtain ⟨t,ht,h⟩:=bind_some h
      rw [lv_mono ih _ _ _ _ ht];exact h
theorem go_le {w n:Int} {kd:Int→Int} {sg:Int→Int→Int} {q q':Nat} (hq:q≤q') {a d wt:Int} {r:Tr} (h:go w n kd sg q a d wt=some r):go w n kd sg q' a d wt=some r:=by
  induction hq with
  | refl=>exact h
  | step _ ih=>exact go_mono _ _ _ _ _ ih
theorem lv_le {w n:Int} {kd:Int→Int} {sg:Int→Int→Int} {q q':Nat} (hq:q≤q') {a d wt:Int} {r:Tr} (h:lv w n sg (go w n kd sg q) a d wt=some r):lv w n sg (go w n kd sg q') a d wt=some r :=
  lv_mono (fun _ _ _ _ h=>go_le hq h) _ _ _ _ h
theorem nxt_back {w n a d a':Int} (hd:0≤d∧d≤3) (h:nxt w n a d=some a'):a'=a+dl w d:=by
  unfold nxt at h;unfold dl
  obtain ⟨h0,h3⟩:=hd
  have c:d=0∨d=1∨d=2∨d=3:=by omega
  rcases c with rfl | rfl | rfl | rfl<;>simp at h ⊢<;>omega
theorem dirT_ok {k d:Int} (hd:0≤d∧d≤3):0≤dirT k d∧dirT k d≤3:=by
  unfold dirT;split
  · split;· omega
    split;· omega
    split<;>omega
  · split<;>omega
theorem dirT_inj {k d d':Int} (hd:0≤d∧d≤3) (hd':0≤d'∧d'≤3) (h:dirT k d=dirT k d'):d=d':=by
  have c:d=0∨d=1∨d=2∨d=3:=by omega
  have c':d'=0∨d'=1∨d'=2∨d'=3:=by omega
  unfold dirT at h
  by_cases h1:k=2∨k=4
  · rw [if_pos h1,if_pos h1] at h
    rcases c with rfl | rfl | rfl | rfl<;>rcases c' with rfl | rfl | rfl | rfl<;>simp at h<;>rfl
  · rw [if_neg h1,if_neg h1] at h
    by_cases h2:k=3∨k=5
    · rw [if_pos h2,if_pos h2] at h;omega
    · rw [if_neg h2,if_neg h2] at h;exact h
theorem nxt_in {w n a d a':Int} (hw:1≤w) (hn:n % w=0) (ha:0≤a∧a < n) (hd:0≤d∧d≤3) (h:nxt w n a d=some a'):0≤a'∧a' < n:=by
  obtain ⟨h0,h3⟩:=hd
  obtain ⟨a0,a1⟩:=ha
  have r0:0≤a % w:=Int.emod_nonneg _ (by omega)
  have r1:a % w < w:=Int.emod_lt_of_pos _ (by omega)
  have c:d=0∨d=1∨d=2∨d=3:=by omega
  unfold nxt at h
  rcases c with rfl | rfl | rfl | rfl
  · simp at h;omega
  · simp at h
    obtain ⟨hc,rfl⟩:=h
    refine ⟨by omega,?_⟩
    by_cases he:a+1=n
    · exfalso
      have h1:(a % w+1) % w=0:=by rw [Int.emod_add_emod,he];exact hn
      by_cases h2:a % w+1 < w
      · rw [Int.emod_eq_of_lt (by omega) h2] at h1;omega
      · omega
    · omega
  · simp at h;omega
  · simp at h
    obtain ⟨hc,rfl⟩:=h
    have:a≠0:=by rintro rfl;exact hc (by simp)
    omega
theorem nodup_lt:∀ (N:Nat) (L:List Nat),L.Nodup→(∀ x∈L,x < N)→L.length≤N
  | 0,L,_,h=>by
    cases L with
    | nil=>exact Nat.le_refl _
    | cons x L=>exact absurd (h x (List.mem_cons_self ..)) (by omega)
  | N+1,L,hn,h=>by
    by_cases hm:N∈L
    · have ih:=nodup_lt N (L.erase N) (hn.erase N) (fun x hx=>by
        have h1:=(hn.mem_erase_iff).1 hx
        have h2:=h x h1.2
        have h3:=h1.1
        omega)
      rw [List.length_erase_of_mem hm] at ih
      omega
    · have ih:=nodup_lt N L hn (fun x hx=>by
        have h2:=h x hx
        have h3:x≠N:=fun e=>hm (e▸hx)
        omega)
      omega
def Ok (n:Int) (s:Int×Int):Prop:=(0≤s.1∧s.1 < n)∧(0≤s.2∧s.2≤3)
theorem states_le {n:Int} {N:Nat} (hN:n=(N:Int)) (L:List (Int×Int)) (hd:L.Nodup) (ho:∀ s∈L,Ok n s):L.length≤4*N:=by
  have h:=nodup_lt (4*N) (L.map fun s=>(s.1*4+s.2).toNat) ?_ ?_
  · rwa [List.length_map] at h
  · have h1:L.Pairwise (fun a b=>a≠b∧Ok n a∧Ok n b):=by
      refine List.Pairwise.imp_of_mem ?_ hd
      intro a b ha hb hab
      exact ⟨hab,ho a ha,ho b hb⟩
    refine List.Pairwise.map _ ?_ h1
    rintro ⟨a1,a2⟩ ⟨b1,b2⟩ ⟨hab,⟨ha1,ha2⟩,hb1,hb2⟩ e
    apply hab
    simp at ha1 ha2 hb1 hb2 e
    have:a1=b1∧a2=b2:=by omega
    rw [this.1,this.2]
  · intro x hx
    obtain ⟨⟨s1,s2⟩,hs,rfl⟩:=List.mem_map.1 hx
    obtain ⟨h1,h2⟩:=ho _ hs
    simp at h1 h2
    omega
def through (k:Int):Prop:=k≠1∧k≠7∧k≠6∧¬(k=4∨k=5)
def leads (w n:Int) (kd:Int→Int) (p t:Int×Int):Prop:=through (kd p.1)∧t.2=dirT (kd p.1) p.2∧nxt w n p.1 t.2=some t.1
theorem leads_inj {w n:Int} {kd:Int→Int} {p p' t:Int×Int} (hp:Ok n p) (hp':Ok n p') (h:leads w n kd p t) (h':leads w n kd p' t):p=p':=by
  obtain ⟨_,e,hn⟩:=h
  obtain ⟨_,e',hn'⟩:=h'
  have o:=dirT_ok (k:=kd p.1) hp.2
  rw [← e] at o
  have b:=nxt_back o hn
  have b':=nxt_back o hn'
  have h1:p.1=p'.1:=by omega
  have h2:p.2=p'.2:=dirT_inj (k:=kd p.1) hp.2 hp'.2 (by rw [← e,e',h1])
  exact Prod.ext h1 h2
def Fresh (w n:Int) (kd:Int→Int) (s:Int×Int):Prop:=∀ p,Ok n p→¬ leads w n kd p s
structure Inv (w n:Int) (kd:Int→Int) (s:Int×Int) (L:List (Int×Int)):Prop where
  nd:(s::L).Nodup
  ok:∀ t∈s::L,Ok n t
  pre:∀ t∈s::L,Fresh w n kd t∨∃ p∈L,leads w n kd p t
theorem Inv.start {w n:Int} {kd:Int→Int} {s:Int×Int} (h:Ok n s) (hf:Fresh w n kd s):Inv w n kd s [] :=
  ⟨by simp,by simpa using h,by simp;exact hf⟩
theorem Inv.step {w n:Int} {kd:Int→Int} {s t:Int×Int} {L:List (Int×Int)} (h:Inv w n kd s L) (ht:Ok n t) (hl:leads w n kd s t):Inv w n kd t (s::L):=by
  have hs:=h.ok s (List.mem_cons_self ..)
  refine ⟨List.nodup_cons.2 ⟨?_,h.nd⟩,?_,?_⟩
  · intro hm
    rcases h.pre t hm with hf | ⟨p,hp,hpt⟩
    · exact hf s hs hl
    · have e:=leads_inj (h.ok p (List.mem_cons_of_mem _ hp)) hs hpt hl
      subst e
      exact (List.nodup_cons.1 h.nd).1 hp
  · intro u hu
    rcases List.mem_cons.1 hu with rfl | hu
    · exact ht
    · exact h.ok u hu
  · intro u hu
    rcases List.mem_cons.1 hu with rfl | hu
    · exact .inr ⟨s,List.mem_cons_self ..,hl⟩
    · rcases h.pre u hu with hf | ⟨p,hp,hpu⟩
      · exact .inl hf
      · exact .inr ⟨p,List.mem_cons_of_mem _ hp,hpu⟩
theorem fresh_of {w n:Int} {kd:Int→Int} {a d a':Int} (hd:0≤d∧d≤3) (hk:¬ through (kd a)) (h:nxt w n a d=some a'):Fresh w n kd (a',d):=by
  rintro ⟨p1,p2⟩ hp ⟨ht,e,hx⟩
  have b:=nxt_back hd h
  have o:0≤d∧d≤3:=hd
  have b':=nxt_back (d:=d) o hx
  have:p1=a:=by simp at b';omega
  exact hk (this▸ht)
section
variable {w n:Int} {kd:Int→Int} {sg:Int→Int→Int} {N:Nat}
theorem lv_ex (hw:1≤w) (hn:n % w=0) (a d:Int) (ha:0≤a∧a < n) (hd:0≤d∧d≤3) (hk:¬ through (kd a)) (m B:Nat)
    (h:0 < m→∀ s,Ok n s→Fresh w n kd s→∃ q t,go w n kd sg q s.1 s.2 (m:Int)=some t∧t.1.length≤B) :
    ∃ q t,lv w n sg (go w n kd sg q) a d (m:Int)=some t∧t.1.length≤B:=by
  unfold lv
  by_cases h0:m=0
  · subst h0;exact ⟨0,([],[]),by simp,by simp⟩
  · have hne:¬ ((m:Int)=0):=by omega
    cases hx:nxt w n a d with
    | none=>exact ⟨0,([],[(0,sg a d,(m:Int))]),by rw [if_neg hne],by simp⟩
    | some a' =>
      obtain ⟨q,t,hq,hl⟩:=h (by omega) (a',d) ⟨nxt_in hw hn ha hd hx,hd⟩ (fresh_of hd hk hx)
      exact ⟨q,t,by rw [if_neg hne];exact hq,hl⟩
theorem ex (hw:1≤w) (hn:n % w=0) (hN:n=(N:Int)):∀ (m:Nat),0 < m→∀ (j:Nat) (s:Int×Int) (L:List (Int×Int)),Inv w n kd s L→j+L.length=4*N→∃ q t,go w n kd sg q s.1 s.2 (m:Int)=some t∧t.1.length≤j+8*N*(m - 1):=by
  intro m
  induction m using Nat.strongRecOn with
  | _ m ihm =>
  intro hm j
  induction j with
  | zero =>
    intro s L hI hj
    have:=states_le hN (s::L) hI.nd hI.ok
    simp at this;omega
  | succ j ihj =>
    intro s L hI hj
    obtain ⟨a,d⟩:=s
    have hok:=hI.ok (a,d) (List.mem_cons_self ..)
    have ha:0≤a∧a < n:=hok.1
    have hd:0≤d∧d≤3:=hok.2
    have hne:¬ ((m:Int)=0):=by omega
    have hhalf:(m:Int) / 2=((m / 2:Nat):Int):=by omega
    have hsub:0 < m / 2→∀ s,Ok n s→Fresh w n kd s→∃ q t,go w n kd sg q s.1 s.2 ((m / 2:Nat):Int)=some t∧t.1.length≤4*N+8*N*(m / 2 - 1):=fun hp s hs hf=>ihm (m / 2) (by omega) hp (4*N) s [] (Inv.start hs hf) (by simp)
    have hmul:2*(8*N*(m / 2 - 1))≤8*N*(m - 2):=by
      rw [← Nat.mul_left_comm,]
      exact Nat.mul_le_mul_left _ (by omega)
    have hstep:2≤m→8*N*(m - 1)=8*N*(m - 2)+8*N:=by
      intro h2
      rw [show m - 1=(m - 2)+1 from by omega,Nat.mul_add,Nat.mul_one]
    have hB:(m / 2=0→True):=fun _=>trivial
    by_cases k1:kd a=1
    · exact ⟨1,_,by rw [go,if_neg hne,if_pos k1],by simp;omega⟩
    by_cases k7:kd a=7
    · exact ⟨1,_,by rw [go,if_neg hne,if_neg k1,if_pos k7],by simp;omega⟩
    by_cases k6:kd a=6
    · have hk:¬ through (kd a):=fun h=>h.2.2.1 k6
      by_cases h2:2≤m
      · obtain ⟨q,t,hq,hl⟩:=lv_ex (sg:=sg) hw hn a d ha hd hk (m / 2) _ hsub
        refine ⟨q+1,_,by rw [go,if_neg hne,if_neg k1,if_neg k7,if_pos k6,hhalf,hq];rfl,?_⟩
        have:=hstep h2
        simp only [List.length_cons];omega
      · have hz:m / 2=0:=by omega
        refine ⟨1,((a,d,(m:Int))::[],en 3 a ((m:Int) - (m:Int) / 2)++[]),by rw [go,if_neg hne,if_neg k1,if_neg k7,if_pos k6,hhalf,hz];rfl,?_⟩
        simp;omega
    by_cases k4:kd a=4∨kd a=5
    · have hk:¬ through (kd a):=fun h=>h.2.2.2 k4
      by_cases h2:2≤m
      · obtain ⟨q,t,hq,hl⟩:=lv_ex (sg:=sg) hw hn a d ha hd hk (m / 2) _ hsub
        obtain ⟨q',u,hq',hl'⟩:=lv_ex (sg:=sg) hw hn a (dirT (kd a) d) ha (dirT_ok hd) hk (m / 2) _ hsub
        have e1:=lv_le (Nat.le_max_left q q') hq
        have e2:=lv_le (Nat.le_max_right q q') hq'
        refine ⟨max q q'+1,_,by rw [go,if_neg hne,if_neg k1,if_neg k7,if_neg k6,if_pos k4,hhalf,e1,Option.bind_some,e2];rfl,?_⟩
        have:=hstep h2
        simp only [List.length_cons,List.length_append];omega
      · have hz:m / 2=0:=by omega
        refine ⟨1,((a,d,(m:Int))::([]++[]),en 3 a ((m:Int) - 2*((m:Int) / 2))++([]++[])),by rw [go,if_neg hne,if_neg k1,if_neg k7,if_neg k6,if_pos k4,hhalf,hz];rfl,?_⟩
        simp;omega
    have hk:through (kd a):=⟨k1,k7,k6,k4⟩
    cases hx:nxt w n a (dirT (kd a) d) with
    | none=>exact ⟨1,_,by rw [go,if_neg hne,if_neg k1,if_neg k7,if_neg k6,if_neg k4,lv,if_neg hne,hx];rfl,by simp;omega⟩
    | some a' =>
      have hx':=nxt_in hw hn ha (dirT_ok hd) hx
      obtain ⟨q,t,hq,hl⟩:=ihj (a',dirT (kd a) d) ((a,d)::L) (hI.step ⟨hx',dirT_ok hd⟩ ⟨hk,rfl,hx⟩) (by simp;omega)
      have hq:go w n kd sg q a' (dirT (kd a) d) (m:Int)=some t:=hq
      exact ⟨q+1,((a,d,(m:Int))::t.1,t.2),by rw [go,if_neg hne,if_neg k1,if_neg k7,if_neg k6,if_neg k4,lv,if_neg hne,hx];simp only;rw [hq];rfl,by simp only [List.length_cons];omega⟩
end
section
variable {w n:Int} {kd:Int→Int} {sg:Int→Int→Int}
theorem en_mem {k a wt:Int} {e:V} (h:e∈en k a wt):e=(k,a,wt)∧0 < wt:=by
  unfold en at h
  by_cases hw:wt > 0
  · rw [if_pos hw] at h;exact ⟨by simpa using h,hw⟩
  · rw [if_neg hw] at h;simp at h
theorem ends_le:∀ (q:Nat) (a d wt:Int) (t:Tr),go w n kd sg q a d wt=some t→t.2.length≤3*t.1.length
  | 0,_,_,_,_,h=>by cases h
  | q+1,a,d,wt,t,h=>by
    have ih:=ends_le q
    have hlv:∀ d wt t,lv w n sg (go w n kd sg q) a d wt=some t→t.2.length≤3*t.1.length+1:=by
      intro d wt t h
      unfold lv at h
      by_cases h0:wt=0
      · rw [if_pos h0] at h;cases h;simp
      · rw [if_neg h0] at h
        cases hx:nxt w n a d with
        | none=>rw [hx] at h;cases h;simp
        | some a'=>rw [hx] at h;have:=ih a' d wt t h;omega
    have hen:∀ k a wt,(en k a wt).length≤1:=by intro k a wt;unfold en;split<;>simp
    rw [go] at h
    by_cases h0:wt=0
    · rw [if_pos h0] at h;cases h;simp
    rw [if_neg h0] at h
    by_cases k1:kd a=1
    · rw [if_pos k1] at h;cases h;simp
    rw [if_neg k1] at h
    by_cases k7:kd a=7
    · rw [if_pos k7] at h;cases h;simp
    rw [if_neg k7] at h
    by_cases k6:kd a=6
    · rw [if_pos k6] at h
      obtain ⟨u,hu,h⟩:=bind_some h
      cases h
      have h1:=hlv _ _ _ hu;have h2:=hen 3 a (wt - wt / 2)
      simp only [List.length_append,List.length_cons];omega
    rw [if_neg k6] at h
    by_cases k4:kd a=4∨kd a=5
    · rw [if_pos k4] at h
      obtain ⟨u,hu,h⟩:=bind_some h
      obtain ⟨v,hv,h⟩:=bind_some h
      cases h
      have h1:=hlv _ _ _ hu;have h3:=hlv _ _ _ hv;have h2:=hen 3 a (wt - 2*(wt / 2))
      simp only [List.length_append,List.length_cons];omega
    · rw [if_neg k4] at h
      obtain ⟨u,hu,h⟩:=bind_some h
      cases h
      have h1:=hlv _ _ _ hu
      simp only [List.length_cons];omega
end
end Go.Proofs.YtjpcfaddimlbdaaGreat.Tr
namespace Go.Proofs.YtjpcfaddimlbdaaGreat.Tr
set_option linter.unusedVariables false
section
variable {w n:Int} {kd:Int→Int} {sg:Int→Int→Int}
theorem go_ind (hw:1≤w) (hn:n % w=0) (M L:Int→Int→Int→Tr→Prop)
    (m0:∀ a d,M a d 0 ([],[])) (l0:∀ a d,L a d 0 ([],[]))
    (lout:∀ a d wt,Ok n (a,d)→wt≠0→kd a≠1→kd a≠7→nxt w n a d=none→L a d wt ([],[(0,sg a d,wt)]))
    (lin:∀ a d wt a' t,Ok n (a,d)→wt≠0→nxt w n a d=some a'→Ok n (a',d)→M a' d wt t→L a d wt t)
    (mwall:∀ a d wt,Ok n (a,d)→wt≠0→kd a=1→M a d wt ([(a,d,wt)],[(1,a,wt)]))
    (mlamp:∀ a d wt,Ok n (a,d)→wt≠0→kd a=7→M a d wt ([(a,d,wt)],[(2,a,wt)]))
    (mdim:∀ a d wt t,Ok n (a,d)→wt≠0→kd a=6→L a d (wt / 2) t→M a d wt ((a,d,wt)::t.1,en 3 a (wt - wt / 2)++t.2))
    (mglass:∀ a d wt t u,Ok n (a,d)→wt≠0→(kd a=4∨kd a=5)→L a d (wt / 2) t→L a (dirT (kd a) d) (wt / 2) u→M a d wt ((a,d,wt)::(t.1++u.1),en 3 a (wt - 2*(wt / 2))++(t.2++u.2)))
    (mthru:∀ a d wt t,Ok n (a,d)→wt≠0→through (kd a)→L a (dirT (kd a) d) wt t→M a d wt ((a,d,wt)::t.1,t.2)) :
    ∀ (q:Nat) (a d wt:Int) (t:Tr),Ok n (a,d)→go w n kd sg q a d wt=some t→M a d wt t
  | 0,_,_,_,_,_,h=>by cases h
  | q+1,a,d,wt,t,ho,h=>by
    have ih:=go_ind hw hn M L m0 l0 lout lin mwall mlamp mdim mglass mthru q
    have hlv:kd a≠1→kd a≠7→∀ d wt t,(0≤d∧d≤3)→lv w n sg (go w n kd sg q) a d wt=some t→L a d wt t:=by
      intro k1 k7 d wt t hd h
      unfold lv at h
      by_cases h0:wt=0
      · rw [if_pos h0] at h;cases h;rw [h0];exact l0 _ _
      · rw [if_neg h0] at h
        cases hx:nxt w n a d with
        | none=>rw [hx] at h;cases h;exact lout a d wt ⟨ho.1,hd⟩ h0 k1 k7 hx
        | some a' =>
          rw [hx] at h
          have ho':Ok n (a',d):=⟨nxt_in hw hn ho.1 hd hx,hd⟩
          exact lin a d wt a' t ⟨ho.1,hd⟩ h0 hx ho' (ih a' d wt t ho' h)
    have hdd:0≤d∧d≤3:=ho.2
    rw [go] at h
    by_cases h0:wt=0
    · rw [if_pos h0] at h;cases h;rw [h0];exact m0 _ _
    rw [if_neg h0] at h
    by_cases k1:kd a=1
    · rw [if_pos k1] at h;cases h;exact mwall a d wt ho h0 k1
    rw [if_neg k1] at h
    by_cases k7:kd a=7
    · rw [if_pos k7] at h;cases h;exact mlamp a d wt ho h0 k7
    rw [if_neg k7] at h
    by_cases k6:kd a=6
    · rw [if_pos k6] at h
      obtain ⟨u,hu,h⟩:=bind_some h
      cases h
      exact mdim a d wt u ho h0 k6 (hlv k1 k7 _ _ _ hdd hu)
    rw [if_neg k6] at h
    by_cases k4:kd a=4∨kd a=5
    · rw [if_pos k4] at h
      obtain ⟨u,hu,h⟩:=bind_some h
      obtain ⟨v,hv,h⟩:=bind_some h
      cases h
      exact mglass a d wt u v ho h0 k4 (hlv k1 k7 _ _ _ hdd hu) (hlv k1 k7 _ _ _ (dirT_ok hdd) hv)
    · rw [if_neg k4] at h
      obtain ⟨u,hu,h⟩:=bind_some h
      cases h
      exact mthru a d wt u ho h0 ⟨k1,k7,k6,k4⟩ (hlv k1 k7 _ _ _ (dirT_ok hdd) hu)
end
section
variable (w n:Int) (kd:Int→Int) (sg:Int→Int→Int)
def EndOk (vs : List V) (m : Int) (e : V) : Prop :=
  0 < e.2.2 ∧ e.2.2 ≤ m ∧
  ((e.1 = 0 ∧ ∃ a d, Ok n (a, d) ∧ nxt w n a d = none ∧ kd a ≠ 1 ∧ kd a ≠ 7 ∧ e.2.1 = sg a d) ∨
   (e.1 = 1 ∧ (0 ≤ e.2.1 ∧ e.2.1 < n) ∧ kd e.2.1 = 1 ∧ ∃ v ∈ vs, v.1 = e.2.1) ∨
   (e.1 = 2 ∧ (0 ≤ e.2.1 ∧ e.2.1 < n) ∧ kd e.2.1 = 7 ∧ ∃ v ∈ vs, v.1 = e.2.1) ∨
   (e.1 = 3 ∧ (0 ≤ e.2.1 ∧ e.2.1 < n) ∧ (kd e.2.1 = 4 ∨ kd e.2.1 = 5 ∨ kd e.2.1 = 6) ∧ ∃ v ∈ vs, v.1 = e.2.1))
end
section
variable {w n:Int} {kd:Int→Int} {sg:Int→Int→Int}
theorem EndOk.more {vs vs':List V} {m m':Int} {e:V} (h:EndOk w n kd sg vs m e) (hm:m≤m') (hv:∀ v∈vs,v∈vs'):EndOk w n kd sg vs' m' e:=by
  obtain ⟨h1,h2,h3⟩:=h
  refine ⟨h1,by omega,?_⟩
  have up:(∃ v∈vs,v.1=e.2.1)→∃ v∈vs',v.1=e.2.1:=fun ⟨v,hx,he⟩=>⟨v,hv v hx,he⟩
  rcases h3 with h | ⟨a,b,c,d⟩ | ⟨a,b,c,d⟩ | ⟨a,b,c,d⟩
  · exact .inl h
  · exact .inr (.inl ⟨a,b,c,up d⟩)
  · exact .inr (.inr (.inl ⟨a,b,c,up d⟩))
  · exact .inr (.inr (.inr ⟨a,b,c,up d⟩))
def VisOk (n:Int) (m:Int) (v:V):Prop:=Ok n (v.1,v.2.1)∧0 < v.2.2∧v.2.2≤m
theorem go_ends (hw:1≤w) (hn:n % w=0) (q:Nat) (a d wt:Int) (t:Tr) (ho:Ok n (a,d)) (h0:0≤wt) (h:go w n kd sg q a d wt=some t) :
    (∀ e∈t.2,EndOk w n kd sg t.1 wt e)∧(∀ v∈t.1,VisOk n wt v):=by
  refine go_ind (kd:=kd) (sg:=sg) hw hn (fun a d wt t=>0≤wt→(∀ e∈t.2,EndOk w n kd sg t.1 wt e)∧(∀ v∈t.1,VisOk n wt v)) (fun a d wt t=>0≤wt→(∀ e∈t.2,EndOk w n kd sg t.1 wt e)∧(∀ v∈t.1,VisOk n wt v))
    ?_ ?_ ?_ ?_ ?_ ?_ ?_ ?_ ?_ q a d wt t ho h h0
  · intro a d _;simp
  · intro a d _;simp
  · intro a d wt ho hz k1 k7 hx h0
    refine ⟨?_,by simp⟩
    intro e he
    simp at he;subst he
    exact ⟨by show 0 < wt;omega,Int.le_refl _,.inl ⟨rfl,a,d,ho,hx,k1,k7,rfl⟩⟩
  · intro a d wt a' t ho hz hx ho' hM h0;exact hM h0
  · intro a d wt ho hz hk h0
    refine ⟨?_,?_⟩
    · intro e he
      simp at he;subst he
      exact ⟨by show 0 < wt;omega,Int.le_refl _,.inr (.inl ⟨rfl,ho.1,hk,_,List.mem_singleton.2 rfl,rfl⟩)⟩
    · intro v hv
      simp at hv;subst hv
      exact ⟨ho,by show 0 < wt;omega,Int.le_refl _⟩
  · intro a d wt ho hz hk h0
    refine ⟨?_,?_⟩
    · intro e he
      simp at he;subst he
      exact ⟨by show 0 < wt;omega,Int.le_refl _,.inr (.inr (.inl ⟨rfl,ho.1,hk,_,List.mem_singleton.2 rfl,rfl⟩))⟩
    · intro v hv
      simp at hv;subst hv
      exact ⟨ho,by show 0 < wt;omega,Int.le_refl _⟩
  · intro a d wt t ho hz hk hL h0
    obtain ⟨h1,h2⟩:=hL (by omega)
    refine ⟨?_,?_⟩
    · intro e he
      rcases List.mem_append.1 he with he | he
      · obtain ⟨rfl,hp⟩:=en_mem he
        exact ⟨hp,by show wt - wt / 2≤wt;omega,.inr (.inr (.inr ⟨rfl,ho.1,.inr (.inr hk),_,List.mem_cons_self ..,rfl⟩))⟩
      · exact (h1 e he).more (by omega) fun v hv=>List.mem_cons_of_mem _ hv
    · intro v hv
      rcases List.mem_cons.1 hv with rfl | hv
      · exact ⟨ho,by show 0 < wt;omega,Int.le_refl _⟩
      · obtain ⟨x,y,z⟩:=h2 v hv;exact ⟨x,y,by omega⟩
  · intro a d wt t u ho hz hk hL hR h0
    obtain ⟨h1,h2⟩:=hL (by omega)
    obtain ⟨h3,h4⟩:=hR (by omega)
    refine ⟨?_,?_⟩
    · intro e he
      rcases List.mem_append.1 he with he | he
      · obtain ⟨rfl,hp⟩:=en_mem he
        refine ⟨hp,by show wt - 2*(wt / 2)≤wt;omega,.inr (.inr (.inr ⟨rfl,ho.1,?_,_,List.mem_cons_self ..,rfl⟩))⟩
        rcases hk with hk | hk
        · exact .inl hk
        · exact .inr (.inl hk)
      · rcases List.mem_append.1 he with he | he
        · exact (h1 e he).more (by omega) fun v hv=>List.mem_cons_of_mem _ (List.mem_append.2 (.inl hv))
        · exact (h3 e he).more (by omega) fun v hv=>List.mem_cons_of_mem _ (List.mem_append.2 (.inr hv))
    · intro v hv
      rcases List.mem_cons.1 hv with rfl | hv
      · exact ⟨ho,by show 0 < wt;omega,Int.le_refl _⟩
      · rcases List.mem_append.1 hv with hv | hv
        · obtain ⟨x,y,z⟩:=h2 v hv;exact ⟨x,y,by omega⟩
        · obtain ⟨x,y,z⟩:=h4 v hv;exact ⟨x,y,by omega⟩
  · intro a d wt t ho hz hk hL h0
    obtain ⟨h1,h2⟩:=hL h0
    refine ⟨fun e he=>(h1 e he).more (Int.le_refl _) fun v hv=>List.mem_cons_of_mem _ hv,?_⟩
    intro v hv
    rcases List.mem_cons.1 hv with rfl | hv
    · exact ⟨ho,by show 0 < wt;omega,Int.le_refl _⟩
    · exact h2 v hv
theorem go_head {q:Nat} {a d wt:Int} {t:Tr} (h0:wt≠0) (h:go w n kd sg q a d wt=some t):∃ l,t.1=(a,d,wt)::l:=by
  cases q with
  | zero=>cases h
  | succ q =>
    rw [go,if_neg h0] at h
    by_cases k1:kd a=1
    · rw [if_pos k1] at h;cases h;exact ⟨_,rfl⟩
    rw [if_neg k1] at h
    by_cases k7:kd a=7
    · rw [if_pos k7] at h;cases h;exact ⟨_,rfl⟩
    rw [if_neg k7] at h
    by_cases k6:kd a=6
    · rw [if_pos k6] at h
      obtain ⟨u,hu,h⟩:=bind_some h
      cases h;exact ⟨_,rfl⟩
    rw [if_neg k6] at h
    by_cases k4:kd a=4∨kd a=5
    · rw [if_pos k4] at h
      obtain ⟨u,hu,h⟩:=bind_some h
      obtain ⟨v,hv,h⟩:=bind_some h
      cases h;exact ⟨_,rfl⟩
    · rw [if_neg k4] at h
      obtain ⟨u,hu,h⟩:=bind_some h
      cases h;exact ⟨_,rfl⟩
end
section
variable (w n:Int) (kd:Int→Int)
end
section
variable {w n:Int} {kd:Int→Int} {sg:Int→Int→Int}
end
end Go.Proofs.YtjpcfaddimlbdaaGreat.Tr
namespace Go.Proofs.YtjpcfaddimlbdaaGreat.Id
open Go.Id
open Go.Proofs
set_option linter.unusedVariables false
set_option maxRecDepth 100000
variable {X:Ctx Tryz.prog} {lo:Nat}
def Gd.hi (g:Gd):Int:=(g.cs.length:Int) / g.w
def many (g:Gd):Int:=2*(g.w+g.hi)
theorem gOk_iff {g:Gd}:gOk g=true↔1≤g.w∧g.w≤5∧g.cs.length≠0∧(g.cs.length:Int)≤g.w*5∧(g.cs.length:Int) % g.w=0∧∀ c∈g.cs,cOk c=true:=by
  simp [gOk,and_assoc]
theorem hi_ok {g:Gd} (h:gOk g=true):1≤g.hi∧g.hi≤5∧g.w*g.hi=g.cs.length:=by
  obtain ⟨h1,h2,h3,h4,h5,_⟩:=gOk_iff.1 h
  have h6:g.w*g.hi=g.cs.length:=by
    have:=Int.mul_ediv_add_emod (g.cs.length:Int) g.w
    rw [h5] at this;unfold Gd.hi;omega
  have h7:1≤g.hi:=by
    unfold Gd.hi
    have h8:0≤(g.cs.length:Int) / g.w:=Int.ediv_nonneg (by omega) (by omega)
    rcases Int.lt_or_eq_of_le h8 with h9 | h9
    · omega
    · unfold Gd.hi at h6;rw [← h9] at h6;simp at h6;omega
  have h8:g.hi≤5:=by
    refine Int.le_of_mul_le_mul_left (a:=g.w) ?_ (by omega)
    rw [h6];exact h4
  exact ⟨h7,h8,h6⟩
theorem SightMany_ok (g:Gd) (a:Option Addr) (fl:Nat) (h:Hp) (hs:Sls h cE 2 a g.cs) (hn:(g.cs.length:Int) < 2 ^ 31):Tri X lo 105 [.agg #[.int .i64 g.w,.slice a g.cs.length fl]] h fun v h'=>v = .int .i64 (if gOk g then many g else 0)∧Ext h h':=by
  refine enter tbOk mtOk ⟨[],[(3,[0,1,2,3,4,5,6],[0,1,0,4,15,31,63])]⟩ 400 Tryz.func105 rfl rfl rfl fun hlo => ?_
  refine callP (GridOk_ok g.w a fl g.cs h hs hn) ?_
  rintro v h' ⟨rfl,e⟩
  refine cnd (fun c1 => ?_) (fun c1 => ?_)
  · have c1:gOk g=false:=by simpa using c1
    exact ⟨by rw [c1];rfl,e⟩
  · have c1:gOk g=true:=by simpa using c1
    obtain ⟨h1,h2,h3⟩:=hi_ok c1
    obtain ⟨g1,g2,_⟩:=gOk_iff.1 c1
    refine And.intro (by kernel_rfl) ?_
    refine callP (gridRows_ok g.w a g.cs.length fl h' g1 hn) ?_
    rintro v h'' ⟨rfl,e'⟩
    refine And.intro Is.r ?_
    refine ⟨?_,e.trans e'⟩
    rw [c1,show (g.cs.length:Int) / g.w=g.hi from rfl,wr (n:=g.w+g.hi) (by omega) (by omega),wr (by omega) (by omega)]
    rfl
theorem opposite_ok (d:Int) (h:Hp) (hd:0≤d∧d≤3):Tri X lo 205 [.int .i64 d] h fun v h'=>v = .int .i64 ((d+2) % 4)∧Ext h h':=by
  refine enter tbOk mtOk ⟨[],[]⟩ 400 Tryz.func205 rfl rfl rfl fun hlo => ?_
  refine And.intro (by decide) ?_
  rw [wr (n:=d+2) (by omega) (by omega),Int.tmod_eq_emod_of_nonneg (by omega)]
  exact ⟨rfl,Ext.refl _⟩
structure AtOk (w:Int) (n:Nat) (at_:Int):Prop where
  wk:1≤w∧w≤5
  nk:(n:Int) < 2 ^ 31
  ak:0≤at_∧at_ < n
theorem up_ok (w at_:Int) (a:Option Addr) (n fl:Nat) (h:Hp) (k:AtOk w n at_):Tri X lo 201 [.agg #[.int .i64 w,.slice a n fl,.int .i64 at_]] h fun v h'=>v = .tuple #[.int .i64 (at_ - w),.bool (decide (w≤at_))]∧Ext h h':=by
  obtain ⟨k1,k2,k3⟩:=k
  refine enter tbOk mtOk ⟨[],[(1,[0,1,2,3,4,5,6,7,8,9,10,11,12,13],[0,1,0,4,12,31,0,64,0,256,768,1984,63,8191])]⟩ 400 Tryz.func201 rfl rfl rfl fun hlo => ?_
  refine And.intro (by kernel_rfl) ?_
  refine And.intro ?_ (Ext.refl _)
  show Value.tuple #[.int .i64 (IntKind.i64.wrap (at_ - w)),.bool (decide (at_≥w))]=_
  rw [wr (n:=at_ - w) (by omega) (by omega)]
theorem right_ok (w at_:Int) (a:Option Addr) (n fl:Nat) (h:Hp) (k:AtOk w n at_):Tri X lo 202 [.agg #[.int .i64 w,.slice a n fl,.int .i64 at_]] h fun v h'=>v = .tuple #[.int .i64 (at_+1),.bool (at_ % w != w - 1)]∧Ext h h':=by
  obtain ⟨k1,k2,k3⟩:=k
  refine enter tbOk mtOk ⟨[],[(1,[0,1,2,3,4,5,6,7,8,9,10,11,12,13,14,15],[0,1,3,0,8,0,32,96,248,0,512,1536,3584,8184,7,32767])]⟩ 400 Tryz.func202 rfl rfl rfl fun hlo => ?_
  refine And.intro (by kernel_rfl) ?_
  refine And.intro (by omega) ?_
  refine And.intro ?_ (Ext.refl _)
  show Value.tuple #[.int .i64 (IntKind.i64.wrap (at_+1)),.bool (at_.tmod w != IntKind.i64.wrap (w - 1))]=_
  rw [wr (n:=at_+1) (by omega) (by omega),wr (n:=w - 1) (by omega) (by omega),Int.tmod_eq_emod_of_nonneg k3.1]
theorem down_ok (w at_:Int) (a:Option Addr) (n fl:Nat) (h:Hp) (k:AtOk w n at_):Tri X lo 203 [.agg #[.int .i64 w,.slice a n fl,.int .i64 at_]] h fun v h'=>v = .tuple #[.int .i64 (at_+w),.bool (decide (at_+w < n))]∧Ext h h':=by
  obtain ⟨k1,k2,k3⟩:=k
  refine enter tbOk mtOk ⟨[],[(1,[0,1,2,3,4,5,6,7,8,9,10,11,12,13,14,15,16,17,18],[0,1,0,4,12,31,0,64,0,256,768,1984,0,4096,12288,28672,65472,63,262143])]⟩ 400 Tryz.func203 rfl rfl rfl fun hlo => ?_
  refine And.intro (by kernel_rfl) ?_
  refine And.intro ?_ (Ext.refl _)
  show Value.tuple #[.int .i64 (IntKind.i64.wrap (at_+w)),.bool (decide (IntKind.i64.wrap (at_+w) < n))]=_
  rw [wr (n:=at_+w) (by omega) (by omega)]
theorem left_ok (w at_:Int) (a:Option Addr) (n fl:Nat) (h:Hp) (k:AtOk w n at_):Tri X lo 204 [.agg #[.int .i64 w,.slice a n fl,.int .i64 at_]] h fun v h'=>v = .tuple #[.int .i64 (at_ - 1),.bool (at_ % w != 0)]∧Ext h h':=by
  obtain ⟨k1,k2,k3⟩:=k
  refine enter tbOk mtOk ⟨[],[(1,[0,1,2,3,4,5,6,7,8,9,10,11],[0,1,3,0,8,0,32,96,248,504,7,2047])]⟩ 400 Tryz.func204 rfl rfl rfl fun hlo => ?_
  refine And.intro (by kernel_rfl) ?_
  refine And.intro (by omega) ?_
  refine And.intro ?_ (Ext.refl _)
  show Value.tuple #[.int .i64 (IntKind.i64.wrap (at_ - 1)),.bool (at_.tmod w != 0)]=_
  rw [wr (n:=at_ - 1) (by omega) (by omega),Int.tmod_eq_emod_of_nonneg k3.1]
open Tr in
theorem rayStep_ok (w at_ d:Int) (a:Option Addr) (n fl:Nat) (h:Hp) (k:AtOk w n at_) (hd:0≤d∧d≤3):Tri X lo 175 [.agg #[.int .i64 w,.slice a n fl],.int .i64 at_,.int .i64 d] h fun v h'=>v=(match nxt w n at_ d with | some b => .tuple #[.agg #[.int .i64 b,.int .i64 d],.bool true] | none => .tuple #[.agg #[.int .i64 0,.int .i64 0],.bool false])∧Ext h h':=by
  refine enter tbOk mtOk ⟨[],[(2,[0,1,2,3,4,5,6,7,8,9,10,11],[0,1,3,0,0,24,63,127,255,255,511,2047])]⟩ 400 Tryz.func175 rfl rfl rfl fun hlo => ?_
  refine And.intro (by kernel_rfl) ?_
  refine And.intro ⟨hd.1,by omega⟩ ?_
  have hc:d=0∨d=1∨d=2∨d=3:=by omega
  rcases hc with rfl | rfl | rfl | rfl
  · refine callP (up_ok w at_ a n fl h k) ?_
    rintro v h' ⟨rfl,e⟩
    refine cnd (fun c1 => ?_) (fun c1 => ?_)
    · refine And.intro ?_ e
      have c1:(decide (w≤at_))=false:=by simpa using c1
      show Value.tuple #[.agg #[.int .i64 0,.int .i64 0],.bool false]=_
      have:nxt w n at_ 0=none:=by simp at c1;simp [nxt,c1]
      rw [this]
    · refine And.intro ?_ e
      have c1:(decide (w≤at_))=true:=by simpa using c1
      show Value.tuple #[.agg #[.int .i64 (at_ - w),.int .i64 0],.bool true]=_
      have:nxt w n at_ 0=some (at_ - w):=by simp at c1;simp [nxt,c1]
      rw [this]
  · refine callP (right_ok w at_ a n fl h k) ?_
    rintro v h' ⟨rfl,e⟩
    refine cnd (fun c1 => ?_) (fun c1 => ?_)
    · refine And.intro ?_ e
      have c1:(at_ % w != w - 1)=false:=by simpa using c1
      show Value.tuple #[.agg #[.int .i64 0,.int .i64 0],.bool false]=_
      have:nxt w n at_ 1=none:=by simp at c1;simp [nxt,c1]
      rw [this]
    · refine And.intro ?_ e
      have c1:(at_ % w != w - 1)=true:=by simpa using c1
      show Value.tuple #[.agg #[.int .i64 (at_+1),.int .i64 1],.bool true]=_
      have:nxt w n at_ 1=some (at_+1):=by simp at c1;simp [nxt,c1]
      rw [this]
  · refine callP (down_ok w at_ a n fl h k) ?_
    rintro v h' ⟨rfl,e⟩
    refine cnd (fun c1 => ?_) (fun c1 => ?_)
    · refine And.intro ?_ e
      have c1:(decide (at_+w < n))=false:=by simpa using c1
      show Value.tuple #[.agg #[.int .i64 0,.int .i64 0],.bool false]=_
      have:nxt w n at_ 2=none:=by simp at c1;simp [nxt,c1]
      rw [this]
    · refine And.intro ?_ e
      have c1:(decide (at_+w < n))=true:=by simpa using c1
      show Value.tuple #[.agg #[.int .i64 (at_+w),.int .i64 2],.bool true]=_
      have:nxt w n at_ 2=some (at_+w):=by simp at c1;simp [nxt,c1]
      rw [this]
  · refine callP (left_ok w at_ a n fl h k) ?_
    rintro v h' ⟨rfl,e⟩
    refine cnd (fun c1 => ?_) (fun c1 => ?_)
    · refine And.intro ?_ e
      have c1:(at_ % w != 0)=false:=by simpa using c1
      show Value.tuple #[.agg #[.int .i64 0,.int .i64 0],.bool false]=_
      have:nxt w n at_ 3=none:=by simp at c1;simp [nxt,c1]
      rw [this]
    · refine And.intro ?_ e
      have c1:(at_ % w != 0)=true:=by simpa using c1
      show Value.tuple #[.agg #[.int .i64 (at_ - 1),.int .i64 3],.bool true]=_
      have:nxt w n at_ 3=some (at_ - 1):=by simp at c1;simp [nxt,c1]
      rw [this]
def rD (i:Nat):Cl:=((i:Int),2)
def rL (w i:Nat):Cl:=((i:Int)*w+w - 1,3)
def rU (w hh i:Nat):Cl:=((hh:Int)*w - 1 - i,0)
def rR (w hh i:Nat):Cl:=(((hh:Int) - 1 - i)*w,1)
def til (F:Nat→Cl) (n:Nat):List Cl:=(List.range n).map F
theorem til_len (F:Nat→Cl) (n:Nat):(til F n).length=n:=by simp [til]
theorem til_succ (F:Nat→Cl) (n:Nat):til F (n+1)=til F n++[F n]:=by simp [til,List.range_succ]
def rays (w hh:Nat):List Cl:=til rD w++til (rL w) hh++til (rU w hh) w++til (rR w hh) hh
theorem cE2 (x:Cl):(cE x).length=2:=rfl
theorem app1 {h:Hp} {b e n:Nat} {l:List Cl} (r:Row h b e cE 2 l) (hl:l.length=n) (hlo:lo≤b) (hm:n+1≤Id.maxLen) (x:Cl) :
    Ap lo h 2 (.slice (.some ⟨b,0,.some e⟩) n 1) (cE x) 1 (.slice (.some ⟨b,0,.some (e+1)⟩) (n+1) 1) (h.set b (.cells ((l++[x]).flatMap cE) 2 (e+1))):=by
  subst hl
  have:=r.app (m:=[x]) (lo:=lo) cE2 (by decide) hlo hm
  simpa using this
theorem prod5 {i w:Nat} (h1:i≤5) (h2:w≤5):(0:Int)≤(i:Int)*w∧(i:Int)*w≤25:=by
  have:(i:Int)*w≤5*5:=Int.mul_le_mul (by omega) (by omega) (by omega) (by omega)
  exact ⟨Int.mul_nonneg (by omega) (by omega),by omega⟩
theorem one_cells {h:Hp} {cs:List Value} {sz:Nat} (hl:cs.length=sz):SlCells (h.push (.cells cs sz 0)) (.slice (some ⟨h.n,0,some 0⟩) 1 1) sz cs:=by
  refine ⟨cs,sz,by simp [Hp.push,epOf],?_⟩
  unfold sub?
  simp [hl]
  rw [← hl,List.take_length]
theorem sightRay1_ok (k a b:Int) (h:Hp):Tri X lo 169 [.int .i64 k,.agg #[.int .i64 a,.int .i64 b]] h fun v h'=>v = .agg #[.int .i64 a,.int .i64 b]∧Ext h h':=by
  refine enter tbOk mtOk ⟨[],[]⟩ 400 Tryz.func169 rfl rfl rfl fun hlo => ?_
  refine And.intro rfl (Ext.refl _)
theorem sidesRay_ok (w hh:Nat) (a:Option Addr) (n fl:Nat) (h:Hp) (hw:1≤w∧w≤5) (hh1:1≤hh∧hh≤5) (hn:(n:Int)=(w:Int)*hh):Tri X lo 168 [.agg #[.int .i64 (w:Int),.slice a n fl],.func (.func 169) #[] #[]] h fun v h'=>(∃ ad,v = .slice (some ad) (2*(w+hh)) 1∧Sls h' cE 2 (some ad) (rays w hh))∧Ext h h':=by
  refine enter tbOk mtOk ⟨[],[(1,[0,1,2,3,4,5],[0,1,0,4,15,31])]⟩ 400 Tryz.func168 rfl rfl rfl fun hlo => ?_
  refine And.intro (by kernel_rfl) ?_
  have hn2:(n:Int) < 2 ^ 31:=by
    have:(w:Int)*hh≤5*5:=Int.mul_le_mul (by omega) (by omega) (by omega) (by omega)
    omega
  refine callP (gridRows_ok w a n fl h (by omega) hn2) ?_
  rintro v h1 ⟨rfl,e1⟩
  have hd:(n:Int) / w=hh:=by rw [hn];exact Int.mul_ediv_cancel_left _ (by omega)
  rw [hd]
  have hd2:IntKind.i64.wrap (2*IntKind.i64.wrap ((w:Int)+hh))=2*((w:Int)+hh):=by
    rw [wr (n:=(w:Int)+hh) (by omega) (by omega),wr (by omega) (by omega)]
  refine And.intro Is.r ?_
  refine And.intro (by rw [hd2];unfold Id.maxLen;omega) ?_
  have hlo1:lo≤h1.n:=Nat.le_trans hlo e1.n
  refine loop (σ:=Nat) tbOk mtOk ⟨[],[(1,[0,1,2,3,4,5],[0,1,0,4,15,31])]⟩ (fun i=>[(22,.v (.int .i64 (i:Int))),(21,.v (.int .i64 (w:Int))),(7,.v (.slice (some ⟨h1.n,0,some i⟩) i 1)),(5,.v (.int .i64 (w:Int))),(6,.v (.int .i64 (hh:Int))),(1,.v (.func (.func 169) #[] #[]))]) (fun _=>[]) (fun i h'=>i≤w∧Ext h1 h'∧Row h' h1.n i cE 2 (til rD i)) (fun i=>w - i) 300 0 (fun _=>rfl) ⟨rfl,rfl,rfl,rfl,rfl,rfl,trivial⟩ trivial ⟨by omega,Ext.push _ _,Row.push (l:=[]) (enc:=cE) (e:=0) (sz:=2)⟩ (fun i h' hI again => ?_)
  obtain ⟨i1,i2,i3⟩:=hI
  refine cnd (fun c1 => ?_) (fun c1 => ?_)
  · have c1:i < w:=by simpa using c1
    refine callP (sightRay1_ok _ _ _ _) ?_
    rintro v h'' ⟨rfl,e⟩
    refine ⟨cE ((i:Int),2),one_cells rfl,_,_,app1 ((i3.ext e).ext (Ext.push _ _)) (til_len _ _) hlo1 (by unfold Id.maxLen;omega) _,?_⟩
    refine again (i+1) _ _ _ (by omega) ⟨?_,rfl,rfl,rfl,rfl,rfl,trivial⟩ trivial ⟨by omega,((i2.trans e).trans (Ext.push _ _)).set (Nat.le_refl _) _,?_⟩
    · show some (Sl.v (.int .i64 (IntKind.i64.wrap ((i:Int)+1))))=_
      rw [wr (by omega) (by omega)];rfl
    · rw [til_succ]
      exact Row.set (((i3.ext e).ext (Ext.push _ _)).lt)
  · have hi:w=i:=by simp at c1;omega
    subst hi
    have x1:=i2;have r1:=i3
    clear i1 i2 i3 c1 again
    refine loop (σ:=Nat) tbOk mtOk ⟨[],[(1,[0,1,2,3,4,5],[0,1,0,4,15,31])]⟩ (fun i=>[(36,.v (.int .i64 (i:Int))),(35,.v (.int .i64 (hh:Int))),(7,.v (.slice (some ⟨h1.n,0,some (w+i)⟩) (w+i) 1)),(5,.v (.int .i64 (w:Int))),(6,.v (.int .i64 (hh:Int))),(1,.v (.func (.func 169) #[] #[]))]) (fun _=>[]) (fun i h'=>i≤hh∧Ext h1 h'∧Row h' h1.n (w+i) cE 2 (til rD w++til (rL w) i)) (fun i=>hh - i) 300 0 (fun _=>rfl) ⟨rfl,rfl,rfl,rfl,rfl,rfl,trivial⟩ trivial ⟨by omega,x1,by simpa [til] using r1⟩ (fun i h' hI again => ?_)
    obtain ⟨i1,i2,i3⟩:=hI
    refine cnd (fun c1 => ?_) (fun c1 => ?_)
    · have c1:i < hh:=by simpa using c1
      have hx:rL w i=(IntKind.i64.wrap (IntKind.i64.wrap (IntKind.i64.wrap ((i:Int)*w)+w) - 1),3):=by
        have m1:(i:Int)*w≤4*5∨True:=Or.inr trivial
        have q1:=prod5 (i:=i) (w:=w) (by omega) (by omega)
        have q2:=prod5 (i:=hh) (w:=w) (by omega) (by omega)
        rw [wr (n:=(i:Int)*w) (by omega) (by omega),wr (n:=(i:Int)*w+w) (by omega) (by omega),wr (by omega) (by omega)];rfl
      refine callP (sightRay1_ok _ _ _ _) ?_
      rintro v h'' ⟨rfl,e⟩
      refine ⟨cE (IntKind.i64.wrap (IntKind.i64.wrap (IntKind.i64.wrap ((i:Int)*w)+w) - 1),3),one_cells rfl,_,_,app1 ((i3.ext e).ext (Ext.push _ _)) (by simp only [List.length_append,til_len]) hlo1 (by unfold Id.maxLen;omega) _,?_⟩
      refine again (i+1) _ _ _ (by omega) ⟨?_,rfl,rfl,rfl,rfl,rfl,trivial⟩ trivial ⟨by omega,((i2.trans e).trans (Ext.push _ _)).set (Nat.le_refl _) _,?_⟩
      · show some (Sl.v (.int .i64 (IntKind.i64.wrap ((i:Int)+1))))=_
        rw [wr (by omega) (by omega)];rfl
      · rw [til_succ,hx,← List.append_assoc]
        exact Row.set (((i3.ext e).ext (Ext.push _ _)).lt)
    · have hi:hh=i:=by simp at c1;omega
      subst hi
      have x2:=i2;have r2:=i3
      clear i1 i2 i3 c1 again
      refine loop (σ:=Nat) tbOk mtOk ⟨[],[(1,[0,1,2,3,4,5],[0,1,0,4,15,31])]⟩ (fun i=>[(55,.v (.int .i64 (i:Int))),(54,.v (.int .i64 (w:Int))),(7,.v (.slice (some ⟨h1.n,0,some (w+hh+i)⟩) (w+hh+i) 1)),(5,.v (.int .i64 (w:Int))),(6,.v (.int .i64 (hh:Int))),(1,.v (.func (.func 169) #[] #[]))]) (fun _=>[]) (fun i h'=>i≤w∧Ext h1 h'∧Row h' h1.n (w+hh+i) cE 2 (til rD w++til (rL w) hh++til (rU w hh) i)) (fun i=>w - i) 300 0 (fun _=>rfl) ⟨rfl,rfl,rfl,rfl,rfl,rfl,trivial⟩ trivial ⟨by omega,x2,by simpa [til] using r2⟩ (fun i h' hI again => ?_)
      obtain ⟨i1,i2,i3⟩:=hI
      refine cnd (fun c1 => ?_) (fun c1 => ?_)
      · have c1:i < w:=by simpa using c1
        have hx:rU w hh i=(IntKind.i64.wrap (IntKind.i64.wrap (IntKind.i64.wrap ((hh:Int)*w) - 1) - i),0):=by
          have m1:(i:Int)*w≤4*5∨True:=Or.inr trivial
          have q1:=prod5 (i:=i) (w:=w) (by omega) (by omega)
          have q2:=prod5 (i:=hh) (w:=w) (by omega) (by omega)
          rw [wr (n:=(hh:Int)*w) (by omega) (by omega),wr (n:=(hh:Int)*w - 1) (by omega) (by omega),wr (by omega) (by omega)];rfl
        refine callP (sightRay1_ok _ _ _ _) ?_
        rintro v h'' ⟨rfl,e⟩
        refine ⟨cE (IntKind.i64.wrap (IntKind.i64.wrap (IntKind.i64.wrap ((hh:Int)*w) - 1) - i),0),one_cells rfl,_,_,app1 ((i3.ext e).ext (Ext.push _ _)) (by simp only [List.length_append,til_len]) hlo1 (by unfold Id.maxLen;omega) _,?_⟩
        refine again (i+1) _ _ _ (by omega) ⟨?_,rfl,rfl,rfl,rfl,rfl,trivial⟩ trivial ⟨by omega,((i2.trans e).trans (Ext.push _ _)).set (Nat.le_refl _) _,?_⟩
        · show some (Sl.v (.int .i64 (IntKind.i64.wrap ((i:Int)+1))))=_
          rw [wr (by omega) (by omega)];rfl
        · rw [til_succ,hx,← List.append_assoc]
          exact Row.set (((i3.ext e).ext (Ext.push _ _)).lt)
      · have hi:w=i:=by simp at c1;omega
        subst hi
        have x3:=i2;have r3:=i3
        clear i1 i2 i3 c1 again
        refine loop (σ:=Nat) tbOk mtOk ⟨[],[(1,[0,1,2,3,4,5],[0,1,0,4,15,31])]⟩ (fun i=>[(74,.v (.int .i64 (i:Int))),(73,.v (.int .i64 (hh:Int))),(7,.v (.slice (some ⟨h1.n,0,some (w+hh+w+i)⟩) (w+hh+w+i) 1)),(5,.v (.int .i64 (w:Int))),(6,.v (.int .i64 (hh:Int))),(1,.v (.func (.func 169) #[] #[]))]) (fun _=>[]) (fun i h'=>i≤hh∧Ext h1 h'∧Row h' h1.n (w+hh+w+i) cE 2 (til rD w++til (rL w) hh++til (rU w hh) w++til (rR w hh) i)) (fun i=>hh - i) 300 0 (fun _=>rfl) ⟨rfl,rfl,rfl,rfl,rfl,rfl,trivial⟩ trivial ⟨by omega,x3,by simpa [til] using r3⟩ (fun i h' hI again => ?_)
        obtain ⟨i1,i2,i3⟩:=hI
        refine cnd (fun c1 => ?_) (fun c1 => ?_)
        · have c1:i < hh:=by simpa using c1
          have hx:rR w hh i=(IntKind.i64.wrap (IntKind.i64.wrap (IntKind.i64.wrap ((hh:Int) - 1) - i)*w),1):=by
            have m1:(i:Int)*w≤4*5∨True:=Or.inr trivial
            have q1:=prod5 (i:=i) (w:=w) (by omega) (by omega)
            have q2:=prod5 (i:=hh) (w:=w) (by omega) (by omega)
            have q3:=prod5 (i:=hh - 1 - i) (w:=w) (by omega) (by omega)
            rw [show ((hh - 1 - i:Nat):Int)=(hh:Int) - 1 - i from by omega] at q3
            rw [wr (n:=(hh:Int) - 1) (by omega) (by omega),wr (n:=(hh:Int) - 1 - i) (by omega) (by omega),wr (by omega) (by omega)];rfl
          refine callP (sightRay1_ok _ _ _ _) ?_
          rintro v h'' ⟨rfl,e⟩
          refine ⟨cE (IntKind.i64.wrap (IntKind.i64.wrap (IntKind.i64.wrap ((hh:Int) - 1) - i)*w),1),one_cells rfl,_,_,app1 ((i3.ext e).ext (Ext.push _ _)) (by simp only [List.length_append,til_len]) hlo1 (by unfold Id.maxLen;omega) _,?_⟩
          refine again (i+1) _ _ _ (by omega) ⟨?_,rfl,rfl,rfl,rfl,rfl,trivial⟩ trivial ⟨by omega,((i2.trans e).trans (Ext.push _ _)).set (Nat.le_refl _) _,?_⟩
          · show some (Sl.v (.int .i64 (IntKind.i64.wrap ((i:Int)+1))))=_
            rw [wr (by omega) (by omega)];rfl
          · rw [til_succ,hx,← List.append_assoc]
            exact Row.set (((i3.ext e).ext (Ext.push _ _)).lt)
        · have hi:hh=i:=by simp at c1;omega
          subst hi
          have x4:=i2;have r4:=i3
          clear i1 i2 i3 c1 again
          refine ⟨⟨⟨h1.n,0,some (w+hh+w+hh)⟩,?_,?_⟩,e1.trans x4⟩
          · rw [show w+hh+w+hh=2*(w+hh) from by omega]
          · exact r4.sls cE2
--END sides
end Go.Proofs.YtjpcfaddimlbdaaGreat.Id
namespace Go.Id
set_option linter.unusedVariables false
structure Bx (h:Hp) (b:Nat) (cs:List Value):Prop where
  lt:b < h.n
  g:h.g b = .cells cs 0 0
theorem setL_all:∀ (p c xs:List Value),c.length=xs.length→setL (p++c) p.length xs=p++xs
  | p,[],[],_=>rfl
  | p,y::c,x::xs,h=>by
    have:=setL_all (p++[x]) c xs (by simpa using h)
    unfold setL
    rw [show (p++y::c).set p.length x=(p++[x])++c from by simp,show p.length+1=(p++[x]).length from by simp,this];simp
  | p,[],_::_,h=>by simp at h
  | p,_::_,[],h=>by simp at h
theorem Bx.push {h:Hp} {cs:List Value}:Bx (h.push (.cells cs 0 0)) h.n cs:=⟨by simp [Hp.push],by simp [Hp.push]⟩
theorem Bx.ext {h h':Hp} {b:Nat} {cs:List Value} (x:Bx h b cs) (e:Ext h h'):Bx h' b cs:=⟨Nat.lt_of_lt_of_le x.lt e.n,(e.g _ x.lt).trans x.g⟩
theorem Bx.ld {h:Hp} {b n:Nat} {cs:List Value} (x:Bx h b cs) (hn:cs.length=n):Ld h ⟨b,0,none⟩ n cs:=by
  refine ⟨cs,0,x.g,?_⟩
  subst hn;unfold sub?;simp
theorem Bx.st {lo:Nat} {h:Hp} {b:Nat} {cs xs:List Value} (x:Bx h b cs) (hlo:lo≤b) (hl:cs.length=xs.length):St lo h ⟨b,0,none⟩ xs (h.set b (.cells xs 0 0)):=by
  refine ⟨hlo,x.lt,cs,0,x.g,by simp [hl],?_⟩
  have:=setL_all [] cs xs hl
  simp only [List.nil_append,List.length_nil] at this
  rw [this];rfl
theorem Bx.set {h:Hp} {b:Nat} {cs xs:List Value} (x:Bx h b cs):Bx (h.set b (.cells xs 0 0)) b xs:=⟨x.lt,by simp [Hp.set]⟩
theorem Bx.off {h:Hp} {b j:Nat} {o:Ob} {cs:List Value} (x:Bx h b cs) (hj:b≠j):Bx (h.set j o) b cs:=⟨x.lt,by simp only [Hp.set];rw [if_neg hj];exact x.g⟩
theorem Bx.ldF {h:Hp} {b i n:Nat} {cs ys:List Value} (x:Bx h b cs) (hi:sub? cs i n=some ys):Ld h (addA ⟨b,0,none⟩ i) n ys:=⟨cs,0,x.g,by simpa [addA] using hi⟩
theorem Bx.stF {lo:Nat} {h:Hp} {b i:Nat} {cs xs:List Value} (x:Bx h b cs) (hlo:lo≤b) (hi:i+xs.length≤cs.length):St lo h (addA ⟨b,0,none⟩ i) xs (h.set b (.cells (setL cs i xs) 0 0)) :=
  ⟨hlo,x.lt,cs,0,x.g,by simpa [addA] using hi,by simp [addA];rfl⟩
theorem cut0 {K:Value→Prop} {a:Addr} {r:Int} {sz n:Nat} (hr:r=n) (h:K (.slice (some a) n 1)):Cut 0 r a sz 1 K:=by
  subst hr
  unfold Cut
  by_cases e:n=0
  · subst e;exact .inr ⟨rfl,h⟩
  · refine .inl ⟨by omega,?_⟩
    have:(Value.slice (some (addA a ((0:Int).toNat*sz))) ((n:Int) - 0).toNat (if (0:Int)=0∧1=1 then 1 else 2)) = .slice (some a) n 1:=by
      rw [if_pos ⟨rfl,rfl⟩]
      unfold addA
      simp
    rw [this];exact h
structure Ext1 (j:Nat) (h h':Hp):Prop where
  n:h.n≤h'.n
  g:∀ i,i < h.n→i≠j→h'.g i=h.g i
theorem Ext.one {h h':Hp} (e:Ext h h') (j:Nat):Ext1 j h h':=⟨e.n,fun i hi _=>e.g i hi⟩
theorem Ext1.trans {j:Nat} {h h' h'':Hp} (a:Ext1 j h h') (b:Ext1 j h' h''):Ext1 j h h'':=⟨Nat.le_trans a.n b.n,fun i hi hj=>(b.g i (Nat.lt_of_lt_of_le hi a.n) hj).trans (a.g i hi hj)⟩
theorem Ext1.set {j k:Nat} {h h':Hp} (a:Ext1 j h h') (o:Ob) (hk:k=j∨h.n≤k):Ext1 j h (h'.set k o):=⟨a.n,fun i hi hj=>by simp only [Hp.set];rw [if_neg (by omega)];exact a.g i hi hj⟩
theorem Bx.ext1 {j:Nat} {h h':Hp} {b:Nat} {cs:List Value} (x:Bx h b cs) (e:Ext1 j h h') (hb:b≠j):Bx h' b cs:=⟨Nat.lt_of_lt_of_le x.lt e.n,(e.g _ x.lt hb).trans x.g⟩
theorem Row.ext1 {α:Type} {j:Nat} {h h':Hp} {b e:Nat} {enc:α→List Value} {sz:Nat} {l:List α} (r:Row h b e enc sz l) (x:Ext1 j h h') (hb:b≠j):Row h' b e enc sz l:=⟨Nat.lt_of_lt_of_le r.lt x.n,by rw [x.g _ r.lt hb];exact r.g⟩
theorem Ext1.out {j:Nat} {h h' h'':Hp} (b:Ext1 j h' h'') (a:Ext h h') (hj:h.n≤j):Ext h h'':=⟨Nat.le_trans a.n b.n,fun i hi=>(b.g i (Nat.lt_of_lt_of_le hi a.n) (by omega)).trans (a.g i hi)⟩
section
variable {α:Type}
structure RowP (h:Hp) (b e:Nat) (enc:α→List Value) (sz:Nat) (l:List α):Prop where
  lt:b < h.n
  g:∃ c,h.g b = .cells c sz e∧l.length*sz≤c.length∧c.take (l.length*sz)=l.flatMap enc
theorem Row.p {h:Hp} {b e:Nat} {enc:α→List Value} {sz:Nat} {l:List α} (r:Row h b e enc sz l) (he:∀ x,(enc x).length=sz):RowP h b e enc sz l :=
  ⟨r.lt,_,r.g,by rw [flat_len he];exact Nat.le_refl _,by rw [← flat_len he l,List.take_length]⟩
theorem RowP.sls {h:Hp} {b e:Nat} {enc:α→List Value} {sz:Nat} {l:List α} (r:RowP h b e enc sz l):Sls h enc sz (.some ⟨b,0,.some e⟩) l:=by
  obtain ⟨c,h1,h2,h3⟩:=r.g
  refine ⟨r.lt,c,sz,h1,?_⟩
  unfold sub?
  rw [if_pos (by simpa using h2)]
  simp only [List.drop_zero];rw [h3]
theorem RowP.cut {h:Hp} {b e:Nat} {enc:α→List Value} {sz:Nat} {l m:List α} (r:RowP h b e enc sz (l++m)) (he:∀ x,(enc x).length=sz):RowP h b e enc sz l:=by
  obtain ⟨c,h1,h2,h3⟩:=r.g
  rw [List.length_append,Nat.add_mul] at h2 h3
  refine ⟨r.lt,c,h1,by omega,?_⟩
  have:(c.take (l.length*sz+m.length*sz)).take (l.length*sz)=((l++m).flatMap enc).take (l.length*sz):=by rw [h3]
  rw [List.take_take,Nat.min_eq_left (by omega)] at this
  rw [this,List.flatMap_append,← flat_len he l,List.take_left]
theorem RowP.ext {h h':Hp} {b e:Nat} {enc:α→List Value} {sz:Nat} {l:List α} (r:RowP h b e enc sz l) (x:Ext h h'):RowP h' b e enc sz l:=⟨Nat.lt_of_lt_of_le r.lt x.n,by rw [x.g _ r.lt];exact r.g⟩
theorem RowP.off {h:Hp} {j:Nat} {o:Ob} {b e:Nat} {enc:α→List Value} {sz:Nat} {l:List α} (r:RowP h b e enc sz l) (hj:b≠j):RowP (h.set j o) b e enc sz l:=⟨r.lt,by simp only [Hp.set];rw [if_neg hj];exact r.g⟩
theorem RowP.app {lo:Nat} {h:Hp} {b e:Nat} {enc:α→List Value} {sz:Nat} {l m:List α} (r:RowP h b e enc sz l) (he:∀ x,(enc x).length=sz) (hz:sz≠0) (hlo:lo≤b) (hm:l.length+m.length≤maxLen) :
    Ap lo h sz (.slice (.some ⟨b,0,.some e⟩) l.length 1) (m.flatMap enc) m.length (.slice (.some ⟨b,0,.some (e+1)⟩) (l.length+m.length) 1) (h.set b (.cells ((l++m).flatMap enc) sz (e+1))):=by
  obtain ⟨c,h1,h2,h3⟩:=r.g
  refine ⟨hz,flat_len he m,hm,rfl,hlo,r.lt,c,h1,h2,rfl,?_⟩
  rw [h3,List.flatMap_append];rfl
def gv:Option (Nat×Nat)→Nat→Value
  | none,_ => .slice none 0 0
  | some (b,e),n => .slice (some ⟨b,0,some e⟩) n 1
theorem gv_cells (o:Option (Nat×Nat)) (n:Nat):cellsL (gv o n)=[gv o n]:=by cases o<;>rfl
def Gw (lo:Nat) (h:Hp) (enc:α→List Value) (sz:Nat) (o:Option (Nat×Nat)) (l:List α):Prop :=
  match o with
  | none=>l=[]
  | some (b,e)=>lo≤b∧RowP h b e enc sz l
def isB (o:Option (Nat×Nat)) (i:Nat):Prop:=∃ e,o=some (i,e)
theorem Gw.keep {lo:Nat} {h h':Hp} {enc:α→List Value} {sz:Nat} {o:Option (Nat×Nat)} {l:List α} (g:Gw lo h enc sz o l) (hn:h.n≤h'.n) (hg:∀ i,i < h.n→isB o i→h'.g i=h.g i):Gw lo h' enc sz o l:=by
  match o,g with
  | none,g=>exact g
  | some (b,e),⟨g1,g2⟩=>exact ⟨g1,Nat.lt_of_lt_of_le g2.lt hn,by rw [hg b g2.lt ⟨e,rfl⟩];exact g2.g⟩
theorem Gw.lt {lo:Nat} {h:Hp} {enc:α→List Value} {sz:Nat} {o:Option (Nat×Nat)} {l:List α} (g:Gw lo h enc sz o l) {i:Nat} (hi:isB o i):i < h.n∧lo≤i:=by
  obtain ⟨e,rfl⟩:=hi
  exact ⟨g.2.lt,g.1⟩
theorem Gw.ext {lo:Nat} {h h':Hp} {enc:α→List Value} {sz:Nat} {o:Option (Nat×Nat)} {l:List α} (g:Gw lo h enc sz o l) (x:Ext h h'):Gw lo h' enc sz o l:=g.keep x.n fun i hi _=>x.g i hi
theorem Gw.off {lo:Nat} {h:Hp} {enc:α→List Value} {sz:Nat} {o:Option (Nat×Nat)} {l:List α} (g:Gw lo h enc sz o l) {j:Nat} (hj:¬isB o j) (x:Ob):Gw lo (h.set j x) enc sz o l:=g.keep (Nat.le_refl _) fun i hi hb=>by
  simp only [Hp.set];rw [if_neg];intro e;subst e;exact hj hb
theorem Gw.up {lo lo':Nat} {h:Hp} {enc:α→List Value} {sz:Nat} {o:Option (Nat×Nat)} {l:List α} (g:Gw lo h enc sz o l) (hl:∀ i,isB o i→lo'≤i):Gw lo' h enc sz o l:=by
  match o,g with
  | none,g=>exact g
  | some (b,e),g=>exact ⟨hl b ⟨e,rfl⟩,g.2⟩
structure Grow (o o':Option (Nat×Nat)) (h h':Hp):Prop where
  n:h.n≤h'.n
  g:∀ i,i < h.n→¬isB o i→h'.g i=h.g i
  b:∀ i,isB o' i→isB o i∨h.n≤i
theorem Gw.app {lo:Nat} {h:Hp} {enc:α→List Value} {sz:Nat} {o:Option (Nat×Nat)} {l:List α} (g:Gw lo h enc sz o l) (he:∀ x,(enc x).length=sz) (hz:sz≠0) (hm:l.length+1≤maxLen) (hlo:lo≤h.n) (x:α) :
    ∃ b e h',Ap lo h sz (gv o l.length) (enc x) 1 (gv (some (b,e)) (l++[x]).length) h'∧Gw lo h' enc sz (some (b,e)) (l++[x])∧Grow o (some (b,e)) h h':=by
  match o,g with
  | none,g =>
    subst g
    refine ⟨h.n,0,h.push (.cells (enc x) sz 0),⟨hz,by rw [he];omega,?_⟩,⟨hlo,?_⟩,⟨by simp [Hp.push],fun i hi _=>by simp [Hp.push];omega,fun i hi => .inr (by obtain ⟨e,hh⟩:=hi;cases hh;exact Nat.le_refl _)⟩⟩
    · show (if 1=0 then _ else _)
      rw [if_neg (by decide)]
      exact ⟨by simpa using hm,rfl,rfl⟩
    · have:=(Row.push (h:=h) (e:=0) (enc:=enc) (sz:=sz) (l:=[x])).p he
      simpa using this
  | some (b,e),⟨g1,g2⟩ =>
    refine ⟨b,e+1,h.set b (.cells ((l++[x]).flatMap enc) sz (e+1)),?_,⟨g1,(Row.set g2.lt).p he⟩,⟨Nat.le_refl _,fun i hi hb => ?_,fun i hi => .inl ?_⟩⟩
    · have:=g2.app (m:=[x]) (lo:=lo) he hz g1 hm
      simpa [gv] using this
    · simp only [Hp.set];rw [if_neg];intro e';subst e';exact hb ⟨e,rfl⟩
    · obtain ⟨e',hh⟩:=hi;cases hh;exact ⟨e,rfl⟩
end
end Go.Id
namespace Go.Proofs.YtjpcfaddimlbdaaGreat.Id
open Go.Id
open Go.Proofs
set_option linter.unusedVariables false
set_option maxRecDepth 100000
variable {X:Ctx Tryz.prog} {lo:Nat}
theorem gOk_nat {g:Gd} (h:gOk g=true):∃ w hh:Nat,g.w=w∧g.hi=hh∧(1≤w∧w≤5)∧(1≤hh∧hh≤5)∧(g.cs.length:Int)=(w:Int)*hh:=by
  obtain ⟨h1,h2,h3⟩:=hi_ok h
  obtain ⟨g1,g2,_⟩:=gOk_iff.1 h
  refine ⟨g.w.toNat,g.hi.toNat,by omega,by omega,by omega,by omega,?_⟩
  rw [← h3,Int.toNat_of_nonneg (by omega),Int.toNat_of_nonneg (by omega)]
def sideRays (g:Gd):List Cl:=rays g.w.toNat g.hi.toNat
theorem sideRays_len {g:Gd} (h:gOk g=true):((sideRays g).length:Int)=many g:=by
  obtain ⟨w,hh,h1,h2,h3,h4,h5⟩:=gOk_nat h
  unfold sideRays many rays
  simp only [h1,h2,Int.toNat_natCast,List.length_append,til_len]
  omega
def sightRay (g:Gd) (k:Int):Option Cl:=if gOk g=true∧0≤k∧k < many g then (sideRays g)[k.toNat]? else none
theorem SightRay_ok (g:Gd) (k:Int) (a:Option Addr) (fl:Nat) (h:Hp) (hs:Sls h cE 2 a g.cs) (hn:(g.cs.length:Int) < 2 ^ 31):Tri X lo 150 [.agg #[.int .i64 g.w,.slice a g.cs.length fl],.int .i64 k] h fun v h'=>v=(match sightRay g k with | some r => .tuple #[.agg #[.int .i64 r.1,.int .i64 r.2],.bool true] | none => .tuple #[.agg #[.int .i64 0,.int .i64 0],.bool false])∧Ext h h':=by
  refine enter tbOk mtOk ⟨[],[]⟩ 400 Tryz.func150 rfl rfl rfl fun hlo => ?_
  refine cnd (fun c1 => ?_) (fun c1 => ?_)
  · have c1:k < 0:=by simpa using c1
    refine cndT ?_
    refine And.intro ?_ (Ext.refl _)
    have hr:sightRay g k=none:=if_neg (by omega)
    rw [hr];rfl
  · have c1:0≤k:=by simpa using c1
    refine callP (SightMany_ok g a fl h hs hn) ?_
    rintro v h1 ⟨rfl,e1⟩
    refine cnd (fun c2 => ?_) (fun c2 => ?_)
    · refine And.intro ?_ e1
      have hr:sightRay g k=none:=if_neg (fun q=>by
        rw [q.1] at c2
        simp at c2;omega)
      rw [hr];rfl
    · have hg:gOk g=true:=by
        cases hb:gOk g with
        | true=>rfl
        | false=>rw [hb] at c2;simp at c2;omega
      rw [hg] at c2
      have c2:k < many g:=by simpa using c2
      obtain ⟨w,hh,g1,g2,g3,g4,g5⟩:=gOk_nat hg
      rw [g1]
      refine callP (sidesRay_ok w hh a _ fl h1 g3 g4 g5) ?_
      rintro v h2 ⟨⟨ad,rfl,hs2⟩,e2⟩
      have hm:many g=2*((w:Int)+hh):=by unfold many;rw [g1,g2]
      have hl:(rays w hh).length=2*(w+hh):=by simp [rays,til_len];omega
      have hk:k.toNat < (rays w hh).length:=by rw [hl];omega
      refine And.intro ⟨c1,by omega⟩ ?_
      refine ⟨_,hs2.ld cE2 hk,?_⟩
      refine And.intro ?_ (e1.trans e2)
      have hr:sightRay g k=some ((rays w hh)[k.toNat]):=by
        unfold sightRay sideRays
        rw [if_pos ⟨hg,c1,c2⟩,g1,g2,Int.toNat_natCast,Int.toNat_natCast]
        exact List.getElem?_eq_getElem hk
      rw [hr];rfl
def lastIx (l:List Cl) (x:Cl):Int:=(l.foldl (fun (p:Nat×Int) y=>(p.1+1,if y=x then (p.1:Int) else p.2)) (0,-1)).2
theorem lastIx_n (l:List Cl) (x:Cl):(l.foldl (fun (p:Nat×Int) y=>(p.1+1,if y=x then (p.1:Int) else p.2)) (0,-1)).1=l.length:=by
  have:∀ (l:List Cl) (p:Nat×Int),(l.foldl (fun (p:Nat×Int) y=>(p.1+1,if y=x then (p.1:Int) else p.2)) p).1=p.1+l.length:=by
    intro l
    induction l with
    | nil=>intro p;rfl
    | cons y l ih=>intro p;rw [List.foldl_cons,ih];simp;omega
  rw [this];simp
theorem lastIx_snoc (l:List Cl) (x y:Cl):lastIx (l++[y]) x=if y=x then (l.length:Int) else lastIx l x:=by
  have:=lastIx_n l x
  unfold lastIx
  rw [List.foldl_append,List.foldl_cons,List.foldl_nil,this]
theorem SightOf1_ok (k a b a' b' f:Int) (p q:Nat) (h:Hp) (hp:Bx h p [.int .i64 a',.int .i64 b']) (hq:Bx h q [.int .i64 f]) (hlo:lo≤q) (hpq:p≠q):Tri X lo 207 [.int .i64 k,.agg #[.int .i64 a,.int .i64 b],.pointer (some ⟨p,0,none⟩),.pointer (some ⟨q,0,none⟩)] h fun v h'=>v = .bool (decide ((a,b)=(a',b')))∧Ext1 q h h'∧Bx h' q [.int .i64 (if (a,b)=(a',b') then k else f)]:=by
  refine enter tbOk mtOk ⟨[],[]⟩ 400 Tryz.func207 rfl rfl rfl fun hlo' => ?_
  refine ⟨_,hp.ld rfl,?_⟩
  refine cnd (fun c1 => ?_) (fun c1 => ?_)
  · have c1:a=a'∧b=b':=by simpa using c1
    obtain ⟨rfl,rfl⟩:=c1
    refine ⟨_,hq.st hlo rfl,?_⟩
    refine ⟨_,(hp.off hpq).ld rfl,?_⟩
    refine And.intro ?_ ⟨((Ext.refl h).one q).set _ (.inl rfl),by rw [if_pos rfl];exact hq.set⟩
    show Value.bool (a == a&&(b == b&&true))=_
    simp
  · have c0:=c1
    have c1:¬ (a,b)=(a',b'):=by simpa using c1
    refine ⟨_,hp.ld rfl,?_⟩
    refine And.intro ?_ ⟨(Ext.refl h).one q,by rw [if_neg c1];exact hq⟩
    show Value.bool (a == a'&&(b == b'&&true))=_
    rw [decide_eq_false c1];rw [c0]
def sightOf (g:Gd) (at_ d:Int):Int:=if gOk g=true∧0≤d∧d≤3 then lastIx (sideRays g) (at_,(d+2) % 4) else -1
--BEGIN sidesb
def bE (b:Bool):List Value:=[.bool b]
theorem rowMap {h:Hp} {b e:Nat} {f:Cl→Bool} {l:List Cl} {y:Cl} (r:Row h b e bE 1 (l.map f++[f y])):Row h b e bE 1 ((l++[y]).map f):=by rw [List.map_append];exact r
theorem app1B {h:Hp} {b e n:Nat} {l:List Bool} (r:Row h b e bE 1 l) (hl:l.length=n) (hlo:lo≤b) (hm:n+1≤Id.maxLen) (x:Bool) :
    Ap lo h 1 (.slice (.some ⟨b,0,.some e⟩) n 1) (bE x) 1 (.slice (.some ⟨b,0,.some (e+1)⟩) (n+1) 1) (h.set b (.cells ((l++[x]).flatMap bE) 1 (e+1))):=by
  subst hl
  have:=r.app (m:=[x]) (lo:=lo) (fun _=>rfl) (by decide) hlo hm
  simpa using this
theorem sidesBool_ok (w hh:Nat) (a:Option Addr) (n fl:Nat) (a' b':Int) (p q:Nat) (h:Hp) (hw:1≤w∧w≤5) (hh1:1≤hh∧hh≤5) (hn:(n:Int)=(w:Int)*hh) (hp:Bx h p [.int .i64 a',.int .i64 b']) (hq:Bx h q [.int .i64 (-1)]) (hlq:lo≤q) (hpq:p≠q):Tri X lo 206 [.agg #[.int .i64 (w:Int),.slice a n fl],.func (.func 207) #[] #[.pointer (some ⟨p,0,none⟩),.pointer (some ⟨q,0,none⟩)]] h fun v h'=>Ext1 q h h'∧Bx h' q [.int .i64 (lastIx (rays w hh) (a',b'))]:=by
  refine enter tbOk mtOk ⟨[],[(1,[0,1,2,3,4,5],[0,1,0,4,15,31])]⟩ 400 Tryz.func206 rfl rfl rfl fun hlo => ?_
  refine And.intro (by kernel_rfl) ?_
  have hn2:(n:Int) < 2 ^ 31:=by
    have:(w:Int)*hh≤5*5:=Int.mul_le_mul (by omega) (by omega) (by omega) (by omega)
    omega
  refine callP (gridRows_ok w a n fl h (by omega) hn2) ?_
  rintro v h1 ⟨rfl,e1⟩
  have hd:(n:Int) / w=hh:=by rw [hn];exact Int.mul_ediv_cancel_left _ (by omega)
  rw [hd]
  have hd2:IntKind.i64.wrap (2*IntKind.i64.wrap ((w:Int)+hh))=2*((w:Int)+hh):=by
    rw [wr (n:=(w:Int)+hh) (by omega) (by omega),wr (by omega) (by omega)]
  refine And.intro Is.r ?_
  refine And.intro (by rw [hd2];unfold Id.maxLen;omega) ?_
  have hlo1:lo≤h1.n:=Nat.le_trans hlo e1.n
  have hq1:=hq.ext e1
  have hp1:=hp.ext e1
  have hqn:q≠h1.n:=Nat.ne_of_lt hq1.lt
  refine loop (σ:=Nat) tbOk mtOk ⟨[],[(1,[0,1,2,3,4,5],[0,1,0,4,15,31])]⟩ (fun i=>[(22,.v (.int .i64 (i:Int))),(21,.v (.int .i64 (w:Int))),(7,.v (.slice (some ⟨h1.n,0,some i⟩) i 1)),(5,.v (.int .i64 (w:Int))),(6,.v (.int .i64 (hh:Int))),(1,.v (.func (.func 207) #[] #[.pointer (some ⟨p,0,none⟩),.pointer (some ⟨q,0,none⟩)]))]) (fun _=>[]) (fun i h'=>i≤w∧Ext1 q h1 h'∧Row h' h1.n i bE 1 ((til rD i).map fun y=>decide (y=(a',b')))∧Bx h' q [.int .i64 (lastIx (til rD i) (a',b'))]) (fun i=>w - i) 300 0 (fun _=>rfl) ⟨rfl,rfl,rfl,rfl,rfl,rfl,trivial⟩ trivial ⟨by omega,(Ext.push _ _).one q,Row.push (l:=[]) (enc:=bE) (e:=0) (sz:=1),hq1.ext (Ext.push _ _)⟩ (fun i h' hI again => ?_)
  obtain ⟨i1,i2,i3,i4⟩:=hI
  refine cnd (fun c1 => ?_) (fun c1 => ?_)
  · have c1:i < w:=by simpa using c1
    refine callP (SightOf1_ok _ _ _ _ _ _ p q _ (hp1.ext1 i2 hpq) i4 hlq hpq) ?_
    rintro v h'' ⟨rfl,e,b⟩
    refine ⟨bE (decide ((((i:Int):Int),(2:Int))=(a',b'))),one_cells rfl,_,_,app1B ((i3.ext1 e (Ne.symm hqn)).ext (Ext.push _ _)) (by simp [til_len]) hlo1 (by unfold Id.maxLen;omega) _,?_⟩
    refine again (i+1) _ _ _ (by omega) ⟨?_,rfl,rfl,rfl,rfl,rfl,trivial⟩ trivial ⟨by omega,((i2.trans e).trans ((Ext.push _ _).one q)).set _ (.inr (Nat.le_refl _)),?_,?_⟩
    · show some (Sl.v (.int .i64 (IntKind.i64.wrap ((i:Int)+1))))=_
      rw [wr (by omega) (by omega)];rfl
    · rw [til_succ]
      refine rowMap ?_
      exact Row.set (((i3.ext1 e (Ne.symm hqn)).ext (Ext.push _ _)).lt)
    · rw [til_succ,lastIx_snoc]
      refine Bx.off (Bx.ext ?_ (Ext.push _ _)) hqn
      rw [show (((til rD i).length:Nat):Int)=(i:Nat) from by simp only [til_len]]
      exact b
  · have hi:w=i:=by simp at c1;omega
    subst hi
    have x1:=i2;have r1:=i3;have b1:=i4
    clear i1 i2 i3 i4 c1 again
    refine loop (σ:=Nat) tbOk mtOk ⟨[],[(1,[0,1,2,3,4,5],[0,1,0,4,15,31])]⟩ (fun i=>[(36,.v (.int .i64 (i:Int))),(35,.v (.int .i64 (hh:Int))),(7,.v (.slice (some ⟨h1.n,0,some (w+i)⟩) (w+i) 1)),(5,.v (.int .i64 (w:Int))),(6,.v (.int .i64 (hh:Int))),(1,.v (.func (.func 207) #[] #[.pointer (some ⟨p,0,none⟩),.pointer (some ⟨q,0,none⟩)]))]) (fun _=>[]) (fun i h'=>i≤hh∧Ext1 q h1 h'∧Row h' h1.n (w+i) bE 1 ((til rD w++til (rL w) i).map fun y=>decide (y=(a',b')))∧Bx h' q [.int .i64 (lastIx (til rD w++til (rL w) i) (a',b'))]) (fun i=>hh - i) 300 0 (fun _=>rfl) ⟨rfl,rfl,rfl,rfl,rfl,rfl,trivial⟩ trivial ⟨by omega,x1,by simpa [til] using r1,by simpa [til] using b1⟩ (fun i h' hI again => ?_)
    obtain ⟨i1,i2,i3,i4⟩:=hI
    refine cnd (fun c1 => ?_) (fun c1 => ?_)
    · have c1:i < hh:=by simpa using c1
      have hx:rL w i=(IntKind.i64.wrap (IntKind.i64.wrap (IntKind.i64.wrap ((i:Int)*w)+w) - 1),3):=by
        have q1:=prod5 (i:=i) (w:=w) (by omega) (by omega)
        have q2:=prod5 (i:=hh) (w:=w) (by omega) (by omega)
        rw [wr (n:=(i:Int)*w) (by omega) (by omega),wr (n:=(i:Int)*w+w) (by omega) (by omega),wr (by omega) (by omega)];rfl
      refine callP (SightOf1_ok _ _ _ _ _ _ p q _ (hp1.ext1 i2 hpq) i4 hlq hpq) ?_
      rintro v h'' ⟨rfl,e,b⟩
      refine ⟨bE (decide (((IntKind.i64.wrap (IntKind.i64.wrap (IntKind.i64.wrap ((i:Int)*w)+w) - 1):Int),(3:Int))=(a',b'))),one_cells rfl,_,_,app1B ((i3.ext1 e (Ne.symm hqn)).ext (Ext.push _ _)) (by simp only [List.length_map,List.length_append,til_len]) hlo1 (by unfold Id.maxLen;omega) _,?_⟩
      refine again (i+1) _ _ _ (by omega) ⟨?_,rfl,rfl,rfl,rfl,rfl,trivial⟩ trivial ⟨by omega,((i2.trans e).trans ((Ext.push _ _).one q)).set _ (.inr (Nat.le_refl _)),?_,?_⟩
      · show some (Sl.v (.int .i64 (IntKind.i64.wrap ((i:Int)+1))))=_
        rw [wr (by omega) (by omega)];rfl
      · rw [til_succ,hx,← List.append_assoc]
        refine rowMap ?_
        exact Row.set (((i3.ext1 e (Ne.symm hqn)).ext (Ext.push _ _)).lt)
      · rw [til_succ,hx,← List.append_assoc,lastIx_snoc]
        refine Bx.off (Bx.ext ?_ (Ext.push _ _)) hqn
        rw [show (((til rD w++til (rL w) i).length:Nat):Int)=((w+i):Nat) from by simp only [List.length_append,til_len]]
        exact b
    · have hi:hh=i:=by simp at c1;omega
      subst hi
      have x2:=i2;have r2:=i3;have b2:=i4
      clear i1 i2 i3 i4 c1 again
      refine loop (σ:=Nat) tbOk mtOk ⟨[],[(1,[0,1,2,3,4,5],[0,1,0,4,15,31])]⟩ (fun i=>[(55,.v (.int .i64 (i:Int))),(54,.v (.int .i64 (w:Int))),(7,.v (.slice (some ⟨h1.n,0,some (w+hh+i)⟩) (w+hh+i) 1)),(5,.v (.int .i64 (w:Int))),(6,.v (.int .i64 (hh:Int))),(1,.v (.func (.func 207) #[] #[.pointer (some ⟨p,0,none⟩),.pointer (some ⟨q,0,none⟩)]))]) (fun _=>[]) (fun i h'=>i≤w∧Ext1 q h1 h'∧Row h' h1.n (w+hh+i) bE 1 ((til rD w++til (rL w) hh++til (rU w hh) i).map fun y=>decide (y=(a',b')))∧Bx h' q [.int .i64 (lastIx (til rD w++til (rL w) hh++til (rU w hh) i) (a',b'))]) (fun i=>w - i) 300 0 (fun _=>rfl) ⟨rfl,rfl,rfl,rfl,rfl,rfl,trivial⟩ trivial ⟨by omega,x2,by simpa [til] using r2,by simpa [til] using b2⟩ (fun i h' hI again => ?_)
      obtain ⟨i1,i2,i3,i4⟩:=hI
      refine cnd (fun c1 => ?_) (fun c1 => ?_)
      · have c1:i < w:=by simpa using c1
        have hx:rU w hh i=(IntKind.i64.wrap (IntKind.i64.wrap (IntKind.i64.wrap ((hh:Int)*w) - 1) - i),0):=by
          have q1:=prod5 (i:=i) (w:=w) (by omega) (by omega)
          have q2:=prod5 (i:=hh) (w:=w) (by omega) (by omega)
          rw [wr (n:=(hh:Int)*w) (by omega) (by omega),wr (n:=(hh:Int)*w - 1) (by omega) (by omega),wr (by omega) (by omega)];rfl
        refine callP (SightOf1_ok _ _ _ _ _ _ p q _ (hp1.ext1 i2 hpq) i4 hlq hpq) ?_
        rintro v h'' ⟨rfl,e,b⟩
        refine ⟨bE (decide (((IntKind.i64.wrap (IntKind.i64.wrap (IntKind.i64.wrap ((hh:Int)*w) - 1) - i):Int),(0:Int))=(a',b'))),one_cells rfl,_,_,app1B ((i3.ext1 e (Ne.symm hqn)).ext (Ext.push _ _)) (by simp only [List.length_map,List.length_append,til_len]) hlo1 (by unfold Id.maxLen;omega) _,?_⟩
        refine again (i+1) _ _ _ (by omega) ⟨?_,rfl,rfl,rfl,rfl,rfl,trivial⟩ trivial ⟨by omega,((i2.trans e).trans ((Ext.push _ _).one q)).set _ (.inr (Nat.le_refl _)),?_,?_⟩
        · show some (Sl.v (.int .i64 (IntKind.i64.wrap ((i:Int)+1))))=_
          rw [wr (by omega) (by omega)];rfl
        · rw [til_succ,hx,← List.append_assoc]
          refine rowMap ?_
          exact Row.set (((i3.ext1 e (Ne.symm hqn)).ext (Ext.push _ _)).lt)
        · rw [til_succ,hx,← List.append_assoc,lastIx_snoc]
          refine Bx.off (Bx.ext ?_ (Ext.push _ _)) hqn
          rw [show (((til rD w++til (rL w) hh++til (rU w hh) i).length:Nat):Int)=((w+hh+i):Nat) from by simp only [List.length_append,til_len]]
          exact b
      · have hi:w=i:=by simp at c1;omega
        subst hi
        have x3:=i2;have r3:=i3;have b3:=i4
        clear i1 i2 i3 i4 c1 again
        refine loop (σ:=Nat) tbOk mtOk ⟨[],[(1,[0,1,2,3,4,5],[0,1,0,4,15,31])]⟩ (fun i=>[(74,.v (.int .i64 (i:Int))),(73,.v (.int .i64 (hh:Int))),(7,.v (.slice (some ⟨h1.n,0,some (w+hh+w+i)⟩) (w+hh+w+i) 1)),(5,.v (.int .i64 (w:Int))),(6,.v (.int .i64 (hh:Int))),(1,.v (.func (.func 207) #[] #[.pointer (some ⟨p,0,none⟩),.pointer (some ⟨q,0,none⟩)]))]) (fun _=>[]) (fun i h'=>i≤hh∧Ext1 q h1 h'∧Row h' h1.n (w+hh+w+i) bE 1 ((til rD w++til (rL w) hh++til (rU w hh) w++til (rR w hh) i).map fun y=>decide (y=(a',b')))∧Bx h' q [.int .i64 (lastIx (til rD w++til (rL w) hh++til (rU w hh) w++til (rR w hh) i) (a',b'))]) (fun i=>hh - i) 300 0 (fun _=>rfl) ⟨rfl,rfl,rfl,rfl,rfl,rfl,trivial⟩ trivial ⟨by omega,x3,by simpa [til] using r3,by simpa [til] using b3⟩ (fun i h' hI again => ?_)
        obtain ⟨i1,i2,i3,i4⟩:=hI
        refine cnd (fun c1 => ?_) (fun c1 => ?_)
        · have c1:i < hh:=by simpa using c1
          have hx:rR w hh i=(IntKind.i64.wrap (IntKind.i64.wrap (IntKind.i64.wrap ((hh:Int) - 1) - i)*w),1):=by
            have q1:=prod5 (i:=i) (w:=w) (by omega) (by omega)
            have q2:=prod5 (i:=hh) (w:=w) (by omega) (by omega)
            have q3:=prod5 (i:=hh - 1 - i) (w:=w) (by omega) (by omega)
            rw [show ((hh - 1 - i:Nat):Int)=(hh:Int) - 1 - i from by omega] at q3
            rw [wr (n:=(hh:Int) - 1) (by omega) (by omega),wr (n:=(hh:Int) - 1 - i) (by omega) (by omega),wr (by omega) (by omega)];rfl
          refine callP (SightOf1_ok _ _ _ _ _ _ p q _ (hp1.ext1 i2 hpq) i4 hlq hpq) ?_
          rintro v h'' ⟨rfl,e,b⟩
          refine ⟨bE (decide (((IntKind.i64.wrap (IntKind.i64.wrap (IntKind.i64.wrap ((hh:Int) - 1) - i)*w):Int),(1:Int))=(a',b'))),one_cells rfl,_,_,app1B ((i3.ext1 e (Ne.symm hqn)).ext (Ext.push _ _)) (by simp only [List.length_map,List.length_append,til_len]) hlo1 (by unfold Id.maxLen;omega) _,?_⟩
          refine again (i+1) _ _ _ (by omega) ⟨?_,rfl,rfl,rfl,rfl,rfl,trivial⟩ trivial ⟨by omega,((i2.trans e).trans ((Ext.push _ _).one q)).set _ (.inr (Nat.le_refl _)),?_,?_⟩
          · show some (Sl.v (.int .i64 (IntKind.i64.wrap ((i:Int)+1))))=_
            rw [wr (by omega) (by omega)];rfl
          · rw [til_succ,hx,← List.append_assoc]
            refine rowMap ?_
            exact Row.set (((i3.ext1 e (Ne.symm hqn)).ext (Ext.push _ _)).lt)
          · rw [til_succ,hx,← List.append_assoc,lastIx_snoc]
            refine Bx.off (Bx.ext ?_ (Ext.push _ _)) hqn
            rw [show (((til rD w++til (rL w) hh++til (rU w hh) w++til (rR w hh) i).length:Nat):Int)=((w+hh+w+i):Nat) from by simp only [List.length_append,til_len]]
            exact b
        · have hi:hh=i:=by simp at c1;omega
          subst hi
          have x4:=i2;have r4:=i3;have b4:=i4
          clear i1 i2 i3 i4 c1 again
          exact ⟨(e1.one q).trans x4,b4⟩
--END sidesb
theorem SightOf_ok (g:Gd) (at_ d:Int) (a:Option Addr) (fl:Nat) (h:Hp) (hs:Sls h cE 2 a g.cs) (hn:(g.cs.length:Int) < 2 ^ 31):Tri X lo 176 [.agg #[.int .i64 g.w,.slice a g.cs.length fl],.int .i64 at_,.int .i64 d] h fun v h'=>v = .int .i64 (sightOf g at_ d)∧Ext h h':=by
  refine enter tbOk mtOk ⟨[7,8],[]⟩ 400 Tryz.func176 rfl rfl rfl fun hlo => ?_
  refine callP (GridOk_ok g.w a fl g.cs h hs hn) ?_
  rintro v h1 ⟨rfl,e1⟩
  refine cnd (fun c1 => ?_) (fun c1 => ?_)
  · have c1:gOk g=false:=by simpa using c1
    refine cndT ?_
    refine And.intro ?_ e1
    have:sightOf g at_ d = -1:=if_neg (by rw [c1];simp)
    rw [this]
  · have hg:gOk g=true:=by simpa using c1
    refine callP (dirOk_ok d h1) ?_
    rintro v h1' ⟨rfl,q1⟩
    subst q1
    refine cnd (fun c2 => ?_) (fun c2 => ?_)
    · have c2:¬ (0≤d∧d≤3):=by simp at c2;omega
      refine And.intro ?_ e1
      have:sightOf g at_ d = -1:=if_neg (by intro q;exact c2 q.2)
      rw [this]
    · have c2:0≤d∧d≤3:=by simpa using c2
      refine callP (opposite_ok d _ c2) ?_
      rintro v h2 ⟨rfl,e2⟩
      obtain ⟨w,hh,g1,g2,g3,g4,g5⟩:=gOk_nat hg
      rw [g1]
      have hlo2:lo≤h2.n:=Nat.le_trans hlo (Nat.le_trans e1.n e2.n)
      refine ⟨_,Bx.push.st hlo2 rfl,?_⟩
      refine ⟨_,Bx.push.st (Nat.le_trans hlo2 (Nat.le_succ _)) rfl,?_⟩
      refine callP (sidesBool_ok w hh a _ fl at_ ((d+2) % 4) h2.n (h2.n+1) _ g3 g4 g5 ((Bx.push.set.ext (Ext.push _ _)).off (Nat.ne_of_lt (Nat.lt_succ_self _))) Bx.push.set (by omega) (Nat.ne_of_lt (Nat.lt_succ_self _))) ?_
      rintro v h3 ⟨e3,b3⟩
      refine ⟨_,b3.ld rfl,?_⟩
      refine And.intro ?_ (e1.trans (e2.trans (e3.out ((((Ext.push h2 _).set (Nat.le_refl _) _).trans (Ext.push _ _)).set (Nat.le_succ _) _) (Nat.le_succ _))))
      have:sightOf g at_ d=lastIx (rays w hh) (at_,(d+2) % 4):=by
        unfold sightOf sideRays
        rw [if_pos ⟨hg,c2⟩,g1,g2];rfl
      rw [this]
end Go.Proofs.YtjpcfaddimlbdaaGreat.Id
namespace Go.Proofs.YtjpcfaddimlbdaaGreat.Id
open Go.Id
open Go.Proofs
set_option linter.unusedVariables false
set_option maxRecDepth 100000
variable {X:Ctx Tryz.prog} {lo:Nat}
def spr (a b c d:Int):Value := .agg #[.int .i64 a,.int .i64 b,.int .i64 c,.int .i64 d]
def spread (k w:Int):Value:=if k=0 then spr w 0 0 0 else if k=1∨k=7 then spr 0 0 0 w else if k=2∨k=3 then spr 0 w 0 0 else if k=6 then spr (w / 2) 0 (w - w / 2) 0 else spr (w / 2) (w / 2) (w - 2*(w / 2)) 0
theorem sp1_ok (w:Int) (h:Hp) (hw:0≤w∧w≤64):Tri X lo 170 [.int .i64 w] h fun v h'=>v=spr w 0 0 0∧Ext h h':=by
  refine enter tbOk mtOk ⟨[],[]⟩ 400 Tryz.func170 rfl rfl rfl fun hlo => ?_
  exact And.intro rfl (Ext.refl _)
theorem sp2_ok (w:Int) (h:Hp) (hw:0≤w∧w≤64):Tri X lo 171 [.int .i64 w] h fun v h'=>v=spr 0 w 0 0∧Ext h h':=by
  refine enter tbOk mtOk ⟨[],[]⟩ 400 Tryz.func171 rfl rfl rfl fun hlo => ?_
  exact And.intro rfl (Ext.refl _)
theorem sp3_ok (w:Int) (h:Hp) (hw:0≤w∧w≤64):Tri X lo 172 [.int .i64 w] h fun v h'=>v=spr 0 0 0 w∧Ext h h':=by
  refine enter tbOk mtOk ⟨[],[]⟩ 400 Tryz.func172 rfl rfl rfl fun hlo => ?_
  exact And.intro rfl (Ext.refl _)
theorem half {w:Int} (hw:0≤w∧w≤64):IntKind.i64.wrap (w.tdiv 2)=w / 2:=by
  rw [Int.tdiv_eq_ediv_of_nonneg hw.1,wr (by omega) (by omega)]
theorem sp4_ok (w:Int) (h:Hp) (hw:0≤w∧w≤64):Tri X lo 173 [.int .i64 w] h fun v h'=>v=spr (w / 2) (w / 2) (w - 2*(w / 2)) 0∧Ext h h':=by
  refine enter tbOk mtOk ⟨[],[]⟩ 400 Tryz.func173 rfl rfl rfl fun hlo => ?_
  refine And.intro (by decide) ?_
  refine And.intro (by decide) ?_
  refine And.intro (by decide) ?_
  refine And.intro (by decide) ?_
  refine And.intro ?_ (Ext.refl _)
  show spr (IntKind.i64.wrap (w.tdiv 2)) (IntKind.i64.wrap (w.tdiv 2)) (IntKind.i64.wrap (IntKind.i64.wrap (w - IntKind.i64.wrap (w.tdiv 2)) - IntKind.i64.wrap (w.tdiv 2))) 0=_
  rw [half hw,wr (n:=w - w / 2) (by omega) (by omega),wr (by omega) (by omega),show w - w / 2 - w / 2=w - 2*(w / 2) from by omega]
theorem sp5_ok (w:Int) (h:Hp) (hw:0≤w∧w≤64):Tri X lo 174 [.int .i64 w] h fun v h'=>v=spr (w / 2) 0 (w - w / 2) 0∧Ext h h':=by
  refine enter tbOk mtOk ⟨[],[]⟩ 400 Tryz.func174 rfl rfl rfl fun hlo => ?_
  refine And.intro (by decide) ?_
  refine And.intro (by decide) ?_
  refine And.intro ?_ (Ext.refl _)
  show spr (IntKind.i64.wrap (w.tdiv 2)) 0 (IntKind.i64.wrap (w - IntKind.i64.wrap (w.tdiv 2))) 0=_
  rw [half hw,wr (by omega) (by omega)]
theorem spreadOf_ok (k w:Int) (h:Hp) (hk:0≤k∧k≤7) (hw:0≤w∧w≤64):Tri X lo 152 [.int .i64 k,.int .i64 w] h fun v h'=>v=spread k w∧Ext h h':=by
  refine enter tbOk mtOk ⟨[],[]⟩ 400 Tryz.func152 rfl rfl rfl fun hlo => ?_
  refine And.intro ⟨hk.1,by omega⟩ ?_
  have hc:k=0∨k=1∨k=2∨k=3∨k=4∨k=5∨k=6∨k=7:=by omega
  rcases hc with rfl | rfl | rfl | rfl | rfl | rfl | rfl | rfl
  · refine callP (sp1_ok w h hw) ?_
    rintro v h' ⟨rfl,e⟩
    exact And.intro rfl e
  · refine callP (sp3_ok w h hw) ?_
    rintro v h' ⟨rfl,e⟩
    exact And.intro rfl e
  · refine callP (sp2_ok w h hw) ?_
    rintro v h' ⟨rfl,e⟩
    exact And.intro rfl e
  · refine callP (sp2_ok w h hw) ?_
    rintro v h' ⟨rfl,e⟩
    exact And.intro rfl e
  · refine callP (sp4_ok w h hw) ?_
    rintro v h' ⟨rfl,e⟩
    exact And.intro rfl e
  · refine callP (sp4_ok w h hw) ?_
    rintro v h' ⟨rfl,e⟩
    exact And.intro rfl e
  · refine callP (sp5_ok w h hw) ?_
    rintro v h' ⟨rfl,e⟩
    exact And.intro rfl e
  · refine callP (sp3_ok w h hw) ?_
    rintro v h' ⟨rfl,e⟩
    exact And.intro rfl e
theorem DirTurn_ok (k d:Int) (h:Hp) (hd:0≤d∧d≤3):Tri X lo 154 [.int .i64 k,.int .i64 d] h fun v h'=>v = .int .i64 (Tr.dirT k d)∧Ext h h':=by
  refine enter tbOk mtOk ⟨[],[]⟩ 400 Tryz.func154 rfl rfl rfl fun hlo => ?_
  refine callP (dirOk_ok d h) ?_
  rintro v h1 ⟨rfl,q1⟩
  subst q1
  have hd':(decide (0≤d)&&decide (d≤3))=true:=by simp [hd]
  rw [hd']
  have hc:d=0∨d=1∨d=2∨d=3:=by omega
  clear hd' hd
  rcases hc with rfl | rfl | rfl | rfl
  · refine cndF ?_
    refine cnd (fun c1 => ?_) (fun c1 => ?_)
    · have c1:k=2:=by simpa using c1
      subst c1
      refine And.intro ⟨by decide,by decide⟩ ?_
      refine ⟨_,rfl,?_⟩
      exact And.intro rfl (Ext.refl _)
    · skip
      refine cnd (fun c2 => ?_) (fun c2 => ?_)
      · have c2:k=4:=by simpa using c2
        subst c2
        refine And.intro ⟨by decide,by decide⟩ ?_
        refine ⟨_,rfl,?_⟩
        exact And.intro rfl (Ext.refl _)
      · skip
        refine cnd (fun c3 => ?_) (fun c3 => ?_)
        · have c3:k=3:=by simpa using c3
          subst c3
          refine And.intro ⟨by decide,by decide⟩ ?_
          refine ⟨_,rfl,?_⟩
          exact And.intro rfl (Ext.refl _)
        · skip
          refine cnd (fun c4 => ?_) (fun c4 => ?_)
          · have c4:k=5:=by simpa using c4
            subst c4
            refine And.intro ⟨by decide,by decide⟩ ?_
            refine ⟨_,rfl,?_⟩
            exact And.intro rfl (Ext.refl _)
          · have hk:¬ (k=2∨k=4)∧¬ (k=3∨k=5):=by
              simp at c1 c2 c3 c4;omega
            refine And.intro ?_ (Ext.refl _)
            unfold Tr.dirT;rw [if_neg hk.1,if_neg hk.2]
  · refine cndF ?_
    refine cnd (fun c1 => ?_) (fun c1 => ?_)
    · have c1:k=2:=by simpa using c1
      subst c1
      refine And.intro ⟨by decide,by decide⟩ ?_
      refine ⟨_,rfl,?_⟩
      exact And.intro rfl (Ext.refl _)
    · skip
      refine cnd (fun c2 => ?_) (fun c2 => ?_)
      · have c2:k=4:=by simpa using c2
        subst c2
        refine And.intro ⟨by decide,by decide⟩ ?_
        refine ⟨_,rfl,?_⟩
        exact And.intro rfl (Ext.refl _)
      · skip
        refine cnd (fun c3 => ?_) (fun c3 => ?_)
        · have c3:k=3:=by simpa using c3
          subst c3
          refine And.intro ⟨by decide,by decide⟩ ?_
          refine ⟨_,rfl,?_⟩
          exact And.intro rfl (Ext.refl _)
        · skip
          refine cnd (fun c4 => ?_) (fun c4 => ?_)
          · have c4:k=5:=by simpa using c4
            subst c4
            refine And.intro ⟨by decide,by decide⟩ ?_
            refine ⟨_,rfl,?_⟩
            exact And.intro rfl (Ext.refl _)
          · have hk:¬ (k=2∨k=4)∧¬ (k=3∨k=5):=by
              simp at c1 c2 c3 c4;omega
            refine And.intro ?_ (Ext.refl _)
            unfold Tr.dirT;rw [if_neg hk.1,if_neg hk.2]
  · refine cndF ?_
    refine cnd (fun c1 => ?_) (fun c1 => ?_)
    · have c1:k=2:=by simpa using c1
      subst c1
      refine And.intro ⟨by decide,by decide⟩ ?_
      refine ⟨_,rfl,?_⟩
      exact And.intro rfl (Ext.refl _)
    · skip
      refine cnd (fun c2 => ?_) (fun c2 => ?_)
      · have c2:k=4:=by simpa using c2
        subst c2
        refine And.intro ⟨by decide,by decide⟩ ?_
        refine ⟨_,rfl,?_⟩
        exact And.intro rfl (Ext.refl _)
      · skip
        refine cnd (fun c3 => ?_) (fun c3 => ?_)
        · have c3:k=3:=by simpa using c3
          subst c3
          refine And.intro ⟨by decide,by decide⟩ ?_
          refine ⟨_,rfl,?_⟩
          exact And.intro rfl (Ext.refl _)
        · skip
          refine cnd (fun c4 => ?_) (fun c4 => ?_)
          · have c4:k=5:=by simpa using c4
            subst c4
            refine And.intro ⟨by decide,by decide⟩ ?_
            refine ⟨_,rfl,?_⟩
            exact And.intro rfl (Ext.refl _)
          · have hk:¬ (k=2∨k=4)∧¬ (k=3∨k=5):=by
              simp at c1 c2 c3 c4;omega
            refine And.intro ?_ (Ext.refl _)
            unfold Tr.dirT;rw [if_neg hk.1,if_neg hk.2]
  · refine cndF ?_
    refine cnd (fun c1 => ?_) (fun c1 => ?_)
    · have c1:k=2:=by simpa using c1
      subst c1
      refine And.intro ⟨by decide,by decide⟩ ?_
      refine ⟨_,rfl,?_⟩
      exact And.intro rfl (Ext.refl _)
    · skip
      refine cnd (fun c2 => ?_) (fun c2 => ?_)
      · have c2:k=4:=by simpa using c2
        subst c2
        refine And.intro ⟨by decide,by decide⟩ ?_
        refine ⟨_,rfl,?_⟩
        exact And.intro rfl (Ext.refl _)
      · skip
        refine cnd (fun c3 => ?_) (fun c3 => ?_)
        · have c3:k=3:=by simpa using c3
          subst c3
          refine And.intro ⟨by decide,by decide⟩ ?_
          refine ⟨_,rfl,?_⟩
          exact And.intro rfl (Ext.refl _)
        · skip
          refine cnd (fun c4 => ?_) (fun c4 => ?_)
          · have c4:k=5:=by simpa using c4
            subst c4
            refine And.intro ⟨by decide,by decide⟩ ?_
            refine ⟨_,rfl,?_⟩
            exact And.intro rfl (Ext.refl _)
          · have hk:¬ (k=2∨k=4)∧¬ (k=3∨k=5):=by
              simp at c1 c2 c3 c4;omega
            refine And.intro ?_ (Ext.refl _)
            unfold Tr.dirT;rw [if_neg hk.1,if_neg hk.2]
end Go.Proofs.YtjpcfaddimlbdaaGreat.Id
namespace Go.Proofs.YtjpcfaddimlbdaaGreat.Id
open Go.Id
open Go.Proofs
set_option linter.unusedVariables false
abbrev V3:=Int×Int×Int
abbrev Bm:=Int×Int×Int×Int
def kdG (g:Gd):Int→Int:=fun a=>(g.cs[a.toNat]?.getD (0,0)).1
def bmF (g:Gd) (a d w:Int):Bm:=match Tr.nxt g.w g.cs.length a d with
  | some b=>(b,d,w,-1)
  | none=>(0,0,w,sightOf g a d)
theorem lastIx_mem {x:Cl}:∀ (l:List Cl) (p:Nat×Int),x∈l∨0≤p.2→0≤(l.foldl (fun (p:Nat×Int) y=>(p.1+1,if y=x then (p.1:Int) else p.2)) p).2
  | [],p,h=>by
    rcases h with h | h
    · cases h
    · exact h
  | y::l,p,h=>by
    rw [List.foldl_cons]
    refine lastIx_mem l _ ?_
    by_cases e:y=x
    · right;simp only [e,if_true];omega
    · rcases h with h | h
      · rcases List.mem_cons.1 h with h | h
        · exact absurd h.symm e
        · exact .inl h
      · right;simp only [e,if_false];exact h
theorem til_mem {F:Nat→Cl} {n i:Nat} (h:i < n):F i∈til F n:=List.mem_map.2 ⟨i,List.mem_range.2 h,rfl⟩
theorem sight_ge {g:Gd} (hg:gOk g=true) {a d:Int} (ha:0≤a∧a < g.cs.length) (hd:0≤d∧d≤3) (hn:Tr.nxt g.w g.cs.length a d=none):0≤sightOf g a d:=by
  unfold sightOf
  rw [if_pos ⟨hg,hd⟩]
  refine lastIx_mem _ _ (.inl ?_)
  obtain ⟨w,hh,h1,h2,h3,h4,h5⟩:=gOk_nat hg
  unfold sideRays rays
  rw [h1] at hn
  rw [h1,h2,Int.toNat_natCast,Int.toNat_natCast]
  simp only [List.mem_append]
  rw [h5] at ha hn
  clear h1 h2 h5
  have hc:d=0∨d=1∨d=2∨d=3:=by omega
  have hw:w=1∨w=2∨w=3∨w=4∨w=5:=by omega
  rcases hc with rfl | rfl | rfl | rfl
  · have k:a < w:=by
      unfold Tr.nxt at hn;simp only [if_true] at hn
      by_cases c:(w:Int)≤a
      · rw [if_pos c] at hn;cases hn
      · omega
    have:=til_mem (F:=rD) (n:=w) (i:=a.toNat) (by omega)
    rw [show rD a.toNat=(a,(0+2) % 4) from by unfold rD;rw [Int.toNat_of_nonneg ha.1];rfl] at this
    exact .inl (.inl (.inl this))
  · have k:a % w=w - 1:=by
      unfold Tr.nxt at hn
      rw [if_neg (by decide),if_pos rfl] at hn
      by_cases c:a % (w:Int)=w - 1
      · exact c
      · rw [if_pos c] at hn;cases hn
    have:=til_mem (F:=rL w) (n:=hh) (i:=(a / w).toNat) (by rcases hw with rfl | rfl | rfl | rfl | rfl<;>omega)
    rw [show rL w (a / w).toNat=(a,(1+2) % 4) from by unfold rL;rcases hw with rfl | rfl | rfl | rfl | rfl<;>(refine Prod.ext ?_ rfl;simp only;omega)] at this
    exact .inl (.inl (.inr this))
  · have k:(w:Int)*hh≤a+w:=by
      unfold Tr.nxt at hn
      rw [if_neg (by decide),if_neg (by decide),if_pos rfl] at hn
      by_cases c:a+w < (w:Int)*hh
      · rw [if_pos c] at hn;cases hn
      · omega
    have:=til_mem (F:=rU w hh) (n:=w) (i:=((w:Int)*hh - 1 - a).toNat) (by omega)
    rw [show rU w hh ((w:Int)*hh - 1 - a).toNat=(a,(2+2) % 4) from by unfold rU;rw [Int.mul_comm (hh:Int)];refine Prod.ext ?_ rfl;simp only;omega] at this
    exact .inl (.inr this)
  · have k:a % w=0:=by
      unfold Tr.nxt at hn
      rw [if_neg (by decide),if_neg (by decide),if_neg (by decide)] at hn
      by_cases c:a % (w:Int)=0
      · exact c
      · rw [if_pos c] at hn;cases hn
    have:=til_mem (F:=rR w hh) (n:=hh) (i:=((hh:Int) - 1 - a / w).toNat) (by rcases hw with rfl | rfl | rfl | rfl | rfl<;>omega)
    rw [show rR w hh ((hh:Int) - 1 - a / w).toNat=(a,(3+2) % 4) from by unfold rR;rcases hw with rfl | rfl | rfl | rfl | rfl<;>(refine Prod.ext ?_ rfl;simp only;omega)] at this
    exact .inr this
theorem rays_ok {w hh:Nat} (hw:1≤w∧w≤5) (hh1:1≤hh∧hh≤5):∀ c∈rays w hh,(0≤c.1∧c.1 < (w:Int)*hh)∧(0≤c.2∧c.2≤3):=by
  intro c hc
  have hc5:w=1∨w=2∨w=3∨w=4∨w=5:=by omega
  have hwh:(w:Int)≤(w:Int)*hh:=by rcases hc5 with rfl | rfl | rfl | rfl | rfl<;>omega
  unfold rays til at hc
  simp only [List.mem_append,List.mem_map,List.mem_range] at hc
  rcases hc with ((⟨i,hi,rfl⟩ | ⟨i,hi,rfl⟩) | ⟨i,hi,rfl⟩) | ⟨i,hi,rfl⟩
  · exact ⟨⟨by show (0:Int)≤(i:Int);omega,by show (i:Int) < _;omega⟩,by show (0:Int)≤2∧(2:Int)≤3;decide⟩
  · refine ⟨?_,by show (0:Int)≤3∧(3:Int)≤3;decide⟩
    show 0≤(i:Int)*w+w - 1∧(i:Int)*w+w - 1 < (w:Int)*hh
    rcases hc5 with rfl | rfl | rfl | rfl | rfl<;>omega
  · refine ⟨?_,by show (0:Int)≤0∧(0:Int)≤3;decide⟩
    show 0≤(hh:Int)*w - 1 - i∧(hh:Int)*w - 1 - i < (w:Int)*hh
    rw [Int.mul_comm (hh:Int)]
    omega
  · refine ⟨?_,by show (0:Int)≤1∧(1:Int)≤3;decide⟩
    show 0≤((hh:Int) - 1 - i)*w∧((hh:Int) - 1 - i)*w < (w:Int)*hh
    rcases hc5 with rfl | rfl | rfl | rfl | rfl<;>omega
theorem sightRay_ok {g:Gd} {k:Int} {r:Cl} (hr:sightRay g k=some r):gOk g=true∧(0≤r.1∧r.1 < g.cs.length)∧(0≤r.2∧r.2≤3):=by
  unfold sightRay at hr
  by_cases c:gOk g=true∧0≤k∧k < many g
  · rw [if_pos c] at hr
    obtain ⟨w,hh,h1,h2,h3,h4,h5⟩:=gOk_nat c.1
    have hm:r∈sideRays g:=List.mem_of_getElem? hr
    unfold sideRays at hm
    rw [h1,h2,Int.toNat_natCast,Int.toNat_natCast] at hm
    rw [h5]
    exact ⟨c.1,rays_ok h3 h4 r hm⟩
  · rw [if_neg c] at hr;cases hr
theorem kdG_ok {g:Gd} (hg:gOk g=true) {a:Int} (ha:0≤a∧a < g.cs.length):0≤kdG g a∧kdG g a≤7:=by
  obtain ⟨_,_,_,_,_,h⟩:=gOk_iff.1 hg
  have hi:a.toNat < g.cs.length:=by omega
  unfold kdG
  rw [List.getElem?_eq_getElem hi]
  have:=h _ (List.getElem_mem hi)
  simp only [Option.getD_some]
  unfold cOk at this
  split at this
  · omega
  · simp at this;omega
structure It where
  b:Bm
  q:Nat
  t:Tr.Tr
def BOk (g:Gd) (i:It):Prop:=(0≤i.b.2.2.1∧i.b.2.2.1≤64)∧((i.b.2.2.1=0∧i.t=([],[]))∨(0 < i.b.2.2.1∧0≤i.b.2.2.2∧i.t=([],[(0,i.b.2.2.2,i.b.2.2.1)])) ∨
  (0 < i.b.2.2.1∧i.b.2.2.2 = -1∧(0≤i.b.1∧i.b.1 < g.cs.length)∧(0≤i.b.2.1∧i.b.2.1≤3)∧Tr.go g.w g.cs.length (kdG g) (sightOf g) i.q i.b.1 i.b.2.1 i.b.2.2.1=some i.t))
theorem lv_bok {g:Gd} (hg:gOk g=true) {q:Nat} {a d w:Int} {t:Tr.Tr} (ha:0≤a∧a < g.cs.length) (hd:0≤d∧d≤3) (hw:0≤w∧w≤64) (h:Tr.lv g.w g.cs.length (sightOf g) (Tr.go g.w g.cs.length (kdG g) (sightOf g) q) a d w=some t):BOk g ⟨bmF g a d w,q,t⟩:=by
  obtain ⟨g1,g2,g3,g4,g5,g6⟩:=gOk_iff.1 hg
  unfold Tr.lv at h
  unfold bmF
  by_cases h0:w=0
  · rw [if_pos h0] at h
    cases h
    cases hn:Tr.nxt g.w g.cs.length a d with
    | some b=>exact ⟨hw,.inl ⟨h0,rfl⟩⟩
    | none=>exact ⟨hw,.inl ⟨h0,rfl⟩⟩
  · rw [if_neg h0] at h
    cases hn:Tr.nxt g.w g.cs.length a d with
    | some b =>
      rw [hn] at h
      exact ⟨hw,.inr (.inr ⟨by show 0 < w;omega,rfl,Tr.nxt_in g1 g5 ha hd hn,hd,h⟩)⟩
    | none =>
      rw [hn] at h
      cases h
      exact ⟨hw,.inr (.inl ⟨by show 0 < w;omega,sight_ge hg ha hd hn,rfl⟩)⟩
def spN (k w:Int):Int×Int×Int×Int:=if k=0 then (w,0,0,0) else if k=1∨k=7 then (0,0,0,w) else if k=2∨k=3 then (0,w,0,0) else if k=6 then (w / 2,0,w - w / 2,0) else (w / 2,w / 2,w - 2*(w / 2),0)
theorem en_zero (k a:Int):Tr.en k a 0=[]:=rfl
theorem go_step {g:Gd} (hg:gOk g=true) {q:Nat} {a d w:Int} {t:Tr.Tr} (ha:0≤a∧a < g.cs.length) (hd:0≤d∧d≤3) (hw:0 < w∧w≤64) (h:Tr.go g.w g.cs.length (kdG g) (sightOf g) q a d w=some t) :
    ∃ q' t1 t2,q=q'+1∧BOk g ⟨bmF g a (Tr.dirT (kdG g a) d) (spN (kdG g a) w).2.1,q',t1⟩∧BOk g ⟨bmF g a d (spN (kdG g a) w).1,q',t2⟩ ∧
      t.1=(a,d,w)::(t2.1++t1.1)∧t.2=Tr.en (if kdG g a=7 then 2 else 1) a (spN (kdG g a) w).2.2.2++(Tr.en 3 a (spN (kdG g a) w).2.2.1++(t2.2++t1.2)):=by
  have hd':=Tr.dirT_ok (k:=kdG g a) hd
  have hk:=kdG_ok hg ha
  have z:∀ (q:Nat) (a d:Int),0≤a∧a < g.cs.length→(0≤d∧d≤3)→BOk g ⟨bmF g a d 0,q,([],[])⟩:=fun q a d ha hd=>lv_bok hg ha hd (by omega) (by unfold Tr.lv;rw [if_pos rfl])
  cases q with
  | zero=>cases h
  | succ q =>
    rw [Tr.go,if_neg (by omega)] at h
    generalize hkk:kdG g a=k at h hk hd' ⊢
    by_cases k1:k=1
    · rw [if_pos k1] at h
      have hs:spN k w=(0,0,0,w):=by rw [k1];rfl
      have ht:=Option.some.inj h
      rw [hs,← ht]
      have he:Tr.en 1 a w=[(1,a,w)]:=if_pos hw.1
      exact ⟨q,([],[]),([],[]),rfl,z _ _ _ ha hd',z _ _ _ ha hd,rfl,by rw [if_neg (by omega)];simp only [en_zero,he];rfl⟩
    rw [if_neg k1] at h
    by_cases k7:k=7
    · rw [if_pos k7] at h
      have hs:spN k w=(0,0,0,w):=by rw [k7];rfl
      have ht:=Option.some.inj h
      rw [hs,← ht]
      have he:Tr.en 2 a w=[(2,a,w)]:=if_pos hw.1
      exact ⟨q,([],[]),([],[]),rfl,z _ _ _ ha hd',z _ _ _ ha hd,rfl,by rw [if_pos k7];simp only [en_zero,he];rfl⟩
    rw [if_neg k7] at h
    by_cases k6:k=6
    · rw [if_pos k6] at h
      obtain ⟨t2,h2,h3⟩:=Tr.bind_some h
      have ht:=Option.some.inj h3
      have hs:spN k w=(w / 2,0,w - w / 2,0):=by rw [k6];rfl
      rw [hs,← ht]
      exact ⟨q,([],[]),t2,rfl,z _ _ _ ha hd',lv_bok hg ha hd (by simp only;omega) h2,by simp,by simp [en_zero]⟩
    rw [if_neg k6] at h
    by_cases k45:k=4∨k=5
    · rw [if_pos k45] at h
      obtain ⟨t2,h2,h3⟩:=Tr.bind_some h
      obtain ⟨t1,h1,h4⟩:=Tr.bind_some h3
      have ht:=Option.some.inj h4
      have hs:spN k w=(w / 2,w / 2,w - 2*(w / 2),0):=by rcases k45 with e | e<;>(rw [e];rfl)
      rw [hs,← ht]
      exact ⟨q,t1,t2,rfl,lv_bok hg ha hd' (by simp only;omega) h1,lv_bok hg ha hd (by simp only;omega) h2,rfl,by simp [en_zero]⟩
    rw [if_neg k45] at h
    obtain ⟨t1,h1,h3⟩:=Tr.bind_some h
    have ht:=Option.some.inj h3
    by_cases k0:k=0
    · have hs:spN k w=(w,0,0,0):=by rw [k0];rfl
      rw [hs,← ht]
      rw [show Tr.dirT k d=d from by rw [k0];rfl] at h1
      exact ⟨q,([],[]),t1,rfl,z _ _ _ ha hd',lv_bok hg ha hd (by simp only;omega) h1,by simp,by simp [en_zero]⟩
    · have hs:spN k w=(0,w,0,0):=by
        have:k=2∨k=3:=by omega
        rcases this with e | e<;>(rw [e];rfl)
      rw [hs,← ht]
      exact ⟨q,t1,([],[]),rfl,lv_bok hg ha hd' (by simp only;omega) h1,z _ _ _ ha hd,by simp,by simp [en_zero]⟩
def remV (l:List It):List V3:=l.reverse.flatMap fun i=>i.t.1
def remE (l:List It):List V3:=l.reverse.flatMap fun i=>i.t.2
def meas (l:List It):Nat:=(l.map fun i=>3 ^ i.q).sum
theorem remV_snoc (l:List It) (x:It):remV (l++[x])=x.t.1++remV l:=by simp [remV]
theorem remE_snoc (l:List It) (x:It):remE (l++[x])=x.t.2++remE l:=by simp [remE]
theorem meas_snoc (l:List It) (x:It):meas (l++[x])=meas l+3 ^ x.q:=by simp [meas]
theorem snoc_of {α:Type} {l:List α} (h:l.length≠0):∃ r x,l=r++[x]:=⟨l.dropLast,l.getLast (by intro e;subst e;exact h rfl),(List.dropLast_concat_getLast _).symm⟩
end Go.Proofs.YtjpcfaddimlbdaaGreat.Id
namespace Go.Proofs.YtjpcfaddimlbdaaGreat.Id
open Go.Id
open Go.Proofs
set_option linter.unusedVariables false
set_option maxRecDepth 100000
variable {X:Ctx Tryz.prog} {lo:Nat}
def vE (v:V3):List Value:=[.int .i64 v.1,.int .i64 v.2.1,.int .i64 v.2.2]
theorem vE3 (v:V3):(vE v).length=3:=rfl
theorem tend_ok (tb:Nat) (vv:Value) (o:Option (Nat×Nat)) (es:List V3) (k a w:Int) (h:Hp) (hb:Bx h tb [vv,gv o es.length]) (hv:cellsL vv=[vv]) (hlb:lo≤tb) (hg:Gw lo h vE 3 o es) (hne:¬isB o tb) (hm:es.length+1≤Id.maxLen):Tri X lo 151 [.pointer (some ⟨tb,0,none⟩),.int .i64 k,.int .i64 a,.int .i64 w] h fun v h'=>∃ o',Bx h' tb [vv,gv o' (es++Tr.en k a w).length]∧Gw lo h' vE 3 o' (es++Tr.en k a w)∧¬isB o' tb∧h.n≤h'.n∧(∀ i,i < h.n→i≠tb→¬isB o i→h'.g i=h.g i)∧(∀ i,isB o' i→isB o i∨h.n≤i):=by
  refine enter tbOk mtOk ⟨[],[]⟩ 400 Tryz.func151 rfl rfl rfl fun hlo => ?_
  refine cnd (fun c1 => ?_) (fun c1 => ?_)
  · have c1:w > 0:=by simpa using c1
    have hen:Tr.en k a w=[(k,a,w)]:=if_pos c1
    rw [hen]
    refine ⟨_,hb.ldF (i:=1) rfl,?_⟩
    have xp:Ext h (h.push (.cells (vE (k,a,w)) 3 0)):=Ext.push _ _
    obtain ⟨b,e,h2,ap,gw,gr⟩:=(hg.ext xp).app vE3 (by decide) hm (Nat.le_trans hlo xp.n) (k,a,w)
    refine ⟨vE (k,a,w),one_cells rfl,_,_,ap,?_⟩
    have hb2:Bx h2 tb [vv,gv o es.length]:=⟨Nat.lt_of_lt_of_le hb.lt (Nat.le_trans xp.n gr.n),(gr.g tb (Nat.lt_of_lt_of_le hb.lt xp.n) hne).trans (hb.ext xp).g⟩
    refine ⟨_,hb2.stF (i:=1) hlb (Nat.le_refl 2),?_⟩
    have hnb:¬isB (some (b,e)) tb:=fun q=>by
      rcases gr.b tb q with q | q
      · exact hne q
      · have:=hb.lt;have:=xp.n;omega
    refine ⟨some (b,e),hb2.set,gw.off hnb _,hnb,Nat.le_trans xp.n gr.n,fun i hi h1 h2' => ?_,fun i hi => ?_⟩
    · simp only [Hp.set];rw [if_neg h1]
      exact (gr.g i (Nat.lt_of_lt_of_le hi xp.n) h2').trans (xp.g i hi)
    · rcases gr.b i hi with q | q
      · exact .inl q
      · exact .inr (Nat.le_trans xp.n q)
  · have c1:¬ w > 0:=by simpa using c1
    have hen:Tr.en k a w=[]:=if_neg c1
    rw [hen,List.append_nil]
    exact ⟨o,hb,hg,hne,Nat.le_refl _,fun i _ _ _=>rfl,fun i hi => .inl hi⟩
def bmE (b:Bm):List Value:=[.int .i64 b.1,.int .i64 b.2.1,.int .i64 b.2.2.1,.int .i64 b.2.2.2]
theorem bmE4 (b:Bm):(bmE b).length=4:=rfl
theorem beamFrom_ok (g:Gd) (a d w:Int) (ad:Option Addr) (fl:Nat) (h:Hp) (hs:Sls h cE 2 ad g.cs) (hg:gOk g=true) (ha:0≤a∧a < g.cs.length) (hd:0≤d∧d≤3):Tri X lo 153 [.agg #[.int .i64 g.w,.slice ad g.cs.length fl],.int .i64 a,.int .i64 d,.int .i64 w] h fun v h'=>v = .agg (bmE (bmF g a d w)).toArray∧Ext h h':=by
  obtain ⟨g1,g2,g3,g4,g5,g6⟩:=gOk_iff.1 hg
  refine enter tbOk mtOk ⟨[],[]⟩ 400 Tryz.func153 rfl rfl rfl fun hlo => ?_
  refine callP (rayStep_ok g.w a d ad _ fl h ⟨⟨g1,g2⟩,by omega,ha⟩ hd) ?_
  rintro v h1 ⟨rfl,e1⟩
  unfold bmF
  cases hn:Tr.nxt g.w g.cs.length a d with
  | some b =>
    refine cndF ?_
    exact And.intro rfl e1
  | none =>
    refine cndT ?_
    refine callP (SightOf_ok g a d ad fl h1 (hs.ext e1) (by omega)) ?_
    rintro v h2 ⟨rfl,e2⟩
    exact And.intro rfl (e1.trans e2)
def IsTrail (g:Gd) (k:Int) (T:Tr.Tr):Prop:=match sightRay g k with
  | none=>T=([],[])
  | some r=>∃ q,Tr.go g.w g.cs.length (kdG g) (sightOf g) q r.1 r.2 64=some T
structure MT (lo n0:Nat) (h:Hp) (tb:Nat) (o1:Option (Nat×Nat)) (vs:List V3) (o2:Option (Nat×Nat)) (es:List V3) (sb ep:Nat) (st:List Bm):Prop where
  bx:Bx h tb [gv o1 vs.length,gv o2 es.length]
  g1:Gw lo h vE 3 o1 vs
  g2:Gw lo h vE 3 o2 es
  g3:RowP h sb ep bmE 4 st
  s1:¬isB o1 tb
  s2:¬isB o2 tb
  s3:sb≠tb
  s4:¬isB o1 sb
  s5:¬isB o2 sb
  s6:∀ i,isB o1 i→¬isB o2 i
  l1:∀ i,isB o1 i→n0≤i
  l2:∀ i,isB o2 i→n0≤i
  l3:n0≤sb
  l4:n0≤tb
  l5:lo≤n0
variable {n0 tb sb ep:Nat} {o1 o2:Option (Nat×Nat)} {vs es:List V3} {st:List Bm}
theorem MT.ext {h h':Hp} (m:MT lo n0 h tb o1 vs o2 es sb ep st) (e:Ext h h'):MT lo n0 h' tb o1 vs o2 es sb ep st :=
  ⟨m.bx.ext e,m.g1.ext e,m.g2.ext e,m.g3.ext e,m.s1,m.s2,m.s3,m.s4,m.s5,m.s6,m.l1,m.l2,m.l3,m.l4,m.l5⟩
theorem MT.cut {h:Hp} {x:Bm} (m:MT lo n0 h tb o1 vs o2 es sb ep (st++[x])):MT lo n0 h tb o1 vs o2 es sb ep st :=
  ⟨m.bx,m.g1,m.g2,m.g3.cut bmE4,m.s1,m.s2,m.s3,m.s4,m.s5,m.s6,m.l1,m.l2,m.l3,m.l4,m.l5⟩
theorem MT.tend {h h':Hp} {o':Option (Nat×Nat)} {es':List V3} (m:MT lo n0 h tb o1 vs o2 es sb ep st) (a1:Bx h' tb [gv o1 vs.length,gv o' es'.length]) (a2:Gw lo h' vE 3 o' es') (a3:¬isB o' tb) (a4:h.n≤h'.n) (a5:∀ i,i < h.n→i≠tb→¬isB o2 i→h'.g i=h.g i) (a6:∀ i,isB o' i→isB o2 i∨h.n≤i) (hn:n0≤h.n) :
    MT lo n0 h' tb o1 vs o' es' sb ep st where
  bx:=a1
  g1:=m.g1.keep a4 fun i hi hb=>a5 i hi (fun e=>m.s1 (e▸hb)) (m.s6 i hb)
  g2:=a2
  g3:=⟨Nat.lt_of_lt_of_le m.g3.lt a4,by rw [a5 sb m.g3.lt m.s3 m.s5];exact m.g3.g⟩
  s1:=m.s1
  s2:=a3
  s3:=m.s3
  s4:=m.s4
  s5:=fun q=>by
    rcases a6 sb q with q | q
    · exact m.s5 q
    · have:=m.g3.lt;omega
  s6:=fun i hi q=>by
    rcases a6 i q with q | q
    · exact m.s6 i hi q
    · have:=(m.g1.lt hi).1;omega
  l1:=m.l1
  l2:=fun i q=>by
    rcases a6 i q with q | q
    · exact m.l2 i q
    · omega
  l3:=m.l3
  l4:=m.l4
  l5:=m.l5
theorem MT.vis {h h2:Hp} {b e:Nat} {vs':List V3} (m:MT lo n0 h tb o1 vs o2 es sb ep st) (gw:Gw lo h2 vE 3 (some (b,e)) vs') (gr:Grow o1 (some (b,e)) h h2) (hn:n0≤h.n) :
    Bx h2 tb [gv o1 vs.length,gv o2 es.length]∧MT lo n0 (h2.set tb (.cells [gv (some (b,e)) vs'.length,gv o2 es.length] 0 0)) tb (some (b,e)) vs' o2 es sb ep st:=by
  have hb2:Bx h2 tb [gv o1 vs.length,gv o2 es.length]:=⟨Nat.lt_of_lt_of_le m.bx.lt gr.n,(gr.g tb m.bx.lt m.s1).trans m.bx.g⟩
  have hnb:∀ j,j < h.n→¬isB o1 j→¬isB (some (b,e)) j:=fun j hj h1 q=>by
    rcases gr.b j q with q | q
    · exact h1 q
    · omega
  have h3:RowP h2 sb ep bmE 4 st:=⟨Nat.lt_of_lt_of_le m.g3.lt gr.n,by rw [gr.g sb m.g3.lt m.s4];exact m.g3.g⟩
  have h2':Gw lo h2 vE 3 o2 es:=m.g2.keep gr.n fun i hi hb=>gr.g i hi fun q=>m.s6 i q hb
  have t1:=hnb tb m.bx.lt m.s1
  exact ⟨hb2,hb2.set,gw.off t1 _,h2'.off m.s2 _,h3.off m.s3,t1,m.s2,m.s3,hnb sb m.g3.lt m.s4,m.s5,fun i hi q=>by
    rcases gr.b i hi with q' | q'
    · exact m.s6 i q' q
    · have:=(m.g2.lt q).1;omega,fun i q=>by
    rcases gr.b i q with q | q
    · exact m.l1 i q
    · omega,m.l2,m.l3,m.l4,m.l5⟩
theorem MT.put {h:Hp} {ys:List Bm} (m:MT lo n0 h tb o1 vs o2 es sb ep st):MT lo n0 (h.set sb (.cells ((st++ys).flatMap bmE) 4 (ep+1))) tb o1 vs o2 es sb (ep+1) (st++ys) :=
  ⟨m.bx.off (Ne.symm m.s3),m.g1.off m.s4 _,m.g2.off m.s5 _,(Row.set m.g3.lt).p bmE4,m.s1,m.s2,m.s3,m.s4,m.s5,m.s6,m.l1,m.l2,m.l3,m.l4,m.l5⟩
theorem MT.l4' {h:Hp} (m:MT lo n0 h tb o1 vs o2 es sb ep st):lo≤tb:=Nat.le_trans m.l5 m.l4
theorem ext_tend {h h' h'':Hp} (e:Ext h h') (hl:∀ i,isB o2 i→h.n≤i) (a4:h'.n≤h''.n) (a5:∀ i,i < h'.n→i≠h.n→¬isB o2 i→h''.g i=h'.g i):Ext h h'' :=
  ⟨Nat.le_trans e.n a4,fun i hi=>(a5 i (Nat.lt_of_lt_of_le hi e.n) (by omega) fun q=>by have:=hl i q;omega).trans (e.g i hi)⟩
theorem ext_vis {h h' h2:Hp} {o':Option (Nat×Nat)} {x:Ob} (e:Ext h h') (hl:∀ i,isB o1 i→h.n≤i) (gr:Grow o1 o' h' h2) (htb:h.n≤tb):Ext h (h2.set tb x) :=
  ⟨Nat.le_trans e.n gr.n,fun i hi=>by
    simp only [Hp.set];rw [if_neg (by omega)]
    exact (gr.g i (Nat.lt_of_lt_of_le hi e.n) fun q=>by have:=hl i q;omega).trans (e.g i hi)⟩
theorem n_cells {h:Hp} {cs:List Value} {n sz:Nat} (hn:n≠0) (hl:cs.length=n*sz):SlCells (h.push (.cells cs sz 0)) (.slice (some ⟨h.n,0,some 0⟩) n 1) sz cs:=by
  unfold SlCells
  simp only [if_neg hn]
  refine ⟨cs,sz,by simp [Hp.push,epOf],?_⟩
  unfold sub?
  rw [if_pos (by simp [hl])]
  simp only [List.drop_zero,← hl,List.take_length]
theorem ap2 {h:Hp} {b e n:Nat} {l:List Bm} (r:RowP h b e bmE 4 l) (hl:l.length=n) (hlo:lo≤b) (hm:n+2≤Id.maxLen) (y1 y2:Bm) :
    Ap lo h 4 (.slice (.some ⟨b,0,.some e⟩) n 1) (bmE y1++bmE y2) 2 (.slice (.some ⟨b,0,.some (e+1)⟩) (n+2) 1) (h.set b (.cells ((l++[y1,y2]).flatMap bmE) 4 (e+1))):=by
  subst hl
  have:=r.app (m:=[y1,y2]) (lo:=lo) bmE4 (by decide) hlo hm
  simpa using this
theorem spread_eq (k w:Int):spread k w=spr (spN k w).1 (spN k w).2.1 (spN k w).2.2.1 (spN k w).2.2.2:=by
  unfold spread spN
  split
  · rfl
  · split
    · rfl
    · split
      · rfl
      · split<;>rfl
structure TS where
  its:List It
  vs:List V3
  es:List V3
  ep:Nat
  o1:Option (Nat×Nat)
  o2:Option (Nat×Nat)
set_option maxHeartbeats 2000000 in
theorem trailOf_ok (g:Gd) (k:Int) (T:Tr.Tr) (ad:Option Addr) (fl:Nat) (h:Hp) (hs:Sls h cE 2 ad g.cs) (hn:(g.cs.length:Int) < 2 ^ 31) (hT:IsTrail g k T) (hm:T.1.length≤20000∧T.2.length≤60000):Tri X lo 127 [.agg #[.int .i64 g.w,.slice ad g.cs.length fl],.int .i64 k] h fun v h'=>∃ o1 o2,v = .agg #[gv o1 T.1.length,gv o2 T.2.length]∧Gw h.n h' vE 3 o1 T.1∧Gw h.n h' vE 3 o2 T.2∧Ext h h':=by
  refine enter tbOk mtOk ⟨[5],[(20,[0,1,2,3,4,5,6,7,9,10,12,13,14,15,16,17,18,8,11,19,20,21,22],[0,0,0,4,0,16,0,64,240,0,512,2046,0,0,8192,0,32768,0,131072,524286,1048574,2097151,4194303])]⟩ 400 Tryz.func127 rfl rfl rfl fun hlo => ?_
  refine callP (SightRay_ok g k ad fl (h.push (.cells [.slice none 0 0,.slice none 0 0] 0 0)) (hs.ext (Ext.push _ _)) hn) ?_
  rintro v h1 ⟨rfl,e1⟩
  unfold IsTrail at hT
  cases hr:sightRay g k with
  | none =>
    rw [hr] at hT
    subst hT
    refine cndT ?_
    refine ⟨_,(Bx.push.ext e1).ld rfl,?_⟩
    exact ⟨none,none,rfl,rfl,rfl,(Ext.push _ _).trans e1⟩
  | some r =>
    rw [hr] at hT
    obtain ⟨q,hq⟩:=hT
    obtain ⟨hg,hrr⟩:=sightRay_ok hr
    refine cndF ?_
    have x0:Ext h h1:=(Ext.push _ _).trans e1
    refine loop (σ:=TS) tbOk mtOk ⟨[5],[(20,[0,1,2,3,4,5,6,7,9,10,12,13,14,15,16,17,18,8,11,19,20,21,22],[0,0,0,4,0,16,0,64,240,0,512,2046,0,0,8192,0,32768,0,131072,524286,1048574,2097151,4194303])]⟩ (fun s=>[(8,.v (.slice (some ⟨h1.n,0,some s.ep⟩) s.its.length 1)),(5,.v (.pointer (some ⟨h.n,0,none⟩))),(2,.l 0 0),(4,.l 1 0)]) (fun s=>[[.int .i64 g.w,.slice ad g.cs.length fl],[.slice none 0 0,.slice none 0 0]]) (fun s h'=>Ext h h'∧MT lo h.n h' h.n s.o1 s.vs s.o2 s.es h1.n s.ep (s.its.map It.b)∧s.its.length≤s.vs.length+1∧(∀ i∈s.its,BOk g i)∧s.vs++remV s.its=T.1∧s.es++remE s.its=T.2) (fun s=>meas s.its) 380 ⟨[⟨(r.1,r.2,64,-1),q,T⟩],[],[],0,none,none⟩ (fun _=>rfl) ⟨rfl,rfl,rfl,rfl,trivial⟩ ⟨rfl,rfl,trivial⟩ ⟨x0.trans (Ext.push _ _),?_,by simp,?_,by simp [remV],by simp [remE]⟩ (fun s h' hI again => ?_)
    · exact ⟨(Bx.push.ext e1).ext (Ext.push _ _),rfl,rfl,(Row.push (e:=0) (enc:=bmE) (sz:=4) (l:=[(r.1,r.2,64,-1)])).p bmE4,fun ⟨_,q⟩=>(by cases q),fun ⟨_,q⟩=>(by cases q),Nat.ne_of_gt (Nat.lt_of_lt_of_le (Nat.lt_succ_self _) e1.n),fun ⟨_,q⟩=>(by cases q),fun ⟨_,q⟩=>(by cases q),fun _ ⟨_,q⟩=>(by cases q),fun _ ⟨_,q⟩=>(by cases q),fun _ ⟨_,q⟩=>(by cases q),x0.n,Nat.le_refl _,hlo⟩
    · intro i hi
      simp only [List.mem_cons,List.not_mem_nil,or_false] at hi
      subst hi
      exact ⟨by show (0:Int)≤64∧(64:Int)≤64;decide,.inr (.inr ⟨by show (0:Int) < 64;decide,rfl,hrr.1,hrr.2,hq⟩)⟩
    · obtain ⟨its,vs,es,ep,o1,o2⟩:=s
      obtain ⟨i1,i2,i3,i4,i5,i6⟩:=hI
      simp only at i2 i3 i4 i5 i6
      refine cnd (fun c1 => ?_) (fun c1 => ?_)
      · have c1:its.length≠0:=by
          have:=of_decide_eq_true c1
          simp only at this;omega
        obtain ⟨rest,x,rfl⟩:=snoc_of c1
        have hrl:rest.length+1≤2 ^ 31:=by
          have:=congrArg List.length i5
          simp at this i3;omega
        have hix:IntKind.i64.wrap (((rest++[x]).length:Int) - 1)=rest.length:=by
          rw [List.length_append,List.length_singleton,wr (by omega) (by omega)];omega
        have hld:Ld h' (addA ⟨h1.n,0,some ep⟩ ((IntKind.i64.wrap (((rest++[x]).length:Int) - 1)).toNat*4)) 4 (bmE x.b):=by
          rw [hix]
          have:=i2.g3.sls.ld bmE4 (i:=rest.length) (by simp)
          simpa using this
        refine And.intro ?_ ?_
        · show 0≤IntKind.i64.wrap (((rest++[x]).length:Int) - 1)∧IntKind.i64.wrap (((rest++[x]).length:Int) - 1) < ((rest++[x]).length:Int)
          rw [hix,List.length_append,List.length_singleton];omega
        refine ⟨_,hld,?_⟩
        refine And.intro ?_ ?_
        · show (0:Int)≤0∧0≤IntKind.i64.wrap (((rest++[x]).length:Int) - 1)∧IntKind.i64.wrap (((rest++[x]).length:Int) - 1)≤((rest++[x]).length:Int)
          rw [hix,List.length_append,List.length_singleton];omega
        refine cut0 (n:=rest.length) hix ?_
        rw [List.map_append] at i2
        have i2c:MT lo h.n h' h.n o1 vs o2 es h1.n ep (rest.map It.b):=MT.cut (x:=x.b) i2
        have hxb:=i4 x (by simp)
        have hrest:∀ i∈rest,BOk g i:=fun i hi=>i4 i (by simp [hi])
        rw [remV_snoc] at i5
        rw [remE_snoc] at i6
        have hp:0 < 3 ^ x.q:=Nat.pow_pos (by decide)
        have hnn:h.n≤h'.n:=i1.n
        have hln:rest.length≤vs.length:=by
          rw [List.length_append,List.length_singleton] at i3;omega
        refine cnd (fun c1 => ?_) (fun c1 => ?_)
        · have c1:x.b.2.2.1=0:=by simpa using c1
          have ht:x.t=([],[]):=by
            rcases hxb.2 with q | q | q
            · exact q.2
            · omega
            · omega
          rw [ht] at i5 i6
          exact again ⟨rest,vs,es,ep,o1,o2⟩ _ _ _ (by show meas rest < meas (rest++[x]);rw [meas_snoc];omega) ⟨rfl,rfl,rfl,rfl,trivial⟩ ⟨rfl,rfl,trivial⟩ ⟨i1,i2c,by show rest.length≤vs.length+1;omega,hrest,i5,i6⟩
        · have c1:x.b.2.2.1≠0:=by simpa using c1
          refine cnd (fun c2 => ?_) (fun c2 => ?_)
          · have c2:0≤x.b.2.2.2:=by simpa using c2
            have ht:x.t=([],[(0,x.b.2.2.2,x.b.2.2.1)]):=by
              rcases hxb.2 with q | q | q
              · exact absurd q.1 c1
              · exact q.2.2
              · omega
            have hen:Tr.en 0 x.b.2.2.2 x.b.2.2.1=[(0,x.b.2.2.2,x.b.2.2.1)]:=if_pos (by have:=hxb.1;omega)
            rw [ht] at i5 i6
            have hel:es.length+1≤Id.maxLen:=by
              have:=congrArg List.length i6
              simp only [List.length_append,List.length_cons] at this
              unfold Id.maxLen;omega
            refine callP (tend_ok h.n _ o2 es 0 x.b.2.2.2 x.b.2.2.1 h' i2c.bx (gv_cells _ _) i2c.l4' i2c.g2 i2c.s2 hel) ?_
            rintro v h'' ⟨o',b1,b2,b3,b4,b5,b6⟩
            have mt:=i2c.tend b1 b2 b3 b4 b5 b6 hnn
            rw [hen] at mt
            exact again ⟨rest,vs,es++[(0,x.b.2.2.2,x.b.2.2.1)],ep,o1,o'⟩ _ _ _ (by show meas rest < meas (rest++[x]);rw [meas_snoc];omega) ⟨rfl,rfl,rfl,rfl,trivial⟩ ⟨rfl,rfl,trivial⟩ ⟨ext_tend i1 i2c.l2 b4 b5,mt,by show rest.length≤vs.length+1;omega,hrest,i5,by rw [List.append_assoc];exact i6⟩
          · have c2:x.b.2.2.2 < 0:=by simpa using c2
            obtain ⟨hw,-,ha,hd,hgo⟩:0 < x.b.2.2.1∧x.b.2.2.2 = -1∧(0≤x.b.1∧x.b.1 < g.cs.length)∧(0≤x.b.2.1∧x.b.2.1≤3)∧Tr.go g.w g.cs.length (kdG g) (sightOf g) x.q x.b.1 x.b.2.1 x.b.2.2.1=some x.t:=by
              rcases hxb.2 with q | q | q
              · exact absurd q.1 c1
              · omega
              · exact q
            obtain ⟨q',t1,t2,hq',bk1,bk2,e5,e6⟩:=go_step hg ha hd ⟨hw,hxb.1.2⟩ hgo
            have hat:x.b.1.toNat < g.cs.length:=by omega
            obtain ⟨ad,rfl⟩:=hs.some hat
            refine ⟨_,i2c.bx.ldF (i:=0) rfl,?_⟩
            have xp:Ext h' (h'.push (.cells (vE (x.b.1,x.b.2.1,x.b.2.2.1)) 3 0)):=Ext.push _ _
            have hv2:vs.length+1≤20000:=by
              have:=congrArg List.length i5
              rw [e5] at this
              simp only [List.length_append,List.length_cons] at this
              omega
            have hvl:vs.length+1≤Id.maxLen:=by unfold Id.maxLen;omega
            obtain ⟨b,e,h2,ap,gw,gr⟩:=(i2c.g1.ext xp).app vE3 (by decide) hvl (Nat.le_trans hlo (Nat.le_trans hnn xp.n)) (x.b.1,x.b.2.1,x.b.2.2.1)
            refine ⟨vE (x.b.1,x.b.2.1,x.b.2.2.1),one_cells rfl,_,_,ap,?_⟩
            obtain ⟨hb2,m2⟩:=(i2c.ext xp).vis gw gr (Nat.le_trans hnn xp.n)
            obtain ⟨h3,st3,m3,x3⟩:∃ h3,St lo h2 (addA ⟨h.n,0,none⟩ 0) [gv (some (b,e)) (vs++[(x.b.1,x.b.2.1,x.b.2.2.1)]).length] h3∧MT lo h.n h3 h.n (some (b,e)) (vs++[(x.b.1,x.b.2.1,x.b.2.2.1)]) o2 es h1.n ep (rest.map It.b)∧Ext h h3:=⟨_,hb2.stF (i:=0) i2c.l4' (show 0+1≤2 from by decide),m2,ext_vis (i1.trans xp) i2c.l1 gr (Nat.le_refl _)⟩
            refine ⟨h3,st3,?_⟩
            have hkd:kdG g x.b.1=(g.cs[x.b.1.toNat]).1:=by unfold kdG;rw [List.getElem?_eq_getElem hat];rfl
            have ldc:Ld h3 (addA ad (x.b.1.toNat*2)) 2 [.int .i64 (kdG g x.b.1),.int .i64 (g.cs[x.b.1.toNat]).2]:=by
              rw [hkd];exact (hs.ext x3).ld cE2 hat
            refine And.intro ⟨ha.1,by show x.b.1 < (g.cs.length:Int);exact ha.2⟩ ?_
            refine ⟨_,ldc,?_⟩
            have hkk:=kdG_ok hg ha
            generalize kdG g x.b.1=kk at hkk e6 bk1 bk2 ⊢
            refine callP (spreadOf_ok kk x.b.2.2.1 h3 hkk hxb.1) ?_
            rintro v h4 ⟨rfl,x4⟩
            rw [spread_eq]
            generalize hsp:spN kk x.b.2.2.1=sp at e6 bk1 bk2 ⊢
            have m4:=m3.ext x4
            have x04:Ext h h4:=x3.trans x4
            have he6:=congrArg List.length i6
            rw [e6] at he6
            simp only [List.length_append] at he6
            refine cnd (fun c3 => ?_) (fun c3 => ?_)
            · have c3:kk=7:=by simpa using c3
              rw [if_pos c3] at e6 he6
              refine callP (tend_ok h.n _ o2 es 2 x.b.1 sp.2.2.2 h4 m4.bx (gv_cells _ _) m4.l4' m4.g2 m4.s2 (by unfold Id.maxLen;omega)) ?_
              rintro v h5 ⟨o',b1,b2,b3,b4,b5,b6⟩
              have m5:=m4.tend b1 b2 b3 b4 b5 b6 x04.n
              have x05:=ext_tend x04 m4.l2 b4 b5
              clear b1 b2 b3 b4 b5 b6
              refine callP (tend_ok h.n _ o' _ 3 x.b.1 sp.2.2.1 h5 m5.bx (gv_cells _ _) m5.l4' m5.g2 m5.s2 (by rw [List.length_append];unfold Id.maxLen;omega)) ?_
              rintro v h6 ⟨o'',b1,b2,b3,b4,b5,b6⟩
              have m6:=m5.tend b1 b2 b3 b4 b5 b6 x05.n
              have x06:=ext_tend x05 m5.l2 b4 b5
              clear b1 b2 b3 b4 b5 b6
              refine And.intro (by kernel_rfl) ?_
              refine callP (DirTurn_ok kk x.b.2.1 h6 hd) ?_
              rintro v h7 ⟨rfl,x7⟩
              have hdd:=Tr.dirT_ok (k:=kk) hd
              generalize Tr.dirT kk x.b.2.1=dd at hdd bk1 ⊢
              refine And.intro Is.r ?_
              refine And.intro Is.r ?_
              refine And.intro Is.r ?_
              refine And.intro Is.r ?_
              refine And.intro Is.r ?_
              refine And.intro Is.r ?_
              refine And.intro Is.r ?_
              refine callP (beamFrom_ok g x.b.1 dd sp.2.1 (some ad) fl h7 (hs.ext (x06.trans x7)) hg ha hdd) ?_
              rintro v h8 ⟨rfl,x8⟩
              refine And.intro Is.r ?_
              refine And.intro Is.r ?_
              refine And.intro Is.r ?_
              refine And.intro Is.r ?_
              refine callP (beamFrom_ok g x.b.1 x.b.2.1 sp.1 (some ad) fl h8 (hs.ext (x06.trans (x7.trans x8))) hg ha hd) ?_
              rintro v h9 ⟨rfl,x9⟩
              have m10:=(m6.ext (x7.trans (x8.trans x9))).ext (Ext.push h9 (.cells (bmE (bmF g x.b.1 dd sp.2.1)++bmE (bmF g x.b.1 x.b.2.1 sp.1)) 4 0))
              have x10:=(x06.trans (x7.trans (x8.trans x9))).trans (Ext.push h9 (.cells (bmE (bmF g x.b.1 dd sp.2.1)++bmE (bmF g x.b.1 x.b.2.1 sp.1)) 4 0))
              refine ⟨bmE (bmF g x.b.1 dd sp.2.1)++bmE (bmF g x.b.1 x.b.2.1 sp.1),n_cells (by decide) rfl,_,_,ap2 m10.g3 (by simp) (Nat.le_trans m10.l5 m10.l3) (by unfold Id.maxLen;omega) _ _,?_⟩
              refine again ⟨rest++[⟨bmF g x.b.1 dd sp.2.1,q',t1⟩,⟨bmF g x.b.1 x.b.2.1 sp.1,q',t2⟩],vs++[(x.b.1,x.b.2.1,x.b.2.2.1)],es++Tr.en 2 x.b.1 sp.2.2.2++Tr.en 3 x.b.1 sp.2.2.1,ep+1,some (b,e),o''⟩ _ _ _ ?_ ⟨?_,rfl,rfl,rfl,trivial⟩ ⟨rfl,rfl,trivial⟩ ⟨x10.set m10.l3 _,?_,?_,?_,?_,?_⟩
              · show meas (rest++[_,_]) < meas (rest++[x])
                rw [meas_snoc,hq',Nat.pow_succ]
                have hp':0 < 3 ^ q':=Nat.pow_pos (by decide)
                simp [meas];omega
              · show some (Sl.v (Value.slice (some ⟨h1.n,0,some (ep+1)⟩) (rest.length+2) 1))=_
                rw [List.length_append];rfl
              · have:=m10.put (ys:=[bmF g x.b.1 dd sp.2.1,bmF g x.b.1 x.b.2.1 sp.1])
                show MT _ _ _ _ _ _ _ _ _ _ ((rest++[_,_]).map It.b)
                rw [List.map_append]
                exact this
              · show (rest++[_,_]).length≤(vs++[_]).length+1
                simp;omega
              · intro i hi
                simp only [List.mem_append,List.mem_cons,List.not_mem_nil,or_false] at hi
                rcases hi with hi | rfl | rfl
                · exact hrest i hi
                · exact bk1
                · exact bk2
              · rw [← i5,e5];simp [remV]
              · rw [← i6,e6];simp [remE]
            · have c3:¬ kk=7:=by simpa using c3
              rw [if_neg c3] at e6 he6
              refine callP (tend_ok h.n _ o2 es 1 x.b.1 sp.2.2.2 h4 m4.bx (gv_cells _ _) m4.l4' m4.g2 m4.s2 (by unfold Id.maxLen;omega)) ?_
              rintro v h5 ⟨o',b1,b2,b3,b4,b5,b6⟩
              have m5:=m4.tend b1 b2 b3 b4 b5 b6 x04.n
              have x05:=ext_tend x04 m4.l2 b4 b5
              clear b1 b2 b3 b4 b5 b6
              refine callP (tend_ok h.n _ o' _ 3 x.b.1 sp.2.2.1 h5 m5.bx (gv_cells _ _) m5.l4' m5.g2 m5.s2 (by rw [List.length_append];unfold Id.maxLen;omega)) ?_
              rintro v h6 ⟨o'',b1,b2,b3,b4,b5,b6⟩
              have m6:=m5.tend b1 b2 b3 b4 b5 b6 x05.n
              have x06:=ext_tend x05 m5.l2 b4 b5
              clear b1 b2 b3 b4 b5 b6
              refine And.intro (by kernel_rfl) ?_
              refine callP (DirTurn_ok kk x.b.2.1 h6 hd) ?_
              rintro v h7 ⟨rfl,x7⟩
              have hdd:=Tr.dirT_ok (k:=kk) hd
              generalize Tr.dirT kk x.b.2.1=dd at hdd bk1 ⊢
              refine And.intro Is.r ?_
              refine And.intro Is.r ?_
              refine And.intro Is.r ?_
              refine And.intro Is.r ?_
              refine And.intro Is.r ?_
              refine And.intro Is.r ?_
              refine And.intro Is.r ?_
              refine callP (beamFrom_ok g x.b.1 dd sp.2.1 (some ad) fl h7 (hs.ext (x06.trans x7)) hg ha hdd) ?_
              rintro v h8 ⟨rfl,x8⟩
              refine And.intro Is.r ?_
              refine And.intro Is.r ?_
              refine And.intro Is.r ?_
              refine And.intro Is.r ?_
              refine callP (beamFrom_ok g x.b.1 x.b.2.1 sp.1 (some ad) fl h8 (hs.ext (x06.trans (x7.trans x8))) hg ha hd) ?_
              rintro v h9 ⟨rfl,x9⟩
              have m10:=(m6.ext (x7.trans (x8.trans x9))).ext (Ext.push h9 (.cells (bmE (bmF g x.b.1 dd sp.2.1)++bmE (bmF g x.b.1 x.b.2.1 sp.1)) 4 0))
              have x10:=(x06.trans (x7.trans (x8.trans x9))).trans (Ext.push h9 (.cells (bmE (bmF g x.b.1 dd sp.2.1)++bmE (bmF g x.b.1 x.b.2.1 sp.1)) 4 0))
              refine ⟨bmE (bmF g x.b.1 dd sp.2.1)++bmE (bmF g x.b.1 x.b.2.1 sp.1),n_cells (by decide) rfl,_,_,ap2 m10.g3 (by simp) (Nat.le_trans m10.l5 m10.l3) (by unfold Id.maxLen;omega) _ _,?_⟩
              refine again ⟨rest++[⟨bmF g x.b.1 dd sp.2.1,q',t1⟩,⟨bmF g x.b.1 x.b.2.1 sp.1,q',t2⟩],vs++[(x.b.1,x.b.2.1,x.b.2.2.1)],es++Tr.en 1 x.b.1 sp.2.2.2++Tr.en 3 x.b.1 sp.2.2.1,ep+1,some (b,e),o''⟩ _ _ _ ?_ ⟨?_,rfl,rfl,rfl,trivial⟩ ⟨rfl,rfl,trivial⟩ ⟨x10.set m10.l3 _,?_,?_,?_,?_,?_⟩
              · show meas (rest++[_,_]) < meas (rest++[x])
                rw [meas_snoc,hq',Nat.pow_succ]
                have hp':0 < 3 ^ q':=Nat.pow_pos (by decide)
                simp [meas];omega
              · show some (Sl.v (Value.slice (some ⟨h1.n,0,some (ep+1)⟩) (rest.length+2) 1))=_
                rw [List.length_append];rfl
              · have:=m10.put (ys:=[bmF g x.b.1 dd sp.2.1,bmF g x.b.1 x.b.2.1 sp.1])
                show MT _ _ _ _ _ _ _ _ _ _ ((rest++[_,_]).map It.b)
                rw [List.map_append]
                exact this
              · show (rest++[_,_]).length≤(vs++[_]).length+1
                simp;omega
              · intro i hi
                simp only [List.mem_append,List.mem_cons,List.not_mem_nil,or_false] at hi
                rcases hi with hi | rfl | rfl
                · exact hrest i hi
                · exact bk1
                · exact bk2
              · rw [← i5,e5];simp [remV]
              · rw [← i6,e6];simp [remE]
      · have c1:its=[]:=by
          have:=of_decide_eq_false c1
          simp only at this
          exact List.length_eq_zero_iff.1 (by omega)
        subst c1
        simp only [remV,remE,List.reverse_nil,List.flatMap_nil,List.append_nil] at i5 i6
        subst i5;subst i6
        refine ⟨_,i2.bx.ld rfl,?_⟩
        exact ⟨o1,o2,rfl,i2.g1.up i2.l1,i2.g2.up i2.l2,i1⟩
end Go.Proofs.YtjpcfaddimlbdaaGreat.Id
namespace Go.Proofs.YtjpcfaddimlbdaaGreat.Id
open Go.Id
open Go.Proofs
set_option linter.unusedVariables false
set_option maxRecDepth 100000
variable {X:Ctx Tryz.prog} {lo:Nat}
def ltG (g:Gd):Int→Int:=fun a=>(g.cs[a.toNat]?.getD (0,0)).2
def lightOf (g:Gd):List V3→Int
  | []=>0
  | e::l=>(if e.1=2 then e.2.2*ltG g e.2.1 else 0)+lightOf g l
def lite (g:Gd) (e:V3):Int:=if e.1=2 then e.2.2*ltG g e.2.1 else 0
theorem lightOf_snoc (g:Gd) (e:V3):∀ l:List V3,lightOf g (l++[e])=lightOf g l+lite g e
  | []=>by simp [lightOf,lite]
  | x::l=>by simp only [List.cons_append,lightOf,lightOf_snoc g e l];omega
theorem ltG_ok {g:Gd} (hg:∀ c∈g.cs,cOk c=true) (a:Int):0≤ltG g a∧ltG g a≤9:=by
  unfold ltG
  cases h:g.cs[a.toNat]? with
  | none=>simp
  | some c =>
    have:=hg c (List.mem_of_getElem? h)
    simp only [Option.getD_some]
    unfold cOk at this
    split at this<;>simp at this<;>omega
def EOk (g:Gd) (l:List V3):Prop:=∀ e∈l,(e.1=2→0≤e.2.1∧e.2.1 < g.cs.length)∧0≤e.2.2∧e.2.2≤64
theorem lite_ok {g:Gd} (hg:∀ c∈g.cs,cOk c=true) {e:V3} (he:0≤e.2.2∧e.2.2≤64):0≤lite g e∧lite g e≤576:=by
  unfold lite
  split
  · obtain ⟨h1,h2⟩:=ltG_ok hg e.2.1
    have:e.2.2*ltG g e.2.1≤64*9:=Int.mul_le_mul he.2 h2 h1 (by decide)
    exact ⟨Int.mul_nonneg he.1 h1,by omega⟩
  · exact ⟨by decide,by decide⟩
theorem ld_sub {h:Hp} {a:Addr} {n j m:Nat} {cs ys:List Value} (l:Ld h a n cs) (hj:sub? cs j m=some ys):Ld h (addA a j) m ys:=by
  obtain ⟨c,sz,h1,h2⟩:=l
  refine ⟨c,sz,h1,?_⟩
  obtain ⟨g1,g2⟩:=sub_some h2
  obtain ⟨g3,g4⟩:=sub_some hj
  have hl:cs.length=n:=by rw [g2,List.length_take,List.length_drop];omega
  unfold sub?
  rw [if_pos (by simp only [addA];omega),g4,g2]
  simp only [addA,List.drop_take,List.drop_drop,List.take_take]
  rw [Nat.min_eq_left (by omega)]
theorem gw_sls {α:Type} {lo:Nat} {h:Hp} {enc:α→List Value} {sz:Nat} {o:Option (Nat×Nat)} {l:List α} (g:Gw lo h enc sz o l):∃ a fl,gv o l.length = .slice a l.length fl∧Sls h enc sz a l:=by
  match o,g with
  | none,g=>exact ⟨none,0,by rw [show l=[] from g];rfl,g⟩
  | some (b,e),g=>exact ⟨_,1,rfl,g.2.sls⟩
theorem TrailLight_ok (g:Gd) (k:Int) (T:Tr.Tr) (ad:Option Addr) (fl:Nat) (h:Hp) (hs:Sls h cE 2 ad g.cs) (hn:(g.cs.length:Int) < 2 ^ 31) (hT:IsTrail g k T) (hm:T.1.length≤20000∧T.2.length≤60000) (hE:EOk g T.2) (hc:T.2≠[]→∀ c∈g.cs,cOk c=true):Tri X lo 90 [.agg #[.int .i64 g.w,.slice ad g.cs.length fl],.int .i64 k] h fun v h'=>v = .int .i64 (lightOf g T.2)∧Ext h h':=by
  refine enter tbOk mtOk ⟨[],[(6,[0,1,2,3,4,5,6,7,8,9,10,11,12],[0,0,2,0,8,0,32,120,248,504,1022,2047,4095])]⟩ 400 Tryz.func90 rfl rfl rfl fun hlo => ?_
  refine callP (trailOf_ok g k T ad fl h hs hn hT hm) ?_
  rintro v h1 ⟨o1,o2,rfl,g1,g2,e1⟩
  obtain ⟨a2,f2,q2,s2⟩:=gw_sls g2
  rw [q2]
  refine loop (σ:=Nat) tbOk mtOk ⟨[],[(6,[0,1,2,3,4,5,6,7,8,9,10,11,12],[0,0,2,0,8,0,32,120,248,504,1022,2047,4095])]⟩ (fun i=>[(13,.v (.int .i64 (i:Int))),(12,.v (.int .i64 (T.2.length:Int))),(11,.v (.slice a2 T.2.length f2)),(5,.v (.int .i64 (lightOf g (T.2.take i)))),(2,.l 0 0)]) (fun _=>[[.int .i64 g.w,.slice ad g.cs.length fl]]) (fun i h'=>i≤T.2.length∧h'=h1∧0≤lightOf g (T.2.take i)∧lightOf g (T.2.take i)≤576*i) (fun i=>T.2.length - i) 380 0 (fun _=>rfl) ⟨rfl,rfl,rfl,rfl,rfl,trivial⟩ ⟨rfl,trivial⟩ ⟨by omega,rfl,Int.le_refl 0,by show (0:Int)≤576*((0:Nat):Int);decide⟩ (fun i h' hI again => ?_)
  obtain ⟨i1,rfl,i3,i4⟩:=hI
  refine cnd (fun c1 => ?_) (fun c1 => ?_)
  · have c1:i < T.2.length:=by simpa using c1
    obtain ⟨a2,rfl⟩:=s2.some c1
    have htk:T.2.take (i+1)=T.2.take i++[T.2[i]]:=List.take_succ_eq_append_getElem c1
    have hcs:=hc (by intro e;rw [e] at c1;simp at c1)
    obtain ⟨he1,he2⟩:=hE T.2[i] (List.getElem_mem c1)
    have hl:=lite_ok hcs he2
    have hld:=s2.ld vE3 c1
    have hsn:=lightOf_snoc g T.2[i] (T.2.take i)
    rw [← htk] at hsn
    generalize T.2[i]=e at *
    refine And.intro ⟨by omega,by omega⟩ ?_
    refine ⟨_,hld,?_⟩
    refine cnd (fun c2 => ?_) (fun c2 => ?_)
    · have c2:e.1=2:=by simpa using c2
      obtain ⟨he3,he4⟩:=he1 c2
      have hat:e.2.1.toNat < g.cs.length:=by omega
      obtain ⟨ad,rfl⟩:=hs.some hat
      have hlt:ltG g e.2.1=(g.cs[e.2.1.toNat]).2:=by unfold ltG;rw [List.getElem?_eq_getElem hat];rfl
      have ldc:Ld h' (addA (addA ad (e.2.1.toNat*2)) 1) 1 [.int .i64 (ltG g e.2.1)]:=by
        rw [hlt];exact ld_sub ((hs.ext e1).ld cE2 hat) rfl
      have hll:lite g e=e.2.2*ltG g e.2.1:=if_pos c2
      refine And.intro (by kernel_rfl) ?_
      refine And.intro ⟨he3,by show e.2.1 < (g.cs.length:Int);exact he4⟩ ?_
      refine ⟨_,ldc,?_⟩
      have hw1:IntKind.i64.wrap (lightOf g (T.2.take i)+IntKind.i64.wrap (e.2.2*ltG g e.2.1))=lightOf g (T.2.take (i+1)):=by
        rw [← hll,wr (n:=lite g e) (by omega) (by omega),← hsn,wr (by omega) (by omega)]
      refine again (i+1) _ _ _ (by omega) ⟨?_,rfl,rfl,?_,rfl,trivial⟩ ⟨rfl,trivial⟩ ⟨by omega,rfl,by rw [hsn];omega,by rw [hsn];omega⟩
      · show some (Sl.v (.int .i64 (IntKind.i64.wrap ((i:Int)+1))))=_
        rw [wr (by omega) (by omega)];rfl
      · show some (Sl.v (.int .i64 (IntKind.i64.wrap (lightOf g (T.2.take i)+IntKind.i64.wrap (e.2.2*ltG g e.2.1)))))=_
        rw [hw1]
    · have c2:e.1≠2:=by simpa using c2
      have hl0:lite g e=0:=if_neg c2
      rw [hl0,Int.add_zero] at hsn
      refine again (i+1) _ _ _ (by omega) ⟨?_,rfl,rfl,?_,rfl,trivial⟩ ⟨rfl,trivial⟩ ⟨by omega,rfl,by rw [hsn];exact i3,by rw [hsn];omega⟩
      · show some (Sl.v (.int .i64 (IntKind.i64.wrap ((i:Int)+1))))=_
        rw [wr (by omega) (by omega)];rfl
      · show some (Sl.v (.int .i64 (lightOf g (T.2.take i))))=_
        rw [← hsn]
  · have c1:T.2.length=i:=by simp at c1;omega
    refine And.intro ?_ e1
    show Value.int .i64 (lightOf g (T.2.take i))=_
    rw [← c1,List.take_length]
end Go.Proofs.YtjpcfaddimlbdaaGreat.Id
namespace Go.Proofs.YtjpcfaddimlbdaaGreat.Id
open Go.Id
open Go.Proofs
set_option linter.unusedVariables false
theorem rays_fresh {w hh:Nat} {kd:Int→Int} (hw:1≤w∧w≤5) (hh1:1≤hh∧hh≤5):∀ c∈rays w hh,Tr.Fresh w ((w:Int)*hh) kd c:=by
  intro c hc
  have hc5:w=1∨w=2∨w=3∨w=4∨w=5:=by omega
  unfold rays til at hc
  simp only [List.mem_append,List.mem_map,List.mem_range] at hc
  rcases hc with ((⟨i,hi,rfl⟩ | ⟨i,hi,rfl⟩) | ⟨i,hi,rfl⟩) | ⟨i,hi,rfl⟩
  · rintro ⟨p1,p2⟩ hp ⟨_,_,hx⟩
    have hp1:0≤p1∧p1 < (w:Int)*hh:=hp.1
    have hx:Tr.nxt w ((w:Int)*hh) p1 2=some (i:Int):=hx
    simp [Tr.nxt] at hx
    omega
  · rintro ⟨p1,p2⟩ hp ⟨_,_,hx⟩
    have hx:Tr.nxt w ((w:Int)*hh) p1 3=some ((i:Int)*w+w - 1):=hx
    simp [Tr.nxt] at hx
    rcases hc5 with rfl | rfl | rfl | rfl | rfl<;>omega
  · rintro ⟨p1,p2⟩ hp ⟨_,_,hx⟩
    have hp1:0≤p1∧p1 < (w:Int)*hh:=hp.1
    have hx:Tr.nxt w ((w:Int)*hh) p1 0=some ((hh:Int)*w - 1 - i):=hx
    simp [Tr.nxt] at hx
    rcases hc5 with rfl | rfl | rfl | rfl | rfl<;>omega
  · rintro ⟨p1,p2⟩ hp ⟨_,_,hx⟩
    have hp1:0≤p1∧p1 < (w:Int)*hh:=hp.1
    have hx:Tr.nxt w ((w:Int)*hh) p1 1=some (((hh:Int) - 1 - i)*w):=hx
    simp [Tr.nxt] at hx
    rcases hc5 with rfl | rfl | rfl | rfl | rfl<;>omega
theorem lastIx_lt {x:Cl}:∀ (l:List Cl) (p:Nat×Int),p.2 < p.1→(l.foldl (fun (p:Nat×Int) y=>(p.1+1,if y=x then (p.1:Int) else p.2)) p).2 < ((l.foldl (fun (p:Nat×Int) y=>(p.1+1,if y=x then (p.1:Int) else p.2)) p).1:Int)
  | [],p,h=>h
  | y::l,p,h=>by
    rw [List.foldl_cons]
    refine lastIx_lt l _ ?_
    show (if y=x then (p.1:Int) else p.2) < ((p.1+1:Nat):Int)
    split<;>omega
theorem sightOf_lt {g:Gd} (hg:gOk g=true) (a d:Int):sightOf g a d < many g:=by
  have h1:=sideRays_len hg
  have h2:=lastIx_lt (x:=(a,(d+2) % 4)) (sideRays g) (0,-1) (by decide)
  rw [lastIx_n] at h2
  unfold sightOf
  split
  · unfold lastIx;omega
  · omega
theorem isTrail_ex (g:Gd) (k:Int):∃ T,IsTrail g k T∧(T.1.length≤20000∧T.2.length≤60000)∧EOk g T.2∧(T.2≠[]→∀ c∈g.cs,cOk c=true)∧∀ e∈T.2,e.1=0→0≤e.2.1∧e.2.1 < many g:=by
  unfold IsTrail
  cases hr:sightRay g k with
  | none=>exact ⟨([],[]),rfl,by simp,fun e he=>(by cases he),fun h=>absurd rfl h,fun e he=>(by cases he)⟩
  | some r =>
    obtain ⟨hg,h1,h2⟩:=sightRay_ok hr
    obtain ⟨w,hh,g1,g2,g3,g4,g5⟩:=gOk_nat hg
    obtain ⟨_,_,_,g6,g7,g8⟩:=gOk_iff.1 hg
    have hm:r∈rays w hh:=by
      unfold sightRay at hr
      by_cases c:gOk g=true∧0≤k∧k < many g
      · rw [if_pos c] at hr
        have:=List.mem_of_getElem? hr
        unfold sideRays at this
        rwa [g1,g2,Int.toNat_natCast,Int.toNat_natCast] at this
      · rw [if_neg c] at hr;cases hr
    have hf:Tr.Fresh g.w g.cs.length (kdG g) r:=by rw [g1,g5];exact rays_fresh g3 g4 r hm
    have hl:g.cs.length≤25:=by
      rw [g1] at g6;omega
    obtain ⟨q,t,hq,hb⟩:=Tr.ex (sg:=sightOf g) (kd:=kdG g) (w:=g.w) (by omega) g7 (N:=g.cs.length) rfl 64 (by omega) (4*g.cs.length) r [] (Tr.Inv.start ⟨h1,h2⟩ hf) (by simp)
    have he:=Tr.ends_le q _ _ _ _ hq
    have hE:=(Tr.go_ends (w:=g.w) (by omega) g7 q _ _ _ t ⟨h1,h2⟩ (by omega) hq).1
    refine ⟨t,⟨q,hq⟩,⟨by omega,by omega⟩,?_,fun _=>g8,fun e hm he => ?_⟩
    rotate_left
    · obtain ⟨e1,e2,e3⟩:=hE e hm
      rcases e3 with q | q | q | q
      · obtain ⟨_,a,d,o1,o2,_,_,o3⟩:=q
        rw [o3]
        exact ⟨sight_ge hg o1.1 o1.2 o2,sightOf_lt hg a d⟩
      · omega
      · omega
      · omega
    intro e hm
    obtain ⟨e1,e2,e3⟩:=hE e hm
    exact ⟨fun h=>by
      rcases e3 with q | q | q | q
      · omega
      · omega
      · exact q.2.1
      · omega,by omega,e2⟩
end Go.Proofs.YtjpcfaddimlbdaaGreat.Id
namespace Go.Proofs.YtjpcfaddimlbdaaGreat.Id
open Go.Id
open Go.Proofs
set_option linter.unusedVariables false
noncomputable def trail (g:Gd) (k:Int):Tr.Tr:=(isTrail_ex g k).choose
theorem trail_ok (g:Gd) (k:Int):IsTrail g k (trail g k)∧((trail g k).1.length≤20000∧(trail g k).2.length≤60000)∧EOk g (trail g k).2∧((trail g k).2≠[]→∀ c∈g.cs,cOk c=true)∧∀ e∈(trail g k).2,e.1=0→0≤e.2.1∧e.2.1 < many g:=(isTrail_ex g k).choose_spec
noncomputable def lightAt (g:Gd) (k:Int):Int:=lightOf g (trail g k).2
noncomputable def pic (g:Gd):List Int:=(List.range (many g).toNat).map fun (k:Nat)=>lightAt g k
theorem pic_len (g:Gd):(pic g).length=(many g).toNat:=by simp [pic]
end Go.Proofs.YtjpcfaddimlbdaaGreat.Id
namespace Go.Proofs.YtjpcfaddimlbdaaGreat.Id
open Go.Id
open Go.Proofs
set_option linter.unusedVariables false
structure Relit (g g':Gd):Prop where
  w:g'.w=g.w
  n:g'.cs.length=g.cs.length
  c:∀ (i:Nat) (c c':Cl),g.cs[i]? = some c→g'.cs[i]? = some c'→(c.1≠7∧c'=c)∨(c.1=7∧(c'.1=7∨c'.1=1)∧cOk c'=true)
variable {g g':Gd}
theorem pic_get {g:Gd} {i:Nat} (hi:i < (pic g).length):(pic g)[i]=lightAt g i:=by simp [pic]
end Go.Proofs.YtjpcfaddimlbdaaGreat.Id
namespace Go.Id
set_option linter.unusedVariables false
theorem setL_pre (p:List Value):∀ (ys c:List Value) (o:Nat),setL (p++c) (p.length+o) ys=p++setL c o ys
  | [],c,o=>rfl
  | y::ys,c,o=>by
    unfold setL
    have:(p++c).set (p.length+o) y=p++c.set o y:=by rw [List.set_append_right _ _ (by omega)];congr 2;omega
    rw [this,Nat.add_assoc];exact setL_pre p ys _ _
theorem setL_suf (q:List Value):∀ (ys c:List Value) (o:Nat),o+ys.length≤c.length→setL (c++q) o ys=setL c o ys++q
  | [],c,o,_=>rfl
  | y::ys,c,o,h=>by
    simp only [List.length_cons] at h
    unfold setL
    rw [List.set_append_left _ _ (by omega)]
    exact setL_suf q ys _ _ (by rw [List.length_set];omega)
section
variable {α:Type}
theorem flat_set {enc:α→List Value} {sz:Nat} (he:∀ x,(enc x).length=sz) {l:List α} {j f:Nat} (hj:j < l.length) {x:α} {ys:List Value} (hf:f+ys.length≤sz) (hx:setL (enc l[j]) f ys=enc x):setL (l.flatMap enc) (j*sz+f) ys=(l.set j x).flatMap enc:=by
  have e1:l.flatMap enc=(l.take j).flatMap enc++(enc l[j]++(l.drop (j+1)).flatMap enc):=by
    conv=>lhs;rw [← List.take_append_drop j l,List.flatMap_append,List.drop_eq_getElem_cons hj,List.flatMap_cons]
  have e2:(l.set j x).flatMap enc=(l.take j).flatMap enc++(enc x++(l.drop (j+1)).flatMap enc):=by
    rw [List.set_eq_take_append_cons_drop,if_pos hj,List.flatMap_append,List.flatMap_cons]
  have hl:((l.take j).flatMap enc).length=j*sz:=by rw [flat_len he,List.length_take,Nat.min_eq_left (Nat.le_of_lt hj)]
  rw [e1,e2,← hl,setL_pre,setL_suf _ _ _ _ (by rw [he];exact hf),hx]
theorem Row.stF {lo:Nat} {h:Hp} {b e:Nat} {enc:α→List Value} {sz:Nat} {l:List α} (r:Row h b e enc sz l) (he:∀ x,(enc x).length=sz) (hlo:lo≤b) {j f:Nat} (hj:j < l.length) {x:α} {ys:List Value} (hf:f+ys.length≤sz) (hx:setL (enc l[j]) f ys=enc x) :
    St lo h (addA (addA ⟨b,0,.some e⟩ (j*sz)) f) ys (h.set b (.cells ((l.set j x).flatMap enc) sz e)):=by
  refine ⟨hlo,r.lt,_,sz,r.g,?_,?_⟩
  · have:(j+1)*sz≤l.length*sz:=Nat.mul_le_mul_right _ hj
    rw [Nat.add_mul] at this
    rw [flat_len he];simp only [addA];omega
  · rw [← flat_set he hj hf hx]
    simp only [addA,Nat.zero_add];rfl
theorem Row.st {lo:Nat} {h:Hp} {b e:Nat} {enc:α→List Value} {sz:Nat} {l:List α} (r:Row h b e enc sz l) (he:∀ x,(enc x).length=sz) (hlo:lo≤b) {j:Nat} (hj:j < l.length) (x:α) :
    St lo h (addA ⟨b,0,.some e⟩ (j*sz)) (enc x) (h.set b (.cells ((l.set j x).flatMap enc) sz e)):=by
  have:=r.stF he hlo (f:=0) (x:=x) (ys:=enc x) hj (by rw [he];omega) (setL_all [] _ _ (by rw [he,he]))
  exact this
theorem zeros_flat {enc:α→List Value} {z:List Value} {x:α} (hz:enc x=z):∀ n,zeros z n=(List.replicate n x).flatMap enc
  | 0=>rfl
  | n+1=>by rw [zeros,List.replicate_succ,List.flatMap_cons,hz,zeros_flat hz n]
end
section
variable {α:Type}
def Gx (lo:Nat) (h:Hp) (enc:α→List Value) (sz:Nat) (o:Option (Nat×Nat)) (l:List α):Prop :=
  match o with
  | none=>l=[]
  | some (b,e)=>lo≤b∧Row h b e enc sz l
variable {lo:Nat} {h h':Hp} {enc:α→List Value} {sz:Nat} {o:Option (Nat×Nat)} {l:List α}
theorem Gx.w (g:Gx lo h enc sz o l) (he:∀ x,(enc x).length=sz):Gw lo h enc sz o l:=by
  match o,g with
  | none,g=>exact g
  | some (b,e),⟨g1,g2⟩=>exact ⟨g1,g2.p he⟩
theorem Gx.lt (g:Gx lo h enc sz o l) {i:Nat} (hi:isB o i):i < h.n∧lo≤i:=by
  obtain ⟨e,rfl⟩:=hi
  exact ⟨g.2.lt,g.1⟩
theorem Gx.keep (g:Gx lo h enc sz o l) (hn:h.n≤h'.n) (hg:∀ i,i < h.n→isB o i→h'.g i=h.g i):Gx lo h' enc sz o l:=by
  match o,g with
  | none,g=>exact g
  | some (b,e),⟨g1,g2⟩=>exact ⟨g1,Nat.lt_of_lt_of_le g2.lt hn,by rw [hg b g2.lt ⟨e,rfl⟩];exact g2.g⟩
theorem Gx.ext (g:Gx lo h enc sz o l) (x:Ext h h'):Gx lo h' enc sz o l:=g.keep x.n fun i hi _=>x.g i hi
theorem Gx.cells (g:Gx lo h enc sz o l) (he:∀ x,(enc x).length=sz):SlCells h (gv o l.length) sz (l.flatMap enc):=by
  match o,g with
  | none,g=>subst g;rfl
  | some (b,e),⟨g1,g2⟩ =>
    show if l.length=0 then _ else _
    split
    · rename_i hl
      rw [List.length_eq_zero_iff.1 hl];rfl
    · obtain ⟨_,c,sz',h1,h2⟩:=g2.sls he
      exact ⟨c,sz',h1,h2⟩
theorem Gx.apps (g:Gx lo h enc sz o l) (he:∀ x,(enc x).length=sz) (hz:sz≠0) (m:List α) (hm:l.length+m.length≤Id.maxLen) (hlo:lo≤h.n) :
    ∃ o' h',Ap lo h sz (gv o l.length) (m.flatMap enc) m.length (gv o' (l++m).length) h'∧Gx lo h' enc sz o' (l++m)∧Grow o o' h h':=by
  match o,g with
  | none,g =>
    subst g
    by_cases hm0:m.length=0
    · obtain rfl:=List.length_eq_zero_iff.1 hm0
      exact ⟨none,h,⟨hz,by simp,rfl,rfl⟩,rfl,⟨Nat.le_refl _,fun _ _ _=>rfl,fun i hi => .inl hi⟩⟩
    · refine ⟨some (h.n,0),h.push (.cells (m.flatMap enc) sz 0),⟨hz,flat_len he m,?_⟩,⟨hlo,Row.push⟩,⟨by simp [Hp.push],fun i hi _=>by simp [Hp.push];omega,fun i hi => .inr (by obtain ⟨e,hh⟩:=hi;cases hh;exact Nat.le_refl _)⟩⟩
      show (if m.length=0 then _ else _)
      rw [if_neg hm0]
      exact ⟨by simpa using hm,rfl,rfl⟩
  | some (b,e),⟨g1,g2⟩ =>
    refine ⟨some (b,e+1),h.set b (.cells ((l++m).flatMap enc) sz (e+1)),?_,⟨g1,Row.set g2.lt⟩,⟨Nat.le_refl _,fun i hi hb => ?_,fun i hi => .inl ?_⟩⟩
    · have:=g2.app (m:=m) (lo:=lo) he hz g1 hm
      rw [List.length_append]
      exact this
    · simp only [Hp.set];rw [if_neg];intro e';subst e';exact hb ⟨e,rfl⟩
    · obtain ⟨e',hh⟩:=hi;cases hh;exact ⟨e,rfl⟩
end
end Go.Id
namespace Go.Proofs.YtjpcfaddimlbdaaGreat.Id
open Go.Id
open Go.Proofs
set_option linter.unusedVariables false
set_option maxRecDepth 100000
variable {X:Ctx Tryz.prog} {lo:Nat}
def inE (i:Int):List Value:=[.int .i64 i]
abbrev AR (h:Hp) (b e:Nat) (d:Array Int):Prop:=Row h b e inE 1 d.toList
abbrev sa (b e n fl:Nat):Value := .slice (some ⟨b,0,some e⟩) n fl
def PA (b e n:Nat) (h:Hp) (D:Array Int) (h':Hp):Prop:=Ext1 b h h'∧AR h' b e D∧D.size=n
theorem arr_get {d:Array Int} {i:Nat} (hi:i < d.size):d[i]! = d.toList[i]'(by simpa using hi):=by
  rw [getElem!_pos d i hi];simp
theorem AR.ldI {h:Hp} {b e:Nat} {d:Array Int} (r:AR h b e d) {x:Int} {i:Nat} (hx:x=(i:Int)) (hi:i < d.size):Ld h (addA ⟨b,0,some e⟩ (x.toNat*1)) 1 [.int .i64 d[i]!]:=by
  subst hx
  have:=(r.sls (fun _=>rfl)).ld (fun _=>rfl) (i:=i) (by simpa using hi)
  rw [arr_get hi]
  exact this
theorem AR.stI {h:Hp} {b e:Nat} {d:Array Int} (r:AR h b e d) (hlo:lo≤b) {x:Int} {i:Nat} (hx:x=(i:Int)) (hi:i < d.size) (v:Int):St lo h (addA ⟨b,0,some e⟩ (x.toNat*1)) [.int .i64 v] (h.set b (.cells ((d.setIfInBounds i v).toList.flatMap inE) 1 e)):=by
  subst hx
  have:=r.st (lo:=lo) (fun _=>rfl) hlo (j:=i) (by simpa using hi) v
  rw [Array.toList_setIfInBounds]
  exact this
def hsw (h:Hp) (b e:Nat) (d:Array Int) (i j:Nat):Hp:=(h.set b (.cells ((d.setIfInBounds i d[j]!).toList.flatMap inE) 1 e)).set b (.cells ((Go.Sort.swp d i j).toList.flatMap inE) 1 e)
theorem AR.sw1 {h:Hp} {b e:Nat} {d:Array Int} (r:AR h b e d) (i j:Nat):AR (h.set b (.cells ((d.setIfInBounds i d[j]!).toList.flatMap inE) 1 e)) b e (d.setIfInBounds i d[j]!):=Row.set r.lt
theorem AR.sw {h:Hp} {b e:Nat} {d:Array Int} (r:AR h b e d) (i j:Nat):AR (hsw h b e d i j) b e (Go.Sort.swp d i j):=Row.set (r.sw1 i j).lt
theorem hsw_ext {h:Hp} {b e:Nat} {d:Array Int} (i j:Nat):Ext1 b h (hsw h b e d i j):=(((Ext.refl h).one b).set _ (.inl rfl)).set _ (.inl rfl)
theorem swp_size' (d:Array Int) (i j:Nat):(Go.Sort.swp d i j).size=d.size:=Go.Sort.swp_size d i j
theorem wz {x y:Int} (h1:x=y) (h2 : -9223372036854775808≤y∧y≤9223372036854775807):IntKind.i64.wrap x=y:=by rw [wr (by omega) (by omega),h1]
theorem isNaN_ok (x:Int) (h:Hp):Tri X lo 167 [.int .i64 x] h fun v h'=>v = .bool false∧h'=h:=by
  refine enter tbOk mtOk ⟨[],[]⟩ 400 Tryz.func167 rfl rfl rfl fun hlo => ?_
  refine And.intro ?_ rfl
  show Value.bool (x != x) = .bool false
  simp
theorem Less_ok (x y:Int) (h:Hp):Tri X lo 145 [.int .i64 x,.int .i64 y] h fun v h'=>v = .bool (Go.Sort.ltInt x y)∧h'=h:=by
  refine enter tbOk mtOk ⟨[],[]⟩ 400 Tryz.func145 rfl rfl rfl fun hlo => ?_
  refine callP (isNaN_ok x h) ?_
  rintro v h' ⟨rfl,rfl⟩
  refine cndF ?_
  refine cndF ?_
  exact And.intro rfl rfl
end Go.Proofs.YtjpcfaddimlbdaaGreat.Id
namespace Go.Proofs.YtjpcfaddimlbdaaGreat.Id
open Go.Id Go.Sort
open Go.Proofs
set_option linter.unusedVariables false
set_option maxRecDepth 100000
variable {X:Ctx Tryz.prog} {lo:Nat}
theorem insInner_eq (lt:Int→Int→Bool) (a:Nat) {j:Nat} (hj:a < j) (d:Array Int):insInner lt a j d=if lt d[j]! d[j - 1]! = true then insInner lt a (j - 1) (swp d j (j - 1)) else d:=by
  obtain ⟨k,rfl⟩:∃ k,j=k+1:=⟨j - 1,by omega⟩
  rw [insInner]
  simp only [Nat.add_sub_cancel]
  have:decide (k+1 > a)=true:=decide_eq_true hj
  rw [this];simp
theorem insInner_stop (lt:Int→Int→Bool) (a:Nat) {j:Nat} (hj:¬ a < j) (d:Array Int):insInner lt a j d=d:=by
  cases j with
  | zero=>rfl
  | succ k =>
    rw [insInner]
    have:decide (k+1 > a)=false:=decide_eq_false hj
    rw [this];simp
theorem insertionSort_ok (b e n fl:Nat) (d0:Array Int) (a c:Nat) (h:Hp) (r0:AR h b e d0) (hn:d0.size=n) (hc:c≤n) (hN:n < 2 ^ 31) (ha:a≤n) (hb:lo≤b):Tri X lo 139 [sa b e n fl,.int .i64 (a:Int),.int .i64 (c:Int)] h fun v h'=>v = .tuple #[]∧PA b e n h (insertionSort ltInt d0 a c) h':=by
  refine enter tbOk mtOk ⟨[],[(4,[0,1,2,3,4,5,6,7,8,9,10,11,12,13,14],[0,0,3,7,15,15,63,127,15,15,527,1807,3855,8191,16383]),(6,[0,1,2,3,4,5,6,7,8,9,10,11,12,13,14,15,16,17],[0,0,0,0,8,0,0,64,224,480,0,0,3072,7168,16355,32739,65535,131071])]⟩ 400 Tryz.func139 rfl rfl rfl fun hlo => ?_
  have e1:IntKind.i64.wrap ((a:Int)+1)=((a+1:Nat):Int):=wz (by omega) (by omega)
  refine loop (σ:=Nat×Array Int) tbOk mtOk ⟨[],[(4,[0,1,2,3,4,5,6,7,8,9,10,11,12,13,14],[0,0,3,7,15,15,63,127,15,15,527,1807,3855,8191,16383]),(6,[0,1,2,3,4,5,6,7,8,9,10,11,12,13,14,15,16,17],[0,0,0,0,8,0,0,64,224,480,0,0,3072,7168,16355,32739,65535,131071])]⟩ (fun s=>[(6,.v (.int .i64 (s.1:Int))),(0,.v (sa b e n fl)),(1,.v (.int .i64 (a:Int))),(2,.v (.int .i64 (c:Int)))]) (fun _=>[]) (fun s h'=>a < s.1∧s.2.size=n∧Ext1 b h h'∧AR h' b e s.2∧insOuter ltInt a c s.1 s.2=insertionSort ltInt d0 a c) (fun s=>c - s.1) 400 (a+1,d0) (fun _=>rfl) ⟨by rw [← e1];rfl,rfl,rfl,rfl,trivial⟩ trivial ⟨Nat.lt_succ_self a,hn,(Ext.refl _).one b,r0,rfl⟩ (fun s h1 hI again => ?_)
  obtain ⟨i0,i1,i2,i3,i4⟩:=hI
  rw [insOuter] at i4
  refine cnd (fun c1 => ?_) (fun c1 => ?_)
  · have c1:s.1 < c:=by simpa using c1
    rw [if_pos c1] at i4
    have ei:IntKind.i64.wrap ((s.1:Int)+1)=((s.1+1:Nat):Int):=wz (by omega) (by omega)
    refine loop (σ:=Nat×Array Int) tbOk mtOk ⟨[],[(4,[0,1,2,3,4,5,6,7,8,9,10,11,12,13,14],[0,0,3,7,15,15,63,127,15,15,527,1807,3855,8191,16383]),(6,[0,1,2,3,4,5,6,7,8,9,10,11,12,13,14,15,16,17],[0,0,0,0,8,0,0,64,224,480,0,0,3072,7168,16355,32739,65535,131071])]⟩ (fun u=>[(7,.v (.int .i64 (u.1:Int))),(6,.v (.int .i64 (s.1:Int))),(0,.v (sa b e n fl)),(1,.v (.int .i64 (a:Int))),(2,.v (.int .i64 (c:Int)))]) (fun _=>[]) (fun u h'=>u.1≤s.1∧u.2.size=n∧Ext1 b h h'∧AR h' b e u.2∧insInner ltInt a u.1 u.2=insInner ltInt a s.1 s.2) (fun u=>u.1) 400 (s.1,s.2) (fun _=>rfl) ⟨rfl,rfl,rfl,rfl,rfl,trivial⟩ trivial ⟨Nat.le_refl _,i1,i2,i3,rfl⟩ (fun u h2 hI again' => ?_)
    obtain ⟨j0,j1,j2,j3,j4⟩:=hI
    have out:insInner ltInt a u.1 u.2=u.2→insOuter ltInt a c (s.1+1) u.2=insertionSort ltInt d0 a c:=fun q=>by rw [← i4,← j4,q]
    refine And.intro (by kernel_rfl) ?_
    refine cnd (fun c2 => ?_) (fun c2 => ?_)
    · have c2:a < u.1:=by simpa using c2
      have ej:IntKind.i64.wrap ((u.1:Int) - 1)=((u.1 - 1:Nat):Int):=wz (by omega) (by omega)
      rw [insInner_eq ltInt a c2] at j4 out
      refine And.intro ⟨by omega,by omega⟩ ?_
      refine ⟨_,j3.ldI rfl (by omega),?_⟩
      refine And.intro ⟨by omega,by omega⟩ ?_
      refine ⟨_,j3.ldI ej (by omega),?_⟩
      refine callP (Less_ok _ _ _) ?_
      rintro v h3 ⟨rfl,rfl⟩
      refine cnd (fun c3 => ?_) (fun c3 => ?_)
      · rw [if_pos c3] at j4
        refine And.intro (by kernel_rfl) ?_
        refine And.intro ⟨by omega,by omega⟩ ?_
        refine ⟨_,j3.ldI ej (by omega),?_⟩
        refine And.intro ⟨by omega,by omega⟩ ?_
        refine ⟨_,j3.ldI rfl (by omega),?_⟩
        refine And.intro ⟨by omega,by omega⟩ ?_
        refine ⟨_,j3.stI (lo:=lo) hb rfl (i:=u.1) (by omega) _,?_⟩
        refine And.intro ⟨by omega,by omega⟩ ?_
        refine ⟨_,(j3.sw1 u.1 (u.1 - 1)).stI (lo:=lo) hb ej (by rw [Array.size_setIfInBounds];omega) _,?_⟩
        exact again' (u.1 - 1,swp u.2 u.1 (u.1 - 1)) _ _ _ (by show u.1 - 1 < u.1;omega) ⟨by rw [← ej];rfl,rfl,rfl,rfl,rfl,trivial⟩ trivial ⟨by show u.1 - 1≤s.1;omega,by show (swp u.2 u.1 (u.1 - 1)).size=n;rw [swp_size'];exact j1,j2.trans (hsw_ext u.1 (u.1 - 1)),j3.sw u.1 (u.1 - 1),j4⟩
      · have c3:¬ ltInt u.2[u.1]! u.2[u.1 - 1]! = true:=by simpa using c3
        rw [if_neg c3] at out
        exact again (s.1+1,u.2) _ _ _ (by show c - (s.1+1) < c - s.1;omega) ⟨by rw [← ei];rfl,rfl,rfl,rfl,trivial⟩ trivial ⟨by show a < s.1+1;omega,j1,j2,j3,out rfl⟩
    · refine cndF ?_
      have c2:¬ a < u.1:=by simpa using c2
      exact again (s.1+1,u.2) _ _ _ (by show c - (s.1+1) < c - s.1;omega) ⟨by rw [← ei];rfl,rfl,rfl,rfl,trivial⟩ trivial ⟨by show a < s.1+1;omega,j1,j2,j3,out (insInner_stop _ _ c2 _)⟩
  · have c1:¬ s.1 < c:=by simpa using c1
    rw [if_neg c1] at i4
    refine And.intro rfl ?_
    rw [← i4];exact ⟨i2,i3,i1⟩
end Go.Proofs.YtjpcfaddimlbdaaGreat.Id
namespace Go.Proofs.YtjpcfaddimlbdaaGreat.Id
open Go.Id Go.Sort
open Go.Proofs
set_option linter.unusedVariables false
set_option maxRecDepth 100000
variable {X:Ctx Tryz.prog} {lo:Nat}
theorem siftDown_ok (b e n fl:Nat) (d0:Array Int) (root hi first:Nat) (h:Hp) (r0:AR h b e d0) (hn:d0.size=n) (hc:first+hi≤n) (hN:n < 2 ^ 31) (hr:root≤n) (hb:lo≤b):Tri X lo 162 [sa b e n fl,.int .i64 (root:Int),.int .i64 (hi:Int),.int .i64 (first:Int)] h fun v h'=>v = .tuple #[]∧PA b e n h (siftDown ltInt hi first root d0) h':=by
  refine enter tbOk mtOk ⟨[],[(3,[0,1,2,3,4,5,6,7,8,9,10,11,12,13,14,15,16,17,18,19],[0,1,0,7,15,31,31,31,223,511,1023,31,31,31,12319,28703,63519,129055,262143,524287]),(5,[0,1,2,3,4,5,6,7,8,9,10,11,12,13],[0,0,0,6,15,31,0,0,0,384,960,1984,4095,8191]),(6,[0,1,2,3,4,5,6,7,8,9,10,11,12,13,14,15,16,17,18,19,20,21,22,23],[0,0,0,6,0,0,0,96,0,0,0,1536,3840,7936,0,0,0,98304,245760,507904,1048335,2096911,4194303,8388607])]⟩ 400 Tryz.func162 rfl rfl rfl fun hlo => ?_
  refine loop (σ:=Nat×Array Int) tbOk mtOk ⟨[],[(3,[0,1,2,3,4,5,6,7,8,9,10,11,12,13,14,15,16,17,18,19],[0,1,0,7,15,31,31,31,223,511,1023,31,31,31,12319,28703,63519,129055,262143,524287]),(5,[0,1,2,3,4,5,6,7,8,9,10,11,12,13],[0,0,0,6,15,31,0,0,0,384,960,1984,4095,8191]),(6,[0,1,2,3,4,5,6,7,8,9,10,11,12,13,14,15,16,17,18,19,20,21,22,23],[0,0,0,6,0,0,0,96,0,0,0,1536,3840,7936,0,0,0,98304,245760,507904,1048335,2096911,4194303,8388607])]⟩ (fun s=>[(8,.v (.int .i64 (s.1:Int))),(0,.v (sa b e n fl)),(2,.v (.int .i64 (hi:Int))),(3,.v (.int .i64 (first:Int)))]) (fun _=>[]) (fun s h'=>s.1≤n∧s.2.size=n∧Ext1 b h h'∧AR h' b e s.2∧siftDown ltInt hi first s.1 s.2=siftDown ltInt hi first root d0) (fun s=>hi - s.1) 400 (root,d0) (fun _=>rfl) ⟨rfl,rfl,rfl,rfl,trivial⟩ trivial ⟨hr,hn,(Ext.refl _).one b,r0,rfl⟩ (fun s h1 hI again => ?_)
  obtain ⟨i0,i1,i2,i3,i4⟩:=hI
  have w2:IntKind.i64.wrap (2*(s.1:Int))=((2*s.1:Nat):Int):=wz (by omega) (by omega)
  have w3:IntKind.i64.wrap (IntKind.i64.wrap (2*(s.1:Int))+1)=((2*s.1+1:Nat):Int):=wz (by omega) (by omega)
  have w4:IntKind.i64.wrap (IntKind.i64.wrap (IntKind.i64.wrap (2*(s.1:Int))+1)+1)=((2*s.1+2:Nat):Int):=wz (by omega) (by omega)
  have fr:IntKind.i64.wrap ((first:Int)+(s.1:Int))=((first+s.1:Nat):Int):=wz (by omega) (by omega)
  have f1:IntKind.i64.wrap ((first:Int)+IntKind.i64.wrap (IntKind.i64.wrap (2*(s.1:Int))+1))=((first+(2*s.1+1):Nat):Int):=wz (by omega) (by omega)
  have f2:IntKind.i64.wrap (IntKind.i64.wrap ((first:Int)+IntKind.i64.wrap (IntKind.i64.wrap (2*(s.1:Int))+1))+1)=((first+(2*s.1+1)+1:Nat):Int):=wz (by omega) (by omega)
  have f3:IntKind.i64.wrap ((first:Int)+IntKind.i64.wrap (IntKind.i64.wrap (IntKind.i64.wrap (2*(s.1:Int))+1)+1))=((first+(2*s.1+2):Nat):Int):=wz (by omega) (by omega)
  rw [siftDown] at i4
  refine cnd (fun c1 => ?_) (fun c1 => ?_)
  · have c1:2*s.1+1≥hi:=by have:=of_decide_eq_true c1;omega
    rw [dif_pos c1] at i4
    refine And.intro rfl ?_
    rw [← i4];exact ⟨i2,i3,i1⟩
  have c1:¬ 2*s.1+1≥hi:=by have:=of_decide_eq_false c1;omega
  rw [dif_neg c1] at i4
  refine And.intro (by kernel_rfl) ?_
  refine cnd (fun c2 => ?_) (fun c2 => ?_)
  · have c2:2*s.1+1+1 < hi:=by have:=of_decide_eq_true c2;omega
    refine And.intro ⟨by omega,by omega⟩ ?_
    refine ⟨_,i3.ldI f1 (by omega),?_⟩
    refine And.intro ⟨by omega,by omega⟩ ?_
    refine ⟨_,i3.ldI f2 (by omega),?_⟩
    refine callP (Less_ok _ _ _) ?_
    rintro v h2 ⟨rfl,rfl⟩
    refine cnd (fun c3 => ?_) (fun c3 => ?_)
    · have c3:ltInt s.2[first+(2*s.1+1)]! s.2[first+(2*s.1+1)+1]! = true:=c3
      rw [if_pos (by rw [decide_eq_true c2,c3];rfl)] at i4
      refine And.intro (by kernel_rfl) ?_
      refine And.intro ⟨by omega,by omega⟩ ?_
      refine ⟨_,i3.ldI fr (by omega),?_⟩
      refine And.intro ⟨by omega,by omega⟩ ?_
      refine ⟨_,i3.ldI f3 (by omega),?_⟩
      refine callP (Less_ok _ _ _) ?_
      rintro v h3 ⟨rfl,rfl⟩
      refine cnd (fun c4 => ?_) (fun c4 => ?_)
      · have c4:¬ ltInt s.2[first+s.1]! s.2[first+(2*s.1+2)]! = true:=by simpa using c4
        refine And.intro rfl ?_
        rw [← i4];rw [if_pos (by simpa using c4)];exact ⟨i2,i3,i1⟩
      · have c4:ltInt s.2[first+s.1]! s.2[first+(2*s.1+2)]! = true:=by simpa using c4
        rw [if_neg (by simpa using c4)] at i4
        rw [dif_pos (by omega)] at i4
        refine And.intro (by kernel_rfl) ?_
        refine And.intro ⟨by omega,by omega⟩ ?_
        refine ⟨_,i3.ldI f3 (by omega),?_⟩
        refine And.intro ⟨by omega,by omega⟩ ?_
        refine ⟨_,i3.ldI fr (by omega),?_⟩
        refine And.intro ⟨by omega,by omega⟩ ?_
        refine ⟨_,i3.stI (lo:=lo) hb fr (i:=first+s.1) (by omega) _,?_⟩
        refine And.intro ⟨by omega,by omega⟩ ?_
        refine ⟨_,(i3.sw1 (first+s.1) (first+(2*s.1+2))).stI (lo:=lo) hb f3 (by rw [Array.size_setIfInBounds];omega) _,?_⟩
        exact again (2*s.1+2,swp s.2 (first+s.1) (first+(2*s.1+2))) _ _ _ (by show hi - (2*s.1+2) < hi - s.1;omega) ⟨by rw [← w4];rfl,rfl,rfl,rfl,trivial⟩ trivial ⟨by show 2*s.1+2≤n;omega,by show (swp s.2 (first+s.1) (first+(2*s.1+2))).size=n;rw [swp_size'];exact i1,i2.trans (hsw_ext _ _),i3.sw _ _,i4⟩
    · have c3:ltInt s.2[first+(2*s.1+1)]! s.2[first+(2*s.1+1)+1]! = false:=c3
      rw [if_neg (by rw [c3];simp)] at i4
      refine And.intro (by kernel_rfl) ?_
      refine And.intro ⟨by omega,by omega⟩ ?_
      refine ⟨_,i3.ldI fr (by omega),?_⟩
      refine And.intro ⟨by omega,by omega⟩ ?_
      refine ⟨_,i3.ldI f1 (by omega),?_⟩
      refine callP (Less_ok _ _ _) ?_
      rintro v h3 ⟨rfl,rfl⟩
      refine cnd (fun c4 => ?_) (fun c4 => ?_)
      · have c4:¬ ltInt s.2[first+s.1]! s.2[first+(2*s.1+1)]! = true:=by simpa using c4
        refine And.intro rfl ?_
        rw [← i4];rw [if_pos (by simpa using c4)];exact ⟨i2,i3,i1⟩
      · have c4:ltInt s.2[first+s.1]! s.2[first+(2*s.1+1)]! = true:=by simpa using c4
        rw [if_neg (by simpa using c4)] at i4
        refine And.intro (by kernel_rfl) ?_
        refine And.intro ⟨by omega,by omega⟩ ?_
        refine ⟨_,i3.ldI f1 (by omega),?_⟩
        refine And.intro ⟨by omega,by omega⟩ ?_
        refine ⟨_,i3.ldI fr (by omega),?_⟩
        refine And.intro ⟨by omega,by omega⟩ ?_
        refine ⟨_,i3.stI (lo:=lo) hb fr (i:=first+s.1) (by omega) _,?_⟩
        refine And.intro ⟨by omega,by omega⟩ ?_
        refine ⟨_,(i3.sw1 (first+s.1) (first+(2*s.1+1))).stI (lo:=lo) hb f1 (by rw [Array.size_setIfInBounds];omega) _,?_⟩
        exact again (2*s.1+1,swp s.2 (first+s.1) (first+(2*s.1+1))) _ _ _ (by show hi - (2*s.1+1) < hi - s.1;omega) ⟨by rw [← w3];rfl,rfl,rfl,rfl,trivial⟩ trivial ⟨by show 2*s.1+1≤n;omega,by show (swp s.2 (first+s.1) (first+(2*s.1+1))).size=n;rw [swp_size'];exact i1,i2.trans (hsw_ext _ _),i3.sw _ _,i4⟩
  · have c2:¬ 2*s.1+1+1 < hi:=by have:=of_decide_eq_false c2;omega
    rw [if_neg (by rw [decide_eq_false c2];simp)] at i4
    refine cndF ?_
    refine And.intro (by kernel_rfl) ?_
    refine And.intro ⟨by omega,by omega⟩ ?_
    refine ⟨_,i3.ldI fr (by omega),?_⟩
    refine And.intro ⟨by omega,by omega⟩ ?_
    refine ⟨_,i3.ldI f1 (by omega),?_⟩
    refine callP (Less_ok _ _ _) ?_
    rintro v h3 ⟨rfl,rfl⟩
    refine cnd (fun c4 => ?_) (fun c4 => ?_)
    · have c4:¬ ltInt s.2[first+s.1]! s.2[first+(2*s.1+1)]! = true:=by simpa using c4
      refine And.intro rfl ?_
      rw [← i4];rw [if_pos (by simpa using c4)];exact ⟨i2,i3,i1⟩
    · have c4:ltInt s.2[first+s.1]! s.2[first+(2*s.1+1)]! = true:=by simpa using c4
      rw [if_neg (by simpa using c4)] at i4
      refine And.intro (by kernel_rfl) ?_
      refine And.intro ⟨by omega,by omega⟩ ?_
      refine ⟨_,i3.ldI f1 (by omega),?_⟩
      refine And.intro ⟨by omega,by omega⟩ ?_
      refine ⟨_,i3.ldI fr (by omega),?_⟩
      refine And.intro ⟨by omega,by omega⟩ ?_
      refine ⟨_,i3.stI (lo:=lo) hb fr (i:=first+s.1) (by omega) _,?_⟩
      refine And.intro ⟨by omega,by omega⟩ ?_
      refine ⟨_,(i3.sw1 (first+s.1) (first+(2*s.1+1))).stI (lo:=lo) hb f1 (by rw [Array.size_setIfInBounds];omega) _,?_⟩
      exact again (2*s.1+1,swp s.2 (first+s.1) (first+(2*s.1+1))) _ _ _ (by show hi - (2*s.1+1) < hi - s.1;omega) ⟨by rw [← w3];rfl,rfl,rfl,rfl,trivial⟩ trivial ⟨by show 2*s.1+1≤n;omega,by show (swp s.2 (first+s.1) (first+(2*s.1+1))).size=n;rw [swp_size'];exact i1,i2.trans (hsw_ext _ _),i3.sw _ _,i4⟩
theorem heapSort_ok (b e n fl:Nat) (d0:Array Int) (a c:Nat) (h:Hp) (r0:AR h b e d0) (hn:d0.size=n) (ha:a≤c) (hc:c≤n) (hN:n < 2 ^ 31) (hb:lo≤b):Tri X lo 140 [sa b e n fl,.int .i64 (a:Int),.int .i64 (c:Int)] h fun v h'=>v = .tuple #[]∧PA b e n h (heapSort ltInt d0 a c) h':=by
  refine enter tbOk mtOk ⟨[],[(10,[0,1,2,3,4,5,6,7,8,9,10,11,12,13,14,15,16,17,18,19],[0,0,0,0,0,24,0,0,0,384,960,1984,0,0,12288,28672,65475,131011,262143,524287])]⟩ 400 Tryz.func140 rfl rfl rfl fun hlo => ?_
  have w1:IntKind.i64.wrap ((c:Int) - (a:Int))=((c - a:Nat):Int):=wz (by omega) (by omega)
  have w2:IntKind.i64.wrap (IntKind.i64.wrap ((c:Int) - (a:Int)) - 1)=((c - a:Nat):Int) - 1:=wz (by omega) (by omega)
  have w3:IntKind.i64.wrap ((IntKind.i64.wrap (IntKind.i64.wrap ((c:Int) - (a:Int)) - 1)).tdiv 2)=(((c - a - 1) / 2+1:Nat):Int) - 1:=by
    rw [w2]
    by_cases q:c - a=0
    · rw [q];rfl
    · rw [Int.tdiv_eq_ediv_of_nonneg (by omega),wr (by omega) (by omega)];omega
  refine And.intro (by decide) ?_
  refine loop (σ:=Nat×Array Int) tbOk mtOk ⟨[],[(10,[0,1,2,3,4,5,6,7,8,9,10,11,12,13,14,15,16,17,18,19],[0,0,0,0,0,24,0,0,0,384,960,1984,0,0,12288,28672,65475,131011,262143,524287])]⟩ (fun s=>[(9,.v (.int .i64 ((s.1:Int) - 1))),(8,.v (.int .i64 ((c - a:Nat):Int))),(7,.v (.int .i64 0)),(6,.v (.int .i64 (a:Int))),(0,.v (sa b e n fl))]) (fun _=>[]) (fun s h'=>s.1≤n+1∧s.2.size=n∧Ext1 b h h'∧AR h' b e s.2∧heapBuild ltInt (c - a) a s.1 s.2=heapBuild ltInt (c - a) a ((c - a - 1) / 2+1) d0) (fun s=>s.1) 400 ((c - a - 1) / 2+1,d0) (fun _=>rfl) ⟨by rw [← w3];rfl,by rw [← w1];rfl,rfl,rfl,rfl,trivial⟩ trivial ⟨by show (c - a - 1) / 2+1≤n+1;omega,hn,(Ext.refl _).one b,r0,rfl⟩ (fun s h1 hI again => ?_)
  obtain ⟨i0,i1,i2,i3,i4⟩:=hI
  refine cnd (fun c1 => ?_) (fun c1 => ?_)
  · have c1:0 < s.1:=by have:=of_decide_eq_true c1;omega
    obtain ⟨k,hk⟩:∃ k,s.1=k+1:=⟨s.1 - 1,by omega⟩
    rw [hk,heapBuild] at i4
    have q1:(s.1:Int) - 1=((k:Nat):Int):=by omega
    have ct:Tri X lo 162 [sa b e n fl,.int .i64 ((s.1:Int) - 1),.int .i64 ((c - a:Nat):Int),.int .i64 (a:Int)] h1 (fun v h'=>v = .tuple #[]∧PA b e n h1 (siftDown ltInt (c - a) a k s.2) h'):=by rw [q1];exact siftDown_ok b e n fl s.2 k (c - a) a h1 i3 i1 (by omega) hN (by omega) hb
    refine callP ct ?_
    rintro v h2 ⟨rfl,e2,r2,sz⟩
    have w4:IntKind.i64.wrap (((s.1:Int) - 1) - 1)=((k:Int)) - 1:=wz (by omega) (by omega)
    exact again (k,siftDown ltInt (c - a) a k s.2) _ _ _ (by show k < s.1;omega) ⟨by rw [← w4];rfl,rfl,rfl,rfl,rfl,trivial⟩ trivial ⟨by show k≤n+1;omega,sz,i2.trans e2,r2,i4⟩
  · have c1:s.1=0:=by have:=of_decide_eq_false c1;omega
    rw [c1,heapBuild] at i4
    have eS:heapSort ltInt d0 a c=heapPop ltInt a (c - a) s.2:=by unfold heapSort;rw [← i4]
    have w5:IntKind.i64.wrap (((c - a:Nat):Int) - 1)=((c - a:Nat):Int) - 1:=wz rfl (by omega)
    refine loop (σ:=Nat×Array Int) tbOk mtOk ⟨[],[(10,[0,1,2,3,4,5,6,7,8,9,10,11,12,13,14,15,16,17,18,19],[0,0,0,0,0,24,0,0,0,384,960,1984,0,0,12288,28672,65475,131011,262143,524287])]⟩ (fun s=>[(10,.v (.int .i64 ((s.1:Int) - 1))),(7,.v (.int .i64 0)),(6,.v (.int .i64 (a:Int))),(0,.v (sa b e n fl))]) (fun _=>[]) (fun s h'=>s.1≤c - a∧s.2.size=n∧Ext1 b h h'∧AR h' b e s.2∧heapPop ltInt a s.1 s.2=heapSort ltInt d0 a c) (fun s=>s.1) 400 (c - a,s.2) (fun _=>rfl) ⟨congrArg (fun x=>some (Sl.v (Value.int .i64 x))) w5,rfl,rfl,rfl,trivial⟩ trivial ⟨Nat.le_refl _,i1,i2,i3,eS.symm⟩ (fun u h2 hI again' => ?_)
    obtain ⟨j0,j1,j2,j3,j4⟩:=hI
    refine cnd (fun c2 => ?_) (fun c2 => ?_)
    · have c2:0 < u.1:=by have:=of_decide_eq_true c2;omega
      obtain ⟨k,hk⟩:∃ k,u.1=k+1:=⟨u.1 - 1,by omega⟩
      rw [hk,heapPop] at j4
      have q1:(u.1:Int) - 1=((k:Nat):Int):=by omega
      have q2:IntKind.i64.wrap ((a:Int)+((u.1:Int) - 1))=((a+k:Nat):Int):=wz (by omega) (by omega)
      refine And.intro (by kernel_rfl) ?_
      refine And.intro ⟨by omega,by omega⟩ ?_
      refine ⟨_,j3.ldI q2 (by omega),?_⟩
      refine And.intro ⟨by omega,by omega⟩ ?_
      refine ⟨_,j3.ldI rfl (by omega),?_⟩
      refine And.intro ⟨by omega,by omega⟩ ?_
      refine ⟨_,j3.stI (lo:=lo) hb rfl (i:=a) (by omega) _,?_⟩
      refine And.intro ⟨by omega,by omega⟩ ?_
      refine ⟨_,(j3.sw1 (a) (a+k)).stI (lo:=lo) hb q2 (by rw [Array.size_setIfInBounds];omega) _,?_⟩
      have r2:=j3.sw a (a+k)
      have z2:(swp u.2 a (a+k)).size=n:=by rw [swp_size'];exact j1
      have x2:=j2.trans (hsw_ext (h:=h2) (b:=b) (e:=e) (d:=u.2) a (a+k))
      have ct:Tri X lo 162 [sa b e n fl,.int .i64 0,.int .i64 ((u.1:Int) - 1),.int .i64 (a:Int)] (hsw h2 b e u.2 a (a+k)) (fun v h'=>v = .tuple #[]∧PA b e n (hsw h2 b e u.2 a (a+k)) (siftDown ltInt k a 0 (swp u.2 a (a+k))) h'):=by rw [q1];exact siftDown_ok b e n fl _ 0 k a _ r2 z2 (by omega) hN (by omega) hb
      refine callP ct ?_
      rintro v h3 ⟨rfl,e3,r3,sz⟩
      have w4:IntKind.i64.wrap (((u.1:Int) - 1) - 1)=((k:Int)) - 1:=wz (by omega) (by omega)
      exact again' (k,siftDown ltInt k a 0 (swp u.2 a (a+k))) _ _ _ (by show k < u.1;omega) ⟨by rw [← w4];rfl,rfl,rfl,rfl,trivial⟩ trivial ⟨by show k≤c - a;omega,sz,x2.trans e3,r3,j4⟩
    · have c2:u.1=0:=by have:=of_decide_eq_false c2;omega
      rw [c2,heapPop] at j4
      refine And.intro rfl ?_
      rw [← j4];exact ⟨j2,j3,j1⟩
end Go.Proofs.YtjpcfaddimlbdaaGreat.Id
namespace Go.Id
set_option linter.unusedVariables false
open Go
section
variable {P:Program} {X:Ctx P} {T:Nat→Option TyI} {Mt:Nat→String→Option FuncId} {lo:Nat} {f:FuncId} {fn:Func} {Post:En} {h:Hp}
theorem loopX {σ:Type} (hT:TbOk P T) (hM:MtOk P Mt) (esc:Hint) (tm:σ→Tm) (lv:σ→Lv) (I:σ→Hp→Prop) (m:σ→Nat) (n:Nat) (E:σ→Hp→Prop) (n2:Nat) {c:Code} {id:Nat} {k:List Item} {t:Tm} {ls:Lv} (s₀:σ) (hin:∀ s,tmIn (tm s) (lv s).length=true) (ht:keeps (tm s₀) t) (hl:pre (lv s₀) ls) (hI:I s₀ h)
    (round:∀ s h,I s h→(∀ s' h' t' ls',m s' < m s→keeps (tm s') t'→pre (lv s') ls'→I s' h'→R X lo f fn Post (.inLoop c :: .inBlock id::k) t' ls' h') →
      (∀ s' h' t' ls',keeps (tm s') t'→pre (lv s') ls'→E s' h'→R X lo f fn Post k t' ls' h') →
      vc X T Mt lo f fn esc Post n (.code c :: .inLoop c :: .inBlock id::k) (tm s) (lv s) h)
    (cont:∀ s h,E s h→vc X T Mt lo f fn esc Post n2 k (tm s) (lv s) h):R X lo f fn Post (.code (.loop c) :: .inBlock id::k) t ls h :=
  loop hT hM esc tm lv I m n s₀ hin ht hl hI fun s h hI again=>round s h hI again fun s' h' t' ls' ht hl hE=>R_trim ht (hin s') hl (vc_ok hT hM n2 _ _ _ _ (cont s' h' hE))
theorem joinK {σ:Type} (hT:TbOk P T) (hM:MtOk P Mt) (esc:Hint) (tm:σ→Tm) (lv:σ→Lv) (E:σ→Hp→Prop) (n n2:Nat) {it:Item} {k:List Item} {t:Tm} {ls:Lv} (hin:∀ s,tmIn (tm s) (lv s).length=true)
    (H:(∀ s' h' t' ls',keeps (tm s') t'→pre (lv s') ls'→E s' h'→R X lo f fn Post k t' ls' h')→vc X T Mt lo f fn esc Post n (it::k) t ls h)
    (cont:∀ s h,E s h→vc X T Mt lo f fn esc Post n2 k (tm s) (lv s) h):R X lo f fn Post (it::k) t ls h :=
  vc_ok hT hM n _ _ _ _ (H fun s' h' t' ls' ht hl hE=>R_trim ht (hin s') hl (vc_ok hT hM n2 _ _ _ _ (cont s' h' hE)))
end
end Go.Id
namespace Go.Proofs.YtjpcfaddimlbdaaGreat.Id
open Go.Id Go.Sort
open Go.Proofs
set_option linter.unusedVariables false
set_option maxRecDepth 100000
variable {X:Ctx Tryz.prog} {lo:Nat}
theorem scanUp_go {p:Int→Bool} {d:Array Int} {j x:Nat} (h1:x≤j) (h2:p d[x]! = true):scanUp p d j x=scanUp p d j (x+1):=by
  rw [scanUp,if_pos (by rw [h2,decide_eq_true h1];rfl)]
theorem scanUp_far {p:Int→Bool} {d:Array Int} {j x:Nat} (h1:¬ x≤j):scanUp p d j x=x:=by
  rw [scanUp,if_neg (by rw [decide_eq_false h1];simp)]
theorem scanUp_stop {p:Int→Bool} {d:Array Int} {j x:Nat} (h2:p d[x]! = false):scanUp p d j x=x:=by
  rw [scanUp,if_neg (by rw [h2];simp)]
theorem scanDown_go {p:Int→Bool} {d:Array Int} {i y:Nat} (h0:1≤y) (h1:i≤y) (h2:p d[y]! = true):scanDown p d i y=scanDown p d i (y - 1):=by
  obtain ⟨k,rfl⟩:∃ k,y=k+1:=⟨y - 1,by omega⟩
  rw [scanDown,if_pos (by rw [h2,decide_eq_true h1];rfl)];rfl
theorem scanDown_far {p:Int→Bool} {d:Array Int} {i y:Nat} (h1:¬ i≤y):scanDown p d i y=y:=by
  cases y with
  | zero=>rfl
  | succ k=>rw [scanDown,if_neg (by rw [decide_eq_false h1];simp)]
theorem scanDown_stop {p:Int→Bool} {d:Array Int} {i y:Nat} (h2:p d[y]! = false):scanDown p d i y=y:=by
  cases y with
  | zero=>rfl
  | succ k=>rw [scanDown,if_neg (by rw [h2];simp)]
theorem vI {x y:Int} (h:x=y):some (Sl.v (Value.int .i64 x))=some (Sl.v (Value.int .i64 y)):=by rw [h]
theorem swp_sz {d:Array Int} {n:Nat} (h:d.size=n) (i j:Nat):(swp d i j).size=n:=by rw [swp_size'];exact h
theorem partition_ok (b e n fl:Nat) (d0:Array Int) (a c pv:Nat) (h:Hp) (r0:AR h b e d0) (hn:d0.size=n) (ha:a≤pv) (hp:pv < c) (hc:c≤n) (hN:n < 2 ^ 31) (hb:lo≤b):Tri X lo 147 [sa b e n fl,.int .i64 (a:Int),.int .i64 (c:Int),.int .i64 (pv:Int)] h fun v h'=>v = .tuple #[.int .i64 ((partition ltInt d0 a c pv).1:Int),.bool (partition ltInt d0 a c pv).2.1]∧PA b e n h (partition ltInt d0 a c pv).2.2 h':=by
  refine enter tbOk mtOk ⟨[],[(1,[0,1,2,3,4,5,6,7,8,9,10,11,12,13,14,15],[0,0,0,0,0,0,48,112,0,0,768,1792,4083,8179,16383,32767]),(3,[0,1,2,3,4,5,6,7,8,9,10,11,12,13],[0,0,3,7,15,15,63,127,15,15,783,1807,4095,8191]),(5,[0,1,2,3,4,5,6,7,8,9,10,11,12,13,14],[0,0,3,7,15,15,63,127,15,15,783,1807,4095,8191,16383]),(8,[0,1,2,3,4,5,6,7,8,9,10,11,12,13,14,15],[0,0,0,0,0,0,48,112,0,0,768,1792,4083,8179,16383,32767]),(10,[0,1,2,3,4,5,6,7,8,9,10,11,12,13,14,15],[0,0,0,0,0,0,48,112,0,0,768,1792,4083,8179,16383,32767]),(13,[0,1,2,3,4,5,6,7,8,9,10,11,12,13],[0,0,3,7,15,15,63,127,15,15,783,1807,4095,8191]),(15,[0,1,2,3,4,5,6,7,8,9,10,11,12,13,14],[0,0,3,7,15,15,63,127,15,15,783,1807,4095,8191,16383]),(18,[0,1,2,3,4,5,6,7,8,9,10,11,12,13,14,15],[0,0,0,0,0,0,48,112,0,0,768,1792,4083,8179,16383,32767]),(21,[0,1,2,3,4,5,6,7,8,9,10,11,12,13,14,15],[0,0,0,0,0,0,48,112,0,0,768,1792,4083,8179,16383,32767])]⟩ 400 Tryz.func147 rfl rfl rfl fun hlo => ?_
  have w1:IntKind.i64.wrap ((a:Int)+1)=((a+1:Nat):Int):=wz (by omega) (by omega)
  have w2:IntKind.i64.wrap ((c:Int) - 1)=((c - 1:Nat):Int):=wz (by omega) (by omega)
  refine And.intro (by kernel_rfl) ?_
  refine And.intro ⟨by omega,by omega⟩ ?_
  refine ⟨_,r0.ldI rfl (by omega),?_⟩
  refine And.intro ⟨by omega,by omega⟩ ?_
  refine ⟨_,r0.ldI rfl (by omega),?_⟩
  refine And.intro ⟨by omega,by omega⟩ ?_
  refine ⟨_,r0.stI (lo:=lo) hb rfl (i:=a) (by omega) _,?_⟩
  refine And.intro ⟨by omega,by omega⟩ ?_
  refine ⟨hsw h b e d0 (a) (pv),(r0.sw1 (a) (pv)).stI (lo:=lo) hb rfl (by rw [Array.size_setIfInBounds];omega) _,?_⟩
  have r1:=r0.sw a pv
  have z1:=swp_sz hn a pv
  have x1:=hsw_ext (h:=h) (b:=b) (e:=e) (d:=d0) a pv
  have eP:partition ltInt d0 a c pv=(if scanUp (fun x=>ltInt x (swp d0 a pv)[a]!) (swp d0 a pv) (c - 1) (a+1) > scanDown (fun x => !ltInt x (swp d0 a pv)[a]!) (swp d0 a pv) (scanUp (fun x=>ltInt x (swp d0 a pv)[a]!) (swp d0 a pv) (c - 1) (a+1)) (c - 1) then (scanDown (fun x => !ltInt x (swp d0 a pv)[a]!) (swp d0 a pv) (scanUp (fun x=>ltInt x (swp d0 a pv)[a]!) (swp d0 a pv) (c - 1) (a+1)) (c - 1),true,swp (swp d0 a pv) (scanDown (fun x => !ltInt x (swp d0 a pv)[a]!) (swp d0 a pv) (scanUp (fun x=>ltInt x (swp d0 a pv)[a]!) (swp d0 a pv) (c - 1) (a+1)) (c - 1)) a) else ((partLoop ltInt a (scanUp (fun x=>ltInt x (swp d0 a pv)[a]!) (swp d0 a pv) (c - 1) (a+1)+1) (scanDown (fun x => !ltInt x (swp d0 a pv)[a]!) (swp d0 a pv) (scanUp (fun x=>ltInt x (swp d0 a pv)[a]!) (swp d0 a pv) (c - 1) (a+1)) (c - 1) - 1) (swp (swp d0 a pv) (scanUp (fun x=>ltInt x (swp d0 a pv)[a]!) (swp d0 a pv) (c - 1) (a+1)) (scanDown (fun x => !ltInt x (swp d0 a pv)[a]!) (swp d0 a pv) (scanUp (fun x=>ltInt x (swp d0 a pv)[a]!) (swp d0 a pv) (c - 1) (a+1)) (c - 1)))).1,false,swp (partLoop ltInt a (scanUp (fun x=>ltInt x (swp d0 a pv)[a]!) (swp d0 a pv) (c - 1) (a+1)+1) (scanDown (fun x => !ltInt x (swp d0 a pv)[a]!) (swp d0 a pv) (scanUp (fun x=>ltInt x (swp d0 a pv)[a]!) (swp d0 a pv) (c - 1) (a+1)) (c - 1) - 1) (swp (swp d0 a pv) (scanUp (fun x=>ltInt x (swp d0 a pv)[a]!) (swp d0 a pv) (c - 1) (a+1)) (scanDown (fun x => !ltInt x (swp d0 a pv)[a]!) (swp d0 a pv) (scanUp (fun x=>ltInt x (swp d0 a pv)[a]!) (swp d0 a pv) (c - 1) (a+1)) (c - 1)))).2 (partLoop ltInt a (scanUp (fun x=>ltInt x (swp d0 a pv)[a]!) (swp d0 a pv) (c - 1) (a+1)+1) (scanDown (fun x => !ltInt x (swp d0 a pv)[a]!) (swp d0 a pv) (scanUp (fun x=>ltInt x (swp d0 a pv)[a]!) (swp d0 a pv) (c - 1) (a+1)) (c - 1) - 1) (swp (swp d0 a pv) (scanUp (fun x=>ltInt x (swp d0 a pv)[a]!) (swp d0 a pv) (c - 1) (a+1)) (scanDown (fun x => !ltInt x (swp d0 a pv)[a]!) (swp d0 a pv) (scanUp (fun x=>ltInt x (swp d0 a pv)[a]!) (swp d0 a pv) (c - 1) (a+1)) (c - 1)))).1 a)):=rfl
  generalize hsw h b e d0 a pv=h1 at r1 x1 ⊢
  generalize swp d0 a pv=d1 at r1 z1 eP
  refine loopX (σ:=Nat) tbOk mtOk ⟨[],[(1,[0,1,2,3,4,5,6,7,8,9,10,11,12,13,14,15],[0,0,0,0,0,0,48,112,0,0,768,1792,4083,8179,16383,32767]),(3,[0,1,2,3,4,5,6,7,8,9,10,11,12,13],[0,0,3,7,15,15,63,127,15,15,783,1807,4095,8191]),(5,[0,1,2,3,4,5,6,7,8,9,10,11,12,13,14],[0,0,3,7,15,15,63,127,15,15,783,1807,4095,8191,16383]),(8,[0,1,2,3,4,5,6,7,8,9,10,11,12,13,14,15],[0,0,0,0,0,0,48,112,0,0,768,1792,4083,8179,16383,32767]),(10,[0,1,2,3,4,5,6,7,8,9,10,11,12,13,14,15],[0,0,0,0,0,0,48,112,0,0,768,1792,4083,8179,16383,32767]),(13,[0,1,2,3,4,5,6,7,8,9,10,11,12,13],[0,0,3,7,15,15,63,127,15,15,783,1807,4095,8191]),(15,[0,1,2,3,4,5,6,7,8,9,10,11,12,13,14],[0,0,3,7,15,15,63,127,15,15,783,1807,4095,8191,16383]),(18,[0,1,2,3,4,5,6,7,8,9,10,11,12,13,14,15],[0,0,0,0,0,0,48,112,0,0,768,1792,4083,8179,16383,32767]),(21,[0,1,2,3,4,5,6,7,8,9,10,11,12,13,14,15],[0,0,0,0,0,0,48,112,0,0,768,1792,4083,8179,16383,32767])]⟩ (fun x=>[(10,.v (.int .i64 ((x:Nat):Int))),(11,.v (.int .i64 (((c - 1):Nat):Int))),(0,.v (sa b e n fl)),(1,.v (.int .i64 (a:Int)))]) (fun _=>[]) (fun x h'=>(a+1)≤x∧h1=h'∧scanUp (fun x=>ltInt x d1[a]!) d1 (c - 1) x=scanUp (fun x=>ltInt x d1[a]!) d1 (c - 1) (a+1)) (fun x=>(c - 1)+1 - x) 5 (fun x h'=>(a+1)≤x∧h1=h'∧x=scanUp (fun x=>ltInt x d1[a]!) d1 (c - 1) (a+1)) 400 ((a+1)) (fun _=>rfl) ⟨vI w1,vI w2,rfl,rfl,trivial⟩ trivial ⟨Nat.le_refl _,rfl,rfl⟩ (fun x hz hI again' done => ?_) (fun x hz hE => ?_)
  · obtain ⟨u0,rfl,u3⟩:=hI
    refine And.intro (by kernel_rfl) ?_
    refine cnd (fun k1 => ?_) (fun k1 => ?_)
    · have k1:x≤(c - 1):=by have:=of_decide_eq_true k1;omega
      have kw:IntKind.i64.wrap ((x:Int)+1)=((x+1:Nat):Int):=wz (by omega) (by omega)
      refine And.intro ⟨by omega,by omega⟩ ?_
      refine ⟨_,r1.ldI rfl (by omega),?_⟩
      refine And.intro ⟨by omega,by omega⟩ ?_
      refine ⟨_,r1.ldI rfl (by omega),?_⟩
      refine callP (Less_ok _ _ _) ?_
      rintro v hy ⟨rfl,rfl⟩
      refine cnd (fun k2 => ?_) (fun k2 => ?_)
      · skip
        have u3':=(scanUp_go (p:=(fun x=>ltInt x d1[a]!)) k1 (by simpa using k2)).symm.trans u3
        refine more tbOk mtOk ⟨[],[(1,[0,1,2,3,4,5,6,7,8,9,10,11,12,13,14,15],[0,0,0,0,0,0,48,112,0,0,768,1792,4083,8179,16383,32767]),(3,[0,1,2,3,4,5,6,7,8,9,10,11,12,13],[0,0,3,7,15,15,63,127,15,15,783,1807,4095,8191]),(5,[0,1,2,3,4,5,6,7,8,9,10,11,12,13,14],[0,0,3,7,15,15,63,127,15,15,783,1807,4095,8191,16383]),(8,[0,1,2,3,4,5,6,7,8,9,10,11,12,13,14,15],[0,0,0,0,0,0,48,112,0,0,768,1792,4083,8179,16383,32767]),(10,[0,1,2,3,4,5,6,7,8,9,10,11,12,13,14,15],[0,0,0,0,0,0,48,112,0,0,768,1792,4083,8179,16383,32767]),(13,[0,1,2,3,4,5,6,7,8,9,10,11,12,13],[0,0,3,7,15,15,63,127,15,15,783,1807,4095,8191]),(15,[0,1,2,3,4,5,6,7,8,9,10,11,12,13,14],[0,0,3,7,15,15,63,127,15,15,783,1807,4095,8191,16383]),(18,[0,1,2,3,4,5,6,7,8,9,10,11,12,13,14,15],[0,0,0,0,0,0,48,112,0,0,768,1792,4083,8179,16383,32767]),(21,[0,1,2,3,4,5,6,7,8,9,10,11,12,13,14,15],[0,0,0,0,0,0,48,112,0,0,768,1792,4083,8179,16383,32767])]⟩ 400 ?_
        exact again' (x+1) _ _ _ (by show (c - 1)+1 - (x+1) < (c - 1)+1 - x;omega) ⟨vI kw,rfl,rfl,rfl,trivial⟩ trivial ⟨by omega,rfl,u3'⟩
      · exact done x _ _ _ ⟨rfl,rfl,rfl,rfl,trivial⟩ trivial ⟨u0,rfl,(scanUp_stop (p:=(fun x=>ltInt x d1[a]!)) (d:=d1) (j:=(c - 1)) (by simpa using k2)).symm.trans u3⟩
    · have k1:¬ x≤(c - 1):=by have:=of_decide_eq_false k1;omega
      refine cndF ?_
      exact done x _ _ _ ⟨rfl,rfl,rfl,rfl,trivial⟩ trivial ⟨u0,rfl,(scanUp_far k1).symm.trans u3⟩
  · obtain ⟨v0,rfl,v3⟩:=hE
    have v3u:=v3
    have v0u:=v0
    clear v3 v0
    refine loopX (σ:=Nat) tbOk mtOk ⟨[],[(1,[0,1,2,3,4,5,6,7,8,9,10,11,12,13,14,15],[0,0,0,0,0,0,48,112,0,0,768,1792,4083,8179,16383,32767]),(3,[0,1,2,3,4,5,6,7,8,9,10,11,12,13],[0,0,3,7,15,15,63,127,15,15,783,1807,4095,8191]),(5,[0,1,2,3,4,5,6,7,8,9,10,11,12,13,14],[0,0,3,7,15,15,63,127,15,15,783,1807,4095,8191,16383]),(8,[0,1,2,3,4,5,6,7,8,9,10,11,12,13,14,15],[0,0,0,0,0,0,48,112,0,0,768,1792,4083,8179,16383,32767]),(10,[0,1,2,3,4,5,6,7,8,9,10,11,12,13,14,15],[0,0,0,0,0,0,48,112,0,0,768,1792,4083,8179,16383,32767]),(13,[0,1,2,3,4,5,6,7,8,9,10,11,12,13],[0,0,3,7,15,15,63,127,15,15,783,1807,4095,8191]),(15,[0,1,2,3,4,5,6,7,8,9,10,11,12,13,14],[0,0,3,7,15,15,63,127,15,15,783,1807,4095,8191,16383]),(18,[0,1,2,3,4,5,6,7,8,9,10,11,12,13,14,15],[0,0,0,0,0,0,48,112,0,0,768,1792,4083,8179,16383,32767]),(21,[0,1,2,3,4,5,6,7,8,9,10,11,12,13,14,15],[0,0,0,0,0,0,48,112,0,0,768,1792,4083,8179,16383,32767])]⟩ (fun y=>[(10,.v (.int .i64 ((x:Nat):Int))),(11,.v (.int .i64 ((y:Nat):Int))),(0,.v (sa b e n fl)),(1,.v (.int .i64 (a:Int)))]) (fun _=>[]) (fun y h'=>y≤(c - 1)∧h1=h'∧scanDown (fun x => !ltInt x d1[a]!) d1 x y=scanDown (fun x => !ltInt x d1[a]!) d1 x (c - 1)) (fun y=>y) 5 (fun y h'=>y≤(c - 1)∧h1=h'∧y=scanDown (fun x => !ltInt x d1[a]!) d1 x (c - 1)) 400 ((c - 1)) (fun _=>rfl) ⟨rfl,rfl,rfl,rfl,trivial⟩ trivial ⟨Nat.le_refl _,rfl,rfl⟩ (fun y hz hI again' done => ?_) (fun y hz hE => ?_)
    · obtain ⟨u0,rfl,u3⟩:=hI
      refine And.intro (by kernel_rfl) ?_
      refine cnd (fun k1 => ?_) (fun k1 => ?_)
      · have k1:x≤y:=by have:=of_decide_eq_true k1;omega
        have kw:IntKind.i64.wrap ((y:Int) - 1)=((y - 1:Nat):Int):=wz (by omega) (by omega)
        refine And.intro ⟨by omega,by omega⟩ ?_
        refine ⟨_,r1.ldI rfl (by omega),?_⟩
        refine And.intro ⟨by omega,by omega⟩ ?_
        refine ⟨_,r1.ldI rfl (by omega),?_⟩
        refine callP (Less_ok _ _ _) ?_
        rintro v hy ⟨rfl,rfl⟩
        refine cnd (fun k2 => ?_) (fun k2 => ?_)
        · skip
          have u3':=(scanDown_go (p:=(fun x => !ltInt x d1[a]!)) (by omega) k1 (by simpa using k2)).symm.trans u3
          refine more tbOk mtOk ⟨[],[(1,[0,1,2,3,4,5,6,7,8,9,10,11,12,13,14,15],[0,0,0,0,0,0,48,112,0,0,768,1792,4083,8179,16383,32767]),(3,[0,1,2,3,4,5,6,7,8,9,10,11,12,13],[0,0,3,7,15,15,63,127,15,15,783,1807,4095,8191]),(5,[0,1,2,3,4,5,6,7,8,9,10,11,12,13,14],[0,0,3,7,15,15,63,127,15,15,783,1807,4095,8191,16383]),(8,[0,1,2,3,4,5,6,7,8,9,10,11,12,13,14,15],[0,0,0,0,0,0,48,112,0,0,768,1792,4083,8179,16383,32767]),(10,[0,1,2,3,4,5,6,7,8,9,10,11,12,13,14,15],[0,0,0,0,0,0,48,112,0,0,768,1792,4083,8179,16383,32767]),(13,[0,1,2,3,4,5,6,7,8,9,10,11,12,13],[0,0,3,7,15,15,63,127,15,15,783,1807,4095,8191]),(15,[0,1,2,3,4,5,6,7,8,9,10,11,12,13,14],[0,0,3,7,15,15,63,127,15,15,783,1807,4095,8191,16383]),(18,[0,1,2,3,4,5,6,7,8,9,10,11,12,13,14,15],[0,0,0,0,0,0,48,112,0,0,768,1792,4083,8179,16383,32767]),(21,[0,1,2,3,4,5,6,7,8,9,10,11,12,13,14,15],[0,0,0,0,0,0,48,112,0,0,768,1792,4083,8179,16383,32767])]⟩ 400 ?_
          exact again' (y - 1) _ _ _ (by show y - 1 < y;omega) ⟨rfl,vI kw,rfl,rfl,trivial⟩ trivial ⟨by omega,rfl,u3'⟩
        · exact done y _ _ _ ⟨rfl,rfl,rfl,rfl,trivial⟩ trivial ⟨u0,rfl,(scanDown_stop (p:=(fun x => !ltInt x d1[a]!)) (d:=d1) (i:=x) (by simpa using k2)).symm.trans u3⟩
      · have k1:¬ x≤y:=by have:=of_decide_eq_false k1;omega
        refine cndF ?_
        exact done y _ _ _ ⟨rfl,rfl,rfl,rfl,trivial⟩ trivial ⟨u0,rfl,(scanDown_far k1).symm.trans u3⟩
    · obtain ⟨v0,rfl,v3⟩:=hE
      rw [← v3u] at eP
      rw [← v3] at eP
      refine cnd (fun c1 => ?_) (fun c1 => ?_)
      · have c1:x > y:=by have:=of_decide_eq_true c1;omega
        rw [if_pos c1] at eP
        refine And.intro (by kernel_rfl) ?_
        refine And.intro ⟨by omega,by omega⟩ ?_
        refine ⟨_,r1.ldI rfl (by omega),?_⟩
        refine And.intro ⟨by omega,by omega⟩ ?_
        refine ⟨_,r1.ldI rfl (by omega),?_⟩
        refine And.intro ⟨by omega,by omega⟩ ?_
        refine ⟨_,r1.stI (lo:=lo) hb rfl (i:=y) (by omega) _,?_⟩
        refine And.intro ⟨by omega,by omega⟩ ?_
        refine ⟨_,(r1.sw1 (y) (a)).stI (lo:=lo) hb rfl (by rw [Array.size_setIfInBounds];omega) _,?_⟩
        rw [eP]
        exact And.intro rfl ⟨x1.trans (hsw_ext y a),r1.sw y a,swp_sz z1 y a⟩
      · have c1:¬ x > y:=by have:=of_decide_eq_false c1;omega
        rw [if_neg c1] at eP
        refine And.intro (by kernel_rfl) ?_
        refine And.intro ⟨by omega,by omega⟩ ?_
        refine ⟨_,r1.ldI rfl (by omega),?_⟩
        refine And.intro ⟨by omega,by omega⟩ ?_
        refine ⟨_,r1.ldI rfl (by omega),?_⟩
        refine And.intro ⟨by omega,by omega⟩ ?_
        refine ⟨_,r1.stI (lo:=lo) hb rfl (i:=x) (by omega) _,?_⟩
        refine And.intro ⟨by omega,by omega⟩ ?_
        refine ⟨_,(r1.sw1 (x) (y)).stI (lo:=lo) hb rfl (by rw [Array.size_setIfInBounds];omega) _,?_⟩
        have wx:IntKind.i64.wrap ((x:Int)+1)=((x+1:Nat):Int):=wz (by omega) (by omega)
        have wy:IntKind.i64.wrap ((y:Int) - 1)=((y - 1:Nat):Int):=wz (by omega) (by omega)
        refine loop (σ:=Nat×Nat×Array Int) tbOk mtOk ⟨[],[(1,[0,1,2,3,4,5,6,7,8,9,10,11,12,13,14,15],[0,0,0,0,0,0,48,112,0,0,768,1792,4083,8179,16383,32767]),(3,[0,1,2,3,4,5,6,7,8,9,10,11,12,13],[0,0,3,7,15,15,63,127,15,15,783,1807,4095,8191]),(5,[0,1,2,3,4,5,6,7,8,9,10,11,12,13,14],[0,0,3,7,15,15,63,127,15,15,783,1807,4095,8191,16383]),(8,[0,1,2,3,4,5,6,7,8,9,10,11,12,13,14,15],[0,0,0,0,0,0,48,112,0,0,768,1792,4083,8179,16383,32767]),(10,[0,1,2,3,4,5,6,7,8,9,10,11,12,13,14,15],[0,0,0,0,0,0,48,112,0,0,768,1792,4083,8179,16383,32767]),(13,[0,1,2,3,4,5,6,7,8,9,10,11,12,13],[0,0,3,7,15,15,63,127,15,15,783,1807,4095,8191]),(15,[0,1,2,3,4,5,6,7,8,9,10,11,12,13,14],[0,0,3,7,15,15,63,127,15,15,783,1807,4095,8191,16383]),(18,[0,1,2,3,4,5,6,7,8,9,10,11,12,13,14,15],[0,0,0,0,0,0,48,112,0,0,768,1792,4083,8179,16383,32767]),(21,[0,1,2,3,4,5,6,7,8,9,10,11,12,13,14,15],[0,0,0,0,0,0,48,112,0,0,768,1792,4083,8179,16383,32767])]⟩ (fun s=>[(10,.v (.int .i64 ((s.1:Nat):Int))),(11,.v (.int .i64 ((s.2.1:Nat):Int))),(0,.v (sa b e n fl)),(1,.v (.int .i64 (a:Int)))]) (fun _=>[]) (fun s h'=>a < s.1∧s.2.1 < c∧Ext1 b h h'∧AR h' b e s.2.2∧s.2.2.size=n∧partLoop ltInt a s.1 s.2.1 s.2.2=partLoop ltInt a (x+1) (y - 1) (swp d1 x y)) (fun s=>s.2.1+1 - s.1) 400 (x+1,y - 1,swp d1 x y) (fun _=>rfl) ⟨vI wx,vI wy,rfl,rfl,trivial⟩ trivial ⟨by show a < x+1;omega,by show y - 1 < c;omega,x1.trans (hsw_ext x y),r1.sw x y,swp_sz z1 x y,rfl⟩ (fun s h2 hI again => ?_)
        obtain ⟨j1,j2,j3,j4,j5,j6⟩:=hI
        rw [partLoop_eq] at j6
        clear v3 v0 c1 wx wy v3u v0u
        generalize partLoop ltInt a (x+1) (y - 1) (swp d1 x y)=RR at *
        clear x1 r1 z1
        refine loopX (σ:=Nat) tbOk mtOk ⟨[],[(1,[0,1,2,3,4,5,6,7,8,9,10,11,12,13,14,15],[0,0,0,0,0,0,48,112,0,0,768,1792,4083,8179,16383,32767]),(3,[0,1,2,3,4,5,6,7,8,9,10,11,12,13],[0,0,3,7,15,15,63,127,15,15,783,1807,4095,8191]),(5,[0,1,2,3,4,5,6,7,8,9,10,11,12,13,14],[0,0,3,7,15,15,63,127,15,15,783,1807,4095,8191,16383]),(8,[0,1,2,3,4,5,6,7,8,9,10,11,12,13,14,15],[0,0,0,0,0,0,48,112,0,0,768,1792,4083,8179,16383,32767]),(10,[0,1,2,3,4,5,6,7,8,9,10,11,12,13,14,15],[0,0,0,0,0,0,48,112,0,0,768,1792,4083,8179,16383,32767]),(13,[0,1,2,3,4,5,6,7,8,9,10,11,12,13],[0,0,3,7,15,15,63,127,15,15,783,1807,4095,8191]),(15,[0,1,2,3,4,5,6,7,8,9,10,11,12,13,14],[0,0,3,7,15,15,63,127,15,15,783,1807,4095,8191,16383]),(18,[0,1,2,3,4,5,6,7,8,9,10,11,12,13,14,15],[0,0,0,0,0,0,48,112,0,0,768,1792,4083,8179,16383,32767]),(21,[0,1,2,3,4,5,6,7,8,9,10,11,12,13,14,15],[0,0,0,0,0,0,48,112,0,0,768,1792,4083,8179,16383,32767])]⟩ (fun x=>[(10,.v (.int .i64 ((x:Nat):Int))),(11,.v (.int .i64 ((s.2.1:Nat):Int))),(0,.v (sa b e n fl)),(1,.v (.int .i64 (a:Int)))]) (fun _=>[]) (fun x h'=>s.1≤x∧h2=h'∧scanUp (fun x=>ltInt x s.2.2[a]!) s.2.2 s.2.1 x=scanUp (fun x=>ltInt x s.2.2[a]!) s.2.2 s.2.1 s.1) (fun x=>s.2.1+1 - x) 5 (fun x h'=>s.1≤x∧h2=h'∧x=scanUp (fun x=>ltInt x s.2.2[a]!) s.2.2 s.2.1 s.1) 400 (s.1) (fun _=>rfl) ⟨rfl,rfl,rfl,rfl,trivial⟩ trivial ⟨Nat.le_refl _,rfl,rfl⟩ (fun x hz hI again' done => ?_) (fun x hz hE => ?_)
        · obtain ⟨u0,rfl,u3⟩:=hI
          refine And.intro (by kernel_rfl) ?_
          refine cnd (fun k1 => ?_) (fun k1 => ?_)
          · have k1:x≤s.2.1:=by have:=of_decide_eq_true k1;omega
            have kw:IntKind.i64.wrap ((x:Int)+1)=((x+1:Nat):Int):=wz (by omega) (by omega)
            refine And.intro ⟨by omega,by omega⟩ ?_
            refine ⟨_,j4.ldI rfl (by omega),?_⟩
            refine And.intro ⟨by omega,by omega⟩ ?_
            refine ⟨_,j4.ldI rfl (by omega),?_⟩
            refine callP (Less_ok _ _ _) ?_
            rintro v hy ⟨rfl,rfl⟩
            refine cnd (fun k2 => ?_) (fun k2 => ?_)
            · skip
              have u3':=(scanUp_go (p:=(fun x=>ltInt x s.2.2[a]!)) k1 (by simpa using k2)).symm.trans u3
              refine more tbOk mtOk ⟨[],[(1,[0,1,2,3,4,5,6,7,8,9,10,11,12,13,14,15],[0,0,0,0,0,0,48,112,0,0,768,1792,4083,8179,16383,32767]),(3,[0,1,2,3,4,5,6,7,8,9,10,11,12,13],[0,0,3,7,15,15,63,127,15,15,783,1807,4095,8191]),(5,[0,1,2,3,4,5,6,7,8,9,10,11,12,13,14],[0,0,3,7,15,15,63,127,15,15,783,1807,4095,8191,16383]),(8,[0,1,2,3,4,5,6,7,8,9,10,11,12,13,14,15],[0,0,0,0,0,0,48,112,0,0,768,1792,4083,8179,16383,32767]),(10,[0,1,2,3,4,5,6,7,8,9,10,11,12,13,14,15],[0,0,0,0,0,0,48,112,0,0,768,1792,4083,8179,16383,32767]),(13,[0,1,2,3,4,5,6,7,8,9,10,11,12,13],[0,0,3,7,15,15,63,127,15,15,783,1807,4095,8191]),(15,[0,1,2,3,4,5,6,7,8,9,10,11,12,13,14],[0,0,3,7,15,15,63,127,15,15,783,1807,4095,8191,16383]),(18,[0,1,2,3,4,5,6,7,8,9,10,11,12,13,14,15],[0,0,0,0,0,0,48,112,0,0,768,1792,4083,8179,16383,32767]),(21,[0,1,2,3,4,5,6,7,8,9,10,11,12,13,14,15],[0,0,0,0,0,0,48,112,0,0,768,1792,4083,8179,16383,32767])]⟩ 400 ?_
              exact again' (x+1) _ _ _ (by show s.2.1+1 - (x+1) < s.2.1+1 - x;omega) ⟨vI kw,rfl,rfl,rfl,trivial⟩ trivial ⟨by omega,rfl,u3'⟩
            · exact done x _ _ _ ⟨rfl,rfl,rfl,rfl,trivial⟩ trivial ⟨u0,rfl,(scanUp_stop (p:=(fun x=>ltInt x s.2.2[a]!)) (d:=s.2.2) (j:=s.2.1) (by simpa using k2)).symm.trans u3⟩
          · have k1:¬ x≤s.2.1:=by have:=of_decide_eq_false k1;omega
            refine cndF ?_
            exact done x _ _ _ ⟨rfl,rfl,rfl,rfl,trivial⟩ trivial ⟨u0,rfl,(scanUp_far k1).symm.trans u3⟩
        · obtain ⟨v0,rfl,v3⟩:=hE
          have w3u:=v3
          have w0u:=v0
          clear v3 v0
          refine loopX (σ:=Nat) tbOk mtOk ⟨[],[(1,[0,1,2,3,4,5,6,7,8,9,10,11,12,13,14,15],[0,0,0,0,0,0,48,112,0,0,768,1792,4083,8179,16383,32767]),(3,[0,1,2,3,4,5,6,7,8,9,10,11,12,13],[0,0,3,7,15,15,63,127,15,15,783,1807,4095,8191]),(5,[0,1,2,3,4,5,6,7,8,9,10,11,12,13,14],[0,0,3,7,15,15,63,127,15,15,783,1807,4095,8191,16383]),(8,[0,1,2,3,4,5,6,7,8,9,10,11,12,13,14,15],[0,0,0,0,0,0,48,112,0,0,768,1792,4083,8179,16383,32767]),(10,[0,1,2,3,4,5,6,7,8,9,10,11,12,13,14,15],[0,0,0,0,0,0,48,112,0,0,768,1792,4083,8179,16383,32767]),(13,[0,1,2,3,4,5,6,7,8,9,10,11,12,13],[0,0,3,7,15,15,63,127,15,15,783,1807,4095,8191]),(15,[0,1,2,3,4,5,6,7,8,9,10,11,12,13,14],[0,0,3,7,15,15,63,127,15,15,783,1807,4095,8191,16383]),(18,[0,1,2,3,4,5,6,7,8,9,10,11,12,13,14,15],[0,0,0,0,0,0,48,112,0,0,768,1792,4083,8179,16383,32767]),(21,[0,1,2,3,4,5,6,7,8,9,10,11,12,13,14,15],[0,0,0,0,0,0,48,112,0,0,768,1792,4083,8179,16383,32767])]⟩ (fun y=>[(10,.v (.int .i64 ((x:Nat):Int))),(11,.v (.int .i64 ((y:Nat):Int))),(0,.v (sa b e n fl)),(1,.v (.int .i64 (a:Int)))]) (fun _=>[]) (fun y h'=>y≤s.2.1∧h2=h'∧scanDown (fun x => !ltInt x s.2.2[a]!) s.2.2 x y=scanDown (fun x => !ltInt x s.2.2[a]!) s.2.2 x s.2.1) (fun y=>y) 5 (fun y h'=>y≤s.2.1∧h2=h'∧y=scanDown (fun x => !ltInt x s.2.2[a]!) s.2.2 x s.2.1) 400 (s.2.1) (fun _=>rfl) ⟨rfl,rfl,rfl,rfl,trivial⟩ trivial ⟨Nat.le_refl _,rfl,rfl⟩ (fun y hz hI again' done => ?_) (fun y hz hE => ?_)
          · obtain ⟨u0,rfl,u3⟩:=hI
            refine And.intro (by kernel_rfl) ?_
            refine cnd (fun k1 => ?_) (fun k1 => ?_)
            · have k1:x≤y:=by have:=of_decide_eq_true k1;omega
              have kw:IntKind.i64.wrap ((y:Int) - 1)=((y - 1:Nat):Int):=wz (by omega) (by omega)
              refine And.intro ⟨by omega,by omega⟩ ?_
              refine ⟨_,j4.ldI rfl (by omega),?_⟩
              refine And.intro ⟨by omega,by omega⟩ ?_
              refine ⟨_,j4.ldI rfl (by omega),?_⟩
              refine callP (Less_ok _ _ _) ?_
              rintro v hy ⟨rfl,rfl⟩
              refine cnd (fun k2 => ?_) (fun k2 => ?_)
              · skip
                have u3':=(scanDown_go (p:=(fun x => !ltInt x s.2.2[a]!)) (by omega) k1 (by simpa using k2)).symm.trans u3
                refine more tbOk mtOk ⟨[],[(1,[0,1,2,3,4,5,6,7,8,9,10,11,12,13,14,15],[0,0,0,0,0,0,48,112,0,0,768,1792,4083,8179,16383,32767]),(3,[0,1,2,3,4,5,6,7,8,9,10,11,12,13],[0,0,3,7,15,15,63,127,15,15,783,1807,4095,8191]),(5,[0,1,2,3,4,5,6,7,8,9,10,11,12,13,14],[0,0,3,7,15,15,63,127,15,15,783,1807,4095,8191,16383]),(8,[0,1,2,3,4,5,6,7,8,9,10,11,12,13,14,15],[0,0,0,0,0,0,48,112,0,0,768,1792,4083,8179,16383,32767]),(10,[0,1,2,3,4,5,6,7,8,9,10,11,12,13,14,15],[0,0,0,0,0,0,48,112,0,0,768,1792,4083,8179,16383,32767]),(13,[0,1,2,3,4,5,6,7,8,9,10,11,12,13],[0,0,3,7,15,15,63,127,15,15,783,1807,4095,8191]),(15,[0,1,2,3,4,5,6,7,8,9,10,11,12,13,14],[0,0,3,7,15,15,63,127,15,15,783,1807,4095,8191,16383]),(18,[0,1,2,3,4,5,6,7,8,9,10,11,12,13,14,15],[0,0,0,0,0,0,48,112,0,0,768,1792,4083,8179,16383,32767]),(21,[0,1,2,3,4,5,6,7,8,9,10,11,12,13,14,15],[0,0,0,0,0,0,48,112,0,0,768,1792,4083,8179,16383,32767])]⟩ 400 ?_
                exact again' (y - 1) _ _ _ (by show y - 1 < y;omega) ⟨rfl,vI kw,rfl,rfl,trivial⟩ trivial ⟨by omega,rfl,u3'⟩
              · exact done y _ _ _ ⟨rfl,rfl,rfl,rfl,trivial⟩ trivial ⟨u0,rfl,(scanDown_stop (p:=(fun x => !ltInt x s.2.2[a]!)) (d:=s.2.2) (i:=x) (by simpa using k2)).symm.trans u3⟩
            · have k1:¬ x≤y:=by have:=of_decide_eq_false k1;omega
              refine cndF ?_
              exact done y _ _ _ ⟨rfl,rfl,rfl,rfl,trivial⟩ trivial ⟨u0,rfl,(scanDown_far k1).symm.trans u3⟩
          · obtain ⟨v0,rfl,v3⟩:=hE
            rw [← w3u] at j6
            rw [← v3] at j6
            refine cnd (fun c2 => ?_) (fun c2 => ?_)
            · have c2:x > y:=by have:=of_decide_eq_true c2;omega
              rw [if_pos c2] at j6
              refine And.intro (by kernel_rfl) ?_
              refine And.intro ⟨by omega,by omega⟩ ?_
              refine ⟨_,j4.ldI rfl (by omega),?_⟩
              refine And.intro ⟨by omega,by omega⟩ ?_
              refine ⟨_,j4.ldI rfl (by omega),?_⟩
              refine And.intro ⟨by omega,by omega⟩ ?_
              refine ⟨_,j4.stI (lo:=lo) hb rfl (i:=y) (by omega) _,?_⟩
              refine And.intro ⟨by omega,by omega⟩ ?_
              refine ⟨_,(j4.sw1 (y) (a)).stI (lo:=lo) hb rfl (by rw [Array.size_setIfInBounds];omega) _,?_⟩
              rw [eP,← j6]
              exact And.intro rfl ⟨j3.trans (hsw_ext y a),j4.sw y a,swp_sz j5 y a⟩
            · have c2:¬ x > y:=by have:=of_decide_eq_false c2;omega
              rw [if_neg c2] at j6
              refine And.intro (by kernel_rfl) ?_
              refine And.intro ⟨by omega,by omega⟩ ?_
              refine ⟨_,j4.ldI rfl (by omega),?_⟩
              refine And.intro ⟨by omega,by omega⟩ ?_
              refine ⟨_,j4.ldI rfl (by omega),?_⟩
              refine And.intro ⟨by omega,by omega⟩ ?_
              refine ⟨_,j4.stI (lo:=lo) hb rfl (i:=x) (by omega) _,?_⟩
              refine And.intro ⟨by omega,by omega⟩ ?_
              refine ⟨_,(j4.sw1 (x) (y)).stI (lo:=lo) hb rfl (by rw [Array.size_setIfInBounds];omega) _,?_⟩
              have wx:IntKind.i64.wrap ((x:Int)+1)=((x+1:Nat):Int):=wz (by omega) (by omega)
              have wy:IntKind.i64.wrap ((y:Int) - 1)=((y - 1:Nat):Int):=wz (by omega) (by omega)
              exact again (x+1,y - 1,swp s.2.2 x y) _ _ _ (by show y - 1+1 - (x+1) < s.2.1+1 - s.1;omega) ⟨vI wx,vI wy,rfl,rfl,trivial⟩ trivial ⟨by show a < x+1;omega,by show y - 1 < c;omega,j3.trans (hsw_ext x y),j4.sw x y,swp_sz j5 x y,j6⟩
end Go.Proofs.YtjpcfaddimlbdaaGreat.Id
namespace Go.Proofs.YtjpcfaddimlbdaaGreat.Id
open Go.Id Go.Sort
open Go.Proofs
set_option linter.unusedVariables false
set_option maxRecDepth 100000
variable {X:Ctx Tryz.prog} {lo:Nat}
theorem partitionEqual_ok (b e n fl:Nat) (d0:Array Int) (a c pv:Nat) (h:Hp) (r0:AR h b e d0) (hn:d0.size=n) (ha:a≤pv) (hp:pv < c) (hc:c≤n) (hN:n < 2 ^ 31) (hb:lo≤b):Tri X lo 146 [sa b e n fl,.int .i64 (a:Int),.int .i64 (c:Int),.int .i64 (pv:Int)] h fun v h'=>v = .int .i64 ((partitionEqual ltInt d0 a c pv).1:Int)∧PA b e n h (partitionEqual ltInt d0 a c pv).2 h':=by
  refine enter tbOk mtOk ⟨[],[(1,[0,1,2,3,4,5,6,7,8,9,10,11,12,13,14,15],[0,0,0,0,0,0,48,112,0,0,768,1792,4083,8179,16383,32767]),(3,[0,1,2,3,4,5,6,7,8,9,10,11,12,13,14],[0,0,3,7,15,15,63,127,15,15,783,1807,4095,8191,16383]),(5,[0,1,2,3,4,5,6,7,8,9,10,11,12,13],[0,0,3,7,15,15,63,127,15,15,783,1807,4095,8191]),(8,[0,1,2,3,4,5,6,7,8,9,10,11,12,13,14,15],[0,0,0,0,0,0,48,112,0,0,768,1792,4083,8179,16383,32767])]⟩ 400 Tryz.func146 rfl rfl rfl fun hlo => ?_
  have w1:IntKind.i64.wrap ((a:Int)+1)=((a+1:Nat):Int):=wz (by omega) (by omega)
  have w2:IntKind.i64.wrap ((c:Int) - 1)=((c - 1:Nat):Int):=wz (by omega) (by omega)
  refine And.intro (by kernel_rfl) ?_
  refine And.intro ⟨by omega,by omega⟩ ?_
  refine ⟨_,r0.ldI rfl (by omega),?_⟩
  refine And.intro ⟨by omega,by omega⟩ ?_
  refine ⟨_,r0.ldI rfl (by omega),?_⟩
  refine And.intro ⟨by omega,by omega⟩ ?_
  refine ⟨_,r0.stI (lo:=lo) hb rfl (i:=a) (by omega) _,?_⟩
  refine And.intro ⟨by omega,by omega⟩ ?_
  refine ⟨hsw h b e d0 (a) (pv),(r0.sw1 (a) (pv)).stI (lo:=lo) hb rfl (by rw [Array.size_setIfInBounds];omega) _,?_⟩
  have r1:=r0.sw a pv
  have z1:=swp_sz hn a pv
  have x1:=hsw_ext (h:=h) (b:=b) (e:=e) (d:=d0) a pv
  have eP:partitionEqual ltInt d0 a c pv=partEqLoop ltInt a (a+1) (c - 1) (swp d0 a pv):=rfl
  rw [eP]
  generalize hsw h b e d0 a pv=h1 at r1 x1 ⊢
  generalize swp d0 a pv=d1 at r1 z1 ⊢
  refine loop (σ:=Nat×Nat×Array Int) tbOk mtOk ⟨[],[(1,[0,1,2,3,4,5,6,7,8,9,10,11,12,13,14,15],[0,0,0,0,0,0,48,112,0,0,768,1792,4083,8179,16383,32767]),(3,[0,1,2,3,4,5,6,7,8,9,10,11,12,13,14],[0,0,3,7,15,15,63,127,15,15,783,1807,4095,8191,16383]),(5,[0,1,2,3,4,5,6,7,8,9,10,11,12,13],[0,0,3,7,15,15,63,127,15,15,783,1807,4095,8191]),(8,[0,1,2,3,4,5,6,7,8,9,10,11,12,13,14,15],[0,0,0,0,0,0,48,112,0,0,768,1792,4083,8179,16383,32767])]⟩ (fun s=>[(9,.v (.int .i64 ((s.1:Nat):Int))),(10,.v (.int .i64 ((s.2.1:Nat):Int))),(0,.v (sa b e n fl)),(1,.v (.int .i64 (a:Int)))]) (fun _=>[]) (fun s h'=>a < s.1∧s.2.1 < c∧Ext1 b h h'∧AR h' b e s.2.2∧s.2.2.size=n∧partEqLoop ltInt a s.1 s.2.1 s.2.2=partEqLoop ltInt a (a+1) (c - 1) d1) (fun s=>s.2.1+1 - s.1) 400 (a+1,c - 1,d1) (fun _=>rfl) ⟨vI w1,vI w2,rfl,rfl,trivial⟩ trivial ⟨by show a < a+1;omega,by show c - 1 < c;omega,x1,r1,z1,rfl⟩ (fun s h2 hI again => ?_)
  obtain ⟨j1,j2,j3,j4,j5,j6⟩:=hI
  rw [partEqLoop_eq] at j6
  generalize partEqLoop ltInt a (a+1) (c - 1) d1=RR at *
  clear x1 r1 z1
  refine loopX (σ:=Nat) tbOk mtOk ⟨[],[(1,[0,1,2,3,4,5,6,7,8,9,10,11,12,13,14,15],[0,0,0,0,0,0,48,112,0,0,768,1792,4083,8179,16383,32767]),(3,[0,1,2,3,4,5,6,7,8,9,10,11,12,13,14],[0,0,3,7,15,15,63,127,15,15,783,1807,4095,8191,16383]),(5,[0,1,2,3,4,5,6,7,8,9,10,11,12,13],[0,0,3,7,15,15,63,127,15,15,783,1807,4095,8191]),(8,[0,1,2,3,4,5,6,7,8,9,10,11,12,13,14,15],[0,0,0,0,0,0,48,112,0,0,768,1792,4083,8179,16383,32767])]⟩ (fun x=>[(9,.v (.int .i64 ((x:Nat):Int))),(10,.v (.int .i64 ((s.2.1:Nat):Int))),(0,.v (sa b e n fl)),(1,.v (.int .i64 (a:Int)))]) (fun _=>[]) (fun x h'=>s.1≤x∧h2=h'∧scanUp (fun x => !ltInt s.2.2[a]! x) s.2.2 s.2.1 x=scanUp (fun x => !ltInt s.2.2[a]! x) s.2.2 s.2.1 s.1) (fun x=>s.2.1+1 - x) 5 (fun x h'=>s.1≤x∧h2=h'∧x=scanUp (fun x => !ltInt s.2.2[a]! x) s.2.2 s.2.1 s.1) 400 (s.1) (fun _=>rfl) ⟨rfl,rfl,rfl,rfl,trivial⟩ trivial ⟨Nat.le_refl _,rfl,rfl⟩ (fun x hz hI again' done => ?_) (fun x hz hE => ?_)
  · obtain ⟨u0,rfl,u3⟩:=hI
    refine And.intro (by kernel_rfl) ?_
    refine cnd (fun k1 => ?_) (fun k1 => ?_)
    · have k1:x≤s.2.1:=by have:=of_decide_eq_true k1;omega
      have kw:IntKind.i64.wrap ((x:Int)+1)=((x+1:Nat):Int):=wz (by omega) (by omega)
      refine And.intro ⟨by omega,by omega⟩ ?_
      refine ⟨_,j4.ldI rfl (by omega),?_⟩
      refine And.intro ⟨by omega,by omega⟩ ?_
      refine ⟨_,j4.ldI rfl (by omega),?_⟩
      refine callP (Less_ok _ _ _) ?_
      rintro v hy ⟨rfl,rfl⟩
      refine cnd (fun k2 => ?_) (fun k2 => ?_)
      · skip
        have u3':=(scanUp_go (p:=(fun x => !ltInt s.2.2[a]! x)) k1 (by simpa using k2)).symm.trans u3
        refine more tbOk mtOk ⟨[],[(1,[0,1,2,3,4,5,6,7,8,9,10,11,12,13,14,15],[0,0,0,0,0,0,48,112,0,0,768,1792,4083,8179,16383,32767]),(3,[0,1,2,3,4,5,6,7,8,9,10,11,12,13,14],[0,0,3,7,15,15,63,127,15,15,783,1807,4095,8191,16383]),(5,[0,1,2,3,4,5,6,7,8,9,10,11,12,13],[0,0,3,7,15,15,63,127,15,15,783,1807,4095,8191]),(8,[0,1,2,3,4,5,6,7,8,9,10,11,12,13,14,15],[0,0,0,0,0,0,48,112,0,0,768,1792,4083,8179,16383,32767])]⟩ 400 ?_
        exact again' (x+1) _ _ _ (by show s.2.1+1 - (x+1) < s.2.1+1 - x;omega) ⟨vI kw,rfl,rfl,rfl,trivial⟩ trivial ⟨by omega,rfl,u3'⟩
      · exact done x _ _ _ ⟨rfl,rfl,rfl,rfl,trivial⟩ trivial ⟨u0,rfl,(scanUp_stop (p:=(fun x => !ltInt s.2.2[a]! x)) (d:=s.2.2) (j:=s.2.1) (by simpa using k2)).symm.trans u3⟩
    · have k1:¬ x≤s.2.1:=by have:=of_decide_eq_false k1;omega
      refine cndF ?_
      exact done x _ _ _ ⟨rfl,rfl,rfl,rfl,trivial⟩ trivial ⟨u0,rfl,(scanUp_far k1).symm.trans u3⟩
  · obtain ⟨v0,rfl,v3⟩:=hE
    have w3u:=v3
    have w0u:=v0
    clear v3 v0
    refine loopX (σ:=Nat) tbOk mtOk ⟨[],[(1,[0,1,2,3,4,5,6,7,8,9,10,11,12,13,14,15],[0,0,0,0,0,0,48,112,0,0,768,1792,4083,8179,16383,32767]),(3,[0,1,2,3,4,5,6,7,8,9,10,11,12,13,14],[0,0,3,7,15,15,63,127,15,15,783,1807,4095,8191,16383]),(5,[0,1,2,3,4,5,6,7,8,9,10,11,12,13],[0,0,3,7,15,15,63,127,15,15,783,1807,4095,8191]),(8,[0,1,2,3,4,5,6,7,8,9,10,11,12,13,14,15],[0,0,0,0,0,0,48,112,0,0,768,1792,4083,8179,16383,32767])]⟩ (fun y=>[(9,.v (.int .i64 ((x:Nat):Int))),(10,.v (.int .i64 ((y:Nat):Int))),(0,.v (sa b e n fl)),(1,.v (.int .i64 (a:Int)))]) (fun _=>[]) (fun y h'=>y≤s.2.1∧h2=h'∧scanDown (fun x=>ltInt s.2.2[a]! x) s.2.2 x y=scanDown (fun x=>ltInt s.2.2[a]! x) s.2.2 x s.2.1) (fun y=>y) 5 (fun y h'=>y≤s.2.1∧h2=h'∧y=scanDown (fun x=>ltInt s.2.2[a]! x) s.2.2 x s.2.1) 400 (s.2.1) (fun _=>rfl) ⟨rfl,rfl,rfl,rfl,trivial⟩ trivial ⟨Nat.le_refl _,rfl,rfl⟩ (fun y hz hI again' done => ?_) (fun y hz hE => ?_)
    · obtain ⟨u0,rfl,u3⟩:=hI
      refine And.intro (by kernel_rfl) ?_
      refine cnd (fun k1 => ?_) (fun k1 => ?_)
      · have k1:x≤y:=by have:=of_decide_eq_true k1;omega
        have kw:IntKind.i64.wrap ((y:Int) - 1)=((y - 1:Nat):Int):=wz (by omega) (by omega)
        refine And.intro ⟨by omega,by omega⟩ ?_
        refine ⟨_,j4.ldI rfl (by omega),?_⟩
        refine And.intro ⟨by omega,by omega⟩ ?_
        refine ⟨_,j4.ldI rfl (by omega),?_⟩
        refine callP (Less_ok _ _ _) ?_
        rintro v hy ⟨rfl,rfl⟩
        refine cnd (fun k2 => ?_) (fun k2 => ?_)
        · skip
          have u3':=(scanDown_go (p:=(fun x=>ltInt s.2.2[a]! x)) (by omega) k1 (by simpa using k2)).symm.trans u3
          refine more tbOk mtOk ⟨[],[(1,[0,1,2,3,4,5,6,7,8,9,10,11,12,13,14,15],[0,0,0,0,0,0,48,112,0,0,768,1792,4083,8179,16383,32767]),(3,[0,1,2,3,4,5,6,7,8,9,10,11,12,13,14],[0,0,3,7,15,15,63,127,15,15,783,1807,4095,8191,16383]),(5,[0,1,2,3,4,5,6,7,8,9,10,11,12,13],[0,0,3,7,15,15,63,127,15,15,783,1807,4095,8191]),(8,[0,1,2,3,4,5,6,7,8,9,10,11,12,13,14,15],[0,0,0,0,0,0,48,112,0,0,768,1792,4083,8179,16383,32767])]⟩ 400 ?_
          exact again' (y - 1) _ _ _ (by show y - 1 < y;omega) ⟨rfl,vI kw,rfl,rfl,trivial⟩ trivial ⟨by omega,rfl,u3'⟩
        · exact done y _ _ _ ⟨rfl,rfl,rfl,rfl,trivial⟩ trivial ⟨u0,rfl,(scanDown_stop (p:=(fun x=>ltInt s.2.2[a]! x)) (d:=s.2.2) (i:=x) (by simpa using k2)).symm.trans u3⟩
      · have k1:¬ x≤y:=by have:=of_decide_eq_false k1;omega
        refine cndF ?_
        exact done y _ _ _ ⟨rfl,rfl,rfl,rfl,trivial⟩ trivial ⟨u0,rfl,(scanDown_far k1).symm.trans u3⟩
    · obtain ⟨v0,rfl,v3⟩:=hE
      rw [← w3u] at j6
      rw [← v3] at j6
      refine cnd (fun c2 => ?_) (fun c2 => ?_)
      · have c2:x > y:=by have:=of_decide_eq_true c2;omega
        rw [if_pos c2] at j6
        rw [← j6]
        exact And.intro rfl ⟨j3,j4,j5⟩
      · have c2:¬ x > y:=by have:=of_decide_eq_false c2;omega
        rw [if_neg c2] at j6
        refine And.intro (by kernel_rfl) ?_
        refine And.intro ⟨by omega,by omega⟩ ?_
        refine ⟨_,j4.ldI rfl (by omega),?_⟩
        refine And.intro ⟨by omega,by omega⟩ ?_
        refine ⟨_,j4.ldI rfl (by omega),?_⟩
        refine And.intro ⟨by omega,by omega⟩ ?_
        refine ⟨_,j4.stI (lo:=lo) hb rfl (i:=x) (by omega) _,?_⟩
        refine And.intro ⟨by omega,by omega⟩ ?_
        refine ⟨_,(j4.sw1 (x) (y)).stI (lo:=lo) hb rfl (by rw [Array.size_setIfInBounds];omega) _,?_⟩
        have wx:IntKind.i64.wrap ((x:Int)+1)=((x+1:Nat):Int):=wz (by omega) (by omega)
        have wy:IntKind.i64.wrap ((y:Int) - 1)=((y - 1:Nat):Int):=wz (by omega) (by omega)
        exact again (x+1,y - 1,swp s.2.2 x y) _ _ _ (by show y - 1+1 - (x+1) < s.2.1+1 - s.1;omega) ⟨vI wx,vI wy,rfl,rfl,trivial⟩ trivial ⟨by show a < x+1;omega,by show y - 1 < c;omega,j3.trans (hsw_ext x y),j4.sw x y,swp_sz j5 x y,j6⟩
end Go.Proofs.YtjpcfaddimlbdaaGreat.Id
namespace Go.Proofs.YtjpcfaddimlbdaaGreat.Id
open Go.Id Go.Sort
open Go.Proofs
set_option linter.unusedVariables false
set_option maxRecDepth 100000
variable {X:Ctx Tryz.prog} {lo:Nat}
theorem reverseRange_ok (b e n fl:Nat) (d0:Array Int) (a c:Nat) (h:Hp) (r0:AR h b e d0) (hn:d0.size=n) (h0:0 < c) (hc:c≤n) (ha:a≤n) (hN:n < 2 ^ 31) (hb:lo≤b):Tri X lo 143 [sa b e n fl,.int .i64 (a:Int),.int .i64 (c:Int)] h fun v h'=>v = .tuple #[]∧PA b e n h (reverseRange d0 a c) h':=by
  refine enter tbOk mtOk ⟨[],[(3,[0,1,2,3,4,5,6,7,8,9,10,11,12,13,14,15],[0,0,0,0,0,0,48,112,0,0,768,1792,4083,8179,16383,32767])]⟩ 400 Tryz.func143 rfl rfl rfl fun hlo => ?_
  have w2:IntKind.i64.wrap ((c:Int) - 1)=((c - 1:Nat):Int):=wz (by omega) (by omega)
  refine loop (σ:=Nat×Nat×Array Int) tbOk mtOk ⟨[],[(3,[0,1,2,3,4,5,6,7,8,9,10,11,12,13,14,15],[0,0,0,0,0,0,48,112,0,0,768,1792,4083,8179,16383,32767])]⟩ (fun s=>[(6,.v (.int .i64 (s.1:Int))),(7,.v (.int .i64 (s.2.1:Int))),(0,.v (sa b e n fl))]) (fun _=>[]) (fun s h'=>s.2.1 < c∧Ext1 b h h'∧AR h' b e s.2.2∧s.2.2.size=n∧reverseLoop s.1 s.2.1 s.2.2=reverseRange d0 a c) (fun s=>s.2.1 - s.1) 400 (a,c - 1,d0) (fun _=>rfl) ⟨rfl,vI w2,rfl,trivial⟩ trivial ⟨by show c - 1 < c;omega,(Ext.refl _).one b,r0,hn,rfl⟩ (fun s h1 hI again => ?_)
  obtain ⟨j2,j3,j4,j5,j6⟩:=hI
  rw [reverseLoop] at j6
  refine cnd (fun c1 => ?_) (fun c1 => ?_)
  · have c1:s.1 < s.2.1:=by have:=of_decide_eq_true c1;omega
    rw [if_pos c1] at j6
    have wx:IntKind.i64.wrap ((s.1:Int)+1)=((s.1+1:Nat):Int):=wz (by omega) (by omega)
    have wy:IntKind.i64.wrap ((s.2.1:Int) - 1)=((s.2.1 - 1:Nat):Int):=wz (by omega) (by omega)
    refine And.intro (by kernel_rfl) ?_
    refine And.intro ⟨by omega,by omega⟩ ?_
    refine ⟨_,j4.ldI rfl (by omega),?_⟩
    refine And.intro ⟨by omega,by omega⟩ ?_
    refine ⟨_,j4.ldI rfl (by omega),?_⟩
    refine And.intro ⟨by omega,by omega⟩ ?_
    refine ⟨_,j4.stI (lo:=lo) hb rfl (i:=s.1) (by omega) _,?_⟩
    refine And.intro ⟨by omega,by omega⟩ ?_
    refine ⟨_,(j4.sw1 (s.1) (s.2.1)).stI (lo:=lo) hb rfl (by rw [Array.size_setIfInBounds];omega) _,?_⟩
    exact again (s.1+1,s.2.1 - 1,swp s.2.2 s.1 s.2.1) _ _ _ (by show s.2.1 - 1 - (s.1+1) < s.2.1 - s.1;omega) ⟨vI wx,vI wy,rfl,trivial⟩ trivial ⟨by show s.2.1 - 1 < c;omega,j3.trans (hsw_ext _ _),j4.sw _ _,swp_sz j5 _ _,j6⟩
  · have c1:¬ s.1 < s.2.1:=by have:=of_decide_eq_false c1;omega
    rw [if_neg c1] at j6
    rw [← j6]
    exact And.intro rfl ⟨j3,j4,j5⟩
end Go.Proofs.YtjpcfaddimlbdaaGreat.Id
