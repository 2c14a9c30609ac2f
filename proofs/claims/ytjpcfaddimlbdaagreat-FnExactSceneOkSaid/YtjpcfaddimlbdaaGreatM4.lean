/- Texts of this claim, joined: IdZ6, IdZ7, IdAA, IdAB, IdAC, IdAD, IdAE, IdAF, IdAG, IdAH, IdAI, IdAJ, IdAK, IdAL, Vb, Cs, Ea, Vc, Cv, Tr3, Da, Db, Dc, Dd, Tc, Wg, Cw, Cy. -/
import Derived.Test.YtjpcfaddimlbdaaGreatM3
import Derived.Conc.WgGenN3
import Derived.Conc.BesideWords
import Derived.Conc.LoneSelect
import Derived.Conc.CrowdComm
import Derived.Conc.TokenWalk
import Derived.Test.YtjpcfaddimlbdaaGreatChecked
namespace Go.Id
open Go.Conc
open Go.ConcN (ShN RelBy WgLive sumTo upd sumTo_upd upd_ne upd_same CTag WD Vc cnt)
open Go.ConcR (KK WgAt stA smA rd wr mk Payload DC0)
set_option linter.unusedVariables false
set_option linter.unusedSectionVars false
variable [Payload]
structure PhEnd (Y:Ph) (D:Nat→WX) (O0:Nat→Prop) (w:World):Prop where
  chan:CO Y Y.n D w
  all:∀ i,i < Y.n→(D i).stage=1
  own0:∀ b,O0 b→b < w.heap.size∧¬ Y.fro b∧b≠Y.Ch∧b≠Y.Wg∧∀ i,i < Y.n→¬ (D i).own b
  own:∀ i,i < Y.n→∀ b,(D i).own b→b < w.heap.size∧¬ Y.fro b∧b≠Y.Ch∧b≠Y.Wg∧∀ k,k < Y.n→(D k).own b→k=i
  wg:Y.Wg < w.heap.size
structure PhBegin (Pr:Program) (N0 O:Nat→Prop) (Stop:(Nat→Prop)→Goroutine→World→Prop) (r:Nat) (Y:Ph) (w₁ w₂:World) (g':Goroutine):Prop where
  P:Y.P=Pr
  wg:Y.Wg=w₁.heap.size
  n:Y.n=r+1
  lt:Y.n < 2147483648
  ok:PhOk Y
  fro:∀ b,Y.fro b↔(N0 b∨O b)∧b≠Y.Ch
  ch:O Y.Ch
  chan:∃ s,w₂.heap[Y.Ch]? = some (.chan Y.n #[] false s 0 false)
  grp:WgAt Y.ty Y.Wg w₂ 0 0
  run:∃ (Fin:(Nat→Prop)→Goroutine→World→Prop) (ρ:Rk),GTr Y.P true Y.fro (AtAdd Y 0 (Starts Y Fin r)) ρ (fun _=>False) g' w₂ ∧
    ∀ D O0 a w',Fin O0 a w'→PhEnd Y D O0 w'→JM Pr N0 Stop (fun b=>O b∨O0 b∨∃ i,i < Y.n∧(D i).own b) a w'
set_option maxHeartbeats 1000000 in
theorem phase_JM {P:Program} {N0 O:Nat→Prop} {Stop:(Nat→Prop)→Goroutine→World→Prop} {g:Goroutine} {w:World} {r:Nat} (hrun:g.status = .running)
    (h:∀ w₁,Rly N0 O w w₁→∃ g' w₂ es Y,stepG P true g w₁ = .go g' w₂ es∧Guar N0 O w₁ w₂ es∧w₁.heap.size < w₂.heap.size∧PhBegin P N0 O Stop r Y w₁ w₂ g'):JM P N0 Stop O g w:=by
  intro w₁ hr gs sl t q S F
  obtain ⟨N,gs₁,d,sl₁,sl₂,t₁,q₁,hN,F₁,d',hst⟩:=Frm.pick hrun _ gs w₁ sl t q (Nat.le_refl _) F
  have hr₁:=(hr.trans (rly_at w₁ d)).trans (rly_at (w₁.at d) d')
  generalize hwx:(w₁.at d).at d'=wx at *
  have F₂:Frm P N0 O g wx gs₁ t₁ q₁ S:=by rw [← hwx];exact ⟨F₁.zero,F₁.lv,F₁.past,F₁.shun,F₁.old,F₁.now,F₁.base,F₁.num⟩
  obtain ⟨g',w₂,es,Y,hgo,hG,hsz,B⟩:=h wx hr₁
  obtain ⟨Fin,ρ,htr,hcont⟩:=B.run
  obtain ⟨hYP,hwg,hn,hlt,hK,hfro,hch,⟨sn,hchan⟩,hgrp,_⟩:=B
  subst hYP
  have hpos:0 < gs₁.size:=(Array.getElem?_eq_some_iff.1 F₂.zero).1
  have hrunT:=runT_crowd_go (P:=Y.P) (sl:=sl₂) (i:=0) F₂.zero (show stepG Y.P (0 == 0) g wx=_ from hgo)
  have hlow:∀ b,(N0 b∨O b)→b < Y.Wg:=fun b hb=>by rw [hwg];exact hb.elim (F₂.base b) (F₂.now b)
  have hpast:Past S Y.Wg (t₁++MemOp.ofEvents 0 g.frame.fn g.frame.place es):=by
    rw [hwg]
    exact F₂.past.own fun e he=>evL_of F₂.shun (fun b hb=>by have:=hlow b hb;omega) (hG.evs e he)
  have hcl:Y.Ch < Y.Wg:=hlow _ (.inr hch)
  have hnum:∀ op∈t₁++MemOp.ofEvents 0 g.frame.fn g.frame.place es,op.g < gs₁.size:=fun op hop=>(Array.mem_append.1 hop).elim (F₂.num op) fun x=>by rw [ofEvents_g x];exact hpos
  let D0:Nat→WX:=fun _=>⟨0,.mk Empty (fun x=>x.elim),0,0,fun _=>False⟩
  have hsW:∀ l b,ShN Y.Wg l→blockOf l=some b→b=Y.Wg:=by
    rintro l b ⟨ad,rfl,hb⟩ h2
    simp [blockOf] at h2
    omega
  have hfb:∀ b,Y.fro b→b < Y.Wg:=fun b hb=>hlow b ((hfro b).1 hb).1
  have hcom:Com Y (fun l=>S l∨ShN Y.Wg l) gs₁.size 0 ((gs₁.map (woken Y.P g g' w₂)).setIfInBounds 0 g') w₂ (t₁++MemOp.ofEvents 0 g.frame.fn g.frame.place es) D0 0 (fun _=>False) q₁:=by
    refine ⟨hpos,by simp,fun i x k1 k2 hk => ?_,fun i hi=>by omega,PT.begin hpast (by omega) (fun op hop=>hnum op hop) (fun k b hb=>by have:=hb.1;have:=hb.2.1;omega),⟨fun k k' b h1 _=>by have:=h1.1;have:=h1.2.1;omega,fun k b h1=>by have:=h1.1;have:=h1.2.1;omega,fun k l b h1=>by have:=h1.1;have:=h1.2.1;omega,fun l b hb hl hs => ?_,fun k b h1=>by have:=h1.1;have:=h1.2.1;omega⟩,fun l hl => .inr hl,fun l b _ _ hf=>hf,fun l b hs hl => ?_,fun b hf=>hf.elim,fun i hi=>by omega,fun b hb=>⟨by have:=hfb b hb;omega,((hfro b).1 hb).2⟩,⟨by omega,by omega⟩,hpast.hears,fun i hi=>by omega,fun i hi=>by omega,⟨#[],sn,[],hchan,rfl,by simp,fun i=>by simp,fun p i v hp=>by simp at hp⟩⟩
    · rw [Array.getElem?_setIfInBounds_ne (by omega),Array.getElem?_map] at hk
      obtain ⟨z,hz,rfl⟩:=Option.map_eq_some_iff.1 hk
      have hq:=F₂.lv.old i z k1 hz
      rw [woken_quitsD hq,Deaf_other t₁ (g':=0) (by omega) _ (fun op hop=>ofEvents_g hop)]
      exact hq
    · rcases hs with hs | hs
      · exact F₂.shun l b hs hl ((hfro b).1 hb).1
      · have:=hsW l b hs hl;have:=hfb b hb;omega
    · rcases hs with hs | hs
      · have:=F₂.old l b hs hl;omega
      · have:=hsW l b hs hl;omega
  have hInv:Inv Y Fin (fun l=>S l∨ShN Y.Wg l) gs₁.size (mu Y gs₁.size 0 D0 (.sp r 6) ρ 0 q₁) (crowd ((gs₁.map (woken Y.P g g' w₂)).setIfInBounds 0 g') w₂ sl₂) (t₁++MemOp.ofEvents 0 g.frame.fn g.frame.place es):=by
    refine ⟨_,w₂,sl₂,0,D0,.sp r 6,ρ,0,0,fun _=>False,q₁,g',0,0,rfl,by simp [hpos],?_,hcom,hgrp,?_,rfl⟩
    · have e:Y.n - (r+1)=0:=by omega
      have:=CS.spt (Y:=Y) (Fin:=Fin) (r:=r) (by omega) (by rw [e];exact htr)
      rw [e] at this
      exact this
    · have:=Go.ConcN.Mode.opn (j:=0) (D:=toD D0) (tag := .sp r 6) trivial (fun i hi=>by omega) (fun vs e=>by cases e)
      show Go.ConcN.Mode 0 (toD D0) (.sp r 6) 0 0
      simpa [Vc,sumTo,Go.ConcN.pend] using this
  obtain ⟨N₂,m',t',hN₂,gs₃,w₃,sl₃,D,O0,q₃,a,rfl,ha,hFin,hcom₃,hst1,hpast₃⟩:=phase_runs hK hlt _ _ _ hInv
  have hend:PhEnd Y D O0 w₃:=by
    refine ⟨hcom₃.chan,hst1,fun b hb => ?_,fun i hi b hb=>⟨hcom₃.own_low hi hb,hcom₃.own_fro hi hb,hcom₃.ownW i hi b hb,fun e=>hcom₃.ownWg hi (e▸hb),fun k hk hk'=>hcom₃.own_one hk hi hk' hb⟩,hcom₃.wgl.1⟩
    obtain ⟨a1,a2,a3,a4⟩:=hcom₃.own0 b hb
    exact ⟨a1,a2,a3,fun e=>hcom₃.shO _ b (hcom₃.shW _ sh_wg) (by rw [e];rfl) hb,a4⟩
  have hJ:=hcont D O0 a w₃ hFin hend
  have F₃:Frm Y.P N0 (fun b=>O b∨O0 b∨∃ i,i < Y.n∧(D i).own b) a w₃ gs₃ t' (fun i=>if i < gs₁.size then q₃ i else (D (i - gs₁.size)).fuel) (fun l=>S l∨ShN Y.Wg l):=by
    refine ⟨ha,⟨fun i x k1 hk => ?_,fun k hk => ?_⟩,hpast₃,fun l b hs hl => ?_,hcom₃.shL,fun b hb => ?_,fun b hb=>by have:=hlow b (.inl hb);have:=hcom₃.wgl.1;omega,fun op hop=>by rw [hcom₃.size];exact hcom₃.pt.gs op hop⟩
    · rcases Nat.lt_or_ge i gs₁.size with hlt | hge
      · simp only [if_pos hlt];exact hcom₃.old i x k1 hlt hk
      · simp only [if_neg (Nat.not_lt.2 hge)]
        have hlt:i < gs₁.size+Y.n:=by have:=(Array.getElem?_eq_some_iff.1 hk).1;rw [hcom₃.size] at this;exact this
        obtain ⟨y,hy,hs⟩:=hcom₃.wk (i - gs₁.size) (by omega)
        rw [show gs₁.size+(i - gs₁.size)=i by omega,hk] at hy
        cases hy
        have hd:=hcom₃.deafW (i - gs₁.size) (by omega)
        rw [show gs₁.size+(i - gs₁.size)=i by omega] at hd
        rw [hst1 _ (by omega)] at hs
        rw [hd]
        generalize hx:D (i - gs₁.size)=x0 at hs
        obtain ⟨s,ρ',m,dd,o⟩:=x0
        simp only at hs
        cases hs with
        | quit hq=>exact hq
    · exact Go.ConcN.Deaf_absent fun i op hi e=>by have:=hcom₃.pt.gs op (Array.mem_of_getElem? hi);rw [hcom₃.size] at hk;omega
    · have key:¬ (O0 b∨∃ i,i < Y.n∧(D i).own b):=by
        rintro (ho | ⟨i,hi,ho⟩)
        · exact hcom₃.shO l b hs hl ho
        · exact hcom₃.fam.osh (gs₁.size+i) l b ⟨by omega,by omega,by rw [show gs₁.size+i - gs₁.size=i by omega];exact ho⟩ hl hs
      rintro (hb | hb | hb)
      · rcases hs with hs | hs
        · exact F₂.shun l b hs hl (.inl hb)
        · have:=hsW l b hs hl;have:=hlow b (.inl hb);omega
      · rcases hs with hs | hs
        · exact F₂.shun l b hs hl (.inr hb)
        · have:=hsW l b hs hl;have:=hlow b (.inr hb);omega
      · exact key hb
    · rcases hb with hb | hb | ⟨i,hi,hb⟩
      · have:=hlow b (.inr hb);have:=hcom₃.wgl.1;omega
      · exact (hcom₃.own0 b hb).1
      · exact hcom₃.own_low hi hb
  obtain ⟨N₄,gs',sl',t'',q',Shun',g'',w',O',hr',F',hS⟩:=hJ w₃ (Rly.refl _ _ _) gs₃ sl₃ t' _ _ F₃
  refine ⟨N+(1+(N₂+N₄)),gs',sl',t'',q',Shun',g'',w',O',?_,F',hS⟩
  rw [runNT_add,hN]
  simp only
  rw [runNT_add]
  have h1:runNT Y.P 1 (crowd gs₁ (w₁.at d) sl₁) t₁=(.next (crowd ((gs₁.map (woken Y.P g g' w₂)).setIfInBounds 0 g') w₂ sl₂),t₁++MemOp.ofEvents 0 g.frame.fn g.frame.place es):=by
    simp only [runNT,hst,hrunT]
  rw [h1]
  simp only
  rw [runNT_add,hN₂]
  exact hr'
end Go.Id
namespace Go.Id
open Go.Conc
open Go.ConcR (DC0)
set_option linter.unusedVariables false
theorem goes_tree {P:Program} {main:Bool} {N0 O:Nat→Prop} {Stop:(Nat→Prop)→Goroutine→World→Prop}:∀ {m:Nat} {g:Goroutine} {w:World},
    Goes P main (Rly N0 O) DC0 (fun g w=>∃ ρ,GTr P main N0 Stop ρ O g w) m g w→∃ ρ,GTr P main N0 Stop ρ O g w
  | 0,g,w,h=>h w (Rly.refl _ _ _)
  | m+1,g,w,h=>by
    rcases h with h | ⟨hs,h⟩
    · exact h w (Rly.refl _ _ _)
    · refine JW.step hs fun w₁ r => ?_
      obtain ⟨g',w',es,hgo,⟨rfl,rfl⟩,hg'⟩:=goes_elim (h w₁ r)
      refine ⟨g',w',#[],hgo,guar_idle _ _ _,?_⟩
      rw [grow_self]
      exact goes_tree hg'
end Go.Id
namespace Go.Id
open Go.Conc Go.RowKit Go.Conc.Lib Go.ConcR.Gen
open Go.ConcN (WgLive)
open Go.ConcN.Gen
open Go.ConcR (KK WgAt stA smA rd wr mk Payload DC0)
set_option linter.unusedVariables false
set_option linter.unusedSectionVars false
variable [Payload] {L:WgLink}
theorem fr_rely {Y:Ph} {O:Nat→Prop} {F:World→Prop} (hF2:∀ w w',Rly Y.fro O w w'→F w→F w') {w w₁:World} (h:F w∧WgLive Y.ty Y.Wg w) (r:RS Y O w w₁):F w₁∧WgLive Y.ty Y.Wg w₁:=⟨hF2 _ _ r.1 h.1,r.2 h.2⟩
theorem fo_rely {N0 O:Nat→Prop} {F:World→Prop} (hF2:∀ w w',Rly N0 O w w'→F w→F w') {w w₁:World} (h:F w) (r:Rly N0 O w w₁):F w₁:=hF2 _ _ r h
theorem rly_set {N0 O:Nat→Prop} {w:World} {a:Addr} {v:Value} (h:¬ N0 a.block∧¬ O a.block):Rly N0 O w (w.setCell a v) :=
  ⟨by simp [World.setCell],fun b _ hb=>Below.heap_setCell w a v b (by rintro rfl;exact hb.elim h.1 h.2),by simp [World.setCell],by simp [World.setCell]⟩
section
variable {Y:Ph} {O:Nat→Prop} {F:World→Prop} {i:Nat} {Next:(Nat→Prop)→Goroutine→World→Prop}
  {b₀:Frame} {a₀:Act} {ops₀:Array Oper} {i₀:Nat} {rest₀:List Nat} {k₀:List Item} {cs:List Frame}
set_option maxRecDepth 100000 in
set_option maxHeartbeats 8000000 in
theorem add_walk (H:WgLib Y.P L) (hty:Y.ty=L.tWg) (hW:¬ Y.fro Y.Wg∧¬ O Y.Wg) (hF2:∀ w w',Rly Y.fro O w w'→F w→F w')
    (hT:∀ w,F w→∃ ρ,GTr Y.P true Y.fro (AtGo Y i Next) ρ O (G (b₀.at (a₀.put ((ops₀[i₀]?).bind (·.dst)) (.tuple #[])) (.inRegion ops₀ rest₀::k₀)) cs) w) (w:World) (hF:F w) (hlv:WgLive Y.ty Y.Wg w) :
    Goes Y.P true (RS Y O) DC0 (AtKdS Y i Next O) 12 (G (Frame.enter Y.P L.add #[.pointer (some ⟨Y.Wg,0,none⟩),.int .i64 1] .normal) (b₀.at a₀ (.inRegion ops₀ (i₀::rest₀)::k₀)::cs)) w:=by
  replace hF:=And.intro hF hlv
  clear hlv
  rcases Y with ⟨P,ty,Wg,Ch,fro,n,Res⟩
  dsimp only at H hty hW hF2 hT hF ⊢
  lib_facts
  rw [enter_at _ H.f_add rfl]
  walk_nrmf addFn
  u_c stepG_seq (fr_rely hF2) hF
  u_cond true (fr_rely hF2) hF
  u_c stepG_seq (fr_rely hF2) hF
  u_c stepG_seq (fr_rely hF2) hF
  u_reg (fr_rely hF2) hF
  u_op (fr_rely hF2) hF
  u_op (fr_rely hF2) hF
  u_c stepG_region_end (fr_rely hF2) hF
  u_cond false (fr_rely hF2) hF
  u_c stepG_skip (fr_rely hF2) hF
  u_c stepG_seq (fr_rely hF2) hF
  u_reg (fr_rely hF2) hF
  refine Goes.stop (fun w₁ h₁ => ?_)
  replace hF:=fr_rely hF2 hF h₁
  clear h₁
  refine ⟨rfl,_,stepG_mark0 .disable (by simp) rfl rfl (by k_ne) rfl H.f_disable (x_disable_n L) (x_disable_b L) (x_disable_x L) (x_disable_f L),40,?_⟩
  walk_nrm
  u_c stepG_region_end (fr_rely hF2) hF
  u_reg (fr_rely hF2) hF
  u_defer (fr_rely hF2) hF
  u_c stepG_region_end (fr_rely hF2) hF
  u_c stepG_seq (fr_rely hF2) hF
  u_reg (fr_rely hF2) hF
  u_op (fr_rely hF2) hF
  u_c stepG_region_end (fr_rely hF2) hF
  u_c stepG_seq (fr_rely hF2) hF
  u_c stepG_seq (fr_rely hF2) hF
  u_reg (fr_rely hF2) hF
  u_bub (fr_rely hF2) hF
  u_c stepG_region_end (fr_rely hF2) hF
  u_cond false (fr_rely hF2) hF
  u_c stepG_skip (fr_rely hF2) hF
  u_c stepG_seq (fr_rely hF2) hF
  u_reg (fr_rely hF2) hF
  u_op (fr_rely hF2) hF
  u_op (fr_rely hF2) hF
  u_op (fr_rely hF2) hF
  u_op (fr_rely hF2) hF
  u_op (fr_rely hF2) hF
  u_op (fr_rely hF2) hF
  u_call H.f_uAdd (nm_uAdd L) uAddFn (fr_rely hF2) hF
  u_c stepG_seq (fr_rely hF2) hF
  u_reg (fr_rely hF2) hF
  u_op (fr_rely hF2) hF
  u_c stepG_region_end (fr_rely hF2) hF
  u_c stepG_seq (fr_rely hF2) hF
  u_reg (fr_rely hF2) hF
  u_op (fr_rely hF2) hF
  u_op (fr_rely hF2) hF
  u_op (fr_rely hF2) hF
  u_op (fr_rely hF2) hF
  refine Goes.stop (fun w₂ h₂ => ?_)
  replace hF:=fr_rely hF2 hF h₂
  clear h₂
  refine ⟨rfl,fun v hv hw => ?_⟩
  have hc:=hw.cellSt
  obtain ⟨V,hV⟩:∃ V:Int,V=(v:Int)+1:=⟨_,rfl⟩
  obtain ⟨S,hS⟩:∃ S:Int,S=V*KK:=⟨_,rfl⟩
  have e0:IntKind.u64.wrap ((v:Int)*KK+4294967296)=S:=by rw [IntKind.wrap_u64,hS,hV];simp only [KK];omega
  rw [← hV,← hS]
  refine ⟨_,(stepG_add_atomic rfl rfl (by k_ne) rfl H.f_addU64 (x_addU64_n L) (x_addU64_b L) (x_addU64_x L) .u64 (x_addU64_f L) rfl rfl hw.cellSt (hw.thaw 0)).trans (by rw [e0];rfl),fun hz => ?_,fun hz => ?_⟩
  ·
    have z:S=4294967296:=by rw [hS,hV,hz];simp [KK]
    subst z
    replace hF:F (w₂.setCell (stA Wg) (.int .u64 4294967296))∧WgLive ty Wg (w₂.setCell (stA Wg) (.int .u64 4294967296)):=⟨hF2 _ _ (rly_set hW) hF.1,⟨_,_,hw.setSt _⟩⟩
    clear hw hc e0 hS
    refine ⟨110,?_⟩
    walk_nrm
    u_op (fr_rely hF2) hF
    u_c stepG_region_end (fr_rely hF2) hF
    u_c stepG_ret' (fr_rely hF2) hF
    u_leave1 H.f_uAdd (fr_rely hF2) hF
    u_op (fr_rely hF2) hF
    u_c stepG_region_end (fr_rely hF2) hF
    u_c stepG_seq (fr_rely hF2) hF
    u_c stepG_seq (fr_rely hF2) hF
    u_reg (fr_rely hF2) hF
    u_op (fr_rely hF2) hF
    u_op (fr_rely hF2) hF
    u_op (fr_rely hF2) hF
    u_op (fr_rely hF2) hF
    u_skip (fr_rely hF2) hF
    u_skip (fr_rely hF2) hF
    u_op (fr_rely hF2) hF
    u_c stepG_region_end (fr_rely hF2) hF
    u_cond false (fr_rely hF2) hF
    u_c stepG_skip (fr_rely hF2) hF
    u_c stepG_seq (fr_rely hF2) hF
    u_reg (fr_rely hF2) hF
    u_op (fr_rely hF2) hF
    u_op (fr_rely hF2) hF
    u_op (fr_rely hF2) hF
    u_op (fr_rely hF2) hF
    u_c stepG_region_end (fr_rely hF2) hF
    u_c stepG_seq (fr_rely hF2) hF
    u_reg (fr_rely hF2) hF
    u_op (fr_rely hF2) hF
    u_op (fr_rely hF2) hF
    u_op (fr_rely hF2) hF
    u_op (fr_rely hF2) hF
    u_c stepG_region_end (fr_rely hF2) hF
    u_c stepG_seq (fr_rely hF2) hF
    u_c stepG_seq (fr_rely hF2) hF
    u_reg (fr_rely hF2) hF
    u_op (fr_rely hF2) hF
    u_op (fr_rely hF2) hF
    u_op (fr_rely hF2) hF
    u_op (fr_rely hF2) hF
    u_op (fr_rely hF2) hF
    u_op (fr_rely hF2) hF
    u_op (fr_rely hF2) hF
    u_op (fr_rely hF2) hF
    u_op (fr_rely hF2) hF
    u_op (fr_rely hF2) hF
    u_c stepG_region_end (fr_rely hF2) hF
    u_cond true (fr_rely hF2) hF
    u_reg (fr_rely hF2) hF
    u_op (fr_rely hF2) hF
    u_op (fr_rely hF2) hF
    u_op (fr_rely hF2) hF
    u_conv H.underlying_tPU32 H.room_tU32 (WgLive.cell1 hF.2).choose_spec (fr_rely hF2) hF
    refine Goes.stop (fun w₃ h₃ => ?_)
    replace hF:=fr_rely hF2 hF h₃
    clear h₃
    refine ⟨rfl,_,stepG_markAt .read (by simp) rfl rfl (by k_ne) rfl H.f_raceRead (x_raceRead_n L) (x_raceRead_b L) (x_raceRead_x L) (x_raceRead_f L) (ad:=⟨Wg,1,none⟩) (by simp [Act.eval]),60,?_⟩
    walk_nrm
    u_c stepG_region_end (fr_rely hF2) hF
    u_c stepG_seq (fr_rely hF2) hF
    u_c stepG_seq (fr_rely hF2) hF
    u_reg (fr_rely hF2) hF
    u_op (fr_rely hF2) hF
    u_op (fr_rely hF2) hF
    u_c stepG_region_end (fr_rely hF2) hF
    u_cond false (fr_rely hF2) hF
    u_c stepG_skip (fr_rely hF2) hF
    u_c stepG_seq (fr_rely hF2) hF
    u_c stepG_seq (fr_rely hF2) hF
    u_reg (fr_rely hF2) hF
    u_op (fr_rely hF2) hF
    u_op (fr_rely hF2) hF
    u_op (fr_rely hF2) hF
    u_skip (fr_rely hF2) hF
    u_skip (fr_rely hF2) hF
    u_op (fr_rely hF2) hF
    u_op (fr_rely hF2) hF
    u_skip (fr_rely hF2) hF
    u_skip (fr_rely hF2) hF
    u_skip (fr_rely hF2) hF
    u_skip (fr_rely hF2) hF
    u_op (fr_rely hF2) hF
    u_c stepG_region_end (fr_rely hF2) hF
    u_cond false (fr_rely hF2) hF
    u_c stepG_skip (fr_rely hF2) hF
    u_c stepG_seq (fr_rely hF2) hF
    u_c stepG_seq (fr_rely hF2) hF
    u_reg (fr_rely hF2) hF
    u_op (fr_rely hF2) hF
    u_op (fr_rely hF2) hF
    u_op (fr_rely hF2) hF
    u_skip (fr_rely hF2) hF
    u_skip (fr_rely hF2) hF
    u_op (fr_rely hF2) hF
    u_c stepG_region_end (fr_rely hF2) hF
    u_cond true (fr_rely hF2) hF
    u_c stepG_ret' (fr_rely hF2) hF
    refine Goes.stop (fun w₃ h₃ => ?_)
    replace hF:=(fr_rely hF2 hF h₃).1
    clear h₃
    refine ⟨rfl,_,stepG_unwind_entry (v := .tuple #[]) (evs:=#[mk .enable]) rfl H.f_enable (x_enable_n L) (x_enable_b L) (x_enable_x L) (x_enable_f L) (by simp [Extern.Race.none_]) (by simp [mk]) (by simp [mk]),?_⟩
    refine goes_tree (m:=2) ?_
    u_leave0 H.f_add (fo_rely hF2) hF
    exact Goes.stop fun w₁ r=>hT _ (hF2 _ _ r hF)
  · have a1:S / 4294967296=V:=by rw [hS];simp only [KK];omega
    have b1:bits .and .u64 S 2147483648=0:=by rw [hS,hV];have:=Go.ConcN.st_flag (v+1) 0 (by omega) (by omega);simpa [KK] using this
    have b2:bits .and .u64 S 2147483647=0:=by rw [hS,hV];have:=Go.ConcN.st_waiters (v+1) 0 (by omega) (by omega);simpa [KK] using this
    have c1:IntKind.i32.wrap V=V:=by rw [IntKind.wrap_i32];omega
    have hV1:1 < V:=by omega
    have hV2:V < 2147483648:=by omega
    have q1:(V == 1)=false:=by simp;omega
    have q2:decide (V=1)=false:=decide_eq_false (by omega)
    have q3:decide (V < 0)=false:=decide_eq_false (by omega)
    have q4:decide (0 < V)=true:=decide_eq_true (by omega)
    have q5:(V == 0)=false:=by simp;omega
    have q6:decide (V=0)=false:=decide_eq_false (by omega)
    refine ⟨110,?_⟩
    replace hF:F (w₂.setCell (stA Wg) (.int .u64 S))∧WgLive ty Wg (w₂.setCell (stA Wg) (.int .u64 S)):=⟨hF2 _ _ (rly_set hW) hF.1,⟨_,_,hw.setSt _⟩⟩
    clear hw hc e0 hS hV
    walk_nrm
    u_op (fr_rely hF2) hF
    u_c stepG_region_end (fr_rely hF2) hF
    u_c stepG_ret' (fr_rely hF2) hF
    u_leave1 H.f_uAdd (fr_rely hF2) hF
    u_op (fr_rely hF2) hF
    u_c stepG_region_end (fr_rely hF2) hF
    u_c stepG_seq (fr_rely hF2) hF
    u_c stepG_seq (fr_rely hF2) hF
    u_reg (fr_rely hF2) hF
    u_op (fr_rely hF2) hF
    u_op (fr_rely hF2) hF
    u_op (fr_rely hF2) hF
    u_op (fr_rely hF2) hF
    u_skip (fr_rely hF2) hF
    u_skip (fr_rely hF2) hF
    u_op (fr_rely hF2) hF
    u_c stepG_region_end (fr_rely hF2) hF
    u_cond false (fr_rely hF2) hF
    u_c stepG_skip (fr_rely hF2) hF
    u_c stepG_seq (fr_rely hF2) hF
    u_reg (fr_rely hF2) hF
    u_op (fr_rely hF2) hF
    u_op (fr_rely hF2) hF
    u_op (fr_rely hF2) hF
    u_op (fr_rely hF2) hF
    u_c stepG_region_end (fr_rely hF2) hF
    u_c stepG_seq (fr_rely hF2) hF
    u_reg (fr_rely hF2) hF
    u_op (fr_rely hF2) hF
    u_op (fr_rely hF2) hF
    u_op (fr_rely hF2) hF
    u_op (fr_rely hF2) hF
    u_c stepG_region_end (fr_rely hF2) hF
    u_c stepG_seq (fr_rely hF2) hF
    u_c stepG_seq (fr_rely hF2) hF
    u_reg (fr_rely hF2) hF
    u_op (fr_rely hF2) hF
    u_op (fr_rely hF2) hF
    u_op (fr_rely hF2) hF
    u_op (fr_rely hF2) hF
    u_op (fr_rely hF2) hF
    u_op (fr_rely hF2) hF
    u_op (fr_rely hF2) hF
    u_op (fr_rely hF2) hF
    u_op (fr_rely hF2) hF
    u_op (fr_rely hF2) hF
    u_c stepG_region_end (fr_rely hF2) hF
    u_cond false (fr_rely hF2) hF
    u_c stepG_skip (fr_rely hF2) hF
    u_c stepG_seq (fr_rely hF2) hF
    u_c stepG_seq (fr_rely hF2) hF
    u_reg (fr_rely hF2) hF
    u_op (fr_rely hF2) hF
    u_op (fr_rely hF2) hF
    u_c stepG_region_end (fr_rely hF2) hF
    u_cond false (fr_rely hF2) hF
    u_c stepG_skip (fr_rely hF2) hF
    u_c stepG_seq (fr_rely hF2) hF
    u_c stepG_seq (fr_rely hF2) hF
    u_reg (fr_rely hF2) hF
    u_op (fr_rely hF2) hF
    u_op (fr_rely hF2) hF
    u_op (fr_rely hF2) hF
    u_skip (fr_rely hF2) hF
    u_skip (fr_rely hF2) hF
    u_op (fr_rely hF2) hF
    u_op (fr_rely hF2) hF
    u_skip (fr_rely hF2) hF
    u_skip (fr_rely hF2) hF
    u_skip (fr_rely hF2) hF
    u_skip (fr_rely hF2) hF
    u_op (fr_rely hF2) hF
    u_c stepG_region_end (fr_rely hF2) hF
    u_cond false (fr_rely hF2) hF
    u_c stepG_skip (fr_rely hF2) hF
    u_c stepG_seq (fr_rely hF2) hF
    u_c stepG_seq (fr_rely hF2) hF
    u_reg (fr_rely hF2) hF
    u_op (fr_rely hF2) hF
    u_op (fr_rely hF2) hF
    u_op (fr_rely hF2) hF
    u_skip (fr_rely hF2) hF
    u_skip (fr_rely hF2) hF
    u_op (fr_rely hF2) hF
    u_c stepG_region_end (fr_rely hF2) hF
    u_cond true (fr_rely hF2) hF
    u_c stepG_ret' (fr_rely hF2) hF
    refine Goes.stop (fun w₃ h₃ => ?_)
    replace hF:=(fr_rely hF2 hF h₃).1
    clear h₃
    refine ⟨rfl,_,stepG_unwind_entry (v := .tuple #[]) (evs:=#[mk .enable]) rfl H.f_enable (x_enable_n L) (x_enable_b L) (x_enable_x L) (x_enable_f L) (by simp [Extern.Race.none_]) (by simp [mk]) (by simp [mk]),?_⟩
    refine goes_tree (m:=2) ?_
    u_leave0 H.f_add (fo_rely hF2) hF
    exact Goes.stop fun w₁ r=>hT _ (hF2 _ _ r hF)
end
end Go.Id
namespace Go.Id
open Go.Conc Go.RowKit Go.Conc.Lib Go.ConcR.Gen
open Go.ConcN (WgLive)
open Go.ConcN.Gen
open Go.ConcR (KK WgAt stA smA rd wr mk Payload DC0)
set_option linter.unusedVariables false
set_option linter.unusedSectionVars false
variable [Payload] {L:WgLink}
def AncW (L:WgLink) (Y:Ph) (F:World→Prop) (c:Frame) (cs:List Frame) (g:Goroutine) (w:World):Prop :=
  ∃ T:Array Value,g=G ((base L.wait).at ⟨T,[]⟩ [.code (L7 L),.inLoop (L7 L),.inBlock 0]) (c::cs)∧T.size=84∧T[0]? = some (.pointer (some ⟨Y.Wg,0,none⟩))∧F w∧WgLive Y.ty Y.Wg w
def Leaves (P:Program) (g':Goroutine) (g:Goroutine) (w:World):Prop:=∃ m,Goes P true (fun _ _=>True) DC0 (fun x _=>x=g') m g w
theorem tr_rely (h:True) (_:True):True:=h
section
variable {Y:Ph} {O:Nat→Prop} {F:World→Prop} {Fin:(Nat→Prop)→Goroutine→World→Prop}
  {b₀:Frame} {a₀:Act} {ops₀:Array Oper} {i₀:Nat} {rest₀:List Nat} {k₀:List Item} {cs:List Frame}
set_option maxRecDepth 100000 in
set_option maxHeartbeats 8000000 in
theorem wait_round (H:WgLib Y.P L) (hty:Y.ty=L.tWg) (hW:¬ Y.fro Y.Wg∧¬ O Y.Wg) (hF2:∀ w w',Rly Y.fro O w w'→F w→F w')
    (hT:∀ g w,F w→Leaves Y.P (G (b₀.at (a₀.put ((ops₀[i₀]?).bind (·.dst)) (.tuple #[])) (.inRegion ops₀ rest₀::k₀)) cs) g w→Fin O g w) (g:Goroutine) (w:World) (hA:AncW L Y F (b₀.at a₀ (.inRegion ops₀ (i₀::rest₀)::k₀)) cs g w) :
    ∃ m,Goes Y.P true (RS Y O) DC0 (AtW1 Y O Fin (AncW L Y F (b₀.at a₀ (.inRegion ops₀ (i₀::rest₀)::k₀)) cs)) m g w:=by
  obtain ⟨T,rfl,hT84,t0,hF⟩:=hA
  obtain ⟨v0,v1,v2,v3,v4,v5,v6,v7,v8,v9,v10,v11,v12,v13,v14,v15,v16,v17,v18,v19,v20,v21,v22,v23,v24,v25,v26,v27,v28,v29,v30,v31,v32,v33,v34,v35,v36,v37,v38,v39,v40,v41,v42,v43,v44,v45,v46,v47,v48,v49,v50,v51,v52,v53,v54,v55,v56,v57,v58,v59,v60,v61,v62,v63,v64,v65,v66,v67,v68,v69,v70,v71,v72,v73,v74,v75,v76,v77,v78,v79,v80,v81,v82,v83,rfl⟩:=array84 T hT84
  simp only [List.getElem?_toArray,List.getElem?_cons_zero,Option.some.injEq] at t0
  subst t0
  rcases Y with ⟨P,ty,Wg,Ch,fro,n,Res⟩
  dsimp only at H hty hW hF2 hT hF ⊢
  lib_facts
  refine ⟨30,?_⟩
  simp only [L7,body_wait,waitFn,Option.getD_some]
  u_c stepG_block (fr_rely hF2) hF
  u_c stepG_seq (fr_rely hF2) hF
  u_reg (fr_rely hF2) hF
  u_op (fr_rely hF2) hF
  u_op (fr_rely hF2) hF
  u_op (fr_rely hF2) hF
  u_call H.f_uLoad (nm_uLoad L) uLoadFn (fr_rely hF2) hF
  u_c stepG_seq (fr_rely hF2) hF
  u_reg (fr_rely hF2) hF
  u_op (fr_rely hF2) hF
  u_c stepG_region_end (fr_rely hF2) hF
  u_c stepG_seq (fr_rely hF2) hF
  u_reg (fr_rely hF2) hF
  u_op (fr_rely hF2) hF
  u_op (fr_rely hF2) hF
  u_op (fr_rely hF2) hF
  refine Goes.stop (fun w₁ h₁ => ?_)
  replace hF:=fr_rely hF2 hF h₁
  clear h₁
  refine ⟨rfl,fun v hv hw => ?_⟩
  obtain ⟨S,hS⟩:∃ S:Int,S=(v:Int)*KK:=⟨_,rfl⟩
  rw [← hS] at hw
  refine ⟨_,stepG_load_atomic (v:=S) rfl rfl (by k_ne) rfl H.f_loadU64 (x_loadU64_n L) (x_loadU64_b L) (x_loadU64_x L) .u64 (x_loadU64_f L) rfl hw.cellSt,fun hz=>⟨50,?_⟩,fun hz=>⟨60,?_⟩⟩
  ·
    have z:S=0:=by rw [hS,hz];simp
    subst z
    clear hw hS
    walk_nrm
    u_op (fr_rely hF2) hF
    u_c stepG_region_end (fr_rely hF2) hF
    u_c stepG_ret' (fr_rely hF2) hF
    u_leave1 H.f_uLoad (fr_rely hF2) hF
    u_op (fr_rely hF2) hF
    u_c stepG_region_end (fr_rely hF2) hF
    u_c stepG_seq (fr_rely hF2) hF
    u_reg (fr_rely hF2) hF
    u_op (fr_rely hF2) hF
    u_op (fr_rely hF2) hF
    u_op (fr_rely hF2) hF
    u_op (fr_rely hF2) hF
    u_c stepG_region_end (fr_rely hF2) hF
    u_c stepG_seq (fr_rely hF2) hF
    u_reg (fr_rely hF2) hF
    u_op (fr_rely hF2) hF
    u_op (fr_rely hF2) hF
    u_op (fr_rely hF2) hF
    u_op (fr_rely hF2) hF
    u_c stepG_region_end (fr_rely hF2) hF
    u_c stepG_seq (fr_rely hF2) hF
    u_c stepG_seq (fr_rely hF2) hF
    u_reg (fr_rely hF2) hF
    u_op (fr_rely hF2) hF
    u_op (fr_rely hF2) hF
    u_c stepG_region_end (fr_rely hF2) hF
    u_cond true (fr_rely hF2) hF
    u_c stepG_seq (fr_rely hF2) hF
    u_cond true (fr_rely hF2) hF
    u_c stepG_seq (fr_rely hF2) hF
    u_reg (fr_rely hF2) hF
    refine Goes.stop (fun w₅ h₅ => ?_)
    replace hF:=fr_rely hF2 hF h₅
    clear h₅
    refine ⟨rfl,_,stepG_mark0 .enable (by simp) rfl rfl (by k_ne) rfl H.f_enable (x_enable_n L) (x_enable_b L) (x_enable_x L) (x_enable_f L),12,?_⟩
    walk_nrm
    u_c stepG_region_end (fr_rely hF2) hF
    u_reg (fr_rely hF2) hF
    u_op (fr_rely hF2) hF
    u_conv H.underlying_tWgP H.room_tWg (WgLive.cell0 hF.2).choose_spec (fr_rely hF2) hF
    refine Goes.stop (fun w₆ h₆ => ?_)
    replace hF:=(fr_rely hF2 hF h₆).1
    clear h₆
    refine ⟨rfl,_,stepG_markAt .acquire (by simp) rfl rfl (by k_ne) rfl H.f_acquire (x_acquire_n L) (x_acquire_b L) (x_acquire_x L) (x_acquire_f L) (by simp [Act.eval,stA]),hT _ _ hF ⟨50,?_⟩⟩
    have hF0:True:=trivial
    walk_nrm
    u_c stepG_region_end tr_rely hF0
    u_c stepG_seq tr_rely hF0
    u_c stepG_seq tr_rely hF0
    u_reg tr_rely hF0
    u_op tr_rely hF0
    u_op tr_rely hF0
    u_op tr_rely hF0
    u_op tr_rely hF0
    u_op tr_rely hF0
    u_op tr_rely hF0
    u_op tr_rely hF0
    u_op tr_rely hF0
    u_skip tr_rely hF0
    u_skip tr_rely hF0
    u_op tr_rely hF0
    u_c stepG_region_end tr_rely hF0
    u_cond false tr_rely hF0
    u_c stepG_skip tr_rely hF0
    u_c stepG_ret' tr_rely hF0
    u_leave0 H.f_wait tr_rely hF0
    exact Goes.stop fun _ _=>rfl
  ·
    have hvp:0 < v:=by omega
    have a1:S / 4294967296=(v:Int):=by rw [hS];simp only [KK];omega
    have b1:bits .and .u64 S 2147483648=0:=by rw [hS];have:=Go.ConcN.st_flag v 0 (by omega) (by omega);simpa [KK] using this
    have b2:bits .and .u64 S 2147483647=0:=by rw [hS];have:=Go.ConcN.st_waiters v 0 (by omega) (by omega);simpa [KK] using this
    have c1:IntKind.i32.wrap (v:Int)=(v:Int):=by rw [IntKind.wrap_i32];omega
    have w1:IntKind.u64.wrap (S+1)=S+1:=by rw [IntKind.wrap_u64,hS];simp only [KK];omega
    have q3:decide ((v:Int) < 0)=false:=decide_eq_false (by omega)
    have q4:decide (0 < (v:Int))=true:=decide_eq_true (by omega)
    have q5:((v:Int) == 0)=false:=by simp;omega
    have q6:decide ((v:Int)=0)=false:=decide_eq_false (by omega)
    clear hw
    revert hS
    walk_nrm
    intro hS
    have hS':∀ x:Nat,(x:Int)*KK=S→x=v:=fun x hx=>by rw [hS] at hx;simp only [KK] at hx;omega
    have hS2:(v:Int)*KK=S:=hS.symm
    clear hS
    revert hS' hS2
    intro hS' hS2
    generalize hZ:((v:Int)*KK=S)=Z at hS2
    clear hz
    u_op (fr_rely hF2) hF
    u_c stepG_region_end (fr_rely hF2) hF
    u_c stepG_ret' (fr_rely hF2) hF
    u_leave1 H.f_uLoad (fr_rely hF2) hF
    u_op (fr_rely hF2) hF
    u_c stepG_region_end (fr_rely hF2) hF
    u_c stepG_seq (fr_rely hF2) hF
    u_reg (fr_rely hF2) hF
    u_op (fr_rely hF2) hF
    u_op (fr_rely hF2) hF
    u_op (fr_rely hF2) hF
    u_op (fr_rely hF2) hF
    u_c stepG_region_end (fr_rely hF2) hF
    u_c stepG_seq (fr_rely hF2) hF
    u_reg (fr_rely hF2) hF
    u_op (fr_rely hF2) hF
    u_op (fr_rely hF2) hF
    u_op (fr_rely hF2) hF
    u_op (fr_rely hF2) hF
    u_c stepG_region_end (fr_rely hF2) hF
    u_c stepG_seq (fr_rely hF2) hF
    u_c stepG_seq (fr_rely hF2) hF
    u_reg (fr_rely hF2) hF
    u_op (fr_rely hF2) hF
    u_op (fr_rely hF2) hF
    u_c stepG_region_end (fr_rely hF2) hF
    u_cond false (fr_rely hF2) hF
    u_c stepG_skip (fr_rely hF2) hF
    u_c stepG_seq (fr_rely hF2) hF
    u_reg (fr_rely hF2) hF
    u_op (fr_rely hF2) hF
    u_op (fr_rely hF2) hF
    u_op (fr_rely hF2) hF
    u_op (fr_rely hF2) hF
    u_op (fr_rely hF2) hF
    u_op (fr_rely hF2) hF
    u_call H.f_uCas (nm_uCas L) uCasFn (fr_rely hF2) hF
    u_c stepG_seq (fr_rely hF2) hF
    u_reg (fr_rely hF2) hF
    u_op (fr_rely hF2) hF
    u_c stepG_region_end (fr_rely hF2) hF
    u_c stepG_seq (fr_rely hF2) hF
    u_reg (fr_rely hF2) hF
    u_op (fr_rely hF2) hF
    u_op (fr_rely hF2) hF
    u_op (fr_rely hF2) hF
    u_op (fr_rely hF2) hF
    u_op (fr_rely hF2) hF
    rw [← hZ] at hS2
    refine Goes.stop (fun w₂ h₂ => ?_)
    replace hF:=fr_rely hF2 hF h₂
    clear h₂
    refine ⟨rfl,fun v' hv' hw=>⟨fun e => ?_,fun e => ?_⟩⟩
    ·
      subst e
      rw [hS2] at hw ⊢
      refine ⟨_,(stepG_cas_hit (v:=S) (n:=S+1) rfl rfl (by k_ne) rfl H.f_casU64 (x_casU64_n L) (x_casU64_b L) (x_casU64_x L) .u64 (x_casU64_f L) rfl rfl rfl hw.cellSt (hw.thaw 0)).trans (by rfl),70,?_⟩
      replace hF:F (w₂.setCell (stA Wg) (.int .u64 (S+1)))∧WgLive ty Wg (w₂.setCell (stA Wg) (.int .u64 (S+1))):=⟨hF2 _ _ (rly_set hW) hF.1,⟨_,_,hw.setSt _⟩⟩
      clear hw hS2 hS'
      walk_nrm
      u_op (fr_rely hF2) hF
      u_c stepG_region_end (fr_rely hF2) hF
      u_c stepG_ret' (fr_rely hF2) hF
      u_leave1 H.f_uCas (fr_rely hF2) hF
      u_c stepG_region_end (fr_rely hF2) hF
      u_cond true (fr_rely hF2) hF
      u_c stepG_seq (fr_rely hF2) hF
      u_c stepG_seq (fr_rely hF2) hF
      u_reg (fr_rely hF2) hF
      u_op (fr_rely hF2) hF
      u_op (fr_rely hF2) hF
      u_op (fr_rely hF2) hF
      u_op (fr_rely hF2) hF
      u_c stepG_region_end (fr_rely hF2) hF
      u_cond true (fr_rely hF2) hF
      u_reg (fr_rely hF2) hF
      u_op (fr_rely hF2) hF
      u_op (fr_rely hF2) hF
      u_op (fr_rely hF2) hF
      u_conv H.underlying_tPU32 H.room_tU32 (WgLive.cell1 hF.2).choose_spec (fr_rely hF2) hF
      refine Goes.stop (fun w₃ h₃ => ?_)
      replace hF:=fr_rely hF2 hF h₃
      clear h₃
      refine ⟨rfl,_,stepG_markAt .write (by simp) rfl rfl (by k_ne) rfl H.f_raceWrite (x_raceWrite_n L) (x_raceWrite_b L) (x_raceWrite_x L) (x_raceWrite_f L) (ad:=⟨Wg,1,none⟩) (by simp [Act.eval]),60,?_⟩
      walk_nrm
      u_c stepG_region_end (fr_rely hF2) hF
      u_c stepG_seq (fr_rely hF2) hF
      u_reg (fr_rely hF2) hF
      u_op (fr_rely hF2) hF
      u_c stepG_region_end (fr_rely hF2) hF
      u_c stepG_seq (fr_rely hF2) hF
      u_c stepG_seq (fr_rely hF2) hF
      u_reg (fr_rely hF2) hF
      u_op (fr_rely hF2) hF
      u_op (fr_rely hF2) hF
      u_op (fr_rely hF2) hF
      u_op (fr_rely hF2) hF
      u_skip (fr_rely hF2) hF
      u_op (fr_rely hF2) hF
      u_c stepG_region_end (fr_rely hF2) hF
      u_cond false (fr_rely hF2) hF
      u_c stepG_skip (fr_rely hF2) hF
      u_c stepG_seq (fr_rely hF2) hF
      u_reg (fr_rely hF2) hF
      u_op (fr_rely hF2) hF
      u_op (fr_rely hF2) hF
      u_op (fr_rely hF2) hF
      u_op (fr_rely hF2) hF
      refine Goes.stop (fun w₃ h₃ => ?_)
      replace hF:=fr_rely hF2 hF h₃
      clear h₃
      refine ⟨rfl,rfl,fun ⟨st,hw⟩=>stepG_semacquire_wait rfl rfl rfl H.f_semacquire (x_semacquire_n L) (x_semacquire_b L) (x_semacquire_x L) (x_semacquire_f L) (by simp [Act.eval,smA]) hw.cellSm,fun hf => ?_⟩
      refine ⟨_,(stepG_semacquire (n:=1) rfl rfl (by k_ne) rfl H.f_semacquire (x_semacquire_n L) (x_semacquire_b L) (x_semacquire_x L) (x_semacquire_f L) (by simp [Act.eval,smA]) hf.cellSm (by k_ne) (hf.thaw 1)).trans (by rfl),30,?_⟩
      replace hF:F (w₃.setCell (smA Wg) (.int .u32 0))∧WgLive ty Wg (w₃.setCell (smA Wg) (.int .u32 0)):=⟨hF2 _ _ (rly_set hW) hF.1,⟨_,_,hf.setSm 0⟩⟩
      clear hf
      walk_nrm
      u_c stepG_region_end (fr_rely hF2) hF
      u_c stepG_seq (fr_rely hF2) hF
      u_reg (fr_rely hF2) hF
      u_op (fr_rely hF2) hF
      u_op (fr_rely hF2) hF
      u_op (fr_rely hF2) hF
      u_call H.f_uLoad (nm_uLoad L) uLoadFn (fr_rely hF2) hF
      u_c stepG_seq (fr_rely hF2) hF
      u_reg (fr_rely hF2) hF
      u_op (fr_rely hF2) hF
      u_c stepG_region_end (fr_rely hF2) hF
      u_c stepG_seq (fr_rely hF2) hF
      u_reg (fr_rely hF2) hF
      u_op (fr_rely hF2) hF
      u_op (fr_rely hF2) hF
      u_op (fr_rely hF2) hF
      refine Goes.stop (fun w₄ h₄ => ?_)
      replace hF:=fr_rely hF2 hF h₄
      clear h₄
      refine ⟨rfl,fun hw=>⟨_,stepG_load_atomic (v:=0) rfl rfl (by k_ne) rfl H.f_loadU64 (x_loadU64_n L) (x_loadU64_b L) (x_loadU64_x L) .u64 (x_loadU64_f L) rfl hw.cellSt,30,?_⟩⟩
      clear hw
      walk_nrm
      u_op (fr_rely hF2) hF
      u_c stepG_region_end (fr_rely hF2) hF
      u_c stepG_ret' (fr_rely hF2) hF
      u_leave1 H.f_uLoad (fr_rely hF2) hF
      u_op (fr_rely hF2) hF
      u_op (fr_rely hF2) hF
      u_c stepG_region_end (fr_rely hF2) hF
      u_c stepG_seq (fr_rely hF2) hF
      u_cond true (fr_rely hF2) hF
      u_c stepG_seq (fr_rely hF2) hF
      u_reg (fr_rely hF2) hF
      refine Goes.stop (fun w₅ h₅ => ?_)
      replace hF:=fr_rely hF2 hF h₅
      clear h₅
      refine ⟨rfl,_,stepG_mark0 .enable (by simp) rfl rfl (by k_ne) rfl H.f_enable (x_enable_n L) (x_enable_b L) (x_enable_x L) (x_enable_f L),12,?_⟩
      walk_nrm
      u_c stepG_region_end (fr_rely hF2) hF
      u_reg (fr_rely hF2) hF
      u_op (fr_rely hF2) hF
      u_conv H.underlying_tWgP H.room_tWg (WgLive.cell0 hF.2).choose_spec (fr_rely hF2) hF
      refine Goes.stop (fun w₆ h₆ => ?_)
      replace hF:=(fr_rely hF2 hF h₆).1
      clear h₆
      refine ⟨rfl,_,stepG_markAt .acquire (by simp) rfl rfl (by k_ne) rfl H.f_acquire (x_acquire_n L) (x_acquire_b L) (x_acquire_x L) (x_acquire_f L) (by simp [Act.eval,stA]),hT _ _ hF ⟨50,?_⟩⟩
      have hF0:True:=trivial
      walk_nrm
      u_c stepG_region_end tr_rely hF0
      u_c stepG_seq tr_rely hF0
      u_c stepG_seq tr_rely hF0
      u_reg tr_rely hF0
      u_op tr_rely hF0
      u_c stepG_region_end tr_rely hF0
      u_cond false tr_rely hF0
      u_c stepG_skip tr_rely hF0
      u_c stepG_ret' tr_rely hF0
      u_leave0 H.f_wait tr_rely hF0
      exact Goes.stop fun _ _=>rfl
    ·
      refine ⟨_,stepG_cas_miss (v:=(v':Int)*KK) (old:=S) (n:=S+1) rfl rfl (by k_ne) rfl H.f_casU64 (x_casU64_n L) (x_casU64_b L) (x_casU64_x L) .u64 (x_casU64_f L) rfl rfl rfl hw.cellSt (hw.thaw 0) (fun hx=>e (hS' v' hx)),20,?_⟩
      clear hw hS' hS2 e hZ
      walk_nrm
      u_op (fr_rely hF2) hF
      u_c stepG_region_end (fr_rely hF2) hF
      u_c stepG_ret' (fr_rely hF2) hF
      u_leave1 H.f_uCas (fr_rely hF2) hF
      u_c stepG_region_end (fr_rely hF2) hF
      u_cond false (fr_rely hF2) hF
      u_c stepG_skip (fr_rely hF2) hF
      u_c stepG_inBlock (fr_rely hF2) hF
      u_c stepG_inLoop (fr_rely hF2) hF
      refine Goes.stop (fun w₃ h₃ => ?_)
      exact ⟨_,by rfl,by rfl,by rfl,fr_rely hF2 hF h₃⟩
set_option maxRecDepth 100000 in
set_option maxHeartbeats 8000000 in
theorem wait_start (H:WgLib Y.P L) (hty:Y.ty=L.tWg) (hF2:∀ w w',Rly Y.fro O w w'→F w→F w') (w:World) (hF:F w) (hlv:WgLive Y.ty Y.Wg w) :
    Goes Y.P true (RS Y O) DC0 (AtKd Y O (AncW L Y F (b₀.at a₀ (.inRegion ops₀ (i₀::rest₀)::k₀)) cs)) 3 (G (Frame.enter Y.P L.wait #[.pointer (some ⟨Y.Wg,0,none⟩)] .normal) (b₀.at a₀ (.inRegion ops₀ (i₀::rest₀)::k₀)::cs)) w:=by
  replace hF:=And.intro hF hlv
  clear hlv
  rcases Y with ⟨P,ty,Wg,Ch,fro,n,Res⟩
  dsimp only at H hty hF2 hF ⊢
  lib_facts
  rw [enter_at _ H.f_wait rfl]
  walk_nrmf waitFn
  u_c stepG_seq (fr_rely hF2) hF
  u_cond true (fr_rely hF2) hF
  u_reg (fr_rely hF2) hF
  refine Goes.stop (fun w₁ h₁ => ?_)
  replace hF:=fr_rely hF2 hF h₁
  clear h₁
  refine ⟨rfl,_,stepG_mark0 .disable (by simp) rfl rfl (by k_ne) rfl H.f_disable (x_disable_n L) (x_disable_b L) (x_disable_x L) (x_disable_f L),3,?_⟩
  walk_nrm
  u_c stepG_region_end (fr_rely hF2) hF
  u_c stepG_block (fr_rely hF2) hF
  u_c stepG_loop (fr_rely hF2) hF
  refine Goes.stop (fun w₃ h₃ => ?_)
  exact ⟨_,by rfl,by rfl,by rfl,fr_rely hF2 hF h₃⟩
end
end Go.Id
namespace Go.Id
open Go.Conc Go.RowKit Go.Conc.Lib Go.ConcR.Gen
open Go.ConcN (WgLive RW Has DWs AtR0 AtK1)
open Go.ConcN.Gen
open Go.ConcR (KK WgAt stA smA rd wr mk Payload DC0)
set_option linter.unusedVariables false
set_option linter.unusedSectionVars false
theorem goes_both {P:Program} {R:World→World→Prop} {D:World→World→Array Event→Prop} {StA StK StB:Goroutine→World→Prop} (rf:∀ w,R w w) (tr:∀ a b c,R a b→R b c→R a c)
    (hno:∀ g w g',stepG P false g w = .go g' w #[]→¬ StK g w) (key:∀ n g w,StA g w→Goes P false R D StK n g w→StB g w) :
    ∀ (m n:Nat) (g:Goroutine) (w:World),Goes P false R DC0 StA m g w→Goes P false R D StK n g w→Goes P false R DC0 StB m g w
  | 0,n,g,w,h,h'=>fun w₁ r=>key n g w₁ (h w₁ r) (h'.rely tr r)
  | m+1,n,g,w,h,h'=>by
    rcases h with h | ⟨hs,h⟩
    · exact .inl fun w₁ r=>key n g w₁ (h w₁ r) (h'.rely tr r)
    · refine .inr ⟨hs,fun w₁ r => ?_⟩
      obtain ⟨g',w',es,hgo,⟨e1,rfl⟩,hg⟩:=goes_elim (h w₁ r)
      rw [hgo,goes_go]
      refine ⟨⟨e1,rfl⟩,?_⟩
      rw [e1] at hgo hg ⊢
      cases n with
      | zero=>exact absurd (h' w₁ r) (hno _ _ _ hgo)
      | succ n =>
        rcases h' with h' | ⟨_,h'⟩
        · exact absurd (h' w₁ r) (hno _ _ _ hgo)
        · have h2:=h' w₁ r
          rw [hgo,goes_go] at h2
          exact goes_both rf tr hno key m n g' w₁ hg h2.2
variable [Payload] {L:WgLink}
theorem RW.refl {ty:TypeId} {Wg C n Low i:Nat} (w:World):RW ty Wg C n Low i w w:=⟨fun _ _ _ _=>rfl,id,id,rfl⟩
theorem RW.trans {ty:TypeId} {Wg C n Low i:Nat} (a b c:World) (h:RW ty Wg C n Low i a b) (h':RW ty Wg C n Low i b c):RW ty Wg C n Low i a c :=
  ⟨fun k h1 h2 h3=>(h'.low k h1 h2 h3).trans (h.low k h1 h2 h3),fun x=>h'.live (h.live x),fun x=>h'.pay (h.pay x),h'.cell.trans h.cell⟩
def AtDis (P:Program) (g:Goroutine) (w:World):Prop:=∃ g',stepG P false g w = .go g' w #[mk .disable]
def AtRelM (P:Program) (ty:TypeId) (Wg C n:Nat) (g:Goroutine) (w:World):Prop :=
  ∃ g',stepG P false g w = .go g' w #[mk (.releaseMerge (stA Wg))]∧∃ m,Goes P false (RW ty Wg C n 0 0) DC0 (AtDis P) m g' w
theorem rel_is {P:Program} {ty:TypeId} {Wg C pn n:Nat} {v:Value} {g:Goroutine} {w:World} (h:AtRelM P ty Wg C pn g w)
    (h':Goes P false (RW ty Wg C pn 0 0) (DWs Wg (fun _ _=>False) (fun _ _=>False) C pn 1) (AtR0 P ty Wg C pn 0 1 v) n g w):AtR0 P ty Wg C pn 0 1 v g w:=by
  obtain ⟨g',hst,m,hg'⟩:=h
  have hstop:AtR0 P ty Wg C pn 0 1 v g w∨∃ n',Goes P false (RW ty Wg C pn 0 0) (DWs Wg (fun _ _=>False) (fun _ _=>False) C pn 1) (AtR0 P ty Wg C pn 0 1 v) n' g' w:=by
    cases n with
    | zero=>exact .inl (h' w (RW.refl w))
    | succ n =>
      rcases h' with h' | ⟨_,h'⟩
      · exact .inl (h' w (RW.refl w))
      · have h2:=h' w (RW.refl w)
        rw [hst,goes_go] at h2
        exact .inr ⟨n,h2.2⟩
  rcases hstop with h | ⟨n',h2⟩
  · exact h
  · have hno:∀ g w g',stepG P false g w = .go g' w #[]→¬ AtR0 P ty Wg C pn 0 1 v g w:=by
      rintro g w g' h1 ⟨_,_,g₂,h3,_⟩
      rw [h1] at h3
      injection h3 with _ _ h4
      cases h4
    have hF:=goes_both (StB:=fun _ _=>False) RW.refl RW.trans hno (fun n g w hd hk=>by
      obtain ⟨g₁,h1⟩:=hd
      have hne:¬ AtR0 P ty Wg C pn 0 1 v g w:=by
        rintro ⟨_,_,g₂,h3,_⟩
        rw [h1] at h3
        injection h3 with _ _ h4
        simp [mk] at h4
      cases n with
      | zero=>exact hne (hk w (RW.refl w))
      | succ n =>
        rcases hk with hk | ⟨_,hk⟩
        · exact hne (hk w (RW.refl w))
        · have h3:=hk w (RW.refl w)
          rw [h1,goes_go] at h3
          exact (h3.1.2 (mk .disable) (by simp)).2.1 rfl) m n' g' w hg' h2
    exfalso
    have key:∀ (m:Nat) (g:Goroutine) (w:World),Goes P false (RW ty Wg C pn 0 0) DC0 (fun _ _=>False) m g w→False:=by
      intro m
      induction m with
      | zero=>exact fun g w h=>h w (RW.refl w)
      | succ m ih =>
        intro g w h
        rcases h with h | ⟨_,h⟩
        · exact h w (RW.refl w)
        · obtain ⟨g',w',es,_,_,h3⟩:=goes_elim (h w (RW.refl w))
          exact ih _ _ h3
    exact key _ _ _ hF
set_option maxRecDepth 100000 in
set_option maxHeartbeats 8000000 in
theorem done_walk {Y:Ph} (H:WgLib Y.P L) (hty:Y.ty=L.tWg) {b:Frame} {T:Array Value} {ops:Array Oper} {cs:List Frame} {qt C pn:Nat} {x:Value} (hT:QuitsD Y.P qt 0 (G { b.at ⟨T,[]⟩ [] with mode := .returning } cs)) (w:World) (hl:WgLive Y.ty Y.Wg w) (hc:Has C 0 x w) :
    Goes Y.P false (RW Y.ty Y.Wg C pn 0 0) DC0 (AtRr Y C pn) 30 (G (b.at ⟨T,[dcall L.done #[.pointer (some ⟨Y.Wg,0,none⟩)]]⟩ [.inRegion ops []]) cs) w:=by
  have hK:=And.intro hl hc
  clear hl hc
  rcases Y with ⟨P,ty,Wg,Ch,fro,n,Res⟩
  dsimp only at H hty hT hK ⊢
  subst hty
  u_c stepG_region_end kn_rely hK
  u_c stepG_end kn_rely hK
  u_unwB kn_rely hK H.f_done (nm_done L) doneFn
  have hA:=@doneN _ L P H (fun _ _=>False) (fun _ _=>False) Wg C pn 0 1 x { b.at ⟨T,[]⟩ [] with mode := .returning } cs qt rfl hT
  simp only [body_done,doneFn,Option.getD_some] at hA
  refine goes_both (StA:=AtRelM P L.tWg Wg C pn) RW.refl RW.trans ?_ (fun n g w h h' => ?_) 27 23 _ _ ?_ (hA _ hK)
  · rintro g w g' h1 ⟨_,_,g₂,h3,_⟩
    rw [h1] at h3
    injection h3 with _ _ h4
    cases h4
  · obtain ⟨h1,_,g',h2,h3⟩:=rel_is h h'
    exact ⟨h1,g',h2,h3⟩
  clear hA
  lib_facts
  u_reg kn_rely hK
  u_op kn_rely hK
  u_in kn_rely hK
  refine goes_call rfl rfl (by k_ne) rfl H.f_add (nm_add L) rfl ⟨by u_nil,?_⟩
  walk_nrmf addFn
  u_c stepG_seq kn_rely hK
  u_cond true kn_rely hK
  u_c stepG_seq kn_rely hK
  u_c stepG_seq kn_rely hK
  u_reg kn_rely hK
  u_op kn_rely hK
  u_op kn_rely hK
  u_c stepG_region_end kn_rely hK
  u_cond true kn_rely hK
  u_reg kn_rely hK
  u_op kn_rely hK
  u_conv H.underlying_tWgP H.room_tWg (WgLive.cell0 hK.1).choose_spec kn_rely hK
  refine Goes.stop (fun w₁ h₁ => ?_)
  replace hK:=kn_rely hK h₁
  clear h₁
  refine ⟨_,stepG_markAt .releaseMerge (by simp) rfl rfl (by k_ne) rfl H.f_relMerge (x_relMerge_n L) (x_relMerge_b L) (x_relMerge_x L) (x_relMerge_f L) (by simp [Act.eval,stA]),10,?_⟩
  walk_nrm
  u_c stepG_region_end kn_rely hK
  u_c stepG_seq kn_rely hK
  u_reg kn_rely hK
  refine Goes.stop (fun w₁ h₁ => ?_)
  exact ⟨_,stepG_mark0 .disable (by simp) rfl rfl (by k_ne) rfl H.f_disable (x_disable_n L) (x_disable_b L) (x_disable_x L) (x_disable_f L)⟩
end Go.Id
namespace Go.Id
open Go.Conc Go.RowKit Go.Conc.Lib Go.ConcR.Gen
open Go.ConcN (WgLive Has)
open Go.ConcN.Gen
open Go.ConcR (WgAt stA smA Payload DC0)
set_option linter.unusedVariables false
set_option linter.unusedSectionVars false
section
variable {P:Program} {f:FuncId} {fn:Func} {c:Code} {w:World}
noncomputable def bot (P:Program):Frame:={ (default:Frame) with fn:=P.funcs.size,defers:=[],mode := .panicking [goexitEntry] }
theorem born_step (hf:P.funcs[f]? = some fn) (hname:(fn.name == "runtime.NumGoroutine")=false) (hb:fn.body=some c) (cap:Array Value) :
    stepG P false (born P { target := .fn (.func f) cap,args:=#[] }) w = .go (G ((baseD f).at { tmps:=cap++Array.replicate (fn.ntmps - cap.size) undef,defers:=[] } [.code c]) [bot P]) w #[]:=by
  have h1:¬ fn.name="runtime.NumGoroutine":=by simpa using hname
  rw [← enter_atD cap hf hb]
  simp [born,G,stepG,unwind,callDeferred,invoke,callFunc,hf,h1,hb,GStep.after,seen_none,bot]
theorem quits_tail (hf:P.funcs[f]? = some fn) (hr:fn.results=#[]) (T:Array Value):QuitsD P 2 0 (G { (baseD f).at ⟨T,[]⟩ [] with mode := .returning } [bot P]):=by
  refine QuitsD.ctl (g':=G (bot P) []) rfl (fun w => ?_) ?_
  · simp [G,stepG,unwind,doReturn,results,Frame.at,baseD,bot,hf,hr,seen,GStep.after,goexitEntry]
  refine QuitsD.ctl (g':={ G (bot P) [] with status := .finished }) rfl (fun w => ?_) ⟨rfl,rfl⟩
  simp [G,stepG,unwind,bot,goexitEntry,Frame.catches]
  rfl
end
section
variable {P:Program} {main:Bool} {N0:Nat→Prop} {Stop:(Nat→Prop)→Goroutine→World→Prop} {O:Nat→Prop}
theorem JW.idle {g g':Goroutine} {w:World} (hr:g.status = .running) (hs:∀ w₁,Rly N0 O w w₁→stepG P main g w₁ = .go g' w₁ #[]) (h:∀ w₁,Rly N0 O w w₁→JW P main N0 Stop O g' w₁):JW P main N0 Stop O g w :=
  JW.step hr fun w₁ r=>⟨g',w₁,#[],hs w₁ r,guar_idle _ _ _,by rw [grow_self];exact h w₁ r⟩
end
variable [Payload] {L:WgLink}
structure SendsAt (Y:Ph) (lo:Nat) (i:Nat) (k:List Item) (t:Tm) (h:Hp):Prop where
  ex:∃ (ops:Array Oper) (j:Nat) (o:Oper) (x y:Operand) (v:Value),k=[.inRegion ops [j]]∧ops[j]? = some o∧o.guard=none∧o.dst=none∧o.op = .send x y∧ev t x=some (.chan (some Y.Ch))∧ev t y=some v ∧
    ∀ s O w vr,SimOk Y.fro lo s O h w→VR s v vr→(∀ b,O b→Y.Wg < b)→Y.Res i vr O w∧∃ C z,O C∧Has C 0 z w
theorem at_send {Y:Ph} (H:WgLib Y.P L) (hty:Y.ty=L.tWg) (K:PhOk Y) {f:FuncId} {fn:Func} (hf:Y.P.funcs[f]? = some fn) (hres:fn.results=#[]) {lo i:Nat} {k:List Item} {t:Tm} {h:Hp} {lb:Nat→Nat} {s:Sim} {O Pr:Nat→Prop} {ls:Lv} {w:World} {T:Array Value}
    (S:SendsAt Y lo i k t h) (M:Mem Y.fro lo s O Pr lb ls h w) (tm:TmOk s lb ls.length t T) (hOb:∀ b,O b→Y.Wg < b):AtSend Y i O (G ((baseD f).at ⟨T,[dcall L.done #[.pointer (some ⟨Y.Wg,0,none⟩)]]⟩ k) [bot Y.P]) w:=by
  obtain ⟨ops,j,o,x,y,v,rfl,ho,hg,hd,hop,hx,hy,hP⟩:=S.ex
  have hx':(⟨T,[dcall L.done #[.pointer (some ⟨Y.Wg,0,none⟩)]]⟩:Act).eval x = .chan (some Y.Ch):=by
    have:=ev_ok (a:=⟨T,[dcall L.done #[.pointer (some ⟨Y.Wg,0,none⟩)]]⟩) tm hx
    generalize Act.eval ⟨T,[dcall L.done #[.pointer (some ⟨Y.Wg,0,none⟩)]]⟩ x=z at this
    cases this;rfl
  have hy':=ev_ok (a:=⟨T,[dcall L.done #[.pointer (some ⟨Y.Wg,0,none⟩)]]⟩) tm hy
  generalize hvr:Act.eval ⟨T,[dcall L.done #[.pointer (some ⟨Y.Wg,0,none⟩)]]⟩ y=vr at hy'
  obtain ⟨hR,C,z,hC,hHas⟩:=hP s O w vr M.sim hy' hOb
  have hcomm:∀ w,stepG Y.P false (G ((baseD f).at ⟨T,[dcall L.done #[.pointer (some ⟨Y.Wg,0,none⟩)]]⟩ [.inRegion ops [j]]) [bot Y.P]) w = .comm (G ((baseD f).at ⟨T,[dcall L.done #[.pointer (some ⟨Y.Wg,0,none⟩)]]⟩ [.inRegion ops [j]]) [bot Y.P]) #[scase Y.Ch vr (.tuple #[])] true .send w #[]:=by
    intro w
    have hr:(execOp (Act.eval ⟨T,[dcall L.done #[.pointer (some ⟨Y.Wg,0,none⟩)]]⟩) o).run Y.P w = .ok (.comm #[scase Y.Ch vr (.tuple #[])] true .send) w:=by
      unfold execOp
      simp [hop,hx',hvr,scase,pure]
    rw [stepG_comm ho (by simp [Region.wanted,hg]) (by simp [baseD]) hr]
    have he:(execOp (Act.eval ⟨T,[dcall L.done #[.pointer (some ⟨Y.Wg,0,none⟩)]]⟩) o).events Y.P w #[]=#[]:=by
      unfold execOp
      simp [hop]
    unfold listed
    rw [he,seen_none]
  refine ⟨rfl,vr,.tuple #[],_,C,0,z,hC,hHas,hR,hcomm w,fun w' hl hh => ?_⟩
  have hfin:(G ((baseD f).at ⟨T,[dcall L.done #[.pointer (some ⟨Y.Wg,0,none⟩)]]⟩ [.inRegion ops [j]]) [bot Y.P]).finishComm Y.P #[Go.Conc.scase Y.Ch vr (.tuple #[])] .send 0 undef false=G ((baseD f).at ⟨T,[dcall L.done #[.pointer (some ⟨Y.Wg,0,none⟩)]]⟩ [.inRegion ops []]) [bot Y.P]:=by
    have e:((baseD f).at ⟨T,[dcall L.done #[.pointer (some ⟨Y.Wg,0,none⟩)]]⟩ [.inRegion ops [j]]).finish undef=(baseD f).at ⟨T,[dcall L.done #[.pointer (some ⟨Y.Wg,0,none⟩)]]⟩ [.inRegion ops []]:=by
      rw [Frame.finish_at,ho];simp [hd,Act.put]
    simp only [Goroutine.finishComm,G,commResult,e]
  rw [hfin]
  exact ⟨30,done_walk H hty (quits_tail hf hres T) w' hl hh⟩
theorem worker_tree {Y:Ph} (H:WgLib Y.P L) (hty:Y.ty=L.tWg) (K:PhOk Y) {fW:FuncId} {fn:Func} {dop:Oper} {rest:Code} {rid:Nat} {ats:Array TypeId} (hf:Y.P.funcs[fW]? = some fn) (hname:(fn.name == "runtime.NumGoroutine")=false) (hb:fn.body=some (.seq (.region rid #[dop] false) rest))
    (hdop:dop.op = .defer { callee := .value (.func L.done),args:=#[.tmp 0],argTypes:=ats }) (hdg:dop.guard=none) (hdd:dop.dst=none) (hres:fn.results=#[]) {lo i:Nat} {t:Tm} {h:Hp} {s:Sim} {n:Nat→Prop} {w:World} {cap:Array Value}
    (hcap:cap[0]? = some (.pointer (some ⟨Y.Wg,0,none⟩))) (hlen:cap.size≤fn.ntmps) (S:SimOk Y.fro lo s n h w) (hnW:∀ b,n b→Y.Wg < b) (hWw:Y.Wg < w.heap.size) (tm:TmOk s (fun _=>0) 0 t (cap++Array.replicate (fn.ntmps - cap.size) undef))
    (HR:R (treeCtx Y.P false Y.fro) lo fW fn (.mid [dcall L.done #[.pointer (some ⟨Y.Wg,0,none⟩)]] fun k t _ h=>SendsAt Y lo i k t h) [.code rest] t [] h) :
    JW Y.P false Y.fro (AtSend Y i) n (born Y.P { target := .fn (.func fW) cap,args:=#[] }) w:=by
  refine JW.idle rfl (fun w₁ _=>born_step hf hname hb cap) fun w₁ r₁ => ?_
  refine JW.idle rfl (fun w₁ _=>stepG_seq) fun w₂ r₂ => ?_
  refine JW.idle rfl (fun w₁ _=>stepG_region) fun w₃ r₃ => ?_
  have h0:(#[dop]:Array Oper)[0]? = some dop:=rfl
  have hev:(⟨cap++Array.replicate (fn.ntmps - cap.size) undef,[]⟩:Act).eval (.tmp 0) = .pointer (some ⟨Y.Wg,0,none⟩):=by
    have h1:0 < cap.size:=(Array.getElem?_eq_some_iff.1 hcap).1
    simp [Act.eval,Array.getD_eq_getD_getElem?,Array.getElem?_append,h1]
    have:=(Array.getElem?_eq_some_iff.1 hcap).2
    exact this
  refine JW.idle rfl (fun w₁ _=>by
    have:=stepG_defer (P:=Y.P) (main:=false) (b:=baseD fW) (a:=⟨cap++Array.replicate (fn.ntmps - cap.size) undef,[]⟩) (k:=[.code rest]) (cs:=[bot Y.P]) (w:=w₁) (rest:=[]) h0 (by simp [Region.wanted,hdg]) (by simp [baseD]) hdop
    simp only [hdd,Act.put,List.map_toArray,List.map_cons,List.map_nil,hev] at this
    exact this) fun w₄ r₄ => ?_
  refine JW.idle rfl (fun w₁ _=>stepG_region_end) fun w₅ r₅ => ?_
  have hr:=(((r₁.trans r₂).trans r₃).trans r₄).trans r₅
  refine HR s n (fun _=>False) (fun _=>0) w₅ (baseD fW) ⟨cap++Array.replicate (fn.ntmps - cap.size) undef,[dcall L.done #[.pointer (some ⟨Y.Wg,0,none⟩)]]⟩ [bot Y.P] (AtSend Y i) rfl (by simp [baseD]) rfl (by simp;omega) ⟨S.rely hr,⟨fun j cs hj=>by simp at hj,fun j j' hj=>by simp at hj⟩,fun _ hb=>hb.elim⟩ tm ?_
  rintro k' t' ls' h' s' O' lb' w' ⟨T',ds⟩ hK hle M' tm' hdef hsz hO hkept
  cases hdef
  exact JW.stop fun w₁ r=>at_send H hty K hf hres hK (M'.rely r) tm' fun b hb=>(hO.2 b hb).elim (hnW b) fun x=>by have:=hr.1;omega
end Go.Id
namespace Go.Id
open Go.Conc Go.RowKit Go.Conc.Lib Go.ConcR.Gen
open Go.ConcN (WgLive Has)
open Go.ConcN.Gen
open Go.ConcR (WgAt stA smA Payload DC0)
set_option linter.unusedVariables false
set_option linter.unusedSectionVars false
open Classical in
noncomputable def Sim.only (s:Sim) (D:Nat→Prop) (M:Nat→Prop:=fun _=>False):Sim:={ adr:=fun i=>if D i then s.adr i else none,ep:=s.ep,mp:=fun i=>if M i then s.mp i else none }
theorem only_adr {s:Sim} {D M:Nat→Prop} {i:Nat} {c:Cel} (h:(s.only D M).adr i=some c):D i∧s.adr i=some c:=by
  simp only [Sim.only] at h;split at h
  · exact ⟨‹_›,h⟩
  · cases h
theorem only_mp {s:Sim} {D M:Nat→Prop} {i b:Nat} (h:(s.only D M).mp i=some b):M i∧s.mp i=some b:=by
  simp only [Sim.only] at h;split at h
  · exact ⟨‹_›,h⟩
  · cases h
theorem only_of {s:Sim} {D M:Nat→Prop} {i:Nat} {c:Cel} (hd:D i) (h:s.adr i=some c):(s.only D M).adr i=some c:=by simp [Sim.only,hd,h]
def flatIn (D:Nat→Prop):Value→Prop
  | .pointer (some a)=>D a.block
  | .slice (some a) _ _=>D a.block
  | v=>plainV v=true
theorem VR.only {s:Sim} {D M:Nat→Prop} {v vr:Value} (hf:flatIn D v) (h:VR s v vr):VR (s.only D M) v vr:=by
  cases h with
  | ptr id off sp a c ha he hh=>exact .ptr id off sp a c (only_of hf ha) he hh
  | sl id off sp n fl a cap c ha he hh h0 hn=>exact .sl id off sp n fl a cap c (only_of hf ha) he hh h0 hn
  | bool b=>exact .bool b
  | int k n=>exact .int k n
  | float k n=>exact .float k n
  | complex k n m=>exact .complex k n m
  | str x=>exact .str x
  | ptr0=>exact .ptr0
  | sl0=>exact .sl0
  | map0=>exact .map0
  | map r b h=>simp [flatIn,plainV] at hf
  | chan r=>exact .chan r
  | fn f x y x' y' hx hy h1 h2 =>
    simp only [flatIn,plainV,Bool.and_eq_true,beq_iff_eq] at hf
    exact .fn f x y x' y' hx hy (fun i v w h=>by have:=(Array.getElem?_eq_some_iff.1 h).1;omega) (fun i v w h=>by have:=(Array.getElem?_eq_some_iff.1 h).1;omega)
  | fn0=>exact .fn0
  | if0=>exact .if0
  | iface t v w h=>simp [flatIn,plainV] at hf
  | agg x y hs h h1=>simp [flatIn,plainV] at hf
  | tup x y hs h =>
    simp only [flatIn,plainV,beq_iff_eq] at hf
    exact .tup x y hs fun i v w h=>by have:=(Array.getElem?_eq_some_iff.1 h).1;omega
theorem plain_inv {s:Sim} {v vr:Value} (hf:plainV v=true) (h:VR s v vr):vr=v:=by
  cases h with
  | fn f x y x' y' hx hy h1 h2 =>
    simp only [plainV,Bool.and_eq_true,beq_iff_eq] at hf
    obtain rfl:=Array.eq_empty_of_size_eq_zero hf.1
    obtain rfl:=Array.eq_empty_of_size_eq_zero hf.2
    obtain rfl:=Array.eq_empty_of_size_eq_zero (xs:=x') (by rw [← hx];rfl)
    obtain rfl:=Array.eq_empty_of_size_eq_zero (xs:=y') (by rw [← hy];rfl)
    rfl
  | tup x y hs h =>
    simp only [plainV,beq_iff_eq] at hf
    obtain rfl:=Array.eq_empty_of_size_eq_zero hf
    obtain rfl:=Array.eq_empty_of_size_eq_zero (xs:=y) (by rw [← hs];rfl)
    rfl
  | bool b=>rfl
  | int k n=>rfl
  | float k n=>rfl
  | complex k n m=>rfl
  | str x=>rfl
  | ptr0=>rfl
  | sl0=>rfl
  | map0=>rfl
  | chan r=>rfl
  | fn0=>rfl
  | if0=>rfl
  | ptr=>simp [plainV] at hf
  | sl=>simp [plainV] at hf
  | map=>simp [plainV] at hf
  | iface=>simp [plainV] at hf
  | agg=>simp [plainV] at hf
theorem SimOk.reset {N0 : Nat → Prop} {lo : Nat} {s : Sim} {O O' : Nat → Prop} {h : Hp} {w w' : World} (H : SimOk N0 lo s O h w) (hn : h.n = lo) (hk : ∀ b, N0 b → w'.heap[b]? = w.heap[b]?) (hsz : w.heap.size ≤ w'.heap.size)
    (hO : ∀ b, O' b → b < w'.heap.size ∧ ¬ N0 b) : SimOk N0 lo s O' h w' :=
  ⟨fun i c hc => let ⟨h1, h2, cs, sz, h3, ys, h4, h5⟩ := H.cells i c hc; ⟨h1, h2, cs, sz, h3, ys, h4, h5.of_heap (hk _ (h2 (hn ▸ h1)))⟩,
   fun i c hc hl => absurd (H.cells i c hc).1 (by omega), fun i c j c' h1 h2 hl => absurd (H.cells i c h1).1 (by omega), fun i b hb => ⟨(H.maps i b hb).1, fun hl => absurd (H.maps i b hb).1 (by omega)⟩,
   fun b hb => (hO b hb).1, fun b hb => (hO b hb).2, fun b hb => Nat.lt_of_lt_of_le (H.base b hb) hsz, H.lohi⟩
theorem SimOk.hand {N0:Nat→Prop} {lo:Nat} {s s':Sim} {O O':Nat→Prop} {h h':Hp} {w w':World} (H:SimOk N0 lo s O h w) (hn:h.n=lo) (hk:∀ b,N0 b→w'.heap[b]? = w.heap[b]?) (hsz:w.heap.size≤w'.heap.size)
    (H':SimOk N0 lo s' O' h' w') (hle:s.le s') (hg:∀ i,i < lo→h'.g i=h.g i) {id:Nat} {c:Cel} (hid:lo≤id) (hc:s'.adr id=some c) {cs:List Value} {sz e:Nat} (ho:h'.g id = .cells cs sz e) (hp:∀ v∈cs,plainV v=true) :
    SimOk N0 lo (s'.only (fun i=>(i < lo∧s.adr i≠none)∨i=id) fun i=>i < lo∧s.mp i≠none) (fun b=>b=c.b) h' w'∧s.le (s'.only (fun i=>(i < lo∧s.adr i≠none)∨i=id) fun i=>i < lo∧s.mp i≠none):=by
  have hl:s.le (s'.only (fun i=>(i < lo∧s.adr i≠none)∨i=id) fun i=>i < lo∧s.mp i≠none):=by
    refine ⟨fun i c hc => ?_,fun i b hb => ?_⟩
    · obtain ⟨c',h1,h2,h3⟩:=hle.adr i c hc
      exact ⟨c',only_of (.inl ⟨hn▸(H.cells i c hc).1,by rw [hc];simp⟩) h1,h2,h3⟩
    · simp only [Sim.only]
      rw [if_pos ⟨hn▸(H.maps i b hb).1,by rw [hb];simp⟩]
      exact hle.mp i b hb
  have H0:SimOk N0 lo s (fun _=>False) h w':=H.reset hn hk hsz fun _ hb=>hb.elim
  refine ⟨⟨fun i c' hc' => ?_,fun i c' hc' hli => ?_,fun i c₁ j c₂ h1 h2=>H'.apart i c₁ j c₂ (only_adr h1).2 (only_adr h2).2,fun i b hb=>⟨(H'.maps i b (only_mp hb).2).1,fun hl=>absurd (only_mp hb).1.1 (by omega)⟩,fun b hb=>hb▸H'.now _ (H'.own id c hc hid).1,fun b hb=>hb▸H'.new _ (H'.own id c hc hid).1,H'.base,H'.lohi⟩,hl⟩
  · replace hc':=only_adr hc'
    obtain ⟨hd,hc'⟩:=hc'
    rcases hd with ⟨hd1,hd2⟩ | rfl
    · cases hc0:s.adr i with
      | none=>exact absurd hc0 hd2
      | some c0 =>
        obtain ⟨g1,g2,cs0,sz0,g3,ys,g4,g5⟩:=H0.cells i c0 hc0
        obtain ⟨c'',e1,e2,e3⟩:=hle.adr i c0 hc0
        obtain rfl:c''=c':=by rw [hc'] at e1;exact (Option.some.inj e1).symm
        obtain ⟨k1,k2,cs1,sz1,k3,_⟩:=H'.cells i c'' hc'
        rw [hg i hd1,g3] at k3
        injection k3 with e4 e5 e6
        obtain rfl:=e3 e6
        exact ⟨k1,k2,cs0,sz0,by rw [hg i hd1,g3];exact congrArg _ e6,ys,g4.mono hl,g5⟩
    · obtain rfl:c=c':=by rw [hc] at hc';exact Option.some.inj hc'
      obtain ⟨k1,k2,cs1,sz1,k3,ys,k4,k5⟩:=H'.cells i c hc
      rw [ho] at k3
      injection k3 with e4 e5 e6
      subst e4
      have hys:ys=cs:=by
        apply List.ext_getElem?
        intro j
        cases hj:cs[j]? with
        | none =>
          rw [List.getElem?_eq_none_iff] at hj ⊢
          rw [← k4.1.1];exact hj
        | some v =>
          obtain ⟨u,hu,hv⟩:=k4.1.get hj
          rw [hu]
          have hpv:=hp v (List.mem_of_getElem? hj)
          rw [plain_inv hpv hv]
      subst hys
      exact ⟨k1,k2,_,_,by rw [ho];exact congrArg _ e6,_,⟨VRs.of_plain _ hp,k4.2⟩,k5⟩
  · replace hc':=only_adr hc'
    obtain ⟨hd,hc'⟩:=hc'
    rcases hd with ⟨hd1,_⟩ | rfl
    · omega
    · obtain rfl:c=c':=by rw [hc] at hc';exact Option.some.inj hc'
      obtain ⟨_,k⟩:=H'.own i c hc hli
      exact ⟨rfl,k⟩
theorem VR.back {N0:Nat→Prop} {lo:Nat} {s s':Sim} {O O':Nat→Prop} {h h':Hp} {w w':World} (H:SimOk N0 lo s O h w) (H':SimOk N0 lo s' O' h' w') (hg:∀ i,i < lo→h'.g i=h.g i) (hle:s.le s') {v vr:Value}
    (hf:flatIn (fun i=>i < lo∧s.adr i≠none) v) (hv:VR s' v vr):VR s v vr:=by
  have key:∀ id c',id < lo→s.adr id≠none→s'.adr id=some c'→s.adr id=some c'∧s'.ep id=s.ep id:=by
    intro id c' hl hn hc'
    cases hc:s.adr id with
    | none=>exact absurd hc hn
    | some c =>
      obtain ⟨c'',h1,h2,h3⟩:=hle.adr id c hc
      obtain rfl:c''=c':=by rw [hc'] at h1;exact (Option.some.inj h1).symm
      obtain ⟨_,_,cs,sz,g1,_⟩:=H.cells id c hc
      obtain ⟨_,_,cs',sz',g2,_⟩:=H'.cells id c'' hc'
      rw [hg id hl,g1] at g2
      injection g2 with _ _ e
      exact ⟨by rw [h3 e],e.symm⟩
  cases hv with
  | ptr id off sp a c ha he hh=>obtain ⟨e1,e2⟩:=key id c hf.1 hf.2 ha;exact .ptr id off sp a c e1 (by omega) (by rw [← e2];exact hh)
  | sl id off sp n fl a cap c ha he hh h0 hn=>obtain ⟨e1,e2⟩:=key id c hf.1 hf.2 ha;exact .sl id off sp n fl a cap c e1 (by omega) (by rw [← e2];exact hh) h0 hn
  | bool b=>exact .bool b
  | int k n=>exact .int k n
  | float k n=>exact .float k n
  | complex k n m=>exact .complex k n m
  | str x=>exact .str x
  | ptr0=>exact .ptr0
  | sl0=>exact .sl0
  | map0=>exact .map0
  | map r b h=>simp [flatIn,plainV] at hf
  | chan r=>exact .chan r
  | fn f x y x' y' hx hy h1 h2 =>
    simp only [flatIn,plainV,Bool.and_eq_true,beq_iff_eq] at hf
    exact .fn f x y x' y' hx hy (fun i v w h=>by have:=(Array.getElem?_eq_some_iff.1 h).1;omega) (fun i v w h=>by have:=(Array.getElem?_eq_some_iff.1 h).1;omega)
  | fn0=>exact .fn0
  | if0=>exact .if0
  | iface t v w h=>simp [flatIn,plainV] at hf
  | agg x y hs h h1=>simp [flatIn,plainV] at hf
  | tup x y hs h =>
    simp only [flatIn,plainV,beq_iff_eq] at hf
    exact .tup x y hs fun i v w h=>by have:=(Array.getElem?_eq_some_iff.1 h).1;omega
def slIn (D:Nat→Prop):Sl→Prop
  | .v v=>flatIn D v
  | .b _ | .r _=>True
  | _=>False
def Carry (D:Nat→Prop) (t t':Tm):Prop:=∀ j x,look t' j=some x→look t j=some x∧slIn D x
theorem Carry.tm {N0:Nat→Prop} {lo:Nat} {s s':Sim} {O O':Nat→Prop} {h h':Hp} {w w':World} (H:SimOk N0 lo s O h w) (H':SimOk N0 lo s' O' h' w') (hg:∀ i,i < lo→h'.g i=h.g i) (hle:s.le s') {t t':Tm} {lb lb':Nat→Nat} {n n':Nat} {T:Array Value}
    (hc:Carry (fun i=>i < lo∧s.adr i≠none) t t') (tm:TmOk s' lb' n' t T):TmOk s lb n t' T:=by
  intro j x hx
  obtain ⟨h1,h2⟩:=hc j x hx
  obtain ⟨vr,h3,h4⟩:=tm j x h1
  refine ⟨vr,h3,?_⟩
  cases x with
  | v v=>exact VR.back H H' hg hle h2 h4
  | b q=>exact h4
  | r v=>exact h4
  | l a b=>exact h2.elim
  | c a b=>exact h2.elim
def capTm:Nat→List (Bool×Value)→Tm
  | _,[]=>[]
  | i,(q,v)::r=>(i,match q with | true => .r v | false => .v v)::capTm (i+1) r
theorem look_cap:∀ (cs:List (Bool×Value)) (i j:Nat) (x:Sl),look (capTm i cs) j=some x→∃ q v,cs[j - i]? = some (q,v)∧i≤j∧x=(match q with | true => .r v | false => .v v)
  | [],i,j,x,h=>by simp [capTm,look] at h
  | (q,v)::r,i,j,x,h=>by
    simp only [capTm,look] at h
    split at h
    · rename_i e;subst e;exact ⟨q,v,by simp,Nat.le_refl _,(Option.some.inj h).symm⟩
    · obtain ⟨q',v',h1,h2,h3⟩:=look_cap r (i+1) j x h
      exact ⟨q',v',by rw [show j - i=(j - (i+1))+1 from by omega];simpa using h1,by omega,h3⟩
theorem cap_tm {s:Sim} {D M:Nat→Prop} {caps:List (Bool×Value)} {ws:List Value} (hlen:caps.length=ws.length) (h:∀ (i:Nat) (q:Bool) (v w:Value),caps[i]? = some (q,v)→ws[i]? = some w→(match q with | true=>w=v | false=>VR s v w))
    (hf:∀ v,(false,v)∈caps→flatIn D v) {lb:Nat→Nat} {n:Nat} (T:Array Value):TmOk (s.only D M) lb n (capTm 0 caps) (ws.toArray++T):=by
  intro j x hx
  obtain ⟨q,v,h1,_,rfl⟩:=look_cap caps 0 j x hx
  simp only [Nat.sub_zero] at h1
  have hj:j < ws.length:=by rw [← hlen];exact (List.getElem?_eq_some_iff.1 h1).1
  have h2:=h j q v ws[j] h1 (List.getElem?_eq_getElem hj)
  refine ⟨ws[j],by simp [Array.getElem?_append,hj],?_⟩
  cases q with
  | true=>exact h2
  | false=>exact VR.only (hf v (List.mem_of_getElem? h1)) h2
end Go.Id
namespace Go.Id
open Go.Conc Go.RowKit Go.Conc.Lib Go.ConcR.Gen
open Go.ConcN (WgLive Has)
open Go.ConcN.Gen
open Go.ConcR (WgAt stA smA Payload DC0)
set_option linter.unusedVariables false
set_option linter.unusedSectionVars false
variable [Payload] {L:WgLink}
section
variable (Y:Ph) (L:WgLink) (lo:Nat) (s0:Sim) (h0:Hp) (f:FuncId) (fn:Func)
def ptrW:Value := .pointer (some ⟨Y.Wg,0,none⟩)
structure ChildOk (i:Nat) (fW:FuncId) (caps:List (Bool×Value)) (h:Hp):Prop where
  ex:∃ (fnW:Func) (dop:Oper) (rest:Code) (rid:Nat) (ats:Array TypeId) (id:Nat) (cs:List Value) (sz e:Nat) (p:Value) (off:Nat) (sp:Option Nat),
    Y.P.funcs[fW]? = some fnW∧(fnW.name == "runtime.NumGoroutine")=false∧fnW.body=some (.seq (.region rid #[dop] false) rest)∧dop.op = .defer { callee := .value (.func L.done),args:=#[.tmp 0],argTypes:=ats }∧dop.guard=none∧dop.dst=none∧fnW.results=#[] ∧
    caps[0]? = some (true,ptrW Y)∧caps.length≤fnW.ntmps∧(∀ v,(false,v)∈caps→flatIn (fun j=>(j < lo∧s0.adr j≠none)∨j=id) v)∧lo≤id∧h.g id = .cells cs sz e∧(∀ v∈cs,plainV v=true) ∧
    (false,.pointer (some ⟨id,off,sp⟩))∈caps ∧
    R (treeCtx Y.P false Y.fro) lo fW fnW (.mid [dcall L.done #[ptrW Y]] fun k t _ h=>SendsAt Y lo i k t h) [.code rest] (capTm 0 caps) [] h
structure GoAt (i:Nat) (Next:En) (k:List Item) (t:Tm) (h:Hp):Prop where
  ext:∀ j,j < lo→h.g j=h0.g j
  ex:∃ (ops:Array Oper) (j:Nat) (rest:List Nat) (k1:List Item) (o:Oper) (c:Operand) (ats:Array TypeId) (fW:FuncId) (caps:List (Bool×Value)) (t':Tm),
    k = .inRegion ops (j::rest)::k1∧ops[j]? = some o∧o.guard=none∧o.dst=none∧o.op = .go { callee := .value c,args:=#[],argTypes:=ats }∧evS t c=some (.c fW caps)∧(∃ jc,c = .tmp jc)∧ChildOk Y L lo s0 i fW caps h ∧
    Carry (fun i=>i < lo∧s0.adr i≠none) t t'∧R (treeCtx Y.P true Y.fro) lo f fn Next (.inRegion ops rest::k1) t' [] h0
structure AddAt (Next:En) (k:List Item) (t:Tm) (ls:Lv) (h:Hp):Prop where
  ex:∃ (ops:Array Oper) (j:Nat) (rest:List Nat) (k1:List Item) (o:Oper) (x:Operand) (ats:Array TypeId),
    k = .inRegion ops (j::rest)::k1∧ops[j]? = some o∧o.guard=none∧o.op = .call { callee := .value (.func L.add),args:=#[x,.const (.int .i64 1)],argTypes:=ats }∧evS t x=some (.r (ptrW Y))∧dstOk fn.ntmps o.dst=true ∧
    R (treeCtx Y.P true Y.fro) lo f fn Next (.inRegion ops rest::k1) (t.put o.dst (.v (.tuple #[]))) ls h
structure WaitAt (tE:Tm) (kE:List Item) (k:List Item) (t:Tm) (h:Hp):Prop where
  ext:∀ j,j < lo→h.g j=h0.g j
  ex:∃ (ops:Array Oper) (j:Nat) (rest:List Nat) (k1:List Item) (o:Oper) (x:Operand) (ats:Array TypeId),
    k = .inRegion ops (j::rest)::k1∧ops[j]? = some o∧o.guard=none∧o.op = .call { callee := .value (.func L.wait),args:=#[x],argTypes:=ats }∧evS t x=some (.r (ptrW Y))∧dstOk fn.ntmps o.dst=true ∧
    Carry (fun i=>i < lo∧s0.adr i≠none) (t.put o.dst (.v (.tuple #[]))) tE∧kE = .inRegion ops rest::k1
def SpFrom (tE:Tm) (kE:List Item):Nat→List Item→Tm→Lv→Hp→Prop
  | 0,k,t,ls,h=>WaitAt Y L lo s0 h0 fn tE kE k t h
  | r+1,k,t,ls,h=>AddAt Y L lo f fn (.mid [] fun k t _ h=>GoAt Y L lo s0 h0 f fn (Y.n - (r+1)) (.mid [] (SpFrom tE kE r)) k t h) k t ls h
end
def StEnd (Y:Ph) (lo:Nat) (s0:Sim) (h0:Hp) (f:FuncId) (fn:Func) (tE:Tm) (kE:List Item) (b:Frame) (cs:List Frame) (w0:World) (O:Nat→Prop) (g:Goroutine) (w:World):Prop :=
  (∀ b,O b→b < w.heap.size∧¬ Y.fro b∧Y.Wg < b)∧(∀ b,Y.fro b→w.heap[b]? = w0.heap[b]?)∧w0.heap.size≤w.heap.size∧w.os=w0.os∧w.output=w0.output ∧
  ∃ a:Act,a.defers=[]∧a.tmps.size=fn.ntmps∧TmOk s0 (fun _=>0) 0 tE a.tmps∧Leaves Y.P (G (b.at a kE) cs) g w
section
variable {Y:Ph} {lo:Nat} {s0:Sim} {h0:Hp} {f:FuncId} {fn:Func} {tE:Tm} {kE:List Item} {b:Frame} {cs:List Frame} {w0:World}
theorem raw_eval {s:Sim} {lb:Nat→Nat} {n:Nat} {t:Tm} {a:Act} {x:Operand} {v:Value} (tm:TmOk s lb n t a.tmps) (h:evS t x=some (.r v)):a.eval x=v:=by
  cases x with
  | tmp j =>
    obtain ⟨vr,h1,h2⟩:=tm j _ h
    have h2:vr=v:=h2
    subst h2
    simp [Act.eval,Array.getD_eq_getD_getElem?,h1]
  | const u=>simp only [evS] at h;split at h<;>cases h
  | func g=>cases h
  | global g=>cases h
theorem run_go {P:Program} {a:Act} {w:World} {o:Oper} {c:Operand} {ats:Array TypeId} {fW:FuncId} {ws:Array Value} (hop:o.op = .go { callee := .value c,args:=#[],argTypes:=ats }) (hc:∃ jc,c = .tmp jc) (hv:a.eval c = .func (.func fW) #[] ws) :
    (execOp a.eval o).run P w = .ok (.spawn { target := .fn (.func fW) ws,args:=#[] }) w∧(execOp a.eval o).events P w #[]=#[]:=by
  obtain ⟨jc,rfl⟩:=hc
  constructor
  · unfold execOp
    simp only [hop,resolve,hv,Deferred.ofValue]
    simp
  · unfold execOp
    simp only [hop,resolve,hv,Deferred.ofValue]
    simp
theorem add_at (H:WgLib Y.P L) (hty:Y.ty=L.tWg) (hWf:¬ Y.fro Y.Wg) {i:Nat} {Next:(Nat→Prop)→Goroutine→World→Prop} {NE:En} (hNE:NE.ds=[]) {k:List Item} {t:Tm} {ls:Lv} {h:Hp} (A:AddAt Y L lo f fn NE k t ls h)
    {s:Sim} {O Pr:Nat→Prop} {lb:Nat→Nat} {w:World} {a:Act} (hbf:b.fn=f) (hbk:b.kind ≠ .early) (hd:a.defers=[]) (hsz:a.tmps.size=fn.ntmps) (M:Mem Y.fro lo s O Pr lb ls h w) (tm:TmOk s lb ls.length t a.tmps) (hOW:∀ b,O b→Y.Wg < b)
    (hA:∀ w₁,Rly Y.fro O w w₁→Aft (treeCtx Y.P true Y.fro) lo fn NE s O Pr w₁ b cs (AtGo Y i Next)):AtAdd Y i Next O (G (b.at a k) cs) w:=by
  obtain ⟨ops,j,rest,k1,o,x,ats,rfl,ho,hg,hop,hx,hdst,HR⟩:=A.ex
  intro hlv
  refine ⟨13,Goes.step rfl fun w₁ r₁ => ?_⟩
  have hxe:a.eval x=ptrW Y:=raw_eval tm hx
  rw [stepG_enter ho (by simp [Region.wanted,hg]) hbk (run_call_body hop H.f_add (nm_add L) rfl),goes_go]
  have hl:listed Y.P b.fn a o w₁=#[]:=by unfold listed;rw [events_call_body hop H.f_add (nm_add L) rfl];exact seen_none _ _
  refine ⟨⟨rfl,hl⟩,?_⟩
  have he:(#[x,.const (.int .i64 1)]:Array Operand).map a.eval=#[.pointer (some ⟨Y.Wg,0,none⟩),.int .i64 1]:=by simp only [List.map_toArray,List.map_cons,List.map_nil,hxe];rfl
  rw [he]
  refine add_walk (F:=fun w'=>Rly Y.fro O w w') H hty ⟨hWf,fun h=>Nat.lt_irrefl _ (hOW _ h)⟩ (fun _ _ r h=>h.trans r) (fun w' hw' => ?_) w₁ r₁.1 (r₁.2 hlv)
  have hb:(ops[j]?).bind (·.dst)=o.dst:=by rw [ho];rfl
  rw [hb]
  exact HR s O Pr lb w' b (a.put o.dst (.tuple #[])) cs (AtGo Y i Next) hbf hbk (by rw [put_defers,hd,hNE]) (by rw [put_size];exact hsz) (M.rely hw') (tm.put (by rw [hsz];exact dstOk_lt hdst) (VR.plain s rfl)) (hA w' hw')
theorem wait_at (H:WgLib Y.P L) (hty:Y.ty=L.tWg) (hWf:¬ Y.fro Y.Wg) (B0:SimOk Y.fro lo s0 (fun _=>False) h0 w0) (hn:h0.n=lo) {k:List Item} {t:Tm} {h:Hp} (A:WaitAt Y L lo s0 h0 fn tE kE k t h)
    {s:Sim} {O Pr:Nat→Prop} {lb:Nat→Nat} {ls:Lv} {w:World} {a:Act} (hbk:b.kind ≠ .early) (hd:a.defers=[]) (hsz:a.tmps.size=fn.ntmps) (M:Mem Y.fro lo s O Pr lb ls h w) (tm:TmOk s lb ls.length t a.tmps) (hle:s0.le s) (hOW:∀ b,O b→Y.Wg < b)
    (hK:Kept Y.fro (fun _=>False) w0 w):AtWait Y (StEnd Y lo s0 h0 f fn tE kE b cs w0) O (G (b.at a k) cs) w:=by
  obtain ⟨ops,j,rest,k1,o,x,ats,rfl,ho,hg,hop,hx,hdst,hC,rfl⟩:=A.ex
  intro hlv
  have hxe:a.eval x=ptrW Y:=raw_eval tm hx
  have hb:(ops[j]?).bind (·.dst)=o.dst:=by rw [ho];rfl
  refine ⟨AncW L Y (fun w'=>Rly Y.fro O w w') (b.at a (.inRegion ops (j::rest)::k1)) cs,?_,wait_round H hty ⟨hWf,fun h=>Nat.lt_irrefl _ (hOW _ h)⟩ (fun _ _ r h=>h.trans r) ?_,4,Goes.step rfl fun w₁ r₁ => ?_⟩
  · rintro g w ⟨T,rfl,_⟩;rfl
  · intro g w' hw' hl
    rw [hb] at hl
    have M':=M.rely hw'
    have hK':Kept Y.fro (fun _=>False) w0 w':=hK.trans ⟨fun _ h=>h.elim,fun b hb=>hw'.2.1 b (M.sim.base b hb) (.inl hb),hw'.1,hw'.2.2.1,hw'.2.2.2⟩
    refine ⟨fun b hb=>⟨M'.sim.now b hb,M'.sim.new b hb,hOW b hb⟩,hK'.low,hK'.size,hK'.os,hK'.out,a.put o.dst (.tuple #[]),by rw [put_defers];exact hd,by rw [put_size];exact hsz,?_,hl⟩
    have B1:=B0.reset (O':=fun _=>False) hn hK'.low hK'.size fun _ h=>h.elim
    exact Carry.tm B1 M'.sim A.ext hle hC (tm.put (by rw [hsz];exact dstOk_lt hdst) (VR.plain s rfl))
  · rw [stepG_enter ho (by simp [Region.wanted,hg]) hbk (run_call_body hop H.f_wait (nm_wait L) rfl),goes_go]
    have hl:listed Y.P b.fn a o w₁=#[]:=by unfold listed;rw [events_call_body hop H.f_wait (nm_wait L) rfl];exact seen_none _ _
    refine ⟨⟨rfl,hl⟩,?_⟩
    have he:(#[x]:Array Operand).map a.eval=#[.pointer (some ⟨Y.Wg,0,none⟩)]:=by simp [hxe,ptrW]
    rw [he]
    exact wait_start H hty (fun _ _ r h=>h.trans r) w₁ r₁.1 (r₁.2 hlv)
theorem go_at (H:WgLib Y.P L) (hty:Y.ty=L.tWg) (K:PhOk Y) (B0:SimOk Y.fro lo s0 (fun _=>False) h0 w0) (hn:h0.n=lo) {i:Nat} {Next:(Nat→Prop)→Goroutine→World→Prop} {NE:En} (hNE:NE.ds=[]) {k:List Item} {t:Tm} {h:Hp}
    (A:GoAt Y L lo s0 h0 f fn i NE k t h) {s:Sim} {O Pr:Nat→Prop} {lb:Nat→Nat} {ls:Lv} {w:World} {a:Act} (hbf:b.fn=f) (hbk:b.kind ≠ .early) (hd:a.defers=[]) (hsz:a.tmps.size=fn.ntmps) (M:Mem Y.fro lo s O Pr lb ls h w) (tm:TmOk s lb ls.length t a.tmps) (hle:s0.le s) (hOW:∀ b,O b→Y.Wg < b) (hW0:Y.Wg < w0.heap.size)
    (hK:Kept Y.fro (fun _=>False) w0 w)
    (hA:∀ n:Nat→Prop,(∀ b,n b→O b)→SimOk Y.fro lo s0 (fun b=>O b∧¬ n b) h0 w→Aft (treeCtx Y.P true Y.fro) lo fn NE s0 (fun b=>O b∧¬ n b) (fun _=>False) w b cs Next):AtGo Y i Next O (G (b.at a k) cs) w:=by
  obtain ⟨ops,j,rest,k1,o,c,ats,fW,caps,t',rfl,ho,hg,hdst,hop,hc,hct,hCh,hCar,HR⟩:=A.ex
  obtain ⟨fnW,dop,restW,rid,atsW,id,cs1,sz,e,p,off,sp,c1,c2,c3,c4,c5,c6,c7,c8,c9,c10,c11,c12,c13,c14,HW⟩:=hCh.ex
  obtain ⟨ws,hv,hlen,hcap⟩:∃ ws:List Value,a.eval c = .func (.func fW) #[] ws.toArray∧caps.length=ws.length∧∀ (i:Nat) (q:Bool) (v w:Value),caps[i]? = some (q,v)→ws[i]? = some w→(match q with | true=>w=v | false=>VR s v w):=by
    obtain ⟨jc,rfl⟩:=hct
    obtain ⟨vr,h1,ws,h2,h3,h4⟩:=tm jc _ hc
    exact ⟨ws,by simp [Act.eval,Array.getD_eq_getD_getElem?,h1,h2],h3,h4⟩
  obtain ⟨ip,hip⟩:=List.mem_iff_getElem?.1 c14
  have hipl:ip < ws.length:=by rw [← hlen];exact (List.getElem?_eq_some_iff.1 hip).1
  have hvp:VR s (.pointer (some ⟨id,off,sp⟩)) ws[ip]:=hcap ip false _ _ hip (List.getElem?_eq_getElem hipl)
  obtain ⟨cel,hcel⟩:∃ cel,s.adr id=some cel:=by
    generalize ws[ip]=z at hvp
    cases hvp with
    | ptr _ _ _ _ cel ha _ _=>exact ⟨cel,ha⟩
  have hOc:=(M.sim.own id cel hcel c11).1
  obtain ⟨r1,r2⟩:=run_go (P:=Y.P) (w:=w) hop hct hv
  have hst:stepG Y.P true (G (b.at a (.inRegion ops (j::rest)::k1)) cs) w = .spawn (G (b.at a (.inRegion ops rest::k1)) cs) (born Y.P { target := .fn (.func fW) ws.toArray,args:=#[] }) w #[]:=by
    have h1:=stepG_spawn (P:=Y.P) (main:=true) (b:=b) (a:=a) (k:=k1) (cs:=cs) (w:=w) (rest:=rest) ho (by simp [Region.wanted,hg]) hbk r1 rfl
    rw [hdst] at h1
    have h2:listed Y.P b.fn a o w=#[]:=by unfold listed;rw [r2,seen_none]
    rw [h2] at h1
    exact h1
  obtain ⟨S1,L1⟩:=SimOk.hand B0 hn hK.low hK.size M.sim hle A.ext c11 hcel c12 c13
  refine ⟨rfl,_,_,fun b=>b=cel.b,hst,rfl,fun b hb=>hb▸hOc,?_,?_⟩
  · refine worker_tree H hty K c1 c2 c3 c4 c5 c6 c7 (cap:=ws.toArray) (t:=capTm 0 caps) ?_ (by simp;omega) S1 (fun b hb=>hb▸hOW _ hOc) (by have:=hK.size;omega) ?_ HW
    · have h0:0 < ws.length:=by rw [← hlen];exact (List.getElem?_eq_some_iff.1 c8).1
      have:=hcap 0 true _ ws[0] c8 (List.getElem?_eq_getElem h0)
      simp only at this
      simp [List.getElem?_eq_getElem h0,this,ptrW]
    · exact cap_tm hlen hcap c10 _
  · have S2:SimOk Y.fro lo s0 (fun b=>O b∧¬ b=cel.b) h0 w:=B0.reset hn hK.low hK.size fun b hb=>⟨M.sim.now b hb.1,M.sim.new b hb.1⟩
    have T2:TmOk s0 (fun _=>0) 0 t' a.tmps:=Carry.tm (B0.reset (O':=fun _=>False) hn hK.low hK.size fun _ h=>h.elim) M.sim A.ext hle hCar tm
    exact HR s0 (fun b=>O b∧¬ b=cel.b) (fun _=>False) (fun _=>0) w b a cs Next hbf hbk (by rw [hd,hNE]) hsz ⟨S2,⟨fun j cs hj=>by simp at hj,fun j j' hj=>by simp at hj⟩,fun _ hb=>hb.elim⟩ T2 (hA _ (fun b hb=>hb▸hOc) S2)
theorem starts_ok (H:WgLib Y.P L) (hty:Y.ty=L.tWg) (K:PhOk Y) (hWf:¬ Y.fro Y.Wg) (hbf:b.fn=f) (hbk:b.kind ≠ .early) (B0:SimOk Y.fro lo s0 (fun _=>False) h0 w0) (hW0:Y.Wg < w0.heap.size) (hn:h0.n=lo) :
    ∀ (r:Nat) (s:Sim) (O Pr:Nat→Prop) (w:World),s0.le s→Kept Y.fro (fun _=>False) w0 w→(∀ b,O b→Y.Wg < b) →
      Aft (treeCtx Y.P true Y.fro) lo fn (.mid [] (SpFrom Y L lo s0 h0 f fn tE kE r)) s O Pr w b cs (Starts Y (StEnd Y lo s0 h0 f fn tE kE b cs w0) r)
  | 0,s,O,Pr,w,hle,hk,hOW=>by
    intro k' t' ls' h' s' O' lb' w' a' hK' hle' M' tm' hdef hsz hO hkept
    refine JW.stop fun w₁ r₁ => ?_
    have hk₁:Kept Y.fro (fun _=>False) w0 w₁:=(hk.trans (hkept.less fun _ h=>h.elim)).trans ⟨fun _ h=>h.elim,fun b hb=>r₁.2.1 b (M'.sim.base b hb) (.inl hb),r₁.1,r₁.2.2.1,r₁.2.2.2⟩
    exact wait_at H hty hWf B0 hn hK' hbk hdef hsz (M'.rely r₁) tm' (hle.trans hle') (fun b h=>(hO.2 b h).elim (hOW b) fun x=>by have:=hk.size;omega) hk₁
  | r+1,s,O,Pr,w,hle,hk,hOW=>by
    intro k' t' ls' h' s' O' lb' w' a' hK' hle' M' tm' hdef hsz hO hkept
    refine JW.stop fun w₁ r₁ => ?_
    have hk₁:Kept Y.fro (fun _=>False) w0 w₁:=(hk.trans (hkept.less fun _ h=>h.elim)).trans ⟨fun _ h=>h.elim,fun b hb=>r₁.2.1 b (M'.sim.base b hb) (.inl hb),r₁.1,r₁.2.2.1,r₁.2.2.2⟩
    have hOW':∀ b,O' b→Y.Wg < b:=fun b h=>(hO.2 b h).elim (hOW b) fun x=>by have:=hk.size;omega
    refine add_at H hty hWf rfl hK' hbf hbk hdef hsz (M'.rely r₁) tm' hOW' fun w₂ r₂ => ?_
    have hk₂:Kept Y.fro (fun _=>False) w0 w₂:=hk₁.trans ⟨fun _ h=>h.elim,fun b hb=>r₂.2.1 b ((M'.rely r₁).sim.base b hb) (.inl hb),r₂.1,r₂.2.2.1,r₂.2.2.2⟩
    intro k3 t3 ls3 h3 s3 O3 lb3 w3 a3 hK3 hle3 M3 tm3 hdef3 hsz3 hO3 hkept3
    refine JW.stop fun w₄ r₄ => ?_
    have hk₄:Kept Y.fro (fun _=>False) w0 w₄:=(hk₂.trans (hkept3.less fun _ h=>h.elim)).trans ⟨fun _ h=>h.elim,fun b hb=>r₄.2.1 b (M3.sim.base b hb) (.inl hb),r₄.1,r₄.2.2.1,r₄.2.2.2⟩
    refine go_at H hty K B0 hn rfl hK3 hbf hbk hdef3 hsz3 (M3.rely r₄) tm3 ((hle.trans hle').trans hle3) (fun b h=>(hO3.2 b h).elim (hOW' b) fun x=>by have:=hk₂.size;omega) hW0 hk₄ fun n hn' S => ?_
    exact starts_ok H hty K hWf hbf hbk B0 hW0 hn r s0 _ _ w₄ s0.le_refl hk₄ fun b h=>(hO3.2 b h.1).elim (hOW' b) fun x=>by have:=hk₂.size;omega
end
end Go.Id
namespace Go.Id
open Go.Conc
open Go.ConcN (sumTo)
open Go.ConcR (DC0)
set_option linter.unusedVariables false
set_option linter.unusedSectionVars false
section
variable {P:Program} {N0:Nat→Prop} {O:Nat→Prop} {g:Goroutine} {w:World} {Stop:(Nat→Prop)→Goroutine→World→Prop}
theorem offersAt_none {g:Goroutine} (h:g.status = .running∨g.status = .finished) (c:Nat) (send:Bool):offersAt g c send=[]:=by
  unfold offersAt
  rcases h with h | h<;>rw [h]
theorem Frm.partners {gs:Array Goroutine} {t:Trace} {q:Nat→Nat} {Shun:Loc→Prop} (F:Frm P N0 O g w gs t q Shun) (c:Nat) (send:Bool):Go.partners (gs.setIfInBounds 0 ph) c send=[]:=by
  refine partners_nil fun j x hx => ?_
  rcases Nat.eq_zero_or_pos j with rfl | hj
  · have hlt:0 < gs.size:=(Array.getElem?_eq_some_iff.1 F.zero).1
    rw [Array.getElem?_setIfInBounds_self_of_lt hlt] at hx
    cases hx
    exact offersAt_none (.inr rfl) c send
  · rw [Array.getElem?_setIfInBounds_ne (by omega)] at hx
    exact offersAt_none (F.lv.old j x hj hx).status c send
theorem JM.move (hrun : g.status = .running) (h : ∀ w₁, Rly N0 O w w₁ → ∀ gs t q Shun, Frm P N0 O g w₁ gs t q Shun → ∃ g' w₂ gs' u, (∀ sl, runT P (crowd gs w₁ sl) 0 = (.next (crowd gs' w₂ sl), u)) ∧ gs'.size = gs.size ∧ gs'[0]? = some g' ∧ (∀ j x, 0 < j → gs[j]? = some x → gs'[j]? = some x) ∧
      w₁.heap.size ≤ w₂.heap.size ∧ (∀ op ∈ u, op.g = 0 ∧ (∀ b, op.act.touch? = some b → Shun b.loc → b.kind ≠ .plain) ∧ op.act.low w₂.heap.size) ∧ Deaf (t ++ u) 0 = Deaf t 0 ∧ JM P N0 Stop (grow O w₁ w₂) g' w₂) : JM P N0 Stop O g w := by
  intro w₁ hr gs sl t q S F
  obtain ⟨N, gs₁, d, sl₁, sl₂, t₁, q₁, hN, F₁, d', hst⟩ := Frm.pick hrun _ gs w₁ sl t q (Nat.le_refl _) F
  have hr₁ := (hr.trans (rly_at w₁ d)).trans (rly_at (w₁.at d) d')
  generalize hwx : (w₁.at d).at d' = wx at *
  have F₂ : Frm P N0 O g wx gs₁ t₁ q₁ S := by rw [← hwx]; exact ⟨F₁.zero, F₁.lv, F₁.past, F₁.shun, F₁.old, F₁.now, F₁.base, F₁.num⟩
  obtain ⟨g', w₂, gs', u, hrunT, hsz, h0, hold, hsize, hu, hdeaf, hJ⟩ := h wx hr₁ gs₁ t₁ q₁ S F₂
  have hlt : 0 < gs₁.size := (Array.getElem?_eq_some_iff.1 F₂.zero).1
  have F₃ : Frm P N0 (grow O wx w₂) g' w₂ gs' (t₁ ++ u) q₁ S := by
    refine ⟨h0, ⟨fun j y hj hy => ?_, fun j hj => ?_⟩, (F₂.past.mono hsize).app0 (fun op hop => (hu op hop).1) (fun op hop => (hu op hop).2.1) hdeaf (fun op hop => (hu op hop).2.2), fun l b hl hb => ?_, fun l b hl hb => Nat.lt_of_lt_of_le (F₂.old l b hl hb) hsize,
      fun b hb => hb.elim (fun h => Nat.lt_of_lt_of_le (F₂.now b h) hsize) (·.2), fun b hb => Nat.lt_of_lt_of_le (F₂.base b hb) hsize, fun op hop => ?_⟩
    · have hjl : j < gs₁.size := by rw [← hsz]; exact (Array.getElem?_eq_some_iff.1 hy).1
      have := hold j _ hj (Array.getElem?_eq_getElem hjl)
      rw [hy] at this
      cases this
      rw [Deaf_other t₁ (g' := 0) (by omega) _ (fun op hop => (hu op hop).1)]
      exact F₂.lv.old j _ hj (Array.getElem?_eq_getElem hjl)
    · rw [Deaf_other t₁ (g' := 0) (by omega) _ (fun op hop => (hu op hop).1)]
      exact F₂.lv.above j (by omega)
    · rintro (h | h | ⟨h, _⟩)
      · exact F₂.shun l b hl hb (.inl h)
      · exact F₂.shun l b hl hb (.inr h)
      · have := F₂.old l b hl hb; omega
    · rw [hsz]; exact (Array.mem_append.1 hop).elim (F₂.num op) fun x => by rw [(hu op x).1]; exact hlt
  obtain ⟨N₄, gs₄, sl', t'', q', Shun', g'', w', O', hr', F', hS⟩ := hJ w₂ (Rly.refl _ _ _) gs' sl₂ (t₁ ++ u) q₁ S F₃
  refine ⟨N + (1 + N₄), gs₄, sl', t'', q', Shun', g'', w', O', ?_, F', hS⟩
  rw [runNT_add, hN]
  simp only
  rw [runNT_add]
  have h1 : runNT P 1 (crowd gs₁ (w₁.at d) sl₁) t₁ = (.next (crowd gs' w₂ sl₂), t₁ ++ u) := by
    simp only [runNT, hst, hrunT sl₂]
  rw [h1]
  exact hr'
theorem JM.goes {g':Goroutine}:∀ (m:Nat) (g:Goroutine) (w:World),Goes P true (fun _ _=>True) DC0 (fun x _=>x=g') m g w→(∀ w₁,Rly N0 O w w₁→JM P N0 Stop O g' w₁)→JM P N0 Stop O g w
  | 0,g,w,h,hJ=>by
    obtain rfl:=h w trivial
    exact hJ w (Rly.refl _ _ _)
  | m+1,g,w,h,hJ=>by
    rcases h with h | ⟨hs,h⟩
    · obtain rfl:=h w trivial
      exact hJ w (Rly.refl _ _ _)
    · refine JM.step hs fun w₁ r => ?_
      obtain ⟨g₁,w',es,hgo,⟨e1,rfl⟩,hg'⟩:=goes_elim (h w₁ trivial)
      subst e1
      refine ⟨g₁,_,#[],hgo,guar_idle _ _ _,?_⟩
      rw [grow_self]
      exact JM.goes m g₁ _ hg' fun w₂ r₂=>hJ w₂ (r.trans r₂)
end
section
variable {P:Program} {N0:Nat→Prop} {O:Nat→Prop} {w:World} {Stop:(Nat→Prop)→Goroutine→World→Prop} {b:Frame} {a:Act} {k:List Item} {cs:List Frame} {ops:Array Oper} {i:Nat} {rest:List Nat} {o:Oper}
theorem JM.close {x:Operand} {ats:Array TypeId} (ho:ops[i]? = some o) (hg:o.guard=none) (hk:b.kind ≠ .early) (hop:o.op = .call { callee := .builtin .close,args:=#[x],argTypes:=ats }) {c cap s r:Nat} {buf:Array Value} {tm:Bool}
    (hx:a.eval x = .chan (some c)) (hO:O c) (hc:w.heap[c]? = some (.chan cap buf false s r tm)) (hlt:c < w.heap.size) (hq:(P.funcs[b.fn]?).any (·.norace)=false)
    (hJ:∀ w₁,Rly N0 O w w₁→JM P N0 Stop O (G (b.at (a.put o.dst (.tuple #[])) (.inRegion ops rest::k)) cs) (w₁.setChan c cap buf true s r tm)):JM P N0 Stop O (G (b.at a (.inRegion ops (i::rest)::k)) cs) w:=by
  refine JM.move rfl fun w₁ hr gs t q S F => ?_
  have hc₁:w₁.heap[c]? = some (.chan cap buf false s r tm):=(hr.2.1 c hlt (.inr hO)).trans hc
  have hst:=stepG_close (P:=P) (main:=true) (b:=b) (a:=a) (kk:=k) (cs:=cs) (w:=w₁) (rest:=rest) ho (by simp [Region.wanted,hg]) hk hop hx hc₁ hq
  have hsz:(w₁.setChan c cap buf true s r tm).heap.size=w₁.heap.size:=by simp [World.setChan]
  refine ⟨G (b.at (a.put o.dst (.tuple #[])) (.inRegion ops rest::k)) cs,w₁.setChan c cap buf true s r tm,_,_,fun sl=>runT_crowd_go (P:=P) (sl:=sl) (i:=0) F.zero (show stepG P (0 == 0) _ w₁=_ from hst),by simp,?_,fun j y hj hy => ?_,by rw [hsz];exact Nat.le_refl _,fun op hop => ?_,?_,?_⟩
  · have:=(Array.getElem?_eq_some_iff.1 F.zero).1;simp [this]
  · rw [Array.getElem?_setIfInBounds_ne (by omega),Array.getElem?_map,hy]
    simp [woken_quitsD (F.lv.old j y hj hy)]
  · rw [ofEvents_eq] at hop
    obtain ⟨e,he,rfl⟩:=Array.mem_map.1 hop
    have hlow:c < (w₁.setChan c cap buf true s r tm).heap.size:=by rw [hsz];exact F.now c hO
    simp only [closeEvents,List.mem_toArray,List.mem_cons,List.not_mem_nil,or_false] at he
    rcases he with rfl | rfl
    · refine ⟨rfl,fun x hx hs => ?_,hlow⟩
      simp only [MemAct.ofEvent,MemAct.touch?,Option.some.injEq] at hx
      subst hx
      exact absurd (.inr hO) (F.shun _ c hs rfl)
    · exact ⟨rfl,fun x hx hs=>absurd hx (by simp [MemAct.ofEvent,MemAct.touch?]),hlow⟩
  · rw [Deaf_own];rfl
  · have:grow O w₁ (w₁.setChan c cap buf true s r tm)=O:=by funext b';unfold grow;rw [hsz];exact propext ⟨fun h=>h.elim id fun h=>absurd h.1 (by omega),.inl⟩
    rw [this]
    exact hJ w₁ hr
theorem run_recv {x:Operand} {ct:TypeId} {co:Bool} {c:Nat} {dir:ChanDir} {e:TypeId} {ti:TyI} (hop:o.op = .recv ct x co) (hx:a.eval x = .chan (some c)) (hu:P.underlying ct=some (.chan dir e)) (ht:TyOk P e ti) (w:World) :
    ∃ z,z.cells=ti.zero.toArray∧(execOp a.eval o).run P w = .ok (.comm #[rcase c z] true (.recv co)) w∧(execOp a.eval o).events P w #[]=#[]:=by
  have hd:Dz P (fun _=>False) (execOp a.eval o) w fun nx w'=>(∃ z,z.cells=ti.zero.toArray∧nx = .comm #[rcase c z] true (.recv co))∧w'=w:=by
    unfold execOp
    rw [hop]
    refine Dz.bind (Q:=fun d w'=>d = .chan dir e∧w'=w) (Dz.underlying hu ⟨rfl,rfl⟩) ?_
    rintro d w' ⟨rfl,rfl⟩
    refine Dz.bind (Q:=fun z w''=>z.cells=ti.zero.toArray∧w''=w') (Dz.zeroValue ht fun _ hz=>⟨hz,rfl⟩) ?_
    rintro z w'' ⟨hz,rfl⟩
    exact Dz.pure ⟨⟨z,hz,by simp only [hx,rcase]⟩,rfl⟩
  obtain ⟨nx,w',h1,⟨⟨z,hz,rfl⟩,rfl⟩,h3⟩:=hd
  exact ⟨z,hz,h1,Array.eq_empty_iff_forall_not_mem.2 fun e he=>h3 #[] (fun e he=>by simp at he) e he⟩
theorem stepG_recv {x:Operand} {ct:TypeId} {dir:ChanDir} {e:TypeId} {ti:TyI} {c:Nat} (ho:ops[i]? = some o) (hg:o.guard=none) (hk:b.kind ≠ .early) (hop:o.op = .recv ct x true) (hx:a.eval x = .chan (some c)) (hu:P.underlying ct=some (.chan dir e)) (ht:TyOk P e ti) (w:World) :
    ∃ z,z.cells=ti.zero.toArray∧stepG P (0 == 0) (G (b.at a (.inRegion ops (i::rest)::k)) cs) w = .comm (G (b.at a (.inRegion ops (i::rest)::k)) cs) #[rcase c z] true (.recv true) w #[]:=by
  obtain ⟨z,hz,r1,r2⟩:=run_recv (P:=P) hop hx hu ht w
  have:=stepG_comm (P:=P) (main:=true) (b:=b) (a:=a) (k:=k) (cs:=cs) (w:=w) (rest:=rest) ho (by simp [Region.wanted,hg]) hk r1
  have h2:listed P b.fn a o w=#[]:=by unfold listed;rw [r2,seen_none]
  rw [h2] at this
  exact ⟨z,hz,this⟩
theorem fin_recv {c:Nat} {z v:Value} {q:Bool} (ho:ops[i]? = some o):(G (b.at a (.inRegion ops (i::rest)::k)) cs).finishComm P #[rcase c z] (.recv true) 0 v q=G (b.at (a.put o.dst (.tuple #[v,.bool q])) (.inRegion ops rest::k)) cs:=by
  have e:(b.at a (.inRegion ops (i::rest)::k)).finish (.tuple #[v,.bool q])=b.at (a.put o.dst (.tuple #[v,.bool q])) (.inRegion ops rest::k):=by
    rw [Frame.finish_at,ho];rfl
  simp only [Goroutine.finishComm,G,commResult,e]
theorem JM.recv {x:Operand} {ct:TypeId} {dir:ChanDir} {e:TypeId} {ti:TyI} (ho:ops[i]? = some o) (hg:o.guard=none) (hk:b.kind ≠ .early) (hop:o.op = .recv ct x true) (hu:P.underlying ct=some (.chan dir e)) (ht:TyOk P e ti)
    {c cap s r:Nat} {v:Value} {buf:List Value} {tm:Bool} (hx:a.eval x = .chan (some c)) (hO:O c) (hc:w.heap[c]? = some (.chan cap (v::buf).toArray true s r tm)) (hlt:c < w.heap.size)
    (hJ:∀ w₁,Rly N0 O w w₁→JM P N0 Stop O (G (b.at (a.put o.dst (.tuple #[v,.bool true])) (.inRegion ops rest::k)) cs) (w₁.setChan c cap buf.toArray true s (r+1) tm)):JM P N0 Stop O (G (b.at a (.inRegion ops (i::rest)::k)) cs) w:=by
  refine JM.move rfl fun w₁ hr gs t q S F => ?_
  have hc₁:w₁.heap[c]? = some (.chan cap (v::buf).toArray true s r tm):=(hr.2.1 c hlt (.inr hO)).trans hc
  obtain ⟨z,hz,hst⟩:=stepG_recv (P:=P) (b:=b) (k:=k) (cs:=cs) (rest:=rest) ho hg hk hop hx hu ht w₁
  have hsz:(w₁.setChan c cap buf.toArray true s (r+1) tm).heap.size=w₁.heap.size:=by simp [World.setChan]
  have hrun:=fun sl=>crowd_recv_buf (sl:=sl) (i:=0) F.zero hst hc₁ (by simp) (F.partners c true)
  have e1:(v::buf).toArray.getD 0 undef=v:=rfl
  simp only [List.extract_toArray,List.extract_eq_take_drop,List.size_toArray,List.length_cons,Nat.add_sub_cancel,List.drop_succ_cons,List.drop_zero,List.take_length,e1,fin_recv ho] at hrun
  refine ⟨G (b.at (a.put o.dst (.tuple #[v,.bool true])) (.inRegion ops rest::k)) cs,_,_,_,hrun,by simp,?_,fun j y hj hy => ?_,by rw [hsz];exact Nat.le_refl _,?_,?_,?_⟩
  · exact Array.getElem?_setIfInBounds_self_of_lt (Array.getElem?_eq_some_iff.1 F.zero).1
  · rw [Array.getElem?_setIfInBounds_ne (by omega)];exact hy
  · intro op hop
    have hlow:c < (w₁.setChan c cap buf.toArray true s (r+1) tm).heap.size:=by rw [hsz];exact F.now c hO
    simp [ofEvents_eq] at hop
    rcases hop with rfl | rfl<;>exact ⟨rfl,fun x hx=>by simp [MemAct.touch?] at hx,hlow⟩
  · simp only [ofEvents_eq,List.map_toArray,List.map_nil,Array.empty_append]
    rw [show ∀ x y:MemOp,(#[x,y]:Array MemOp)=[x,y].toArray from fun _ _=>rfl,Deaf_append]
    rfl
  · have:grow O w₁ (w₁.setChan c cap buf.toArray true s (r+1) tm)=O:=by funext b';unfold grow;rw [hsz];exact propext ⟨fun h=>h.elim id fun h=>absurd h.1 (by omega),.inl⟩
    rw [this]
    exact hJ w₁ hr
theorem JM.recvEnd {x:Operand} {ct:TypeId} {dir:ChanDir} {e:TypeId} {ti:TyI} (ho:ops[i]? = some o) (hg:o.guard=none) (hk:b.kind ≠ .early) (hop:o.op = .recv ct x true) (hu:P.underlying ct=some (.chan dir e)) (ht:TyOk P e ti)
    {c cap s r:Nat} {tm:Bool} (hx:a.eval x = .chan (some c)) (hO:O c) (hc:w.heap[c]? = some (.chan cap #[] true s r tm)) (hlt:c < w.heap.size)
    (hJ:∀ z w₁,z.cells=ti.zero.toArray→Rly N0 O w w₁→JM P N0 Stop O (G (b.at (a.put o.dst (.tuple #[z,.bool false])) (.inRegion ops rest::k)) cs) w₁):JM P N0 Stop O (G (b.at a (.inRegion ops (i::rest)::k)) cs) w:=by
  refine JM.move rfl fun w₁ hr gs t q S F => ?_
  have hc₁:w₁.heap[c]? = some (.chan cap #[] true s r tm):=(hr.2.1 c hlt (.inr hO)).trans hc
  obtain ⟨z,hz,hst⟩:=stepG_recv (P:=P) (b:=b) (k:=k) (cs:=cs) (rest:=rest) ho hg hk hop hx hu ht w₁
  have hrun:=fun sl=>crowd_recv_closed (sl:=sl) (i:=0) F.zero hst hc₁ (F.partners c true)
  simp only [fin_recv ho] at hrun
  refine ⟨G (b.at (a.put o.dst (.tuple #[z,.bool false])) (.inRegion ops rest::k)) cs,_,_,_,hrun,by simp,?_,fun j y hj hy => ?_,Nat.le_refl _,?_,?_,?_⟩
  · exact Array.getElem?_setIfInBounds_self_of_lt (Array.getElem?_eq_some_iff.1 F.zero).1
  · rw [Array.getElem?_setIfInBounds_ne (by omega)];exact hy
  · intro op hop
    have hlow:c < w₁.heap.size:=F.now c hO
    simp [ofEvents_eq] at hop
    subst hop
    exact ⟨rfl,fun x hx=>by simp [MemAct.touch?] at hx,hlow⟩
  · simp only [ofEvents_eq,List.map_toArray,List.map_nil,Array.empty_append]
    rw [show ∀ x:MemOp,(#[x]:Array MemOp)=[x].toArray from fun _=>rfl,Deaf_append]
    rfl
  · rw [grow_self]
    exact hJ z w₁ hz hr
end
end Go.Id
namespace Go.Id
open Go.Conc
set_option linter.unusedVariables false
set_option linter.unusedSectionVars false
def shV (d:Nat):Value→Value
  | .pointer (some a) => .pointer (some { a with block:=a.block+d })
  | .slice (some a) n f => .slice (some { a with block:=a.block+d }) n f
  | v=>v
def shO (d:Nat):Ob→Ob
  | .cells c sz e => .cells (c.map (shV d)) sz e
  | .map es => .map es
structure Closed (D:Nat→Prop) (lo:Nat) (h:Hp):Prop where
  low:∀ i,D i→lo≤i∧i < h.n
  cells:∀ i,D i→∃ cs sz e,h.g i = .cells cs sz e∧∀ v∈cs,flatIn D v
structure Moved (D:Nat→Prop) (d:Nat) (h h':Hp):Prop where
  g:∀ i,D i→i+d < h'.n∧h'.g (i+d)=shO d (h.g i)
def joinH (d:Nat) (h hw:Hp):Hp:=⟨hw.n+d,fun j=>if j < h.n then h.g j else shO d (hw.g (j - d))⟩
open Classical in
noncomputable def joinS (n d:Nat) (s sw:Sim) (D:Nat→Prop):Sim :=
  ⟨fun j=>if j < n then s.adr j else if D (j - d) then sw.adr (j - d) else none,fun j=>if j < n then s.ep j else sw.ep (j - d),fun j=>if j < n then s.mp j else none⟩
theorem flat_cases {D:Nat→Prop} {v:Value} (h:flatIn D v):plainV v=true∨(∃ a,v = .pointer (some a)∧D a.block)∨(∃ a n f,v = .slice (some a) n f∧D a.block):=by
  unfold flatIn at h
  split at h
  · exact .inr (.inl ⟨_,rfl,h⟩)
  · exact .inr (.inr ⟨_,_,_,rfl,h⟩)
  · exact .inl h
theorem shV_plain {d:Nat} {v:Value} (h:plainV v=true):shV d v=v:=by
  unfold shV
  split
  · simp [plainV] at h
  · simp [plainV] at h
  · rfl
section
variable {N0 fro:Nat→Prop} {lo low:Nat} {s sw:Sim} {O Ow:Nat→Prop} {h hw:Hp} {w:World} {D:Nat→Prop}
theorem join_adr_old {n d j:Nat} (hj:j < n):(joinS n d s sw D).adr j=s.adr j:=by simp [joinS,hj]
theorem join_adr_new {n d i:Nat} (hi:n≤i+d) (hD:D i):(joinS n d s sw D).adr (i+d)=sw.adr i:=by simp [joinS,show ¬ i+d < n by omega,hD]
theorem join_ep_new {n d i:Nat} (hi:n≤i+d):(joinS n d s sw D).ep (i+d)=sw.ep i:=by simp [joinS,show ¬ i+d < n by omega]
theorem join_adr_inv {n d j:Nat} {c:Cel} (h:(joinS n d s sw D).adr j=some c) (hd:low+d=n):(j < n∧s.adr j=some c)∨∃ i,j=i+d∧n≤j∧D i∧sw.adr i=some c:=by
  simp only [joinS] at h
  split at h
  · exact .inl ⟨‹_›,h⟩
  · split at h
    · exact .inr ⟨j - d,by omega,by omega,‹_›,h⟩
    · cases h
theorem VR.join {n d:Nat} (hd:low+d=n) (hD:∀ i,D i→low≤i) {v vr:Value} (hf:flatIn D v) (hv:VR sw v vr):VR (joinS n d s sw D) (shV d v) vr:=by
  rcases flat_cases hf with hp | ⟨a,rfl,ha⟩ | ⟨a,k,f,rfl,ha⟩
  · rw [shV_plain hp,plain_inv hp hv];exact VR.plain _ hp
  · have hl:=hD _ ha
    cases hv with
    | ptr id off sp a' c h1 h2 h3 =>
      simp only at ha hl
      exact .ptr (id+d) off sp a' c (by rw [join_adr_new (by omega) ha];exact h1) (by rw [join_ep_new (by omega)];exact h2) (by rw [join_ep_new (by omega)];exact h3)
  · have hl:=hD _ ha
    cases hv with
    | sl id off sp n' fl a' cap c h1 h2 h3 h4 h5 =>
      simp only at ha hl
      exact .sl (id+d) off sp _ _ a' cap c (by rw [join_adr_new (by omega) ha];exact h1) (by rw [join_ep_new (by omega)];exact h2) (by rw [join_ep_new (by omega)];exact h3) h4 h5
theorem SimOk.join (S:SimOk N0 lo s O h w) (Sw:SimOk fro low sw Ow hw w) {d:Nat} (hd:low+d=h.n) (C:Closed D low hw) (hO:∀ b,Ow b→O b) (hR:∀ b,Ow b→¬ Rng s lo b) (hlh:low≤hw.n) :
    SimOk N0 lo (joinS h.n d s sw D) O (joinH d h hw) w∧s.le (joinS h.n d s sw D)∧Ext h (joinH d h hw)∧Moved D d hw (joinH d h hw):=by
  have hD:∀ i,D i→low≤i:=fun i hi=>(C.low i hi).1
  have old:∀ i c,s.adr i=some c→(joinS h.n d s sw D).adr i=some c∧(joinS h.n d s sw D).ep i=s.ep i:=fun i c hc=>by
    have hi:=(S.cells i c hc).1
    exact ⟨by rw [join_adr_old hi];exact hc,by simp [joinS,hi]⟩
  have hle:s.le (joinS h.n d s sw D):=⟨fun i c hc=>⟨c,(old i c hc).1,Nat.le_of_eq (old i c hc).2.symm,fun _=>rfl⟩,fun i b hb=>by
    have hi:=(S.maps i b hb).1
    simp [joinS,hi,hb]⟩
  have hext:Ext h (joinH d h hw):=⟨by simp only [joinH];omega,fun i hi=>by simp [joinH,hi]⟩
  have hN:h.n≤(joinH d h hw).n:=hext.n
  have bl:∀ i c,D i→sw.adr i=some c→Ow c.b:=fun i c hi hc=>(Sw.own i c hc (hD i hi)).1
  refine ⟨⟨fun j c hc => ?_,fun j c hc hl => ?_,fun j c k c' h1 h2 hl hjk => ?_,fun j b hb => ?_,S.now,S.new,S.base,Nat.le_trans S.lohi hN⟩,hle,hext,⟨fun i hi => ?_⟩⟩
  · rcases join_adr_inv hc hd with ⟨hj,hc⟩ | ⟨i,rfl,hj,hi,hc⟩
    · obtain ⟨h1,h2,cs,sz,h3,ys,h4,h5⟩:=S.cells j c hc
      exact ⟨by omega,h2,cs,sz,by rw [hext.g j hj,h3,(old j c hc).2],ys,h4.mono hle,h5⟩
    · obtain ⟨h1,h2,cs,sz,h3,ys,h4,h5⟩:=Sw.cells i c hc
      obtain ⟨cs',sz',e',g1,g2⟩:=C.cells i hi
      rw [h3] at g1
      injection g1 with e1 e2 e3
      subst e1
      refine ⟨by simp only [joinH];omega,fun hx=>absurd S.lohi (by omega),cs.map (shV d),sz,?_,ys,⟨⟨by simpa using h4.1.1,fun k v u a b => ?_⟩,h4.2⟩,h5⟩
      · rw [join_ep_new hj]
        simp only [joinH]
        rw [if_neg (by omega),Nat.add_sub_cancel,h3]
        rfl
      · rw [List.getElem?_map] at a
        obtain ⟨v',hv',rfl⟩:=Option.map_eq_some_iff.1 a
        exact VR.join hd hD (g2 v' (List.mem_of_getElem? hv')) (h4.1.2 k v' u hv' b)
  · rcases join_adr_inv hc hd with ⟨hj,hc⟩ | ⟨i,rfl,hj,hi,hc⟩
    · obtain ⟨h1,h2,rc,ty,h3,cs,sz,e,h4,h5⟩:=S.own j c hc hl
      exact ⟨h1,h2,rc,ty,h3,cs,sz,e,by rw [hext.g j hj,h4],h5⟩
    · obtain ⟨h1,h2,rc,ty,h3,cs,sz,e,h4,h5,h6⟩:=Sw.own i c hc (hD i hi)
      refine ⟨hO _ h1,h2,rc,ty,h3,cs.map (shV d),sz,e,?_,by simpa using h5,h6⟩
      simp only [joinH]
      rw [if_neg (by omega),Nat.add_sub_cancel,h4]
      rfl
  · rcases join_adr_inv h1 hd with ⟨hj,h1⟩ | ⟨i,rfl,hj,hi,h1⟩<;>rcases join_adr_inv h2 hd with ⟨hk,h2⟩ | ⟨i',rfl,hk,hi',h2⟩
    · exact S.apart j c k c' h1 h2 hl hjk
    · intro e
      exact hR _ (bl i' c' hi' h2) (.inl ⟨j,c,h1,hl,e⟩)
    · intro e
      by_cases hkl:lo≤k
      · exact hR _ (bl i c hi h1) (.inl ⟨k,c',h2,hkl,e.symm⟩)
      · exact S.new _ (hO _ (bl i c hi h1)) (e▸(S.cells k c' h2).2.1 (by omega))
    · exact Sw.apart i c i' c' h1 h2 (hD i hi) (by rintro rfl;exact hjk rfl)
  · simp only [joinS] at hb
    split at hb
    · rename_i hj
      obtain ⟨h1,hx⟩:=S.maps j b hb
      refine ⟨by omega,fun h2 => ?_⟩
      obtain ⟨h3,h4,h5,es,en,ck,h6,h7,h8,h9⟩:=hx h2
      refine ⟨h3,fun k c hc => ?_,fun k hkl hk => ?_,es,en,ck,by rw [hext.g j hj,h6],h7,h8,fun i k v e a1 a2 => ?_⟩
      · rcases join_adr_inv hc hd with ⟨hk,hc⟩ | ⟨i,rfl,hk,hi,hc⟩
        · exact h4 k c hc
        · rintro rfl
          exact hR _ (bl i c hi hc) (.inr ⟨j,hb,h2⟩)
      · simp only [joinS] at hk
        split at hk
        · exact h5 k hkl hk
        · cases hk
      · obtain ⟨e1,e2,e3⟩:=h9 i k v e a1 a2
        exact ⟨e1,e2.mono hle,e3⟩
    · cases hb
  · have:=C.low i hi
    refine ⟨by simp only [joinH];omega,?_⟩
    simp only [joinH]
    rw [if_neg (by omega),Nat.add_sub_cancel]
theorem join_rng {d:Nat} (S:SimOk N0 lo s O h w) (Sw:SimOk fro low sw Ow hw w) (hd:low+d=h.n) (C:Closed D low hw) {b:Nat} (hb:Rng (joinS h.n d s sw D) lo b):Rng s lo b∨Ow b:=by
  rcases hb with ⟨j,c,hc,hl,rfl⟩ | ⟨j,hb⟩
  · rcases join_adr_inv hc hd with ⟨hj,hc⟩ | ⟨i,rfl,hj,hi,hc⟩
    · exact .inl (.inl ⟨j,c,hc,hl,rfl⟩)
    · exact .inr (Sw.own i c hc (C.low i hi).1).1
  · obtain ⟨hb,hl⟩:=hb
    simp only [joinS] at hb
    split at hb
    · exact .inl (.inr ⟨j,hb,hl⟩)
    · cases hb
end
end Go.Id
namespace Go.Id
open Go.Conc Go.RowKit Go.Conc.Lib Go.ConcR.Gen
open Go.ConcN (WgLive Has)
open Go.ConcR (WgAt wgBlock stA smA Payload DC0)
set_option linter.unusedVariables false
set_option linter.unusedSectionVars false
structure RdOk (Rd:Nat→Nat→Nat→Value→Hp→Prop):Prop where
  move:∀ i p q sl D d lo h h',Closed D lo h→Moved D d h h'→flatIn D sl→Rd i p q sl h→Rd i (p+d) (q+d) (shV d sl) h'
  ext:∀ i p q sl h h',Ext h h'→Rd i p q sl h→Rd i p q sl h'
def LeftBy (fro:Nat→Prop) (low Wg:Nat) (Rd:Nat→Nat→Nat→Value→Hp→Prop) (i:Nat) (v:Value) (O:Nat→Prop) (w:World):Prop :=
  (∀ b,O b→Wg < b)∧∃ sw hw D sl,SimOk fro low sw O hw w∧low≤hw.n∧Closed D low hw∧flatIn D sl∧VR sw (.agg #[.int .i64 i,sl]) v∧Rd i low hw.n sl hw
theorem LeftBy.ok {P:Program} {ty:TypeId} {Wg Ch n low:Nat} {fro:Nat→Prop} {Rd:Nat→Nat→Nat→Value→Hp→Prop}:PhOk ⟨P,ty,Wg,Ch,fro,n,LeftBy fro low Wg Rd⟩ :=
  ⟨fun i v O w w' ⟨h0,sw,hw,D,sl,h1,h2⟩ r=>⟨h0,sw,hw,D,sl,h1.rely r,h2⟩⟩
section
variable {N0 fro:Nat→Prop} {lo low Wg:Nat} {s:Sim} {O:Nat→Prop} {h:Hp} {w:World} {Rd:Nat→Nat→Nat→Value→Hp→Prop} {own:Nat→Nat→Prop} {V:Nat→Value}
theorem join_row {sw sx:Sim} {D:Nat→Prop} {n d i:Nat} (hd:low+d=n) (hD:∀ i,D i→low≤i) {sl v:Value} (hf:flatIn D sl) (hv:VR sw (.agg #[.int .i64 i,sl]) v):VR (joinS n d sx sw D) (.agg #[.int .i64 i,shV d sl]) v:=by
  cases hv with
  | agg x y hs hh h1 =>
    refine .agg _ _ (by simpa using hs) (fun k u u' a b => ?_) h1
    rcases k with _ | _ | k
    · simp at a;subst a
      have:=hh 0 (.int .i64 i) u' (by simp) b
      rw [plain_inv rfl this];exact VR.int _ _
    · simp at a;subst a
      exact VR.join hd hD hf (hh 1 sl u' (by simp) b)
    · simp at a
theorem join_all (K:RdOk Rd) (S:SimOk N0 lo s O h w) (hlow:low≤h.n) (n:Nat) (hO:∀ i,i < n→∀ b,own i b→O b) (hap:∀ i k b,i < n→k < n→own i b→own k b→i=k) (hR:∀ i,i < n→∀ b,own i b→¬ Rng s lo b)
    (hL:∀ i,i < n→LeftBy fro low Wg Rd i (V i) (own i) w):∀ m,m≤n→∃ (s':Sim) (h':Hp) (sl:Nat→Value) (c:Nat→Nat),SimOk N0 lo s' O h' w∧s.le s'∧Ext h h'∧(∀ i,i < m→VR s' (.agg #[.int .i64 i,sl i]) (V i)∧Rd i (c i) (c (i+1)) (sl i) h')∧(c 0=h.n∧(∀ i,i < m→c i≤c (i+1))∧c m=h'.n)∧∀ b,Rng s' lo b→Rng s lo b∨∃ i,i < m∧own i b:=by
  intro m
  induction m with
  | zero=>exact fun _=>⟨s,h,fun _=>undef,fun _=>h.n,S,s.le_refl,Ext.refl h,fun i hi=>by omega,⟨rfl,fun i hi=>by omega,rfl⟩,fun b hb => .inl hb⟩
  | succ m ih =>
    intro hm
    obtain ⟨s',h',sl,c,S',l',e',v',⟨c0,c1,c2⟩,r'⟩:=ih (by omega)
    obtain ⟨_,sw,hw,D,x,Sw,hlh,C,hf,hv,hr⟩:=hL m (by omega)
    have hle:low≤h'.n:=Nat.le_trans hlow e'.n
    have hd:low+(h'.n - low)=h'.n:=by omega
    obtain ⟨j1,j2,j3,j4⟩:=S'.join Sw hd C (hO m (by omega)) (fun b hb hx=>by
      rcases r' b hx with hx | ⟨i,hi,hx⟩
      · exact hR m (by omega) b hb hx
      · have:=hap i m b (by omega) (by omega) hx hb;omega) hlh
    refine ⟨_,_,fun i=>if i=m then shV (h'.n - low) x else sl i,fun i=>if i=m+1 then hw.n+(h'.n - low) else c i,j1,l'.trans j2,e'.trans j3,fun i hi => ?_,⟨?_,fun i hi => ?_,?_⟩,fun b hb => ?_⟩
    · by_cases he:i=m
      · subst he
        simp only [if_true,if_neg (show ¬ i=i+1 by omega)]
        refine ⟨join_row hd (fun i hi=>(C.low i hi).1) hf hv,?_⟩
        have:=K.move _ _ _ _ _ _ _ _ _ C j4 hf hr
        rw [hd] at this
        rw [c2];exact this
      · simp only [if_neg he,if_neg (show ¬ i=m+1 by omega),if_neg (show ¬ i+1=m+1 by omega)]
        obtain ⟨a1,a2⟩:=v' i (by omega)
        exact ⟨a1.mono j2,K.ext _ _ _ _ _ _ j3 a2⟩
    · simp only [if_neg (show ¬ 0=m+1 by omega)];exact c0
    · by_cases he:i=m
      · subst he
        simp only [if_true,if_neg (show ¬ i=i+1 by omega),c2];omega
      · simp only [if_neg (show ¬ i=m+1 by omega),if_neg (show ¬ i+1=m+1 by omega)];exact c1 i (by omega)
    · simp only [if_true];rfl
    · rcases join_rng S' Sw hd C hb with hb | hb
      · rcases r' b hb with hb | ⟨i,hi,hb⟩
        · exact .inl hb
        · exact .inr ⟨i,by omega,hb⟩
      · exact .inr ⟨m,by omega,hb⟩
end
section
variable {P:Program} {b:Frame} {a:Act} {k:List Item} {cs:List Frame} {w:World} {ops:Array Oper} {i:Nat} {rest:List Nat} {o:Oper}
theorem stepG_alloc {main:Bool} {e:TypeId} {ti:TyI} (ho:ops[i]? = some o) (hg:o.guard=none) (hk:b.kind ≠ .early) (hop:o.op = .alloc e) (ht:TyOk P e ti) :
    stepG P main (G (b.at a (.inRegion ops (i::rest)::k)) cs) w = .go (G (b.at (a.put o.dst (.pointer (some ⟨w.heap.size,0,none⟩))) (.inRegion ops rest::k)) cs) { w with heap:=w.heap.push (.cells ti.zero.toArray e (0,0)) } #[]:=by
  have hd:Dz P (fun _=>False) (execOp a.eval o) w fun nx w'=>nx = .value (.pointer (some ⟨w.heap.size,0,none⟩))∧w'={ w with heap:=w.heap.push (.cells ti.zero.toArray e (0,0)) }:=by
    unfold execOp
    rw [hop]
    refine dz_val ?_
    unfold Instr.alloc
    refine Dz.bind (Q:=fun z w'=>z.cells=ti.zero.toArray∧w'=w) (Dz.zeroValue ht fun z hz=>⟨hz,rfl⟩) ?_
    rintro z w' ⟨hz,rfl⟩
    simp only [newVar]
    refine Dz.bind (Q:=fun ad w''=>ad=⟨w'.heap.size,0,none⟩∧w''={ w' with heap:=w'.heap.push (.cells ti.zero.toArray e (0,0)) }) (Dz.newRow (by rw [hz];exact ⟨rfl,rfl⟩)) ?_
    rintro ad w'' ⟨rfl,rfl⟩
    exact Dz.pure ⟨rfl,rfl⟩
  obtain ⟨nx,w',h1,⟨rfl,rfl⟩,h3⟩:=hd
  rw [stepG_value ho (by simp [Region.wanted,hg]) hk h1]
  have h2:listed P b.fn a o w=#[]:=by
    unfold listed
    rw [Array.eq_empty_iff_forall_not_mem.2 fun e he=>h3 #[] (fun e he=>by simp at he) e he,seen_none]
  rw [h2]
theorem stepG_makeChan {main:Bool} {ct e:TypeId} {dir:ChanDir} {ti:TyI} {n:Nat} (ho:ops[i]? = some o) (hg:o.guard=none) (hk:b.kind ≠ .early) (hop:o.op = .makeChan ct (.const (.int .i64 n))) (hu:P.underlying ct=some (.chan dir e)) (ht:TyOk P e ti) (hn:n≤1000) :
    stepG P main (G (b.at a (.inRegion ops (i::rest)::k)) cs) w = .go (G (b.at (a.put o.dst (.chan (some w.heap.size))) (.inRegion ops rest::k)) cs) { w with heap:=w.heap.push (.chan n #[] false 0 0 false) } #[]:=by
  obtain ⟨info,h1,h2,_,h4⟩:=ht.info
  have hb:(info.bytes:Int)*n≤281474976710544:=by
    have:info.bytes*n≤4096*1000:=Nat.mul_le_mul h4 hn
    omega
  have hr:(execOp a.eval o).run P w = .ok (.value (.chan (some w.heap.size))) { w with heap:=w.heap.push (.chan n #[] false 0 0 false) }:=by
    unfold execOp
    rw [hop]
    simp only [Act.eval]
    rw [Sem.run_bind,run_makeChan hu h1 _ n (by omega) hb]
    rfl
  have he:(execOp a.eval o).events P w #[]=#[]:=by
    unfold execOp
    rw [hop]
    simp only [Act.eval]
    rw [Sem.events_bind,events_makeChan hu h1 _ n (by omega) hb,run_makeChan hu h1 _ n (by omega) hb]
    rfl
  rw [stepG_value ho (by simp [Region.wanted,hg]) hk hr]
  have h2:listed P b.fn a o w=#[]:=by unfold listed;rw [he,seen_none]
  rw [h2]
end
variable [Payload] {L:WgLink}
theorem SimOk.behind {N0:Nat→Prop} {lo:Nat} {s:Sim} {O O':Nat→Prop} {h:Hp} {w w':World} (S:SimOk N0 lo s O h w) {Ch:Nat} (hCh:O Ch) (hR:¬ Rng s lo Ch) (hk:∀ b,(N0 b∨O b)→b≠Ch→w'.heap[b]? = w.heap[b]?) (hsz:w.heap.size≤w'.heap.size) (hO:∀ b,O b→O' b)
    (hnow:∀ b,O' b→b < w'.heap.size) (hnew:∀ b,O' b→¬ N0 b):SimOk N0 lo s O' h w':=by
  have ne:∀ i c,s.adr i=some c→c.b≠Ch:=by
    rintro i c hc rfl
    by_cases hl:lo≤i
    · exact hR (.inl ⟨i,c,hc,hl,rfl⟩)
    · exact S.new _ hCh ((S.cells i c hc).2.1 (by omega))
  refine ⟨fun i c hc => ?_,fun i c hc hl => ?_,S.apart,fun i b hb => ?_,hnow,hnew,fun b hb=>Nat.lt_of_lt_of_le (S.base b hb) hsz,S.lohi⟩
  · obtain ⟨h1,h2,cs,sz,h3,ys,h4,h5⟩:=S.cells i c hc
    exact ⟨h1,h2,cs,sz,h3,ys,h4,h5.of_heap (hk _ (S.bl hc) (ne i c hc))⟩
  · obtain ⟨h1,h2,rc,ty,h3,h4⟩:=S.own i c hc hl
    exact ⟨hO _ h1,h2,rc,ty,(hk _ (.inr h1) (ne i c hc)).trans h3,h4⟩
  · obtain ⟨h1,hx⟩:=S.maps i b hb
    refine ⟨h1,fun hl => ?_⟩
    obtain ⟨h3,h4,h5,es,en,ck,h6,h7,h8⟩:=hx hl
    exact ⟨hO _ h3,h4,h5,es,en,ck,h6,(hk _ (.inr h3) (by rintro rfl;exact hR (.inr ⟨i,hb,hl⟩))).trans h7,h8⟩
structure Behind (N0:Nat→Prop) (lo:Nat) (s:Sim) (O:Nat→Prop) (h:Hp) (w:World) (Ch n:Nat) (Rd:Nat→Nat→Nat→Value→Hp→Prop) (s':Sim) (h':Hp) (O':Nat→Prop) (w':World) (sl:Nat→Value) (buf:List Value) (Lp:List Nat) (sn:Nat):Prop where
  le:s.le s'
  ext:Ext h h'
  sim:SimOk N0 lo s' O' h' w'
  og:OG O w O'
  kept:Kept N0 (fun b=>O b∧b≠Ch) w w'
  rng:∀ b,Rng s' lo b→Rng s lo b∨¬ O b
  ch:w'.heap[Ch]? = some (.chan n buf.toArray false sn 0 false)
  len:Lp.length=n∧buf.length=n
  perm:Lp.Nodup∧∀ i,i∈Lp↔i < n
  row:∀ (p i:Nat) (v:Value),Lp[p]? = some i→buf[p]? = some v→VR s' (.agg #[.int .i64 i,sl i]) v
  rd:∃ c:Nat→Nat,c 0=h.n∧(∀ i,i < n→c i≤c (i+1))∧c n=h'.n∧∀ i,i < n→Rd i (c i) (c (i+1)) (sl i) h'
theorem phase_R {P:Program} (H:WgLib P L) {N0:Nat→Prop} {lo:Nat} {f:FuncId} {fn:Func} {Stop:(Nat→Prop)→Goroutine→World→Prop} {b:Frame} {cs:List Frame} (hbf:b.fn=f) (hbk:b.kind ≠ .early) {ops:Array Oper} {j:Nat} {rest:List Nat} {k1:List Item} {o:Oper} {d:Nat}
    (ho:ops[j]? = some o) (hg:o.guard=none) (hop:o.op = .alloc L.tWg) (hdst:o.dst=some d) (hdl:d < fn.ntmps) {ti:TyI} (ht:TyOk P L.tWg ti) (htz:ti.zero=[.int .u64 0,.int .u32 0]) {Rd:Nat→Nat→Nat→Value→Hp→Prop} (K:RdOk Rd) {t t1 tE:Tm} {kE:List Item} {h:Hp}
    {s:Sim} {O Pr:Nat→Prop} {lb:Nat→Nat} {ls:Lv} {w:World} {a:Act} (M:Mem N0 lo s O Pr lb ls h w) (tm:TmOk s lb ls.length t a.tmps) (hd:a.defers=[]) (hsz:a.tmps.size=fn.ntmps) {Ch sn r:Nat} (hCh:O Ch) (hChan:w.heap[Ch]? = some (.chan (r+1) #[] false sn 0 false)) (hChR:¬ Rng s lo Ch)
    (hr:r+1 < 2147483648) (hCar:Carry (fun i=>i < h.n∧s.adr i≠none) t t1)
    (HSp:∀ (Wg:Nat) (fro:Nat→Prop),R (treeCtx P true fro) h.n f fn (.mid [] (SpFrom ⟨P,L.tWg,Wg,Ch,fro,r+1,LeftBy fro h.n Wg Rd⟩ L h.n s h f fn tE kE (r+1))) (.inRegion ops rest::k1) ((d,.r (.pointer (some ⟨Wg,0,none⟩)))::t1) [] h)
    (hEnd:∀ w₀,Rly N0 O w w₀→∀ s' h' O' w' sl buf Lp sn' a',Behind N0 lo s O h w₀ Ch (r+1) Rd s' h' O' w' sl buf Lp sn'→a'.defers=[]→a'.tmps.size=fn.ntmps→TmOk s' (fun _=>0) 0 tE a'.tmps→JM P N0 Stop O' (G (b.at a' kE) cs) w') :
    JM P N0 Stop O (G (b.at a (.inRegion ops (j::rest)::k1)) cs) w:=by
  refine phase_JM (r:=r) rfl fun w₁ r₁ => ?_
  have M₁:=M.rely r₁
  have hlt:Ch < w₁.heap.size:=M₁.sim.now _ hCh
  have hch₁:w₁.heap[Ch]? = some (.chan (r+1) #[] false sn 0 false):=(r₁.2.1 Ch (M.sim.now _ hCh) (.inr hCh)).trans hChan
  obtain ⟨w₂,hw₂⟩:∃ w₂:World,w₂={ w₁ with heap:=w₁.heap.push (.cells ti.zero.toArray L.tWg (0,0)) }:=⟨_,rfl⟩
  have hsz₂:w₂.heap.size=w₁.heap.size+1:=by rw [hw₂];simp
  have hold:∀ b,b < w₁.heap.size→w₂.heap[b]? = w₁.heap[b]? := fun b hb=>by rw [hw₂];simp [Array.getElem?_push,show b≠w₁.heap.size by omega]
  have hst:=stepG_alloc (P:=P) (main:=true) (b:=b) (a:=a) (k:=k1) (cs:=cs) (w:=w₁) (rest:=rest) ho hg hbk hop ht
  rw [← hw₂,hdst] at hst
  obtain ⟨fro,hfro⟩:∃ fro:Nat→Prop,fro=fun b=>(N0 b∨O b)∧b≠Ch:=⟨_,rfl⟩
  have hfl:∀ b,fro b→b < w₁.heap.size:=fun b hb=>by rw [hfro] at hb;exact hb.1.elim (M₁.sim.base b) (M₁.sim.now b)
  obtain ⟨Y,hY⟩:∃ Y:Ph,Y=⟨P,L.tWg,w₁.heap.size,Ch,fro,r+1,LeftBy fro h.n w₁.heap.size Rd⟩:=⟨_,rfl⟩
  have B0:SimOk fro h.n s (fun _=>False) h w₂:=by
    refine ⟨fun i c hc => ?_,fun i c hc hl => ?_,fun i c i' c' h1 h2 hl => ?_,fun i b hb=>⟨(M₁.sim.maps i b hb).1,fun hl=>absurd (M₁.sim.maps i b hb).1 (by omega)⟩,fun _ hb=>hb.elim,fun _ hb=>hb.elim,fun b hb=>by have:=hfl b hb;omega,Nat.le_refl _⟩
    · obtain ⟨h1,h2,cs,sz,h3,ys,h4,h5⟩:=M₁.sim.cells i c hc
      have hne:c.b≠Ch:=by
        rintro rfl
        by_cases hl:lo≤i
        · exact hChR (.inl ⟨i,c,hc,hl,rfl⟩)
        · exact M₁.sim.new _ hCh (h2 (by omega))
      have hbl:=M₁.sim.bl hc
      exact ⟨h1,fun _=>by rw [hfro];exact ⟨hbl,hne⟩,cs,sz,h3,ys,h4,h5.of_heap (hold _ (hbl.elim (M₁.sim.base _) (M₁.sim.now _)))⟩
    · exact absurd (M₁.sim.cells i c hc).1 (by omega)
    · exact absurd (M₁.sim.cells i c h1).1 (by omega)
  have hWf:¬ fro w₁.heap.size:=fun h=>by have:=hfl _ h;omega
  have T0:TmOk s (fun _=>0) 0 ((d,.r (.pointer (some ⟨w₁.heap.size,0,none⟩)))::t1) (a.put (some d) (.pointer (some ⟨w₁.heap.size,0,none⟩))).tmps:=by
    have h1:TmOk s (fun _=>0) 0 t1 a.tmps:=by
      intro i x hx
      obtain ⟨e1,e2⟩:=hCar i x hx
      obtain ⟨vr,e3,e4⟩:=tm i x e1
      refine ⟨vr,e3,?_⟩
      cases x with
      | v v=>exact e4
      | b q=>exact e4
      | r v=>exact e4
      | l a b=>exact e2.elim
      | c a b=>exact e2.elim
    exact h1.put (d:=some d) (x := .r _) (by rintro _ ⟨⟩;omega) rfl
  have hwg:WgAt L.tWg w₁.heap.size w₂ 0 0:=by
    unfold WgAt wgBlock
    rw [hw₂,htz]
    simp
  refine ⟨_,w₂,#[],Y,hst,⟨by omega,fun b hb _=>hold b hb,by rw [hw₂],by rw [hw₂],fun e he=>by simp at he⟩,by omega,?_⟩
  have hSt:=starts_ok (Y:=Y) (L:=L) (lo:=h.n) (s0:=s) (h0:=h) (f:=f) (fn:=fn) (tE:=tE) (kE:=kE) (b:=b) (cs:=cs) (w0:=w₂) (by rw [hY];exact H) (by rw [hY]) (by rw [hY];exact LeftBy.ok) (by rw [hY];exact hWf) hbf hbk (by rw [hY];exact B0) (by rw [hY];simp only;omega) rfl
    (r+1) s (fun _=>False) (fun _=>False) w₂ s.le_refl (Kept.refl _ _ _) (fun _ h=>h.elim)
  have hR:=HSp w₁.heap.size fro
  rw [← hY] at hR
  have hrun:=hR s (fun _=>False) (fun _=>False) (fun _=>0) w₂ b (a.put (some d) (.pointer (some ⟨w₁.heap.size,0,none⟩))) cs _ hbf hbk (by rw [put_defers];exact hd) (by rw [put_size];exact hsz) ⟨B0,⟨fun j cs hj=>by simp at hj,fun j j' hj=>by simp at hj⟩,fun _ hb=>hb.elim⟩ T0 (by rw [hY] at hSt ⊢;exact hSt)
  obtain ⟨ρ,hρ⟩:=hrun
  refine ⟨by rw [hY],by rw [hY],by rw [hY],by rw [hY];exact hr,by rw [hY];exact LeftBy.ok,fun b=>by rw [hY,hfro],by rw [hY];exact hCh,⟨sn,by rw [hY];exact (hold Ch hlt).trans hch₁⟩,by rw [hY];exact hwg,StEnd Y h.n s h f fn tE kE b cs w₂,ρ,?_,?_⟩
  · have hS:∀ (Z:Ph) (Fin:(Nat→Prop)→Goroutine→World→Prop),Z.n=r+1→Starts Z Fin (r+1)=AtAdd Z 0 (Starts Z Fin r):=fun Z Fin hz=>by
      funext O g w
      simp only [Starts,hz,Nat.sub_self]
    have hρ':=hρ
    rw [hS _ _ rfl] at hρ'
    rw [hY]
    exact hρ'
  intro D O0 g' w' hFin hE
  obtain ⟨f1,f2,f3,f4,f5,a',f6,f7,f8,m,f9⟩:=hFin
  rw [hY] at f9
  refine JM.goes m g' w' f9 fun w₃ r₃ => ?_
  obtain ⟨O',hO'⟩:∃ O':Nat→Prop,O'=fun b=>O b∨O0 b∨∃ i,i < Y.n∧(D i).own b:=⟨_,rfl⟩
  rw [← hO'] at r₃ ⊢
  have hOO:∀ b,O b→O' b:=fun b hb=>by rw [hO'];exact .inl hb
  have hnow:∀ b,O' b→b < w'.heap.size:=fun b hb=>by
    rw [hO'] at hb
    rcases hb with hb | hb | ⟨i,hi,hb⟩
    · have:=M₁.sim.now b hb;omega
    · exact (hE.own0 b hb).1
    · exact (hE.own i hi b hb).1
  have hYf:Y.fro=fro:=by rw [hY]
  have hYc:Y.Ch=Ch:=by rw [hY]
  have hYn:Y.n=r+1:=by rw [hY]
  have hYw:Y.Wg=w₁.heap.size:=by rw [hY]
  have hnfro:∀ b,¬ fro b→b≠Ch→¬ (N0 b∨O b):=fun b h1 h2 h3=>h1 (by rw [hfro];exact ⟨h3,h2⟩)
  have hnew:∀ b,O' b→¬ N0 b:=fun b hb h0=>by
    rw [hO'] at hb
    rcases hb with hb | hb | ⟨i,hi,hb⟩
    · exact M₁.sim.new b hb h0
    · obtain ⟨_,e1,e2,_⟩:=hE.own0 b hb
      rw [hYf] at e1;rw [hYc] at e2
      exact hnfro b e1 e2 (.inl h0)
    · obtain ⟨_,e1,e2,_⟩:=hE.own i hi b hb
      rw [hYf] at e1;rw [hYc] at e2
      exact hnfro b e1 e2 (.inl h0)
  have hkeep:∀ b,(N0 b∨O b)→b≠Ch→w₃.heap[b]? = w₁.heap[b]? := fun b hb hc=>by
    have hfb:Y.fro b:=by rw [hYf,hfro];exact ⟨hb,hc⟩
    have hlb:=hb.elim (M₁.sim.base b) (M₁.sim.now b)
    exact (r₃.2.1 b (by omega) (hb.imp id (hOO b))).trans ((f2 b hfb).trans (hold b hlb))
  have hsz3:w₁.heap.size≤w₃.heap.size:=by have:=r₃.1;omega
  have S3:SimOk N0 lo s O' h w₃:=M₁.sim.behind hCh hChR hkeep hsz3 hOO (fun b hb=>Nat.lt_of_lt_of_le (hnow b hb) r₃.1) hnew
  obtain ⟨buf,s1,Lp,c1,c2,c3,c4,c5⟩:=hE.chan
  rw [hYc,hYn] at c1
  have c4':∀ i,i∈Lp↔i < r+1:=fun i=>by rw [c4 i,hYn];exact ⟨fun h=>h.1,fun h=>⟨h,by rw [hE.all i (by omega)];omega⟩⟩
  have hlen:Lp.length=r+1:=by
    have h1:Lp.Perm (List.range (r+1)):=(List.perm_ext_iff_of_nodup c3 List.nodup_range).2 fun i=>by rw [c4' i];simp
    simpa using h1.length_eq
  have hV:∀ i:Nat,∃ v:Value,∀ (p:Nat) (v':Value),Lp[p]? = some i→buf[p]? = some v'→v'=v:=by
    intro i
    by_cases hi:i∈Lp
    · obtain ⟨p,hp⟩:=List.mem_iff_getElem?.1 hi
      have hpl:p < buf.size:=by rw [← c2];exact (List.getElem?_eq_some_iff.1 hp).1
      refine ⟨buf[p],fun p' v' h1 h2 => ?_⟩
      have hp1:=(List.getElem?_eq_some_iff.1 hp)
      have hp2:=(List.getElem?_eq_some_iff.1 h1)
      have:p'=p:=by
        rcases Nat.lt_trichotomy p' p with hlt | heq | hlt
        · exact absurd (hp2.2.trans hp1.2.symm) (List.pairwise_iff_getElem.1 c3 p' p hp2.1 hp1.1 hlt)
        · exact heq
        · exact absurd (hp1.2.trans hp2.2.symm) (List.pairwise_iff_getElem.1 c3 p p' hp1.1 hp2.1 hlt)
      subst this
      rw [Array.getElem?_eq_getElem hpl] at h2
      exact (Option.some.inj h2).symm
    · exact ⟨undef,fun p v' h1 _=>absurd (List.mem_of_getElem? h1) hi⟩
  obtain ⟨V,hV⟩:=Classical.axiomOfChoice hV
  have hown:∀ i,i < r+1→∀ b,(D i).own b→O' b:=fun i hi b hb=>by rw [hO'];exact .inr (.inr ⟨i,by omega,hb⟩)
  have hLf:∀ i,i < r+1→LeftBy fro h.n w₁.heap.size Rd i (V i) (D i).own w₃:=by
    intro i hi
    obtain ⟨p,hp⟩:=List.mem_iff_getElem?.1 ((c4' i).2 hi)
    have hpl:p < buf.size:=by rw [← c2];exact (List.getElem?_eq_some_iff.1 hp).1
    have h5:=c5 p i buf[p] hp (Array.getElem?_eq_getElem hpl)
    rw [hV i p buf[p] hp (Array.getElem?_eq_getElem hpl)] at h5
    have hYr:Y.Res=LeftBy fro h.n w₁.heap.size Rd:=by rw [hY]
    rw [hYr] at h5
    have hrl:Rly fro (D i).own w' w₃:=⟨r₃.1,fun b hb hc=>r₃.2.1 b hb (hc.elim (fun hc=>by rw [hfro] at hc;exact hc.1.imp id (hOO b)) fun hc => .inr (hown i hi b hc)),r₃.2.2.1,r₃.2.2.2⟩
    exact (LeftBy.ok (P:=P) (ty:=L.tWg) (Wg:=w₁.heap.size) (Ch:=Ch) (n:=r+1)).res i (V i) (D i).own w' w₃ h5 hrl
  have hrng:∀ b,Rng s lo b→fro b:=by
    intro b hb
    have hob:O b:=by
      rcases hb with ⟨i,c,hc,hl,rfl⟩ | ⟨i,hb,hl⟩
      · exact (M₁.sim.own i c hc hl).1
      · exact ((M₁.sim.maps i b hb).2 hl).1
    rw [hfro]
    exact ⟨.inr hob,by rintro rfl;exact hChR hb⟩
  obtain ⟨s',h',sl,cc,j1,j2,j3,j4,⟨jc0,jc1,jc2⟩,j5⟩:=join_all K S3 (Nat.le_refl _) (r+1) hown (fun i k b hi hk h1 h2=>(hE.own i (by omega) b h1).2.2.2.2 k (by omega) h2 |>.symm) (fun i hi b hb hx=>by
    have:=(hE.own i (by omega) b hb).2.1
    rw [hYf] at this
    exact this (hrng b hx)) hLf (r+1) (Nat.le_refl _)
  have hch3:w₃.heap[Ch]? = some (.chan (r+1) buf false s1 0 false):=(r₃.2.1 Ch (hnow Ch (hOO Ch hCh)) (.inr (hOO Ch hCh))).trans c1
  refine hEnd w₁ r₁ s' h' O' w₃ sl buf.toList Lp s1 a' ⟨j2,j3,j1,⟨hOO,fun b hb => ?_⟩,⟨fun b hb=>hkeep b (.inr hb.1) hb.2,fun b hb=>hkeep b (.inl hb) (by rintro rfl;exact M₁.sim.new _ hCh hb),hsz3,?_,?_⟩,fun b hb => ?_,by simpa using hch3,⟨hlen,by simpa [← c2] using hlen⟩,⟨c3,c4'⟩,fun p i v h1 h2 => ?_,⟨cc,jc0,jc1,jc2,fun i hi=>(j4 i hi).2⟩⟩ f6 f7 ?_
  · rw [hO'] at hb
    rcases hb with hb | hb | ⟨i,hi,hb⟩
    · exact .inl hb
    · have:=(f1 b hb).2.2;omega
    · have:=(hLf i (by omega)).1 b hb;omega
  · exact r₃.2.2.1.trans (f4.trans (by rw [hw₂]))
  · exact r₃.2.2.2.trans (f5.trans (by rw [hw₂]))
  · rcases j5 b hb with hb | ⟨i,hi,hb⟩
    · exact .inl hb
    · obtain ⟨_,e1,e2,_⟩:=hE.own i (by omega) b hb
      rw [hYf] at e1;rw [hYc] at e2
      exact .inr fun h=>hnfro b e1 e2 (.inr h)
  · have hi:i < r+1:=(c4' i).1 (List.mem_of_getElem? h1)
    have:=(j4 i hi).1
    rw [hV i p v h1 (by simpa using h2)]
    exact this
  · exact f8.mono j2 (Nat.le_refl _) fun _ _=>rfl
end Go.Id
namespace Go.Id
open Go.Conc
set_option linter.unusedVariables false
set_option linter.unusedSectionVars false
variable [Go.ConcR.Payload]
section
variable {P:Program} {N0:Nat→Prop} {lo:Nat} {s:Sim} {O Pr Pr':Nat→Prop} {lb:Nat→Nat} {ls:Lv} {h:Hp} {w:World}
theorem Mem.less (M:Mem N0 lo s O Pr lb ls h w) (hp:∀ b,Pr' b→Pr b):Mem N0 lo s O Pr' lb ls h w :=
  ⟨M.sim,⟨fun j cs hj=>let ⟨a1,a2,a3,a4⟩:=M.loc.cell j cs hj;⟨a1,a2,fun hx=>a3 (hp _ hx),a4⟩,M.loc.inj⟩,fun b hb=>M.pr b (hp b hb)⟩
theorem Mem.chan {Ch:Nat} (M:Mem N0 lo s O Pr lb ls h w) (hC:Pr Ch) {w':World} (hk:∀ b,b≠Ch→w'.heap[b]? = w.heap[b]?) (hsz:w'.heap.size=w.heap.size):Mem N0 lo s O Pr lb ls h w':=by
  refine ⟨M.sim.behind (M.pr Ch hC).1 (M.pr Ch hC).2 (fun b _ hb=>hk b hb) (by omega) (fun _ h=>h) (fun b hb=>by have:=M.sim.now b hb;omega) M.sim.new,⟨fun j cs hj => ?_,M.loc.inj⟩,M.pr⟩
  obtain ⟨a1,a2,a3,rc,ty,a4,a5⟩:=M.loc.cell j cs hj
  exact ⟨a1,a2,a3,rc,ty,(hk _ (by intro e;rw [e] at a3;exact a3 hC)).trans a4,a5⟩
end
section
variable (P:Program) (N0:Nat→Prop) (lo:Nat) (f:FuncId) (fn:Func) (E:En) (Ch cap:Nat)
def RC (ib:List Value) (cl:Bool) (k:List Item) (t:Tm) (ls:Lv) (h:Hp):Prop :=
  ∀ s (O Pr:Nat→Prop) lb w (b:Frame) (a:Act) cs Stop (buf:List Value) (sn rn:Nat),b.fn=f→b.kind ≠ .early→a.defers=E.ds→a.tmps.size=fn.ntmps→Mem N0 lo s O (fun b=>Pr b∨b=Ch) lb ls h w→¬ Pr Ch →
    TmOk s lb ls.length t a.tmps→w.heap[Ch]? = some (.chan cap buf.toArray cl sn rn false)→VRs s ib buf→(cl=false→rn=0)→Aft (mainCtx P N0) lo fn E s O Pr w b cs Stop→JM P N0 Stop O (G (b.at a k) cs) w
end
section
variable {P:Program} {N0:Nat→Prop} {lo:Nat} {f:FuncId} {fn:Func} {E:En} {Ch cap:Nat} {ib:List Value} {cl:Bool} {k:List Item} {t:Tm} {ls:Lv} {h:Hp} {ops:Array Oper} {i:Nat} {rest:List Nat} {o:Oper}
theorem RC.seg {K:List Item→Tm→Lv→Hp→Prop} (hE:E.ds=[]) (H:R (mainCtx P N0) lo f fn (.mid [] K) k t ls h) (hK:∀ k' t' ls' h',K k' t' ls' h'→RC P N0 lo f fn E Ch cap ib cl k' t' ls' h'):RC P N0 lo f fn E Ch cap ib cl k t ls h:=by
  intro s O Pr lb w b a cs Stop buf sn rn h1 h2 h3 h4 M hn tm hc hv hz A
  refine H s O (fun b=>Pr b∨b=Ch) lb w b a cs Stop h1 h2 (h3.trans hE) h4 M tm ?_
  intro k' t' ls' h' s' O' lb' w' a' hk hle M' tm' hd hsz hO hkept
  exact hK k' t' ls' h' hk s' O' Pr lb' w' b a' cs Stop buf sn rn h1 h2 (hd.trans hE.symm) hsz M' hn tm' ((hkept.pr Ch (.inr rfl)).trans hc) ⟨hv.1,fun i v w a b=>(hv.2 i v w a b).mono hle⟩ hz (A.from hle hO (hkept.less fun _ => .inl))
theorem RC.trim {t':Tm} {ls':Lv} (ht:keeps t' t) (hi:tmIn t' ls'.length=true) (hp:pre ls' ls) (H:RC P N0 lo f fn E Ch cap ib cl k t' ls' h):RC P N0 lo f fn E Ch cap ib cl k t ls h:=by
  intro s O Pr lb w b a cs Stop buf sn rn h1 h2 h3 h4 M hn tm hc hv hz A
  have hg:=pre_get hp
  have hlen:ls'.length≤ls.length:=by
    rcases Nat.lt_or_ge ls.length ls'.length with hlt | hge
    · have:=hg ls.length _ (List.getElem?_eq_getElem hlt)
      simp at this
    · exact hge
  refine H s O Pr lb w b a cs Stop buf sn rn h1 h2 h3 h4 ⟨M.sim,⟨fun j cs hj=>M.loc.cell j cs (hg j cs hj),fun i j h1 h2=>M.loc.inj i j (by omega) (by omega)⟩,M.pr⟩ hn (fun i x hx => ?_) hc hv hz A
  obtain ⟨vr,e1,e2⟩:=tm i x (keeps_sub ht i x hx)
  refine ⟨vr,e1,?_⟩
  cases x with
  | l j off=>exact ⟨tmIn_ok hi i j off hx,e2.2⟩
  | _=>exact e2
theorem R_makeChan {ct e:TypeId} {dir:ChanDir} {ti:TyI} {n:Nat} (ho:ops[i]? = some o) (hg:o.guard=none) (hop:o.op = .makeChan ct (.const (.int .i64 n))) (hu:P.underlying ct=some (.chan dir e)) (ht:TyOk P e ti) (hn:n≤1000) (hd:dstOk fn.ntmps o.dst=true)
    (H:∀ Ch,RC P N0 lo f fn E Ch n [] false (.inRegion ops rest::k) (t.put o.dst (.v (.chan (some Ch)))) ls h):R (mainCtx P N0) lo f fn E (.inRegion ops (i::rest)::k) t ls h:=by
  intro s O Pr lb w b a cs Stop h1 h2 h3 h4 M tm A
  refine JM.step rfl fun w₁ r => ?_
  have M₁:=M.rely r
  obtain ⟨w₂,hw₂⟩:∃ w₂:World,w₂={ w₁ with heap:=w₁.heap.push (.chan n #[] false 0 0 false) }:=⟨_,rfl⟩
  have hst:=stepG_makeChan (P:=P) (main:=true) (b:=b) (a:=a) (k:=k) (cs:=cs) (w:=w₁) (rest:=rest) ho hg h2 hop hu ht hn
  rw [← hw₂] at hst
  have hsz:w₂.heap.size=w₁.heap.size+1:=by rw [hw₂];simp
  have hold:∀ b,b < w₁.heap.size→w₂.heap[b]? = w₁.heap[b]? := fun b hb=>by rw [hw₂];simp [Array.getElem?_push,show b≠w₁.heap.size by omega]
  have hKp:Kept N0 Pr w₁ w₂:=⟨fun b hb=>hold b (M₁.sim.now b (M₁.pr b hb).1),fun b hb=>hold b (M₁.sim.base b hb),by omega,by rw [hw₂],by rw [hw₂]⟩
  refine ⟨_,w₂,#[],hst,⟨by omega,fun b hb _=>hold b hb,by rw [hw₂],by rw [hw₂],fun e he=>by simp at he⟩,?_⟩
  have hrl:Rly N0 O w₁ w₂:=⟨by omega,fun b hb _=>hold b hb,by rw [hw₂],by rw [hw₂]⟩
  have M₂:=M₁.rely hrl
  have hgr:∀ b,grow O w₁ w₂ b→O b∨b=w₁.heap.size:=fun b hb=>hb.elim .inl fun x => .inr (by omega)
  have hrng:¬ Rng s lo w₁.heap.size:=by
    rintro (⟨i,c,hc,hl,he⟩ | ⟨i,hb,hl⟩)
    · have:=M₁.sim.now _ (M₁.sim.own i c hc hl).1;omega
    · have:=M₁.sim.now _ ((M₁.sim.maps i _ hb).2 hl).1;omega
  have S₂:SimOk N0 lo s (grow O w₁ w₂) h w₂:=by
    refine ⟨M₂.sim.cells,fun i c hc hl => ?_,M₂.sim.apart,fun i b hb => ?_,fun b hb => ?_,fun b hb => ?_,M₂.sim.base,M₂.sim.lohi⟩
    · obtain ⟨x,y⟩:=M₂.sim.own i c hc hl;exact ⟨.inl x,y⟩
    · obtain ⟨x,y⟩:=M₂.sim.maps i b hb
      exact ⟨x,fun hl=>let ⟨z,y⟩:=y hl;⟨.inl z,y⟩⟩
    · rcases hgr b hb with hb | rfl
      · exact M₂.sim.now b hb
      · omega
    · rcases hgr b hb with hb | rfl
      · exact M₂.sim.new b hb
      · exact fun h=>by have:=M₁.sim.base _ h;omega
  have hlt:∀ j cs,ls[j]? = some cs→lb j < w₁.heap.size:=fun j cs hj=>M₁.sim.now _ (M₁.loc.cell j cs hj).1
  refine H w₁.heap.size s (grow O w₁ w₂) Pr lb w₂ b (a.put o.dst (.chan (some w₁.heap.size))) cs Stop [] 0 0 h1 h2 (by rw [put_defers];exact h3) (by rw [put_size];exact h4) ⟨S₂,⟨fun j cs hj => ?_,M₂.loc.inj⟩,fun b hb => ?_⟩ ?_ ?_ ?_ (VRs.nil s) (fun _=>rfl) ?_
  · obtain ⟨a1,a2,a3,a4⟩:=M₂.loc.cell j cs hj
    exact ⟨.inl a1,a2,fun hx=>hx.elim a3 fun e=>by have:=hlt j cs hj;omega,a4⟩
  · rcases hb with hb | rfl
    · exact ⟨.inl (M₁.pr b hb).1,(M₁.pr b hb).2⟩
    · exact ⟨.inr ⟨Nat.le_refl _,by omega⟩,hrng⟩
  · intro h;have:=M₁.sim.now _ (M₁.pr _ h).1;omega
  · exact tm.put (by rw [h4];exact dstOk_lt hd) (VR.chan _)
  · rw [hw₂];simp
  · exact A.from s.le_refl (OG.grow r.1) ((kept_rly M r).trans hKp)
theorem chan_set {w:World} {c cap' s' r':Nat} {buf':Array Value} {q' tm':Bool} (hlt:c < w.heap.size):(w.setChan c cap' buf' q' s' r' tm').heap[c]? = some (.chan cap' buf' q' s' r' tm')∧(w.setChan c cap' buf' q' s' r' tm').heap.size=w.heap.size∧∀ b,b≠c→(w.setChan c cap' buf' q' s' r' tm').heap[b]? = w.heap[b]? := by
  refine ⟨?_,by simp [World.setChan],fun b hb => ?_⟩
  · simp [World.setChan,Array.getElem?_setIfInBounds_self_of_lt hlt]
  · simp only [World.setChan]
    rw [Array.getElem?_setIfInBounds_ne (Ne.symm hb)]
theorem ch_eval {s:Sim} {lb:Nat→Nat} {a:Act} {x:Operand} {c:Nat} (tm:TmOk s lb ls.length t a.tmps) (hx:ev t x=some (.chan (some c))):a.eval x = .chan (some c):=by
  have:=ev_ok tm hx
  generalize a.eval x=z at this
  cases this;rfl
theorem RC.close {x:Operand} {ats:Array TypeId} (ho:ops[i]? = some o) (hg:o.guard=none) (hop:o.op = .call { callee := .builtin .close,args:=#[x],argTypes:=ats }) (hx:ev t x=some (.chan (some Ch))) (hd:dstOk fn.ntmps o.dst=true) (hq:(P.funcs[f]?).any (·.norace)=false)
    (H:RC P N0 lo f fn E Ch cap ib true (.inRegion ops rest::k) (t.put o.dst (.v (.tuple #[]))) ls h):RC P N0 lo f fn E Ch cap ib false (.inRegion ops (i::rest)::k) t ls h:=by
  intro s O Pr lb w b a cs Stop buf sn rn h1 h2 h3 h4 M hn tm hc hv hz A
  have hO:=(M.pr Ch (.inr rfl)).1
  refine JM.close (w:=w) ho hg h2 hop (ch_eval tm hx) hO hc (M.sim.now _ hO) (by rw [h1];exact hq) fun w₁ r => ?_
  have M₁:=M.rely r
  obtain ⟨c1,c2,c3⟩:=chan_set (cap':=cap) (buf':=buf.toArray) (q':=true) (s':=sn) (r':=rn) (tm':=false) (M₁.sim.now _ hO)
  refine H s O Pr lb _ b _ cs Stop buf sn rn h1 h2 (by rw [put_defers];exact h3) (by rw [put_size];exact h4) (M₁.chan (.inr rfl) c3 c2) hn (tm.put (by rw [h4];exact dstOk_lt hd) (VR.plain s rfl)) c1 hv (fun e=>by cases e) ?_
  refine A.from s.le_refl (OG.refl O w) ((kept_rly (M.less fun _ => .inl) r).trans ⟨fun b hb=>c3 b (by rintro rfl;exact hn hb),fun b hb=>c3 b (by rintro rfl;exact M₁.sim.new _ hO hb),by omega,rfl,rfl⟩)
theorem RC.recv {x:Operand} {ct e:TypeId} {dir:ChanDir} {ti:TyI} {v:Value} (ho:ops[i]? = some o) (hg:o.guard=none) (hop:o.op = .recv ct x true) (hu:P.underlying ct=some (.chan dir e)) (ht:TyOk P e ti) (hx:ev t x=some (.chan (some Ch))) (hd:dstOk fn.ntmps o.dst=true)
    (H:RC P N0 lo f fn E Ch cap ib true (.inRegion ops rest::k) (t.put o.dst (.v (.tuple #[v,.bool true]))) ls h):RC P N0 lo f fn E Ch cap (v::ib) true (.inRegion ops (i::rest)::k) t ls h:=by
  intro s O Pr lb w b a cs Stop buf sn rn h1 h2 h3 h4 M hn tm hc hv hz A
  have hO:=(M.pr Ch (.inr rfl)).1
  obtain ⟨vr,buf',rfl⟩:∃ vr buf',buf=vr::buf':=by
    cases buf with
    | nil=>have:=hv.1;simp at this
    | cons a l=>exact ⟨a,l,rfl⟩
  have hv0:VR s v vr:=hv.2 0 v vr rfl rfl
  have hv':VRs s ib buf':=⟨by simpa using hv.1,fun i v w a b=>hv.2 (i+1) v w (by simpa using a) (by simpa using b)⟩
  refine JM.recv (w:=w) ho hg h2 hop hu ht (ch_eval tm hx) hO hc (M.sim.now _ hO) fun w₁ r => ?_
  have M₁:=M.rely r
  obtain ⟨c1,c2,c3⟩:=chan_set (cap':=cap) (buf':=buf'.toArray) (q':=true) (s':=sn) (r':=rn+1) (tm':=false) (M₁.sim.now _ hO)
  refine H s O Pr lb _ b _ cs Stop buf' sn (rn+1) h1 h2 (by rw [put_defers];exact h3) (by rw [put_size];exact h4) (M₁.chan (.inr rfl) c3 c2) hn (tm.put (by rw [h4];exact dstOk_lt hd) ?_) c1 hv' (fun e=>by cases e) ?_
  · refine .tup _ _ rfl fun j x y hx hy => ?_
    rcases j with _ | _ | j
    · simp at hx hy;subst hx;subst hy;exact hv0
    · simp at hx hy;subst hx;subst hy;exact .bool _
    · simp at hx
  refine A.from s.le_refl (OG.refl O w) ((kept_rly (M.less fun _ => .inl) r).trans ⟨fun b hb=>c3 b (by rintro rfl;exact hn hb),fun b hb=>c3 b (by rintro rfl;exact M₁.sim.new _ hO hb),by omega,rfl,rfl⟩)
theorem RC.recvEnd {x:Operand} {ct e:TypeId} {dir:ChanDir} {ti:TyI} (ho:ops[i]? = some o) (hg:o.guard=none) (hop:o.op = .recv ct x true) (hu:P.underlying ct=some (.chan dir e)) (ht:TyOk P e ti) (hx:ev t x=some (.chan (some Ch))) (hd:dstOk fn.ntmps o.dst=true)
    (H:∀ z,R (mainCtx P N0) lo f fn E (.inRegion ops rest::k) (t.put o.dst (.v (.tuple #[z,.bool false]))) ls h):RC P N0 lo f fn E Ch cap [] true (.inRegion ops (i::rest)::k) t ls h:=by
  intro s O Pr lb w b a cs Stop buf sn rn h1 h2 h3 h4 M hn tm hc hv hz A
  have hO:=(M.pr Ch (.inr rfl)).1
  obtain rfl:buf=[]:=by
    cases buf with
    | nil=>rfl
    | cons a l=>have:=hv.1;simp at this
  refine JM.recvEnd (w:=w) ho hg h2 hop hu ht (ch_eval tm hx) hO hc (M.sim.now _ hO) fun z w₁ hzz r => ?_
  have hvz:VR s z z:=by
    cases z with
    | agg a =>
      refine .agg _ _ rfl (fun j x y hx hy => ?_) fun y hy => ?_
      · rw [hx] at hy;cases hy
        have:x∈ti.zero:=by
          have h5:x∈a:=Array.mem_of_getElem? hx
          have h6:a=ti.zero.toArray:=hzz
          rw [h6] at h5;simpa using h5
        exact VR.plain s (ht.plain x this).1
      · have h6:a=ti.zero.toArray:=hzz
        rw [h6] at hy
        exact (ht.plain y (by simpa using hy)).2
    | _ =>
      refine VR.plain s (ht.plain _ ?_).1
      have h6:=congrArg Array.toList hzz
      simp only [Value.cells] at h6
      rw [← h6];simp
  refine H z s O Pr lb _ b _ cs Stop h1 h2 (by rw [put_defers];exact h3) (by rw [put_size];exact h4) ((M.rely r).less fun _ => .inl) (tm.put (by rw [h4];exact dstOk_lt hd) ?_) (A.from s.le_refl (OG.refl O w) (kept_rly (M.less fun _ => .inl) r))
  refine .tup _ _ rfl fun j x y hx hy => ?_
  rcases j with _ | _ | j
  · simp at hx hy;subst hx;subst hy;exact hvz
  · simp at hx hy;subst hx;subst hy;exact .bool _
  · simp at hx
end
end Go.Id
namespace Go.Id
open Go.Conc Go.RowKit Go.Conc.Lib
open Go.ConcR (Payload)
set_option linter.unusedVariables false
set_option linter.unusedSectionVars false
variable [Payload] {L:WgLink}
def flatS:Sl→Prop
  | .v (.pointer (some _)) | .v (.slice (some _) _ _)=>True
  | .v v=>plainV v=true
  | .b _ | .r _=>True
  | _=>False
theorem slIn_v {D:Nat→Prop} {v:Value} (h:flatIn D v):slIn D (.v v):=h
theorem carry_of {N0:Nat→Prop} {lo:Nat} {s:Sim} {O:Nat→Prop} {h:Hp} {w:World} {lb:Nat→Nat} {n:Nat} {T:Array Value} {t t1:Tm} (S:SimOk N0 lo s O h w) (tm:TmOk s lb n t T) (hC:∀ j x,look t1 j=some x→look t j=some x∧flatS x) :
    Carry (fun i=>i < h.n∧s.adr i≠none) t t1:=by
  intro j x hx
  obtain ⟨h1,h2⟩:=hC j x hx
  refine ⟨h1,?_⟩
  obtain ⟨vr,h3,h4⟩:=tm j x h1
  cases x with
  | v v =>
    have h4:VR s v vr:=h4
    cases h4 with
    | ptr id off sp a c ha he hh=>exact slIn_v ⟨(S.cells id c ha).1,by rw [ha];simp⟩
    | sl id off sp n fl a cap c ha he hh h0 hn=>exact slIn_v ⟨(S.cells id c ha).1,by rw [ha];simp⟩
    | _=>first | exact slIn_v h2 | exact slIn_v rfl
  | b q=>trivial
  | r v=>trivial
  | l a b=>exact h2
  | c a b=>exact h2
section
variable {P:Program} {N0:Nat→Prop} {lo:Nat} {f:FuncId} {fn:Func} {E:En} {Ch:Nat} {k1 kE:List Item} {t t1 tE:Tm} {ls:Lv} {h:Hp} {ops:Array Oper} {j:Nat} {rest:List Nat} {o:Oper}
theorem RC.phase (H:WgLib P L) {d r:Nat} (ho:ops[j]? = some o) (hg:o.guard=none) (hop:o.op = .alloc L.tWg) (hdst:o.dst=some d) (hdl:d < fn.ntmps) {ti:TyI} (ht:TyOk P L.tWg ti) (htz:ti.zero=[.int .u64 0,.int .u32 0]) {Rd:Nat→Nat→Nat→Value→Hp→Prop} (K:RdOk Rd) (hr:r+1 < 2147483648) (hE:E.ds=[])
    (hC:∀ j x,look t1 j=some x→look t j=some x∧flatS x)
    (HSp:∀ s:Sim,(∀ j a,look t1 j=some (.v (.pointer (some a)))→a.block < h.n∧s.adr a.block≠none)→∀ (Wg:Nat) (fro:Nat→Prop),R (treeCtx P true fro) h.n f fn (.mid [] (SpFrom ⟨P,L.tWg,Wg,Ch,fro,r+1,LeftBy fro h.n Wg Rd⟩ L h.n s h f fn tE kE (r+1))) (.inRegion ops rest::k1) ((d,.r (.pointer (some ⟨Wg,0,none⟩)))::t1) [] h)
    (hEnd:∀ (sl:Nat→Value) (Lp:List Nat) (c:Nat→Nat) (h':Hp),Ext h h'→Lp.Nodup→(∀ i,i∈Lp↔i < r+1)→c 0=h.n→(∀ i,i < r+1→c i≤c (i+1))→c (r+1)=h'.n→(∀ i,i < r+1→Rd i (c i) (c (i+1)) (sl i) h') →
      RC P N0 lo f fn E Ch (r+1) (Lp.map fun (i:Nat)=>Value.agg #[.int .i64 i,sl i]) false kE tE [] h') :
    RC P N0 lo f fn E Ch (r+1) [] false (.inRegion ops (j::rest)::k1) t ls h:=by
  intro s O Pr lb w b a cs Stop buf sn rn h1 h2 h3 h4 M hn tm hc hv hz A
  obtain rfl:buf=[]:=by
    cases buf with
    | nil=>rfl
    | cons a l=>have:=hv.1;simp at this
  have hCar:=carry_of M.sim tm hC
  have hp:∀ j a,look t1 j=some (.v (.pointer (some a)))→a.block < h.n∧s.adr a.block≠none:=fun j a hj=>(hCar j _ hj).2
  have hO:=(M.pr Ch (.inr rfl)).1
  have hR:=(M.pr Ch (.inr rfl)).2
  obtain rfl:=hz rfl
  refine phase_R H h1 h2 ho hg hop hdst hdl ht htz K M tm (h3.trans hE) h4 hO hc hR hr hCar (HSp s hp) ?_
  intro w₀ r₀ s' h' O' w' sl buf' Lp sn' a' B hd hsz tm'
  obtain ⟨cc,c0,c1,c2,c3⟩:=B.rd
  refine hEnd sl Lp cc h' B.ext B.perm.1 B.perm.2 c0 c1 c2 c3 s' O' Pr lb w' b a' cs Stop buf' sn' 0 h1 h2 (hd.trans hE.symm) hsz ⟨B.sim,⟨fun j cs hj=>by simp at hj,fun j j' hj=>by simp at hj⟩,fun b hb => ?_⟩ hn ?_ B.ch ?_ (fun _=>rfl) ?_
  · exact ⟨B.og.1 b (M.pr b hb).1,fun hx=>(B.rng b hx).elim (M.pr b hb).2 fun hx=>hx (M.pr b hb).1⟩
  · intro j x hx
    obtain ⟨vr,e1,e2⟩:=tm' j x hx
    refine ⟨vr,e1,?_⟩
    cases x with
    | l a b=>exact absurd e2.1 (by omega)
    | _=>exact e2
  · refine ⟨by simp [B.len.1,B.len.2],fun p v u hv hu => ?_⟩
    rw [List.getElem?_map] at hv
    obtain ⟨i,hi,rfl⟩:=Option.map_eq_some_iff.1 hv
    exact B.row p i u hi hu
  · refine A.from B.le (B.og.of (OG.refl O w) r₀.1) ((kept_rly (M.less fun _ => .inl) r₀).trans (B.kept.less fun b hb=>⟨(M.pr b (.inl hb)).1,by rintro rfl;exact hn hb⟩))
end
end Go.Id
namespace Go.Id
open Go.Conc Go.RowKit Go.Conc.Lib
open Go.ConcR (Payload)
open Go.ConcN (Has)
set_option linter.unusedVariables false
set_option linter.unusedSectionVars false
def blkOf:Value→Option Nat
  | .slice (some a) _ _=>some a.block
  | _=>none
def blks (l:List Value):List Nat:=l.filterMap blkOf
def vE1 (v:Value):List Value:=[v]
theorem vE1_len (v:Value):(vE1 v).length=1:=rfl
theorem flat_vE1:∀ l:List Value,l.flatMap vE1=l
  | []=>rfl
  | v::l=>by rw [List.flatMap_cons,flat_vE1 l];rfl
structure ElOk (El:Int→Value→Hp→Prop):Prop where
  one:∀ k v h,El k v h→cellsL v=[v]∧noTup v=true
  lt:∀ k v h b,El k v h→blkOf v=some b→b < h.n
  keep:∀ k v h h',El k v h→h.n≤h'.n→(∀ b,blkOf v=some b→h'.g b=h.g b)→El k v h'
  flat:∀ k v h,El k v h→plainV v=true∨∃ a n f cs sz e,v = .slice (some a) n f∧h.g a.block = .cells cs sz e∧∀ u∈cs,plainV u=true
  move:∀ k v h h' d,El k v h→(∀ b,blkOf v=some b→b+d < h'.n∧h'.g (b+d)=shO d (h.g b))→El k (shV d v) h'
theorem ElOk.ext {El:Int→Value→Hp→Prop} (K:ElOk El) {k:Int} {v:Value} {h h':Hp} (e:El k v h) (x:Ext h h'):El k v h':=K.keep k v h h' e x.n fun b hb=>x.g b (K.lt k v h b e hb)
def RdW (El:Int→Value→Hp→Prop) (st:Nat→Int) (cnt:Nat→Nat) (i p q:Nat) (sl:Value) (h:Hp):Prop :=
  ∃ o l,sl=gv o l.length∧Gx 0 h vE1 1 o l∧l.length=cnt i∧(∀ (j:Nat) (v:Value),l[j]? = some v→El (st i+j) v h)∧(blks l).Pairwise (· < ·)∧∀ b∈blks l,p≤b∧b < q
theorem blkOf_sh (d:Nat) (v:Value):blkOf (shV d v)=(blkOf v).map (· + d):=by
  cases v with
  | slice a n f=>cases a<;>rfl
  | pointer a=>cases a<;>rfl
  | _=>rfl
theorem blks_sh (d:Nat):∀ l:List Value,blks (l.map (shV d))=(blks l).map (· + d)
  | []=>rfl
  | v::l=>by
    have ih:=blks_sh d l
    unfold blks at ih ⊢
    rw [List.map_cons,List.filterMap_cons,List.filterMap_cons,blkOf_sh]
    cases blkOf v with
    | none=>simpa using ih
    | some b=>simp [ih]
theorem RdW.ok {El:Int→Value→Hp→Prop} (K:ElOk El) (st:Nat→Int) (cnt:Nat→Nat):RdOk (RdW El st cnt):=by
  refine ⟨?_,?_⟩
  · rintro i p q sl D d lo h h' C M hf ⟨o,l,rfl,g,h1,h2,h3,h4⟩
    match o,g with
    | none,g =>
      have g:l=[]:=g
      subst g
      exact ⟨none,[],rfl,rfl,h1,fun j v hv=>by simp at hv,by simp [blks],fun b hb=>by simp [blks] at hb⟩
    | some (b,e),⟨_,g2⟩ =>
      have hb:D b:=hf
      obtain ⟨m1,m2⟩:=M.g b hb
      have hcell:∀ v∈l,flatIn D v:=by
        obtain ⟨cs,sz,e',c1,c2⟩:=C.cells b hb
        rw [g2.g,flat_vE1] at c1
        injection c1 with c1 _ _
        subst c1;exact c2
      refine ⟨some (b+d,e),l.map (shV d),by simp [gv,shV],⟨Nat.zero_le _,m1,?_⟩,by simpa using h1,fun j v hv => ?_,?_,?_⟩
      · rw [m2,g2.g,flat_vE1,flat_vE1];rfl
      · rw [List.getElem?_map] at hv
        obtain ⟨u,hu,rfl⟩:=Option.map_eq_some_iff.1 hv
        refine K.move _ u h h' d (h2 j u hu) fun c hc=>M.g c ?_
        have:=hcell u (List.mem_of_getElem? hu)
        unfold blkOf at hc
        split at hc
        · cases hc;exact this
        · cases hc
      · rw [blks_sh,List.pairwise_map]
        exact h3.imp fun h=>by omega
      · rw [blks_sh]
        intro c hc
        obtain ⟨c',hc',rfl⟩:=List.mem_map.1 hc
        have:=h4 c' hc';omega
  · rintro i p q sl h h' x ⟨o,l,rfl,g,h1,h2,h3,h4⟩
    exact ⟨o,l,rfl,g.ext x,h1,fun j v hv=>K.ext (h2 j v hv) x,h3,h4⟩
structure WI (El:Int→Value→Hp→Prop) (st:Int) (h0 h:Hp) (o:Option (Nat×Nat)) (l:List Value):Prop where
  g:Gx h0.n h vE1 1 o l
  el:∀ (j:Nat) (v:Value),l[j]? = some v→El (st+j) v h
  pw:(blks l).Pairwise (· < ·)
  bl:∀ b∈blks l,h0.n≤b∧b < h.n∧¬ isB o b
  ext:Ext h0 h
theorem WI.nil {El:Int→Value→Hp→Prop} {st:Int} {h0 h:Hp} (x:Ext h0 h):WI El st h0 h none []:=⟨rfl,fun j v hv=>by simp at hv,by simp [blks],fun b hb=>by simp [blks] at hb,x⟩
theorem blks_app (l m:List Value):blks (l++m)=blks l++blks m:=List.filterMap_append
theorem WI.step {El:Int→Value→Hp→Prop} (K:ElOk El) {st:Int} {h0 h h1:Hp} {o:Option (Nat×Nat)} {l:List Value} (W:WI El st h0 h o l) {v:Value} (hv:El (st+l.length) v h1) (x:Ext h h1) (hb:∀ b,blkOf v=some b→h.n≤b) (hm:l.length+1≤Id.maxLen) :
    ∃ o' h',Ap h0.n (h1.push (.cells [v] 1 0)) 1 (gv o l.length) [v] 1 (gv o' (l++[v]).length) h'∧WI El st h0 h' o' (l++[v])∧h.n≤h'.n∧∀ b,b < h.n→¬ isB o b→h'.g b=h.g b∧¬ isB o' b:=by
  have x2:Ext h (h1.push (.cells [v] 1 0)):=x.trans (Ext.push _ _)
  have hn1:(h1.push (.cells [v] 1 0)).n=h1.n+1:=rfl
  obtain ⟨o',h',a1,a2,a3⟩:=(W.g.ext x2).apps (fun v=>rfl) (by decide) [v] hm (Nat.le_trans W.ext.n x2.n)
  have hbl:∀ b,blkOf v=some b→h.n≤b∧b < h1.n:=fun b h=>⟨hb b h,K.lt _ _ _ _ hv h⟩
  have old:∀ b,b < h.n→¬ isB o b→h'.g b=h.g b:=fun b hb hi=>(a3.g b (Nat.lt_of_lt_of_le hb x2.n) hi).trans (x2.g b hb)
  have nb:∀ b,h.n≤b→¬ isB o b:=fun b hb hi=>by have:=(W.g.lt hi).1;omega
  have nn:∀ b,b < h1.n→¬ isB o b→¬ isB o' b:=fun b hb hi hi'=>(a3.b b hi').elim hi fun x=>by rw [hn1] at x;omega
  have hle:h.n≤h'.n:=Nat.le_trans x2.n a3.n
  have hvb:blks [v]=(blkOf v).toList:=by unfold blks;cases hbv:blkOf v<;>simp [hbv]
  refine ⟨o',h',a1,⟨a2,fun j u hu => ?_,?_,fun b hb => ?_,⟨Nat.le_trans W.ext.n hle,fun i hi => ?_⟩⟩,hle,fun b hb hi=>⟨old b hb hi,nn b (by have:=x.n;omega) hi⟩⟩
  · rw [List.getElem?_append] at hu
    split at hu
    · have hel:=W.el j u hu
      refine K.keep _ u h h' hel hle fun b hb=>old b (K.lt _ _ _ _ hel hb) ?_
      refine (W.bl b ?_).2.2
      unfold blks
      exact List.mem_filterMap.2 ⟨u,List.mem_of_getElem? hu,hb⟩
    · rename_i hj
      obtain rfl:j=l.length:=by
        have:=(List.getElem?_eq_some_iff.1 hu).1
        simp at this;omega
      simp at hu;subst hu
      refine K.keep _ v h1 h' hv (by have:=a3.n;rw [hn1] at this;omega) fun b hb => ?_
      obtain ⟨b1,b2⟩:=hbl b hb
      rw [a3.g b (by rw [hn1];omega) (nb b b1)]
      simp [Hp.push];omega
  · rw [blks_app,List.pairwise_append]
    refine ⟨W.pw,by rw [hvb];cases blkOf v<;>simp,fun b hb c hc => ?_⟩
    rw [hvb] at hc
    have:=(hbl c (by simpa using hc)).1
    have:=(W.bl b hb).2.1
    omega
  · rw [blks_app,List.mem_append] at hb
    rcases hb with hb | hb
    · obtain ⟨b1,b2,b3⟩:=W.bl b hb
      exact ⟨b1,by omega,nn b (by have:=x.n;omega) b3⟩
    · rw [hvb] at hb
      obtain ⟨b1,b2⟩:=hbl b (by simpa using hb)
      have:=W.ext.n
      have:=a3.n
      rw [hn1] at this
      exact ⟨by omega,by omega,nn b b2 (nb b b1)⟩
  · have hi':i < h.n:=Nat.lt_of_lt_of_le hi W.ext.n
    rw [old i hi' fun hb=>by have:=(W.g.lt hb).2;omega]
    exact W.ext.g i hi
theorem flatIn_plain {D:Nat→Prop} {v:Value} (h:plainV v=true):flatIn D v:=by
  unfold flatIn
  split
  · simp [plainV] at h
  · simp [plainV] at h
  · exact h
theorem WI.left [Payload] {El:Int→Value→Hp→Prop} (K:ElOk El) {st:Nat→Int} {cnt:Nat→Nat} {i Wg:Nat} {h0 h:Hp} {o:Option (Nat×Nat)} {l:List Value} (W:WI El (st i) h0 h o l) (hl:l.length=cnt i) (hpos:l≠[]) {fro:Nat→Prop} {s:Sim} {O:Nat→Prop} {w:World} {vr:Value}
    (S:SimOk fro h0.n s O h w) (hv:VR s (.agg #[.int .i64 i,gv o l.length]) vr) (hO:∀ b,O b→Wg < b):LeftBy fro h0.n Wg (RdW El st cnt) i vr O w∧∃ C z,O C∧Has C 0 z w:=by
  match o,W with
  | none,W=>exact absurd W.g hpos
  | some (b,e),W =>
    obtain ⟨g1,g2⟩:=W.g
    constructor
    · refine ⟨hO,s,h,fun c=>c=b∨c∈blks l,gv (some (b,e)) l.length,S,W.ext.n,⟨fun c hc => ?_,fun c hc => ?_⟩,.inl rfl,hv,some (b,e),l,rfl,⟨Nat.zero_le _,g2⟩,hl,W.el,W.pw,fun c hc=>⟨(W.bl c hc).1,(W.bl c hc).2.1⟩⟩
      · rcases hc with rfl | hc
        · exact ⟨g1,g2.lt⟩
        · exact ⟨(W.bl c hc).1,(W.bl c hc).2.1⟩
      · rcases hc with rfl | hc
        · refine ⟨_,_,_,g2.g,fun v hv => ?_⟩
          rw [flat_vE1] at hv
          obtain ⟨j,hj⟩:=List.mem_iff_getElem?.1 hv
          rcases K.flat _ _ _ (W.el j v hj) with hp | ⟨a,n,f,cs,sz,e',rfl,_,_⟩
          · exact flatIn_plain hp
          · exact .inr (List.mem_filterMap.2 ⟨_,hv,rfl⟩)
        · obtain ⟨v,hv,hb⟩:=List.mem_filterMap.1 hc
          obtain ⟨j,hj⟩:=List.mem_iff_getElem?.1 hv
          rcases K.flat _ _ _ (W.el j v hj) with hp | ⟨a,n,f,cs,sz,e',rfl,h1,h2⟩
          · unfold blkOf at hb
            split at hb
            · simp [plainV] at hp
            · cases hb
          · cases hb
            exact ⟨cs,sz,e',h1,fun u hu=>flatIn_plain (h2 u hu)⟩
    · cases hv with
      | agg x y hs hh h1 =>
        have hlen:y.size=2:=by rw [← hs];rfl
        have h2:=hh 1 (gv (some (b,e)) l.length) y[1] (by rfl) (Array.getElem?_eq_getElem (by omega))
        generalize y[1]=z at h2
        cases h2 with
        | sl id off sp n fl a cap c ha he hx h0' hn =>
          obtain ⟨_,_,cs,sz,k1,ys,k2,k3⟩:=S.cells b c ha
          rw [g2.g,flat_vE1] at k1
          injection k1 with k1 _ _
          subst k1
          obtain ⟨o1,o2,_⟩:=S.own b c ha g1
          have hy:0 < ys.length:=by
            rw [← k2.1.1]
            rcases l with _ | ⟨a,l⟩
            · exact absurd rfl hpos
            · simp
          refine ⟨c.b,ys[0],o1,?_⟩
          have:=k3 0 ys[0] (List.getElem?_eq_getElem hy)
          rw [o2] at this
          exact this
end Go.Id
namespace Go.Proofs.YtjpcfaddimlbdaaGreat.Id
open Go.Id Go.Conc Go.Conc.Lib
open Go.Proofs
set_option linter.unusedVariables false
def SlV {α:Type} (h:Hp) (enc:α→List Value) (sz:Nat) (v:Value) (l:List α):Prop:=∃ a fl,v = .slice a l.length fl∧Sls h enc sz a l
theorem SlV.ext {α:Type} {h h':Hp} {enc:α→List Value} {sz:Nat} {v:Value} {l:List α} (s:SlV h enc sz v l) (x:Ext h h'):SlV h' enc sz v l:=by
  obtain ⟨a,fl,e,s⟩:=s
  exact ⟨a,fl,e,s.ext x⟩
structure FtV (h:Hp) (fa:Option Addr) (L:List Value) (ft:List (List Int)):Prop where
  s:Sls h vE1 1 fa L
  len:L.length=ft.length
  el:∀ (j:Nat) (x:Value) (l:List Int),L[j]? = some x→ft[j]? = some l→SlV h inE 1 x l
theorem FtV.ext {h h':Hp} {fa:Option Addr} {L:List Value} {ft:List (List Int)} (s:FtV h fa L ft) (x:Ext h h'):FtV h' fa L ft:=⟨s.s.ext x,s.len,fun j y l h1 h2=>(s.el j y l h1 h2).ext x⟩
theorem FtV.get {h:Hp} {fa:Option Addr} {L:List Value} {ft:List (List Int)} (s:FtV h fa L ft) {j:Nat} (hj:j < ft.length):∃ (ad:Addr) (a:Option Addr) (fl:Nat),fa=some ad∧Sls h inE 1 a ft[j]∧∀ h',Ext h h'→Ld h' (addA ad (j*1)) 1 [.slice a ft[j].length fl]:=by
  have hj':j < L.length:=by rw [s.len];exact hj
  obtain ⟨a,fl,e,s1⟩:=s.el j L[j] ft[j] (List.getElem?_eq_getElem hj') (List.getElem?_eq_getElem hj)
  have hs:=s.s
  obtain ⟨ad,rfl⟩:=hs.some hj'
  refine ⟨ad,a,fl,rfl,s1,fun h' x => ?_⟩
  have:=(hs.ext x).ld vE1_len hj'
  rw [e] at this
  exact this
def scV (s:Sc) (ga la fa:Option Addr) (gf lf ff:Nat):Value := .agg #[.int .i64 s.g.w,.slice ga s.g.cs.length gf,.slice la s.li.length lf,.slice fa s.ft.length ff]
structure ScR (h:Hp) (s:Sc) (ga la fa:Option Addr) (L:List Value):Prop where
  g:Sls h cE 2 ga s.g.cs
  li:Sls h inE 1 la s.li
  ft:FtV h fa L s.ft
theorem ScR.ext {h h':Hp} {s:Sc} {ga la fa:Option Addr} {L:List Value} (r:ScR h s ga la fa L) (x:Ext h h'):ScR h' s ga la fa L:=⟨r.g.ext x,r.li.ext x,r.ft.ext x⟩
structure ScB (s:Sc):Prop where
  g:s.g.cs.length≤1048576
  li:s.li.length≤1048576
  ft:s.ft.length≤1048576
  el:∀ l∈s.ft,l.length≤1048576
def bO (o:Option (Nat×Nat)):List Nat:=match o with | none=>[] | some (b,_)=>[b]
theorem bO_is {o:Option (Nat×Nat)} {b:Nat}:b∈bO o↔isB o b:=by
  match o with
  | none=>exact ⟨fun h=>(by cases h),fun ⟨e,h⟩=>(by cases h)⟩
  | some (c,e)=>exact ⟨fun h=>(by rw [List.mem_singleton.1 h];exact ⟨e,rfl⟩),fun ⟨e',h⟩=>(by cases h;exact List.mem_singleton.2 rfl)⟩
theorem blk_gv (o:Option (Nat×Nat)) (n:Nat):blkOf (gv o n)=(match o with | none=>none | some (b,_)=>some b):=by
  match o with
  | none=>rfl
  | some (b,e)=>rfl
def OwE (base:Nat) (h:Hp) (x:Value) (l:List Int):Prop:=∃ o,x=gv o l.length∧GR base h o l
theorem OwE.keep {base:Nat} {h h':Hp} {x:Value} {l:List Int} (e:OwE base h x l) (hn:h.n≤h'.n) (hg:∀ b,blkOf x=some b→h'.g b=h.g b):OwE base h' x l:=by
  obtain ⟨o,rfl,g⟩:=e
  refine ⟨o,rfl,g.keep hn fun i hi hb=>hg i ?_⟩
  obtain ⟨e,rfl⟩:=hb
  rfl
theorem OwE.lt {base:Nat} {h:Hp} {x:Value} {l:List Int} (e:OwE base h x l) {b:Nat} (hb:blkOf x=some b):b < h.n∧base≤b:=by
  obtain ⟨o,rfl,g⟩:=e
  rw [blk_gv] at hb
  match o,hb with
  | some (c,e),hb=>cases hb;exact g.lt ⟨e,rfl⟩
theorem OwE.sl {base:Nat} {h:Hp} {x:Value} {l:List Int} (e:OwE base h x l):SlV h inE 1 x l:=by
  obtain ⟨o,rfl,g⟩:=e
  obtain ⟨a,fl,q1,q2⟩:=g.sl
  exact ⟨a,fl,q1,q2⟩
theorem OwE.up {base base':Nat} {h:Hp} {x:Value} {l:List Int} (e:OwE base h x l) (hb:∀ b,blkOf x=some b→base'≤b):OwE base' h x l:=by
  obtain ⟨o,rfl,g⟩:=e
  refine ⟨o,rfl,g.up fun i hi=>hb i ?_⟩
  obtain ⟨e,rfl⟩:=hi
  rfl
structure ScO (base:Nat) (h:Hp) (s:Sc) (o1 o2 o3:Option (Nat×Nat)) (L:List Value):Prop where
  g1:Gx base h cE 2 o1 s.g.cs
  g2:Gx base h inE 1 o2 s.li
  g3:Gx base h vE1 1 o3 L
  len:L.length=s.ft.length
  el:∀ (j:Nat) (x:Value) (l:List Int),L[j]? = some x→s.ft[j]? = some l→OwE base h x l
  ap:(bO o1++bO o2++bO o3++blks L).Nodup
def scOV (s:Sc) (o1 o2 o3:Option (Nat×Nat)):Value := .agg #[.int .i64 s.g.w,gv o1 s.g.cs.length,gv o2 s.li.length,gv o3 s.ft.length]
section
variable {base:Nat} {h h':Hp} {s:Sc} {o1 o2 o3:Option (Nat×Nat)} {L:List Value}
theorem ScO.elj (r:ScO base h s o1 o2 o3 L) {x:Value} (hx:x∈L):∃ l,OwE base h x l:=by
  obtain ⟨j,hj,rfl⟩:=List.getElem_of_mem hx
  have hj':j < s.ft.length:=by rw [← r.len];exact hj
  exact ⟨_,r.el j _ _ (List.getElem?_eq_getElem hj) (List.getElem?_eq_getElem hj')⟩
theorem ScO.lt (r:ScO base h s o1 o2 o3 L) {b:Nat} (hb:b∈bO o1++bO o2++bO o3++blks L):b < h.n∧base≤b:=by
  simp only [List.mem_append] at hb
  rcases hb with ((hb | hb) | hb) | hb
  · exact r.g1.lt (bO_is.1 hb)
  · exact r.g2.lt (bO_is.1 hb)
  · exact r.g3.lt (bO_is.1 hb)
  · obtain ⟨x,hx,hb⟩:=List.mem_filterMap.1 hb
    obtain ⟨l,e⟩:=r.elj hx
    exact e.lt hb
theorem ScO.keep (r:ScO base h s o1 o2 o3 L) (hn:h.n≤h'.n) (hg:∀ b∈bO o1++bO o2++bO o3++blks L,h'.g b=h.g b):ScO base h' s o1 o2 o3 L:=by
  refine ⟨r.g1.keep hn fun i hi hb=>hg i ?_,r.g2.keep hn fun i hi hb=>hg i ?_,r.g3.keep hn fun i hi hb=>hg i ?_,r.len,fun j x l h1 h2=>(r.el j x l h1 h2).keep hn fun b hb=>hg b ?_,r.ap⟩
  · simp only [List.mem_append];exact .inl (.inl (.inl (bO_is.2 hb)))
  · simp only [List.mem_append];exact .inl (.inl (.inr (bO_is.2 hb)))
  · simp only [List.mem_append];exact .inl (.inr (bO_is.2 hb))
  · simp only [List.mem_append];exact .inr (List.mem_filterMap.2 ⟨x,List.mem_of_getElem? h1,hb⟩)
theorem ScO.ext (r:ScO base h s o1 o2 o3 L) (x:Ext h h'):ScO base h' s o1 o2 o3 L:=r.keep x.n fun b hb=>x.g b (r.lt hb).1
theorem ScO.up {base':Nat} (r:ScO base h s o1 o2 o3 L) (hb:∀ b∈bO o1++bO o2++bO o3++blks L,base'≤b):ScO base' h s o1 o2 o3 L:=by
  refine ⟨gx_lo r.g1 fun i hb'=>hb i ?_,gx_lo r.g2 fun i hb'=>hb i ?_,gx_lo r.g3 fun i hb'=>hb i ?_,r.len,fun j x l h1 h2=>(r.el j x l h1 h2).up fun b hb'=>hb b ?_,r.ap⟩
  · simp only [List.mem_append];exact .inl (.inl (.inl (bO_is.2 hb')))
  · simp only [List.mem_append];exact .inl (.inl (.inr (bO_is.2 hb')))
  · simp only [List.mem_append];exact .inl (.inr (bO_is.2 hb'))
  · simp only [List.mem_append];exact .inr (List.mem_filterMap.2 ⟨x,List.mem_of_getElem? h1,hb'⟩)
theorem ScO.mono {base':Nat} (r:ScO base h s o1 o2 o3 L) (hb:base'≤base):ScO base' h s o1 o2 o3 L:=r.up fun b hb'=>Nat.le_trans hb (r.lt hb').2
theorem gx_slv {α:Type} {lo:Nat} {h:Hp} {enc:α→List Value} {sz:Nat} {o:Option (Nat×Nat)} {l:List α} (g:Gx lo h enc sz o l) (he:∀ x,(enc x).length=sz):∃ a fl,gv o l.length = .slice a l.length fl∧Sls h enc sz a l:=gw_sls (g.w he)
theorem ScO.read (r:ScO base h s o1 o2 o3 L):∃ ga la fa gf lf ff,scOV s o1 o2 o3=scV s ga la fa gf lf ff∧ScR h s ga la fa L:=by
  obtain ⟨ga,gf,a1,a2⟩:=gx_slv r.g1 cE2
  obtain ⟨la,lf,b1,b2⟩:=gx_slv r.g2 fun _=>rfl
  obtain ⟨fa,ff,c1,c2⟩:=gx_slv r.g3 vE1_len
  refine ⟨ga,la,fa,gf,lf,ff,?_,a2,b2,c2,r.len,fun j x l h1 h2=>(r.el j x l h1 h2).sl⟩
  unfold scOV scV
  rw [a1,b1,← r.len,c1]
theorem ScO.off {x:Nat} (r:ScO base h s o1 o2 o3 L):(x∈bO o1→x∉bO o2∧x∉bO o3∧x∉blks L)∧(x∈bO o2→x∉bO o1∧x∉bO o3∧x∉blks L)∧(x∈bO o3→x∉bO o1∧x∉bO o2∧x∉blks L):=by
  have h:=List.nodup_append.1 r.ap
  have h1:=List.nodup_append.1 h.1
  have h2:=List.nodup_append.1 h1.1
  have m1:∀ {y},y∈bO o1→y∈bO o1++bO o2:=fun q=>List.mem_append.2 (.inl q)
  have m2:∀ {y},y∈bO o2→y∈bO o1++bO o2:=fun q=>List.mem_append.2 (.inr q)
  have n1:∀ {y},y∈bO o1++bO o2→y∈bO o1++bO o2++bO o3:=fun q=>List.mem_append.2 (.inl q)
  have n3:∀ {y},y∈bO o3→y∈bO o1++bO o2++bO o3:=fun q=>List.mem_append.2 (.inr q)
  refine ⟨fun q=>⟨fun p=>h2.2.2 x q x p rfl,fun p=>h1.2.2 x (m1 q) x p rfl,fun p=>h.2.2 x (n1 (m1 q)) x p rfl⟩,fun q=>⟨fun p=>h2.2.2 x p x q rfl,fun p=>h1.2.2 x (m2 q) x p rfl,fun p=>h.2.2 x (n1 (m2 q)) x p rfl⟩,fun q=>⟨fun p=>h1.2.2 x (m1 p) x q rfl,fun p=>h1.2.2 x (m2 p) x q rfl,fun p=>h.2.2 x (n3 q) x p rfl⟩⟩
theorem blks_snoc (L:List Value) (x:Value):blks (L++[x])=blks L++(blkOf x).toList:=by
  unfold blks
  rw [List.filterMap_append]
  congr 1
theorem nodup_app {a b:List Nat} (ha:a.Nodup) (hb:b.Nodup) (h:∀ x∈a,x∉b):(a++b).Nodup:=List.nodup_append.2 ⟨ha,hb,fun x hx y hy e=>h x hx (e▸hy)⟩
theorem bO_nodup (o:Option (Nat×Nat)):(bO o).Nodup:=by
  match o with
  | none=>exact List.nodup_nil
  | some (b,e)=>simp [bO]
theorem opt_nodup (o:Option Nat):o.toList.Nodup:=by cases o<;>simp
theorem ScO.foot {lo:Nat} {h1 h0:Hp} (r:ScO base h s o1 o2 o3 L) (hb:lo≤base) (x1:Ext h h1) {x:Value} {l:List Int} (e:OwE h.n h1 x l) (hm:L.length+1≤Id.maxLen) (x0:Ext h0 h) (hb0:h0.n≤base) (hbn:base≤h.n) :
    ∃ o3' h2,Ap lo (h1.push (.cells [x] 1 0)) 1 (gv o3 L.length) [x] 1 (gv o3' (L++[x]).length) h2∧ScO base h2 ⟨s.g,s.li,s.ft++[l]⟩ o1 o2 o3' (L++[x])∧Ext h0 h2:=by
  have x2:Ext h (h1.push (.cells [x] 1 0)):=x1.trans (Ext.push _ _)
  have r2:=r.ext x2
  have n1:=x1.n
  have n2:=x2.n
  have hn1:(h1.push (.cells [x] 1 0)).n=h1.n+1:=rfl
  obtain ⟨o3',h2,a1,a2,a3⟩:=(gx_lo (lo':=lo) r2.g3 fun i hi=>by have:=(r2.g3.lt hi).2;omega).apps vE1_len (by decide) [x] hm (by omega)
  have a3n:=a3.n
  have hbl:∀ b,blkOf x=some b→h.n≤b∧b < h1.n:=fun b hb=>⟨(e.lt hb).2,(e.lt hb).1⟩
  have old:∀ b,b < h1.n→¬ isB o3 b→h2.g b=h1.g b:=fun b hb hi=>(a3.g b (by omega) hi).trans ((Ext.push h1 _).g b hb)
  have old':∀ b,b < h.n→¬ isB o3 b→h2.g b=h.g b:=fun b hb hi=>(old b (by omega) hi).trans (x1.g b hb)
  have ne3:∀ b,h.n≤b→¬ isB o3 b:=fun b hb hi=>by have:=(r.g3.lt hi).1;omega
  have new3:∀ b,isB o3' b→b < h1.n→isB o3 b:=fun b hb hl=>(a3.b b hb).elim id fun q=>by omega
  refine ⟨o3',h2,a1,⟨?_,?_,?_,by simp [r.len],fun j y m hy hm' => ?_,?_⟩,⟨by have:=x0.n;omega,fun i hi => ?_⟩⟩
  · refine r.g1.keep (by omega) fun i hi hb'=>old' i hi fun q => ?_
    exact (r.off.1 (bO_is.2 hb')).2.1 (bO_is.2 q)
  · refine r.g2.keep (by omega) fun i hi hb'=>old' i hi fun q => ?_
    exact (r.off.2.1 (bO_is.2 hb')).2.1 (bO_is.2 q)
  · refine gx_lo a2 fun i hb' => ?_
    by_cases q:i < h1.n
    · exact (r.g3.lt (new3 i hb' q)).2
    · omega
  · rw [List.getElem?_append] at hy
    have hm':(s.ft++[l])[j]? = some m:=hm'
    rw [List.getElem?_append,← r.len] at hm'
    split at hy
    · rename_i hj
      rw [if_pos hj] at hm'
      have E:=r.el j y m hy hm'
      refine E.keep (by omega) fun b hb'=>old' b (E.lt hb').1 fun q => ?_
      exact (r.off.2.2 (bO_is.2 q)).2.2 (List.mem_filterMap.2 ⟨y,List.mem_of_getElem? hy,hb'⟩)
    · rename_i hj
      rw [if_neg hj] at hm'
      have hj0:j - L.length=0:=by have:=(List.getElem?_eq_some_iff.1 hy).1;simp at this;omega
      rw [hj0] at hy hm'
      simp at hy hm'
      subst hy;subst hm'
      exact (e.up fun b hb'=>by have:=(hbl b hb').1;omega).keep (by omega) fun b hb'=>old b (hbl b hb').2 (ne3 b (hbl b hb').1)
  · have nd:=List.nodup_append.1 r.ap
    have nd1:=List.nodup_append.1 nd.1
    rw [blks_snoc]
    have hlt:∀ y∈bO o1++bO o2++bO o3++blks L,y < h.n:=fun y hy=>(r.lt hy).1
    have hx:∀ y∈(blkOf x).toList,h.n≤y∧y < h1.n:=fun y hy=>hbl y (by simpa using hy)
    have h12:∀ y∈bO o1++bO o2,y∉bO o3':=fun y hy q=>by
      have q:=new3 y (bO_is.1 q) (by have:=hlt y (List.mem_append.2 (.inl (List.mem_append.2 (.inl hy))));omega)
      exact nd1.2.2 y hy y (bO_is.2 q) rfl
    refine nodup_app (nodup_app nd1.1 (bO_nodup _) h12) (nodup_app nd.2.1 (opt_nodup _) fun y hy q => ?_) fun y hy q => ?_
    · have:=(hx y q).1
      have:=hlt y (List.mem_append.2 (.inr hy));omega
    · rcases List.mem_append.1 q with q | q
      · rcases List.mem_append.1 hy with hy | hy
        · exact nd.2.2 y (List.mem_append.2 (.inl hy)) y q rfl
        · have hl:=hlt y (List.mem_append.2 (.inr q))
          exact nd.2.2 y (List.mem_append.2 (.inr (bO_is.2 (new3 y (bO_is.1 hy) (by omega))))) y q rfl
      · have:=hx y q
        rcases List.mem_append.1 hy with hy | hy
        · have:=hlt y (List.mem_append.2 (.inl (List.mem_append.2 (.inl hy))));omega
        · exact ne3 y this.1 (new3 y (bO_is.1 hy) this.2)
  · have:=x0.n
    exact (old' i (by omega) fun q=>by have:=(r.g3.lt q).2;omega).trans (x0.g i hi)
end
end Go.Proofs.YtjpcfaddimlbdaaGreat.Id
namespace Go.Proofs.YtjpcfaddimlbdaaGreat.Id
open Go.Id
open Go.Proofs
set_option linter.unusedVariables false
set_option maxRecDepth 100000
variable {X:Ctx Tryz.prog} {lo:Nat}
def startsV (w hh:Int):Value := .agg #[.int .i64 0,.int .i64 w,.int .i64 (w+hh),.int .i64 (2*w+hh),.int .i64 (2*(w+hh))]
theorem sideStarts_ok (w hh:Nat) (a:Option Addr) (n fl:Nat) (h:Hp) (hw:1≤w∧w≤5) (hh1:1≤hh∧hh≤5) (hn:(n:Int)=(w:Int)*hh):Tri X lo 157 [.agg #[.int .i64 (w:Int),.slice a n fl]] h fun v h'=>v=startsV w hh∧Ext h h':=by
  refine enter tbOk mtOk ⟨[],[]⟩ 400 Tryz.func157 rfl rfl rfl fun hlo => ?_
  have hn2:(n:Int) < 2 ^ 31:=by
    have:(w:Int)*hh≤5*5:=Int.mul_le_mul (by omega) (by omega) (by omega) (by omega)
    omega
  refine callP (gridRows_ok w a n fl h (by omega) hn2) ?_
  rintro v h1 ⟨rfl,e1⟩
  have hd:(n:Int) / w=hh:=by rw [hn];exact Int.mul_ediv_cancel_left _ (by omega)
  rw [hd]
  refine And.intro ?_ e1
  show Value.agg #[.int .i64 0,.int .i64 w,.int .i64 (IntKind.i64.wrap ((w:Int)+hh)),.int .i64 (IntKind.i64.wrap (IntKind.i64.wrap (2*(w:Int))+hh)),.int .i64 (IntKind.i64.wrap (2*IntKind.i64.wrap ((w:Int)+hh)))]=_
  rw [wr (n:=(w:Int)+hh) (by omega) (by omega),wr (n:=2*(w:Int)) (by omega) (by omega),wr (n:=2*(w:Int)+hh) (by omega) (by omega),wr (n:=2*((w:Int)+hh)) (by omega) (by omega)]
  rfl
theorem PicOf1_ok (g:Gd) (k:Int) (T:Tr.Tr) (ad:Option Addr) (fl gp:Nat) (h:Hp) (hb:Bx h gp [.int .i64 g.w,.slice ad g.cs.length fl]) (hs:Sls h cE 2 ad g.cs) (hn:(g.cs.length:Int) < 2 ^ 31) (hT:IsTrail g k T) (hm:T.1.length≤20000∧T.2.length≤60000) (hE:EOk g T.2) (hc:T.2≠[]→∀ c∈g.cs,cOk c=true):Tri X lo 136 [.int .i64 k,.pointer (some ⟨gp,0,none⟩)] h fun v h'=>v = .int .i64 (lightOf g T.2)∧Ext h h':=by
  refine enter tbOk mtOk ⟨[],[]⟩ 400 Tryz.func136 rfl rfl rfl fun hlo => ?_
  refine ⟨_,hb.ld rfl,?_⟩
  refine callP (TrailLight_ok g k T ad fl h hs hn hT hm hE hc) ?_
  rintro v h1 ⟨rfl,e1⟩
  exact ⟨rfl,e1⟩
def iE (x:Int):List Value:=[.int .i64 x]
theorem flat_iE:∀ l:List Int,l.flatMap iE=l.map fun x=>Value.int .i64 x
  | []=>rfl
  | x::l=>by rw [List.flatMap_cons,flat_iE l];rfl
theorem gw_sls' {α:Type} {lo:Nat} {h:Hp} {enc:α→List Value} {sz:Nat} {o:Option (Nat×Nat)} {l:List α} (g:Gw lo h enc sz o l):∃ a fl,gv o l.length = .slice a l.length fl∧Sls h enc sz a l∧∀ ad,a=some ad→lo≤ad.block:=by
  match o,g with
  | none,g=>exact ⟨none,0,by rw [show l=[] from g];rfl,g,fun _ h=>by cases h⟩
  | some (b,e),g=>exact ⟨_,1,rfl,g.2.sls,fun ad h=>by cases h;exact g.1⟩
end Go.Proofs.YtjpcfaddimlbdaaGreat.Id
namespace Go.Proofs.YtjpcfaddimlbdaaGreat.Id
open Go.Id
open Go.Proofs
set_option linter.unusedVariables false
set_option maxRecDepth 100000
variable {X:Ctx Tryz.prog} {lo:Nat}
theorem szCellS_ok (a:Option Addr) (n fl:Nat) (m:Int) (h:Hp) (hm:0≤m∧m≤1048576) (hn:n≤9223372036854775807):Tri X lo 71 [.slice a n fl,.int .i64 m] h fun v h'=>v = .int .i64 (if (n:Int)≤m then m - n else -1)∧h'=h:=by
  refine enter tbOk mtOk ⟨[],[]⟩ 400 Tryz.func71 rfl rfl rfl fun hlo => ?_
  have hw:IntKind.i64.wrap (m - n)=m - n:=wr (by omega) (by omega)
  refine cnd (fun c1 => ?_) (fun c1 => ?_)
  · rw [hw] at c1
    have c1:m - n < 0:=by simpa using c1
    rw [if_neg (by omega)];exact ⟨rfl,rfl⟩
  · rw [hw] at c1
    have c1:¬ m - n < 0:=by simpa using c1
    rw [if_pos (by omega)]
    refine And.intro ?_ rfl
    rw [hw]
theorem szGrid_ok (w:Int) (a:Option Addr) (n fl:Nat) (m:Int) (h:Hp) (hm:0≤m∧m≤1048576) (hn:n≤9223372036854775807):Tri X lo 29 [.agg #[.int .i64 w,.slice a n fl],.int .i64 m] h fun v h'=>v = .int .i64 (if (n:Int)≤m then m - n else -1)∧h'=h:=by
  refine enter tbOk mtOk ⟨[],[]⟩ 400 Tryz.func29 rfl rfl rfl fun hlo => ?_
  refine callP (szCellS_ok a n fl m h hm hn) ?_
  rintro v h1 ⟨rfl,rfl⟩
  refine cnd (fun c1 => ?_) (fun c1 => ?_)
  · by_cases q:(n:Int)≤m
    · rw [if_pos q] at c1;simp at c1;omega
    · rw [if_neg q];exact ⟨rfl,rfl⟩
  · exact ⟨rfl,rfl⟩
theorem toCell_ok (a b:Int) (h:Hp):Tri X lo 112 [.agg #[.int .i64 a,.int .i64 b]] h fun v h'=>v = .agg #[.int .i64 a,.int .i64 b]∧h'=h:=by
  refine enter tbOk mtOk ⟨[],[]⟩ 400 Tryz.func112 rfl rfl rfl fun hlo => ?_
  exact ⟨rfl,rfl⟩
theorem toCellS_ok (a:Option Addr) (fl:Nat) (cs:List Cl) (h:Hp) (hs:Sls h cE 2 a cs) (hn:cs.length≤1048576):Tri X lo 72 [.slice a cs.length fl] h fun v h'=>∃ b,v = .slice (some ⟨b,0,some 0⟩) cs.length 1∧lo≤b∧h.n≤b∧Row h' b 0 cE 2 cs∧Ext h h':=by
  refine enter tbOk mtOk ⟨[],[]⟩ 400 Tryz.func72 rfl rfl rfl fun hlo => ?_
  refine And.intro ⟨by omega,by omega,by unfold Id.maxLen;omega⟩ ?_
  have r0:Row (h.push (.cells (zeros [.int .i64 0,.int .i64 0] cs.length) 2 0)) h.n 0 cE 2 (List.replicate cs.length ((0,0):Cl)):=by rw [zeros_flat (enc:=cE) (z:=[.int .i64 0,.int .i64 0]) (x:=((0,0):Cl)) rfl cs.length];exact Row.push
  refine loop (σ:=Nat) tbOk mtOk ⟨[],[]⟩ (fun i=>[(4,.v (.int .i64 (i:Int))),(3,.v (.slice (some ⟨h.n,0,some 0⟩) cs.length 1)),(0,.v (.slice a cs.length fl))]) (fun _=>[]) (fun i h'=>i≤cs.length∧Ext h h'∧Row h' h.n 0 cE 2 (cs.take i++List.replicate (cs.length - i) ((0,0):Cl))) (fun i=>cs.length - i) 400 0 (fun _=>rfl) ⟨rfl,rfl,rfl,trivial⟩ trivial ⟨Nat.zero_le _,Ext.push _ _,by simpa using r0⟩ (fun i h' hI again => ?_)
  obtain ⟨i1,i2,i3⟩:=hI
  refine cnd (fun c1 => ?_) (fun c1 => ?_)
  · have c1:i < cs.length:=by simpa using c1
    obtain ⟨a,rfl⟩:=hs.some c1
    refine And.intro ⟨by omega,by omega⟩ ?_
    refine ⟨_,(hs.ext i2).ld cE2 c1,?_⟩
    refine callP (toCell_ok cs[i].1 cs[i].2 h') ?_
    rintro v h1 ⟨rfl,rfl⟩
    refine And.intro ⟨by omega,by omega⟩ ?_
    have hli:i < (cs.take i++List.replicate (cs.length - i) ((0,0):Cl)).length:=by simp;omega
    refine ⟨_,i3.st cE2 hlo hli cs[i],?_⟩
    refine again (i+1) _ _ _ (by omega) ⟨?_,rfl,rfl,trivial⟩ trivial ⟨by omega,i2.set (Nat.le_refl _) _,?_⟩
    · show some (Sl.v (.int .i64 (IntKind.i64.wrap ((i:Int)+1))))=_
      rw [wr (by omega) (by omega)];rfl
    · have e:cs.take (i+1)++List.replicate (cs.length - (i+1)) ((0,0):Cl)=(cs.take i++List.replicate (cs.length - i) ((0,0):Cl)).set i cs[i]:=by
        rw [List.set_append_right _ _ (by simp;omega),List.take_succ_eq_append_getElem c1,List.append_assoc]
        congr 1
        rw [List.length_take,Nat.min_eq_left (by omega),Nat.sub_self,show cs.length - i=(cs.length - (i+1))+1 from by omega,List.replicate_succ]
        rfl
      rw [e]
      exact Row.set i3.lt
  · have c1:cs.length=i:=by simp at c1;omega
    rw [← c1,List.take_length,Nat.sub_self,List.replicate_zero,List.append_nil] at i3
    exact ⟨h.n,rfl,hlo,Nat.le_refl _,i3,i2⟩
theorem toGrid_ok (g:Gd) (a:Option Addr) (fl:Nat) (h:Hp) (hs:Sls h cE 2 a g.cs) (hn:g.cs.length≤1048576):Tri X lo 30 [.agg #[.int .i64 g.w,.slice a g.cs.length fl]] h fun v h'=>∃ b,v = .agg #[.int .i64 g.w,.slice (some ⟨b,0,some 0⟩) g.cs.length 1]∧lo≤b∧h.n≤b∧Row h' b 0 cE 2 g.cs∧Ext h h':=by
  refine enter tbOk mtOk ⟨[],[]⟩ 400 Tryz.func30 rfl rfl rfl fun hlo => ?_
  refine callP (toCellS_ok a fl g.cs h hs hn) ?_
  rintro v h1 ⟨b,rfl,q1,q2,q3,q4⟩
  exact ⟨b,rfl,q1,q2,q3,q4⟩
theorem eqCell_ok (c d:Cl) (h:Hp):Tri X lo 114 [.agg #[.int .i64 c.1,.int .i64 c.2],.agg #[.int .i64 d.1,.int .i64 d.2]] h fun v h'=>v = .bool (decide (c=d))∧h'=h:=by
  refine enter tbOk mtOk ⟨[],[]⟩ 400 Tryz.func114 rfl rfl rfl fun hlo => ?_
  obtain ⟨c1,c2⟩:=c
  obtain ⟨d1,d2⟩:=d
  refine cnd (fun e1 => ?_) (fun e1 => ?_)
  · have e1:c1≠d1:=by simpa using e1
    exact And.intro (by rw [decide_eq_false (fun e=>e1 (congrArg Prod.fst e))]) rfl
  · have e1:c1=d1:=by simpa using e1
    refine cnd (fun e2 => ?_) (fun e2 => ?_)
    · have e2:c2≠d2:=by simpa using e2
      exact And.intro (by rw [decide_eq_false (fun e=>e2 (congrArg Prod.snd e))]) rfl
    · have e2:c2=d2:=by simpa using e2
      exact And.intro (by rw [e1,e2];simp) rfl
theorem take_eq {α:Type} {cs ds:List α} {i:Nat} (h1:i < cs.length) (h2:i < ds.length) (h:cs.take i=ds.take i) (e:cs[i]=ds[i]):cs.take (i+1)=ds.take (i+1):=by
  rw [List.take_succ_eq_append_getElem h1,List.take_succ_eq_append_getElem h2,h,e]
theorem eqCellS_ok (a b:Option Addr) (fl fl':Nat) (cs ds:List Cl) (h:Hp) (hs:Sls h cE 2 a cs) (hs':Sls h cE 2 b ds) (hn:cs.length≤1048576):Tri X lo 74 [.slice a cs.length fl,.slice b ds.length fl'] h fun v h'=>v = .bool (decide (cs=ds))∧h'=h:=by
  refine enter tbOk mtOk ⟨[],[(6,[0,1,2,3,4,5,6,7,8,9],[0,0,3,7,0,0,48,112,255,511])]⟩ 400 Tryz.func74 rfl rfl rfl fun hlo => ?_
  refine cnd (fun c1 => ?_) (fun c1 => ?_)
  · have c1:cs.length≠ds.length:=by simp at c1;omega
    exact And.intro (by rw [decide_eq_false (fun e=>c1 (congrArg List.length e))]) rfl
  · have c1:cs.length=ds.length:=by simp at c1;omega
    refine loop (σ:=Nat) tbOk mtOk ⟨[],[(6,[0,1,2,3,4,5,6,7,8,9],[0,0,3,7,0,0,48,112,255,511])]⟩ (fun i=>[(5,.v (.int .i64 (i:Int))),(0,.v (.slice a cs.length fl)),(1,.v (.slice b ds.length fl'))]) (fun _=>[]) (fun i h'=>i≤cs.length∧h'=h∧cs.take i=ds.take i) (fun i=>cs.length - i) 400 0 (fun _=>rfl) ⟨rfl,rfl,rfl,trivial⟩ trivial ⟨Nat.zero_le _,rfl,rfl⟩ (fun i h' hI again => ?_)
    obtain ⟨i1,rfl,i3⟩:=hI
    refine cnd (fun c2 => ?_) (fun c2 => ?_)
    · have c2:i < cs.length:=by simpa using c2
      have c2':i < ds.length:=by omega
      obtain ⟨a,rfl⟩:=hs.some c2
      obtain ⟨b,rfl⟩:=hs'.some c2'
      refine And.intro (by kernel_rfl) ?_
      refine And.intro ⟨by omega,by omega⟩ ?_
      refine ⟨_,hs.ld cE2 c2,?_⟩
      refine And.intro ⟨by omega,by omega⟩ ?_
      refine ⟨_,hs'.ld cE2 c2',?_⟩
      refine callP (eqCell_ok cs[i] ds[i] _) ?_
      rintro v h1 ⟨rfl,rfl⟩
      refine cnd (fun c3 => ?_) (fun c3 => ?_)
      · have c3:cs[i]≠ds[i]:=by simpa using c3
        refine And.intro ?_ rfl
        rw [decide_eq_false (fun e=>c3 (by subst e;rfl))]
      · have c3:cs[i]=ds[i]:=by simpa using c3
        refine again (i+1) _ _ _ (by omega) ⟨?_,rfl,rfl,trivial⟩ trivial ⟨by omega,rfl,take_eq c2 c2' i3 c3⟩
        show some (Sl.v (.int .i64 (IntKind.i64.wrap ((i:Int)+1))))=_
        rw [wr (by omega) (by omega)];rfl
    · have c2:cs.length=i:=by simp at c2;omega
      refine And.intro ?_ rfl
      rw [← c2,List.take_length,c1,List.take_length] at i3
      rw [i3];simp
theorem eqIntS_ok (a b:Option Addr) (fl fl':Nat) (cs ds:List Int) (h:Hp) (hs:Sls h iE 1 a cs) (hs':Sls h iE 1 b ds) (hn:cs.length≤1048576):Tri X lo 38 [.slice a cs.length fl,.slice b ds.length fl'] h fun v h'=>v = .bool (decide (cs=ds))∧h'=h:=by
  refine enter tbOk mtOk ⟨[],[(6,[0,1,2,3,4,5,6,7,8],[0,0,3,7,0,0,48,112,255])]⟩ 400 Tryz.func38 rfl rfl rfl fun hlo => ?_
  refine cnd (fun c1 => ?_) (fun c1 => ?_)
  · have c1:cs.length≠ds.length:=by simp at c1;omega
    exact And.intro (by rw [decide_eq_false (fun e=>c1 (congrArg List.length e))]) rfl
  · have c1:cs.length=ds.length:=by simp at c1;omega
    refine loop (σ:=Nat) tbOk mtOk ⟨[],[(6,[0,1,2,3,4,5,6,7,8],[0,0,3,7,0,0,48,112,255])]⟩ (fun i=>[(5,.v (.int .i64 (i:Int))),(0,.v (.slice a cs.length fl)),(1,.v (.slice b ds.length fl'))]) (fun _=>[]) (fun i h'=>i≤cs.length∧h'=h∧cs.take i=ds.take i) (fun i=>cs.length - i) 400 0 (fun _=>rfl) ⟨rfl,rfl,rfl,trivial⟩ trivial ⟨Nat.zero_le _,rfl,rfl⟩ (fun i h' hI again => ?_)
    obtain ⟨i1,rfl,i3⟩:=hI
    refine cnd (fun c2 => ?_) (fun c2 => ?_)
    · have c2:i < cs.length:=by simpa using c2
      have c2':i < ds.length:=by omega
      obtain ⟨a,rfl⟩:=hs.some c2
      obtain ⟨b,rfl⟩:=hs'.some c2'
      refine And.intro (by kernel_rfl) ?_
      refine And.intro ⟨by omega,by omega⟩ ?_
      refine ⟨_,hs.ld (fun _=>rfl) c2,?_⟩
      refine And.intro ⟨by omega,by omega⟩ ?_
      refine ⟨_,hs'.ld (fun _=>rfl) c2',?_⟩
      refine cnd (fun c3 => ?_) (fun c3 => ?_)
      · have c3:cs[i]≠ds[i]:=by simpa using c3
        refine And.intro ?_ rfl
        rw [decide_eq_false (fun e=>c3 (by subst e;rfl))]
      · have c3:cs[i]=ds[i]:=by simpa using c3
        refine again (i+1) _ _ _ (by omega) ⟨?_,rfl,rfl,trivial⟩ trivial ⟨by omega,rfl,take_eq c2 c2' i3 c3⟩
        show some (Sl.v (.int .i64 (IntKind.i64.wrap ((i:Int)+1))))=_
        rw [wr (by omega) (by omega)];rfl
    · have c2:cs.length=i:=by simp at c2;omega
      refine And.intro ?_ rfl
      rw [← c2,List.take_length,c1,List.take_length] at i3
      rw [i3];simp
instance:DecidableEq Gd:=fun a b=>if h:a.w=b.w∧a.cs=b.cs then isTrue (by cases a;cases b;simp only at h;rw [h.1,h.2]) else isFalse fun e=>h (by subst e;exact ⟨rfl,rfl⟩)
theorem eqGrid_ok (g g':Gd) (a b:Option Addr) (fl fl':Nat) (h:Hp) (hs:Sls h cE 2 a g.cs) (hs':Sls h cE 2 b g'.cs) (hn:g.cs.length≤1048576):Tri X lo 32 [.agg #[.int .i64 g.w,.slice a g.cs.length fl],.agg #[.int .i64 g'.w,.slice b g'.cs.length fl']] h fun v h'=>v = .bool (decide (g=g'))∧h'=h:=by
  refine enter tbOk mtOk ⟨[],[]⟩ 400 Tryz.func32 rfl rfl rfl fun hlo => ?_
  obtain ⟨w,cs⟩:=g
  obtain ⟨w',cs'⟩:=g'
  refine cnd (fun e1 => ?_) (fun e1 => ?_)
  · have e1:w≠w':=by simpa using e1
    exact And.intro (by rw [decide_eq_false (fun e=>e1 (congrArg Gd.w e))]) rfl
  · have e1:w=w':=by simpa using e1
    refine callP (eqCellS_ok a b fl fl' cs cs' h hs hs' hn) ?_
    rintro v h1 ⟨rfl,rfl⟩
    refine cnd (fun e2 => ?_) (fun e2 => ?_)
    · have e2:cs≠cs':=by simpa using e2
      exact And.intro (by rw [decide_eq_false (fun e=>e2 (congrArg Gd.cs e))]) rfl
    · have e2:cs=cs':=by simpa using e2
      exact And.intro (by rw [e1,e2];simp) rfl
end Go.Proofs.YtjpcfaddimlbdaaGreat.Id
namespace Go.Proofs.YtjpcfaddimlbdaaGreat.Id
open Go.Id
open Go.Proofs
set_option linter.unusedVariables false
set_option maxRecDepth 100000
variable {X:Ctx Tryz.prog} {lo:Nat}
theorem EqualI_ok (a b:Option Addr) (fl fl':Nat) (cs ds:List Int) (h:Hp) (hs:Sls h inE 1 a cs) (hs':Sls h inE 1 b ds) (hn:cs.length≤1048576):Tri X lo 102 [.slice a cs.length fl,.slice b ds.length fl'] h fun v h'=>v = .bool (decide (cs=ds))∧h'=h:=by
  refine enter tbOk mtOk ⟨[],[(6,[0,1,2,3,4,5,6,7,8],[0,0,3,7,0,0,48,112,255])]⟩ 400 Tryz.func102 rfl rfl rfl fun hlo => ?_
  refine cnd (fun c1 => ?_) (fun c1 => ?_)
  · have c1:cs.length≠ds.length:=by simp at c1;omega
    exact And.intro (by rw [decide_eq_false (fun e=>c1 (congrArg List.length e))]) rfl
  · have c1:cs.length=ds.length:=by simp at c1;omega
    refine loop (σ:=Nat) tbOk mtOk ⟨[],[(6,[0,1,2,3,4,5,6,7,8],[0,0,3,7,0,0,48,112,255])]⟩ (fun i=>[(13,.v (.int .i64 (i:Int))),(12,.v (.int .i64 (cs.length:Int))),(0,.v (.slice a cs.length fl)),(1,.v (.slice b ds.length fl'))]) (fun _=>[]) (fun i h'=>i≤cs.length∧h'=h∧cs.take i=ds.take i) (fun i=>cs.length - i) 400 0 (fun _=>rfl) ⟨rfl,rfl,rfl,rfl,trivial⟩ trivial ⟨Nat.zero_le _,rfl,rfl⟩ (fun i h' hI again => ?_)
    obtain ⟨i1,rfl,i3⟩:=hI
    refine cnd (fun c2 => ?_) (fun c2 => ?_)
    · have c2:i < cs.length:=by simpa using c2
      have c2':i < ds.length:=by omega
      obtain ⟨a,rfl⟩:=hs.some c2
      obtain ⟨b,rfl⟩:=hs'.some c2'
      refine And.intro (by kernel_rfl) ?_
      refine And.intro ⟨by omega,by omega⟩ ?_
      refine ⟨_,hs.ld (fun _=>rfl) c2,?_⟩
      refine And.intro ⟨by omega,by omega⟩ ?_
      refine ⟨_,hs'.ld (fun _=>rfl) c2',?_⟩
      refine cnd (fun c3 => ?_) (fun c3 => ?_)
      · have c3:cs[i]≠ds[i]:=by simpa using c3
        refine And.intro ?_ rfl
        rw [decide_eq_false (fun e=>c3 (by subst e;rfl))]
      · have c3:cs[i]=ds[i]:=by simpa using c3
        refine again (i+1) _ _ _ (by omega) ⟨vI (wz (by omega) (by omega)),rfl,rfl,rfl,trivial⟩ trivial ⟨by omega,rfl,take_eq c2 c2' i3 c3⟩
    · have c2:cs.length=i:=by simp at c2;omega
      refine And.intro ?_ rfl
      rw [← c2,List.take_length,c1,List.take_length] at i3
      rw [i3];simp
theorem EqualC_ok (a b:Option Addr) (fl fl':Nat) (cs ds:List Cl) (h:Hp) (hs:Sls h cE 2 a cs) (hs':Sls h cE 2 b ds) (hn:cs.length≤1048576):Tri X lo 134 [.slice a cs.length fl,.slice b ds.length fl'] h fun v h'=>v = .bool (decide (cs=ds))∧h'=h:=by
  refine enter tbOk mtOk ⟨[],[(6,[0,1,2,3,4,5,6,7,8],[0,0,3,7,0,0,48,112,255])]⟩ 400 Tryz.func134 rfl rfl rfl fun hlo => ?_
  refine cnd (fun c1 => ?_) (fun c1 => ?_)
  · have c1:cs.length≠ds.length:=by simp at c1;omega
    exact And.intro (by rw [decide_eq_false (fun e=>c1 (congrArg List.length e))]) rfl
  · have c1:cs.length=ds.length:=by simp at c1;omega
    refine loop (σ:=Nat) tbOk mtOk ⟨[],[(6,[0,1,2,3,4,5,6,7,8],[0,0,3,7,0,0,48,112,255])]⟩ (fun i=>[(13,.v (.int .i64 (i:Int))),(12,.v (.int .i64 (cs.length:Int))),(0,.v (.slice a cs.length fl)),(1,.v (.slice b ds.length fl'))]) (fun _=>[]) (fun i h'=>i≤cs.length∧h'=h∧cs.take i=ds.take i) (fun i=>cs.length - i) 400 0 (fun _=>rfl) ⟨rfl,rfl,rfl,rfl,trivial⟩ trivial ⟨Nat.zero_le _,rfl,rfl⟩ (fun i h' hI again => ?_)
    obtain ⟨i1,rfl,i3⟩:=hI
    refine cnd (fun c2 => ?_) (fun c2 => ?_)
    · have c2:i < cs.length:=by simpa using c2
      have c2':i < ds.length:=by omega
      obtain ⟨a,rfl⟩:=hs.some c2
      obtain ⟨b,rfl⟩:=hs'.some c2'
      refine And.intro (by kernel_rfl) ?_
      refine And.intro ⟨by omega,by omega⟩ ?_
      refine ⟨_,hs.ld cE2 c2,?_⟩
      refine And.intro ⟨by omega,by omega⟩ ?_
      refine ⟨_,hs'.ld cE2 c2',?_⟩
      have key:intsEq (cE cs[i]) (cE ds[i])=some (decide (cs[i]=ds[i])):=by
        show some _=_
        congr 1
        rw [Bool.eq_iff_iff]
        simp [Prod.ext_iff]
      refine cnd (fun c3 => ?_) (fun c3 => ?_)
      · have c3:cs[i]≠ds[i]:=fun e=>by rw [e] at c3;simp at c3
        refine And.intro ?_ rfl
        rw [decide_eq_false (fun e=>c3 (by subst e;rfl))]
      · have c3:cs[i]=ds[i]:=by simp at c3;exact Prod.ext c3.1 c3.2
        refine again (i+1) _ _ _ (by omega) ⟨vI (wz (by omega) (by omega)),rfl,rfl,rfl,trivial⟩ trivial ⟨by omega,rfl,take_eq c2 c2' i3 c3⟩
    · have c2:cs.length=i:=by simp at c2;omega
      refine And.intro ?_ rfl
      rw [← c2,List.take_length,c1,List.take_length] at i3
      rw [i3];simp
theorem gridSame_ok (g g':Gd) (a b:Option Addr) (fl fl':Nat) (h:Hp) (hs:Sls h cE 2 a g.cs) (hs':Sls h cE 2 b g'.cs) (hn:g.cs.length≤1048576):Tri X lo 101 [.agg #[.int .i64 g.w,.slice a g.cs.length fl],.agg #[.int .i64 g'.w,.slice b g'.cs.length fl']] h fun v h'=>v = .bool (decide (g=g'))∧h'=h:=by
  refine enter tbOk mtOk ⟨[],[]⟩ 400 Tryz.func101 rfl rfl rfl fun hlo => ?_
  refine cnd (fun c1 => ?_) (fun c1 => ?_)
  · have c1:g.w=g'.w:=by simpa using c1
    refine callP (EqualC_ok a b fl fl' g.cs g'.cs h hs hs' hn) ?_
    rintro v h1 ⟨rfl,rfl⟩
    refine And.intro ?_ rfl
    congr 1
    rw [decide_eq_decide]
    exact ⟨fun e=>Gd.ext' c1 e,fun e=>by rw [e]⟩
  · have c1:g.w≠g'.w:=by simpa using c1
    exact And.intro (by rw [decide_eq_false (fun e=>c1 (by rw [e]))]) rfl
theorem EqualFunc_ok (a b:Option Addr) (fl fl':Nat) (L L':List Value) (ll mm:List (List Int)) (h:Hp) (hs:FtV h a L ll) (hs':FtV h b L' mm) (hn:ll.length≤1048576) (hl:∀ l∈ll,l.length≤1048576):Tri X lo 103 [.slice a ll.length fl,.slice b mm.length fl',.func (.func 102) #[] #[]] h fun v h'=>v = .bool (decide (ll=mm))∧h'=h:=by
  refine enter tbOk mtOk ⟨[],[]⟩ 400 Tryz.func103 rfl rfl rfl fun hlo => ?_
  refine cnd (fun c1 => ?_) (fun c1 => ?_)
  · have c1:ll.length≠mm.length:=by simp at c1;omega
    exact And.intro (by rw [decide_eq_false (fun e=>c1 (congrArg List.length e))]) rfl
  · have c1:ll.length=mm.length:=by simp at c1;omega
    refine loop (σ:=Nat) tbOk mtOk ⟨[],[]⟩ (fun i=>[(17,.v (.int .i64 (i:Int))),(16,.v (.int .i64 (ll.length:Int))),(15,.v (.slice a ll.length fl)),(1,.v (.slice b mm.length fl')),(2,.v (.func (.func 102) #[] #[]))]) (fun _=>[]) (fun i h'=>i≤ll.length∧h'=h∧ll.take i=mm.take i) (fun i=>ll.length - i) 400 0 (fun _=>rfl) ⟨rfl,rfl,rfl,rfl,rfl,trivial⟩ trivial ⟨Nat.zero_le _,rfl,rfl⟩ (fun i h' hI again => ?_)
    obtain ⟨i1,rfl,i3⟩:=hI
    refine cnd (fun c2 => ?_) (fun c2 => ?_)
    · have c2:i < ll.length:=by simpa using c2
      have c2':i < mm.length:=by omega
      obtain ⟨a',xa,xf,rfl,xs,xl⟩:=hs.get c2
      obtain ⟨b',ya,yf,rfl,ys,yl⟩:=hs'.get c2'
      refine And.intro ⟨by omega,by omega⟩ ?_
      refine ⟨_,xl _ (Ext.refl _),?_⟩
      refine And.intro ⟨by omega,by omega⟩ ?_
      refine ⟨_,yl _ (Ext.refl _),?_⟩
      refine callP (EqualI_ok xa ya xf yf ll[i] mm[i] h' xs ys (hl _ (List.getElem_mem c2))) ?_
      rintro v h1 ⟨rfl,rfl⟩
      refine cnd (fun c3 => ?_) (fun c3 => ?_)
      · have c3:ll[i]≠mm[i]:=by simpa using c3
        refine And.intro ?_ rfl
        rw [decide_eq_false (fun e=>c3 (by subst e;rfl))]
      · have c3:ll[i]=mm[i]:=by simpa using c3
        refine again (i+1) _ _ _ (by omega) ⟨vI (wz (by omega) (by omega)),rfl,rfl,rfl,rfl,trivial⟩ trivial ⟨by omega,rfl,take_eq c2 c2' i3 c3⟩
    · have c2:ll.length=i:=by simp at c2;omega
      refine And.intro ?_ rfl
      rw [← c2,List.take_length,c1,List.take_length] at i3
      rw [i3];simp
theorem sceneSame_ok (s t:Sc) (ga la fa ga' la' fa':Option Addr) (gf lf ff gf' lf' ff':Nat) (L L':List Value) (h:Hp) (hs:ScR h s ga la fa L) (hs':ScR h t ga' la' fa' L') (hb:ScB s):Tri X lo 62 [scV s ga la fa gf lf ff,scV t ga' la' fa' gf' lf' ff'] h fun v h'=>v = .bool (decide (s=t))∧h'=h:=by
  refine enter tbOk mtOk ⟨[],[]⟩ 400 Tryz.func62 rfl rfl rfl fun hlo => ?_
  refine callP (gridSame_ok s.g t.g ga ga' gf gf' h hs.g hs'.g hb.g) ?_
  rintro v h1 ⟨rfl,rfl⟩
  refine cnd (fun c1 => ?_) (fun c1 => ?_)
  · have c1:s.g=t.g:=of_decide_eq_true c1
    refine callP (EqualI_ok la la' lf lf' s.li t.li h1 hs.li hs'.li hb.li) ?_
    rintro v h2 ⟨rfl,rfl⟩
    refine cnd (fun c2 => ?_) (fun c2 => ?_)
    · have c2:s.li=t.li:=of_decide_eq_true c2
      refine callP (EqualFunc_ok fa fa' ff ff' L L' s.ft t.ft h2 hs.ft hs'.ft hb.ft hb.el) ?_
      rintro v h3 ⟨rfl,rfl⟩
      refine And.intro ?_ rfl
      congr 1
      rw [decide_eq_decide]
      exact ⟨fun e=>Sc.ext' c1 c2 e,fun e=>by rw [e]⟩
    · have c2:s.li≠t.li:=of_decide_eq_false c2
      exact And.intro (by rw [decide_eq_false (fun e=>c2 (by rw [e]))]) rfl
  · have c1:s.g≠t.g:=of_decide_eq_false c1
    refine cndF ?_
    exact And.intro (by rw [decide_eq_false (fun e=>c1 (by rw [e]))]) rfl
end Go.Proofs.YtjpcfaddimlbdaaGreat.Id
namespace Go.Proofs.YtjpcfaddimlbdaaGreat.Id
open Go.Id
open Go.Proofs
set_option linter.unusedVariables false
set_option maxRecDepth 100000
variable {X:Ctx Tryz.prog} {lo:Nat}
theorem til_get {F:Nat→Cl} {n i:Nat} (h:i < n):(til F n)[i]? = some (F i):=by simp [til,h]
theorem rays_get (w hh k:Nat) (hk:k < 2*(w+hh)):(rays w hh)[k]? = some (if k < w then rD k else if k < w+hh then rL w (k - w) else if k < w+hh+w then rU w hh (k - (w+hh)) else rR w hh (k - (w+hh+w))):=by
  unfold rays
  by_cases h1:k < w
  · rw [if_pos h1,List.append_assoc,List.append_assoc,List.getElem?_append_left (by rw [til_len];exact h1),til_get h1]
  rw [if_neg h1]
  by_cases h2:k < w+hh
  · rw [if_pos h2,List.append_assoc,List.getElem?_append_left (by simp only [List.length_append,til_len];exact h2),List.getElem?_append_right (by rw [til_len];omega),til_len,til_get (by omega)]
  rw [if_neg h2]
  by_cases h3:k < w+hh+w
  · rw [if_pos h3,List.getElem?_append_left (by simp only [List.length_append,til_len];exact h3),List.getElem?_append_right (by simp [til_len];omega)]
    simp only [List.length_append,til_len]
    rw [til_get (by omega)]
  · rw [if_neg h3,List.getElem?_append_right (by simp [til_len];omega)]
    simp only [List.length_append,til_len]
    rw [til_get (by omega)]
theorem l2Back_ok (d:Int) (h:Hp) (hd:0≤d∧d≤3):Tri X lo 215 [.int .i64 d] h fun v h'=>v = .int .i64 ((d+2) % 4)∧Ext h h':=by
  refine enter tbOk mtOk ⟨[],[]⟩ 400 Tryz.func215 rfl rfl rfl fun hlo => ?_
  refine And.intro (by decide) ?_
  rw [wr (n:=d+2) (by omega) (by omega),Int.tmod_eq_emod_of_nonneg (by omega)]
  exact ⟨rfl,Ext.refl _⟩
theorem l3Ray_ok (w hh k:Nat) (a:Option Addr) (n fl:Nat) (h:Hp) (hw:1≤w∧w≤5) (hh1:1≤hh∧hh≤5) (hn:(n:Int)=(w:Int)*hh) (hk:k < 2*(w+hh)):Tri X lo 155 [.agg #[.int .i64 (w:Int),.slice a n fl],.int .i64 (k:Int)] h fun v h'=>(∃ r,(rays w hh)[k]? = some r∧v = .agg #[.int .i64 r.1,.int .i64 r.2])∧Ext h h':=by
  refine enter tbOk mtOk ⟨[],[]⟩ 400 Tryz.func155 rfl rfl rfl fun hlo => ?_
  have q5:=prod5 (i:=hh) (w:=w) (by omega) (by omega)
  rw [Int.mul_comm] at q5
  refine callP (high_ok w a n fl h (by omega) (by omega)) ?_
  rintro v h1 ⟨rfl,e1⟩
  have hd:(n:Int) / w=hh:=by rw [hn];exact Int.mul_ediv_cancel_left _ (by omega)
  rw [hd]
  have w1:IntKind.i64.wrap ((k:Int) - w)=(k:Int) - w:=wr (by omega) (by omega)
  have w2:IntKind.i64.wrap (IntKind.i64.wrap ((k:Int) - w) - hh)=(k:Int) - w - hh:=by rw [w1];exact wr (by omega) (by omega)
  have w3:IntKind.i64.wrap ((n:Int) - 1)=(n:Int) - 1:=wr (by omega) (by omega)
  refine cnd (fun c1 => ?_) (fun c1 => ?_)
  · have c1:k < w:=by simpa using c1
    exact And.intro ⟨rD k,by rw [rays_get w hh k hk,if_pos c1],rfl⟩ e1
  · have c1:¬ k < w:=by simpa using c1
    refine cnd (fun c2 => ?_) (fun c2 => ?_)
    · rw [w1] at c2
      have c2:k < w+hh:=by simp at c2;omega
      refine And.intro ⟨rL w (k - w),by rw [rays_get w hh k hk,if_neg c1,if_pos c2],?_⟩ e1
      show Value.agg #[.int .i64 (IntKind.i64.wrap (IntKind.i64.wrap (IntKind.i64.wrap (IntKind.i64.wrap ((k:Int) - w)*w)+w) - 1)),.int .i64 3] = .agg #[.int .i64 (((k - w:Nat):Int)*w+w - 1),.int .i64 3]
      have p1:=prod5 (i:=k - w) (w:=w) (by omega) (by omega)
      have ek:((k - w:Nat):Int)=(k:Int) - w:=by omega
      rw [ek] at p1 ⊢
      rw [w1,wr (n:=((k:Int) - w)*w) (by omega) (by omega),wr (n:=((k:Int) - w)*w+w) (by omega) (by omega),wr (by omega) (by omega)]
    · rw [w1] at c2
      have c2:¬ k < w+hh:=by simp at c2;omega
      refine cnd (fun c3 => ?_) (fun c3 => ?_)
      · rw [w2] at c3
        have c3:k < w+hh+w:=by simp at c3;omega
        refine And.intro ⟨rU w hh (k - (w+hh)),by rw [rays_get w hh k hk,if_neg c1,if_neg c2,if_pos c3],?_⟩ e1
        show Value.agg #[.int .i64 (IntKind.i64.wrap (IntKind.i64.wrap ((n:Int) - 1) - IntKind.i64.wrap (IntKind.i64.wrap ((k:Int) - w) - hh))),.int .i64 0] = .agg #[.int .i64 ((hh:Int)*w - 1 - ((k - (w+hh):Nat):Int)),.int .i64 0]
        rw [w2,w3,wr (by omega) (by omega),Int.mul_comm (hh:Int),← hn]
        congr 4;omega
      · rw [w2] at c3
        have c3:¬ k < w+hh+w:=by simp at c3;omega
        refine And.intro ⟨rR w hh (k - (w+hh+w)),by rw [rays_get w hh k hk,if_neg c1,if_neg c2,if_neg c3],?_⟩ e1
        show Value.agg #[.int .i64 (IntKind.i64.wrap (IntKind.i64.wrap (IntKind.i64.wrap (IntKind.i64.wrap ((n:Int) - 1) - w)+1) - IntKind.i64.wrap (IntKind.i64.wrap (IntKind.i64.wrap (IntKind.i64.wrap ((k:Int) - w) - hh) - w)*w))),.int .i64 1] = .agg #[.int .i64 (((hh:Int) - 1 - ((k - (w+hh+w):Nat):Int))*w),.int .i64 1]
        have p1:=prod5 (i:=k - (w+hh+w)) (w:=w) (by omega) (by omega)
        have ek:((k - (w+hh+w):Nat):Int)=(k:Int) - w - hh - w:=by omega
        rw [ek] at p1 ⊢
        rw [w2,w3,wr (n:=(k:Int) - w - hh - w) (by omega) (by omega),wr (n:=((k:Int) - w - hh - w)*w) (by omega) (by omega),wr (n:=(n:Int) - 1 - w) (by omega) (by omega),wr (n:=(n:Int) - 1 - w+1) (by omega) (by omega),wr (by omega) (by omega)]
        have hz:((hh:Int) - 1 - ((k:Int) - w - hh - w))*w=(n:Int) - w - ((k:Int) - w - hh - w)*w:=by
          rw [Int.sub_mul ((hh:Int) - 1),Int.sub_mul (hh:Int) 1,Int.one_mul,Int.mul_comm (hh:Int),← hn]
        rw [hz]
        congr 4;omega
end Go.Proofs.YtjpcfaddimlbdaaGreat.Id
namespace Go.Proofs.YtjpcfaddimlbdaaGreat.Tr
set_option linter.unusedVariables false
def swp (k:Int):Int:=if k=2 then 3 else if k=3 then 2 else if k=4 then 5 else if k=5 then 4 else k
structure Sym (w n:Int) (kd:Int→Int) (sg:Int→Int→Int) (w' n':Int) (kd':Int→Int) (sg':Int→Int→Int) (π δ σ:Int→Int):Prop where
  inn:∀ a,0≤a∧a < n→0≤π a∧π a < n'
  dir:∀ d,0≤d∧d≤3→0≤δ d∧δ d≤3
  kind:∀ a,0≤a∧a < n→kd' (π a)=swp (kd a)
  next:∀ a d,Ok n (a,d)→nxt w' n' (π a) (δ d)=(nxt w n a d).map π
  turn:∀ k d,0≤d∧d≤3→dirT (swp k) (δ d)=δ (dirT k d)
  out:∀ a d,Ok n (a,d)→nxt w n a d=none→sg' (π a) (δ d)=σ (sg a d)
section
variable {w n:Int} {kd:Int→Int} {sg:Int→Int→Int} {w' n':Int} {kd':Int→Int} {sg':Int→Int→Int} {π δ σ:Int→Int}
end
theorem rc {w h a:Int} (hw:1≤w) (a0:0≤a) (a1:a < w*h):∃ r c,a=r*w+c∧0≤c∧c < w∧0≤r∧r < h∧a / w=r∧a % w=c:=by
  have e:=Int.emod_add_mul_ediv a w
  have c0:=Int.emod_nonneg a (show w≠0 by omega)
  have c1:=Int.emod_lt_of_pos a (show 0 < w by omega)
  have r0:0≤a / w:=Int.ediv_nonneg a0 (by omega)
  have r1:a / w < h:=Int.ediv_lt_of_lt_mul (by omega) (by rw [Int.mul_comm];exact a1)
  exact ⟨a / w,a % w,by rw [Int.mul_comm];omega,c0,c1,r0,r1,rfl,rfl⟩
theorem rc_div {w r c:Int} (hc:0≤c) (hc':c < w):(r*w+c) / w=r∧(r*w+c) % w=c:=by
  constructor
  · rw [Int.add_comm,Int.add_mul_ediv_right _ _ (by omega),Int.ediv_eq_zero_of_lt hc hc',Int.zero_add]
  · rw [Int.add_comm,Int.add_mul_emod_self_right,Int.emod_eq_of_lt hc hc']
theorem rc_lt {w h r c:Int} (hw:1≤w) (r0:0≤r) (r1:r < h) (c0:0≤c) (c1:c < w):0≤r*w+c∧r*w+c < w*h:=by
  have h1:0≤r*w:=Int.mul_nonneg r0 (by omega)
  have h2:(r+1)*w≤h*w:=Int.mul_le_mul_of_nonneg_right (by omega) (by omega)
  rw [Int.add_mul,Int.one_mul] at h2
  rw [Int.mul_comm w h]
  omega
theorem nxt_rc {w h r c d:Int} (hw:1≤w) (r0:0≤r) (r1:r < h) (c0:0≤c) (c1:c < w):nxt w (w*h) (r*w+c) d =
    (if d=0 then (if 1≤r then some ((r - 1)*w+c) else none) else if d=1 then (if c≠w - 1 then some (r*w+(c+1)) else none) else if d=2 then (if r+1 < h then some ((r+1)*w+c) else none) else (if c≠0 then some (r*w+(c - 1)) else none)):=by
  have e:=(rc_div (r:=r) c0 c1).2
  unfold nxt
  have hr:(r*w+c≥w↔1≤r):=by
    constructor
    · intro hh
      rcases Int.lt_or_le r 1 with q | q
      · have:r=0:=by omega
        subst this;omega
      · exact q
    · intro q
      have:=Int.mul_le_mul_of_nonneg_right q (show 0≤w by omega)
      omega
  have hr2:(r*w+c+w < w*h↔r+1 < h):=by
    constructor
    · intro hh
      rcases Int.lt_or_le (r+1) h with q | q
      · exact q
      · have hh':r+1=h:=by omega
        rw [← hh',Int.mul_comm w,Int.add_mul,Int.one_mul] at hh
        omega
    · intro q
      have:=(rc_lt (h:=h) (r:=r+1) (c:=c) hw (by omega) q c0 c1).2
      rw [Int.add_mul,Int.one_mul] at this;omega
  rw [e]
  by_cases d0:d=0
  · rw [if_pos d0,if_pos d0]
    by_cases q:1≤r
    · rw [if_pos (hr.2 q),if_pos q,Int.sub_mul,Int.one_mul];congr 1;omega
    · rw [if_neg (fun x=>q (hr.1 x)),if_neg q]
  rw [if_neg d0,if_neg d0]
  by_cases d1:d=1
  · rw [if_pos d1,if_pos d1]
    by_cases q:c≠w - 1
    · rw [if_pos q,if_pos q];congr 1;omega
    · rw [if_neg q,if_neg q]
  rw [if_neg d1,if_neg d1]
  by_cases d2:d=2
  · rw [if_pos d2,if_pos d2]
    by_cases q:r+1 < h
    · rw [if_pos (hr2.2 q),if_pos q,Int.add_mul,Int.one_mul];congr 1;omega
    · rw [if_neg (fun x=>q (hr2.1 x)),if_neg q]
  rw [if_neg d2,if_neg d2]
  by_cases q:c≠0
  · rw [if_pos q,if_pos q];congr 1;omega
  · rw [if_neg q,if_neg q]
section
variable {w h r c:Int} (hw:1≤w) (r0:0≤r) (r1:r < h) (c0:0≤c) (c1:c < w)
include hw r0 r1 c0 c1
end
end Go.Proofs.YtjpcfaddimlbdaaGreat.Tr
namespace Go.Proofs.YtjpcfaddimlbdaaGreat.Id
open Go.Id
open Go.Proofs
set_option linter.unusedVariables false
set_option maxRecDepth 100000
variable {X:Ctx Tryz.prog} {lo:Nat}
theorem many_nat' {g:Gd} {w hh:Nat} (h1:g.w=w) (h2:g.hi=hh):many g=2*((w:Int)+hh):=by unfold many;rw [h1,h2]
theorem rays_nodup {w hh:Nat} (hw:1≤w∧w≤5) (hh1:1≤hh∧hh≤5):(rays w hh).Nodup:=by
  have:∀ w:Fin 5,∀ hh:Fin 5,(rays (w.val+1) (hh.val+1)).Nodup:=by decide +kernel
  have:=this ⟨w - 1,by omega⟩ ⟨hh - 1,by omega⟩
  simp only at this
  rwa [Nat.sub_add_cancel hw.1,Nat.sub_add_cancel hh1.1] at this
theorem lastIx_none {x:Cl} (l:List Cl) (h:∀ y∈l,y≠x):lastIx l x = -1:=by
  have:∀ (l:List Cl) (p:Nat×Int),(∀ y∈l,y≠x)→(l.foldl (fun (p:Nat×Int) y=>(p.1+1,if y=x then (p.1:Int) else p.2)) p).2=p.2:=by
    intro l
    induction l with
    | nil=>intro p _;rfl
    | cons y l ih=>intro p h;rw [List.foldl_cons,ih _ fun z hz=>h z (by simp [hz])];simp [h y (by simp)]
  exact this l (0,-1) h
theorem lastIx_at {x:Cl} {l:List Cl} (hd:l.Nodup) {k:Nat} (h:l[k]? = some x):lastIx l x=k:=by
  obtain ⟨hk,he⟩:=List.getElem?_eq_some_iff.1 h
  have e:l=(l.take k++[x])++l.drop (k+1):=by
    rw [← he,← List.take_succ_eq_append_getElem hk,List.take_append_drop]
  rw [e] at hd
  have hnot:∀ y∈l.drop (k+1),y≠x:=fun y hy e'=>by
    subst e'
    exact (List.nodup_append.1 hd).2.2 y (by simp) y hy rfl
  have key:∀ (m l:List Cl),(∀ y∈m,y≠x)→lastIx (l++m) x=lastIx l x:=by
    intro m
    induction m with
    | nil=>intro l _;rw [List.append_nil]
    | cons y m ih =>
      intro l h
      rw [show l++y::m=(l++[y])++m from by simp,ih _ fun z hz=>h z (by simp [hz]),lastIx_snoc,if_neg (h y (by simp))]
  rw [e,key _ _ hnot,lastIx_snoc,if_pos rfl,List.length_take,Nat.min_eq_left (Nat.le_of_lt hk)]
theorem l3Of_ok (g:Gd) (at_ d:Int) (ad:Option Addr) (fl:Nat) (h:Hp) (hg:gOk g=true) (hd:0≤d∧d≤3):Tri X lo 209 [.agg #[.int .i64 g.w,.slice ad g.cs.length fl],.int .i64 at_,.int .i64 d] h fun v h'=>v = .int .i64 (sightOf g at_ d)∧Ext h h':=by
  refine enter tbOk mtOk ⟨[],[]⟩ 400 Tryz.func209 rfl rfl rfl fun hlo => ?_
  obtain ⟨w,hh,q1,q2,q3,q4,q5⟩:=gOk_nat hg
  have p5:=prod5 (i:=hh) (w:=w) (by omega) (by omega)
  rw [Int.mul_comm] at p5
  have hm:=many_nat' q1 q2
  have hsr:sideRays g=rays w hh:=by unfold sideRays;rw [q1,q2];rfl
  have hso:sightOf g at_ d=lastIx (rays w hh) (at_,(d+2) % 4):=by unfold sightOf;rw [if_pos ⟨hg,hd⟩,hsr]
  have hlen:(rays w hh).length=2*(w+hh):=by have:=sideRays_len hg;rw [hsr,hm] at this;omega
  have hro:=rays_ok q3 q4
  refine loop (σ:=Nat) tbOk mtOk ⟨[],[]⟩ (fun k=>[(7,.v (.int .i64 (k:Int))),(3,.l 0 0),(1,.v (.int .i64 at_)),(2,.v (.int .i64 d))]) (fun _=>[[.int .i64 g.w,.slice ad g.cs.length fl]]) (fun k h'=>k≤2*(w+hh)∧Ext h h'∧∀ j < k,(rays w hh)[j]? ≠ some (at_,(d+2) % 4)) (fun k=>2*(w+hh) - k) 400 0 (fun _=>rfl) ⟨rfl,rfl,rfl,rfl,trivial⟩ ⟨rfl,trivial⟩ ⟨by omega,Ext.refl _,fun j hj=>by omega⟩ (fun k h' hI again => ?_)
  obtain ⟨i1,i2,i3⟩:=hI
  refine callP (l3Many_ok g ad fl h' hg (by omega)) ?_
  rintro v h1 ⟨rfl,e1⟩
  refine cnd (fun c1 => ?_) (fun c1 => ?_)
  · have c1:(k:Int) < many g:=by simpa using c1
    rw [hm] at c1
    have S:=l3Ray_ok (X:=X) (lo:=lo) w hh k ad g.cs.length fl h1 q3 q4 q5 (by omega)
    rw [← q1] at S
    refine callP S ?_
    rintro v h2 ⟨⟨r,hr,rfl⟩,e2⟩
    have hrm:=hro r (List.mem_of_getElem? hr)
    have e3:=(i2.trans e1).trans e2
    have next:r≠(at_,(d+2) % 4)→∀ j < k+1,(rays w hh)[j]? ≠ some (at_,(d+2) % 4):=fun hne j hj=>by
      by_cases hjk:j=k
      · subst hjk;rw [hr];exact fun e=>hne (Option.some.inj e)
      · exact i3 j (by omega)
    have hw1:some (Sl.v (.int .i64 (IntKind.i64.wrap ((k:Int)+1))))=some (Sl.v (.int .i64 ((k+1:Nat):Int))):=by rw [wr (by omega) (by omega)];rfl
    refine cnd (fun c2 => ?_) (fun c2 => ?_)
    · have c2:r.1=at_:=by simpa using c2
      refine callP (l2Back_ok r.2 h2 hrm.2) ?_
      rintro v h3 ⟨rfl,e4⟩
      refine cnd (fun c3 => ?_) (fun c3 => ?_)
      · have c3:(r.2+2) % 4=d:=by simpa using c3
        have hrr:r=(at_,(d+2) % 4):=by
          obtain ⟨r1,r2⟩:=r
          simp only at c2 c3 hrm
          rw [c2];congr 1;omega
        refine And.intro ?_ (e3.trans e4)
        show Value.int .i64 (k:Int)=_
        rw [hso,lastIx_at (rays_nodup q3 q4) (hrr▸hr)]
      · have c3:(r.2+2) % 4≠d:=by simpa using c3
        refine again (k+1) _ _ _ (by omega) ⟨hw1,rfl,rfl,rfl,trivial⟩ ⟨rfl,trivial⟩ ⟨by omega,e3.trans e4,next fun e=>c3 ?_⟩
        subst e;show ((d+2) % 4+2) % 4=d;omega
    · have c2:r.1≠at_:=by simpa using c2
      refine cndF ?_
      refine again (k+1) _ _ _ (by omega) ⟨hw1,rfl,rfl,rfl,trivial⟩ ⟨rfl,trivial⟩ ⟨by omega,e3,next fun e=>c2 (by rw [e])⟩
  · have c1:¬ (k:Int) < many g:=by simpa using c1
    rw [hm] at c1
    refine And.intro ?_ (i2.trans e1)
    rw [hso,lastIx_none]
    intro y hy e
    obtain ⟨j,hj⟩:=List.mem_iff_getElem?.1 hy
    have hjl:=(List.getElem?_eq_some_iff.1 hj).1
    exact i3 j (by omega) (by rw [hj,e])
end Go.Proofs.YtjpcfaddimlbdaaGreat.Id
namespace Go.Proofs.YtjpcfaddimlbdaaGreat.Id
open Go.Id
open Go.Proofs
set_option linter.unusedVariables false
set_option maxRecDepth 100000
variable {X:Ctx Tryz.prog} {lo:Nat}
theorem sDirTurn_ok (k d:Int) (h:Hp) (hd:0≤d∧d≤3):Tri X lo 180 [.int .i64 k,.int .i64 d] h fun v h'=>v = .int .i64 (Tr.dirT k d)∧Ext h h':=by
  refine enter tbOk mtOk ⟨[],[]⟩ 400 Tryz.func180 rfl rfl rfl fun hlo => ?_
  refine callP (l6In_ok d 0 3 h) ?_
  rintro v h1 ⟨rfl,rfl⟩
  have hc:(decide (0≤d)&&decide (d≤3))=true:=by simp;exact hd
  refine cnd (fun c1=>by rw [hc] at c1;cases c1) (fun _ => ?_)
  have x1:∀ d:Int,0≤d∧d≤3→IntKind.i64.wrap ↑(BitVec.ofInt IntKind.i64.bits d ^^^ BitVec.ofInt IntKind.i64.bits 1).toNat=(if d=0 then 1 else if d=1 then 0 else if d=2 then 3 else 2):=by
    intro d hd
    obtain rfl | rfl | rfl | rfl:d=0∨d=1∨d=2∨d=3:=by omega
    all_goals decide
  have x2:IntKind.i64.wrap (3 - d)=3 - d:=wr (by omega) (by omega)
  refine cnd (fun c1 => ?_) (fun c1 => ?_)
  · have c1:k=2:=by simpa using c1
    refine And.intro ?_ (Ext.refl _)
    rw [x1 d hd];unfold Tr.dirT;rw [if_pos (show k=2∨k=4 from .inl c1)]
  · have c1:k≠2:=by simpa using c1
    refine cnd (fun c2 => ?_) (fun c2 => ?_)
    · have c2:k=4:=by simpa using c2
      refine And.intro ?_ (Ext.refl _)
      rw [x1 d hd];unfold Tr.dirT;rw [if_pos (show k=2∨k=4 from .inr c2)]
    · have c2:k≠4:=by simpa using c2
      refine cnd (fun c3 => ?_) (fun c3 => ?_)
      · have c3:k=3:=by simpa using c3
        refine And.intro ?_ (Ext.refl _)
        rw [x2];unfold Tr.dirT;rw [if_neg (show ¬ (k=2∨k=4) by omega),if_pos (show k=3∨k=5 from .inl c3)]
      · have c3:k≠3:=by simpa using c3
        refine cnd (fun c4 => ?_) (fun c4 => ?_)
        · have c4:k=5:=by simpa using c4
          refine And.intro ?_ (Ext.refl _)
          rw [x2];unfold Tr.dirT;rw [if_neg (show ¬ (k=2∨k=4) by omega),if_pos (show k=3∨k=5 from .inr c4)]
        · have c4:k≠5:=by simpa using c4
          refine And.intro ?_ (Ext.refl _)
          unfold Tr.dirT;rw [if_neg (show ¬ (k=2∨k=4) by omega),if_neg (show ¬ (k=3∨k=5) by omega)]
def dr4 (a b c e d:Int):Int:=if d=0 then a else if d=1 then b else if d=2 then c else e
theorem ld4 {h:Hp} {a b c e d:Int} (hd:0≤d∧d≤3):Ld (h.push (.cells [.int .i64 a,.int .i64 b,.int .i64 c,.int .i64 e] 1 0)) (addA ⟨h.n,0,some 0⟩ (d.toNat*1)) 1 [.int .i64 (dr4 a b c e d)]:=by
  have:=((Row.push (h:=h) (e:=0) (enc:=iE) (sz:=1) (l:=[a,b,c,e])).sls fun _=>rfl).ld (fun _=>rfl) (i:=d.toNat) (by simp;omega)
  obtain rfl | rfl | rfl | rfl:d=0∨d=1∨d=2∨d=3:=by omega
  all_goals exact this
theorem nxt_by {w h r c d:Int} (hw:1≤w) (r0:0≤r) (r1:r < h) (c0:0≤c) (c1:c < w) (hd:0≤d∧d≤3):Tr.nxt w (w*h) (r*w+c) d =
    if (0≤r+dr4 (-1) 0 1 0 d∧r+dr4 (-1) 0 1 0 d≤h - 1)∧(0≤c+dr4 0 1 0 (-1) d∧c+dr4 0 1 0 (-1) d≤w - 1) then some ((r+dr4 (-1) 0 1 0 d)*w+(c+dr4 0 1 0 (-1) d)) else none:=by
  rw [Tr.nxt_rc hw r0 r1 c0 c1]
  obtain rfl | rfl | rfl | rfl:d=0∨d=1∨d=2∨d=3:=by omega
  · simp only [dr4,if_true]
    by_cases q:1≤r
    · rw [if_pos q,if_pos (by omega)];congr 2;omega
    · rw [if_neg q,if_neg (by omega)]
  · simp only [dr4,if_true,show ¬ (1:Int)=0 from by decide,if_false]
    by_cases q:c≠w - 1
    · rw [if_pos q,if_pos (by omega),Int.add_zero]
    · rw [if_neg q,if_neg (by omega)]
  · simp only [dr4,if_true,show ¬ (2:Int)=0 from by decide,show ¬ (2:Int)=1 from by decide,if_false]
    by_cases q:r+1 < h
    · rw [if_pos q,if_pos (by omega),Int.add_zero]
    · rw [if_neg q,if_neg (by omega)]
  · simp only [dr4,show ¬ (3:Int)=0 from by decide,show ¬ (3:Int)=1 from by decide,show ¬ (3:Int)=2 from by decide,if_false]
    by_cases q:c≠0
    · rw [if_pos q,if_pos (by omega),Int.add_zero];congr 1
    · rw [if_neg q,if_neg (by omega)]
theorem dr4_le {a b c e d:Int} (ha : -1≤a∧a≤1) (hb : -1≤b∧b≤1) (hc : -1≤c∧c≤1) (he : -1≤e∧e≤1) : -1≤dr4 a b c e d∧dr4 a b c e d≤1:=by
  unfold dr4
  split
  · exact ha
  · split
    · exact hb
    · split
      · exact hc
      · exact he
theorem l2Next_ok (g:Gd) (at_ d:Int) (ad:Option Addr) (fl:Nat) (h:Hp) (hg:gOk g=true) (ha:0≤at_∧at_ < g.cs.length) (hd:0≤d∧d≤3):Tri X lo 208 [.agg #[.int .i64 g.w,.slice ad g.cs.length fl],.int .i64 at_,.int .i64 d] h
    fun v h'=>v=(match Tr.nxt g.w g.cs.length at_ d with | some b => .tuple #[.agg #[.int .i64 b,.int .i64 d],.bool true] | none => .tuple #[.agg #[.int .i64 0,.int .i64 0],.bool false])∧Ext h h':=by
  refine enter tbOk mtOk ⟨[],[(1,[0,1,2,3,5,4,6,7,8,9],[0,0,2,7,0,0,48,112,255,511]),(2,[0,1,2,3,5,4,6,7,8,9],[0,0,2,7,0,0,48,112,255,511])]⟩ 400 Tryz.func208 rfl rfl rfl fun hlo => ?_
  obtain ⟨w,hh,q1,q2,q3,q4,q5⟩:=gOk_nat hg
  have hw0:g.w≠0:=by omega
  refine And.intro (by kernel_rfl) ?_
  refine And.intro hw0 ?_
  refine And.intro Is.r ?_
  refine And.intro ⟨hd.1,by show d < 4;omega⟩ ?_
  refine ⟨_,ld4 hd,?_⟩
  refine And.intro (by kernel_rfl) ?_
  refine And.intro hw0 ?_
  refine And.intro Is.r ?_
  refine And.intro ⟨hd.1,by show d < 4;omega⟩ ?_
  refine ⟨_,ld4 hd,?_⟩
  have p5:=prod5 (i:=hh) (w:=w) (by omega) (by omega)
  rw [Int.mul_comm] at p5
  refine callP (high_ok g.w ad g.cs.length fl _ (by omega) (by omega)) ?_
  rintro v h1 ⟨rfl,e1⟩
  have e:Ext h h1:=((Ext.push _ _).trans (Ext.push _ _)).trans e1
  obtain ⟨r,c,a1,a2,a3,a4,a5,a6,a7⟩:=Tr.rc (w:=g.w) (h:=hh) (a:=at_) (by omega) ha.1 (by rw [q1,← q5];exact ha.2)
  have hnx:=nxt_by (w:=g.w) (h:=hh) (by omega) a4 a5 a2 a3 hd
  rw [← a1,q1,← q5,← q1] at hnx
  have d1:=dr4_le (a := -1) (b:=0) (c:=1) (e:=0) (d:=d) (by decide) (by decide) (by decide) (by decide)
  have d2:=dr4_le (a:=0) (b:=1) (c:=0) (e := -1) (d:=d) (by decide) (by decide) (by decide) (by decide)
  generalize dr4 (-1) 0 1 0 d=dr at *
  generalize dr4 0 1 0 (-1) d=dc at *
  have hR:IntKind.i64.wrap (IntKind.i64.wrap (at_.tdiv g.w)+dr)=r+dr:=by
    rw [Int.tdiv_eq_ediv_of_nonneg ha.1,a6,wr (n:=r) (by omega) (by omega),wr (by omega) (by omega)]
  have hC:IntKind.i64.wrap (at_.tmod g.w+dc)=c+dc:=by
    rw [Int.tmod_eq_emod_of_nonneg ha.1,a7,wr (by omega) (by omega)]
  have hH:IntKind.i64.wrap ((g.cs.length:Int) / g.w - 1)=hh - 1:=by
    have:(g.cs.length:Int) / g.w=hh:=by rw [← q2];rfl
    rw [this,wr (by omega) (by omega)]
  have hW:IntKind.i64.wrap (g.w - 1)=g.w - 1:=wr (by omega) (by omega)
  refine callP (l6In_ok _ _ _ _) ?_
  rintro v h2 ⟨rfl,rfl⟩
  rw [hnx]
  refine cnd (fun c1 => ?_) (fun c1 => ?_)
  · rw [hR,hH] at c1
    refine cndT ?_
    refine And.intro ?_ e
    rw [if_neg (by simp at c1;omega)]
    rfl
  · rw [hR,hH] at c1
    refine callP (l6In_ok _ _ _ _) ?_
    rintro v h3 ⟨rfl,rfl⟩
    refine cnd (fun c2 => ?_) (fun c2 => ?_)
    · rw [hC,hW] at c2
      refine And.intro ?_ e
      rw [if_neg (by simp at c1 c2;omega)]
      rfl
    · rw [hC,hW] at c2
      have hr:0≤r+dr∧r+dr≤hh - 1:=by simpa using c1
      have hc:0≤c+dc∧c+dc≤g.w - 1:=by simpa using c2
      refine And.intro ?_ e
      rw [if_pos ⟨hr,hc⟩]
      show Value.tuple #[.agg #[.int .i64 (IntKind.i64.wrap (IntKind.i64.wrap (IntKind.i64.wrap (IntKind.i64.wrap (at_.tdiv g.w)+dr)*g.w)+IntKind.i64.wrap (at_.tmod g.w+dc))),.int .i64 d],.bool true]=_
      have m1:(r+dr)*g.w≤5*5:=Int.mul_le_mul (by omega) (by omega) (by omega) (by omega)
      have m2:0≤(r+dr)*g.w:=Int.mul_nonneg hr.1 (by omega)
      rw [hR,hC,wr (n:=(r+dr)*g.w) (by omega) (by omega),wr (by omega) (by omega)]
end Go.Proofs.YtjpcfaddimlbdaaGreat.Id
namespace Go.Proofs.YtjpcfaddimlbdaaGreat.Id
open Go.Id
open Go.Proofs
set_option linter.unusedVariables false
set_option maxRecDepth 100000
variable {X:Ctx Tryz.prog} {lo:Nat}
structure MW (lo:Nat) (h0 h:Hp) (g:Gd) (ad:Option Addr) (fl wb:Nat) (o1:Option (Nat×Nat)) (vs:List V3) (o2:Option (Nat×Nat)) (es:List V3):Prop where
  bx:Bx h wb [.int .i64 g.w,.slice ad g.cs.length fl,gv o1 vs.length,gv o2 es.length]
  g1:Gw lo h vE 3 o1 vs
  g2:Gw lo h vE 3 o2 es
  s1:¬isB o1 wb
  s2:¬isB o2 wb
  s6:∀ i,isB o1 i→¬isB o2 i
  l1:∀ i,isB o1 i→h0.n≤i
  l2:∀ i,isB o2 i→h0.n≤i
  l4:h0.n≤wb
  l5:lo≤h0.n
  ext:Ext h0 h
section
variable {h0 h h':Hp} {g:Gd} {ad:Option Addr} {fl wb:Nat} {o1 o2:Option (Nat×Nat)} {vs es:List V3}
theorem MW.up (m:MW lo h0 h g ad fl wb o1 vs o2 es) (e:Ext h h'):MW lo h0 h' g ad fl wb o1 vs o2 es :=
  ⟨m.bx.ext e,m.g1.ext e,m.g2.ext e,m.s1,m.s2,m.s6,m.l1,m.l2,m.l4,m.l5,m.ext.trans e⟩
theorem send_ok (k a w:Int) (m:MW lo h0 h g ad fl wb o1 vs o2 es) (hm:es.length+1≤Id.maxLen):Tri X lo 178 [.pointer (some ⟨wb,0,none⟩),.int .i64 k,.int .i64 a,.int .i64 w] h fun v h'=>∃ o2',MW lo h0 h' g ad fl wb o1 vs o2' (es++Tr.en k a w):=by
  refine enter tbOk mtOk ⟨[],[]⟩ 400 Tryz.func178 rfl rfl rfl fun hlo => ?_
  refine cnd (fun c1 => ?_) (fun c1 => ?_)
  · have c1:w > 0:=by simpa using c1
    have hen:Tr.en k a w=[(k,a,w)]:=if_pos c1
    rw [hen]
    refine ⟨_,m.bx.ldF (i:=3) rfl,?_⟩
    have xp:Ext h (h.push (.cells (vE (k,a,w)) 3 0)):=Ext.push _ _
    obtain ⟨b,e,h2,ap,gw,gr⟩:=(m.g2.ext xp).app vE3 (by decide) hm (Nat.le_trans hlo xp.n) (k,a,w)
    refine ⟨vE (k,a,w),one_cells rfl,_,_,ap,?_⟩
    have hlt:=m.bx.lt
    have xn:=xp.n
    have hb2:Bx h2 wb [.int .i64 g.w,.slice ad g.cs.length fl,gv o1 vs.length,gv o2 es.length]:=⟨Nat.lt_of_lt_of_le m.bx.lt (Nat.le_trans xp.n gr.n),(gr.g wb (Nat.lt_of_lt_of_le m.bx.lt xp.n) m.s2).trans (m.bx.ext xp).g⟩
    refine ⟨_,hb2.stF (i:=3) (Nat.le_trans m.l5 m.l4) (Nat.le_refl 4),?_⟩
    have old:∀ j,j < h.n→¬isB o2 j→¬isB (some (b,e)) j:=fun j hj h1 q=>by
      rcases gr.b j q with q | q
      · exact h1 q
      · omega
    have hnb:=old wb hlt m.s2
    refine ⟨some (b,e),hb2.set,?_,gw.off hnb _,m.s1,hnb,fun i hi q=>old i (m.g1.lt hi).1 (m.s6 i hi) q,m.l1,fun i hi => ?_,m.l4,m.l5,⟨Nat.le_trans m.ext.n (Nat.le_trans xn gr.n),fun i hi => ?_⟩⟩
    · exact (m.g1.keep (Nat.le_trans xn gr.n) fun i hi hb=>(gr.g i (Nat.lt_of_lt_of_le hi xn) (m.s6 i hb)).trans (xp.g i hi)).off m.s1 _
    · rcases gr.b i hi with q | q
      · exact m.l2 i q
      · have:=m.ext.n;omega
    · have:=m.l4
      have hn:=m.ext.n
      simp only [Hp.set];rw [if_neg (by omega)]
      exact ((gr.g i (by omega) fun q=>by have:=m.l2 i q;omega).trans (xp.g i (by omega))).trans (m.ext.g i hi)
  · have c1:¬ w > 0:=by simpa using c1
    have hen:Tr.en k a w=[]:=if_neg c1
    rw [hen,List.append_nil]
    exact ⟨o2,m⟩
theorem MW.vis {x:V3} (m:MW lo h0 h g ad fl wb o1 vs o2 es) (hm:vs.length+1≤Id.maxLen):∃ b e h2,Ap lo (h.push (.cells (vE x) 3 0)) 3 (gv o1 vs.length) (vE x) 1 (gv (some (b,e)) (vs++[x]).length) h2∧Bx h2 wb [.int .i64 g.w,.slice ad g.cs.length fl,gv o1 vs.length,gv o2 es.length] ∧
    MW lo h0 (h2.set wb (.cells [.int .i64 g.w,.slice ad g.cs.length fl,gv (some (b,e)) (vs++[x]).length,gv o2 es.length] 0 0)) g ad fl wb (some (b,e)) (vs++[x]) o2 es:=by
  have xp:Ext h (h.push (.cells (vE x) 3 0)):=Ext.push _ _
  have xn:=xp.n
  have hlt:=m.bx.lt
  obtain ⟨b,e,h2,ap,gw,gr⟩:=(m.g1.ext xp).app vE3 (by decide) hm (Nat.le_trans (Nat.le_trans m.l5 m.ext.n) xp.n) x
  have hb2:Bx h2 wb [.int .i64 g.w,.slice ad g.cs.length fl,gv o1 vs.length,gv o2 es.length]:=⟨Nat.lt_of_lt_of_le m.bx.lt (Nat.le_trans xp.n gr.n),(gr.g wb (Nat.lt_of_lt_of_le m.bx.lt xp.n) m.s1).trans (m.bx.ext xp).g⟩
  have old:∀ j,j < h.n→¬isB o1 j→¬isB (some (b,e)) j:=fun j hj h1 q=>by
    rcases gr.b j q with q | q
    · exact h1 q
    · omega
  have hnb:=old wb hlt m.s1
  refine ⟨b,e,h2,ap,hb2,hb2.set,gw.off hnb _,?_,hnb,m.s2,fun i hi q => ?_,fun i hi => ?_,m.l2,m.l4,m.l5,⟨Nat.le_trans m.ext.n (Nat.le_trans xn gr.n),fun i hi => ?_⟩⟩
  · exact (m.g2.keep (Nat.le_trans xn gr.n) fun i hi hb=>(gr.g i (Nat.lt_of_lt_of_le hi xn) fun q=>m.s6 i q hb).trans (xp.g i hi)).off m.s2 _
  · exact old i (m.g2.lt q).1 (fun q'=>m.s6 i q' q) hi
  · rcases gr.b i hi with q | q
    · exact m.l1 i q
    · have:=m.ext.n;omega
  · have:=m.l4
    have hn:=m.ext.n
    simp only [Hp.set];rw [if_neg (by omega)]
    exact ((gr.g i (by omega) fun q=>by have:=m.l1 i q;omega).trans (xp.g i (by omega))).trans (m.ext.g i hi)
end
def ComeOk (X:Ctx Tryz.prog) (lo:Nat) (h0:Hp) (g:Gd) (ad:Option Addr) (fl wb:Nat) (go:Int→Int→Int→Option Tr.Tr) (f:FuncId):Prop :=
  ∀ (a d wt:Int) (t:Tr.Tr) (o1:Option (Nat×Nat)) (vs:List V3) (o2:Option (Nat×Nat)) (es:List V3) (h:Hp),(0≤a∧a < g.cs.length)→(0≤d∧d≤3)→(0≤wt∧wt≤64)→go a d wt=some t→MW lo h0 h g ad fl wb o1 vs o2 es→vs.length+t.1.length≤100000→es.length+t.2.length≤100000 →
    Tri X lo f [.pointer (some ⟨wb,0,none⟩),.int .i64 a,.int .i64 d,.int .i64 wt] h fun v h'=>∃ o1' o2',MW lo h0 h' g ad fl wb o1' (vs++t.1) o2' (es++t.2)
section
variable {h0:Hp} {g:Gd} {ad:Option Addr} {fl wb:Nat} {go:Int→Int→Int→Option Tr.Tr}
theorem leave_ok (hs:Sls h0 cE 2 ad g.cs) (hg:gOk g=true) (IH:ComeOk X lo h0 g ad fl wb go 156) :
    ∀ (a d wt:Int) (t:Tr.Tr) (o1:Option (Nat×Nat)) (vs:List V3) (o2:Option (Nat×Nat)) (es:List V3) (h:Hp),(0≤a∧a < g.cs.length)→(0≤d∧d≤3)→(0 < wt∧wt≤64)→Tr.lv g.w g.cs.length (sightOf g) go a d wt=some t→MW lo h0 h g ad fl wb o1 vs o2 es→vs.length+t.1.length≤100000→es.length+t.2.length≤100000 →
    Tri X lo 181 [.pointer (some ⟨wb,0,none⟩),.int .i64 a,.int .i64 d,.int .i64 wt] h fun v h'=>∃ o1' o2',MW lo h0 h' g ad fl wb o1' (vs++t.1) o2' (es++t.2):=by
  intro a d wt t o1 vs o2 es h ha hd hw ht m l1 l2
  refine enter tbOk mtOk ⟨[],[]⟩ 400 Tryz.func181 rfl rfl rfl fun hlo => ?_
  refine ⟨_,m.bx.ldF (i:=0) rfl,?_⟩
  refine callP (l2Next_ok g a d ad fl h hg ha hd) ?_
  rintro v h1 ⟨rfl,e1⟩
  unfold Tr.lv at ht
  rw [if_neg (by omega)] at ht
  have n5:(g.cs.length:Int)≤25:=by
    obtain ⟨w,hh,q1,q2,q3,q4,q5⟩:=gOk_nat hg
    have:=prod5 (i:=hh) (w:=w) (by omega) (by omega)
    rw [Int.mul_comm] at this
    omega
  cases hnx:Tr.nxt g.w g.cs.length a d with
  | none =>
    rw [hnx] at ht
    cases ht
    refine cndF ?_
    refine ⟨_,(m.up e1).bx.ldF (i:=0) rfl,?_⟩
    refine callP (l3Of_ok g a d ad fl h1 hg hd) ?_
    rintro v h2 ⟨rfl,e2⟩
    refine callP (send_ok 0 (sightOf g a d) wt (m.up (e1.trans e2)) (by simp at l2;unfold Id.maxLen;omega)) ?_
    rintro v h3 ⟨o2',m'⟩
    have:Tr.en 0 (sightOf g a d) wt=[(0,sightOf g a d,wt)]:=if_pos (by omega)
    rw [this] at m'
    exact ⟨o1,o2',by simpa using m'⟩
  | some a' =>
    rw [hnx] at ht
    refine cndT ?_
    have ha':=Tr.nxt_in (gOk_iff.1 hg).1 (gOk_iff.1 hg).2.2.2.2.1 ha hd hnx
    exact callP (IH a' d wt t o1 vs o2 es h1 ha' hd (by omega) ht (m.up e1) l1 l2) fun v h' q=>q
theorem half_ok (hs:Sls h0 cE 2 ad g.cs) (hg:gOk g=true) (IH:ComeOk X lo h0 g ad fl wb go 156) :
    ∀ (a d wt:Int) (t:Tr.Tr) (o1:Option (Nat×Nat)) (vs:List V3) (o2:Option (Nat×Nat)) (es:List V3) (h:Hp),(0≤a∧a < g.cs.length)→(0≤d∧d≤3)→(0≤wt∧wt≤64)→Tr.lv g.w g.cs.length (sightOf g) go a d wt=some t→MW lo h0 h g ad fl wb o1 vs o2 es→vs.length+t.1.length≤100000→es.length+t.2.length≤100000 →
    Tri X lo 179 [.pointer (some ⟨wb,0,none⟩),.int .i64 a,.int .i64 d,.int .i64 wt] h fun v h'=>∃ o1' o2',MW lo h0 h' g ad fl wb o1' (vs++t.1) o2' (es++t.2):=by
  intro a d wt t o1 vs o2 es h ha hd hw ht m l1 l2
  refine enter tbOk mtOk ⟨[],[]⟩ 400 Tryz.func179 rfl rfl rfl fun hlo => ?_
  refine cnd (fun c1 => ?_) (fun c1 => ?_)
  · have c1:wt > 0:=by simpa using c1
    exact callP (leave_ok hs hg IH a d wt t o1 vs o2 es h ha hd ⟨c1,hw.2⟩ ht m l1 l2) fun v h' q=>q
  · have c1:¬ wt > 0:=by simpa using c1
    unfold Tr.lv at ht
    rw [if_pos (by omega)] at ht
    cases ht
    exact ⟨o1,o2,by simpa using m⟩
theorem en_le (k a w:Int):(Tr.en k a w).length≤1:=by unfold Tr.en;split<;>simp
theorem come_ok (hs:Sls h0 cE 2 ad g.cs) (hg:gOk g=true):∀ q:Nat,ComeOk X lo h0 g ad fl wb (Tr.go g.w g.cs.length (kdG g) (sightOf g) q) 156:=by
  intro q
  induction q with
  | zero=>intro a d wt t o1 vs o2 es h ha hd hw ht;cases ht
  | succ q ih =>
    intro a d wt t o1 vs o2 es h ha hd hw ht m l1 l2
    refine enter tbOk mtOk ⟨[],[]⟩ 400 Tryz.func156 rfl rfl rfl fun hlo => ?_
    refine cnd (fun c1 => ?_) (fun c1 => ?_)
    · have c1:wt=0:=by simpa using c1
      unfold Tr.go at ht
      rw [if_pos c1] at ht
      cases ht
      exact ⟨o1,o2,by simpa using m⟩
    · have c1:wt≠0:=by simpa using c1
      unfold Tr.go at ht
      rw [if_neg c1] at ht
      refine ⟨_,m.bx.ldF (i:=2) rfl,?_⟩
      have hl1:1≤t.1.length:=by
        obtain ⟨l,hl⟩:=Tr.go_head c1 (show Tr.go g.w g.cs.length (kdG g) (sightOf g) (q+1) a d wt=some t by unfold Tr.go;rw [if_neg c1];exact ht)
        rw [hl];simp
      obtain ⟨b,e,h2,ap,hb2,m2⟩:=m.vis (x:=(a,d,wt)) (by unfold Id.maxLen;omega)
      refine ⟨vE (a,d,wt),one_cells rfl,_,_,ap,?_⟩
      refine ⟨_,hb2.stF (i:=2) (Nat.le_trans m.l5 m.l4) (Nat.le_of_ble_eq_true rfl),?_⟩
      have hat:a.toNat < g.cs.length:=by omega
      obtain ⟨ad,rfl⟩:=hs.some hat
      refine ⟨_,m2.bx.ldF (i:=1) rfl,?_⟩
      refine And.intro ⟨ha.1,ha.2⟩ ?_
      have hk:kdG g a=(g.cs[a.toNat]).1:=by unfold kdG;rw [List.getElem?_eq_getElem hat];rfl
      have hkd:=kdG_ok hg ha
      have ldk:Ld (h2.set wb (.cells [.int .i64 g.w,.slice (some ad) g.cs.length fl,gv (some (b,e)) (vs++[(a,d,wt)]).length,gv o2 es.length] 0 0)) (addA (addA ad (a.toNat*2)) 0) 1 [.int .i64 (kdG g a)]:=by rw [hk];exact ld_sub ((hs.ext m2.ext).ld cE2 hat) rfl
      refine ⟨_,ldk,?_⟩
      have hh2:IntKind.i64.wrap (wt.tdiv 2)=wt / 2:=half hw
      have hg1:IntKind.i64.wrap (wt - IntKind.i64.wrap (wt.tdiv 2))=wt - wt / 2:=by rw [hh2,wr (by omega) (by omega)]
      have hg2:IntKind.i64.wrap (wt - IntKind.i64.wrap (2*IntKind.i64.wrap (wt.tdiv 2)))=wt - 2*(wt / 2):=by rw [hh2,wr (n:=2*(wt / 2)) (by omega) (by omega),wr (by omega) (by omega)]
      have hen0:∀ k,Tr.en k a wt=[(k,a,wt)]:=fun k=>if_pos (by omega)
      refine And.intro (by decide) ?_
      refine cnd (fun c2 => ?_) (fun c2 => ?_)
      · have c2:kdG g a=1:=by simpa using c2
        rw [if_pos c2] at ht
        cases ht
        refine callP (send_ok 1 a wt m2 (by simp at l2;unfold Id.maxLen;omega)) ?_
        rintro v h4 ⟨p2,m3⟩
        rw [hen0] at m3
        exact ⟨_,_,m3⟩
      · have c2:kdG g a≠1:=by simpa using c2
        rw [if_neg c2] at ht
        refine cnd (fun c3 => ?_) (fun c3 => ?_)
        · have c3:kdG g a=7:=by simpa using c3
          rw [if_pos c3] at ht
          cases ht
          refine callP (send_ok 2 a wt m2 (by simp at l2;unfold Id.maxLen;omega)) ?_
          rintro v h4 ⟨p2,m3⟩
          rw [hen0] at m3
          exact ⟨_,_,m3⟩
        · have c3:kdG g a≠7:=by simpa using c3
          rw [if_neg c3] at ht
          refine cnd (fun c4 => ?_) (fun c4 => ?_)
          · have c4:kdG g a=6:=by simpa using c4
            rw [if_pos c4] at ht
            obtain ⟨t1,ht1,ht⟩:=Tr.bind_some ht
            cases ht
            simp only [List.length_cons,List.length_append] at l1 l2
            refine callP (send_ok 3 a _ m2 (by unfold Id.maxLen;omega)) ?_
            rintro v h4 ⟨p2,m3⟩
            rw [hg1] at m3
            refine callP (half_ok hs hg ih a d _ t1 _ _ _ _ h4 ha hd (by rw [hh2];omega) (by rw [hh2];exact ht1) m3 (by simp;omega) (by simp;omega)) ?_
            rintro v h5 ⟨p3,p4,m4⟩
            exact ⟨_,_,by simpa using m4⟩
          · have c4:kdG g a≠6:=by simpa using c4
            rw [if_neg c4] at ht
            refine cnd (fun c5 => ?_) (fun c5 => ?_)
            · have c5:kdG g a=4:=by simpa using c5
              have hk45:kdG g a=4∨kdG g a=5 := .inl c5
              rw [if_pos hk45] at ht
              obtain ⟨t1,ht1,ht⟩:=Tr.bind_some ht
              obtain ⟨t2,ht2,ht⟩:=Tr.bind_some ht
              cases ht
              simp only [List.length_cons,List.length_append] at l1 l2
              refine callP (send_ok 3 a _ m2 (by unfold Id.maxLen;omega)) ?_
              rintro v h4 ⟨p2,m3⟩
              rw [hg2] at m3
              have hen3:=en_le 3 a (wt - 2*(wt / 2))
              refine callP (half_ok hs hg ih a d _ t1 _ _ _ _ h4 ha hd (by rw [hh2];omega) (by rw [hh2];exact ht1) m3 (by simp;omega) (by simp;omega)) ?_
              rintro v h5 ⟨p3,p4,m4⟩
              refine callP (sDirTurn_ok _ _ h5 hd) ?_
              rintro v h6 ⟨rfl,e6⟩
              refine callP (half_ok hs hg ih a _ _ t2 _ _ _ _ h6 ha (Tr.dirT_ok hd) (by rw [hh2];omega) (by rw [hh2];exact ht2) (m4.up e6) (by simp;omega) (by simp;omega)) ?_
              rintro v h7 ⟨p5,p6,m5⟩
              exact ⟨_,_,by simpa using m5⟩
            · have c5:kdG g a≠4:=by simpa using c5
              refine cnd (fun c6 => ?_) (fun c6 => ?_)
              · have c6:kdG g a=5:=by simpa using c6
                have hk45:kdG g a=4∨kdG g a=5 := .inr c6
                rw [if_pos hk45] at ht
                obtain ⟨t1,ht1,ht⟩:=Tr.bind_some ht
                obtain ⟨t2,ht2,ht⟩:=Tr.bind_some ht
                cases ht
                simp only [List.length_cons,List.length_append] at l1 l2
                refine callP (send_ok 3 a _ m2 (by unfold Id.maxLen;omega)) ?_
                rintro v h4 ⟨p2,m3⟩
                rw [hg2] at m3
                have hen3:=en_le 3 a (wt - 2*(wt / 2))
                refine callP (half_ok hs hg ih a d _ t1 _ _ _ _ h4 ha hd (by rw [hh2];omega) (by rw [hh2];exact ht1) m3 (by simp;omega) (by simp;omega)) ?_
                rintro v h5 ⟨p3,p4,m4⟩
                refine callP (sDirTurn_ok _ _ h5 hd) ?_
                rintro v h6 ⟨rfl,e6⟩
                refine callP (half_ok hs hg ih a _ _ t2 _ _ _ _ h6 ha (Tr.dirT_ok hd) (by rw [hh2];omega) (by rw [hh2];exact ht2) (m4.up e6) (by simp;omega) (by simp;omega)) ?_
                rintro v h7 ⟨p5,p6,m5⟩
                exact ⟨_,_,by simpa using m5⟩
              · have c6:kdG g a≠5:=by simpa using c6
                rw [if_neg (by omega)] at ht
                obtain ⟨t1,ht1,ht⟩:=Tr.bind_some ht
                cases ht
                simp only [List.length_cons] at l1
                refine callP (sDirTurn_ok _ _ _ hd) ?_
                rintro v h6 ⟨rfl,e6⟩
                refine callP (leave_ok hs hg ih a _ wt t1 _ _ _ _ h6 ha (Tr.dirT_ok hd) (by omega) ht1 (m2.up e6) (by simp;omega) l2) ?_
                rintro v h7 ⟨p5,p6,m5⟩
                exact ⟨_,_,by simpa using m5⟩
end
end Go.Proofs.YtjpcfaddimlbdaaGreat.Id
namespace Go.Proofs.YtjpcfaddimlbdaaGreat.Id
open Go.Id
open Go.Proofs
set_option linter.unusedVariables false
set_option maxRecDepth 100000
variable {X:Ctx Tryz.prog} {lo:Nat}
theorem isB_eq {b e i:Nat} (h:isB (some (b,e)) i):b=i:=by
  obtain ⟨e',h⟩:=h
  injection h with h
  injection h
theorem l11Go_ok (g:Gd) (k:Nat) (ad:Option Addr) (fl:Nat) (h:Hp) (hs:Sls h cE 2 ad g.cs) (hg:gOk g=true) (hk:(k:Int) < many g):Tri X lo 131 [.agg #[.int .i64 g.w,.slice ad g.cs.length fl],.int .i64 (k:Int)] h fun v h'=>∃ wb o1 o2,v = .pointer (some ⟨wb,0,none⟩)∧MW lo h h' g ad fl wb o1 (trail g k).1 o2 (trail g k).2:=by
  refine enter tbOk mtOk ⟨[11],[]⟩ 400 Tryz.func131 rfl rfl rfl fun hlo => ?_
  obtain ⟨w,hh,q1,q2,q3,q4,q5⟩:=gOk_nat hg
  have hm:=many_nat' q1 q2
  have hsr:sightRay g k=(rays w hh)[k]? := by
    unfold sightRay sideRays
    rw [if_pos ⟨hg,Int.natCast_nonneg k,hk⟩,q1,q2];rfl
  obtain ⟨T,hT⟩:∃ T,T=trail g k:=⟨_,rfl⟩
  obtain ⟨t1,⟨t2,t3⟩,_⟩:=trail_ok g k
  rw [← hT] at t1 t2 t3 ⊢
  have gw0:∀ (h':Hp) (b:Nat),lo≤b→b < h'.n→h'.g b = .cells [] 3 0→Gw lo h' vE 3 (some (b,0)) []:=fun h' b h1 h2 h3=>⟨h1,h2,[],h3,Nat.le_refl _,rfl⟩
  obtain ⟨hX,hhX⟩:∃ hX,hX=((h.push (.cells [] 3 0)).push (.cells [] 3 0)).push (.cells [.int .i64 g.w,.slice ad g.cs.length fl,gv (some (h.n,0)) 0,gv (some (h.n+1,0)) 0] 0 0):=⟨_,rfl⟩
  have m0:MW lo h hX g ad fl (h.n+2) (some (h.n,0)) [] (some (h.n+1,0)) []:=by
    have e1:Ext h hX:=by rw [hhX];exact ((Ext.push _ _).trans (Ext.push _ _)).trans (Ext.push _ _)
    refine ⟨by rw [hhX];exact Bx.push,gw0 _ _ hlo ?_ ?_,gw0 _ _ (by omega) ?_ ?_,?_,?_,?_,?_,?_,by omega,hlo,e1⟩
    · rw [hhX];simp [Hp.push];omega
    · rw [hhX];simp [Hp.push];omega
    · rw [hhX];simp [Hp.push]
    · rw [hhX];simp [Hp.push]
    · intro q;have:=isB_eq q;omega
    · intro q;have:=isB_eq q;omega
    · intro i q q';have:=isB_eq q;have:=isB_eq q';omega
    · intro i q;have:=isB_eq q;omega
    · intro i q;have:=isB_eq q;omega
  have S:=l3Ray_ok (X:=X) (lo:=lo) w hh k ad g.cs.length fl hX q3 q4 q5 (by omega)
  rw [← q1,hhX] at S
  refine callP S ?_
  rw [← hhX]
  rintro v h1 ⟨⟨r,hr,rfl⟩,e1⟩
  unfold IsTrail at t1
  rw [hsr,hr] at t1
  obtain ⟨q,hq⟩:=t1
  have hro:=rays_ok q3 q4 r (List.mem_of_getElem? hr)
  rw [← q5] at hro
  refine callP (come_ok hs hg q r.1 r.2 64 T _ _ _ _ h1 hro.1 hro.2 (by omega) hq (m0.up e1) (by simp;omega) (by simp;omega)) ?_
  rintro v h2 ⟨o1,o2,m⟩
  rw [List.nil_append,List.nil_append] at m
  exact ⟨_,o1,o2,rfl,m⟩
theorem l11Light_ok (g:Gd) (es:List V3) (ad:Option Addr) (fl:Nat) (a2:Option Addr) (f2:Nat) (h:Hp) (hs:Sls h cE 2 ad g.cs) (hn:(g.cs.length:Int) < 2 ^ 31) (s2:Sls h vE 3 a2 es) (hm:es.length≤60000) (hE:EOk g es) (hc:es≠[]→∀ c∈g.cs,cOk c=true):Tri X lo 132 [.agg #[.int .i64 g.w,.slice ad g.cs.length fl],.slice a2 es.length f2] h fun v h'=>v = .int .i64 (lightOf g es)∧Ext h h':=by
  refine enter tbOk mtOk ⟨[],[(6,[0,1,2,3,4,5,6,7,8,9,10,11,12,13,14,15,16,17,18],[0,0,0,6,14,30,0,64,0,0,768,1792,3840,8128,16320,32704,65534,131071,262143])]⟩ 400 Tryz.func132 rfl rfl rfl fun hlo => ?_
  refine loop (σ:=Nat) tbOk mtOk ⟨[],[(6,[0,1,2,3,4,5,6,7,8,9,10,11,12,13,14,15,16,17,18],[0,0,0,6,14,30,0,64,0,0,768,1792,3840,8128,16320,32704,65534,131071,262143])]⟩ (fun i=>[(6,.v (.int .i64 (i:Int))),(1,.v (.slice a2 es.length f2)),(5,.v (.int .i64 (lightOf g (es.take i)))),(2,.l 0 0)]) (fun _=>[[.int .i64 g.w,.slice ad g.cs.length fl]]) (fun i h'=>i≤es.length∧h'=h∧0≤lightOf g (es.take i)∧lightOf g (es.take i)≤576*i) (fun i=>es.length - i) 380 0 (fun _=>rfl) ⟨rfl,rfl,rfl,rfl,trivial⟩ ⟨rfl,trivial⟩ ⟨by omega,rfl,Int.le_refl 0,by show (0:Int)≤576*((0:Nat):Int);decide⟩ (fun i h' hI again => ?_)
  obtain ⟨i1,rfl,i3,i4⟩:=hI
  refine cnd (fun c1 => ?_) (fun c1 => ?_)
  · have c1:i < es.length:=by simpa using c1
    obtain ⟨a2,rfl⟩:=s2.some c1
    have htk:es.take (i+1)=es.take i++[es[i]]:=List.take_succ_eq_append_getElem c1
    have hcs:=hc (by intro e;rw [e] at c1;simp at c1)
    obtain ⟨he1,he2⟩:=hE es[i] (List.getElem_mem c1)
    have hl:=lite_ok hcs he2
    have hld:=s2.ld vE3 c1
    have hsn:=lightOf_snoc g es[i] (es.take i)
    rw [← htk] at hsn
    generalize es[i]=e at *
    refine And.intro ⟨by omega,by omega⟩ ?_
    refine ⟨_,ld_sub (j:=0) hld rfl,?_⟩
    have hw1:some (Sl.v (.int .i64 (IntKind.i64.wrap ((i:Int)+1))))=some (Sl.v (.int .i64 ((i+1:Nat):Int))):=by rw [wr (by omega) (by omega)];rfl
    refine cnd (fun c2 => ?_) (fun c2 => ?_)
    · have c2:e.1=2:=by simpa using c2
      obtain ⟨he3,he4⟩:=he1 c2
      have hat:e.2.1.toNat < g.cs.length:=by omega
      obtain ⟨ad,rfl⟩:=hs.some hat
      have hlt:ltG g e.2.1=(g.cs[e.2.1.toNat]).2:=by unfold ltG;rw [List.getElem?_eq_getElem hat];rfl
      have ldc:Ld h' (addA (addA ad (e.2.1.toNat*2)) 1) 1 [.int .i64 (ltG g e.2.1)]:=by
        rw [hlt];exact ld_sub (hs.ld cE2 hat) rfl
      have hll:lite g e=e.2.2*ltG g e.2.1:=if_pos c2
      refine And.intro (by kernel_rfl) ?_
      refine And.intro ⟨by omega,by omega⟩ ?_
      refine ⟨_,ld_sub (j:=2) hld rfl,?_⟩
      refine And.intro ⟨by omega,by omega⟩ ?_
      refine ⟨_,ld_sub (j:=1) hld rfl,?_⟩
      refine And.intro ⟨he3,by show e.2.1 < (g.cs.length:Int);exact he4⟩ ?_
      refine ⟨_,ldc,?_⟩
      have hw2:IntKind.i64.wrap (lightOf g (es.take i)+IntKind.i64.wrap (e.2.2*ltG g e.2.1))=lightOf g (es.take (i+1)):=by
        rw [← hll,wr (n:=lite g e) (by omega) (by omega),← hsn,wr (by omega) (by omega)]
      refine again (i+1) _ _ _ (by omega) ⟨hw1,rfl,?_,rfl,trivial⟩ ⟨rfl,trivial⟩ ⟨by omega,rfl,by rw [hsn];omega,by rw [hsn];omega⟩
      show some (Sl.v (.int .i64 (IntKind.i64.wrap (lightOf g (es.take i)+IntKind.i64.wrap (e.2.2*ltG g e.2.1)))))=_
      rw [hw2]
    · have c2:e.1≠2:=by simpa using c2
      have hl0:lite g e=0:=if_neg c2
      rw [hl0,Int.add_zero] at hsn
      refine again (i+1) _ _ _ (by omega) ⟨hw1,rfl,?_,rfl,trivial⟩ ⟨rfl,trivial⟩ ⟨by omega,rfl,by rw [hsn];exact i3,by rw [hsn];omega⟩
      show some (Sl.v (.int .i64 (lightOf g (es.take i))))=_
      rw [← hsn]
  · have c1:es.length=i:=by simp at c1;omega
    refine And.intro ?_ (Ext.refl _)
    rw [← c1,List.take_length]
end Go.Proofs.YtjpcfaddimlbdaaGreat.Id
namespace Go.Proofs.YtjpcfaddimlbdaaGreat.Id
open Go.Id
open Go.Proofs
set_option linter.unusedVariables false
set_option maxRecDepth 100000
variable {X:Ctx Tryz.prog} {lo:Nat}
theorem many_le (g:Gd) (hg:gOk g=true):1≤many g∧many g≤20:=by
  obtain ⟨h1,h2,_⟩:=hi_ok hg
  obtain ⟨g1,g2,_⟩:=gOk_iff.1 hg
  unfold many;omega
def inL (vs:List V3) (N i:Nat):List Bool:=(List.range N).map fun (j:Nat)=>(vs.take i).any fun v=>v.1 == (j:Int)
theorem inL_len (vs:List V3) (N i:Nat):(inL vs N i).length=N:=by simp [inL]
theorem inL_get {vs:List V3} {N i j:Nat} (hj:j < (inL vs N i).length):(inL vs N i)[j]=(vs.take i).any fun v=>v.1 == (j:Int):=by simp [inL]
theorem inL_succ {vs:List V3} {N i:Nat} (hi:i < vs.length) (hv:0≤vs[i].1∧vs[i].1 < (N:Int)):(inL vs N i).set vs[i].1.toNat true=inL vs N (i+1):=by
  refine List.ext_getElem (by simp [inL]) fun j h1 h2 => ?_
  rw [List.getElem_set,inL_get h2,List.take_succ_eq_append_getElem hi,List.any_append]
  by_cases c:vs[i].1.toNat=j
  · rw [if_pos c]
    have:(vs[i].1 == (j:Int))=true:=by simp;omega
    simp [this]
  · rw [if_neg c,inL_get]
    have:(vs[i].1 == (j:Int))=false:=by simp;omega
    simp [this]
theorem footL_step (vs:List V3) (i:Nat):footL vs (i+1)=footL vs i++(if vs.any (fun v=>v.1 == (i:Int))=true then [(i:Int)] else []):=by
  unfold footL
  rw [List.range_succ,List.filter_append,List.map_append]
  congr 1
  by_cases c:vs.any (fun v=>v.1 == (i:Int))=true
  · rw [if_pos c];simp only [List.filter_cons,c,if_true,List.filter_nil,List.map_cons,List.map_nil]
  · rw [if_neg c];simp only [List.filter_cons,c,List.filter_nil];rfl
theorem l11Foot_ok (g:Gd) (vs:List V3) (ad a:Option Addr) (fl f:Nat) (h:Hp) (hs:Sls h cE 2 ad g.cs) (hn:(g.cs.length:Int) < 2 ^ 31) (hv:Sls h vE 3 a vs) (hm:vs.length≤20000) (hr:∀ v∈vs,0≤v.1∧v.1 < (g.cs.length:Int)):Tri X lo 133 [.agg #[.int .i64 g.w,.slice ad g.cs.length fl],.slice a vs.length f] h fun v h'=>(∃ b e,v = .slice (some ⟨b,0,some e⟩) (footL vs g.cs.length).length 1∧h.n≤b∧Row h' b e inE 1 (footL vs g.cs.length))∧Ext h h':=by
  refine enter tbOk mtOk ⟨[],[]⟩ 400 Tryz.func133 rfl rfl rfl fun hlo => ?_
  refine And.intro ⟨by omega,by omega,by unfold Id.maxLen;omega⟩ ?_
  have e0:Ext h (h.push (.cells (zeros [.bool false] g.cs.length) 1 0)):=Ext.push _ _
  have r0:Row (h.push (.cells (zeros [.bool false] g.cs.length) 1 0)) h.n 0 bE 1 (inL vs g.cs.length 0):=by
    have:inL vs g.cs.length 0=List.replicate g.cs.length false:=by
      apply List.ext_getElem (by simp [inL])
      intro i h1 h2
      simp [inL]
    rw [this,zeros_flat (enc:=bE) (z:=[.bool false]) (x:=false) rfl];exact Row.push
  refine loop (σ:=Nat) tbOk mtOk ⟨[],[]⟩ (fun i=>[(6,.v (.int .i64 (i:Int))),(5,.v (.slice (some ⟨h.n,0,some 0⟩) g.cs.length 1)),(1,.v (.slice a vs.length f)),(2,.l 0 0)]) (fun _=>[[.int .i64 g.w,.slice ad g.cs.length fl]]) (fun i h'=>i≤vs.length∧Ext h h'∧Row h' h.n 0 bE 1 (inL vs g.cs.length i)) (fun i=>vs.length - i) 400 0 (fun _=>rfl) ⟨rfl,rfl,rfl,rfl,trivial⟩ ⟨rfl,trivial⟩ ⟨Nat.zero_le _,e0,r0⟩ (fun i h1 hI again => ?_)
  obtain ⟨i1,i2,i3⟩:=hI
  refine cnd (fun c1 => ?_) (fun c1 => ?_)
  · have c1:i < vs.length:=by have:=of_decide_eq_true c1;omega
    obtain ⟨a,rfl⟩:=hv.some c1
    have hld:=(hv.ext i2).ld vE3 c1
    have hri:=hr vs[i] (List.getElem_mem c1)
    have hsu:=inL_succ c1 hri
    have hjl:vs[i].1.toNat < (inL vs g.cs.length i).length:=by rw [inL_len];omega
    have hst:=i3.st (lo:=lo) (fun _=>rfl) hlo hjl true
    rw [hsu] at hst
    have wq:IntKind.i64.wrap ((i:Int)+1)=((i+1:Nat):Int):=wz (by omega) (by omega)
    generalize vs[i]=w at *
    refine And.intro ⟨by omega,by omega⟩ ?_
    refine ⟨_,ld_sub hld (j:=0) (m:=1) rfl,?_⟩
    refine And.intro ⟨hri.1,hri.2⟩ ?_
    refine ⟨_,hst,?_⟩
    exact again (i+1) _ _ _ (by omega) ⟨vI wq,rfl,rfl,rfl,trivial⟩ ⟨rfl,trivial⟩ ⟨by omega,i2.set (Nat.le_refl _) _,Row.set i3.lt⟩
  · have c1:i=vs.length:=by have:=of_decide_eq_false c1;omega
    subst c1
    have hta:∀ {j:Nat} (hj:j < (inL vs g.cs.length vs.length).length),(inL vs g.cs.length vs.length)[j]=vs.any fun v=>v.1 == (j:Int):=fun hj=>by rw [inL_get hj,List.take_length]
    have n1:=i2.n
    have lt1:=i3.lt
    refine loop (σ:=Nat×Nat) tbOk mtOk ⟨[],[]⟩ (fun s=>[(8,.v (.int .i64 (s.1:Int))),(7,.v (.slice (some ⟨h1.n,0,some s.2⟩) (footL vs s.1).length 1)),(5,.v (.slice (some ⟨h.n,0,some 0⟩) g.cs.length 1)),(2,.l 0 0)]) (fun _=>[[.int .i64 g.w,.slice ad g.cs.length fl]]) (fun s h'=>s.1≤g.cs.length∧Ext h1 h'∧Row h' h1.n s.2 inE 1 (footL vs s.1)) (fun s=>g.cs.length - s.1) 400 (0,0) (fun _=>rfl) ⟨rfl,rfl,rfl,rfl,trivial⟩ ⟨rfl,trivial⟩ ⟨Nat.zero_le _,Ext.push _ _,by show Row (h1.push (.cells (([]:List Int).flatMap inE) 1 0)) h1.n 0 inE 1 [];exact Row.push⟩ (fun s h2 hI again' => ?_)
    obtain ⟨j1,j2,j3⟩:=hI
    refine cnd (fun c2 => ?_) (fun c2 => ?_)
    · have c2:s.1 < g.cs.length:=by have:=of_decide_eq_true c2;omega
      have hjl:s.1 < (inL vs g.cs.length vs.length).length:=by rw [inL_len];exact c2
      have hld:=((i3.ext j2).sls (fun _=>rfl)).ld (fun _=>rfl) hjl
      rw [hta hjl] at hld
      have wq:IntKind.i64.wrap ((s.1:Int)+1)=((s.1+1:Nat):Int):=wz (by omega) (by omega)
      have hfs:=footL_step vs s.1
      have hfl:(footL vs s.1).length≤s.1:=by
        unfold footL;rw [List.length_map];exact Nat.le_trans (List.length_filter_le _ _) (by simp)
      refine And.intro ⟨by omega,by omega⟩ ?_
      refine ⟨_,hld,?_⟩
      generalize vs.any (fun v=>v.1 == (s.1:Int))=q at *
      refine cnd (fun c3 => ?_) (fun c3 => ?_)
      · rw [if_pos c3] at hfs
        have e4:Ext h2 (h2.push (.cells (inE (s.1:Int)) 1 0)):=Ext.push _ _
        have n2:=j2.n
        have lt2:=j3.lt
        have ap:=(j3.ext e4).app (m:=[(s.1:Int)]) (lo:=lo) (fun _=>rfl) (by decide) (by omega) (by unfold Id.maxLen;simp;omega)
        refine ⟨inE (s.1:Int),one_cells rfl,_,_,ap,?_⟩
        refine again' (s.1+1,s.2+1) _ _ _ (by show g.cs.length - (s.1+1) < g.cs.length - s.1;omega) ⟨vI wq,?_,rfl,rfl,trivial⟩ ⟨rfl,trivial⟩ ⟨by show s.1+1≤_;omega,(j2.trans e4).set (Nat.le_refl _) _,?_⟩
        · show _=some (Sl.v (.slice _ (footL vs (s.1+1)).length 1))
          rw [hfs,List.length_append];rfl
        · show Row _ h1.n (s.2+1) inE 1 (footL vs (s.1+1))
          rw [hfs];exact Row.set (j3.ext e4).lt
      · have c3:q=false:=c3
        rw [c3,if_neg (by decide),List.append_nil] at hfs
        exact again' (s.1+1,s.2) _ _ _ (by show g.cs.length - (s.1+1) < g.cs.length - s.1;omega) ⟨vI wq,by show _=some (Sl.v (.slice _ (footL vs (s.1+1)).length 1));rw [hfs];rfl,rfl,rfl,trivial⟩ ⟨rfl,trivial⟩ ⟨by show s.1+1≤_;omega,j2,by show Row h2 h1.n s.2 inE 1 (footL vs (s.1+1));rw [hfs];exact j3⟩
    · have c2:s.1=g.cs.length:=by have:=of_decide_eq_false c2;omega
      rw [c2] at j3
      rw [c2]
      exact And.intro ⟨h1.n,s.2,rfl,by omega,j3⟩ (i2.trans j2)
end Go.Proofs.YtjpcfaddimlbdaaGreat.Id
namespace Go.Proofs.YtjpcfaddimlbdaaGreat.Id
open Go.Proofs
abbrev link:Go.Conc.Lib.WgLink:={ add:=158,done:=160,wait:=161,relMerge:=182,disable:=183,enable:=184,inBubble:=185,associate:=186,fatal:=187,uOr:=188,uAdd:=189,raceRead:=190,uLoad:=191,uStore:=192,disassociate:=193,semrelease:=194,acquire:=195,isAssociated:=196,uCas:=197,raceWrite:=198,semacquire:=199,orU64:=210,addU64:=211,loadU64:=212,storeU64:=213,casU64:=214,tWgP:=232,tUP:=234,tAssoc:=236,tWg:=211,tAU:=209,tU64:=176,tUint:=141,tU32:=174,tPU32:=240,tPAU:=257,tPU64:=259,tNoCopy:=205,tANoCopy:=206,tAlign64:=207 }
theorem wgLib:Go.Conc.Lib.WgLib Tryz.prog link :=
  ⟨Tryz.func158,Tryz.func160,Tryz.func161,Tryz.func182,Tryz.func183,Tryz.func184,Tryz.func185,Tryz.func186,Tryz.func187,Tryz.func188,Tryz.func189,Tryz.func190,Tryz.func191,Tryz.func192,Tryz.func193,Tryz.func194,Tryz.func195,Tryz.func196,Tryz.func197,Tryz.func198,Tryz.func199,Tryz.func210,Tryz.func211,Tryz.func212,Tryz.func213,Tryz.func214,Tryz.underlying232,Tryz.runUnderlying232,Tryz.sizeOf232,Tryz.isAgg232,Tryz.zeroValue232,Tryz.underlying234,Tryz.runUnderlying234,Tryz.sizeOf234,Tryz.isAgg234,Tryz.zeroValue234,Tryz.underlying236,Tryz.runUnderlying236,Tryz.sizeOf236,Tryz.isAgg236,Tryz.zeroValue236,Tryz.underlying211,Tryz.runUnderlying211,Tryz.sizeOf211,Tryz.isAgg211,Tryz.zeroValue211,Tryz.underlying209,Tryz.runUnderlying209,Tryz.sizeOf209,Tryz.isAgg209,Tryz.zeroValue209,Tryz.underlying176,Tryz.runUnderlying176,Tryz.sizeOf176,Tryz.isAgg176,Tryz.zeroValue176,Tryz.underlying141,Tryz.runUnderlying141,Tryz.sizeOf141,Tryz.isAgg141,Tryz.zeroValue141,Tryz.underlying174,Tryz.runUnderlying174,Tryz.sizeOf174,Tryz.isAgg174,Tryz.zeroValue174,Tryz.underlying240,Tryz.runUnderlying240,Tryz.sizeOf240,Tryz.isAgg240,Tryz.zeroValue240,Tryz.underlying257,Tryz.runUnderlying257,Tryz.sizeOf257,Tryz.isAgg257,Tryz.zeroValue257,Tryz.underlying259,Tryz.runUnderlying259,Tryz.sizeOf259,Tryz.isAgg259,Tryz.zeroValue259,Tryz.underlying0,Tryz.runUnderlying0,Tryz.sizeOf0,Tryz.isAgg0,Tryz.zeroValue0,Tryz.underlying3,Tryz.runUnderlying3,Tryz.sizeOf3,Tryz.isAgg3,Tryz.zeroValue3,Tryz.underlying4,Tryz.runUnderlying4,Tryz.sizeOf4,Tryz.isAgg4,Tryz.zeroValue4,Tryz.underlying9,Tryz.runUnderlying9,Tryz.sizeOf9,Tryz.isAgg9,Tryz.zeroValue9,Tryz.underlying20,Tryz.runUnderlying20,Tryz.sizeOf20,Tryz.isAgg20,Tryz.zeroValue20,Tryz.underlying21,Tryz.runUnderlying21,Tryz.sizeOf21,Tryz.isAgg21,Tryz.zeroValue21,(by kernel_rfl),(by kernel_rfl)⟩
instance:Go.ConcR.Payload:=⟨3⟩
end Go.Proofs.YtjpcfaddimlbdaaGreat.Id
namespace Go.Proofs.YtjpcfaddimlbdaaGreat.Id
open Go.Id Go.Conc Go.Conc.Lib
open Go.Proofs
set_option linter.unusedVariables false
set_option maxRecDepth 100000
def stN (w hh:Nat):Nat→Int
  | 0=>0
  | 1=>w
  | 2=>w+hh
  | 3=>2*w+hh
  | _=>2*(w+hh)
def cnN (w hh:Nat):Nat→Nat
  | 0=>w
  | 1=>hh
  | 2=>w
  | _=>hh
theorem stN_succ (w hh:Nat) {i:Nat} (hi:i < 4):stN w hh (i+1)=stN w hh i+cnN w hh i:=by
  match i,hi with
  | 0,_=>simp [stN,cnN]
  | 1,_=>simp [stN,cnN]
  | 2,_=>simp only [stN,cnN];omega
  | 3,_=>simp only [stN,cnN];omega
theorem stN_le (w hh:Nat) (i:Nat):0≤stN w hh i∧stN w hh i≤2*(w+hh):=by
  match i with
  | 0 | 1 | 2 | 3 | _+4=>simp only [stN];omega
def startsL (w hh:Nat):List Value:=[.int .i64 0,.int .i64 w,.int .i64 (w+hh),.int .i64 (2*w+hh),.int .i64 (2*(w+hh))]
theorem starts_cell (w hh:Nat) {i:Nat} (hi:i < 5):sub? (startsL w hh) (0+i*1) 1=some [.int .i64 (stN w hh i)]:=by
  match i,hi with
  | 0,_=>rfl
  | 1,_=>rfl
  | 2,_=>rfl
  | 3,_=>rfl
  | 4,_=>rfl
def restOf (fn:Func):Code:=match fn.body with | some (.seq _ r)=>r | _ => .skip
def rowV (i:Nat) (sl:Value):Value := .agg #[.int .i64 i,sl]
def OfOk (P:Program) (El:Int→Value→Hp→Prop) (m:Int) (fOf:FuncId) (cp:List Value) (h0:Hp):Prop :=
  ∀ (fro:Nat→Prop) (lo:Nat) (k:Int) h,Ext h0 h→lo≤h.n→0≤k→k < m→Tri (treeCtx P false fro) lo fOf (.int .i64 k::cp) h fun v h'=>El k v h'∧Ext h h'∧∀ b,blkOf v=some b→h.n≤b
theorem workerI_ok {El:Int→Value→Hp→Prop} (K:ElOk El) (w hh:Nat) (hw:1≤w∧w≤5) (hh1:1≤hh∧hh≤5) {fOf:FuncId} {cp:List Value} {h0:Hp} (Hof:OfOk Tryz.prog El (2*((w:Int)+hh)) fOf cp h0) {sb ob cb sd:Nat} {i:Nat} (hi:i < 4) {Wg Ch:Nat} {fro:Nat→Prop} {h:Hp} (x0:Ext h0 h)
    (hs:Bx h0 sb (startsL w hh)) (ho:Bx h0 ob [.func (.func fOf) #[] cp.toArray]) (hc:Bx h0 cb [.chan (some Ch)]) (hsd:Bx h sd [.int .i64 i]) (hsh:∀ k v h,El k v h→∃ x,v = .int .i64 x) (Y:Ph) (hY:Y=⟨Tryz.prog,link.tWg,Wg,Ch,fro,4,LeftBy fro h0.n Wg (RdW El (stN w hh) (cnN w hh))⟩) :
    R (treeCtx Tryz.prog false fro) h0.n 159 Tryz.f159 (.mid [dcall link.done #[.pointer (some ⟨Wg,0,none⟩)]] fun k t _ h=>SendsAt Y h0.n i k t h) [.code (restOf Tryz.f159)]
      (capTm 0 [(true,.pointer (some ⟨Wg,0,none⟩)),(false,.pointer (some ⟨sb,0,none⟩)),(false,.pointer (some ⟨sd,0,none⟩)),(false,.pointer (some ⟨ob,0,none⟩)),(false,.pointer (some ⟨cb,0,none⟩))]) [] h:=by
  refine more tbOk mtOk ⟨[],[]⟩ 400 ?_
  refine ⟨_,hsd.ld rfl,?_⟩
  refine And.intro ⟨by omega,by omega⟩ ?_
  have hst:∀ {h':Hp},Ext h0 h'→∀ {j:Nat},j < 5→Ld h' (addA ⟨sb,0,none⟩ (j*1)) 1 [.int .i64 (stN w hh j)]:=fun e j hj=>(hs.ext e).ldF (by have:=starts_cell w hh hj;rwa [Nat.zero_add] at this)
  refine ⟨_,hst x0 (by omega),?_⟩
  have b1:=stN_le w hh i
  have b2:=stN_le w hh (i+1)
  have b3:=stN_succ w hh hi
  have hsdb:¬ isB none sd:=fun ⟨_,h⟩=>by cases h
  refine loop (σ:=Option (Nat×Nat)×List Value) tbOk mtOk ⟨[],[]⟩ (fun s=>[(5,.v (gv s.1 s.2.length)),(6,.v (.int .i64 (stN w hh i+s.2.length))),(1,.v (.pointer (some ⟨sb,0,none⟩))),(2,.v (.pointer (some ⟨sd,0,none⟩))),(3,.v (.pointer (some ⟨ob,0,none⟩))),(4,.v (.pointer (some ⟨cb,0,none⟩)))]) (fun _=>[])
    (fun s h'=>WI El (stN w hh i) h0 h' s.1 s.2∧Bx h' sd [.int .i64 i]∧¬ isB s.1 sd∧s.2.length≤cnN w hh i) (fun s=>cnN w hh i - s.2.length) 11 (none,[]) (fun _=>rfl) ⟨rfl,?_,rfl,rfl,rfl,rfl,trivial⟩ trivial ⟨WI.nil x0,hsd,hsdb,Nat.zero_le _⟩ (fun s h' hI again => ?_)
  · show some (Sl.v (.int .i64 (stN w hh i)))=some (Sl.v (.int .i64 (stN w hh i+((0:Nat):Int))))
    simp
  obtain ⟨o,l⟩:=s
  obtain ⟨i1,i2,i3,i4⟩:=hI
  have i4:l.length≤cnN w hh i:=i4
  refine ⟨_,i2.ld rfl,?_⟩
  have hw1:IntKind.i64.wrap ((i:Int)+1)=((i+1:Nat):Int):=wr (by omega) (by omega)
  have ld1:Ld h' (addA ⟨sb,0,none⟩ ((IntKind.i64.wrap ((i:Int)+1)).toNat*1)) 1 [.int .i64 (stN w hh (i+1))]:=by rw [hw1];exact hst i1.ext (by omega)
  refine And.intro ⟨by rw [hw1];omega,by rw [hw1];omega⟩ ?_
  refine ⟨_,ld1,?_⟩
  refine cnd (fun c1 => ?_) (fun c1 => ?_)
  · have c1:stN w hh i+(l.length:Int) < stN w hh (i+1):=by simpa using c1
    refine more tbOk mtOk ⟨[],[]⟩ 400 ?_
    refine ⟨_,(ho.ext i1.ext).ld rfl,?_⟩
    refine callP (Hof fro h0.n (stN w hh i+(l.length:Int)) h' i1.ext i1.ext.n (by omega) (by omega)) ?_
    rintro v h1 ⟨hv,e1,nb⟩
    obtain ⟨x,rfl⟩:=hsh _ _ _ hv
    obtain ⟨o',h2,a1,W',hn',old⟩:=i1.step K hv e1 nb (by unfold Id.maxLen;omega)
    refine ⟨_,one_cells rfl,_,_,a1,?_⟩
    refine again (o',l++[Value.int .i64 x]) _ _ _ ?_ ⟨rfl,?_,rfl,rfl,rfl,rfl,trivial⟩ trivial ⟨W',⟨Nat.lt_of_lt_of_le i2.lt hn',by rw [(old sd i2.lt i3).1];exact i2.g⟩,(old sd i2.lt i3).2,?_⟩
    · show cnN w hh i - (l++[Value.int .i64 x]).length < cnN w hh i - l.length
      rw [List.length_append,List.length_singleton];omega
    · show some (Sl.v (.int .i64 (IntKind.i64.wrap (stN w hh i+(l.length:Int)+1))))=some (Sl.v (.int .i64 (stN w hh i+((l++[Value.int .i64 x]).length:Int))))
      rw [List.length_append,List.length_singleton,wr (by omega) (by omega)]
      simp;omega
    · show (l++[Value.int .i64 x]).length≤cnN w hh i
      rw [List.length_append,List.length_singleton];omega
  · have c1:¬ stN w hh i+(l.length:Int) < stN w hh (i+1):=by simpa using c1
    have hl:l.length=cnN w hh i:=by omega
    have hpos:l≠[]:=by
      rintro rfl
      have:1≤cnN w hh i:=by unfold cnN;split<;>omega
      simp at hl;omega
    obtain ⟨b,e,rfl⟩:∃ b e,o=some (b,e):=by
      match o,i1 with
      | none,i1=>exact absurd i1.g hpos
      | some (b,e),_=>exact ⟨b,e,rfl⟩
    refine more tbOk mtOk ⟨[],[]⟩ 6 ?_
    refine ⟨_,(hc.ext i1.ext).ld rfl,?_⟩
    refine ⟨_,i2.ld rfl,?_⟩
    subst hY
    refine R_mid ⟨⟨_,_,_,_,_,rowV i (gv (some (b,e)) l.length),rfl,rfl,rfl,rfl,rfl,rfl,rfl,fun s O w vr S hv hO => ?_⟩⟩
    exact i1.left K hl hpos S hv hO
def tlC:Nat→Code→Code
  | 0,c=>c
  | n+1,.seq _ r=>tlC n r
  | _,_ => .skip
def hdC:Code→Code
  | .seq a _=>a
  | _ => .skip
def bodyC (fn:Func):Code:=match fn.body with | some c=>c | none => .skip
def opsC:Code→Array Oper
  | .region _ ops _=>ops
  | _=>#[]
def loopC:Code→Code
  | .seq _ (.block _ (.loop c))=>c
  | _ => .skip
noncomputable def fI:Func:=Tryz.f135
def stTm (Wg sb ob cb:Nat) (i:Int):Tm:=[(17,.v (.int .i64 i)),(7,.r (.pointer (some ⟨Wg,0,none⟩))),(5,.v (.pointer (some ⟨sb,0,none⟩))),(3,.v (.pointer (some ⟨ob,0,none⟩))),(6,.v (.pointer (some ⟨cb,0,none⟩)))]
noncomputable def kWaitI:List Item:=[.inRegion (opsC (hdC (tlC 5 (bodyC fI)))) [],.code (tlC 6 (bodyC fI))]
theorem look1 {i j:Nat} {x y:Sl} (h:Id.look [(i,y)] j=some x):j=i∧x=y:=by
  simp only [Id.look] at h
  split at h
  · cases h;exact ⟨by omega,rfl⟩
  · cases h
def allS (D:Nat→Prop):Tm→Prop
  | []=>True
  | (_,x)::r=>slIn D x∧allS D r
theorem allS_ok {D:Nat→Prop}:∀ {t:Tm},allS D t→∀ j x,Id.look t j=some x→slIn D x
  | [],_,j,x,h=>by cases h
  | (i,y)::r,ha,j,x,h=>by
    simp only [Id.look] at h
    split at h
    · cases h;exact ha.1
    · exact allS_ok ha.2 j x h
def allP (p:Sl→Prop):Tm→Prop
  | []=>True
  | (_,x)::r=>p x∧allP p r
theorem allP_ok {p:Sl→Prop}:∀ {t:Tm},allP p t→∀ j x,Id.look t j=some x→p x
  | [],_,j,x,h=>by cases h
  | (i,y)::r,ha,j,x,h=>by
    simp only [Id.look] at h
    split at h
    · cases h;exact ha.1
    · exact allP_ok ha.2 j x h
theorem OfOk.mono {P:Program} {El:Int→Value→Hp→Prop} {m:Int} {fOf:FuncId} {cp:List Value} {h0 h1:Hp} (H:OfOk P El m fOf cp h0) (e:Ext h0 h1):OfOk P El m fOf cp h1:=fun fro lo k h x=>H fro lo k h (e.trans x)
theorem carry_list {D:Nat→Prop} {t t':Tm} (hk:keeps t' t) (ha:allS D t'):Carry D t t':=fun j x hx=>⟨keeps_sub hk j x hx,allS_ok ha j x hx⟩
theorem startI_ok {El:Int→Value→Hp→Prop} (K:ElOk El) (w hh:Nat) (hw:1≤w∧w≤5) (hh1:1≤hh∧hh≤5) {fOf:FuncId} {cp:List Value} {h0:Hp} (Hof:OfOk Tryz.prog El (2*((w:Int)+hh)) fOf cp h0) {sb ob cb:Nat} {Wg Ch:Nat} {fro:Nat→Prop} {s0:Sim}
    (hs:Bx h0 sb (startsL w hh)) (ho:Bx h0 ob [.func (.func fOf) #[] cp.toArray]) (hc:Bx h0 cb [.chan (some Ch)]) (hsh:∀ k v h,El k v h→∃ x,v = .int .i64 x) (Y:Ph) (hY:Y=⟨Tryz.prog,link.tWg,Wg,Ch,fro,4,LeftBy fro h0.n Wg (RdW El (stN w hh) (cnN w hh))⟩)
    (hin:∀ b,b=sb∨b=ob∨b=cb→s0.adr b≠none) :
    ∀ r i:Nat,i+r=4→∀ t,keeps (stTm Wg sb ob cb i) t→R (treeCtx Tryz.prog true fro) h0.n 135 fI (.mid [] (SpFrom Y link h0.n s0 h0 135 fI [(6,.v (.pointer (some ⟨cb,0,none⟩)))] kWaitI r))
      (.code (loopC (hdC (tlC 4 (bodyC fI)))) :: .inLoop (loopC (hdC (tlC 4 (bodyC fI)))) :: .inBlock 0::[.code (tlC 5 (bodyC fI))]) t [] h0:=by
  intro r
  induction r with
  | zero =>
    intro i hi t ht
    refine R_trim (ls':=[]) ht rfl trivial ?_
    obtain rfl:i=4:=by omega
    refine more tbOk mtOk ⟨[3,5,6,8],[]⟩ 7 ?_
    refine cndF ?_
    refine more tbOk mtOk ⟨[3,5,6,8],[]⟩ 2 ?_
    subst hY
    refine R_mid ⟨fun j hj=>rfl,⟨_,0,[],_,_,_,_,rfl,rfl,rfl,rfl,rfl,rfl,fun j x hx => ?_,rfl⟩⟩
    obtain ⟨rfl,rfl⟩:=look1 hx
    exact ⟨rfl,hc.lt,hin cb (.inr (.inr rfl))⟩
  | succ r ih =>
    intro i hi t ht
    refine R_trim (ls':=[]) ht rfl trivial ?_
    refine more tbOk mtOk ⟨[3,5,6,8],[]⟩ 7 ?_
    refine cnd (fun c1 => ?_) (fun c1=>absurd c1 (by simp;omega))
    refine more tbOk mtOk ⟨[3,5,6,8],[]⟩ 10 ?_
    have hb0:Bx (h0.push (.cells [.int .i64 0] 0 0)) h0.n [.int .i64 0]:=Bx.push
    refine ⟨_,hb0.st (Nat.le_refl _) rfl,?_⟩
    subst hY
    refine R_mid ⟨_,0,[],_,_,_,_,rfl,rfl,rfl,rfl,rfl,rfl,?_⟩
    refine more tbOk mtOk ⟨[3,5,6,8],[]⟩ 3 ?_
    have hi4:i < 4:=by omega
    have h5:4 - (r+1)=i:=by omega
    refine R_mid ⟨fun j hj => ?_,⟨_,1,[],_,_,_,_,_,_,stTm Wg sb ob cb i,rfl,rfl,rfl,rfl,rfl,rfl,⟨_,rfl⟩,⟨⟨_,_,_,_,_,h0.n,[.int .i64 i],0,0,.nilFunc,0,none,Tryz.func159,rfl,rfl,rfl,rfl,rfl,rfl,rfl,Nat.le_of_ble_eq_true rfl,?_,Nat.le_refl _,?_,?_,?_,?_⟩⟩,carry_list ⟨rfl,rfl,rfl,rfl,rfl,trivial⟩ ?_,?_⟩⟩
    · simp [Hp.set,Hp.push,Nat.ne_of_lt hj]
    · intro v hv
      have q1:=hin sb (.inl rfl)
      have q2:=hin ob (.inr (.inl rfl))
      have q3:=hin cb (.inr (.inr rfl))
      simp only [List.mem_cons,Prod.mk.injEq,Bool.false_eq_true,false_and,false_or,true_and,List.not_mem_nil,or_false] at hv
      rcases hv with rfl | rfl | rfl | rfl
      · exact .inl ⟨hs.lt,q1⟩
      · exact .inr rfl
      · exact .inl ⟨ho.lt,q2⟩
      · exact .inl ⟨hc.lt,q3⟩
    · simp [Hp.set,Hp.push,cellsL]
    · intro v hv;simp at hv;subst hv;rfl
    · simp
    · show R _ _ _ _ (.mid _ fun k t _ h=>SendsAt _ h0.n (4 - (r+1)) k t h) _ _ _ _
      rw [h5]
      exact workerI_ok K w hh hw hh1 Hof hi4 ⟨by simp [Hp.set,Hp.push],fun j hj=>by simp [Hp.set,Hp.push,Nat.ne_of_lt hj]⟩ hs ho hc (Bx.set hb0) hsh _ rfl
    · exact ⟨rfl,trivial,⟨hs.lt,hin sb (.inl rfl)⟩,⟨ho.lt,hin ob (.inr (.inl rfl))⟩,⟨hc.lt,hin cb (.inr (.inr rfl))⟩,trivial⟩
    · refine more tbOk mtOk ⟨[3,5,6,8],[]⟩ 100 ?_
      refine R_inLoop (ih (i+1) (by omega) _ ⟨?_,rfl,rfl,rfl,rfl,trivial⟩)
      show some (Sl.v (.int .i64 (IntKind.i64.wrap ((i:Int)+1))))=_
      rw [wr (by omega) (by omega)];rfl
theorem ex_fun {α:Type} {n:Nat} {p:Nat→α→Prop} (d:α) (h:∀ i,i < n→∃ a,p i a):∃ f:Nat→α,∀ i,i < n→p i (f i):=by
  classical
  exact ⟨fun i=>if h':i < n then (h i h').choose else d,fun i hi=>by simp only [dif_pos hi];exact (h i hi).choose_spec⟩
noncomputable def recvC:Code:=loopC (hdC (tlC 8 (bodyC fI)))
theorem pick4 (s:Nat→Value) {j:Nat} (hj:j < 4):sub? [s 0,s 1,s 2,s 3] ((j:Int).toNat*1) 1=some [s j]:=by
  match j,hj with
  | 0,_=>rfl
  | 1,_=>rfl
  | 2,_=>rfl
  | 3,_=>rfl
variable {N0:Nat→Prop}
theorem len4 {A:List Value} (h:A.length=4):∃ a0 a1 a2 a3,A=[a0,a1,a2,a3]:=by
  match A,h with
  | [a0,a1,a2,a3],_=>exact ⟨a0,a1,a2,a3,rfl⟩
theorem roundI_ok {lo:Nat} {Ch:Nat} {h:Hp} {K:List Item→Tm→Lv→Hp→Prop} {i n fl:Nat} {ad:Option Addr} {A:List Value} (hi:i < 4) (hA:A.length=4)
    (hK:∀ t ls,keeps [(25,.v (.chan (some Ch))),(9,.l 0 0)] t→pre [A.set i (.slice ad n fl)] ls→K (.code recvC :: .inLoop recvC :: .inBlock 2::[.code (tlC 9 (bodyC fI))]) t ls h) :
    R (mainCtx Tryz.prog N0) lo 135 fI (.mid [] K) (.inRegion (opsC (hdC recvC)) [1] :: .code (tlC 1 recvC) :: .inLoop recvC :: .inBlock 2::[.code (tlC 9 (bodyC fI))]) (Tm.put [(25,.v (.chan (some Ch))),(9,.l 0 0)] (some 26) (.v (.tuple #[.agg #[.int .i64 i,.slice ad n fl],.bool true]))) [A] h:=by
  obtain ⟨a0,a1,a2,a3,rfl⟩:=len4 hA
  refine more tbOk mtOk ⟨[3,5,6,8],[]⟩ 100 ?_
  refine cndT ?_
  match i,hi with
  | 0,_ | 1,_ | 2,_ | 3,_=>exact And.intro ⟨by decide,by decide⟩ (R_inLoop (R_mid (hK _ _ ⟨rfl,rfl,trivial⟩ ⟨rfl,trivial⟩)))
theorem recvI_ok {lo:Nat} {Post:Value→Hp→Prop} {Ch:Nat} {h:Hp} {sl:Nat→Value} (hsl:∀ i,i < 4→∃ a n f,sl i = .slice a n f)
    (hfin:∀ t ls,keeps [(9,.l 0 0)] t→pre [[sl 0,sl 1,sl 2,sl 3]] ls→R (mainCtx Tryz.prog N0) lo 135 fI (.ret Post) [.code (tlC 9 (bodyC fI))] t ls h) :
    ∀ (L:List Nat) (A:List Value) t ls,A.length=4→(∀ i∈L,i < 4)→(∀ j:Nat,j < 4→j∉L→A[j]? = some (sl j))→keeps [(25,.v (.chan (some Ch))),(9,.l 0 0)] t→pre [A] ls →
      RC Tryz.prog N0 lo 135 fI (.ret Post) Ch 4 (L.map fun (i:Nat)=>Value.agg #[.int .i64 i,sl i]) true (.code recvC :: .inLoop recvC :: .inBlock 2::[.code (tlC 9 (bodyC fI))]) t ls h:=by
  intro L
  induction L with
  | nil =>
    intro A t ls hA4 _ hA ht hl
    obtain ⟨a0,a1,a2,a3,rfl⟩:=len4 hA4
    obtain rfl:a0=sl 0:=by simpa using hA 0 (by decide) (by simp)
    obtain rfl:a1=sl 1:=by simpa using hA 1 (by decide) (by simp)
    obtain rfl:a2=sl 2:=by simpa using hA 2 (by decide) (by simp)
    obtain rfl:a3=sl 3:=by simpa using hA 3 (by decide) (by simp)
    refine RC.trim ht rfl hl ?_
    refine RC.seg (K:=fun k t ls h'=>k = .inRegion (opsC (hdC recvC)) [0,1] :: .code (tlC 1 recvC) :: .inLoop recvC :: .inBlock 2::[.code (tlC 9 (bodyC fI))]∧t=[(25,.v (.chan (some Ch))),(9,.l 0 0)]∧ls=[[sl 0,sl 1,sl 2,sl 3]]∧h=h') rfl (more tbOk mtOk ⟨[3,5,6,8],[]⟩ 2 (R_mid ⟨rfl,rfl,rfl,rfl⟩)) ?_
    rintro _ _ _ _ ⟨rfl,rfl,rfl,rfl⟩
    refine RC.recvEnd rfl rfl rfl Tryz.underlying204 (tbOk.ok 214 _ rfl) rfl rfl fun z => ?_
    refine more tbOk mtOk ⟨[3,5,6,8],[]⟩ 5 ?_
    refine cndF ?_
    exact hfin _ _ ⟨rfl,trivial⟩ ⟨rfl,trivial⟩
  | cons i L ih =>
    intro A t ls hA4 hL hA ht hl
    obtain ⟨ad,n,fl,he⟩:=hsl i (hL i (by simp))
    refine RC.trim ht rfl hl ?_
    refine RC.seg (K:=fun k t ls h'=>k = .inRegion (opsC (hdC recvC)) [0,1] :: .code (tlC 1 recvC) :: .inLoop recvC :: .inBlock 2::[.code (tlC 9 (bodyC fI))]∧t=[(25,.v (.chan (some Ch))),(9,.l 0 0)]∧ls=[A]∧h=h') rfl (more tbOk mtOk ⟨[3,5,6,8],[]⟩ 2 (R_mid ⟨rfl,rfl,rfl,rfl⟩)) ?_
    rintro _ _ _ _ ⟨rfl,rfl,rfl,rfl⟩
    rw [List.map_cons]
    refine RC.recv rfl rfl rfl Tryz.underlying204 (tbOk.ok 214 _ rfl) rfl rfl ?_
    rw [he]
    refine RC.seg (K:=fun k t ls h'=>k = .code recvC :: .inLoop recvC :: .inBlock 2::[.code (tlC 9 (bodyC fI))]∧keeps [(25,.v (.chan (some Ch))),(9,.l 0 0)] t∧pre [A.set i (.slice ad n fl)] ls∧h=h') rfl ?_ ?_
    · exact roundI_ok (hL i (by simp)) hA4 fun t ls h1 h2=>⟨rfl,h1,h2,rfl⟩
    · rintro _ _ _ _ ⟨rfl,h1,h2,rfl⟩
      refine ih _ _ _ (by rw [List.length_set];exact hA4) (fun j hj=>hL j (by simp [hj])) (fun j hj hj' => ?_) h1 h2
      rw [List.getElem?_set]
      by_cases hij:i=j
      · subst hij;rw [if_pos rfl,if_pos (by omega)];exact congrArg some he.symm
      · rw [if_neg hij];exact hA j hj (by simp [Ne.symm hij,hj'])
def SidesPost (El:Int→Value→Hp→Prop) (lo:Nat) (m:Int) (h:Hp) (v:Value) (h':Hp):Prop :=
  ∃ o L,v=gv o L.length∧Gx lo h' vE1 1 o L∧(L.length:Int)=m∧(∀ (j:Nat) (x:Value),L[j]? = some x→El j x h')∧(blks L).Pairwise (· < ·)∧(∀ b∈blks L,h.n≤b∧b < h'.n∧¬ isB o b)∧(∀ b,isB o b→h.n≤b)∧Ext h h'
theorem tailI_ok {El:Int→Value→Hp→Prop} (K:ElOk El) {lo w hh:Nat} (hw:1≤w∧w≤5) (hh1:1≤hh∧hh≤5) {hb h0 h:Hp} (x0:Ext hb h0) (x1:Ext h0 h) (hlo:lo≤hb.n) {sl:Nat→Value} {c:Nat→Nat} (c0:c 0=h0.n) (c1:∀ i,i < 4→c i≤c (i+1)) (c4:c 4=h.n) (hrd:∀ i,i < 4→RdW El (stN w hh) (cnN w hh) i (c i) (c (i+1)) (sl i) h) {t:Tm} {ls:Lv}
    (ht:keeps [(9,.l 0 0)] t) (hl:pre [[sl 0,sl 1,sl 2,sl 3]] ls):R (mainCtx Tryz.prog N0) lo 135 fI (.ret (SidesPost El lo (2*((w:Int)+hh)) hb)) [.code (tlC 9 (bodyC fI))] t ls h:=by
  obtain ⟨p,hp⟩:=ex_fun (none,[]) (p:=fun i (p:Option (Nat×Nat)×List Value)=>sl i=gv p.1 p.2.length∧Gx 0 h vE1 1 p.1 p.2∧p.2.length=cnN w hh i∧(∀ (j:Nat) (v:Value),p.2[j]? = some v→El (stN w hh i+j) v h)∧(blks p.2).Pairwise (· < ·)∧∀ b∈blks p.2,c i≤b∧b < c (i+1)) fun i hi=>by
    obtain ⟨o,l,h1,h2⟩:=hrd i hi
    exact ⟨(o,l),h1,h2⟩
  refine R_trim ht rfl hl ?_
  refine more tbOk mtOk ⟨[3,5,6,8],[]⟩ 100 ?_
  refine loop (σ:=Nat×Option (Nat×Nat)×List Value) tbOk mtOk ⟨[3,5,6,8],[]⟩ (fun s=>[(35,.v (.int .i64 (s.1:Int))),(34,.v (.agg #[sl 0,sl 1,sl 2,sl 3])),(11,.v (gv s.2.1 s.2.2.length))]) (fun _=>[])
    (fun s h'=>s.1≤4∧Ext h h'∧Gx lo h' vE1 1 s.2.1 s.2.2∧(∀ b,isB s.2.1 b→h.n≤b)∧(s.2.2.length:Int)=stN w hh s.1∧(∀ (j:Nat) (v:Value),s.2.2[j]? = some v→El j v h)∧(blks s.2.2).Pairwise (· < ·)∧∀ b∈blks s.2.2,c 0≤b∧b < c s.1) (fun s=>4 - s.1) 100 (0,none,[]) (fun _=>rfl) ⟨rfl,rfl,rfl,trivial⟩ trivial
    ⟨by decide,Ext.refl h,rfl,(fun b hb=>by obtain ⟨e,hh⟩:=hb;cases hh),rfl,(fun j v hv=>by simp at hv),(by simp [blks]),(fun b hb=>by simp [blks] at hb)⟩ (fun s h' hI again => ?_)
  obtain ⟨j,o,A⟩:=s
  obtain ⟨i1,i2,i3,i4,i5,i6,i7,i8⟩:=hI
  have i5:(A.length:Int)=stN w hh j:=i5
  refine cnd (fun d1 => ?_) (fun d1 => ?_)
  · have d1:j < 4:=by have:=of_decide_eq_true d1;exact Int.ofNat_lt.1 this
    refine And.intro ⟨Int.natCast_nonneg j,Int.ofNat_lt.2 d1⟩ ?_
    obtain ⟨q1,q2,q3,q4,q5,q6⟩:=hp j d1
    obtain ⟨ad,n,fl,he⟩:∃ ad n fl,sl j = .slice ad n fl:=by
      rw [q1];cases (p j).1 with
      | none=>exact ⟨_,_,_,rfl⟩
      | some b=>exact ⟨_,_,_,rfl⟩
    refine ⟨[.slice ad n fl],by rw [← he];exact pick4 sl d1,?_⟩
    have hn:n=(p j).2.length:=by
      have q1':=q1.symm.trans he
      generalize (p j).1=o1 at q1' q2
      match o1,q2 with
      | none,q2 =>
        have q2:(p j).2=[]:=q2
        rw [q2];injection q1' with _ e _;exact e.symm
      | some b,q2=>injection q1' with _ e _;exact e.symm
    subst hn
    have hcl:SlCells h' (.slice ad (p j).2.length fl) 1 (p j).2:=by
      have:=(q2.ext i2).cells vE1_len
      rwa [flat_vE1,← q1,he] at this
    have b1:=stN_succ w hh d1
    have b2:=stN_le w hh (j+1)
    have b3:=c1 j d1
    have hlen:((A++(p j).2).length:Int)=stN w hh (j+1):=by rw [List.length_append,b1,← i5,q3];simp
    have hl40:A.length+(p j).2.length≤40:=by
      have e1:((A.length+(p j).2.length:Nat):Int)=stN w hh (j+1):=by rw [← List.length_append];exact hlen
      omega
    obtain ⟨o',h2,a1,a2,a3⟩:=i3.apps vE1_len (by decide) (p j).2 (Nat.le_trans hl40 (by unfold Id.maxLen;decide)) (by have:=x0.n;have:=x1.n;have:=i2.n;omega)
    rw [flat_vE1] at a1
    refine ⟨_,hcl,_,_,a1,?_⟩
    have hcn:∀ i,i≤4→c i≤h.n∧h0.n≤c i:=by
      have e1:=c1 0 (by decide);have e2:=c1 1 (by decide);have e3:=c1 2 (by decide);have e4:=c1 3 (by decide)
      intro i hi
      match i,hi with
      | 0,_ | 1,_ | 2,_ | 3,_ | 4,_=>simp only [Nat.zero_add,Nat.reduceAdd] at e1 e2 e3 e4;omega
    refine again (j+1,o',A++(p j).2) _ _ _ (by show 4 - (j+1) < 4 - j;omega) ⟨?_,rfl,rfl,trivial⟩ trivial ⟨by show j+1≤4;omega,⟨Nat.le_trans i2.n a3.n,fun i hi => ?_⟩,a2,fun b hb => ?_,hlen,fun k v hv => ?_,?_,fun b hb => ?_⟩
    · show some (Sl.v (.int .i64 (IntKind.i64.wrap ((j:Int)+1))))=_
      rw [wr (by omega) (by omega)];rfl
    · rw [a3.g i (Nat.lt_of_lt_of_le hi i2.n) fun hb=>by have:=i4 i hb;omega];exact i2.g i hi
    · rcases a3.b b hb with hb | hb
      · exact i4 b hb
      · exact Nat.le_trans i2.n hb
    · have hv:(A++(p j).2)[k]? = some v:=hv
      rw [List.getElem?_append] at hv
      split at hv
      · exact i6 k v hv
      · have:=q4 (k - A.length) v hv
        have e:stN w hh j+((k - A.length:Nat):Int)=(k:Int):=by rw [← i5];show (A.length:Int)+_=_;omega
        rw [e] at this
        exact this
    · show (blks (A++(p j).2)).Pairwise (· < ·)
      rw [blks_app,List.pairwise_append]
      exact ⟨i7,q5,fun b hb d hd=>by have:=(i8 b hb).2;have:=(q6 d hd).1;simp only at *;omega⟩
    · have hb:b∈blks (A++(p j).2):=hb
      rw [blks_app,List.mem_append] at hb
      rcases hb with hb | hb
      · have:=i8 b hb;simp only at *;omega
      · have:=q6 b hb;have:=hcn j (by omega);simp only at *;omega
  · have d1:j=4:=by
      have:=of_decide_eq_false d1
      have i1:j≤4:=i1
      have:¬ j < 4:=fun h=>this (Int.ofNat_lt.2 h)
      omega
    subst d1
    refine ⟨o,A,rfl,i3,i5,fun k v hv=>K.ext (i6 k v hv) i2,i7,fun b hb => ?_,fun b hb => ?_,(x0.trans x1).trans i2⟩
    · have:=i8 b hb
      have:=x0.n;have:=x1.n;have:=i2.n
      simp only at *
      exact ⟨by omega,by omega,fun hi=>by have:=i4 b hi;omega⟩
    · have:=i4 b hb;have:=x0.n;have:=x1.n;omega
theorem sidesI_ok {El:Int→Value→Hp→Prop} (K:ElOk El) {lo:Nat} (w hh:Nat) (hw:1≤w∧w≤5) (hh1:1≤hh∧hh≤5) (a:Option Addr) (n fl:Nat) (hn:(n:Int)=(w:Int)*hh) {fOf:FuncId} {cp:List Value} {h:Hp} (Hof:OfOk Tryz.prog El (2*((w:Int)+hh)) fOf cp h) (hsh:∀ k v h,El k v h→∃ x,v = .int .i64 x) :
    Tri (mainCtx Tryz.prog N0) lo 135 [.agg #[.int .i64 (w:Int),.slice a n fl],.func (.func fOf) #[] cp.toArray] h (SidesPost El lo (2*((w:Int)+hh)) h):=by
  refine enter tbOk mtOk ⟨[3,5,6,8],[]⟩ 15 Tryz.func135 rfl rfl rfl fun hlo => ?_
  have ho:Bx (h.push (.cells [.func (.func fOf) #[] cp.toArray] 0 0)) h.n [.func (.func fOf) #[] cp.toArray]:=Bx.push
  refine callP (sideStarts_ok w hh a n fl _ hw hh1 hn) ?_
  rintro v h1 ⟨rfl,e1⟩
  have hs0:Bx (h1.push (.cells [.int .i64 0,.int .i64 0,.int .i64 0,.int .i64 0,.int .i64 0] 0 0)) h1.n [.int .i64 0,.int .i64 0,.int .i64 0,.int .i64 0,.int .i64 0]:=Bx.push
  have e0:Ext h h1:=(Ext.push h _).trans e1
  refine ⟨_,hs0.st (xs:=startsL w hh) (Nat.le_trans hlo e0.n) rfl,?_⟩
  have hs2:=hs0.set (xs:=startsL w hh)
  have ho2:=((ho.ext e1).ext (Ext.push h1 (.cells [.int .i64 0,.int .i64 0,.int .i64 0,.int .i64 0,.int .i64 0] 0 0))).off (o := .cells (startsL w hh) 0 0) (Nat.ne_of_lt (ho.ext e1).lt)
  have e2:=(e0.trans (Ext.push h1 (.cells [.int .i64 0,.int .i64 0,.int .i64 0,.int .i64 0,.int .i64 0] 0 0))).set e0.n (.cells (startsL w hh) 0 0)
  generalize Hp.set _ _ _=h2 at *
  refine R_makeChan rfl rfl rfl Tryz.underlying204 (tbOk.ok 214 _ rfl) (by decide) rfl fun Ch => ?_
  refine RC.trim (t':=[(16,.v (.chan (some Ch))),(5,.v (.pointer (some ⟨h1.n,0,none⟩))),(3,.v (.pointer (some ⟨h.n,0,none⟩)))]) (ls':=[]) ⟨rfl,rfl,rfl,trivial⟩ rfl trivial ?_
  have hc0:Bx (h2.push (.cells [.chan none] 0 0)) h2.n [.chan none]:=Bx.push
  have hc3:=hc0.set (xs:=[.chan (some Ch)])
  have hs3:=(hs2.ext (Ext.push h2 (.cells [.chan none] 0 0))).off (o := .cells [.chan (some Ch)] 0 0) (Nat.ne_of_lt hs2.lt)
  have ho3:=(ho2.ext (Ext.push h2 (.cells [.chan none] 0 0))).off (o := .cells [.chan (some Ch)] 0 0) (Nat.ne_of_lt ho2.lt)
  have e3:=(e2.trans (Ext.push h2 (.cells [.chan none] 0 0))).set e2.n (.cells [.chan (some Ch)] 0 0)
  refine RC.seg (K:=fun k t ls h'=>k=[.inRegion (opsC (hdC (tlC 3 (bodyC fI)))) [0],.code (tlC 4 (bodyC fI))]∧keeps [(5,.v (.pointer (some ⟨h1.n,0,none⟩))),(3,.v (.pointer (some ⟨h.n,0,none⟩))),(6,.v (.pointer (some ⟨h2.n,0,none⟩)))] t∧Hp.set (h2.push (.cells [.chan none] 0 0)) h2.n (.cells [.chan (some Ch)] 0 0)=h') rfl (more tbOk mtOk ⟨[3,5,6,8],[]⟩ 5 ⟨_,hc0.st (Nat.le_trans hlo e2.n) rfl,R_mid ⟨rfl,⟨rfl,rfl,rfl,trivial⟩,rfl⟩⟩) ?_
  rintro _ t _ _ ⟨rfl,k1,rfl⟩
  generalize Hp.set _ _ _=h3 at *
  refine RC.phase (tE:=[(6,.v (.pointer (some ⟨h2.n,0,none⟩)))]) (kE:=kWaitI) wgLib rfl rfl rfl rfl (Nat.le_of_ble_eq_true rfl) (tbOk.ok 211 _ rfl) rfl (RdW.ok K (stN w hh) (cnN w hh)) (by decide) rfl (fun j x hx=>⟨keeps_sub k1 j x hx,allP_ok (p:=flatS) (t:=[(5,.v (.pointer (some ⟨h1.n,0,none⟩))),(3,.v (.pointer (some ⟨h.n,0,none⟩))),(6,.v (.pointer (some ⟨h2.n,0,none⟩)))]) ⟨trivial,trivial,trivial,trivial⟩ j x hx⟩) (fun s hp Wg fro => ?_) (fun sl Lp c h' e hnd hmem c0 c1 c4 hrd => ?_)
  · refine more tbOk mtOk ⟨[3,5,6,8],[]⟩ 100 ?_
    refine R_loop (startI_ok K w hh hw hh1 (Hof.mono e3) hs3 ho3 hc3 hsh _ rfl ?_ 4 0 rfl _ ⟨rfl,rfl,rfl,rfl,rfl,trivial⟩)
    rintro b (rfl | rfl | rfl)
    · exact (hp 5 _ rfl).2
    · exact (hp 3 _ rfl).2
    · exact (hp 6 _ rfl).2
  · refine RC.seg (K:=fun k t ls h''=>k=[.inRegion (opsC (hdC (tlC 6 (bodyC fI)))) [1],.code (tlC 7 (bodyC fI))]∧keeps [(24,.v (.chan (some Ch))),(6,.v (.pointer (some ⟨h2.n,0,none⟩)))] t∧h'=h'') rfl (more tbOk mtOk ⟨[3,5,6,8],[]⟩ 4 ⟨_,(hc3.ext e).ld rfl,R_mid ⟨rfl,⟨rfl,rfl,trivial⟩,rfl⟩⟩) ?_
    rintro _ t _ _ ⟨rfl,k2,rfl⟩
    refine RC.trim (ls':=[]) k2 rfl trivial ?_
    refine RC.close rfl rfl rfl rfl rfl (by rw [Tryz.func135];rfl) ?_
    refine RC.seg (K:=fun k t ls h''=>k = .code recvC :: .inLoop recvC :: .inBlock 2::[.code (tlC 9 (bodyC fI))]∧keeps [(25,.v (.chan (some Ch))),(9,.l 0 0)] t∧pre [[.slice none 0 0,.slice none 0 0,.slice none 0 0,.slice none 0 0]] ls∧h'=h'') rfl (more tbOk mtOk ⟨[3,5,6,8],[]⟩ 100 ⟨_,(hc3.ext e).ld rfl,R_loop (R_mid ⟨rfl,⟨rfl,rfl,trivial⟩,⟨rfl,trivial⟩,rfl⟩)⟩) ?_
    rintro _ t ls _ ⟨rfl,k3,k4,rfl⟩
    refine recvI_ok (fun i hi => ?_) (fun t ls ht hl=>tailI_ok K hw hh1 e3 e hlo c0 c1 c4 hrd ht hl) Lp _ _ _ rfl (fun i hi=>(hmem i).1 hi) (fun j hj hnj=>absurd ((hmem j).2 hj) hnj) k3 k4
    obtain ⟨o,l,q1,_⟩:=hrd i hi
    rw [q1];cases o with
    | none=>exact ⟨_,_,_,rfl⟩
    | some b=>exact ⟨_,_,_,rfl⟩
end Go.Proofs.YtjpcfaddimlbdaaGreat.Id
namespace Go.Proofs.YtjpcfaddimlbdaaGreat.Id
open Go.Id Go.Conc Go.Conc.Lib
open Go.Proofs
set_option linter.unusedVariables false
set_option maxRecDepth 100000
theorem many_nat {g:Gd} {w hh:Nat} (h1:g.w=w) (h2:g.hi=hh):many g=2*((w:Int)+hh):=by unfold many;rw [h1,h2]
theorem gx_ints {lo:Nat} {h:Hp} {o:Option (Nat×Nat)} {L:List Value} {l:List Int} (g:Gx lo h vE1 1 o L) (e:L=l.map fun x=>Value.int .i64 x):Gx lo h iE 1 o l:=by
  subst e
  match o,g with
  | none,g=>exact List.map_eq_nil_iff.1 g
  | some (b,e),⟨g1,g2⟩=>exact ⟨g1,g2.lt,by rw [g2.g,flat_vE1,flat_iE]⟩
theorem ints_of {L:List Value} {m:Nat} {f:Int→Int} (hl:L.length=m) (h:∀ (j:Nat) (x:Value),L[j]? = some x→x = .int .i64 (f j)):L=((List.range m).map fun (k:Nat)=>f k).map fun x=>Value.int .i64 x:=by
  refine List.ext_getElem (by simp [hl]) fun j h1 h2 => ?_
  rw [h j _ (List.getElem?_eq_getElem h1)];simp
theorem elInt (f:Int→Int):ElOk fun k v _=>v = .int .i64 (f k):=by
  refine ⟨fun k v h e => ?_,fun k v h b e hb => ?_,fun k v h h' e _ _=>e,fun k v h e => .inl ?_,fun k v h h' d e _ => ?_⟩
  · subst e;exact ⟨rfl,rfl⟩
  · subst e;cases hb
  · subst e;rfl
  · subst e;rfl
variable {N0:Nat→Prop} {lo:Nat}
def PicP (lo:Nat) (g:Gd) (h:Hp) (v:Value) (h':Hp):Prop:=(∃ o,v=gv o (if gOk g then pic g else []).length∧Gx lo h' iE 1 o (if gOk g then pic g else [])∧∀ b,isB o b→h.n≤b)∧Ext h h'
theorem PicOf_ok (g:Gd) (ad:Option Addr) (fl:Nat) (h:Hp) (hs:Sls h cE 2 ad g.cs) (hn:(g.cs.length:Int) < 2 ^ 31):Tri (mainCtx Tryz.prog N0) lo 104 [.agg #[.int .i64 g.w,.slice ad g.cs.length fl]] h (PicP lo g h):=by
  refine enter tbOk mtOk ⟨[1],[]⟩ 400 Tryz.func104 rfl rfl rfl fun hlo => ?_
  have hb:Bx (h.push (.cells [.int .i64 g.w,.slice ad g.cs.length fl] 0 0)) h.n [.int .i64 g.w,.slice ad g.cs.length fl]:=Bx.push
  refine ⟨_,hb.ld rfl,?_⟩
  refine callP (GridOk_ok g.w ad fl g.cs _ (hs.ext (Ext.push _ _)) hn) ?_
  rintro v h1 ⟨rfl,e1⟩
  have e2:Ext h h1:=(Ext.push _ _).trans e1
  refine cnd (fun c1 => ?_) (fun c1 => ?_)
  · have hg:gOk g=false:=by simpa using c1
    refine ⟨⟨none,?_,?_,fun b hb=>by obtain ⟨e,hh⟩:=hb;cases hh⟩,e2⟩
    · rw [hg];rfl
    · rw [hg];rfl
  · have hg:gOk g=true:=by simpa using c1
    refine ⟨_,(hb.ext e1).ld rfl,?_⟩
    obtain ⟨w,hh,q1,q2,q3,q4,q5⟩:=gOk_nat hg
    have hm:=many_nat q1 q2
    have S:=sidesI_ok (N0:=N0) (lo:=lo) (El:=fun k v _=>v = .int .i64 (lightAt g k)) (elInt (lightAt g)) w hh q3 q4 ad g.cs.length fl q5 (fOf:=136) (cp:=[.pointer (some ⟨h.n,0,none⟩)]) (h:=h1)
      (fun fro lo' k h' x _ k0 k1=>(PicOf1_ok g k (trail g k) ad fl h.n h' ((hb.ext e1).ext x) (hs.ext (e2.trans x)) hn (trail_ok g k).1 (trail_ok g k).2.1 (trail_ok g k).2.2.1 (trail_ok g k).2.2.2.1).mono fun v h'' ⟨a1,a2⟩=>⟨a1,a2,fun b hb=>(by subst a1;cases hb)⟩) (fun k v h e=>⟨_,e⟩)
    rw [← q1] at S
    refine callP S ?_
    rintro v h2 ⟨o,L,rfl,g1,g2,g3,g4,g5,g6,e3⟩
    have hL:L=(pic g).map fun x=>Value.int .i64 x:=ints_of (by omega) g3
    refine ⟨⟨o,?_,?_,fun b hb=>Nat.le_trans e2.n (g6 b hb)⟩,e2.trans e3⟩
    · rw [hg,hL];simp
    · rw [hg];exact gx_ints g1 hL
end Go.Proofs.YtjpcfaddimlbdaaGreat.Id
