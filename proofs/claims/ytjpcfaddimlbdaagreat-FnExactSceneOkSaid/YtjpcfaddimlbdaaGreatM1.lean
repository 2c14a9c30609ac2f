/- Texts of this claim, joined: IdA, IdB, IdC, IdD, IdE, IdF, IdG, IdH, IdI, IdJ, IdK, IdL, IdMp, IdM, IdN, IdO, IdPa, IdPb, IdP, IdPd. -/
import Derived.Conc.CompanyCalls
import Derived.Laws.Tables
import Derived.Orders
namespace Go.Id
open Go.Conc
set_option linter.unusedVariables false
inductive TyK where
  | int (k:IntKind) | bool | str | ptr (e:Nat) | slice (e:Nat) | struct (fs:List (Nat×Nat)) | array (n e:Nat) | map (k e:Nat) | iface | func | chan | other
structure TyI where
  k:TyK
  sz:Nat
  zero:List Value
  eq:Bool:=false
def TyI.agg (i:TyI):Bool:=match i.k with | .struct _ | .array _ _=>true | _=>false
def plainV:Value→Bool
  | .bool _ | .int _ _ | .float _ _ | .complex _ _ _ | .string _ | .pointer none | .slice none 0 0 | .map none | .chan _ | .nilFunc | .nilIface=>true
  | .tuple a=>a.size == 0
  | .func _ a b=>a.size == 0&&b.size == 0
  | _=>false
def kOk (d:TypeDesc):TyK→Bool
  | .int k=>match d with | .int k'=>k == k' | _=>false
  | .bool=>match d with | .bool=>true | _=>false
  | .str=>match d with | .string=>true | _=>false
  | .ptr e=>match d with | .pointer e'=>e == e' | _=>false
  | .slice e=>match d with | .slice e'=>e == e' | _=>false
  | .struct fs=>match d with | .struct fs'=>fs'.toList.map (fun f=>(f.offset,f.type)) == fs | _=>false
  | .array n e=>match d with | .array n' e'=>n == n'&&e == e' | _=>false
  | .map k e=>match d with | .map k' e'=>k == k'&&e == e' | _=>false
  | .iface=>match d with | .interface _=>true | _=>false
  | .func=>match d with | .func _ _ _=>true | _=>false
  | .chan=>match d with | .chan _ _=>true | _=>false
  | .other=>true
def intsEq:List Value→List Value→Option Bool
  | [],[]=>some true
  | .int k a::xs,.int k' b::ys=>if k=k' then (match intsEq xs ys with | some r=>some (a == b&&r) | none=>none) else none
  | _,_=>none
def Dz {α:Type} (P:Program) (E:Event→Prop) (s:Sem α) (w:World) (Q:α→World→Prop):Prop :=
  ∃ v w',s.run P w = .ok v w'∧Q v w'∧∀ es,(∀ e∈es,E e)→∀ e∈s.events P w es,E e
structure TyOk (P:Program) (t:Nat) (i:TyI):Prop where
  info:∃ info,P.info? t=some info∧info.size=i.sz∧(∃ z,info.zero=some z∧z.cells=i.zero.toArray∧(match i.agg with | true=>z = .agg i.zero.toArray | false=>i.zero=[z]))∧info.bytes≤4096
  kind:∃ d,P.underlying t=some d∧kOk d i.k=true
  plain:∀ v∈i.zero,plainV v=true∧v.oneCell'=true
  size:i.zero.length=i.sz
  eq:i.eq=true→P.eqGuardType P.depth t=false∧∀ (xs ys:List Value) (r:Bool) (w:World) (E:Event→Prop) (Q:Bool→World→Prop),xs.length=i.sz→intsEq xs ys=some r→Q r w→Dz P E (Op.equal t (.agg xs.toArray) (.agg ys.toArray)) w Q
  one:i.agg=false→i.sz=1
  fields:∀ fs,P.underlying t=some (.struct fs)→∃ places,fs.toList.mapM (fun f=>(P.info? f.type).map fun i=>(f.offset,i.size))=some places
inductive Ob where
  | cells (c:List Value) (sz ep:Nat)
  | map (es:List (Int×Value))
structure Hp where
  n:Nat
  g:Nat→Ob
def Hp.push (h:Hp) (o:Ob):Hp:=⟨h.n+1,fun i=>if i=h.n then o else h.g i⟩
def Hp.set (h:Hp) (j:Nat) (o:Ob):Hp:=⟨h.n,fun i=>if i=j then o else h.g i⟩
structure Cel where
  b:Nat
  o:Nat
  cap:Nat
structure Sim where
  adr:Nat→Option Cel
  ep:Nat→Nat
  mp:Nat→Option Nat
def epOf (sp:Option Nat):Nat:=sp.getD 0
inductive VR (s:Sim):Value→Value→Prop
  | bool (b:Bool):VR s (.bool b) (.bool b)
  | int (k:IntKind) (n:Int):VR s (.int k n) (.int k n)
  | float (k:FloatKind) (n:Nat):VR s (.float k n) (.float k n)
  | complex (k:FloatKind) (n m:Nat):VR s (.complex k n m) (.complex k n m)
  | str (x:ByteArray):VR s (.string x) (.string x)
  | ptr0:VR s (.pointer none) (.pointer none)
  | ptr (id off:Nat) (sp:Option Nat) (a:Addr) (c:Cel) (ha:s.adr id=some c) (he:epOf sp≤s.ep id) (h:epOf sp=s.ep id→a=⟨c.b,c.o+off,none⟩) :
      VR s (.pointer (some ⟨id,off,sp⟩)) (.pointer (some a))
  | sl0:VR s (.slice none 0 0) (.slice none 0 0)
  | sl (id off:Nat) (sp:Option Nat) (n fl:Nat) (a:Addr) (cap:Nat) (c:Cel) (ha:s.adr id=some c) (he:epOf sp≤s.ep id)
      (h:epOf sp=s.ep id→(n≠0∨fl=1→a=⟨c.b,c.o+off,none⟩)∧(fl=1→off=0→cap=c.cap)) (h0:fl=0→cap=n) (hn:n≤cap) :
      VR s (.slice (some ⟨id,off,sp⟩) n fl) (.slice (some a) n cap)
  | map0:VR s (.map none) (.map none)
  | map (r b:Nat) (h:s.mp r=some b):VR s (.map (some r)) (.map (some b))
  | chan (r:Option Nat):VR s (.chan r) (.chan r)
  | fn (f:Fn) (x y x' y':Array Value) (hx:x.size=x'.size) (hy:y.size=y'.size) (h:∀ (i:Nat) (v w:Value),x[i]? = some v→x'[i]? = some w→VR s v w) (h':∀ (i:Nat) (v w:Value),y[i]? = some v→y'[i]? = some w→VR s v w) :
      VR s (.func f x y) (.func f x' y')
  | fn0:VR s .nilFunc .nilFunc
  | if0:VR s .nilIface .nilIface
  | iface (t:TypeId) (v w:Value) (h:VR s v w):VR s (.iface t v) (.iface t w)
  | agg (x y:Array Value) (hs:x.size=y.size) (h:∀ (i:Nat) (v w:Value),x[i]? = some v→y[i]? = some w→VR s v w) (h1:∀ w∈y,w.oneCell'=true):VR s (.agg x) (.agg y)
  | tup (x y:Array Value) (hs:x.size=y.size) (h:∀ (i:Nat) (v w:Value),x[i]? = some v→y[i]? = some w→VR s v w):VR s (.tuple x) (.tuple y)
structure Sim.le (s s':Sim):Prop where
  adr:∀ id c,s.adr id=some c→∃ c',s'.adr id=some c'∧s.ep id≤s'.ep id∧(s.ep id=s'.ep id→c'=c)
  mp:∀ id b,s.mp id=some b→s'.mp id=some b
theorem Sim.le_refl (s:Sim):s.le s:=⟨fun id c h=>⟨c,h,Nat.le_refl _,fun _=>rfl⟩,fun _ _ h=>h⟩
theorem Sim.le.trans {s s' s'':Sim} (h:s.le s') (h':s'.le s''):s.le s'':=by
  refine ⟨fun id c hc => ?_,fun id b hb=>h'.mp id b (h.mp id b hb)⟩
  obtain ⟨c',hc',hl,he⟩:=h.adr id c hc
  obtain ⟨c'',hc'',hl',he'⟩:=h'.adr id c' hc'
  exact ⟨c'',hc'',Nat.le_trans hl hl',fun e=>by rw [he' (by omega),he (by omega)]⟩
theorem VR.mono {s s':Sim} (hl:s.le s') {v w:Value} (h:VR s v w):VR s' v w:=by
  induction h with
  | ptr id off sp a c ha he h =>
    obtain ⟨c',hc',hle,heq⟩:=hl.adr id c ha
    exact .ptr id off sp a c' hc' (by omega) fun e=>by rw [heq (by omega)];exact h (by omega)
  | sl id off sp n fl a cap c ha he h h0 hn =>
    obtain ⟨c',hc',hle,heq⟩:=hl.adr id c ha
    exact .sl id off sp n fl a cap c' hc' (by omega) (fun e=>by rw [heq (by omega)];exact h (by omega)) h0 hn
  | map r b h=>exact .map r b (hl.mp r b h)
  | fn f x y x' y' hx hy h h' ih ih'=>exact .fn f x y x' y' hx hy ih ih'
  | iface t v w h ih=>exact .iface t v w ih
  | agg x y hs h h1 ih=>exact .agg x y hs ih h1
  | tup x y hs h ih=>exact .tup x y hs ih
  | bool=>exact .bool _
  | int=>exact .int _ _
  | float=>exact .float _ _
  | complex=>exact .complex _ _ _
  | str=>exact .str _
  | ptr0=>exact .ptr0
  | sl0=>exact .sl0
  | map0=>exact .map0
  | chan=>exact .chan _
  | fn0=>exact .fn0
  | if0=>exact .if0
theorem VR.plain (s:Sim) {v:Value} (h:plainV v=true):VR s v v:=by
  unfold plainV at h
  split at h
  case h_12 a=>exact .tup _ _ rfl fun i v w h1 _=>by simp_all
  case h_13 f a b=>exact .fn _ _ _ _ _ rfl rfl (fun i v w h1 _=>by simp_all) (fun i v w h1 _=>by simp_all)
  all_goals first | (cases h;done) | constructor
def VRs (s:Sim) (xs:List Value) (ys:List Value):Prop:=xs.length=ys.length∧∀ (i:Nat) (v w:Value),xs[i]? = some v→ys[i]? = some w→VR s v w
theorem VRs.mono {s s':Sim} (hl:s.le s') {xs ys:List Value} (h:VRs s xs ys):VRs s' xs ys:=⟨h.1,fun i v w a b=>(h.2 i v w a b).mono hl⟩
theorem VRs.nil (s:Sim):VRs s [] []:=⟨rfl,fun i v w h=>by simp at h⟩
theorem VRs.cons {s:Sim} {x y:Value} {xs ys:List Value} (h:VR s x y) (ht:VRs s xs ys):VRs s (x::xs) (y::ys):=by
  refine ⟨by simp [ht.1],fun i v w a b => ?_⟩
  cases i with
  | zero=>simp at a b;subst a;subst b;exact h
  | succ i=>simp at a b;exact ht.2 i v w a b
theorem VRs.get {s:Sim} {xs ys:List Value} (h:VRs s xs ys) {i:Nat} {v:Value} (hv:xs[i]? = some v):∃ w,ys[i]? = some w∧VR s v w:=by
  have hi:i < ys.length:=by rw [← h.1];exact (List.getElem?_eq_some_iff.1 hv).1
  exact ⟨ys[i],List.getElem?_eq_getElem hi,h.2 i v _ hv (List.getElem?_eq_getElem hi)⟩
theorem VRs.app {s:Sim} {xs ys xs' ys':List Value} (h:VRs s xs ys) (h':VRs s xs' ys'):VRs s (xs++xs') (ys++ys'):=by
  refine ⟨by simp [h.1,h'.1],fun i v w a b => ?_⟩
  rw [List.getElem?_append] at a b
  by_cases hi:i < xs.length
  · rw [if_pos hi] at a;rw [if_pos (h.1▸hi)] at b;exact h.2 i v w a b
  · rw [if_neg hi] at a;rw [if_neg (h.1▸hi),← h.1] at b;exact h'.2 _ v w a b
theorem VRs.of_plain (s:Sim) {xs:List Value} (h:∀ v∈xs,plainV v=true):VRs s xs xs :=
  ⟨rfl,fun i v w a b=>by rw [a] at b;cases b;exact VR.plain s (h v (List.mem_of_getElem? a))⟩
theorem VRs.take {s:Sim} {xs ys:List Value} (h:VRs s xs ys) (n:Nat):VRs s (xs.take n) (ys.take n):=by
  refine ⟨by simp [h.1],fun i v w a b => ?_⟩
  rw [List.getElem?_take] at a b
  split at a
  · rw [if_pos ‹_›] at b;exact h.2 i v w a b
  · cases a
theorem VRs.drop {s:Sim} {xs ys:List Value} (h:VRs s xs ys) (n:Nat):VRs s (xs.drop n) (ys.drop n):=by
  refine ⟨by simp [h.1],fun i v w a b => ?_⟩
  rw [List.getElem?_drop] at a b
  exact h.2 _ v w a b
theorem VRs.set {s:Sim} {xs ys:List Value} (h:VRs s xs ys) (n:Nat) {x y:Value} (hx:VR s x y):VRs s (xs.set n x) (ys.set n y):=by
  refine ⟨by simp [h.1],fun i v w a b => ?_⟩
  rw [List.getElem?_set] at a b
  split at a
  · rw [if_pos ‹_›] at b;split at a
    · cases a;split at b
      · cases b;exact hx
      · cases b
    · cases a
  · rw [if_neg ‹_›] at b;exact h.2 i v w a b
def VRm (s:Sim) (xs ys:List Value):Prop:=VRs s xs ys∧∀ y∈ys,y.oneCell'=true
theorem VRm.mono {s s':Sim} (hl:s.le s') {xs ys:List Value} (h:VRm s xs ys):VRm s' xs ys:=⟨h.1.mono hl,h.2⟩
theorem VRm.take {s:Sim} {xs ys:List Value} (h:VRm s xs ys) (n:Nat):VRm s (xs.take n) (ys.take n):=⟨h.1.take n,fun y hy=>h.2 y (List.mem_of_mem_take hy)⟩
theorem VRm.drop {s:Sim} {xs ys:List Value} (h:VRm s xs ys) (n:Nat):VRm s (xs.drop n) (ys.drop n):=⟨h.1.drop n,fun y hy=>h.2 y (List.mem_of_mem_drop hy)⟩
theorem VRm.app {s:Sim} {xs ys xs' ys':List Value} (h:VRm s xs ys) (h':VRm s xs' ys'):VRm s (xs++xs') (ys++ys'):=⟨h.1.app h'.1,fun y hy=>(List.mem_append.1 hy).elim (h.2 y) (h'.2 y)⟩
theorem VRm.of_plain (s:Sim) {xs:List Value} (h:∀ v∈xs,plainV v=true∧v.oneCell'=true):VRm s xs xs:=⟨VRs.of_plain s fun v hv=>(h v hv).1,fun v hv=>(h v hv).2⟩
theorem VRm.nil (s:Sim):VRm s [] []:=⟨VRs.nil s,fun _ h=>by cases h⟩
def Holds (w:World) (b o:Nat) (ys:List Value):Prop:=∀ (i:Nat) (v:Value),ys[i]? = some v→w.cell? ⟨b,o+i,none⟩=some v
structure SimOk (N0:Nat→Prop) (lo:Nat) (s:Sim) (O:Nat→Prop) (h:Hp) (w:World):Prop where
  cells:∀ id c,s.adr id=some c→id < h.n∧(id < lo→N0 c.b)∧∃ cs sz,h.g id = .cells cs sz (s.ep id)∧∃ ys,VRm s cs ys∧Holds w c.b c.o ys
  own:∀ id c,s.adr id=some c→lo≤id→O c.b∧c.o=0∧∃ rc ty,w.heap[c.b]? = some (.cells rc ty (0,0))∧∃ cs sz e,h.g id = .cells cs sz e∧cs.length≤rc.size∧(sz≠0→rc.size=c.cap*sz)
  apart:∀ id c id' c',s.adr id=some c→s.adr id'=some c'→lo≤id→id≠id'→c.b≠c'.b
  maps:∀ id b,s.mp id=some b→id < h.n∧(lo≤id→O b∧(∀ id' c,s.adr id'=some c→c.b≠b)∧(∀ id',lo≤id'→s.mp id'=some b→id'=id) ∧
    ∃ es en ck,h.g id = .map es∧w.heap[b]? = some (.map en ck)∧es.length=en.size∧∀ (i:Nat) (k:Int) (v:Value) (e:MapEntry),es[i]? = some (k,v)→en[i]? = some e→e.key = .int .i64 k∧VR s v e.val∧True)
  now:∀ b,O b→b < w.heap.size
  new:∀ b,O b→¬ N0 b
  base:∀ b,N0 b→b < w.heap.size
  lohi:lo≤h.n
def Rng (s:Sim) (lo b:Nat):Prop:=(∃ id c,s.adr id=some c∧lo≤id∧c.b=b)∨(∃ id,s.mp id=some b∧lo≤id)
def Rly (N0:Nat→Prop) (O:Nat→Prop) (w w₁:World):Prop :=
  w.heap.size≤w₁.heap.size∧(∀ b,b < w.heap.size→(N0 b∨O b)→w₁.heap[b]? = w.heap[b]?)∧w₁.os=w.os∧w₁.output=w.output
def EvOk (N0:Nat→Prop) (O:Nat→Prop) (e:Event):Prop :=
  match e.loc with
  | .cell a=>e.sync=false∧(if e.write then O a.block else (N0 a.block∨O a.block))
  | .obj r=>e.sync=false∧O r
  | .mark .noRoom=>True
  | _=>False
structure Guar (N0:Nat→Prop) (O:Nat→Prop) (w w':World) (es:Array Event):Prop where
  size:w.heap.size≤w'.heap.size
  keep:∀ b,b < w.heap.size→¬ O b→w'.heap[b]? = w.heap[b]?
  os:w'.os=w.os
  out:w'.output=w.output
  evs:∀ e∈es,EvOk N0 O e
def grow (O:Nat→Prop) (w w':World) (b:Nat):Prop:=O b∨(w.heap.size≤b∧b < w'.heap.size)
theorem Rly.refl (N0:Nat→Prop) (O:Nat→Prop) (w:World):Rly N0 O w w:=⟨Nat.le_refl _,fun _ _ _=>rfl,rfl,rfl⟩
theorem Rly.trans {N0:Nat→Prop} {O:Nat→Prop} {w w₁ w₂:World} (h:Rly N0 O w w₁) (h':Rly N0 O w₁ w₂):Rly N0 O w w₂ :=
  ⟨Nat.le_trans h.1 h'.1,fun b hb ho=>(h'.2.1 b (by have:=h.1;omega) ho).trans (h.2.1 b hb ho),h'.2.2.1.trans h.2.2.1,h'.2.2.2.trans h.2.2.2⟩
theorem cell_of_heap {w w₁:World} {a:Addr} (h:w₁.heap[a.block]? = w.heap[a.block]?):w₁.cell? a=w.cell? a:=by unfold World.cell?;rw [h]
theorem Holds.of_heap {w w₁:World} {b o:Nat} {ys:List Value} (h:Holds w b o ys) (hb:w₁.heap[b]? = w.heap[b]?):Holds w₁ b o ys :=
  fun i v hv=>(cell_of_heap (a:=⟨b,o+i,none⟩) hb).trans (h i v hv)
theorem SimOk.bl {N0:Nat→Prop} {lo:Nat} {s:Sim} {O:Nat→Prop} {h:Hp} {w:World} (H:SimOk N0 lo s O h w) {i:Nat} {c:Cel} (hc:s.adr i=some c):N0 c.b∨O c.b:=by
  by_cases hl:lo≤i
  · exact .inr (H.own i c hc hl).1
  · exact .inl ((H.cells i c hc).2.1 (by omega))
theorem SimOk.rely {N0:Nat→Prop} {lo:Nat} {s:Sim} {O:Nat→Prop} {h:Hp} {w w₁:World} (H:SimOk N0 lo s O h w) (r:Rly N0 O w w₁):SimOk N0 lo s O h w₁:=by
  have lt:∀ b,(N0 b∨O b)→b < w.heap.size:=fun b hb=>hb.elim (H.base _) (H.now b)
  refine ⟨fun id c hc => ?_,fun id c hc hl => ?_,H.apart,fun id b hb => ?_,fun b hb=>Nat.lt_of_lt_of_le (H.now b hb) r.1,H.new,fun b hb=>Nat.lt_of_lt_of_le (H.base b hb) r.1,H.lohi⟩
  · obtain ⟨h1,h2,cs,sz,h3,ys,h4,h5⟩:=H.cells id c hc
    exact ⟨h1,h2,cs,sz,h3,ys,h4,h5.of_heap (r.2.1 c.b (lt _ (H.bl hc)) (H.bl hc))⟩
  · obtain ⟨h1,h2,rc,ty,h3,h4⟩:=H.own id c hc hl
    exact ⟨h1,h2,rc,ty,(r.2.1 c.b (H.now _ h1) (.inr h1)).trans h3,h4⟩
  · obtain ⟨h1,hx⟩:=H.maps id b hb
    refine ⟨h1,fun hl => ?_⟩
    obtain ⟨h3,h4,h5,es,en,ck,h6,h7,h8⟩:=hx hl
    exact ⟨h3,h4,h5,es,en,ck,h6,(r.2.1 b (H.now _ h3) (.inr h3)).trans h7,h8⟩
section
variable {α β:Type} {P:Program} {E:Event→Prop} {w:World}
theorem Dz.pure {Q:α→World→Prop} {a:α} (h:Q a w):Dz P E (Pure.pure a:Sem α) w Q:=⟨a,w,rfl,h,fun es he=>by simpa using he⟩
theorem Dz.bind {Q:α→World→Prop} {Q':β→World→Prop} {x:Sem α} {f:α→Sem β} (h:Dz P E x w Q) (hf:∀ v w',Q v w'→Dz P E (f v) w' Q'):Dz P E (x >>= f) w Q':=by
  obtain ⟨v,w',hr,hq,he⟩:=h
  obtain ⟨v',w'',hr',hq',he'⟩:=hf v w' hq
  refine ⟨v',w'',by rw [Sem.run_bind,hr];exact hr',hq',fun es hes => ?_⟩
  rw [Sem.events_bind,hr]
  exact he' _ (he es hes)
theorem Dz.mono {Q Q':α→World→Prop} {x:Sem α} (h:Dz P E x w Q) (hq:∀ v w',Q v w'→Q' v w'):Dz P E x w Q':=by
  obtain ⟨v,w',hr,h1,he⟩:=h
  exact ⟨v,w',hr,hq _ _ h1,he⟩
theorem Dz.map {Q:β→World→Prop} {x:Sem α} {f:α→β} (h:Dz P E x w fun v w'=>Q (f v) w'):Dz P E (f <$> x) w Q :=
  Dz.bind h fun v w' hq=>Dz.pure hq
theorem Dz.program {Q:Program→World→Prop} (h:Q P w):Dz P E Go.program w Q:=⟨P,w,rfl,h,fun es he=>by simpa using he⟩
theorem Dz.underlying {t:TypeId} {d:TypeDesc} (ht:P.underlying t=some d) {Q:TypeDesc→World→Prop} (h:Q d w):Dz P E (Go.underlying t) w Q:=by
  unfold Go.underlying
  refine Dz.bind (Q:=fun p w'=>p=P∧w'=w) (Dz.program ⟨rfl,rfl⟩) ?_
  rintro p w' ⟨rfl,rfl⟩
  rw [ht];exact Dz.pure h
theorem Dz.typeInfo {t:TypeId} {i:TypeInfo} (ht:P.info? t=some i) {Q:TypeInfo→World→Prop} (h:Q i w):Dz P E (Go.typeInfo t) w Q:=by
  unfold Go.typeInfo
  refine Dz.bind (Q:=fun p w'=>p=P∧w'=w) (Dz.program ⟨rfl,rfl⟩) ?_
  rintro p w' ⟨rfl,rfl⟩
  rw [ht];exact Dz.pure h
theorem Dz.sizeOf {t:Nat} {i:TyI} (ht:TyOk P t i) {Q:Nat→World→Prop} (h:Q i.sz w):Dz P E (Go.sizeOf t) w Q:=by
  obtain ⟨info,h1,h2,_⟩:=ht.info
  unfold Go.sizeOf
  exact Dz.bind (Q:=fun p w'=>p=info∧w'=w) (Dz.typeInfo h1 ⟨rfl,rfl⟩) fun v w' e=>by obtain ⟨rfl,rfl⟩:=e;exact Dz.pure (by rw [h2];exact h)
theorem Dz.zeroValue {t:Nat} {i:TyI} (ht:TyOk P t i) {Q:Value→World→Prop} (h:∀ z,z.cells=i.zero.toArray→Q z w):Dz P E (Go.zeroValue t) w Q:=by
  obtain ⟨info,h1,h2,⟨z,h3,h4,_⟩,_⟩:=ht.info
  unfold Go.zeroValue
  refine Dz.bind (Q:=fun p w'=>p=info∧w'=w) (Dz.typeInfo h1 ⟨rfl,rfl⟩) ?_
  rintro v w' ⟨rfl,rfl⟩
  rw [h3];exact Dz.pure (h z h4)
def aggD (d:TypeDesc):Bool:=match d with | .struct _ | .array _ _=>true | _=>false
theorem kOk_agg {d:TypeDesc} {i:TyI} (h:kOk d i.k=true) (ho:i.k ≠ .other):aggD d=i.agg:=by
  unfold aggD
  unfold TyI.agg
  cases hk:i.k<;>rw [hk] at h<;>cases d<;>simp_all [kOk]
theorem Dz.isAgg {t:Nat} {i:TyI} (ht:TyOk P t i) (ho:i.k ≠ .other) {Q:Bool→World→Prop} (h:Q i.agg w):Dz P E (Go.isAgg t) w Q:=by
  obtain ⟨d,h1,h2⟩:=ht.kind
  unfold Go.isAgg
  refine Dz.bind (Q:=fun p w'=>p=d∧w'=w) (Dz.underlying h1 ⟨rfl,rfl⟩) ?_
  rintro v w' ⟨rfl,rfl⟩
  have:=kOk_agg h2 ho
  unfold aggD at this
  cases v<;>simp only at this ⊢<;>exact Dz.pure (by rw [this];exact h)
theorem Dz.load {a:Addr} {v:Value} (hc:w.cell? a=some v) (he:E ⟨.cell a,false,false⟩) {Q:Value→World→Prop} (h:Q v w):Dz P E (Go.load a) w Q:=by
  refine ⟨v,w,by simp [Go.load,Sem.run,hc],h,fun es hes e hm => ?_⟩
  rw [events_load,hc] at hm
  simp only [Array.mem_push] at hm
  rcases hm with hm | rfl
  · exact hes e hm
  · exact he
theorem Dz.store {a:Addr} {v v₀:Value} (hv:v.oneCell'=true) (hc:w.cell? a=some v₀) (hf:w.frozen? a=false) (he:E ⟨.cell a,true,false⟩) {Q:Unit→World→Prop} (h:Q () (w.setCell a v)):Dz P E (Go.store a v) w Q:=by
  refine ⟨(),w.setCell a v,?_,h,fun es hes e hm => ?_⟩
  · unfold Go.store
    cases v<;>simp_all [Sem.run,Value.oneCell']
  · rw [events_store (hv:=hv),hc] at hm
    simp only [hf,Bool.false_eq_true,if_false,Array.mem_push] at hm
    rcases hm with hm | rfl
    · exact hes e hm
    · exact he
theorem Dz.newObj {o:Obj} {Q:Nat→World→Prop} (h:Q w.heap.size { w with heap:=w.heap.push o }):Dz P E (Go.newObj o) w Q:=⟨_,_,rfl,h,fun es hes=>by simpa using hes⟩
end
end Go.Id
namespace Go.Id
open Go.Conc
set_option linter.unusedVariables false
inductive Sl where
  | v (v:Value)
  | l (j off:Nat)
  | b (q:Bool)
  | r (v:Value)
  | c (f:FuncId) (caps:List (Bool×Value))
abbrev Tm:=List (Nat×Sl)
def look:Tm→Nat→Option Sl
  | [],_=>none
  | (i,x)::r,j=>if i=j then some x else look r j
def Tm.put (t:Tm) (d:Option Nat) (x:Sl):Tm:=match d with | none=>t | some d=>(d,x)::t
abbrev Lv:=List (List Value)
def evS (t:Tm):Operand→Option Sl
  | .tmp j=>look t j
  | .const v=>if plainV v then some (.v v) else none
  | .func f=>some (.v (.func (.func f) #[] #[]))
  | .global _=>none
def ev (t:Tm) (o:Operand):Option Value:=match evS t o with | some (.v v)=>some v | some (.b q)=>some (.bool q) | _=>none
def evs (t:Tm):List Operand→Option (List Value)
  | []=>some []
  | o::os=>match ev t o with | some v=>(match evs t os with | some vs=>some (v::vs) | none=>none) | none=>none
def caps (t:Tm):List Operand→Option (List (Bool×Value))
  | []=>some []
  | o::os=>match evS t o,caps t os with
    | some (.v v),some r=>some ((false,v)::r)
    | some (.b q),some r=>some ((false,.bool q)::r)
    | some (.r v),some r=>some ((true,v)::r)
    | _,_=>none
def req (b:Bool) (p:Prop):Prop:=match b with | true=>p | false=>False
theorem req_iff {b:Bool} {p:Prop} (h:req b p):b=true∧p:=by cases b;exact h.elim;exact ⟨rfl,h⟩
theorem beq_t {a b:Nat} (h:Nat.beq a b=true):a=b:=Nat.eq_of_beq_eq_true h
theorem beq_f {a:Nat} (h:(!(Nat.beq a 0))=true):a≠0:=fun e=>by subst e;exact absurd h (by decide)
structure Cnd (b:Bool) (K:Bool→Prop):Prop where
  t:b=true→K true
  f:b=false→K false
def cellsL:Value→List Value
  | .agg a=>a.toList
  | v=>[v]
def noTup:Value→Bool
  | .tuple _=>false
  | _=>true
def sub? (c:List Value) (off n:Nat):Option (List Value):=if off+n≤c.length then some ((c.drop off).take n) else none
def asV (i:TyI) (cs:List Value):Option Value:=match i.agg with | true=>some (.agg cs.toArray) | false=>(match cs with | [v]=>some v | _=>none)
def setL (c:List Value) (off:Nat):List Value→List Value
  | []=>c
  | v::vs=>setL (c.set off v) (off+1) vs
def zeros (z:List Value):Nat→List Value
  | 0=>[]
  | n+1=>z++zeros z n
def Ld (h:Hp) (a:Addr) (n:Nat) (cs:List Value):Prop:=∃ c sz,h.g a.block = .cells c sz (epOf a.spot)∧sub? c a.off n=some cs
def St (lo:Nat) (h:Hp) (a:Addr) (cs:List Value) (h':Hp):Prop :=
  lo≤a.block∧a.block < h.n∧∃ c sz,h.g a.block = .cells c sz (epOf a.spot)∧a.off+cs.length≤c.length∧h'=h.set a.block (.cells (setL c a.off cs) sz (epOf a.spot))
def addA (a:Addr) (n:Nat):Addr:={ a with off:=a.off+n }
def SlCells (h:Hp) (v:Value) (sz:Nat) (cs:List Value):Prop :=
  match v with
  | .slice none 0 _=>cs=[]
  | .slice (some a) n _=>if n=0 then cs=[] else Ld h a (n*sz) cs
  | _=>False
def maxLen:Nat:=2 ^ 31
def Ap (lo:Nat) (h:Hp) (sz:Nat) (v:Value) (xs:List Value) (m:Nat) (v':Value) (h':Hp):Prop :=
  sz≠0∧xs.length=m*sz ∧
  match v with
  | .slice none 0 _=>if m=0 then v'=v∧h'=h else m≤maxLen∧v' = .slice (some ⟨h.n,0,some 0⟩) m 1∧h'=h.push (.cells xs sz 0)
  | .slice (some a) n 0=>if m=0 then v'=v∧h'=h else n+m≤maxLen∧∃ cs,SlCells h v sz cs∧v' = .slice (some ⟨h.n,0,some 0⟩) (n+m) 1∧h'=h.push (.cells (cs++xs) sz 0)
  | .slice (some a) n 1=>n+m≤maxLen∧a.off=0∧lo≤a.block∧a.block < h.n∧∃ c,h.g a.block = .cells c sz (epOf a.spot)∧n*sz≤c.length ∧
      v' = .slice (some ⟨a.block,0,some (epOf a.spot+1)⟩) (n+m) 1∧h'=h.set a.block (.cells (c.take (n*sz)++xs) sz (epOf a.spot+1))
  | _=>False
def ibin (i:Option TyI) (op:BinOp) (x y:Value) (K:Value→Prop):Prop :=
  match x,y with
  | .int k a,.int k' b=>match op with
    | .shl=>0≤b∧K (.int k (k.wrap (a*2 ^ (min b.toNat k.bits))))
    | .shr=>0≤b∧K (.int k (a.fdiv (2 ^ (min b.toNat k.bits))))
    | op=>req (k == k') <| match op with
    | .add=>K (.int k (k.wrap (a+b)))
    | .sub=>K (.int k (k.wrap (a - b)))
    | .mul=>K (.int k (k.wrap (a*b)))
    | .quo=>b≠0∧K (.int k (k.wrap (a.tdiv b)))
    | .rem=>b≠0∧K (.int k (a.tmod b))
    | .eql=>K (.bool (a == b))
    | .neq=>K (.bool (a != b))
    | .lss=>K (.bool (decide (a < b)))
    | .leq=>K (.bool (decide (a≤b)))
    | .gtr=>K (.bool (decide (a > b)))
    | .geq=>K (.bool (decide (a≥b)))
    | .xor=>K (.int k (k.wrap (BitVec.ofInt k.bits a ^^^ BitVec.ofInt k.bits b).toNat))
    | .and=>K (.int k (k.wrap (BitVec.ofInt k.bits a &&& BitVec.ofInt k.bits b).toNat))
    | _=>False
  | .bool a,.bool b=>match i,op with
    | some ⟨.bool,_,_,_⟩,.eql=>K (.bool (a == b))
    | some ⟨.bool,_,_,_⟩,.neq=>K (.bool (!(a == b)))
    | _,_=>False
  | .pointer a,.pointer b=>match i,op,a,b with
    | some ⟨.ptr _,_,_,_⟩,.eql,none,none=>K (.bool true)
    | some ⟨.ptr _,_,_,_⟩,.neq,none,none=>K (.bool false)
    | some ⟨.ptr _,_,_,_⟩,.eql,some _,none=>K (.bool false)
    | some ⟨.ptr _,_,_,_⟩,.neq,some _,none=>K (.bool true)
    | _,_,_,_=>False
  | .agg a,.agg b=>match i,op with
    | some ⟨_,n,_,true⟩,.eql=>req (Nat.beq a.toList.length n) (match intsEq a.toList b.toList with | some r=>K (.bool r) | none=>False)
    | some ⟨_,n,_,true⟩,.neq=>req (Nat.beq a.toList.length n) (match intsEq a.toList b.toList with | some r=>K (.bool (!r)) | none=>False)
    | _,_=>False
  | .string a,.string b=>match op with
    | .eql=>K (.bool (a.toList == b.toList))
    | .neq=>K (.bool (!(a.toList == b.toList)))
    | .add=>a.size+b.size≤maxLen∧K (.string (a++b))
    | _=>False
  | .slice a _ _,.slice none _ _=>match i,op with
    | some ⟨.slice _,_,_,_⟩,.eql=>K (.bool a.isNone)
    | some ⟨.slice _,_,_,_⟩,.neq=>K (.bool (!a.isNone))
    | _,_=>False
  | _,_=>False
def place (T:Nat→Option TyI):TyK→Nat→Option (Nat×Nat)
  | .struct fs,i=>match fs[i]? with | some (off,e)=>(match T e with | some j=>some (off,j.sz) | none=>none) | none=>none
  | .array _ e,i=>match T e with | some j=>some (i*j.sz,j.sz) | none=>none
  | _,_=>none
def bldK (T:Nat→Option TyI):TyK→Bool
  | .struct _=>true
  | .array _ e=>(match T e with | some _=>true | none=>false)
  | _=>false
def fillL (pl:Nat→Option (Nat×Nat)) (c:List Value):List (Nat×Value)→Option (List Value)
  | []=>some c
  | (i,v)::r=>match pl i with
    | none=>none
    | some (off,sz)=>if (cellsL v).length=sz∧off+sz≤c.length∧noTup v=true then fillL pl (setL c off (cellsL v)) r else none
def partsV (t:Tm):List (Nat×Operand)→Option (List (Nat×Value))
  | []=>some []
  | (i,o)::r=>match ev t o with | some v=>(match partsV t r with | some vs=>some ((i,v)::vs) | none=>none) | none=>none
inductive Pt where
  | l (j off:Nat)
  | h (a:Addr)
def ptOf (t:Tm) (o:Operand):Option Pt:=match evS t o with
  | some (.l j off)=>some (.l j off)
  | some (.v (.pointer (some a)))=>some (.h a)
  | _=>none
def convP (src dst:TyK) (x:Value) (K:Value→Prop):Prop :=
  match dst,x with
  | .int k,.int _ n=>K (.int k (k.wrap n))
  | _,_=>False
def lenP (i:Option TyI) (x:Value) (K:Value→Prop):Prop :=
  match i,x with
  | some ⟨.slice _,_,_,_⟩,.slice _ n _=>K (.int .i64 n)
  | some ⟨.str,_,_,_⟩,.string s=>K (.int .i64 s.size)
  | _,_=>False
def bound (t:Tm) (o:Option Operand) (dflt:Int) (K:Int→Prop):Prop:=match o with
  | none=>K dflt
  | some o=>match ev t o with | some (.int _ n)=>K n | _=>False
def Cut (l r:Int) (a:Addr) (sz fl:Nat) (K:Value→Prop):Prop:=(r≠l∧K (.slice (some (addA a (l.toNat*sz))) (r - l).toNat (if l=0∧fl=1 then 1 else 2)))∨(r=l∧K (.slice (some a) 0 (if l=0∧fl=1 then 1 else 2)))
def sliceP (T:Nat→Option TyI) (t:Tm) (ty:Nat) (x:Value) (lo hi mx:Option Operand) (K:Value→Prop):Prop :=
  match T ty,x with
  | some ⟨.slice e,_,_,_⟩,.slice a n fl=>(match T e with
    | none=>False
    | some i=>bound t lo 0 fun l=>bound t hi n fun r=>(0≤l∧l≤r∧r≤n)∧(match mx with
      | none=>(match a with
        | none=>K (.slice none 0 0)
        | some a=>Cut l r a i.sz fl K)
      | some mo=>(match hi,ev t mo with
        | some _,some (.int _ m)=>m=r∧r=0∧(match a with | none=>K (.slice none 0 0) | some a=>K (.slice (some a) 0 0))
        | _,_=>False)))
  | some ⟨.str,_,_,_⟩,.string s=>bound t lo 0 fun l=>bound t hi s.size fun r=>(0≤l∧l≤r∧r≤s.size)∧mx=none∧K (.string (s.extract l.toNat r.toNat))
  | _,_=>False
def builtinP (T:Nat→Option TyI) (lo:Nat) (h:Hp) (b:Builtin) (tys:List Nat) (args:List Value) (K:Value→Hp→Prop):Prop :=
  match b,args with
  | .len,[x]=>(match tys with | [ty]=>lenP (T ty) x fun v=>K v h | _=>False)
  | .append,[x,y]=>(match tys with
    | [ty,ty']=>(match T ty,T ty' with
      | some ⟨.slice e,_,_,_⟩,some ⟨.slice _,_,_,_⟩=>(match T e,y with
        | some i,.slice p m q=>∃ xs,SlCells h (.slice p m q) i.sz xs∧∃ v' h',Ap lo h i.sz x xs m v' h'∧K v' h'
        | _,_=>False)
      | _,_=>False)
    | _=>False)
  | .clear,[x]=>(match tys with
    | [ty]=>(match T ty,x with
      | some ⟨.slice e,_,_,_⟩,.slice p n _=>(match T e with
        | some i=>(n=0∧K (.tuple #[]) h)∨(n≠0∧∃ ad h',p=some ad∧St lo h ad (zeros i.zero n) h'∧K (.tuple #[]) h')
        | none=>False)
      | _,_=>False)
    | _=>False)
  | .min,[.int k a,.int k' b]=>req (k == k') (K (.int k (if b < a then b else a)) h)
  | .max,[.int k a,.int k' b]=>req (k == k') (K (.int k (if b > a then b else a)) h)
  | _,_=>False
def taP (i:TyI) (same ok:Bool) (v:Value) (K:Value→Prop):Prop :=
  match same,ok with
  | true,true=>K (.tuple #[v,.bool true])
  | true,false=>K v
  | false,true=>(match asV i i.zero with | some z=>K (.tuple #[z,.bool false]) | none=>False)
  | false,false=>False
def mIx:List (Int×Value)→Int→Option Nat
  | [],_=>none
  | (k',_)::r,k=>if k'=k then some 0 else (mIx r k).map (· + 1)
def mGet (es:List (Int×Value)) (k:Int):Option Value:=match mIx es k with
  | some i=>(es[i]?).map Prod.snd
  | none=>none
def mLook (es:List (Int×Value)) (k:Int) (z:Option Value):Option Value:=match mGet es k with
  | some v=>some v
  | none=>z
def mPut (es:List (Int×Value)) (k:Int) (v:Value):List (Int×Value):=match mIx es k with
  | some i=>es.set i (k,v)
  | none=>es++[(k,v)]
def opP (T:Nat→Option TyI) (lo:Nat) (loc:Bool) (t:Tm) (ls:Lv) (h:Hp) (K:Sl→Lv→Hp→Prop):Op→Prop
  | .move x | .assign x=>match evS t x with | some s=>K s ls h | none=>False
  | .pick c a b=>match evS t c with
    | some (.b q)=>(match evS t (match q with | true=>a | false=>b) with | some s=>K s ls h | none=>False)
    | some (.v (.bool q))=>Cnd q fun q=>match evS t (match q with | true=>a | false=>b) with | some s=>K s ls h | none=>False
    | _=>False
  | .alloc e=>match T e with
    | some i=>(match loc with | true=>K (.l ls.length 0) (ls++[i.zero]) h | false=>K (.v (.pointer (some ⟨h.n,0,none⟩))) ls (h.push (.cells i.zero 0 0)))
    | none=>False
  | .box _ x=>match ev t x with
    | some v=>req (noTup v) (match loc with | true=>K (.l ls.length 0) (ls++[cellsL v]) h | false=>K (.v (.pointer (some ⟨h.n,0,none⟩))) ls (h.push (.cells (cellsL v) 0 0)))
    | none=>False
  | .build ty ps=>match T ty,partsV t ps.toList with
    | some i,some vs=>(match bldK T i.k with
      | true=>(match fillL (place T i.k) i.zero vs with | some c=>K (.v (.agg c.toArray)) ls h | none=>False)
      | false=>False)
    | _,_=>False
  | .buildSlice ty n ps=>match T ty,partsV t ps.toList with
    | some ⟨.slice e,_,_,_⟩,some vs=>(match T e with
      | some i=>req (Nat.ble (n*i.sz) 1000 && !(Nat.beq i.sz 0)) (match fillL (fun j=>some (j*i.sz,i.sz)) (zeros i.zero n) vs with
        | some c=>K (.v (.slice (some ⟨h.n,0,some 0⟩) n 1)) ls (h.push (.cells c i.sz 0))
        | none=>False)
      | none=>False)
    | _,_=>False
  | .load e x=>match T e,ptOf t x with
    | some i,some (.l j off)=>(match ls[j]? with
      | some c=>(match sub? c off i.sz with | some cs=>(match asV i cs with | some v=>K (.v v) ls h | none=>False) | none=>False)
      | none=>False)
    | some i,some (.h a)=>∃ cs,Ld h a i.sz cs∧(match asV i cs with | some v=>K (.v v) ls h | none=>False)
    | _,_=>False
  | .store e x y=>match T e,ptOf t x,ev t y with
    | some i,some (.l j off),some v=>(match ls[j]? with
      | some c=>req (noTup v&&Nat.beq (cellsL v).length i.sz&&Nat.ble (off+i.sz) c.length) (K (.v undef) (ls.set j (setL c off (cellsL v))) h)
      | none=>False)
    | some i,some (.h a),some v=>req (noTup v&&Nat.beq (cellsL v).length i.sz) (∃ h',St lo h a (cellsL v) h'∧K (.v undef) ls h')
    | _,_,_=>False
  | .nilCheck x=>match evS t x with
    | some (.l j off)=>K (.l j off) ls h
    | some (.v (.pointer (some a)))=>K (.v (.pointer (some a))) ls h
    | some (.v (.func (.func f) x y))=>K (.v (.func (.func f) x y)) ls h
    | some (.v (.iface ty v))=>K (.v (.iface ty v)) ls h
    | _=>False
  | .binOp op ty x y _=>match ev t x,ev t y with
    | some a,some b=>ibin (T ty) op a b fun v=>K (.v v) ls h
    | _,_=>False
  | .unOp .not _ x=>match ev t x with | some (.bool b)=>K (.v (.bool !b)) ls h | _=>False
  | .unOp .neg _ x=>match ev t x with | some (.int k n)=>K (.v (.int k (k.wrap (0 - n)))) ls h | _=>False
  | .convert src dst x=>match T src,T dst,ev t x with
    | some i,some j,some v=>convP i.k j.k v fun v=>K (.v v) ls h
    | _,_,_=>False
  | .makeInterface ty x=>match T ty,ev t x with
    | some i,some v=>(match i.k with | .iface | .other=>False | _=>K (.v (.iface ty v)) ls h)
    | _,_=>False
  | .makeFunc f xs ys=>match evs t xs.toList,evs t ys.toList with
    | some x,some y=>K (.v (.func f x.toArray y.toArray)) ls h
    | some [],none=>(match f,caps t ys.toList with | .func g,some c=>K (.c g c) ls h | _,_=>False)
    | _,_=>False
  | .makeSlice ty n m=>match T ty,ev t n,ev t m with
    | some ⟨.slice e,_,_,_⟩,some (.int .i64 n),some (.int .i64 m)=>(match T e with
      | some i=>req (!(Nat.beq i.sz 0)) ((0≤n∧n≤m∧m≤maxLen)∧K (.v (.slice (some ⟨h.n,0,some 0⟩) n.toNat 1)) ls (h.push (.cells (zeros i.zero n.toNat) i.sz 0)))
      | none=>False)
    | _,_,_=>False
  | .slice ty x l r m=>match ev t x with | some v=>sliceP T t ty v l r m fun v=>K (.v v) ls h | none=>False
  | .fieldAddr e x f=>match T e,ptOf t x with
    | some ⟨.struct fs,_,_,_⟩,some p=>(match fs[f]? with
      | some (off,e')=>(match T e' with
        | some ⟨_,_+1,_,_⟩=>(match p with | .l j o=>K (.l j (o+off)) ls h | .h a=>K (.v (.pointer (some (addA a off)))) ls h)
        | _=>False)
      | none=>False)
    | _,_=>False
  | .field e x f=>match T e,ev t x with
    | some ⟨.struct fs,_,_,_⟩,some (.agg cs)=>(match fs[f]? with
      | some (off,ty)=>(match T ty with
        | some i=>(match sub? cs.toList off i.sz with | some c=>(match asV i c with | some v=>K (.v v) ls h | none=>False) | none=>False)
        | none=>False)
      | none=>False)
    | _,_=>False
  | .indexAddr e x i=>match T e,evS t x,ev t i with
    | some ⟨.slice e,_,_,_⟩,some (.v (.slice (some a) n _)),some (.int _ j)=>(match T e with
      | some s=>(0≤j∧j < n)∧K (.v (.pointer (some (addA a (j.toNat*s.sz))))) ls h
      | none=>False)
    | some ⟨.array n e,_,_,_⟩,some (.l b off),some (.int _ j)=>(match T e with
      | some s=>(0≤j∧j < n)∧K (.l b (off+j.toNat*s.sz)) ls h
      | none=>False)
    | some ⟨.array n e,_,_,_⟩,some (.v (.pointer (some a))),some (.int _ j)=>(match T e with
      | some s=>(0≤j∧j < n)∧K (.v (.pointer (some (addA a (j.toNat*s.sz))))) ls h
      | none=>False)
    | _,_,_=>False
  | .index e x i=>match T e,ev t x,ev t i with
    | some ⟨.array n e,_,_,_⟩,some (.agg cs),some (.int _ j)=>(match T e with
      | some s=>(0≤j∧j < n)∧∃ c,sub? cs.toList (j.toNat*s.sz) s.sz=some c∧(match asV s c with | some v=>K (.v v) ls h | none=>False)
      | none=>False)
    | some ⟨.str,_,_,_⟩,some (.string s),some (.int _ j)=>0≤j∧∃ b,s[j.toNat]? = some b∧K (.v (.int .u8 b.toNat)) ls h
    | _,_,_=>False
  | .typeAssert x _ ty ok=>match T ty,ev t x with
    | some i,some (.iface ty' v)=>(match i.k with
      | .iface | .other=>False
      | _=>taP i (decide (ty'=ty)) ok v fun v=>K (.v v) ls h)
    | _,_=>False
  | .extract x k=>match ev t x with | some (.tuple vs)=>(match vs[k]? with | some v=>K (.v v) ls h | none=>False) | _=>False
  | .makeMap ty r=>match T ty,r with
    | some ⟨.map _ _,_,_,_⟩,none=>K (.v (.map (some h.n))) ls (h.push (.map []))
    | _,_=>False
  | .lookup ty x i false=>match T ty,ev t x,ev t i with
    | some ⟨.map k e,_,_,_⟩,some (.map (some r)),some (.int .i64 j)=>(match T k,T e with
      | some ⟨.int .i64,_,_,_⟩,some ie=>lo≤r∧∃ es,h.g r = .map es∧∃ v,mLook es j (asV ie ie.zero)=some v∧K (.v v) ls h
      | _,_=>False)
    | _,_,_=>False
  | .mapUpdate ty x i y=>match T ty,ev t x,ev t i,ev t y with
    | some ⟨.map k _,_,_,_⟩,some (.map (some r)),some (.int .i64 j),some v=>(match T k with
      | some ⟨.int .i64,_,_,_⟩=>lo≤r∧∃ es,h.g r = .map es∧K (.v undef) ls (h.set r (.map (mPut es j v)))
      | _=>False)
    | _,_,_,_=>False
  | .call { callee := .builtin b,args,argTypes }=>match evs t args.toList with
    | some vs=>builtinP T lo h b argTypes.toList vs fun v h'=>K (.v v) ls h'
    | none=>False
  | _=>False
end Go.Id
namespace Go.Id
open Go.Conc
set_option linter.unusedVariables false
structure LsOk (lo:Nat) (s:Sim) (O Pr:Nat→Prop) (lb:Nat→Nat) (ls:Lv) (w:World):Prop where
  cell:∀ (j:Nat) (cs:List Value),ls[j]? = some cs→O (lb j)∧¬ Rng s lo (lb j)∧¬ Pr (lb j)∧∃ rc ty,w.heap[lb j]? = some (.cells rc ty (0,0))∧VRm s cs rc.toList
  inj:∀ j j',j < ls.length→j' < ls.length→lb j=lb j'→j=j'
structure Mem (N0:Nat→Prop) (lo:Nat) (s:Sim) (O Pr:Nat→Prop) (lb:Nat→Nat) (ls:Lv) (h:Hp) (w:World):Prop where
  sim:SimOk N0 lo s O h w
  loc:LsOk lo s O Pr lb ls w
  pr:∀ b,Pr b→O b∧¬ Rng s lo b
def SlR (s:Sim) (lb:Nat→Nat) (n:Nat):Sl→Value→Prop
  | .v v,vr=>VR s v vr
  | .l j off,vr=>j < n∧vr = .pointer (some ⟨lb j,off,none⟩)
  | .b q,vr=>vr = .bool q
  | .r v,vr=>vr=v
  | .c f caps,vr=>∃ ws:List Value,vr = .func (.func f) #[] ws.toArray∧caps.length=ws.length∧∀ (i:Nat) (q:Bool) (v w:Value),caps[i]? = some (q,v)→ws[i]? = some w→(match q with | true=>w=v | false=>VR s v w)
def TmOk (s:Sim) (lb:Nat→Nat) (n:Nat) (t:Tm) (tmps:Array Value):Prop:=∀ j x,look t j=some x→∃ vr,tmps[j]? = some vr∧SlR s lb n x vr
theorem SlR.mono {s s':Sim} {lb lb':Nat→Nat} {n n':Nat} (hl:s.le s') (hn:n≤n') (hb:∀ j,j < n→lb' j=lb j) {x:Sl} {v:Value} (h:SlR s lb n x v):SlR s' lb' n' x v:=by
  cases x with
  | v x=>exact VR.mono hl h
  | l j off=>exact ⟨Nat.lt_of_lt_of_le h.1 hn,by rw [hb j h.1];exact h.2⟩
  | b q=>exact h
  | r v=>exact h
  | c f l=>obtain ⟨ws,h1,h2,h3⟩:=h;exact ⟨ws,h1,h2,fun i q v w a b=>by have:=h3 i q v w a b;cases q<;>simp only at this ⊢<;>first | exact this | exact VR.mono hl this⟩
theorem TmOk.mono {s s':Sim} {lb lb':Nat→Nat} {n n':Nat} (hl:s.le s') (hn:n≤n') (hb:∀ j,j < n→lb' j=lb j) {t:Tm} {m:Array Value} (h:TmOk s lb n t m):TmOk s' lb' n' t m :=
  fun j x hx=>let ⟨v,h1,h2⟩:=h j x hx;⟨v,h1,h2.mono hl hn hb⟩
structure Out (N0:Nat→Prop) (lo:Nat) (s s':Sim) (O Pr:Nat→Prop) (lb lb':Nat→Nat) (ls ls':Lv) (h':Hp) (w w':World):Prop where
  le:s.le s'
  lbs:∀ j,j < ls.length→lb' j=lb j
  len:ls.length≤ls'.length
  mem:Mem N0 lo s' (grow O w w') Pr lb' ls' h' w'
  size:w.heap.size≤w'.heap.size
  keep:∀ b,b < w.heap.size→¬ O b→w'.heap[b]? = w.heap[b]?
  pres:∀ b,Pr b→w'.heap[b]? = w.heap[b]?
  os:w'.os=w.os
  out:w'.output=w.output
theorem grow_self (O:Nat→Prop) (w:World):grow O w w=O:=by
  funext b;unfold grow;exact propext ⟨fun h=>h.elim id fun h=>absurd h.1 (by omega),.inl⟩
theorem grow_drawn (O:Nat→Prop) (w:World) (d:Nat):grow O w { w with drawn:=d }=O:=grow_self O w
section
variable {N0:Nat→Prop} {lo:Nat} {s:Sim} {O Pr:Nat→Prop} {lb:Nat→Nat} {ls:Lv} {h:Hp} {w:World}
theorem Mem.rely {w₁:World} (M:Mem N0 lo s O Pr lb ls h w) (r:Rly N0 O w w₁):Mem N0 lo s O Pr lb ls h w₁:=by
  refine ⟨M.sim.rely r,⟨fun j cs hj => ?_,M.loc.inj⟩,M.pr⟩
  obtain ⟨h1,h2,h3,rc,ty,h4,h5⟩:=M.loc.cell j cs hj
  exact ⟨h1,h2,h3,rc,ty,(r.2.1 _ (M.sim.now _ h1) (.inr h1)).trans h4,h5⟩
theorem Out.same (M:Mem N0 lo s O Pr lb ls h w):Out N0 lo s s O Pr lb lb ls ls h w w :=
  ⟨s.le_refl,fun _ _=>rfl,Nat.le_refl _,by rw [grow_self];exact M,Nat.le_refl _,fun _ _ _=>rfl,fun _ _=>rfl,rfl,rfl⟩
def Sim.up (s:Sim) (id:Nat) (c:Cel) (e:Nat):Sim:={ s with adr:=fun i=>if i=id then some c else s.adr i,ep:=fun i=>if i=id then e else s.ep i }
theorem Sim.up_le {id e:Nat} {c:Cel} (h1:∀ c₀,s.adr id=some c₀→s.ep id < e∨(s.ep id=e∧c=c₀)):s.le (s.up id c e):=by
  refine ⟨fun i c₀ hc => ?_,fun _ _ h=>h⟩
  by_cases hi:i=id
  · subst hi
    refine ⟨c,by simp [Sim.up],?_,?_⟩
    · simp only [Sim.up,if_true];rcases h1 c₀ hc with h | h<;>omega
    · simp only [Sim.up,if_true];intro he;rcases h1 c₀ hc with h | h
      · omega
      · exact h.2
  · exact ⟨c₀,by simp [Sim.up,hi,hc],by simp [Sim.up,hi],fun _=>rfl⟩
theorem SimOk.turn (H:SimOk N0 lo s O h w) {id e sz:Nat} {cs:List Value} {c:Cel} {w':World} {rc:Array Value} {ty:TypeId} {h':Hp}
    (hid:id=h.n∧h'=h.push (.cells cs sz e)∧w.heap.size≤c.b∨id < h.n∧lo≤id∧h'=h.set id (.cells cs sz e)∧∃ c₀,s.adr id=some c₀∧(c.b=c₀.b∨w.heap.size≤c.b))
    (hle:s.le (s.up id c e)) (hb:w'.heap[c.b]? = some (.cells rc ty (0,0))) (ho:c.o=0) (hO:grow O w w' c.b)
    (hv:VRm (s.up id c e) cs (rc.toList.take cs.length)) (hl:cs.length≤rc.size) (hcap:sz≠0→rc.size=c.cap*sz)
    (hsz:w.heap.size≤w'.heap.size) (hk:∀ b,b < w.heap.size→b≠c.b→w'.heap[b]? = w.heap[b]?):SimOk N0 lo (s.up id c e) (grow O w w') h' w':=by
  have hlo:lo≤id:=by rcases hid with ⟨rfl,_⟩ | ⟨_,h,_⟩;exact H.lohi;exact h
  have hn:id < h'.n∧h.n≤h'.n:=by rcases hid with ⟨rfl,rfl,_⟩ | ⟨h1,_,rfl,_⟩<;>simp [Hp.push,Hp.set];exact h1
  have hg:h'.g id = .cells cs sz e:=by rcases hid with ⟨rfl,rfl,_⟩ | ⟨h1,_,rfl,_⟩<;>simp [Hp.push,Hp.set]
  have hg':∀ i,i≠id→i < h.n→h'.g i=h.g i:=by
    intro i hi hlt
    rcases hid with ⟨rfl,rfl,_⟩ | ⟨h1,_,rfl,_⟩<;>simp [Hp.push,Hp.set,hi]
  have hne:∀ i c',i≠id→s.adr i=some c'→c'.b≠c.b:=by
    intro i c' hi hc' heq
    have hb':=H.bl hc'
    have hlt:c'.b < w.heap.size:=hb'.elim (H.base _) (H.now _)
    rcases hid with ⟨_,_,hb⟩ | ⟨_,_,_,c₀,hc₀,hb | hb⟩
    · omega
    · exact H.apart id c₀ i c' hc₀ hc' hlo (Ne.symm hi) (hb▸heq.symm)
    · omega
  have hltb:∀ b,(N0 b∨O b)→b < w.heap.size:=fun b hb=>hb.elim (H.base _) (H.now b)
  have up1:(s.up id c e).adr id=some c:=by simp [Sim.up]
  have up2:∀ i,i≠id→(s.up id c e).adr i=s.adr i:=fun i hi=>by simp [Sim.up,hi]
  have up3:∀ i,i≠id→(s.up id c e).ep i=s.ep i:=fun i hi=>by simp [Sim.up,hi]
  have up4:(s.up id c e).ep id=e:=by simp [Sim.up]
  refine ⟨fun i c' hc' => ?_,fun i c' hc' hli => ?_,fun i c₁ j c₂ h1 h2 hli hij => ?_,fun i b hi => ?_,fun b hb => ?_,fun b hb => ?_,fun b hb=>Nat.lt_of_lt_of_le (H.base b hb) hsz,Nat.le_trans H.lohi hn.2⟩
  · by_cases hi:i=id
    · subst hi
      rw [up1] at hc';cases hc'
      refine ⟨hn.1,fun hx=>absurd hlo (by omega),cs,sz,by rw [hg,up4],_,hv,fun j v hj => ?_⟩
      rw [List.getElem?_take] at hj
      split at hj
      · unfold World.cell?;rw [show (⟨c.b,c.o+j,none⟩:Addr).block=c.b from rfl,hb];simpa [ho] using hj
      · cases hj
    · rw [up2 i hi] at hc'
      obtain ⟨h1,h2,cs',sz',h3,ys,h4,h5⟩:=H.cells i c' hc'
      exact ⟨Nat.lt_of_lt_of_le h1 hn.2,h2,cs',sz',by rw [hg' i hi h1,h3,up3 i hi],ys,h4.mono hle,h5.of_heap (hk _ (hltb _ (H.bl hc')) (hne i c' hi hc'))⟩
  · by_cases hi:i=id
    · subst hi
      rw [up1] at hc';cases hc'
      exact ⟨hO,ho,rc,ty,hb,cs,sz,e,hg,hl,hcap⟩
    · rw [up2 i hi] at hc'
      obtain ⟨h1,h2,rc',ty',h3,cs',sz',e',h4,h5,h6⟩:=H.own i c' hc' hli
      have hin:=(H.cells i c' hc').1
      exact ⟨.inl h1,h2,rc',ty',(hk _ (H.now _ h1) (hne i c' hi hc')).trans h3,cs',sz',e',by rw [hg' i hi hin,h4],h5,h6⟩
  · by_cases hi:i=id
    · subst hi
      rw [up1] at h1;cases h1
      rw [up2 j (Ne.symm hij)] at h2
      exact (hne j c₂ (Ne.symm hij) h2).symm
    · rw [up2 i hi] at h1
      by_cases hj:j=id
      · subst hj;rw [up1] at h2;cases h2;exact hne i c₁ hi h1
      · rw [up2 j hj] at h2;exact H.apart i c₁ j c₂ h1 h2 hli hij
  · obtain ⟨h1,hx⟩:=H.maps i b hi
    refine ⟨Nat.lt_of_lt_of_le h1 hn.2,fun h2 => ?_⟩
    obtain ⟨h3,h4,h5,es,en,ck,h6,h7,h8,h9⟩:=hx h2
    have hid':i≠id:=by
      rintro rfl
      rcases hid with ⟨h,_⟩ | ⟨_,_,_,c₀,hc₀,_⟩
      · omega
      · obtain ⟨_,_,cs',sz',h10,_⟩:=H.cells i c₀ hc₀
        rw [h6] at h10;cases h10
    have hbc:b≠c.b:=by
      rcases hid with ⟨_,_,hb⟩ | ⟨_,_,_,c₀,hc₀,hb | hb⟩
      · have:=H.now _ h3;omega
      · rw [hb];exact (h4 id c₀ hc₀).symm
      · have:=H.now _ h3;omega
    refine ⟨.inl h3,fun i' c' hc' => ?_,h5,es,en,ck,by rw [hg' i hid' h1,h6],(hk _ (H.now _ h3) hbc).trans h7,h8,fun j k v x hx hy => ?_⟩
    · by_cases hi':i'=id
      · subst hi';rw [up1] at hc';cases hc';exact hbc.symm
      · rw [up2 i' hi'] at hc';exact h4 i' c' hc'
    · have:=h9 j k v x hx hy;exact ⟨this.1,this.2.1.mono hle,this.2.2⟩
  · rcases hb with hb | hb
    · exact Nat.lt_of_lt_of_le (H.now b hb) hsz
    · exact hb.2
  · rcases hb with hb | hb
    · exact H.new b hb
    · exact fun hn=>absurd (H.base _ hn) (Nat.not_lt.2 hb.1)
theorem Out.turn (M:Mem N0 lo s O Pr lb ls h w) {id e sz:Nat} {cs:List Value} {c:Cel} {w':World} {rc:Array Value} {ty:TypeId} {h':Hp}
    (hid:id=h.n∧h'=h.push (.cells cs sz e)∧w.heap.size≤c.b∨id < h.n∧lo≤id∧h'=h.set id (.cells cs sz e)∧∃ c₀,s.adr id=some c₀∧(c.b=c₀.b∨w.heap.size≤c.b))
    (hle:s.le (s.up id c e)) (hb:w'.heap[c.b]? = some (.cells rc ty (0,0))) (ho:c.o=0) (hO:grow O w w' c.b)
    (hv:VRm (s.up id c e) cs (rc.toList.take cs.length)) (hl:cs.length≤rc.size) (hcap:sz≠0→rc.size=c.cap*sz)
    (hsz:w.heap.size≤w'.heap.size) (hk:∀ b,b < w.heap.size→b≠c.b→w'.heap[b]? = w.heap[b]?) (hos:w'.os=w.os) (hout:w'.output=w.output) :
    Out N0 lo s (s.up id c e) O Pr lb lb ls ls h' w w':=by
  have hlo:lo≤id:=by rcases hid with ⟨rfl,_⟩ | ⟨_,h,_⟩;exact M.sim.lohi;exact h
  have hnc:∀ b,b < w.heap.size→¬ Rng s lo b→b≠c.b:=by
    intro b hlt hr heq
    rcases hid with ⟨_,_,hb⟩ | ⟨_,_,_,c₀,hc₀,hb | hb⟩
    · omega
    · exact hr (.inl ⟨id,c₀,hc₀,hlo,by rw [← hb,heq]⟩)
    · omega
  have hrng:∀ b,b < w.heap.size→¬ Rng s lo b→¬ Rng (s.up id c e) lo b:=by
    rintro b hlt hr (⟨i,c',hc',hli,hb'⟩ | ⟨i,hi,hil⟩)
    · by_cases hi:i=id
      · subst hi;simp [Sim.up] at hc';subst hc';exact hnc b hlt hr hb'.symm
      · rw [show (s.up id c e).adr i=s.adr i from by simp [Sim.up,hi]] at hc';exact hr (.inl ⟨i,c',hc',hli,hb'⟩)
    · exact hr (.inr ⟨i,hi,hil⟩)
  refine ⟨hle,fun _ _=>rfl,Nat.le_refl _,⟨M.sim.turn hid hle hb ho hO hv hl hcap hsz hk,⟨fun j cs' hj => ?_,M.loc.inj⟩,fun b hb => ?_⟩,hsz,fun b hlt hnb=>hk b hlt ?_,fun b hb=>hk b (M.sim.now _ (M.pr b hb).1) (hnc b (M.sim.now _ (M.pr b hb).1) (M.pr b hb).2),hos,hout⟩
  · obtain ⟨h1,h2,h3,rc',ty',h4,h5⟩:=M.loc.cell j cs' hj
    have hlt:=M.sim.now _ h1
    exact ⟨.inl h1,hrng _ hlt h2,h3,rc',ty',(hk _ hlt (hnc _ hlt h2)).trans h4,h5.mono hle⟩
  · exact ⟨.inl (M.pr b hb).1,hrng b (M.sim.now _ (M.pr b hb).1) (M.pr b hb).2⟩
  · rintro rfl
    rcases hO with h | h
    · exact hnb h
    · omega
theorem Out.local_ (M:Mem N0 lo s O Pr lb ls h w) {j:Nat} {cs cs':List Value} {w':World} {rc:Array Value} {ty:TypeId} (hj:ls[j]? = some cs)
    (hb:w'.heap[lb j]? = some (.cells rc ty (0,0))) (hv:VRm s cs' rc.toList) (hsz:w'.heap.size=w.heap.size) (hk:∀ b,b≠lb j→w'.heap[b]? = w.heap[b]?) (hos:w'.os=w.os) (hout:w'.output=w.output) :
    Out N0 lo s s O Pr lb lb ls (ls.set j cs') h w w':=by
  obtain ⟨h1,h2,h3,rc₀,ty₀,h4,h5⟩:=M.loc.cell j cs hj
  have hg:grow O w w'=O:=by
    funext b;unfold grow;exact propext ⟨fun h=>h.elim id fun h=>absurd h.2 (by omega),.inl⟩
  have hjl:j < ls.length:=(List.getElem?_eq_some_iff.1 hj).1
  have nob:∀ id c,s.adr id=some c→c.b≠lb j:=by
    intro id c hc e
    by_cases hl:lo≤id
    · exact h2 (.inl ⟨id,c,hc,hl,e⟩)
    · exact absurd ((M.sim.cells id c hc).2.1 (by omega)) (by intro hz;exact M.sim.new _ h1 (by first | exact hz | (rw [← h2];exact hz) | simp_all))
  refine ⟨s.le_refl,fun _ _=>rfl,by simp,?_,by omega,fun b hlt hnb=>hk b fun e=>hnb (e▸h1),fun b hb=>hk b fun e=>h3 (e▸hb),hos,hout⟩
  rw [hg]
  refine ⟨⟨fun id c hc => ?_,fun id c hc hl => ?_,M.sim.apart,fun id b hb' => ?_,fun b ho=>by rw [hsz];exact M.sim.now b ho,M.sim.new,by rw [hsz];exact M.sim.base,M.sim.lohi⟩,⟨fun j' cs₁ hj' => ?_,fun a b ha hb'=>M.loc.inj a b (by simpa using ha) (by simpa using hb')⟩,M.pr⟩
  · obtain ⟨a1,a2,cs₁,sz,a3,ys,a4,a5⟩:=M.sim.cells id c hc
    exact ⟨a1,a2,cs₁,sz,a3,ys,a4,a5.of_heap (hk _ (nob id c hc))⟩
  · obtain ⟨a1,a2,rc',ty',a3,a4⟩:=M.sim.own id c hc hl
    exact ⟨a1,a2,rc',ty',(hk _ (nob id c hc)).trans a3,a4⟩
  · obtain ⟨a1,hx⟩:=M.sim.maps id b hb'
    refine ⟨a1,fun hl => ?_⟩
    obtain ⟨a3,a4,a5,es,en,ck,a6,a7,a8⟩:=hx hl
    exact ⟨a3,a4,a5,es,en,ck,a6,(hk _ fun e=>h2 (.inr ⟨id,e▸hb',hl⟩)).trans a7,a8⟩
  · by_cases e:j'=j
    · subst e
      rw [List.getElem?_set_self hjl] at hj';cases hj'
      exact ⟨h1,h2,h3,rc,ty,hb,hv⟩
    · rw [List.getElem?_set_ne (Ne.symm e)] at hj'
      obtain ⟨b1,b2,b3,rc',ty',b4,b5⟩:=M.loc.cell j' cs₁ hj'
      exact ⟨b1,b2,b3,rc',ty',(hk _ fun e'=>e (M.loc.inj j' j (List.getElem?_eq_some_iff.1 hj').1 hjl e')).trans b4,b5⟩
theorem Out.newLocal (M:Mem N0 lo s O Pr lb ls h w) {cs:List Value} {rc:Array Value} {ty:TypeId} {w':World} (hw:w'={ w with heap:=w.heap.push (.cells rc ty (0,0)) }) (hv:VRm s cs rc.toList) :
    Out N0 lo s s O Pr lb (fun j=>if j=ls.length then w.heap.size else lb j) ls (ls++[cs]) h w w':=by
  subst hw
  have hold:∀ b,b < w.heap.size→(w.heap.push (.cells rc ty (0,0)))[b]? = w.heap[b]? := fun b hb=>by rw [Array.getElem?_push];rw [if_neg (by omega)]
  have hlt:∀ j cs',ls[j]? = some cs'→lb j < w.heap.size:=fun j cs' hj=>M.sim.now _ (M.loc.cell j cs' hj).1
  refine ⟨s.le_refl,fun j hj=>by simp;intro e;omega,by simp,⟨⟨fun id c hc => ?_,fun id c hc hl => ?_,M.sim.apart,fun id b hb' => ?_,fun b ho => ?_,fun b ho => ?_,fun b hb=>by simp;have:=M.sim.base b hb;omega,M.sim.lohi⟩,⟨fun j cs' hj => ?_,fun a b ha hb => ?_⟩,fun b hb=>⟨.inl (M.pr b hb).1,(M.pr b hb).2⟩⟩,by simp,fun b hb _=>hold b hb,fun b hb=>hold b (M.sim.now _ (M.pr b hb).1),rfl,rfl⟩
  · obtain ⟨a1,a2,cs₁,sz,a3,ys,a4,a5⟩:=M.sim.cells id c hc
    exact ⟨a1,a2,cs₁,sz,a3,ys,a4,a5.of_heap (hold _ ((M.sim.bl hc).elim (M.sim.base _) (M.sim.now _)))⟩
  · obtain ⟨a1,a2,rc',ty',a3,a4⟩:=M.sim.own id c hc hl
    exact ⟨.inl a1,a2,rc',ty',(hold _ (M.sim.now _ a1)).trans a3,a4⟩
  · obtain ⟨a1,hx⟩:=M.sim.maps id b hb'
    refine ⟨a1,fun hl => ?_⟩
    obtain ⟨a3,a4,a5,es,en,ck,a6,a7,a8⟩:=hx hl
    exact ⟨.inl a3,a4,a5,es,en,ck,a6,(hold _ (M.sim.now _ a3)).trans a7,a8⟩
  · rcases ho with ho | ho
    · simp;have:=M.sim.now b ho;omega
    · exact ho.2
  · rcases ho with ho | ho
    · exact M.sim.new b ho
    · exact fun hn=>absurd (M.sim.base _ hn) (Nat.not_lt.2 ho.1)
  · by_cases e:j=ls.length
    · subst e
      simp at hj;subst hj
      refine ⟨.inr (by simp),?_,?_,rc,ty,by simp,hv⟩
      · simp only [if_true]
        rintro (⟨id,c,hc,hl,hb⟩ | ⟨id,hb,hl⟩)
        · have:=M.sim.now _ (M.sim.own id c hc hl).1;omega
        · have:=M.sim.now _ ((M.sim.maps id _ hb).2 hl).1;omega
      · simp only [if_true];intro hp;have:=M.sim.now _ (M.pr _ hp).1;omega
    · have hj':ls[j]? = some cs':=by
        rw [List.getElem?_append_left] at hj
        · exact hj
        · have:=(List.getElem?_eq_some_iff.1 hj).1;simp at this;omega
      obtain ⟨b1,b2,b3,rc',ty',b4,b5⟩:=M.loc.cell j cs' hj'
      simp only [if_neg e]
      exact ⟨.inl b1,b2,b3,rc',ty',(hold _ (M.sim.now _ b1)).trans b4,b5⟩
  · simp at ha hb
    intro e
    by_cases ea:a=ls.length<;>by_cases eb:b=ls.length
    · omega
    · rw [if_pos ea,if_neg eb] at e
      have:=hlt b _ (List.getElem?_eq_getElem (by omega));omega
    · rw [if_neg ea,if_pos eb] at e
      have:=hlt a _ (List.getElem?_eq_getElem (by omega));omega
    · rw [if_neg ea,if_neg eb] at e
      exact M.loc.inj a b (by omega) (by omega) e
end
end Go.Id
namespace Go.Id
open Go.Conc
set_option linter.unusedVariables false
theorem add_none (b o i:Nat):(⟨b,o,none⟩:Addr).add i=⟨b,o+i,none⟩:=by
  unfold Addr.add
  split
  · subst_vars;rfl
  · rfl
section
variable {P:Program} {E:Event→Prop} {w:World}
theorem dz_loadFrom {b o:Nat} {ys:List Value} (hh:Holds w b o ys) (he:∀ i,E ⟨.cell ⟨b,i,none⟩,false,false⟩) (n:Nat):∀ (i:Nat) (acc:Array Value),i+n≤ys.length →
    Dz P E (Go.loadCellsFrom ⟨b,o,none⟩ i n acc) w fun r w'=>r=acc++((ys.drop i).take n).toArray∧w'=w:=by
  induction n with
  | zero=>intro i acc _;simpa [Go.loadCellsFrom] using Dz.pure (Q:=fun (r:Array Value) w'=>r=acc∧w'=w) ⟨rfl,rfl⟩
  | succ n ih =>
    intro i acc hl
    have hi:ys[i]? = some (ys[i]'(by omega)):=List.getElem?_eq_getElem (by omega)
    unfold Go.loadCellsFrom
    refine Dz.bind (Q:=fun v w'=>v=ys[i]'(by omega)∧w'=w) (by rw [add_none];exact Dz.load (hh i _ hi) (he _) ⟨rfl,rfl⟩) ?_
    rintro v w' ⟨rfl,rfl⟩
    refine (ih (i+1) _ (by omega)).mono ?_
    rintro r w' ⟨rfl,rfl⟩
    refine ⟨?_,rfl⟩
    rw [List.drop_eq_getElem_cons (by omega:i < ys.length),List.take_succ_cons]
    apply Array.ext';simp
theorem Dz.loadCells {b o:Nat} {ys:List Value} (hh:Holds w b o ys) (he:∀ i,E ⟨.cell ⟨b,i,none⟩,false,false⟩) {n:Nat} (hn:n≤ys.length) :
    Dz P E (Go.loadCells ⟨b,o,none⟩ n) w fun r w'=>r=(ys.take n).toArray∧w'=w:=by
  have:=dz_loadFrom (P:=P) hh he n 0 #[] (by omega)
  simpa [Go.loadCells] using this
theorem Holds.shift {b o:Nat} {ys:List Value} (h:Holds w b o ys) (k:Nat):Holds w b (o+k) (ys.drop k):=by
  intro i v hv
  rw [List.getElem?_drop] at hv
  have:=h (k+i) v hv
  rw [show o+k+i=o+(k+i) from by omega];exact this
theorem Dz.loadVar {t:Nat} {i:TyI} (ht:TyOk P t i) (hk:i.k ≠ .other) {b o:Nat} {ys:List Value} (hl:ys.length=i.sz) (hh:Holds w b o ys) (he:∀ i,E ⟨.cell ⟨b,i,none⟩,false,false⟩) (h1:i.agg=false→i.sz=1) :
    Dz P E (Go.loadVar t ⟨b,o,none⟩) w fun r w'=>w'=w∧(match i.agg with | true=>r = .agg ys.toArray | false=>ys=[r]):=by
  unfold Go.loadVar
  refine Dz.bind (Q:=fun x w'=>x=i.agg∧w'=w) (Dz.isAgg ht hk ⟨rfl,rfl⟩) ?_
  rintro x w' ⟨rfl,rfl⟩
  cases ha:i.agg with
  | true =>
    refine Dz.bind (Q:=fun x w''=>x=i.sz∧w''=w') (Dz.sizeOf ht ⟨rfl,rfl⟩) ?_
    rintro x w'' ⟨rfl,rfl⟩
    refine Dz.bind (Dz.loadCells hh he (by omega)) ?_
    rintro r w' ⟨rfl,rfl⟩
    exact Dz.pure ⟨rfl,by rw [← hl,List.take_length]⟩
  | false =>
    have hs:=h1 ha
    match ys,hl with
    | [y],_ =>
      exact Dz.load (hh 0 y rfl) (he _) ⟨rfl,rfl⟩
    | [],hl=>simp at hl;omega
    | _::_::_,hl=>simp at hl;omega
def putL (w:World) (b:Nat):Nat→List Value→World
  | _,[]=>w
  | o,v::vs=>putL (w.setCell ⟨b,o,none⟩ v) b (o+1) vs
theorem setCell_heap (b o:Nat) (v:Value) (rc:Array Value) (ty:TypeId) (fz:Nat×Nat) (hb:w.heap[b]? = some (.cells rc ty fz)) :
    (w.setCell ⟨b,o,none⟩ v).heap[b]? = some (.cells (rc.setIfInBounds o v) ty fz)∧(∀ b',b'≠b→(w.setCell ⟨b,o,none⟩ v).heap[b']? = w.heap[b']?):=by
  unfold World.setCell
  refine ⟨?_,fun b' hb' => ?_⟩
  · simp only [Array.getElem?_modify,if_true,hb]
    simp
  · simp only [Array.getElem?_modify]
    rw [if_neg (Ne.symm hb')]
theorem setL_length:∀ (vs c:List Value) (o:Nat),(setL c o vs).length=c.length
  | [],_,_=>rfl
  | v::vs,c,o=>by simp [setL,setL_length vs]
theorem putL_heap (b:Nat) (ty:TypeId) (fz:Nat×Nat):∀ (vs:List Value) (o:Nat) (w:World) (rc:Array Value),w.heap[b]? = some (.cells rc ty fz) →
    (∃ rc',(putL w b o vs).heap[b]? = some (.cells rc' ty fz)∧rc'.toList=setL rc.toList o vs)∧(∀ b',b'≠b→(putL w b o vs).heap[b']? = w.heap[b']?)∧(putL w b o vs).heap.size=w.heap.size∧(putL w b o vs).os=w.os∧(putL w b o vs).output=w.output
  | [],o,w,rc,hb=>⟨⟨rc,hb,rfl⟩,fun _ _=>rfl,rfl,rfl,rfl⟩
  | v::vs,o,w,rc,hb=>by
    obtain ⟨h1,h2⟩:=setCell_heap b o v rc ty fz hb
    obtain ⟨⟨rc',h3,h4⟩,h5,h6,h7,h8⟩:=putL_heap b ty fz vs (o+1) (w.setCell ⟨b,o,none⟩ v) _ h1
    refine ⟨⟨rc',h3,by simpa [setL] using h4⟩,fun b' hb'=>(h5 b' hb').trans (h2 b' hb'),?_,h7,h8⟩
    show (putL (w.setCell ⟨b,o,none⟩ v) b (o+1) vs).heap.size=_
    rw [h6];simp [World.setCell]
theorem Dz.storeCells (b:Nat) (ty:TypeId) (fz:Nat×Nat) (he:∀ i,E ⟨.cell ⟨b,i,none⟩,true,false⟩):∀ (vs:List Value) (o i:Nat) (w:World) (rc:Array Value),w.heap[b]? = some (.cells rc ty fz)→(∀ k,¬ (fz.1≤k∧k < fz.2))→o+i+vs.length≤rc.size→(∀ v∈vs,v.oneCell'=true) →
    Dz P E (Go.storeCells ⟨b,o,none⟩ vs i) w fun _ w'=>w'=putL w b (o+i) vs
  | [],o,i,w,rc,_,_,_,_=>by unfold Go.storeCells;exact Dz.pure rfl
  | v::vs,o,i,w,rc,hb,hf,hl,h1=>by
    unfold Go.storeCells
    simp only [List.length_cons] at hl
    refine Dz.bind (Q:=fun _ w'=>w'=w.setCell ⟨b,o+i,none⟩ v) ?_ ?_
    · rw [add_none]
      refine Dz.store (v₀:=rc[o+i]'(by omega)) (h1 v (by simp)) ?_ ?_ (he _) rfl
      · unfold World.cell?;simp only [hb];simp
      · have:=hf (o+i);unfold World.frozen?;simp only [hb];simp at this ⊢;first | done | exact this
    · rintro _ w' rfl
      obtain ⟨h2,_⟩:=setCell_heap b (o+i) v rc ty fz hb
      exact Dz.storeCells b ty fz he vs o (i+1) _ _ h2 hf (by simp;omega) (fun v hv=>h1 v (by simp [hv]))
theorem Dz.storeVar {t:Nat} {i:TyI} (ht:TyOk P t i) {b o:Nat} {v:Value} {rc:Array Value} {ty:TypeId} (hs:v.cells.size=i.sz) (hb:w.heap[b]? = some (.cells rc ty (0,0))) (hl:o+i.sz≤rc.size) (h1:∀ x∈v.cells.toList,x.oneCell'=true)
    (he:∀ i,E ⟨.cell ⟨b,i,none⟩,true,false⟩):Dz P E (Go.storeVar t ⟨b,o,none⟩ v) w fun _ w'=>w'=putL w b o v.cells.toList:=by
  unfold Go.storeVar
  refine Dz.bind (Q:=fun x w'=>x=i.sz∧w'=w) (Dz.sizeOf ht ⟨rfl,rfl⟩) ?_
  rintro x w' ⟨rfl,rfl⟩
  rw [if_neg (by simp [hs])]
  have:=Dz.storeCells (P:=P) b ty (0,0) he v.cells.toList o 0 w' rc hb (by simp) (by simp;omega) h1
  simpa using this
theorem Dz.newRow {e:TypeId} {cs:Array Value} {Q:Addr→World→Prop} (h:Q ⟨w.heap.size,0,none⟩ { w with heap:=w.heap.push (.cells cs e (0,0)) }):Dz P E (Go.newRow e cs) w Q:=by
  unfold Go.newRow
  exact Dz.bind (Q:=fun n w'=>n=w.heap.size∧w'={ w with heap:=w.heap.push (.cells cs e (0,0)) }) (Dz.newObj ⟨rfl,rfl⟩) fun n w' e=>by obtain ⟨rfl,rfl⟩:=e;exact Dz.pure h
end
theorem cells_of {s:Sim} {v vr:Value} (h:VR s v vr) (hn:noTup v=true):VRm s (cellsL v) vr.cells.toList:=by
  cases h with
  | agg x y hs h h1=>exact ⟨⟨by simpa [Value.cells,cellsL] using hs,fun i v w a b=>h i v w (by simpa [cellsL] using a) (by simpa [Value.cells] using b)⟩,fun w hw=>h1 w (by simpa [Value.cells] using hw)⟩
  | tup=>simp [noTup] at hn
  | _=>exact ⟨VRs.cons (by constructor<;>assumption) (VRs.nil s),fun w hw=>by simp [Value.cells] at hw;subst hw;rfl⟩
theorem cells_len {s:Sim} {v vr:Value} (h:VR s v vr) (hn:noTup v=true):vr.cells.size=(cellsL v).length:=by
  have:=(cells_of h hn).1.1;simpa using this.symm
theorem asV_ok {s:Sim} {i:TyI} {cs ys:List Value} {v r:Value} (hv:asV i cs=some v) (h:VRm s cs ys) (hr:match i.agg with | true=>r = .agg ys.toArray | false=>ys=[r]):VR s v r:=by
  unfold asV at hv
  cases ha:i.agg with
  | true =>
    rw [ha] at hv hr;simp only [Option.some.injEq] at hv hr
    subst hv;subst hr
    exact .agg _ _ (by simpa using h.1.1) (fun i v w a b=>h.1.2 i v w (by simpa using a) (by simpa using b)) fun w hw=>h.2 w (by simpa using hw)
  | false =>
    rw [ha] at hv hr;simp only at hv hr
    subst hr
    match cs,hv with
    | [x],hv=>cases hv;exact h.1.2 0 _ _ rfl rfl
theorem sub_some {c cs:List Value} {off n:Nat} (h:sub? c off n=some cs):off+n≤c.length∧cs=(c.drop off).take n:=by
  unfold sub? at h;split at h
  · exact ⟨‹_›,(Option.some.inj h).symm⟩
  · cases h
theorem setL_eq {s:Sim}:∀ (vs:List Value) (c ys:List Value) (o:Nat) (rs:List Value),VRm s c ys→VRm s vs rs→VRm s (setL c o vs) (setL ys o rs)
  | [],c,ys,o,[],h,_=>h
  | v::vs,c,ys,o,r::rs,h,h'=>by
    have h1:VRs s vs rs:=⟨by simpa using h'.1.1,fun i x y a b=>h'.1.2 (i+1) x y (by simpa using a) (by simpa using b)⟩
    refine setL_eq vs (c.set o v) (ys.set o r) (o+1) rs ⟨h.1.set o (h'.1.2 0 v r rfl rfl),fun y hy => ?_⟩ ⟨h1,fun y hy=>h'.2 y (by simp [hy])⟩
    rcases List.mem_or_eq_of_mem_set hy with hy | rfl
    · exact h.2 y hy
    · exact h'.2 _ (by simp)
  | [],_,_,_,_::_,_,h'=>by have:=h'.1.1;simp at this
  | _::_,_,_,_,[],_,h'=>by have:=h'.1.1;simp at this
theorem setL_take:∀ (vs c:List Value) (o n:Nat),o+vs.length≤n→(setL c o vs).take n=setL (c.take n) o vs
  | [],c,o,n,_=>rfl
  | v::vs,c,o,n,h=>by
    simp only [List.length_cons] at h
    rw [setL,setL,setL_take vs _ _ n (by omega),List.take_set]
end Go.Id
namespace Go.Id
open Go.Conc
set_option linter.unusedVariables false
section
variable {P:Program} {T:Nat→Option TyI} {N0:Nat→Prop} {lo:Nat} {s:Sim} {O Pr:Nat→Prop} {lb:Nat→Nat} {ls:Lv} {h:Hp} {w:World} {t:Tm} {a:Act} {o:Oper}
def Res (N0:Nat→Prop) (lo:Nat) (s:Sim) (O Pr:Nat→Prop) (lb:Nat→Nat) (ls:Lv) (w:World) (K:Sl→Lv→Hp→Prop) (nx:Next) (w':World):Prop :=
  ∃ vr,(nx = .value vr∨nx = .skip∧vr=undef)∧∃ s' lb' sl ls' h',K sl ls' h'∧Out N0 lo s s' O Pr lb lb' ls ls' h' w w'∧SlR s' lb' ls'.length sl vr
variable {K:Sl→Lv→Hp→Prop}
theorem res_val (M:Mem N0 lo s O Pr lb ls h w) {sl:Sl} {vr:Value} (hK:K sl ls h) (hv:SlR s lb ls.length sl vr):Res N0 lo s O Pr lb ls w K (.value vr) w :=
  ⟨vr,.inl rfl,s,lb,sl,ls,h,hK,Out.same M,hv⟩
theorem evS_ok (tm:TmOk s lb ls.length t a.tmps) {x:Operand} {sl:Sl} (h:evS t x=some sl):SlR s lb ls.length sl (a.eval x):=by
  cases x with
  | tmp j =>
    obtain ⟨vr,h1,h2⟩:=tm j sl h
    have:a.eval (.tmp j)=vr:=by simp [Act.eval,Array.getD_eq_getD_getElem?,h1]
    rw [this];exact h2
  | const v =>
    simp only [evS] at h;split at h
    · cases h;exact VR.plain s ‹_›
    · cases h
  | func f=>cases h;exact .fn _ _ _ _ _ rfl rfl (fun i v w h=>by simp at h) (fun i v w h=>by simp at h)
  | global g=>cases h
theorem ev_ok (tm:TmOk s lb ls.length t a.tmps) {x:Operand} {v:Value} (h:ev t x=some v):VR s v (a.eval x):=by
  unfold ev at h
  cases hx:evS t x with
  | none=>rw [hx] at h;cases h
  | some sl =>
    rw [hx] at h
    cases sl with
    | v y=>cases h;exact evS_ok tm hx
    | l j off=>cases h
    | b q=>cases h;rw [show a.eval x = .bool q from evS_ok tm hx];exact VR.bool q
    | r v=>cases h
    | c f l=>cases h
theorem evs_ok (tm:TmOk s lb ls.length t a.tmps):∀ (xs:List Operand) (vs:List Value),evs t xs=some vs→VRs s vs (xs.map a.eval)
  | [],vs,h=>by cases h;exact VRs.nil s
  | x::xs,vs,h=>by
    unfold evs at h
    split at h
    · split at h
      · cases h;exact VRs.cons (ev_ok tm ‹_›) (evs_ok tm xs _ ‹_›)
      · cases h
    · cases h
theorem VRs.toArr {s:Sim} {xs:List Value} {ys:Array Value} (h:VRs s xs ys.toList):xs.toArray.size=ys.size∧∀ (i:Nat) (v w:Value),xs.toArray[i]? = some v→ys[i]? = some w→VR s v w :=
  ⟨by simpa using h.1,fun i v w a b=>h.2 i v w (by simpa using a) (by simpa using b)⟩
theorem dz_val {α:Type} {E:Event→Prop} {x:Sem α} {f:α→Next} {R:Next→World→Prop} (hx:Dz P E x w fun v w'=>R (f v) w'):Dz P E (do let v ← x;pure (f v)) w R:=Dz.bind hx fun v w' h=>Dz.pure h
theorem ok_move (M:Mem N0 lo s O Pr lb ls h w) (tm:TmOk s lb ls.length t a.tmps) {x:Operand} (ho:o.op = .move x∨o.op = .assign x) {sl:Sl} (hs:evS t x=some sl) (hK:K sl ls h):Dz P (EvOk N0 O) (execOp a.eval o) w (Res N0 lo s O Pr lb ls w K):=by
  unfold execOp
  rcases ho with ho | ho<;>rw [ho]<;>exact Dz.pure (res_val M hK (evS_ok tm hs))
theorem ok_pick (M:Mem N0 lo s O Pr lb ls h w) (tm:TmOk s lb ls.length t a.tmps) {c x y:Operand} (ho:o.op = .pick c x y) {q:Bool} (hq:ev t c=some (.bool q)) {sl:Sl} (hs:evS t (match q with | true=>x | false=>y)=some sl) (hK:K sl ls h) :
    Dz P (EvOk N0 O) (execOp a.eval o) w (Res N0 lo s O Pr lb ls w K):=by
  have e:a.eval c = .bool q:=by have:=ev_ok tm hq;revert this;generalize a.eval c=z;intro hz;cases hz;rfl
  unfold execOp
  rw [ho];simp only [e]
  refine Dz.bind (Q:=fun b w'=>b=q∧w'=w) (Dz.pure ⟨rfl,rfl⟩) ?_
  rintro b w' ⟨rfl,rfl⟩
  cases b
  · exact Dz.pure (res_val M hK (evS_ok tm hs))
  · exact Dz.pure (res_val M hK (evS_ok tm hs))
theorem ok_load (hT : ∀ t i, T t = some i → TyOk P t i) (hT' : ∀ t i, T t = some i → i.k ≠ .other ∨ True) (M : Mem N0 lo s O Pr lb ls h w) (tm : TmOk s lb ls.length t a.tmps) {e : Nat} {x : Operand} (ho : o.op = .load e x) {i : TyI} (hi : T e = some i) (hk : i.k ≠ .other)
    (hp : (∃ j off c cs v, ptOf t x = some (.l j off) ∧ ls[j]? = some c ∧ sub? c off i.sz = some cs ∧ asV i cs = some v ∧ K (.v v) ls h) ∨ (∃ ad cs v, ptOf t x = some (.h ad) ∧ Ld h ad i.sz cs ∧ asV i cs = some v ∧ K (.v v) ls h)) :
    Dz P (EvOk N0 O) (execOp a.eval o) w (Res N0 lo s O Pr lb ls w K) := by
  have ht := hT e i hi
  unfold execOp
  rw [ho]
  refine dz_val ?_
  -- the cells, wherever they lie
  have key : ∀ (b of : Nat) (cs ys : List Value) (v : Value), a.eval x = .pointer (some ⟨b, of, none⟩) → (N0 b ∨ O b) → cs.length = i.sz → VRm s cs ys → Holds w b of ys → asV i cs = some v → K (.v v) ls h →
      Dz P (EvOk N0 O) (Instr.loadAt e (a.eval x)) w fun v w' => Res N0 lo s O Pr lb ls w K (.value v) w' := by
    intro b of cs ys v hx hb hl hv hh ha hK
    rw [hx]
    unfold Instr.loadAt Instr.sureAddr
    refine Dz.bind (Q := fun z w' => z = ⟨b, of, none⟩ ∧ w' = w) (Dz.pure ⟨rfl, rfl⟩) ?_
    rintro z w' ⟨rfl, rfl⟩
    refine (Dz.loadVar ht hk (by rw [← hv.1.1, hl]) hh (fun k => ⟨rfl, hb⟩) ht.one).mono ?_
    rintro r w'' ⟨rfl, hr⟩
    exact res_val M hK (asV_ok ha hv hr)
  rcases hp with ⟨j, off, c, cs, v, h1, h2, h3, h4, hK⟩ | ⟨ad, cs, v, h1, ⟨c, sz, h2, h3⟩, h4, hK⟩
  · obtain ⟨b1, b2, b3, rc, ty, b4, b5⟩ := M.loc.cell j c h2
    obtain ⟨g1, g2⟩ := sub_some h3
    have hx : a.eval x = .pointer (some ⟨lb j, off, none⟩) := by
      unfold ptOf at h1
      cases hs : evS t x with
      | none => rw [hs] at h1; cases h1
      | some sl =>
        rw [hs] at h1
        cases sl with
        | l j' off' => cases h1; exact (evS_ok tm hs).2
        | v y => cases y <;> try cases h1
                 rename_i p; cases p <;> cases h1
        | b q => cases h1
        | r v => cases h1
        | c f l => cases h1
    subst g2
    refine key (lb j) off _ ((rc.toList.drop off).take i.sz) v hx (.inr b1) (by simp; omega) ((b5.drop off).take i.sz) ?_ h4 hK
    intro k z hz
    rw [List.getElem?_take] at hz
    split at hz
    · rw [List.getElem?_drop] at hz
      unfold World.cell?; simp only [b4]; simpa using hz
    · cases hz
  · have hs : evS t x = some (.v (.pointer (some ad))) := by
      unfold ptOf at h1
      cases hs : evS t x with
      | none => rw [hs] at h1; cases h1
      | some sl =>
        rw [hs] at h1
        cases sl with
        | l j' off' => cases h1
        | v y => cases y <;> try cases h1
                 rename_i p; cases p <;> cases h1
                 rfl
        | b q => cases h1
        | r v => cases h1
        | c f l => cases h1
    have hv : VR s (.pointer (some ad)) (a.eval x) := evS_ok tm hs
    generalize hz : a.eval x = z at hv
    cases hv with
    | ptr id off sp ar cel ha he hx =>
      obtain ⟨c1, c2, cs', sz', c3, ys, c4, c5⟩ := M.sim.cells id cel ha
      simp only at h2
      have e0 := c3.symm.trans h2
      injection e0 with e1 e2 e3
      subst e1; subst e2
      have e4 := hx e3.symm
      subst e4
      obtain ⟨g1, g2⟩ := sub_some h3
      subst g2
      simp only at g1
      rw [← hz]
      refine key cel.b (cel.o + off) _ ((ys.drop off).take i.sz) v hz (M.sim.bl ha) (by simp; omega) ((c4.drop off).take i.sz) ?_ h4 hK
      intro k z hz
      rw [List.getElem?_take] at hz
      split at hz
      · exact c5.shift off k z hz
      · cases hz
end
end Go.Id
namespace Go.Id
open Go.Conc
set_option linter.unusedVariables false
section
variable {P:Program} {T:Nat→Option TyI} {N0:Nat→Prop} {lo:Nat} {s:Sim} {O Pr:Nat→Prop} {lb:Nat→Nat} {ls:Lv} {h:Hp} {w:World} {t:Tm} {a:Act} {o:Oper}
variable {K:Sl→Lv→Hp→Prop}
theorem res_newLocal (M:Mem N0 lo s O Pr lb ls h w) {cs:List Value} {rc:Array Value} {ty:TypeId} (hv:VRm s cs rc.toList) (hK:K (.l ls.length 0) (ls++[cs]) h) :
    Res N0 lo s O Pr lb ls w K (.value (.pointer (some ⟨w.heap.size,0,none⟩))) { w with heap:=w.heap.push (.cells rc ty (0,0)) } :=
  ⟨_,.inl rfl,s,_,.l ls.length 0,_,h,hK,Out.newLocal M rfl hv,by simp,by simp⟩
theorem up_new (M:Mem N0 lo s O Pr lb ls h w) (c:Cel) (e:Nat):s.le (s.up h.n c e) :=
  Sim.up_le fun c₀ hc₀=>absurd (M.sim.cells _ c₀ hc₀).1 (by omega)
theorem out_newObj (M:Mem N0 lo s O Pr lb ls h w) {cs:List Value} {sz cap:Nat} {rc:Array Value} {ty:TypeId} {w':World} (hw:w'.heap=w.heap.push (.cells rc ty (0,0))) (hos:w'.os=w.os) (hout:w'.output=w.output)
    (hv:VRm (s.up h.n ⟨w.heap.size,0,cap⟩ 0) cs (rc.toList.take cs.length)) (hl:cs.length≤rc.size) (hcap:sz≠0→rc.size=cap*sz) :
    Out N0 lo s (s.up h.n ⟨w.heap.size,0,cap⟩ 0) O Pr lb lb ls ls (h.push (.cells cs sz 0)) w w':=by
  refine Out.turn M (.inl ⟨rfl,rfl,Nat.le_refl _⟩) (up_new M _ _) (rc:=rc) (ty:=ty) (by rw [hw];simp) rfl (.inr ⟨Nat.le_refl _,by rw [hw];simp⟩) hv hl hcap (by rw [hw];simp) (fun b hb hne=>by rw [hw,Array.getElem?_push,if_neg hne]) hos hout
theorem up_adr (s:Sim) (id:Nat) (c:Cel) (e:Nat):(s.up id c e).adr id=some c∧(s.up id c e).ep id=e:=by simp [Sim.up]
theorem ok_alloc (hT:∀ t i,T t=some i→TyOk P t i) (M:Mem N0 lo s O Pr lb ls h w) {e:Nat} (ho:o.op = .alloc e) {i:TyI} (hi:T e=some i) (loc:Bool)
    (hK:match loc with | true=>K (.l ls.length 0) (ls++[i.zero]) h | false=>K (.v (.pointer (some ⟨h.n,0,none⟩))) ls (h.push (.cells i.zero 0 0))) :
    Dz P (EvOk N0 O) (execOp a.eval o) w (Res N0 lo s O Pr lb ls w K):=by
  have ht:=hT e i hi
  unfold execOp
  rw [ho]
  refine dz_val ?_
  unfold Instr.alloc
  refine Dz.bind (Q:=fun z w'=>z.cells=i.zero.toArray∧w'=w) (Dz.zeroValue ht fun z hz=>⟨hz,rfl⟩) ?_
  rintro z w' ⟨hz,rfl⟩
  simp only [newVar]
  refine Dz.bind (Q:=fun ad w''=>ad=⟨w'.heap.size,0,none⟩∧w''={ w' with heap:=w'.heap.push (.cells i.zero.toArray e (0,0)) }) (Dz.newRow (by rw [hz];exact ⟨rfl,rfl⟩)) ?_
  rintro ad w'' ⟨rfl,rfl⟩
  refine Dz.pure ?_
  cases loc with
  | true=>exact res_newLocal M (by simpa using VRm.of_plain s ht.plain) hK
  | false =>
    refine ⟨_,.inl rfl,_,lb,.v _,ls,_,hK,out_newObj M (cap:=0) (rc:=i.zero.toArray) (ty:=e) rfl rfl rfl (by simpa using VRm.of_plain _ ht.plain) (by simp) (by simp),?_⟩
    exact .ptr _ _ _ _ _ (up_adr _ _ _ _).1 (by simp [epOf,(up_adr s h.n _ _).2]) fun _=>rfl
theorem ok_box (M:Mem N0 lo s O Pr lb ls h w) (tm:TmOk s lb ls.length t a.tmps) {e:Nat} {x:Operand} (ho:o.op = .box e x) {v:Value} (hx:ev t x=some v) (hn:noTup v=true) (loc:Bool)
    (hK:match loc with | true=>K (.l ls.length 0) (ls++[cellsL v]) h | false=>K (.v (.pointer (some ⟨h.n,0,none⟩))) ls (h.push (.cells (cellsL v) 0 0))) :
    Dz P (EvOk N0 O) (execOp a.eval o) w (Res N0 lo s O Pr lb ls w K):=by
  have hv:=cells_of (ev_ok tm hx) hn
  unfold execOp
  rw [ho]
  refine dz_val ?_
  unfold Instr.box newVar
  refine Dz.bind (Q:=fun ad w''=>ad=⟨w.heap.size,0,none⟩∧w''={ w with heap:=w.heap.push (.cells (a.eval x).cells e (0,0)) }) (Dz.newRow ⟨rfl,rfl⟩) ?_
  rintro ad w'' ⟨rfl,rfl⟩
  refine Dz.pure ?_
  cases loc with
  | true=>exact res_newLocal M hv hK
  | false =>
    have hl:(cellsL v).length=(a.eval x).cells.size:=by simpa using hv.1.1
    refine ⟨_,.inl rfl,_,lb,.v _,ls,_,hK,out_newObj M (cap:=0) (rc:=(a.eval x).cells) (ty:=e) rfl rfl rfl ?_ (by omega) (by simp),?_⟩
    · rw [List.take_of_length_le (by simp;omega)];exact hv.mono (up_new M _ _)
    · exact .ptr _ _ _ _ _ (up_adr _ _ _ _).1 (by simp [epOf,(up_adr s h.n _ _).2]) fun _=>rfl
theorem ptOf_l (tm : TmOk s lb ls.length t a.tmps) {x : Operand} {j off : Nat} (h1 : ptOf t x = some (.l j off)) : a.eval x = .pointer (some ⟨lb j, off, none⟩) ∧ j < ls.length := by
  unfold ptOf at h1
  cases hs : evS t x with
  | none => rw [hs] at h1; cases h1
  | some sl =>
    rw [hs] at h1
    cases sl with
    | l j' off' => cases h1; exact ⟨(evS_ok tm hs).2, (evS_ok tm hs).1⟩
    | v y => cases y <;> try cases h1
             rename_i p; cases p <;> cases h1
    | b q => cases h1
    | r v => cases h1
    | c f l => cases h1
theorem ptOf_h (tm : TmOk s lb ls.length t a.tmps) {x : Operand} {ad : Addr} (h1 : ptOf t x = some (.h ad)) : VR s (.pointer (some ad)) (a.eval x) := by
  unfold ptOf at h1
  cases hs : evS t x with
  | none => rw [hs] at h1; cases h1
  | some sl =>
    rw [hs] at h1
    cases sl with
    | l j' off' => cases h1
    | v y => cases y <;> try cases h1
             rename_i p; cases p <;> cases h1
             exact evS_ok tm hs
    | b q => cases h1
    | r v => cases h1
    | c f l => cases h1
theorem ok_store (hT:∀ t i,T t=some i→TyOk P t i) (M:Mem N0 lo s O Pr lb ls h w) (tm:TmOk s lb ls.length t a.tmps) {e:Nat} {x y:Operand} (ho:o.op = .store e x y) {i:TyI} (hi:T e=some i) {v:Value} (hy:ev t y=some v) (hn:noTup v=true) (hlen:(cellsL v).length=i.sz)
    (hp:(∃ j off c,ptOf t x=some (.l j off)∧ls[j]? = some c∧off+i.sz≤c.length∧K (.v undef) (ls.set j (setL c off (cellsL v))) h)∨(∃ ad h',ptOf t x=some (.h ad)∧St lo h ad (cellsL v) h'∧K (.v undef) ls h')) :
    Dz P (EvOk N0 O) (execOp a.eval o) w (Res N0 lo s O Pr lb ls w K):=by
  have ht:=hT e i hi
  have hv:=ev_ok tm hy
  have hc:=cells_of hv hn
  have hcl:=cells_len hv hn
  have undefR:∀ (s':Sim) (lb':Nat→Nat) (n:Nat),SlR s' lb' n (.v undef) undef:=fun s' _ _=>VR.plain s' rfl
  have hex:execOp a.eval o=(do Instr.storeAt e (a.eval x) (a.eval y);pure .skip):=by unfold execOp;rw [ho]
  rw [hex]
  generalize hz:a.eval y=vr at hv hc hcl ⊢
  rcases hp with ⟨j,off,c,h1,h2,h3,hK⟩ | ⟨ad,h',h1,⟨hlo,hlt,c,sz,h2,h3,rfl⟩,hK⟩
  · obtain ⟨b1,b2,b3,rc,ty,b4,b5⟩:=M.loc.cell j c h2
    have hx:=(ptOf_l tm h1).1
    rw [hx]
    have hrc:c.length=rc.size:=by simpa using b5.1.1
    unfold Instr.storeAt Instr.sureAddr
    refine Dz.bind (Q:=fun (_:Unit) w'=>w'=putL w (lb j) off vr.cells.toList) ?_ ?_
    · refine Dz.bind (Q:=fun z w'=>z=⟨lb j,off,none⟩∧w'=w) (Dz.pure ⟨rfl,rfl⟩) ?_
      rintro z w' ⟨rfl,rfl⟩
      exact Dz.storeVar ht (by omega) b4 (by omega) hc.2 fun k=>⟨rfl,b1⟩
    · rintro _ w' rfl
      obtain ⟨⟨rc',p1,p2⟩,p3,p4,p5,p6⟩:=putL_heap (lb j) ty (0,0) vr.cells.toList off w rc b4
      exact Dz.pure ⟨undef,.inr ⟨rfl,rfl⟩,s,lb,.v undef,_,h,hK,Out.local_ M h2 p1 (by rw [p2];exact setL_eq _ _ _ _ _ b5 hc) p4 p3 p5 p6,undefR _ _ _⟩
  · have hvp:=ptOf_h tm h1
    generalize hzx:a.eval x=zx at hvp ⊢
    cases hvp with
    | ptr id off sp ar cel ha he hx =>
      obtain ⟨c1,c2,cs',sz',c3,ys,c4,c5⟩:=M.sim.cells id cel ha
      simp only at h2 hlo hlt h3
      have e0:=c3.symm.trans h2
      injection e0 with e1 e2 e3
      subst e1;subst e2
      have e4:=hx e3.symm
      subst e4
      obtain ⟨d1,d2,rc,ty,d3,cs₂,sz₂,e₂,d4,d5,d6⟩:=M.sim.own id cel ha hlo
      have e5:=c3.symm.trans d4
      injection e5 with e6 e7 e8
      subst e6;subst e7
      rw [d2]
      have hys:ys=rc.toList.take cs'.length:=by
        apply List.ext_getElem?
        intro k
        rw [List.getElem?_take]
        by_cases hk:k < cs'.length
        · rw [if_pos hk]
          have hky:k < ys.length:=by rw [← c4.1.1];exact hk
          have:=c5 k _ (List.getElem?_eq_getElem hky)
          unfold World.cell? at this
          simp only [d3,d2,Option.isSome_none,Bool.false_eq_true,if_false,Nat.zero_add] at this
          rw [List.getElem?_eq_getElem hky,← this];simp
        · rw [if_neg hk];exact List.getElem?_eq_none (by rw [← c4.1.1];omega)
      unfold Instr.storeAt Instr.sureAddr
      refine Dz.bind (Q:=fun (_:Unit) w'=>w'=putL w cel.b (0+off) vr.cells.toList) ?_ ?_
      · refine Dz.bind (Q:=fun z w'=>z=⟨cel.b,0+off,none⟩∧w'=w) (Dz.pure ⟨rfl,rfl⟩) ?_
        rintro z w' ⟨rfl,rfl⟩
        exact Dz.storeVar ht (by omega) d3 (by omega) hc.2 fun k=>⟨rfl,d1⟩
      · rintro _ w' rfl
        obtain ⟨⟨rc',p1,p2⟩,p3,p4,p5,p6⟩:=putL_heap cel.b ty (0,0) vr.cells.toList (0+off) w rc d3
        rw [Nat.zero_add] at p1 p2 p3 p4 p5 p6 ⊢
        have hle:s.le (s.up id cel (epOf sp)):=Sim.up_le fun c₀ hc₀ => .inr ⟨e3,by rw [ha] at hc₀;exact Option.some.inj hc₀⟩
        have hrs:rc'.size=rc.size:=by have:=congrArg List.length p2;rw [setL_length] at this;simpa using this
        refine Dz.pure ⟨undef,.inr ⟨rfl,rfl⟩,s.up id cel (epOf sp),lb,.v undef,ls,_,hK,Out.turn M (.inr ⟨hlt,hlo,rfl,cel,ha,.inl rfl⟩) hle p1 d2 (.inl d1) ?_ ?_ ?_ (by rw [p4];omega) (fun b _ hb=>p3 b hb) p5 p6,undefR _ _ _⟩
        · rw [setL_length,p2,setL_take _ _ _ _ (by have:=hc.1.1;omega),← hys]
          exact setL_eq _ _ _ _ _ (c4.mono hle) (hc.mono hle)
        · rw [setL_length];omega
        · intro hs;rw [hrs];exact d6 hs
end
end Go.Id
namespace Go.Id
open Go.Conc
set_option linter.unusedVariables false
def Free {α:Type} (P:Program) (x:Sem α):Prop:=∀ w es,x.events P w es=es
section
variable {α β:Type} {P:Program}
theorem Free.pure (a:α):Free P (Pure.pure a:Sem α):=fun w es=>by simp
theorem Free.halt (h:Halt):Free P (Sem.halt h:Sem α):=fun w es=>by simp
theorem Free.bind {x:Sem α} {f:α→Sem β} (hx:Free P x) (hf:∀ a,Free P (f a)):Free P (x >>= f):=fun w es=>by
  rw [Sem.events_bind,hx w es]
  cases x.run P w with
  | ok a w'=>exact hf a w' es
  | halt h w'=>rfl
theorem Free.underlying (t:TypeId):Free P (Go.underlying t):=fun w es=>by simp
theorem Free.sizeOf (t:TypeId):Free P (Go.sizeOf t):=fun w es=>by simp
theorem Free.zeroValue (t:TypeId):Free P (Go.zeroValue t):=fun w es=>by simp
theorem Free.mapL {f:α→Sem β} (h:∀ a,Free P (f a)):∀ (l:List α),Free P (l.mapM f)
  | []=>by rw [List.mapM_nil];exact Free.pure _
  | a::l=>by rw [List.mapM_cons];exact (h a).bind fun b=>(Free.mapL h l).bind fun bs=>Free.pure _
theorem Free.mapA {f:α→Sem β} (h:∀ a,Free P (f a)) (l:Array α):Free P (l.mapM f):=by
  rw [Array.mapM_eq_mapM_toList]
  exact fun w es=>by rw [Sem.events_map];exact Free.mapL h l.toList w es
theorem Free.build (t:TypeId) (ps:Array (Nat×Value)):Free P (Instr.build t ps):=by
  unfold Instr.build
  refine (Free.zeroValue t).bind fun z=>(Free.underlying t).bind fun d => ?_
  split
  · refine (Free.mapA (fun f=>(Free.sizeOf _).bind fun _=>Free.pure _) _).bind fun pl => ?_
    split
    · exact Free.pure _
    · exact Free.halt _
  · refine (Free.sizeOf _).bind fun sz => ?_
    split
    · exact Free.pure _
    · exact Free.halt _
  · exact Free.halt _
theorem Dz.of_run {E:Event→Prop} {x:Sem α} {w w':World} {v:α} {Q:α→World→Prop} (hr:x.run P w = .ok v w') (hf:Free P x) (hq:Q v w'):Dz P E x w Q:=⟨v,w',hr,hq,fun es hes=>by rw [hf];exact hes⟩
end
theorem foldl_setL:∀ (xs:List Value) (k off:Nat) (rc:Array Value),((xs.zipIdx k).foldl (fun cs (x:Value×Nat)=>cs.setIfInBounds (off+x.2) x.1) rc).toList=setL rc.toList (off+k) xs
  | [],_,_,_=>rfl
  | x::xs,k,off,rc=>by
    rw [List.zipIdx_cons,List.foldl_cons,foldl_setL xs (k+1) off]
    simp [setL,Nat.add_assoc]
theorem fold_arr (v:Value) (off:Nat) (rc:Array Value):(v.cells.zipIdx.foldl (fun cs (x:Value×Nat)=>cs.setIfInBounds (off+x.2) x.1) rc).toList=setL rc.toList off v.cells.toList:=by
  rw [← Array.foldl_toList,Array.toList_zipIdx]
  simpa using foldl_setL v.cells.toList 0 off rc
def PartsR (s:Sim):List (Nat×Value)→List (Nat×Value)→Prop
  | [],[]=>True
  | (i,v)::r,(j,v')::r'=>i=j∧VR s v v'∧PartsR s r r'
  | _,_=>False
theorem fill_ok {s:Sim} {pl pl':Nat→Option (Nat×Nat)} (hpl:∀ i x,pl i=some x→pl' i=some x):∀ (vs rs:List (Nat×Value)) (c c':List Value) (rc:Array Value),PartsR s vs rs→VRm s c rc.toList→fillL pl c vs=some c' →
    ∃ rc',Instr.fill pl' rc rs=some rc'∧VRm s c' rc'.toList
  | [],[],c,c',rc,_,hc,hf=>by cases hf;exact ⟨rc,rfl,hc⟩
  | (i,v)::vs,(j,v')::rs,c,c',rc,⟨hij,hv,hr⟩,hc,hf=>by
    subst hij
    unfold fillL at hf
    split at hf
    · cases hf
    · rename_i off sz hp
      split at hf
      · rename_i hcond
        obtain ⟨h1,h2,h3⟩:=hcond
        have hcs:=cells_of hv h3
        have hl:=cells_len hv h3
        have hcl:c.length=rc.size:=by simpa using hc.1.1
        unfold Instr.fill
        rw [hpl i _ hp]
        simp only []
        rw [if_neg (by simp;omega)]
        refine fill_ok hpl vs rs _ c' _ hr ?_ hf
        rw [fold_arr]
        exact setL_eq _ _ _ _ _ hc hcs
      · cases hf
  | [],_::_,_,_,_,h,_,_=>h.elim
  | _::_,[],_,_,_,h,_,_=>h.elim
section
variable {P:Program} {T:Nat→Option TyI} {N0:Nat→Prop} {lo:Nat} {s:Sim} {O Pr:Nat→Prop} {lb:Nat→Nat} {ls:Lv} {h:Hp} {w:World} {t:Tm} {a:Act} {o:Oper}
variable {K:Sl→Lv→Hp→Prop}
theorem VR.int_inv {s:Sim} {k:IntKind} {n:Int} {v:Value} (h:VR s (.int k n) v):v = .int k n:=by cases h;rfl
theorem VR.bool_inv {s:Sim} {b:Bool} {v:Value} (h:VR s (.bool b) v):v = .bool b:=by cases h;rfl
theorem VR.str_inv {s:Sim} {b:ByteArray} {v:Value} (h:VR s (.string b) v):v = .string b:=by cases h;rfl
theorem intsEq_len:∀ (xs ys:List Value) (r:Bool),intsEq xs ys=some r→xs.length=ys.length
  | [],[],_,_=>rfl
  | .int k a::xs,.int k' b::ys,r,h=>by
    unfold intsEq at h
    split at h
    · split at h
      · simpa using intsEq_len xs ys _ ‹_›
      · cases h
    · cases h
  | [],_::_,_,h=>by simp [intsEq] at h
  | x::_,[],_,h=>by cases x<;>simp [intsEq] at h
  | .int k a::xs,y::ys,r,h=>by cases y<;>first | (simp [intsEq] at h;done) | (unfold intsEq at h;split at h<;>(try split at h)<;>first | (cases h;done) | (simpa using intsEq_len xs ys _ ‹_›))
  | .bool _::_,_::_,_,h | .float _ _::_,_::_,_,h | .complex _ _ _::_,_::_,_,h | .string _::_,_::_,_,h | .pointer _::_,_::_,_,h | .slice _ _ _::_,_::_,_,h | .map _::_,_::_,_,h | .chan _::_,_::_,_,h
  | .func _ _ _::_,_::_,_,h | .nilFunc::_,_::_,_,h | .iface _ _::_,_::_,_,h | .nilIface::_,_::_,_,h | .agg _::_,_::_,_,h | .tuple _::_,_::_,_,h=>by simp [intsEq] at h
theorem ints_VRs {s:Sim}:∀ (xs ys xr:List Value) (r:Bool),intsEq xs ys=some r→VRs s xs xr→xr=xs
  | [],ys,xr,r,_,h=>by have:=h.1;cases xr with
    | nil=>rfl
    | cons=>simp at this
  | x::xs,ys,[],r,_,h=>by have:=h.1;simp at this
  | x::xs,ys,z::xr,r,hi,h=>by
    cases ys with
    | nil=>have:=intsEq_len _ _ _ hi;simp at this
    | cons y ys =>
      have h0:=h.2 0 x z rfl rfl
      have ht:VRs s xs xr:=⟨by simpa using h.1,fun i v w a b=>h.2 (i+1) v w (by simpa using a) (by simpa using b)⟩
      cases x<;>try (simp [intsEq] at hi;done)
      cases y<;>try (simp [intsEq] at hi;done)
      unfold intsEq at hi
      split at hi
      · split at hi
        · rw [h0.int_inv,ints_VRs xs ys xr _ ‹_› ht]
        · cases hi
      · cases hi
theorem intsEq_symm:∀ (xs ys:List Value) (r:Bool),intsEq xs ys=some r→∃ r',intsEq ys xs=some r'
  | [],[],_,_=>⟨true,rfl⟩
  | x::xs,[],_,h=>by have:=intsEq_len _ _ _ h;simp at this
  | [],y::ys,_,h=>by have:=intsEq_len _ _ _ h;simp at this
  | x::xs,y::ys,r,h=>by
    cases x<;>try (simp [intsEq] at h;done)
    cases y<;>try (simp [intsEq] at h;done)
    unfold intsEq at h
    split at h
    · split at h
      · obtain ⟨r',hr'⟩:=intsEq_symm xs ys _ ‹_›
        unfold intsEq
        rw [if_pos (Eq.symm ‹_›),hr']
        exact ⟨_,rfl⟩
      · cases h
    · cases h
theorem partsV_ok (tm:TmOk s lb ls.length t a.tmps):∀ (ps:List (Nat×Operand)) (vs:List (Nat×Value)),partsV t ps=some vs→PartsR s vs (ps.map fun x=>(x.1,a.eval x.2))
  | [],vs,h=>by cases h;trivial
  | (i,x)::ps,vs,h=>by
    unfold partsV at h
    split at h
    · split at h
      · cases h;exact ⟨rfl,ev_ok tm ‹_›,partsV_ok tm ps _ ‹_›⟩
      · cases h
    · cases h
theorem mapM_get {α β:Type} {f:α→Option β}:∀ {l:List α} {r:List β},l.mapM f=some r→∀ (i:Nat) (x:α),l[i]? = some x→∃ y,r[i]? = some y∧f x=some y
  | [],r,_,i,x,hi=>by simp at hi
  | a::l,r,h,i,x,hi=>by
    simp only [List.mapM_cons,Option.bind_eq_bind,Option.pure_def,Option.bind_eq_some_iff] at h
    obtain ⟨b,hb,bs,hbs,he⟩:=h
    cases he
    cases i with
    | zero=>simp at hi;subst hi;exact ⟨b,rfl,hb⟩
    | succ i=>simp at hi;obtain ⟨y,h1,h2⟩:=mapM_get hbs i x hi;exact ⟨y,by simpa using h1,h2⟩
theorem ok_build (hT:∀ t i,T t=some i→TyOk P t i) (M:Mem N0 lo s O Pr lb ls h w) (tm:TmOk s lb ls.length t a.tmps) {ty:Nat} {ps:Array (Nat×Operand)} (ho:o.op = .build ty ps) {i:TyI} (hi:T ty=some i) {vs:List (Nat×Value)} (hps:partsV t ps.toList=some vs) (hbk:bldK T i.k=true)
    {c:List Value} (hf:fillL (place T i.k) i.zero vs=some c) (hK:K (.v (.agg c.toArray)) ls h):Dz P (EvOk N0 O) (execOp a.eval o) w (Res N0 lo s O Pr lb ls w K):=by
  have ht:=hT ty i hi
  obtain ⟨d,hd,hkd⟩:=ht.kind
  obtain ⟨info,hinfo,hsz,⟨z,hz,hzc,_⟩,_⟩:=ht.info
  have hR:=partsV_ok tm ps.toList vs hps
  have hz0:VRm s i.zero z.cells.toList:=by rw [hzc];simpa using VRm.of_plain s ht.plain
  have hbuilt:∃ rc,P.built ty (ps.map fun x=>(x.1,a.eval x.2)).toList=some rc∧VRm s c rc.toList:=by
    unfold Program.built
    rw [hinfo,hd]
    cases hk:i.k with
    | struct fs =>
      rw [hk] at hkd hf
      cases d<;>simp [kOk] at hkd
      rename_i fields
      obtain ⟨places,hpl⟩:=ht.fields fields hd
      simp only [hz,hpl,Array.toList_map]
      refine fill_ok ?_ vs _ _ _ _ hR hz0 hf
      intro k x hx
      simp only [place] at hx
      split at hx
      · rename_i off e he
        split at hx
        · rename_i j hj
          cases hx
          rw [← hkd] at he
          rw [List.getElem?_map,Option.map_eq_some_iff] at he
          obtain ⟨f,hf1,hf2⟩:=he
          obtain ⟨y,hy1,hy2⟩:=mapM_get hpl k f hf1
          obtain ⟨fi,hfi,hfs,_⟩:=(hT _ _ hj).info
          cases hf2
          rw [hfi] at hy2
          cases hy2
          simpa [hfs] using hy1
        · cases hx
      · cases hx
    | array n e =>
      rw [hk] at hkd hf
      cases d<;>simp [kOk] at hkd
      obtain ⟨rfl,rfl⟩:=hkd
      cases hj:T e with
      | none=>simp [bldK,hk,hj] at hbk
      | some j =>
        obtain ⟨fi,hfi,hfs,_⟩:=(hT _ _ hj).info
        simp only [hz,hfi,Array.toList_map]
        refine fill_ok ?_ vs _ _ _ _ hR hz0 hf
        intro k x hx
        simp only [place,hj] at hx
        cases hx
        rw [hfs]
    | _=>simp [bldK,hk] at hbk
  obtain ⟨rc,hrc,hv⟩:=hbuilt
  have hex:execOp a.eval o=(do let v ← Instr.build ty (ps.map fun x=>(x.1,a.eval x.2));pure (.value v)):=by unfold execOp;rw [ho]
  rw [hex]
  refine dz_val ?_
  exact Dz.of_run (run_build w ty _ rc hrc) (Free.build _ _) (res_val M hK (VR.mono s.le_refl (.agg _ _ (by simpa using hv.1.1) (fun i v w a b=>hv.1.2 i v w (by simpa using a) (by simpa using b)) fun w hw=>hv.2 w (by simpa using hw))))
end
end Go.Id
namespace Go.Id
open Go.Conc
set_option linter.unusedVariables false
section
variable {P:Program} {T:Nat→Option TyI} {N0:Nat→Prop} {lo:Nat} {s:Sim} {O Pr:Nat→Prop} {lb:Nat→Nat} {ls:Lv} {h:Hp} {w:World} {t:Tm} {a:Act} {o:Oper}
variable {K:Sl→Lv→Hp→Prop}
theorem ok_nilCheck (M:Mem N0 lo s O Pr lb ls h w) (tm:TmOk s lb ls.length t a.tmps) {x:Operand} (ho:o.op = .nilCheck x) {sl:Sl} (hx:evS t x=some sl)
    (hs:(∃ j off,sl = .l j off)∨(∃ ad,sl = .v (.pointer (some ad)))∨(∃ f x y,sl = .v (.func (.func f) x y))∨(∃ ty v,sl = .v (.iface ty v))) (hK:K sl ls h):Dz P (EvOk N0 O) (execOp a.eval o) w (Res N0 lo s O Pr lb ls w K):=by
  have hv:=evS_ok tm hx
  unfold execOp
  rw [ho]
  simp only []
  generalize a.eval x=z at hv ⊢
  rcases hs with ⟨j,off,rfl⟩ | ⟨ad,rfl⟩ | ⟨f,p,q,rfl⟩ | ⟨ty,v,rfl⟩
  · obtain ⟨h1,rfl⟩:=hv;exact Dz.pure (res_val M hK ⟨h1,rfl⟩)
  · have hv':VR s _ _:=hv
    cases hv' with
    | ptr id off sp ar cel ha he hx=>exact Dz.pure (res_val M hK hv)
  · have hv':VR s _ _:=hv
    cases hv' with
    | fn _ _ _ x' y' h1 h2 h3 h4=>exact Dz.pure (res_val M hK hv)
  · have hv':VR s _ _:=hv
    cases hv' with
    | iface _ _ w' h1=>exact Dz.pure (res_val M hK hv)
theorem dz_eqGuard {E : Event → Prop} {op : BinOp} {ty : Nat} {x y : Operand} {u v : Value} (h : (∃ k n k' n', u = .int k n ∧ v = .int k' n') ∨ (∃ b b', u = .bool b ∧ v = .bool b') ∨ (∃ p q, u = .pointer p ∧ v = .pointer q) ∨ (∃ p q, u = .string p ∧ v = .string q) ∨ (∃ p q, u = .agg p ∧ v = .agg q ∧ P.eqGuardType P.depth ty = false)) :
    Dz P E (eqGuard op ty x y u v) w fun _ w' => w' = w := by
  unfold eqGuard
  cases op <;> first
    | exact Dz.pure rfl
    | (rcases h with ⟨k, n, k', n', rfl, rfl⟩ | ⟨b, b', rfl, rfl⟩ | ⟨p, q, rfl, rfl⟩ | ⟨p, q, rfl, rfl⟩ | ⟨p, q, rfl, rfl, hg⟩ <;> first
        | exact Dz.pure rfl
        | (simp only [Bool.not_true, Bool.false_eq_true, if_false]
           refine Dz.bind (Q := fun r w' => r = P ∧ w' = w) (Dz.program ⟨rfl, rfl⟩) ?_
           rintro r w' ⟨rfl, rfl⟩
           refine Dz.bind (Q := fun r' w'' => r' = r ∧ w'' = w') (Dz.program ⟨rfl, rfl⟩) ?_
           rintro r' w'' ⟨rfl, rfl⟩
           rw [hg]; exact Dz.pure rfl))
theorem equal_bool {ty:Nat} {i:TyI} (ht:TyOk P ty i) (hk:i.k = .bool) {E:Event→Prop} {x y:Bool} {Q:Bool→World→Prop} (h:Q (x == y) w):Dz P E (Op.equal ty (.bool x) (.bool y)) w Q:=by
  obtain ⟨d,hd,hkd⟩:=ht.kind
  rw [hk] at hkd
  cases d<;>simp [kOk] at hkd
  unfold Op.equal Op.maxDepth Op.equalIn
  refine Dz.bind (Q:=fun d w'=>d = .bool∧w'=w) (Dz.underlying hd ⟨rfl,rfl⟩) ?_
  rintro d w' ⟨rfl,rfl⟩
  exact Dz.pure h
theorem equal_ptr {ty:Nat} {i:TyI} (ht:TyOk P ty i) {e:Nat} (hk:i.k = .ptr e) {E:Event→Prop} {x:Option Addr} {Q:Bool→World→Prop} (h:Q x.isNone w):Dz P E (Op.equal ty (.pointer x) (.pointer none)) w Q:=by
  obtain ⟨d,hd,hkd⟩:=ht.kind
  rw [hk] at hkd
  cases d<;>simp [kOk] at hkd
  unfold Op.equal Op.maxDepth Op.equalIn
  refine Dz.bind (Dz.underlying hd (Q:=fun d w'=>d = .pointer _∧w'=w) ⟨rfl,rfl⟩) ?_
  rintro d w' ⟨rfl,rfl⟩
  cases x<;>exact Dz.pure h
theorem equal_slice {ty:Nat} {i:TyI} (ht:TyOk P ty i) {e:Nat} (hk:i.k = .slice e) {E:Event→Prop} {x:Option Addr} {n c m d':Nat} {Q:Bool→World→Prop} (h:Q x.isNone w):Dz P E (Op.equal ty (.slice x n c) (.slice none m d')) w Q:=by
  obtain ⟨d,hd,hkd⟩:=ht.kind
  rw [hk] at hkd
  cases d<;>simp [kOk] at hkd
  unfold Op.equal Op.maxDepth Op.equalIn
  refine Dz.bind (Dz.underlying hd (Q:=fun d w'=>d = .slice _∧w'=w) ⟨rfl,rfl⟩) ?_
  rintro d w' ⟨rfl,rfl⟩
  cases x<;>exact Dz.pure h
theorem dz_eqGuard_sl {E:Event→Prop} {op:BinOp} {ty:Nat} {x y:Operand} {a b:Option Addr} {n c m d:Nat}:Dz P E (eqGuard op ty x y (.slice a n c) (.slice b m d)) w fun _ w'=>w'=w:=by
  unfold eqGuard
  cases op<;>exact Dz.pure rfl
theorem ok_binOp (hT:∀ t i,T t=some i→TyOk P t i) (M:Mem N0 lo s O Pr lb ls h w) (tm:TmOk s lb ls.length t a.tmps) {op:BinOp} {ty ty':Nat} {x y:Operand} (ho:o.op = .binOp op ty x y ty') {u v:Value} (hx:ev t x=some u) (hy:ev t y=some v)
    (hK:ibin (T ty) op u v fun v=>K (.v v) ls h):Dz P (EvOk N0 O) (execOp a.eval o) w (Res N0 lo s O Pr lb ls w K):=by
  have hu:=ev_ok tm hx
  have hv:=ev_ok tm hy
  have hex:execOp a.eval o=(do let r ← (do eqGuard op ty x y (a.eval x) (a.eval y);binOp op ty (a.eval x) (a.eval y));pure (.value r)):=by unfold execOp;rw [ho]
  rw [hex]
  refine dz_val ?_
  generalize a.eval x=ur at hu ⊢
  generalize a.eval y=vr at hv ⊢
  unfold ibin at hK
  split at hK
  ·
    rename_i k n k' n'
    obtain rfl:=hu.int_inv
    obtain rfl:=hv.int_inv
    refine Dz.bind (dz_eqGuard (.inl ⟨_,_,_,_,rfl,rfl⟩)) ?_
    rintro _ w' rfl
    have hr:∃ r,binOp op ty (.int k n) (.int k' n')=Pure.pure (Value.int k r)∧K (.v (.int k r)) ls h∨∃ r,binOp op ty (.int k n) (.int k' n')=Pure.pure (Value.bool r)∧K (.v (.bool r)) ls h:=by
      cases op<;>simp only at hK
      case shl=>exact ⟨_,.inl ⟨by simp only [binOp,Op.shift];rw [if_neg (by omega)],hK.2⟩⟩
      case shr=>exact ⟨_,.inl ⟨by simp only [binOp,Op.shift];rw [if_neg (by omega)],hK.2⟩⟩
      all_goals
        replace hK:=req_iff hK
        obtain ⟨hkk,hK⟩:=hK
        have hkk:=eq_of_beq hkk
        subst hkk
      case add | sub | mul=>exact ⟨_,.inl ⟨by simp [binOp,Op.intArith],hK⟩⟩
      case quo | rem=>exact ⟨_,.inl ⟨by simp [binOp,Op.intDiv,hK.1],hK.2⟩⟩
      case xor | and=>exact ⟨_,.inl ⟨by simp only [binOp,ne_eq,not_true_eq_false,if_false,Op.intBits],hK⟩⟩
      case eql | neq | lss | leq | gtr | geq=>exact ⟨0,.inr ⟨_,by simp [binOp,Op.intCmp],hK⟩⟩
      all_goals exact hK.elim
    rcases hr with ⟨r,⟨h1,h2⟩ | ⟨r,h1,h2⟩⟩
    · rw [h1];exact Dz.pure (res_val M h2 (VR.int _ _))
    · rw [h1];exact Dz.pure (res_val M h2 (VR.bool _))
  ·
    obtain rfl:=hu.bool_inv
    obtain rfl:=hv.bool_inv
    refine Dz.bind (dz_eqGuard (.inr (.inl ⟨_,_,rfl,rfl⟩))) ?_
    rintro _ w' rfl
    split at hK
    · rename_i hi
      have ht:=hT ty _ hi
      simp only [binOp]
      refine Dz.bind (equal_bool ht rfl (Q:=fun r w''=>r=_∧w''=w') ⟨rfl,rfl⟩) ?_
      rintro r w'' ⟨rfl,rfl⟩
      exact Dz.pure (res_val M hK (VR.bool _))
    · rename_i hi
      have ht:=hT ty _ hi
      simp only [binOp]
      refine Dz.bind (equal_bool ht rfl (Q:=fun r w''=>r=_∧w''=w') ⟨rfl,rfl⟩) ?_
      rintro r w'' ⟨rfl,rfl⟩
      exact Dz.pure (res_val M hK (VR.bool _))
    · exact hK.elim
  ·
    rename_i p q
    have hur:∃ p',ur = .pointer p'∧p'.isNone=p.isNone:=by
      cases hu with
      | ptr0=>exact ⟨none,rfl,rfl⟩
      | ptr id off sp ar cel ha he hx=>exact ⟨_,rfl,rfl⟩
    have hvr:q=none→vr = .pointer none:=by
      rintro rfl;cases hv;rfl
    obtain ⟨p',rfl,hp⟩:=hur
    split at hK<;>first
      | (exact hK.elim;done)
      | skip
    all_goals
      rename_i hi
      have ht:=hT ty _ hi
      obtain rfl:=hvr rfl
      refine Dz.bind (dz_eqGuard (.inr (.inr (.inl ⟨_,_,rfl,rfl⟩)))) ?_
      rintro _ w' rfl
      simp only [binOp]
      refine Dz.bind (equal_ptr ht rfl (Q:=fun r w''=>r=p'.isNone∧w''=w') ⟨rfl,rfl⟩) ?_
      rintro r w'' ⟨rfl,rfl⟩
      rw [hp]
      exact Dz.pure (res_val M hK (VR.bool _))
  ·
    rename_i p q
    have hur:∃ p',ur = .agg p'∧VRs s p.toList p'.toList:=by
      cases hu with
      | agg _ y hs h h1=>exact ⟨y,rfl,by simpa using hs,fun i v w a b=>h i v w (by simpa using a) (by simpa using b)⟩
    have hvr:∃ p',vr = .agg p'∧VRs s q.toList p'.toList:=by
      cases hv with
      | agg _ y hs h h1=>exact ⟨y,rfl,by simpa using hs,fun i v w a b=>h i v w (by simpa using a) (by simpa using b)⟩
    obtain ⟨p',rfl,hp⟩:=hur
    obtain ⟨q',rfl,hq⟩:=hvr
    split at hK
    all_goals first
      | (exact hK.elim;done)
      | skip
    all_goals
      rename_i n hi
      replace hK:=req_iff hK
      obtain ⟨hn,hK⟩:=hK
      have hn:=beq_t hn
      split at hK
      · rename_i r hr
        have ht:=hT ty _ hi
        obtain ⟨hg,he⟩:=ht.eq rfl
        obtain ⟨r',hr'⟩:=intsEq_symm _ _ _ hr
        have e1:=ints_VRs _ _ _ _ hr hp
        have e2:=ints_VRs _ _ _ _ hr' hq
        have e1':p'=p:=Array.ext' e1
        have e2':q'=q:=Array.ext' e2
        subst e1';subst e2'
        refine Dz.bind (dz_eqGuard (.inr (.inr (.inr (.inr ⟨_,_,rfl,rfl,hg⟩))))) ?_
        rintro _ w' rfl
        simp only [binOp]
        refine Dz.bind (Q:=fun b w''=>b=r∧w''=w') (by have:=he _ _ r w' (EvOk N0 O) (fun b w''=>b=r∧w''=w') (by simpa using hn) hr ⟨rfl,rfl⟩;simpa using this) ?_
        rintro b w'' ⟨rfl,rfl⟩
        exact Dz.pure (res_val M hK (VR.bool _))
      · exact hK.elim
  ·
    obtain rfl:=hu.str_inv
    obtain rfl:=hv.str_inv
    refine Dz.bind (dz_eqGuard (.inr (.inr (.inr (.inl ⟨_,_,rfl,rfl⟩))))) ?_
    rintro _ w' rfl
    split at hK
    · exact Dz.pure (res_val M hK (VR.bool _))
    · exact Dz.pure (res_val M hK (VR.bool _))
    · simp only [binOp,Op.stringOp]
      rw [if_neg (by have:=hK.1;have e:maxLen=2147483648:=rfl;have e':IntKind.max .i64=9223372036854775807:=rfl;omega)]
      exact Dz.pure (res_val M hK.2 (VR.str _))
    · exact hK.elim
  ·
    rename_i p n f m g
    have hur:∃ p' n' c,ur = .slice p' n' c∧p'.isNone=p.isNone:=by
      cases hu with
      | sl0=>exact ⟨none,_,_,rfl,rfl⟩
      | sl=>exact ⟨_,_,_,rfl,rfl⟩
    have hvr:∃ n' c,vr = .slice none n' c:=by
      cases hv with
      | sl0=>exact ⟨_,_,rfl⟩
    obtain ⟨p',n',c',rfl,hp⟩:=hur
    obtain ⟨m',d',rfl⟩:=hvr
    split at hK<;>first
      | (exact hK.elim;done)
      | skip
    all_goals
      rename_i hi
      have ht:=hT ty _ hi
      refine Dz.bind dz_eqGuard_sl ?_
      rintro _ w' rfl
      simp only [binOp]
      refine Dz.bind (equal_slice ht rfl (Q:=fun r w''=>r=p'.isNone∧w''=w') ⟨rfl,rfl⟩) ?_
      rintro r w'' ⟨rfl,rfl⟩
      rw [hp]
      exact Dz.pure (res_val M hK (VR.bool _))
  · exact hK.elim
end
end Go.Id
namespace Go.Id
open Go.Conc
set_option linter.unusedVariables false
section
variable {P:Program} {T:Nat→Option TyI} {N0:Nat→Prop} {lo:Nat} {s:Sim} {O Pr:Nat→Prop} {lb:Nat→Nat} {ls:Lv} {h:Hp} {w:World} {t:Tm} {a:Act} {o:Oper}
variable {K:Sl→Lv→Hp→Prop}
theorem ok_not (M:Mem N0 lo s O Pr lb ls h w) (tm:TmOk s lb ls.length t a.tmps) {ty:Nat} {x:Operand} (ho:o.op = .unOp .not ty x) {b:Bool} (hx:ev t x=some (.bool b)) (hK:K (.v (.bool !b)) ls h):Dz P (EvOk N0 O) (execOp a.eval o) w (Res N0 lo s O Pr lb ls w K):=by
  have hv:=(ev_ok tm hx).bool_inv
  unfold execOp
  rw [ho]
  simp only [hv]
  exact dz_val (Dz.pure (res_val M hK (VR.bool _)))
theorem ok_neg (M:Mem N0 lo s O Pr lb ls h w) (tm:TmOk s lb ls.length t a.tmps) {ty:Nat} {x:Operand} (ho:o.op = .unOp .neg ty x) {k:IntKind} {n:Int} (hx:ev t x=some (.int k n)) (hK:K (.v (.int k (k.wrap (0 - n)))) ls h):Dz P (EvOk N0 O) (execOp a.eval o) w (Res N0 lo s O Pr lb ls w K):=by
  have hv:=(ev_ok tm hx).int_inv
  unfold execOp
  rw [ho]
  simp only [hv]
  exact dz_val (Dz.pure (res_val M hK (VR.int _ _)))
theorem ok_convert (hT:∀ t i,T t=some i→TyOk P t i) (M:Mem N0 lo s O Pr lb ls h w) (tm:TmOk s lb ls.length t a.tmps) {src dst:Nat} {x:Operand} (ho:o.op = .convert src dst x) {i j:TyI} (hi:T src=some i) (hj:T dst=some j) {v:Value} (hx:ev t x=some v) (hK:convP i.k j.k v fun v=>K (.v v) ls h) :
    Dz P (EvOk N0 O) (execOp a.eval o) w (Res N0 lo s O Pr lb ls w K):=by
  have hv:=ev_ok tm hx
  obtain ⟨d,hd,_⟩:=(hT _ _ hi).kind
  obtain ⟨d',hd',hk'⟩:=(hT _ _ hj).kind
  have hex:execOp a.eval o=(do let r ← convert src dst (a.eval x);pure (.value r)):=by unfold execOp;rw [ho]
  rw [hex]
  refine dz_val ?_
  generalize a.eval x=z at hv ⊢
  unfold convP at hK
  split at hK
  · rename_i k k' n hk
    obtain rfl:=hv.int_inv
    rw [hk] at hk'
    cases d'<;>simp [kOk] at hk'
    subst hk'
    unfold convert
    refine Dz.bind (Q:=fun r w'=>r=d∧w'=w) (Dz.underlying hd ⟨rfl,rfl⟩) ?_
    rintro r w' ⟨rfl,rfl⟩
    refine Dz.bind (Q:=fun r' w''=>r' = .int k∧w''=w') (Dz.underlying hd' ⟨rfl,rfl⟩) ?_
    rintro r' w'' ⟨rfl,rfl⟩
    simp only [Conv.intToInt]
    exact Dz.pure (res_val M hK (VR.int _ _))
  · exact hK.elim
theorem ok_makeInterface (hT:∀ t i,T t=some i→TyOk P t i) (M:Mem N0 lo s O Pr lb ls h w) (tm:TmOk s lb ls.length t a.tmps) {ty:Nat} {x:Operand} (ho:o.op = .makeInterface ty x) {i:TyI} (hi:T ty=some i) (hk:i.k ≠ .iface∧i.k ≠ .other) {v:Value} (hx:ev t x=some v) (hK:K (.v (.iface ty v)) ls h) :
    Dz P (EvOk N0 O) (execOp a.eval o) w (Res N0 lo s O Pr lb ls w K):=by
  have hv:=ev_ok tm hx
  obtain ⟨d,hd,hkd⟩:=(hT _ _ hi).kind
  have hex:execOp a.eval o=(do let r ← Instr.makeInterface ty (a.eval x);pure (.value r)):=by unfold execOp;rw [ho]
  rw [hex]
  refine dz_val ?_
  unfold Instr.makeInterface
  refine Dz.bind (Q:=fun r w'=>r=d∧w'=w) (Dz.underlying hd ⟨rfl,rfl⟩) ?_
  rintro r w' ⟨rfl,rfl⟩
  have hni:∀ ms,r ≠ .interface ms:=by
    rintro ms rfl
    cases hk0:i.k<;>rw [hk0] at hkd<;>simp [kOk] at hkd
    · exact hk.1 hk0
    · exact hk.2 hk0
  cases r<;>first | exact absurd rfl (hni _) | exact Dz.pure (res_val M hK (VR.iface _ _ _ hv))
theorem ok_makeFunc (M:Mem N0 lo s O Pr lb ls h w) (tm:TmOk s lb ls.length t a.tmps) {f:Fn} {xs ys:Array Operand} (ho:o.op = .makeFunc f xs ys) {us vs:List Value} (hx:evs t xs.toList=some us) (hy:evs t ys.toList=some vs) (hK:K (.v (.func f us.toArray vs.toArray)) ls h) :
    Dz P (EvOk N0 O) (execOp a.eval o) w (Res N0 lo s O Pr lb ls w K):=by
  have h1:=evs_ok tm _ _ hx
  have h2:=evs_ok tm _ _ hy
  unfold execOp
  rw [ho]
  refine dz_val (Dz.pure (res_val M hK ?_))
  have e1:=VRs.toArr (ys:=xs.map a.eval) (by simpa using h1)
  have e2:=VRs.toArr (ys:=ys.map a.eval) (by simpa using h2)
  exact VR.fn _ _ _ _ _ e1.1 e2.1 e1.2 e2.2
theorem caps_ok (tm:TmOk s lb ls.length t a.tmps):∀ (xs:List Operand) (c:List (Bool×Value)),caps t xs=some c→c.length=xs.length∧∀ (i:Nat) (q:Bool) (v w:Value),c[i]? = some (q,v)→(xs.map a.eval)[i]? = some w→(match q with | true=>w=v | false=>VR s v w)
  | [],c,h=>by cases h;exact ⟨rfl,fun i q v w h=>by simp at h⟩
  | x::xs,c,h=>by
    have key:∀ (q:Bool) (v:Value) (r:List (Bool×Value)),caps t xs=some r→c=(q,v)::r→(match q with | true=>a.eval x=v | false=>VR s v (a.eval x))→c.length=(x::xs).length∧∀ (i:Nat) (q:Bool) (v w:Value),c[i]? = some (q,v)→((x::xs).map a.eval)[i]? = some w→(match q with | true=>w=v | false=>VR s v w):=by
      rintro q v r hr rfl hq
      obtain ⟨h1,h2⟩:=caps_ok tm xs r hr
      refine ⟨by simp [h1],fun i q' v' w' e1 e2 => ?_⟩
      cases i with
      | zero=>simp at e1 e2;obtain ⟨rfl,rfl⟩:=e1;subst e2;exact hq
      | succ i=>simp at e1 e2;exact h2 i q' v' w' e1 (by simpa using e2)
    unfold caps at h
    split at h
    · rename_i v r h1 h2;cases h;exact key false v r h2 rfl (evS_ok tm h1)
    · rename_i q r h1 h2;cases h;exact key false _ r h2 rfl (by rw [show a.eval x = .bool q from evS_ok tm h1];exact VR.bool q)
    · rename_i v r h1 h2;cases h;exact key true v r h2 rfl (evS_ok tm h1)
    · cases h
theorem ok_makeClo (M:Mem N0 lo s O Pr lb ls h w) (tm:TmOk s lb ls.length t a.tmps) {f:FuncId} {xs ys:Array Operand} (ho:o.op = .makeFunc (.func f) xs ys) (hx:evs t xs.toList=some []) {c:List (Bool×Value)} (hy:caps t ys.toList=some c) (hK:K (.c f c) ls h) :
    Dz P (EvOk N0 O) (execOp a.eval o) w (Res N0 lo s O Pr lb ls w K):=by
  have h1:=evs_ok tm _ _ hx
  obtain ⟨h2,h3⟩:=caps_ok tm _ _ hy
  unfold execOp
  rw [ho]
  refine dz_val (Dz.pure (res_val M hK ?_))
  have e:xs.map a.eval=#[]:=by
    have:=h1.1
    apply Array.eq_empty_of_size_eq_zero
    simpa using this.symm
  exact ⟨(ys.map a.eval).toList,by rw [e],by simpa using h2,fun i q v w e1 e2=>h3 i q v w e1 (by simpa using e2)⟩
theorem VR.ptr_add {v:Addr} {z:Value} (h:VR s (.pointer (some v)) z) (n:Nat):∃ ar,z = .pointer (some ar)∧VR s (.pointer (some (addA v n))) (.pointer (some (ar.add n))):=by
  cases h with
  | ptr id off sp ar cel ha he hx =>
    refine ⟨ar,rfl,VR.ptr id (off+n) sp _ cel ha he fun e => ?_⟩
    rw [hx e,add_none,Nat.add_assoc]
theorem ok_fieldAddr (hT:∀ t i,T t=some i→TyOk P t i) (M:Mem N0 lo s O Pr lb ls h w) (tm:TmOk s lb ls.length t a.tmps) {e f:Nat} {x:Operand} (ho:o.op = .fieldAddr e x f) {fs:List (Nat×Nat)} {sz:Nat} {z:List Value} {q:Bool} (hi:T e=some ⟨.struct fs,sz,z,q⟩) {off e':Nat} (hf:fs[f]? = some (off,e')) {j:TyI} (hj:T e'=some j) (hsz:j.sz≠0)
    (hp:(∃ b of,ptOf t x=some (.l b of)∧K (.l b (of+off)) ls h)∨(∃ ad,ptOf t x=some (.h ad)∧K (.v (.pointer (some (addA ad off)))) ls h)):Dz P (EvOk N0 O) (execOp a.eval o) w (Res N0 lo s O Pr lb ls w K):=by
  obtain ⟨d,hd,hkd⟩:=(hT _ _ hi).kind
  cases d<;>simp [kOk] at hkd
  rename_i fields
  have hfl:∃ fl,fields[f]? = some fl∧fl.offset=off∧fl.type=e':=by
    rw [← hkd] at hf
    rw [List.getElem?_map,Option.map_eq_some_iff] at hf
    obtain ⟨fl,h1,h2⟩:=hf
    exact ⟨fl,by simpa using h1,by cases h2;rfl,by cases h2;rfl⟩
  obtain ⟨fl,h1,h2,h3⟩:=hfl
  have hex:execOp a.eval o=(do let r ← Instr.fieldAt e (a.eval x) f;pure (.value r)):=by unfold execOp;rw [ho]
  rw [hex]
  refine dz_val ?_
  have key:∀ (ar:Addr) (R:Value→World→Prop),a.eval x = .pointer (some ar)→R (.pointer (some (ar.add off))) w→Dz P (EvOk N0 O) (Instr.fieldAt e (a.eval x) f) w R:=by
    intro ar R hx hR
    rw [hx]
    unfold Instr.fieldAt
    refine Dz.bind (Q:=fun r w'=>r = .struct fields∧w'=w) (Dz.underlying hd ⟨rfl,rfl⟩) ?_
    rintro r w' ⟨rfl,rfl⟩
    simp only [h1]
    refine Dz.bind (Q:=fun r w''=>r=ar∧w''=w') (Dz.pure ⟨rfl,rfl⟩) ?_
    rintro r w'' ⟨rfl,rfl⟩
    unfold fieldPlace
    rw [h3,h2]
    refine Dz.bind (Q:=fun z w'=>z=r.add off∧w'=w'') ?_ ?_
    · refine Dz.bind (Q:=fun n w'=>n=j.sz∧w'=w'') (Dz.sizeOf (hT _ _ hj) ⟨rfl,rfl⟩) ?_
      rintro n w' ⟨rfl,rfl⟩
      rw [if_neg hsz];exact Dz.pure ⟨rfl,rfl⟩
    · rintro z w' ⟨rfl,rfl⟩
      exact Dz.pure hR
  rcases hp with ⟨b,of,hx,hK⟩ | ⟨ad,hx,hK⟩
  · obtain ⟨e1,e2⟩:=ptOf_l tm hx
    exact key _ _ e1 (res_val M hK ⟨e2,by rw [add_none]⟩)
  · obtain ⟨ar,e1,e2⟩:=VR.ptr_add (ptOf_h tm hx) off
    exact key _ _ e1 (res_val M hK e2)
theorem dz_part (hT:∀ t i,T t=some i→TyOk P t i) {E:Event→Prop} {ty:Nat} {i:TyI} (hi:T ty=some i) (hk:i.k ≠ .other) {cs:List Value} {cr:Array Value} (hc:VRm s cs cr.toList) {off:Nat} {c:List Value} {v:Value} (hs:sub? cs off i.sz=some c) (hv:asV i c=some v) {Q:Value→World→Prop} (hQ:∀ r,VR s v r→Q r w) :
    Dz P E (part ty cr off) w Q:=by
  have ht:=hT _ _ hi
  obtain ⟨g1,rfl⟩:=sub_some hs
  have hl:cs.length=cr.size:=by simpa using hc.1.1
  unfold part
  refine Dz.bind (Q:=fun x w'=>x=i.agg∧w'=w) (Dz.isAgg ht hk ⟨rfl,rfl⟩) ?_
  rintro x w' ⟨rfl,rfl⟩
  cases ha:i.agg with
  | true =>
    refine Dz.bind (Q:=fun x w''=>x=i.sz∧w''=w') (Dz.sizeOf ht ⟨rfl,rfl⟩) ?_
    rintro x w'' ⟨rfl,rfl⟩
    refine Dz.pure (hQ _ (asV_ok hv ((hc.drop off).take i.sz) ?_))
    rw [ha]
    simp only [Value.agg.injEq]
    apply Array.ext'
    simp [List.extract_eq_take_drop]
  | false =>
    have h1:=ht.one ha
    have hlt:off < cr.size:=by omega
    rw [show cr[off]? = some cr[off] from Array.getElem?_eq_getElem hlt]
    refine Dz.pure (hQ _ (asV_ok hv ((hc.drop off).take i.sz) ?_))
    rw [ha]
    simp only []
    rw [h1,List.drop_eq_getElem_cons (by simpa using hlt)]
    simp
theorem VR.agg_inv {cs:Array Value} {z:Value} (h:VR s (.agg cs) z):∃ cr,z = .agg cr∧VRm s cs.toList cr.toList:=by
  cases h with
  | agg x y hs h h1=>exact ⟨y,rfl,⟨by simpa using hs,fun i v w a b=>h i v w (by simpa using a) (by simpa using b)⟩,fun w hw=>h1 w (by simpa using hw)⟩
theorem ok_field (hT:∀ t i,T t=some i→TyOk P t i) (M:Mem N0 lo s O Pr lb ls h w) (tm:TmOk s lb ls.length t a.tmps) {e f:Nat} {x:Operand} (ho:o.op = .field e x f) {fs:List (Nat×Nat)} {sz:Nat} {z:List Value} {q:Bool} (hi:T e=some ⟨.struct fs,sz,z,q⟩) {off e':Nat} (hf:fs[f]? = some (off,e')) {j:TyI} (hj:T e'=some j) (hk:j.k ≠ .other)
    {cs:Array Value} (hx:ev t x=some (.agg cs)) {c:List Value} {v:Value} (hs:sub? cs.toList off j.sz=some c) (hv:asV j c=some v) (hK:K (.v v) ls h):Dz P (EvOk N0 O) (execOp a.eval o) w (Res N0 lo s O Pr lb ls w K):=by
  obtain ⟨d,hd,hkd⟩:=(hT _ _ hi).kind
  cases d<;>simp [kOk] at hkd
  rename_i fields
  have hfl:∃ fl,fields[f]? = some fl∧fl.offset=off∧fl.type=e':=by
    rw [← hkd] at hf
    rw [List.getElem?_map,Option.map_eq_some_iff] at hf
    obtain ⟨fl,h1,h2⟩:=hf
    exact ⟨fl,by simpa using h1,by cases h2;rfl,by cases h2;rfl⟩
  obtain ⟨fl,h1,h2,h3⟩:=hfl
  obtain ⟨cr,hcr,hm⟩:=(ev_ok tm hx).agg_inv
  have hex:execOp a.eval o=(do let r ← Instr.field e (a.eval x) f;pure (.value r)):=by unfold execOp;rw [ho]
  rw [hex,hcr]
  refine dz_val ?_
  unfold Instr.field
  refine Dz.bind (Q:=fun r w'=>r = .struct fields∧w'=w) (Dz.underlying hd ⟨rfl,rfl⟩) ?_
  rintro r w' ⟨rfl,rfl⟩
  simp only [h1]
  refine Dz.bind (Q:=fun r w''=>r=cr∧w''=w') (Dz.pure ⟨rfl,rfl⟩) ?_
  rintro r w'' ⟨rfl,rfl⟩
  rw [h3,h2]
  exact dz_part hT hj hk hm hs hv fun r hr=>res_val M hK hr
theorem dz_intOf {E:Event→Prop} {k:IntKind} {n:Int} {Q:IntKind×Int→World→Prop} (h:Q (k,n) w):Dz P E (asIntOf (.int k n)) w Q:=Dz.pure h
theorem ok_indexAddr (hT:∀ t i,T t=some i→TyOk P t i) (M:Mem N0 lo s O Pr lb ls h w) (tm:TmOk s lb ls.length t a.tmps) {e:Nat} {x y:Operand} (ho:o.op = .indexAddr e x y) {k:IntKind} {n:Int} (hy:ev t y=some (.int k n)) {i:TyI} (hi:T e=some i)
    (hp:(∃ el s' ad m fl,i.k = .slice el∧T el=some s'∧evS t x=some (.v (.slice (some ad) m fl))∧0≤n∧n < m∧K (.v (.pointer (some (addA ad (n.toNat*s'.sz))))) ls h) ∨
      (∃ el s' m b of,i.k = .array m el∧T el=some s'∧evS t x=some (.l b of)∧0≤n∧n < (m:Int)∧K (.l b (of+n.toNat*s'.sz)) ls h) ∨
      (∃ el s' m ad,i.k = .array m el∧T el=some s'∧evS t x=some (.v (.pointer (some ad)))∧0≤n∧n < (m:Int)∧K (.v (.pointer (some (addA ad (n.toNat*s'.sz))))) ls h)) :
    Dz P (EvOk N0 O) (execOp a.eval o) w (Res N0 lo s O Pr lb ls w K):=by
  obtain ⟨d,hd,hkd⟩:=(hT _ _ hi).kind
  have hyv:=(ev_ok tm hy).int_inv
  have hex:execOp a.eval o=(do let r ← Instr.indexAt e (a.eval x) (a.eval y);pure (.value r)):=by unfold execOp;rw [ho]
  rw [hex,hyv]
  refine dz_val ?_
  unfold Instr.indexAt
  refine Dz.bind (Q:=fun r w'=>r=(k,n)∧w'=w) (dz_intOf ⟨rfl,rfl⟩) ?_
  rintro r w' ⟨rfl,rfl⟩
  rcases hp with ⟨el,s',ad,m,fl,hk,hs,hx,h0,h1,hK⟩ | ⟨el,s',m,b,of,hk,hs,hx,h0,h1,hK⟩ | ⟨el,s',m,ad,hk,hs,hx,h0,h1,hK⟩
  · rw [hk] at hkd
    cases d<;>simp [kOk] at hkd
    subst hkd
    have hv:VR s (.slice (some ad) m fl) (a.eval x):=evS_ok tm hx
    generalize a.eval x=z at hv ⊢
    cases hv with
    | sl id off sp m fl ar cap c ha he hh h0' hn =>
      simp only []
      refine Dz.bind (Q:=fun r w''=>r = .slice el∧w''=w') (Dz.underlying hd ⟨rfl,rfl⟩) ?_
      rintro r w'' ⟨rfl,rfl⟩
      refine Dz.bind (Q:=fun (r:Option Addr×Nat×TypeId) w'=>r=(some ar,m,el)∧w'=w'') (Dz.pure ⟨rfl,rfl⟩) ?_
      · rintro r w'' ⟨rfl,rfl⟩
        refine Dz.bind (Q:=fun r w₃=>r = .slice el∧w₃=w'') (Dz.underlying hd ⟨rfl,rfl⟩) ?_
        rintro r w₃ ⟨rfl,rfl⟩
        simp only []
        rw [if_pos ⟨h0,h1⟩]
        refine Dz.bind (Q:=fun r w₄=>r=s'.sz∧w₄=w₃) (Dz.sizeOf (hT _ _ hs) ⟨rfl,rfl⟩) ?_
        rintro r w₄ ⟨rfl,rfl⟩
        refine Dz.pure (res_val M hK (VR.ptr _ _ _ _ c ha he fun e => ?_))
        rw [(hh e).1 (.inl (by omega)),add_none,Nat.add_assoc]
  all_goals
    rw [hk] at hkd
    cases d<;>simp [kOk] at hkd
    obtain ⟨rfl,rfl⟩:=hkd
  · obtain ⟨e1,e2⟩:b < ls.length∧a.eval x=_:=evS_ok tm hx
    rw [e2]
    simp only []
    refine Dz.bind (Q:=fun r w''=>r = .array m el∧w''=w') (Dz.underlying hd ⟨rfl,rfl⟩) ?_
    rintro r w'' ⟨rfl,rfl⟩
    refine Dz.bind (Q:=fun r w'=>r=⟨lb b,of,none⟩∧w'=w'') (Dz.pure ⟨rfl,rfl⟩) ?_
    rintro r w'' ⟨rfl,rfl⟩
    refine Dz.bind (Q:=fun (z:Option Addr×Nat×TypeId) w'=>z=(some ⟨lb b,of,none⟩,m,el)∧w'=w'') (Dz.pure ⟨rfl,rfl⟩) ?_
    · rintro r w'' ⟨rfl,rfl⟩
      refine Dz.bind (Q:=fun r w₃=>r = .array m el∧w₃=w'') (Dz.underlying hd ⟨rfl,rfl⟩) ?_
      rintro r w₃ ⟨rfl,rfl⟩
      simp only []
      rw [if_pos ⟨h0,h1⟩]
      refine Dz.bind (Q:=fun r w₄=>r=s'.sz∧w₄=w₃) (Dz.sizeOf (hT _ _ hs) ⟨rfl,rfl⟩) ?_
      rintro r w₄ ⟨rfl,rfl⟩
      exact Dz.pure (res_val M hK ⟨e1,by rw [add_none]⟩)
  · obtain ⟨ar,e1,e2⟩:=VR.ptr_add (show VR s (.pointer (some ad)) (a.eval x) from evS_ok tm hx) (n.toNat*s'.sz)
    rw [e1]
    simp only []
    refine Dz.bind (Q:=fun r w''=>r = .array m el∧w''=w') (Dz.underlying hd ⟨rfl,rfl⟩) ?_
    rintro r w'' ⟨rfl,rfl⟩
    refine Dz.bind (Q:=fun r w'=>r=ar∧w'=w'') (Dz.pure ⟨rfl,rfl⟩) ?_
    rintro r w'' ⟨rfl,rfl⟩
    refine Dz.bind (Q:=fun (z:Option Addr×Nat×TypeId) w'=>z=(some r,m,el)∧w'=w'') (Dz.pure ⟨rfl,rfl⟩) ?_
    · rintro r w'' ⟨rfl,rfl⟩
      refine Dz.bind (Q:=fun r w₃=>r = .array m el∧w₃=w'') (Dz.underlying hd ⟨rfl,rfl⟩) ?_
      rintro r w₃ ⟨rfl,rfl⟩
      simp only []
      rw [if_pos ⟨h0,h1⟩]
      refine Dz.bind (Q:=fun r w₄=>r=s'.sz∧w₄=w₃) (Dz.sizeOf (hT _ _ hs) ⟨rfl,rfl⟩) ?_
      rintro r w₄ ⟨rfl,rfl⟩
      exact Dz.pure (res_val M hK e2)
end
end Go.Id
namespace Go.Id
open Go.Conc
set_option linter.unusedVariables false
section
variable {P:Program} {T:Nat→Option TyI} {N0:Nat→Prop} {lo:Nat} {s:Sim} {O Pr:Nat→Prop} {lb:Nat→Nat} {ls:Lv} {h:Hp} {w:World} {t:Tm} {a:Act} {o:Oper}
variable {K:Sl→Lv→Hp→Prop}
theorem ok_index (hT:∀ t i,T t=some i→TyOk P t i) (M:Mem N0 lo s O Pr lb ls h w) (tm:TmOk s lb ls.length t a.tmps) {e:Nat} {x y:Operand} (ho:o.op = .index e x y) {k:IntKind} {n:Int} (hy:ev t y=some (.int k n)) {i:TyI} (hi:T e=some i)
    (hp:(∃ el s' m cs c v,i.k = .array m el∧T el=some s'∧s'.k ≠ .other∧ev t x=some (.agg cs)∧0≤n∧n < (m:Int)∧sub? cs.toList (n.toNat*s'.sz) s'.sz=some c∧asV s' c=some v∧K (.v v) ls h) ∨
      (∃ str b,i.k = .str∧ev t x=some (.string str)∧0≤n∧str[n.toNat]? = some b∧K (.v (.int .u8 b.toNat)) ls h)):Dz P (EvOk N0 O) (execOp a.eval o) w (Res N0 lo s O Pr lb ls w K):=by
  obtain ⟨d,hd,hkd⟩:=(hT _ _ hi).kind
  have hyv:=(ev_ok tm hy).int_inv
  have hex:execOp a.eval o=(do let r ← Instr.index e (a.eval x) (a.eval y);pure (.value r)):=by unfold execOp;rw [ho]
  rw [hex,hyv]
  refine dz_val ?_
  unfold Instr.index
  refine Dz.bind (Q:=fun r w'=>r=(k,n)∧w'=w) (dz_intOf ⟨rfl,rfl⟩) ?_
  rintro r w' ⟨rfl,rfl⟩
  refine Dz.bind (Q:=fun r w''=>r=d∧w''=w') (Dz.underlying hd ⟨rfl,rfl⟩) ?_
  rintro r w'' ⟨rfl,rfl⟩
  rcases hp with ⟨el,s',m,cs,c,v,hk,hs,hk',hx,h0,h1,hsub,hv,hK⟩ | ⟨str,b,hk,hx,h0,hb,hK⟩
  · rw [hk] at hkd
    cases r<;>simp [kOk] at hkd
    obtain ⟨rfl,rfl⟩:=hkd
    obtain ⟨cr,hcr,hm⟩:=(ev_ok tm hx).agg_inv
    rw [hcr]
    simp only []
    rw [if_pos ⟨h0,h1⟩]
    refine Dz.bind (Q:=fun r w₄=>r=s'.sz∧w₄=w'') (Dz.sizeOf (hT _ _ hs) ⟨rfl,rfl⟩) ?_
    rintro r w₄ ⟨rfl,rfl⟩
    exact dz_part hT hs hk' hm hsub hv fun r hr=>res_val M hK hr
  · rw [hk] at hkd
    cases r<;>simp [kOk] at hkd
    rw [(ev_ok tm hx).str_inv]
    simp only []
    rw [if_pos h0,hb]
    exact Dz.pure (res_val M hK (VR.int _ _))
theorem ok_typeAssert (hT : ∀ t i, T t = some i → TyOk P t i) (M : Mem N0 lo s O Pr lb ls h w) (tm : TmOk s lb ls.length t a.tmps) {x : Operand} {xt ty : Nat} {ok : Bool} (ho : o.op = .typeAssert x xt ty ok) {i : TyI} (hi : T ty = some i) (hk : i.k ≠ .iface ∧ i.k ≠ .other) {ty' : Nat} {v : Value} (hx : ev t x = some (.iface ty' v))
    (hK : taP i (decide (ty' = ty)) ok v fun v => K (.v v) ls h) : Dz P (EvOk N0 O) (execOp a.eval o) w (Res N0 lo s O Pr lb ls w K) := by
  obtain ⟨d, hd, hkd⟩ := (hT _ _ hi).kind
  obtain ⟨info, hinfo, hsz, ⟨z, hz, hzc, hzz⟩, _⟩ := (hT _ _ hi).info
  have hv0 := ev_ok tm hx
  have hex : execOp a.eval o = (do let r ← Instr.typeAssert (a.eval x) xt ty ok; pure (.value r)) := by unfold execOp; rw [ho]
  rw [hex]
  refine dz_val ?_
  generalize a.eval x = zr at hv0 ⊢
  cases hv0 with
  | iface _ _ vr hv =>
  unfold Instr.typeAssert
  refine Dz.bind (Q := fun r w'' => r = d ∧ w'' = w) (Dz.underlying hd ⟨rfl, rfl⟩) ?_
  rintro r w'' ⟨rfl, rfl⟩
  have hni : ∀ ms, r ≠ .interface ms := by
    rintro ms rfl
    cases hk0 : i.k <;> rw [hk0] at hkd <;> simp [kOk] at hkd
    · exact hk.1 hk0
    · exact hk.2 hk0
  have tup : ∀ (p q : Value) (b : Bool), VR s p q → VR s (.tuple #[p, .bool b]) (.tuple #[q, .bool b]) := by
    intro p q b hpq
    refine .tup _ _ rfl fun i v w h1 h2 => ?_
    match i, h1, h2 with
    | 0, h1, h2 => simp at h1 h2; subst h1; subst h2; exact hpq
    | 1, h1, h2 => simp at h1 h2; subst h1; subst h2; exact VR.bool _
    | i + 2, h1, h2 => simp at h1
  cases r <;> first
    | exact absurd rfl (hni _)
    | (simp only []
       by_cases e : ty' = ty
       · simp only [e, decide_true, taP] at hK
         rw [if_pos e]
         cases ok
         · exact Dz.pure (res_val M hK hv)
         · exact Dz.pure (res_val M hK (tup _ _ _ hv))
       · simp only [e, decide_false, taP] at hK
         rw [if_neg e]
         cases ok
         · exact hK.elim
         · simp only [] at hK
           split at hK
           · rename_i zz hzz'
             refine Dz.bind (Q := fun r w' => r = z ∧ w' = w'') ?_ ?_
             · unfold Go.zeroValue
               refine Dz.bind (Q := fun p w' => p = info ∧ w' = w'') (Dz.typeInfo hinfo ⟨rfl, rfl⟩) ?_
               rintro p w' ⟨rfl, rfl⟩
               rw [hz]; exact Dz.pure ⟨rfl, rfl⟩
             · rintro r w' ⟨rfl, rfl⟩
               exact Dz.pure (res_val M hK (tup _ _ _ (asV_ok hzz' (VRm.of_plain s (hT _ _ hi).plain) hzz)))
           · exact hK.elim)
theorem ok_extract (M:Mem N0 lo s O Pr lb ls h w) (tm:TmOk s lb ls.length t a.tmps) {x:Operand} {k:Nat} (ho:o.op = .extract x k) {vs:Array Value} (hx:ev t x=some (.tuple vs)) {v:Value} (hk:vs[k]? = some v) (hK:K (.v v) ls h):Dz P (EvOk N0 O) (execOp a.eval o) w (Res N0 lo s O Pr lb ls w K):=by
  have hv0:=ev_ok tm hx
  have hex:execOp a.eval o=(do let r ← Instr.extract (a.eval x) k;pure (.value r)):=by unfold execOp;rw [ho]
  rw [hex]
  refine dz_val ?_
  generalize a.eval x=zr at hv0 ⊢
  cases hv0 with
  | tup _ y hs hh =>
    have hlt:k < y.size:=by have:=(Array.getElem?_eq_some_iff.1 hk).1;omega
    unfold Instr.extract
    simp only []
    rw [show y[k]? = some y[k] from Array.getElem?_eq_getElem hlt]
    exact Dz.pure (res_val M hK (hh k v _ hk (Array.getElem?_eq_getElem hlt)))
theorem dz_bound {E:Event→Prop} {k:IntKind} {n:Int} {y:Nat} {code:BoundsCode} {Q:Nat→World→Prop} (h0:0≤n) (h1:n≤y) (h:Q n.toNat w):Dz P E (Instr.sliceBound (.int k n) y code) w Q:=by
  unfold Instr.sliceBound
  refine Dz.bind (Q:=fun r w'=>r=(k,n)∧w'=w) (dz_intOf ⟨rfl,rfl⟩) ?_
  rintro r w' ⟨rfl,rfl⟩
  simp only []
  rw [if_pos ⟨h0,h1⟩]
  exact Dz.pure h
theorem dz_bounds (tm : TmOk s lb ls.length t a.tmps) {E : Event → Prop} {isS : Bool} {len cap : Nat} {lo hi : Option Operand} {l r : Int} (hl : ∀ o, lo = some o → ∃ k, ev t o = some (.int k l)) (hl0 : lo = none → l = 0) (hh : ∀ o, hi = some o → ∃ k, ev t o = some (.int k r)) (hh0 : hi = none → r = len) (h0 : 0 ≤ l) (h1 : l ≤ r) (h2 : r ≤ len) (hc : len ≤ cap)
    {Q : Nat × Nat × Nat → World → Prop} (h : Q (l.toNat, r.toNat, cap) w) : Dz P E (Instr.sliceBounds isS len cap (lo.map a.eval) (hi.map a.eval) none) w Q := by
  unfold Instr.sliceBounds
  refine Dz.bind (Q := fun m w' => m = cap ∧ w' = w) (Dz.pure ⟨rfl, rfl⟩) ?_
  rintro m w' ⟨rfl, rfl⟩
  have last' : ∀ (x : Nat), x = r.toNat → Dz P E (match lo.map a.eval with
        | some v => (do let l ← Instr.sliceBound v x (if (none : Option Value).isSome = true then BoundsCode.slice3C else BoundsCode.sliceB); pure (l, x, m))
        | none => (do let l ← pure 0; pure (l, x, m))) w' Q := by
    rintro x rfl
    cases lo with
    | none =>
      simp only [Option.map_none]
      refine Dz.bind (Q := fun y w'' => y = l.toNat ∧ w'' = w') (Dz.pure ⟨by have := hl0 rfl; omega, rfl⟩) ?_
      rintro y w₃ ⟨rfl, rfl⟩
      exact Dz.pure h
    | some o =>
      obtain ⟨k, hk⟩ := hl o rfl
      simp only [Option.map_some, (ev_ok tm hk).int_inv]
      refine Dz.bind (Q := fun y w'' => y = l.toNat ∧ w'' = w') (dz_bound h0 (by omega) ⟨rfl, rfl⟩) ?_
      rintro y w₃ ⟨rfl, rfl⟩
      exact Dz.pure h
  cases hi with
  | none =>
    simp only [Option.map_none]
    refine Dz.bind (Q := fun x w'' => x = r.toNat ∧ w'' = w') (Dz.pure ⟨by have := hh0 rfl; omega, rfl⟩) ?_
    rintro x w'' ⟨hx, rfl⟩
    exact last' x hx
  | some o =>
    obtain ⟨k, hk⟩ := hh o rfl
    simp only [Option.map_some, (ev_ok tm hk).int_inv]
    refine Dz.bind (Q := fun x w'' => x = r.toNat ∧ w'' = w') (dz_bound (by omega) (by omega) ⟨rfl, rfl⟩) ?_
    rintro x w'' ⟨hx, rfl⟩
    exact last' x hx
theorem bound_some {o:Option Operand} {d:Int} {K:Int→Prop} (h:bound t o d K):∃ n,K n∧(∀ x,o=some x→∃ k,ev t x=some (.int k n))∧(o=none→n=d):=by
  unfold bound at h
  split at h
  · exact ⟨d,h,fun x hx=>by (rename_i h';cases hx),fun _=>rfl⟩
  · split at h
    · exact ⟨_,h,fun x hx=>by (cases hx;exact ⟨_,‹_›⟩),fun hx=>by cases hx⟩
    · exact h.elim
theorem ok_slice (hT:∀ t i,T t=some i→TyOk P t i) (M:Mem N0 lo s O Pr lb ls h w) (tm:TmOk s lb ls.length t a.tmps) {ty:Nat} {x:Operand} {l r m:Option Operand} (ho:o.op = .slice ty x l r m) {v:Value} (hx:ev t x=some v) (hK:sliceP T t ty v l r m fun v=>K (.v v) ls h):Dz P (EvOk N0 O) (execOp a.eval o) w (Res N0 lo s O Pr lb ls w K):=by
  have hv0:=ev_ok tm hx
  have hex:execOp a.eval o=(do let z ← Instr.sliceAt ty (a.eval x) (l.map a.eval) (r.map a.eval) (m.map a.eval);pure (.value z)):=by unfold execOp;rw [ho]
  rw [hex]
  refine dz_val ?_
  generalize a.eval x=zr at hv0 ⊢
  unfold sliceP at hK
  split at hK
  ·
    rename_i el _ _ _ b n fl hi
    obtain ⟨d,hd,hkd⟩:=(hT _ _ hi).kind
    have hd':d = .slice el:=by cases d<;>simp [kOk] at hkd<;>simp [hkd]
    subst hd'
    split at hK
    · exact hK.elim
    rename_i i hie
    obtain ⟨p,hK1,hl1,hl2⟩:=bound_some hK
    obtain ⟨q,hK2,hr1,hr2⟩:=bound_some hK1
    obtain ⟨⟨b0,b1,b2⟩,hK3⟩:=hK2
    clear hK hK1
    have hlen:∃ br cap,zr = .slice br n cap∧n≤cap∧(b=none→br=none∧n=0):=by
      cases hv0 with
      | sl0=>exact ⟨none,0,rfl,Nat.le_refl _,fun _=>⟨rfl,rfl⟩⟩
      | sl id off sp n fl ar cap c ha he hh h0' hn=>exact ⟨some ar,cap,rfl,hn,fun e=>by cases e⟩
    obtain ⟨br,cap,rfl,hcap,hnone⟩:=hlen
    unfold Instr.sliceAt
    refine Dz.bind (Q:=fun z w'=>z = .slice el∧w'=w) (Dz.underlying hd ⟨rfl,rfl⟩) ?_
    rintro z w' ⟨rfl,rfl⟩
    simp only []
    unfold Instr.slice
    refine Dz.bind (Q:=fun z w''=>z = .slice el∧w''=w') (Dz.underlying hd ⟨rfl,rfl⟩) ?_
    rintro z w'' ⟨rfl,rfl⟩
    simp only []
    split at hK3
    ·
      simp only [Option.map_none]
      refine Dz.bind (Q:=fun z w'=>z=(p.toNat,q.toNat,cap)∧w'=w'') (dz_bounds tm hl1 hl2 hr1 hr2 b0 b1 b2 hcap ⟨rfl,rfl⟩) ?_
      rintro z w' ⟨rfl,rfl⟩
      refine Dz.bind (Q:=fun z w''=>z=i.sz∧w''=w') (Dz.sizeOf (hT _ _ hie) ⟨rfl,rfl⟩) ?_
      rintro z w'' ⟨rfl,rfl⟩
      refine Dz.pure ?_
      split at hK3
      · obtain ⟨rfl,rfl⟩:=hnone rfl
        have e1:p.toNat=0:=by omega
        have e2:q.toNat=0:=by omega
        have e3:cap=0:=by cases hv0;rfl
        simp only [Option.map_none,ite_self,e1,e2,e3]
        exact res_val M hK3 VR.sl0
      · rename_i ad
        cases hv0 with
        | sl id off sp n fl ar cap c ha he hh h0' hn =>
        unfold Cut at hK3
        rcases hK3 with ⟨hne,hK3⟩ | ⟨heq,hK3⟩
        · simp only [Option.map_some]
          rw [if_neg (by omega)]
          rw [show (q - p).toNat=q.toNat - p.toNat from by omega] at hK3
          refine res_val M hK3 (VR.sl id (off+p.toNat*i.sz) sp _ _ _ _ c ha he (fun e=>⟨fun _ => ?_,fun hf hoff => ?_⟩) (fun hf => ?_) (by omega))
          · rw [(hh e).1 (.inl (by omega)),add_none,Nat.add_assoc]
          · split at hf
            · rename_i hz
              have e1:p.toNat=0:=by omega
              rw [e1,Nat.sub_zero]
              exact (hh e).2 hz.2 (by omega)
            · omega
          · split at hf<;>omega
        · have hz:q.toNat - p.toNat=0:=by omega
          rw [hz]
          have:∃ ar',(if cap=p.toNat then some ar else Option.map (fun x=>x.add (p.toNat*i.sz)) (some ar))=some ar'∧(p.toNat=0→ar=⟨c.b,c.o+off,none⟩→ar'=ar):=by
            split
            · exact ⟨_,rfl,fun _ _=>rfl⟩
            · exact ⟨_,rfl,fun e1 e2=>by rw [e1,e2,Nat.zero_mul];show Addr.add _ 0=_;rw [add_none,Nat.add_zero]⟩
          obtain ⟨ar',har,hz'⟩:=this
          rw [har]
          refine res_val M hK3 (VR.sl id off sp 0 _ ar' _ c ha he (fun e=>⟨fun hx => ?_,fun hf hoff => ?_⟩) (fun hf => ?_) (by omega))
          · split at hx
            · rename_i hz2
              have e2:=(hh e).1 (.inr hz2.2)
              rw [hz' (by omega) e2,e2]
            · omega
          · split at hf
            · rename_i hz2
              have e1:p.toNat=0:=by omega
              rw [e1,Nat.sub_zero]
              exact (hh e).2 hz2.2 hoff
            · omega
          · split at hf<;>omega
    ·
      rename_i mo
      split at hK3
      · rename_i ro k mm hmo
        obtain ⟨e1,e2,hK4⟩:=hK3
        subst e1;subst e2
        have ep:p=0:=by omega
        subst ep
        have hb:Dz P (EvOk N0 O) (Instr.sliceBounds true n cap (l.map a.eval) ((some ro).map a.eval) ((some mo).map a.eval)) w'' fun z w'=>z=(0,0,0)∧w'=w'':=by
          unfold Instr.sliceBounds
          simp only [Option.map_some,(ev_ok tm hmo).int_inv]
          refine Dz.bind (Q:=fun z w'=>z=0∧w'=w'') (dz_bound (by omega) (by omega) ⟨rfl,rfl⟩) ?_
          rintro z w' ⟨rfl,rfl⟩
          refine Dz.bind (Q:=fun z w''=>z=0∧w''=w') ?_ ?_
          · obtain ⟨k',hk'⟩:=hr1 ro rfl
            simp only [(ev_ok tm hk').int_inv]
            exact dz_bound (by omega) (by omega) ⟨rfl,rfl⟩
          · rintro z w₃ ⟨rfl,rfl⟩
            cases l with
            | none =>
              simp only [Option.map_none]
              refine Dz.bind (Q:=fun z w''=>z=0∧w''=w₃) (Dz.pure ⟨rfl,rfl⟩) ?_
              rintro z w₄ ⟨rfl,rfl⟩
              exact Dz.pure ⟨rfl,rfl⟩
            | some lo' =>
              obtain ⟨k',hk'⟩:=hl1 lo' rfl
              simp only [Option.map_some,(ev_ok tm hk').int_inv]
              refine Dz.bind (Q:=fun z w''=>z=0∧w''=w₃) (dz_bound (by omega) (by omega) ⟨rfl,rfl⟩) ?_
              rintro z w₄ ⟨rfl,rfl⟩
              exact Dz.pure ⟨rfl,rfl⟩
        refine Dz.bind hb ?_
        rintro z w' ⟨rfl,rfl⟩
        refine Dz.bind (Q:=fun z w''=>z=i.sz∧w''=w') (Dz.sizeOf (hT _ _ hie) ⟨rfl,rfl⟩) ?_
        rintro z w'' ⟨rfl,rfl⟩
        refine Dz.pure ?_
        simp only [if_true,Nat.sub_zero]
        split at hK4
        · obtain ⟨rfl,rfl⟩:=hnone rfl
          exact res_val M hK4 VR.sl0
        · cases hv0 with
          | sl id off sp n fl ar cap c ha he hh h0' hn =>
          exact res_val M hK4 (VR.sl id off sp 0 0 ar 0 c ha he (fun e=>⟨fun hx=>by omega,fun hx=>by omega⟩) (fun _=>rfl) (Nat.le_refl _))
      · exact hK3.elim
  ·
    rename_i _ _ _ str hi
    obtain ⟨d,hd,hkd⟩:=(hT _ _ hi).kind
    cases d<;>simp [kOk] at hkd
    obtain ⟨p,hK1,hl1,hl2⟩:=bound_some hK
    obtain ⟨q,hK2,hr1,hr2⟩:=bound_some hK1
    obtain ⟨⟨b0,b1,b2⟩,rfl,hK3⟩:=hK2
    obtain rfl:=hv0.str_inv
    unfold Instr.sliceAt
    refine Dz.bind (Q:=fun z w'=>z = .string∧w'=w) (Dz.underlying hd ⟨rfl,rfl⟩) ?_
    rintro z w' ⟨rfl,rfl⟩
    simp only []
    unfold Instr.slice
    refine Dz.bind (Q:=fun z w''=>z = .string∧w''=w') (Dz.underlying hd ⟨rfl,rfl⟩) ?_
    rintro z w'' ⟨rfl,rfl⟩
    simp only [Option.map_none,Option.isSome_none,Bool.false_eq_true,if_false]
    refine Dz.bind (Q:=fun z w'=>z=(p.toNat,q.toNat,str.size)∧w'=w'') (dz_bounds tm hl1 hl2 hr1 hr2 b0 b1 b2 (Nat.le_refl _) ⟨rfl,rfl⟩) ?_
    rintro z w' ⟨rfl,rfl⟩
    exact Dz.pure (res_val M hK3 (VR.str _))
  · exact hK.elim
end
end Go.Id
namespace Go.Id
open Go.Conc
set_option linter.unusedVariables false
theorem zeros_get (z:List Value):∀ (c k:Nat),k < c*z.length→(zeros z c)[k]? = z[k % z.length]?
  | 0,k,h=>by simp at h
  | c+1,k,h=>by
    rw [zeros,List.getElem?_append]
    split
    · rw [Nat.mod_eq_of_lt ‹_›]
    · rw [zeros_get z c (k - z.length) (by rw [Nat.add_mul,Nat.one_mul] at h;omega),← Nat.mod_eq_sub_mod (by omega)]
theorem zeros_length (z:List Value):∀ (c:Nat),(zeros z c).length=c*z.length
  | 0=>by simp [zeros]
  | c+1=>by rw [zeros,List.length_append,zeros_length z c,Nat.add_mul];omega
theorem zeros_mem {z:List Value} {v:Value}:∀ {c:Nat},v∈zeros z c→v∈z
  | 0,h=>by simp [zeros] at h
  | c+1,h=>by rw [zeros,List.mem_append] at h;exact h.elim id zeros_mem
theorem zeros_arr (z:Array Value) (c:Nat) (hz:z.size≠0):((Array.range (c*z.size)).map (fun k=>z[k % z.size]!)).toList=zeros z.toList c:=by
  apply List.ext_getElem?
  intro k
  by_cases hk:k < c*z.size
  · have hm:k % z.size < z.size:=Nat.mod_lt _ (by omega)
    rw [zeros_get z.toList c k (by simpa using hk)]
    simp only [Array.toList_map,Array.toList_range,List.getElem?_map,List.getElem?_range hk,Option.map_some]
    rw [getElem!_pos z _ hm]
    simp [hm]
  · rw [List.getElem?_eq_none (by simp;omega),List.getElem?_eq_none (by rw [zeros_length];simp;omega)]
theorem zeros_take (z:List Value):∀ (c n:Nat),n≤c→(zeros z c).take (n*z.length)=zeros z n
  | c,0,_=>by simp [zeros]
  | 0,n+1,h=>by omega
  | c+1,n+1,h=>by
    rw [zeros,zeros,Nat.add_mul,Nat.one_mul,Nat.add_comm,List.take_length_add_append,zeros_take z c n (by omega)]
section
variable {P:Program} {T:Nat→Option TyI} {N0:Nat→Prop} {lo:Nat} {s:Sim} {O Pr:Nat→Prop} {lb:Nat→Nat} {ls:Lv} {h:Hp} {w:World} {t:Tm} {a:Act} {o:Oper}
variable {K:Sl→Lv→Hp→Prop}
theorem Dz.askRoom {n:Nat} {Q:Unit→World→Prop} (h:Q () w):Dz P (EvOk N0 O) (Go.askRoom n) w Q:=by
  unfold Go.askRoom
  split
  · refine ⟨(),w,rfl,h,fun es hes e he => ?_⟩
    rw [events_mark,Array.mem_push] at he
    rcases he with he | rfl
    · exact hes e he
    · trivial
  · exact Dz.pure h
theorem Dz.choose {E:Event→Prop} {q:Question} (hq:q.forced=false) {Q:Nat→World→Prop} (h:∀ t,Q (q.cut t) { w with drawn:=w.drawn+1 }):Dz P E (Go.choose q) w Q:=by
  refine ⟨q.cut (w.tape w.drawn q),{ w with drawn:=w.drawn+1 },?_,h _,fun es hes=>by simpa using hes⟩
  simp [Go.choose,Sem.run,hq]
theorem VR.new {s:Sim} {id n cap:Nat} {b:Nat} (hn:n≤cap):VR (s.up id ⟨b,0,cap⟩ 0) (.slice (some ⟨id,0,some 0⟩) n 1) (.slice (some ⟨b,0,none⟩) n cap) :=
  .sl _ _ _ _ _ _ _ _ (up_adr _ _ _ _).1 (by simp [epOf,(up_adr s id _ _).2]) (fun _=>⟨fun _=>rfl,fun _ _=>rfl⟩) (fun h=>by omega) hn
theorem dz_asInt {E:Event→Prop} {k:IntKind} {n:Int} {Q:Int→World→Prop} (h:Q n w):Dz P E (asInt (.int k n)) w Q:=by
  unfold asInt
  refine Dz.bind (Q:=fun r w'=>r=(k,n)∧w'=w) (dz_intOf ⟨rfl,rfl⟩) ?_
  rintro r w' ⟨rfl,rfl⟩
  exact Dz.pure h
theorem wrap_small {n:Int} (h0:0≤n) (h1:n≤4294967296):IntKind.i64.wrap n=n:=by
  have e:n % 2 ^ 64=n:=Int.emod_eq_of_lt h0 (by omega)
  simp only [IntKind.wrap,IntKind.bits,IntKind.signed,e]
  rw [if_neg (by simp;omega)]
theorem ok_makeSlice (hT:∀ t i,T t=some i→TyOk P t i) (M:Mem N0 lo s O Pr lb ls h w) (tm:TmOk s lb ls.length t a.tmps) {ty:Nat} {x y:Operand} (ho:o.op = .makeSlice ty x y) {e sz:Nat} {z:List Value} {q:Bool} (hi:T ty=some ⟨.slice e,sz,z,q⟩) {n m:Int} (hx:ev t x=some (.int .i64 n)) (hy:ev t y=some (.int .i64 m))
    {i:TyI} (hie:T e=some i) (hsz:i.sz≠0) (h0:0≤n) (h1:n≤m) (h2:m≤maxLen) (hK:K (.v (.slice (some ⟨h.n,0,some 0⟩) n.toNat 1)) ls (h.push (.cells (zeros i.zero n.toNat) i.sz 0))):Dz P (EvOk N0 O) (execOp a.eval o) w (Res N0 lo s O Pr lb ls w K):=by
  obtain ⟨d,hd,hkd⟩:=(hT _ _ hi).kind
  have hd':d = .slice e:=by cases d<;>simp [kOk] at hkd<;>simp [hkd]
  subst hd'
  have ht:=hT _ _ hie
  obtain ⟨info,hinfo,hsz',⟨zv,hz,hzc,_⟩,hby⟩:=ht.info
  have hex:execOp a.eval o=(do let z ← Instr.makeSlice ty (a.eval x) (a.eval y);pure (.value z)):=by unfold execOp;rw [ho]
  rw [hex,(ev_ok tm hx).int_inv,(ev_ok tm hy).int_inv]
  refine dz_val ?_
  have hml:(maxLen:Int)=2147483648:=rfl
  have wn:IntKind.i64.wrap n=n:=wrap_small h0 (by omega)
  have wm:IntKind.i64.wrap m=m:=wrap_small (by omega) (by omega)
  unfold Instr.makeSlice
  refine Dz.bind (Q:=fun z w'=>z = .slice e∧w'=w) (Dz.underlying hd ⟨rfl,rfl⟩) ?_
  rintro _ w' ⟨rfl,rfl⟩
  simp only []
  refine Dz.bind (Q:=fun z w''=>n=z∧w''=w') (dz_asInt ⟨rfl,rfl⟩) ?_
  rintro _ w'' ⟨rfl,rfl⟩
  refine Dz.bind (Q:=fun z w'=>m=z∧w'=w'') (dz_asInt ⟨rfl,rfl⟩) ?_
  rintro _ w' ⟨rfl,rfl⟩
  refine Dz.bind (Q:=fun z w''=>info=z∧w''=w') (Dz.typeInfo hinfo ⟨rfl,rfl⟩) ?_
  rintro _ w'' ⟨rfl,rfl⟩
  simp only [wn,wm]
  have hbound:(info.bytes:Int)*m≤4096*2147483648:=Int.mul_le_mul (by omega) (by omega) (by omega) (by omega)
  rw [if_neg (by simp;omega)]
  refine Dz.bind (Q:=fun _ w'=>w'=w'') (Dz.askRoom rfl) ?_
  rintro _ w' rfl
  refine Dz.bind (Q:=fun z w''=>z=i.sz∧w''=w') (Dz.sizeOf ht ⟨rfl,rfl⟩) ?_
  rintro _ w'' ⟨rfl,rfl⟩
  have hlen:i.zero.length=i.sz:=ht.size
  have fin:∀ (Q:Value→World→Prop),Q (.slice (some ⟨w''.heap.size,0,none⟩) n.toNat m.toNat) { w'' with heap:=w''.heap.push (.cells (zeros i.zero m.toNat).toArray e (0,0)) } →
      Dz P (EvOk N0 O) (do let a ← newRow e (zeros i.zero m.toNat).toArray;pure (.slice (some a) n.toNat m.toNat)) w'' Q:=by
    intro Q hQ
    refine Dz.bind (Q:=fun ad w'=>ad=⟨w''.heap.size,0,none⟩∧w'={ w'' with heap:=w''.heap.push (.cells (zeros i.zero m.toNat).toArray e (0,0)) }) (Dz.newRow ⟨rfl,rfl⟩) ?_
    rintro ad w' ⟨rfl,rfl⟩
    exact Dz.pure hQ
  have done_:Res N0 lo s O Pr lb ls w'' K (.value (.slice (some ⟨w''.heap.size,0,none⟩) n.toNat m.toNat)) { w'' with heap:=w''.heap.push (.cells (zeros i.zero m.toNat).toArray e (0,0)) }:=by
    refine ⟨_,.inl rfl,_,lb,.v _,ls,_,hK,out_newObj M (cap:=m.toNat) (rc:=(zeros i.zero m.toNat).toArray) (ty:=e) rfl rfl rfl ?_ ?_ ?_,VR.new (by omega)⟩
    · rw [zeros_length,zeros_take _ _ _ (by omega)]
      exact VRm.of_plain _ fun v hv=>ht.plain v (zeros_mem hv)
    · simp only [List.size_toArray,zeros_length];exact Nat.mul_le_mul_right _ (by omega)
    · intro _;simp only [List.size_toArray,zeros_length,hlen]
  by_cases hm0:m.toNat*i.sz=0
  · rw [if_pos hm0]
    have hmz:m.toNat=0:=by rcases Nat.mul_eq_zero.1 hm0 with h | h;exact h;exact absurd h hsz
    refine Dz.bind (Q:=fun z w'=>z=#[]∧w'=w'') (Dz.pure ⟨rfl,rfl⟩) ?_
    rintro _ w' ⟨rfl,rfl⟩
    rw [hmz] at fin done_ ⊢
    rw [Nat.zero_mul,show Array.map (fun x=>(#[]:Array Value)[x % (#[]:Array Value).size]!) (Array.range 0)=(zeros i.zero 0).toArray from by simp [zeros]]
    exact fin (fun v w''=>Res N0 lo s O Pr lb ls w' K (.value v) w'') done_
  · rw [if_neg hm0]
    refine Dz.bind (Q:=fun z w'=>z.cells=i.zero.toArray∧w'=w'') (Dz.zeroValue ht fun z hz=>⟨hz,rfl⟩) ?_
    rintro z' w₅ ⟨hz',rfl⟩
    rw [hz']
    refine Dz.bind (Q:=fun z w'=>z=i.zero.toArray∧w'=w₅) (Dz.pure ⟨rfl,rfl⟩) ?_
    · rintro _ w' ⟨rfl,rfl⟩
      have:(Array.map (fun x=>i.zero.toArray[x % i.zero.toArray.size]!) (Array.range (m.toNat*i.sz)))=(zeros i.zero m.toNat).toArray:=by
        apply Array.ext'
        have:=zeros_arr i.zero.toArray m.toNat (by rw [List.size_toArray,hlen];exact hsz)
        simp only [List.size_toArray,hlen] at this ⊢
        simpa using this
      rw [this]
      exact fin (fun v w''=>Res N0 lo s O Pr lb ls w' K (.value v) w'') done_
theorem ok_buildSlice (hT:∀ t i,T t=some i→TyOk P t i) (M:Mem N0 lo s O Pr lb ls h w) (tm:TmOk s lb ls.length t a.tmps) {ty n:Nat} {ps:Array (Nat×Operand)} (ho:o.op = .buildSlice ty n ps) {e sz:Nat} {z:List Value} {q:Bool} (hi:T ty=some ⟨.slice e,sz,z,q⟩) {vs:List (Nat×Value)} (hps:partsV t ps.toList=some vs)
    {i:TyI} (hie:T e=some i) (hn:n*i.sz≤1000) (hsz:i.sz≠0) {c:List Value} (hf:fillL (fun j=>some (j*i.sz,i.sz)) (zeros i.zero n) vs=some c) (hcl:c.length=n*i.sz) (hK:K (.v (.slice (some ⟨h.n,0,some 0⟩) n 1)) ls (h.push (.cells c i.sz 0))) :
    Dz P (EvOk N0 O) (execOp a.eval o) w (Res N0 lo s O Pr lb ls w K):=by
  obtain ⟨d,hd,hkd⟩:=(hT _ _ hi).kind
  have hd':d = .slice e:=by cases d<;>simp [kOk] at hkd<;>simp [hkd]
  subst hd'
  have ht:=hT _ _ hie
  have hlen:i.zero.length=i.sz:=ht.size
  have hR:=partsV_ok tm ps.toList vs hps
  have hex:execOp a.eval o=(do let v ← Instr.buildSlice ty n (ps.map fun x=>(x.1,a.eval x.2));pure (.value v)):=by unfold execOp;rw [ho]
  rw [hex]
  refine dz_val ?_
  unfold Instr.buildSlice
  refine Dz.bind (Q:=fun z w'=>z = .slice e∧w'=w) (Dz.underlying hd ⟨rfl,rfl⟩) ?_
  rintro _ w' ⟨rfl,rfl⟩
  simp only []
  refine Dz.bind (Q:=fun z w''=>z=i.sz∧w''=w') (Dz.sizeOf ht ⟨rfl,rfl⟩) ?_
  rintro _ w'' ⟨rfl,rfl⟩
  rw [if_neg (by have:(2:Nat) ^ 24=16777216:=rfl;omega)]
  have fin:∀ (rz:Array Value),VRm s (zeros i.zero n) rz.toList→Dz P (EvOk N0 O) (do
      let some cells:=Instr.fill (fun k=>some (k*i.sz,i.sz)) rz (ps.map fun x=>(x.1,a.eval x.2)).toList | stuck "buildSlice: a part of the wrong size"
      pure (.slice (some (← newRow e cells)) n n)) w'' fun v w'=>Res N0 lo s O Pr lb ls w'' K (.value v) w':=by
    intro rz hrz
    obtain ⟨rc,h1,h2⟩:=fill_ok (s:=s) (pl':=fun k=>some (k*i.sz,i.sz)) (fun k x hx=>hx) vs _ _ c rz hR hrz hf
    rw [Array.toList_map,h1]
    simp only []
    refine Dz.bind (Q:=fun ad w'=>ad=⟨w''.heap.size,0,none⟩∧w'={ w'' with heap:=w''.heap.push (.cells rc e (0,0)) }) (Dz.newRow ⟨rfl,rfl⟩) ?_
    rintro ad w' ⟨rfl,rfl⟩
    have hrl:c.length=rc.size:=by simpa using h2.1.1
    refine Dz.pure ⟨_,.inl rfl,_,lb,.v _,ls,_,hK,out_newObj M (cap:=n) (rc:=rc) (ty:=e) rfl rfl rfl ?_ (by omega) (by omega),VR.new (Nat.le_refl _)⟩
    rw [List.take_of_length_le (by simp;omega)]
    exact h2.mono (up_new M _ _)
  by_cases hm0:n*i.sz=0
  · rw [if_pos hm0]
    have hmz:n=0:=by rcases Nat.mul_eq_zero.1 hm0 with h | h;exact h;exact absurd h hsz
    refine Dz.bind (Q:=fun z w'=>z=#[]∧w'=w'') (Dz.pure ⟨rfl,rfl⟩) ?_
    rintro _ w' ⟨rfl,rfl⟩
    have hr0:(Array.map (fun x=>(#[]:Array Value)[x % (#[]:Array Value).size]!) (Array.range (n*i.sz)))=#[]:=by rw [hm0];simp
    rw [hr0]
    exact fin #[] (by rw [hmz];exact VRm.nil s)
  · rw [if_neg hm0]
    refine Dz.bind (Q:=fun z w'=>z.cells=i.zero.toArray∧w'=w'') (Dz.zeroValue ht fun z hz=>⟨hz,rfl⟩) ?_
    rintro z' w₅ ⟨hz',rfl⟩
    rw [hz']
    refine Dz.bind (Q:=fun z w'=>z=i.zero.toArray∧w'=w₅) (Dz.pure ⟨rfl,rfl⟩) ?_
    · rintro _ w' ⟨rfl,rfl⟩
      have:(Array.map (fun x=>i.zero.toArray[x % i.zero.toArray.size]!) (Array.range (n*i.sz)))=(zeros i.zero n).toArray:=by
        apply Array.ext'
        have:=zeros_arr i.zero.toArray n (by rw [List.size_toArray,hlen];exact hsz)
        simp only [List.size_toArray,hlen] at this ⊢
        simpa using this
      rw [this]
      exact fin _ (by simpa using VRm.of_plain s fun v hv=>ht.plain v (zeros_mem hv))
end
end Go.Id
namespace Go.Id
open Go.Conc
set_option linter.unusedVariables false
theorem fillL_length {pl:Nat→Option (Nat×Nat)}:∀ (vs:List (Nat×Value)) (c c':List Value),fillL pl c vs=some c'→c'.length=c.length
  | [],c,c',h=>by cases h;rfl
  | (i,v)::vs,c,c',h=>by
    unfold fillL at h
    split at h
    · cases h
    · split at h
      · rw [fillL_length vs _ _ h,setL_length]
      · cases h
theorem growBy_le (n:Nat):∀ (r c:Nat),c < n→n≤2147483648→Builtin.growBy n r c≤2*n+1000
  | 0,c,h,_=>by unfold Builtin.growBy;omega
  | r+1,c,h,hn=>by
    unfold Builtin.growBy
    rw [if_neg (by omega)]
    by_cases h':c+(c+768) / 4 < n
    · exact growBy_le n r _ h' hn
    · cases r with
      | zero=>unfold Builtin.growBy;omega
      | succ r=>unfold Builtin.growBy;rw [if_pos (by omega)];omega
theorem nextcap_le {n c:Nat} (h:c < n) (hn:n≤2147483648):Builtin.nextslicecap n c≤2*n+1000:=by
  unfold Builtin.nextslicecap
  split
  · omega
  · split
    · omega
    · exact growBy_le n 4 c h hn
theorem setL_app:∀ (vs c:List Value) (o:Nat),o+vs.length≤c.length→(setL c o vs).take (o+vs.length)=c.take o++vs
  | [],c,o,_=>by simp [setL]
  | v::vs,c,o,h=>by
    simp only [List.length_cons] at h
    rw [setL,show o+(v::vs).length=(o+1)+vs.length from by simp;omega,setL_app vs _ (o+1) (by simp;omega)]
    rw [List.take_set,List.take_add_one,List.getElem?_eq_getElem (by omega)]
    simp only [Option.toList_some]
    rw [List.set_append_right _ _ (by simp;omega)]
    simp [Nat.min_eq_left (show o≤c.length by omega)]
section
variable {P:Program} {T:Nat→Option TyI} {N0:Nat→Prop} {lo:Nat} {s:Sim} {O Pr:Nat→Prop} {lb:Nat→Nat} {ls:Lv} {h:Hp} {w:World} {t:Tm} {a:Act} {o:Oper}
variable {K:Sl→Lv→Hp→Prop}
def lenIs (v:Value) (m:Nat):Prop:=match v with | .slice _ n _=>n=m | _=>False
theorem dz_firstCells (S:SimOk N0 lo s O h w) {v vr:Value} (hv:VR s v vr) {sz m:Nat} {xs:List Value} (hm:lenIs v m) (hs:SlCells h v sz xs) {w₁:World} (hw:w₁.heap=w.heap) :
    Dz P (EvOk N0 O) (Builtin.firstCells sz m vr) w₁ fun r w'=>w'=w₁∧VRm s xs r.toList:=by
  cases hv with
  | sl0 =>
    simp only [lenIs] at hm;subst hm
    simp only [SlCells] at hs;subst hs
    exact Dz.pure ⟨rfl,VRm.nil s⟩
  | sl id off sp n fl ar cap c ha he hh h0 hn =>
    simp only [lenIs] at hm;subst hm
    simp only [SlCells] at hs
    unfold Builtin.firstCells
    simp only []
    by_cases hz:n=0
    · rw [if_pos hz] at hs
      subst hz;subst hs
      rw [Nat.zero_mul]
      exact Dz.pure ⟨rfl,VRm.nil s⟩
    · rw [if_neg hz] at hs
      obtain ⟨cs,sz',h2,h3⟩:=hs
      obtain ⟨c1,c2,cs',sz'',c3,ys,c4,c5⟩:=S.cells id c ha
      simp only at h2 h3
      have e0:=c3.symm.trans h2
      injection e0 with e1 e2 e3
      subst e1;subst e2
      have e4:=(hh e3.symm).1 (.inl hz)
      subst e4
      obtain ⟨g1,rfl⟩:=sub_some h3
      have hl:=c4.1.1
      have hh':Holds w₁ c.b (c.o+off) (ys.drop off):=(c5.shift off).of_heap (by rw [hw])
      refine (Dz.loadCells hh' (fun k=>⟨rfl,S.bl ha⟩) (by simp;omega)).mono ?_
      rintro r w' ⟨rfl,rfl⟩
      exact ⟨rfl,by simpa using (c4.drop off).take _⟩
  | _=>exact hm.elim
theorem dz_grow (hT:∀ t i,T t=some i→TyOk P t i) (S:SimOk N0 lo s O h w) {e:Nat} {i:TyI} (hie:T e=some i) {x y xr yr:Value} {n m cap:Nat} {cs xs:List Value} (hx:VR s x xr) (hxn:lenIs x n) (hxc:SlCells h x i.sz cs) (hy:VR s y yr) (hyn:lenIs y m) (hyc:SlCells h y i.sz xs)
    (hcl:cs.length=n*i.sz) (hxl:xs.length=m*i.sz) (hlt:cap < n+m) (hmax:n+m≤maxLen) {Q:Value→World→Prop}
    (hQ:∀ (d newCap:Nat) (rc:Array Value),n+m≤newCap→rc.size=newCap*i.sz→VRm s (cs++xs) (rc.toList.take (cs++xs).length) →
      Q (.slice (some ⟨w.heap.size,0,none⟩) (n+m) newCap) { w with heap:=w.heap.push (.cells rc e (0,0)),drawn:=d }) :
    Dz P (EvOk N0 O) (do
      let newCap ← choose (.appendCap (n+m) cap e)
      askRoom (newCap*(← typeInfo e).bytes)
      let old ← Builtin.firstCells i.sz n xr
      let new ← Builtin.firstCells i.sz m yr
      let rest:=Builtin.zeroCells (← zeroValue e).cells (newCap - (n+m))
      pure (.slice (some (← newRow e (old++new++rest))) (n+m) newCap)) w Q:=by
  have ht:=hT _ _ hie
  obtain ⟨info,hinfo,hsz',⟨zv,hz,hzc,_⟩,hby⟩:=ht.info
  refine Dz.bind (Q:=fun k w'=>n+m≤k∧w'={ w with drawn:=w.drawn+1 }) (Dz.choose rfl fun tt=>⟨by simp only [Question.cut];omega,rfl⟩) ?_
  rintro newCap w' ⟨hcap,rfl⟩
  refine Dz.bind (Q:=fun k w'=>info=k∧w'={ w with drawn:=w.drawn+1 }) (Dz.typeInfo hinfo ⟨rfl,rfl⟩) ?_
  rintro _ w' ⟨rfl,rfl⟩
  refine Dz.bind (Q:=fun _ w'=>w'={ w with drawn:=w.drawn+1 }) (Dz.askRoom rfl) ?_
  rintro _ w' rfl
  refine Dz.bind (dz_firstCells S hx hxn hxc rfl) ?_
  rintro old w' ⟨rfl,hold⟩
  refine Dz.bind (dz_firstCells S hy hyn hyc rfl) ?_
  rintro new w' ⟨rfl,hnew⟩
  refine Dz.bind (Q:=fun z w'=>z.cells=i.zero.toArray∧w'={ w with drawn:=w.drawn+1 }) (Dz.zeroValue ht fun z hz=>⟨hz,rfl⟩) ?_
  rintro z w' ⟨hz,rfl⟩
  rw [hz]
  refine Dz.bind (Q:=fun ad w'=>ad=⟨w.heap.size,0,none⟩∧w'={ w with heap:=w.heap.push (.cells (old++new++Builtin.zeroCells i.zero.toArray (newCap - (n+m))) e (0,0)),drawn:=w.drawn+1 }) (Dz.newRow ⟨rfl,rfl⟩) ?_
  rintro ad w' ⟨rfl,rfl⟩
  have h1:old.size=n*i.sz:=by have:=hold.1.1;simp at this;omega
  have h2:new.size=m*i.sz:=by have:=hnew.1.1;simp at this;omega
  refine Dz.pure (hQ _ newCap _ hcap ?_ ?_)
  · simp only [Array.size_append,h1,h2,Builtin.zeroCells,Array.size_map,Array.size_range,List.size_toArray,ht.size]
    rw [← Nat.add_mul,← Nat.add_mul];congr 1;omega
  · rw [Array.toList_append,List.take_append_of_le_length (by simp;omega),List.take_of_length_le (by simp;omega),Array.toList_append]
    exact hold.app hnew
set_option maxHeartbeats 1000000 in
theorem append_room (hT:∀ t i,T t=some i→TyOk P t i) (M:Mem N0 lo s O Pr lb ls h w) {e:Nat} {i:TyI} (hie:T e=some i) (hsz:i.sz≠0) {id n m yc:Nat} {sp yb:Option _} {cel:Cel} {y:Value} {xs:List Value} (hy:VR s y (.slice yb m yc)) (hym:lenIs y m) (hxs:SlCells h y i.sz xs) (hxl:xs.length=m*i.sz)
    (ha:s.adr id=some cel) (he:epOf sp≤s.ep id) (e3:s.ep id=epOf sp) (hn:n≤cel.cap) (hmax:n+m≤maxLen) (hlo:lo≤id) (hlt:id < h.n) {cs' ys:List Value} (hg:h.g id = .cells cs' i.sz (epOf sp)) (hnc:n*i.sz≤cs'.length) (c4:VRm s cs' ys) (c5:Holds w cel.b cel.o ys)
    (d1:O cel.b) (d2:cel.o=0) {rc:Array Value} {bty:TypeId} (d3:w.heap[cel.b]? = some (.cells rc bty (0,0))) (d5:cs'.length≤rc.size) (hrs:rc.size=cel.cap*i.sz)
    (hK:K (.v (.slice (some ⟨id,0,some (epOf sp+1)⟩) (n+m) 1)) ls (h.set id (.cells (cs'.take (n*i.sz)++xs) i.sz (epOf sp+1)))) :
    (n+m≤cel.cap→Dz P (EvOk N0 O) (do
        let new ← Builtin.firstCells i.sz m (.slice yb m yc)
        storeCells ((⟨cel.b,0,none⟩:Addr).add (n*i.sz)) new.toList
        pure (.slice (some ⟨cel.b,0,none⟩) (n+m) cel.cap)) w (fun v w'=>Res N0 lo s O Pr lb ls w K (.value v) w')) ∧
      (cel.cap < n+m→Dz P (EvOk N0 O) (do
        let newCap ← choose (.appendCap (n+m) cel.cap e)
        askRoom (newCap*(← typeInfo e).bytes)
        let old ← Builtin.firstCells i.sz n (.slice (some ⟨cel.b,0,none⟩) n cel.cap)
        let new ← Builtin.firstCells i.sz m (.slice yb m yc)
        let rest:=Builtin.zeroCells (← zeroValue e).cells (newCap - (n+m))
        pure (.slice (some (← newRow e (old++new++rest))) (n+m) newCap)) w (fun v w'=>Res N0 lo s O Pr lb ls w K (.value v) w')):=by
  have hle:∀ (c₂:Cel),s.le (s.up id c₂ (epOf sp+1)):=fun c₂=>Sim.up_le fun c₀ hc₀ => .inl (by omega)
  have hcs0:SlCells h (.slice (some ⟨id,0,sp⟩) n 1) i.sz (cs'.take (n*i.sz)):=by
    simp only [SlCells]
    split
    · rename_i hz;subst hz;simp
    · exact ⟨cs',i.sz,hg,by unfold sub?;rw [if_pos (show 0+n*i.sz≤cs'.length by omega)];simp⟩
  have hVR:∀ (b cp:Nat),n+m≤cp→VR (s.up id ⟨b,0,cp⟩ (epOf sp+1)) (.slice (some ⟨id,0,some (epOf sp+1)⟩) (n+m) 1) (.slice (some ⟨b,0,none⟩) (n+m) cp):=fun b cp hcp =>
    .sl _ _ _ _ _ _ _ _ (up_adr _ _ _ _).1 (by simp [epOf,(up_adr s id _ _).2]) (fun _=>⟨fun _=>rfl,fun _ _=>rfl⟩) (fun h=>by omega) hcp
  have hys:ys=rc.toList.take cs'.length:=by
    apply List.ext_getElem?
    intro k
    rw [List.getElem?_take]
    by_cases hk:k < cs'.length
    · rw [if_pos hk]
      have hky:k < ys.length:=by rw [← c4.1.1];exact hk
      have:=c5 k _ (List.getElem?_eq_getElem hky)
      unfold World.cell? at this
      simp only [d3,d2,Option.isSome_none,Bool.false_eq_true,if_false,Nat.zero_add] at this
      rw [List.getElem?_eq_getElem hky,← this];simp
    · rw [if_neg hk];exact List.getElem?_eq_none (by rw [← c4.1.1];omega)
  have hxx:VR s (.slice (some ⟨id,0,sp⟩) n 1) (.slice (some ⟨cel.b,0,none⟩) n cel.cap):=VR.sl id 0 sp n 1 _ _ cel ha he (fun e=>⟨fun _=>by rw [d2],fun _ _=>rfl⟩) (fun h=>by omega) hn
  have hpre:VRm s (cs'.take (n*i.sz)) (rc.toList.take (n*i.sz)):=by
    have:=c4.take (n*i.sz)
    rw [hys,List.take_take,Nat.min_eq_left hnc] at this
    exact this
  refine ⟨fun hf => ?_,fun hg' => ?_⟩
  · refine Dz.bind (dz_firstCells M.sim hy hym hxs rfl) ?_
    rintro new w' ⟨rfl,hnew⟩
    have hnl:new.toList.length=m*i.sz:=by rw [← hnew.1.1];exact hxl
    have hroom:n*i.sz+m*i.sz≤rc.size:=by rw [hrs,← Nat.add_mul];exact Nat.mul_le_mul_right _ hf
    simp only [add_none,Nat.zero_add]
    refine Dz.bind (Q:=fun _ w''=>w''=putL w' cel.b (n*i.sz) new.toList) ?_ ?_
    · have:=Dz.storeCells (P:=P) (E:=EvOk N0 O) cel.b bty (0,0) (fun k=>⟨rfl,d1⟩) new.toList (n*i.sz) 0 w' rc d3 (by simp) (by omega) hnew.2
      simpa using this
    · rintro _ w'' rfl
      obtain ⟨⟨rc',p1,p2⟩,p3,p4,p5,p6⟩:=putL_heap cel.b bty (0,0) new.toList (n*i.sz) w' rc d3
      have hrs':rc'.size=rc.size:=by have:=congrArg List.length p2;rw [setL_length] at this;simpa using this
      have hlen:(cs'.take (n*i.sz)++xs).length=n*i.sz+m*i.sz:=by simp [hxl];omega
      refine Dz.pure ⟨_,.inl rfl,_,lb,.v _,ls,_,hK,Out.turn M (c:=⟨cel.b,0,cel.cap⟩) (rc:=rc') (ty:=bty) (.inr ⟨hlt,hlo,rfl,cel,ha,.inl rfl⟩) (hle _) p1 rfl (.inl d1) ?_ (by rw [hlen];omega) (fun _=>by rw [hrs'];exact hrs) (by rw [p4];omega) (fun b _ hb=>p3 b hb) p5 p6,hVR _ _ hf⟩
      rw [hlen,p2,← hnl,setL_app _ _ _ (by rw [hnl,Array.length_toList];exact hroom)]
      exact (hpre.app hnew).mono (hle _)
  · refine dz_grow hT M.sim hie hxx rfl hcs0 hy hym hxs (by simp;omega) hxl (by omega) hmax ?_
    intro d newCap rc' h1 h2 h3
    have hlen:(cs'.take (n*i.sz)++xs).length=n*i.sz+m*i.sz:=by simp [hxl];omega
    refine ⟨_,.inl rfl,_,lb,.v _,ls,_,hK,Out.turn M (c:=⟨w.heap.size,0,newCap⟩) (rc:=rc') (ty:=e) (.inr ⟨hlt,hlo,rfl,cel,ha,.inr (Nat.le_refl _)⟩) (hle _) (by simp) rfl (.inr ⟨Nat.le_refl _,by simp⟩) (h3.mono (hle _)) ?_ (fun _=>h2) (by simp) (fun b hb hne=>by simp only [Array.getElem?_push];rw [if_neg hne]) rfl rfl,hVR _ _ h1⟩
    rw [hlen,h2,← Nat.add_mul]
    exact Nat.mul_le_mul_right _ h1
set_option maxHeartbeats 2000000 in
theorem ok_append (hT : ∀ t i, T t = some i → TyOk P t i) (M : Mem N0 lo s O Pr lb ls h w) (tm : TmOk s lb ls.length t a.tmps) {c : Call} (ho : o.op = .call c) (hc : c.callee = .builtin .append) {ty ty' e e' sz sz' : Nat} {z z' : List Value} {q q' : Bool} (htys : c.argTypes.toList = [ty, ty']) (hi : T ty = some ⟨.slice e, sz, z, q⟩) (hi' : T ty' = some ⟨.slice e', sz', z', q'⟩) {i : TyI} (hie : T e = some i)
    {x : Value} {p : Option Addr} {m f : Nat} (hargs : evs t c.args.toList = some [x, .slice p m f]) {xs : List Value} (hxs : SlCells h (.slice p m f) i.sz xs) {v' : Value} {h' : Hp} (hap : Ap lo h i.sz x xs m v' h') (hK : K (.v v') ls h') : Dz P (EvOk N0 O) (execOp a.eval o) w (Res N0 lo s O Pr lb ls w K) := by
  obtain ⟨d, hd, hkd⟩ := (hT _ _ hi).kind
  have hd' : d = .slice e := by cases d <;> simp [kOk] at hkd <;> simp [hkd]
  subst hd'
  obtain ⟨d, hd2, hkd2⟩ := (hT _ _ hi').kind
  have hd' : d = .slice e' := by cases d <;> simp [kOk] at hkd2 <;> simp [hkd2]
  subst hd'
  have ht := hT _ _ hie
  obtain ⟨info, hinfo, hsz', ⟨zv, hz, hzc, _⟩, hby⟩ := ht.info
  have hav := evs_ok tm _ _ hargs
  obtain ⟨xr, yr, hxy⟩ : ∃ xr yr, c.args.toList.map a.eval = [xr, yr] := by
    have := hav.1
    match c.args.toList.map a.eval, this with
    | [xr, yr], _ => exact ⟨xr, yr, rfl⟩
  rw [hxy] at hav
  have hx : VR s x xr := hav.2 0 _ _ rfl rfl
  have hy : VR s (.slice p m f) yr := hav.2 1 _ _ rfl rfl
  have hargsA : c.args.map a.eval = #[xr, yr] := Array.ext' (by simpa using hxy)
  have htysA : c.argTypes = #[ty, ty'] := Array.ext' htys
  have hex : execOp a.eval o = (do let v ← Builtin.append_ #[ty, ty'] o.type #[xr, yr]; pure (.value v)) := by
    unfold execOp
    rw [ho]
    simp only [resolve, hc, hargsA, htysA]
    rfl
  rw [hex]
  refine dz_val ?_
  obtain ⟨hsz, hxl, hap⟩ := hap
  have hyr : ∃ yb yc, yr = .slice yb m yc := by
    cases hy with
    | sl0 => exact ⟨none, 0, rfl⟩
    | sl => exact ⟨_, _, rfl⟩
  obtain ⟨yb, yc, rfl⟩ := hyr
  have hxr : ∃ xb n xc, xr = .slice xb n xc := by
    split at hap
    · cases hx; exact ⟨_, _, _, rfl⟩
    · cases hx; exact ⟨_, _, _, rfl⟩
    · cases hx; exact ⟨_, _, _, rfl⟩
    · exact hap.elim
  obtain ⟨xb, n, xc, rfl⟩ := hxr
  have hml : maxLen = 2147483648 := rfl
  -- down to the question whether it fits
  have key : ∀ (R : Value → World → Prop), (n + m ≤ xc → Dz P (EvOk N0 O) (do
        let new ← Builtin.firstCells i.sz m (.slice yb m yc)
        if let some a := xb then storeCells (a.add (n * i.sz)) new.toList
        pure (.slice xb (n + m) xc)) w R) →
      (xc < n + m → n + m ≤ maxLen ∧ Dz P (EvOk N0 O) (do
        let newCap ← choose (.appendCap (n + m) xc e)
        askRoom (newCap * (← typeInfo e).bytes)
        let old ← Builtin.firstCells i.sz n (.slice xb n xc)
        let new ← Builtin.firstCells i.sz m (.slice yb m yc)
        let rest := Builtin.zeroCells (← zeroValue e).cells (newCap - (n + m))
        pure (.slice (some (← newRow e (old ++ new ++ rest))) (n + m) newCap)) w R) → Dz P (EvOk N0 O) (Builtin.append_ #[ty, ty'] o.type #[.slice xb n xc, .slice yb m yc]) w R := by
    intro R h1 h2
    unfold Builtin.append_
    simp only [List.getElem?_toArray, List.getElem?_cons_zero, List.getElem?_cons_succ]
    refine Dz.bind (Q := fun z w' => z = .slice e ∧ w' = w) (Dz.underlying hd ⟨rfl, rfl⟩) ?_
    rintro _ w' ⟨rfl, rfl⟩
    simp only []
    refine Dz.bind (Q := fun z w'' => z = i.sz ∧ w'' = w') (Dz.sizeOf ht ⟨rfl, rfl⟩) ?_
    rintro _ w'' ⟨rfl, rfl⟩
    refine Dz.bind (Q := fun z w' => z = .slice e' ∧ w' = w'') (Dz.underlying hd2 ⟨rfl, rfl⟩) ?_
    rintro _ w' ⟨rfl, rfl⟩
    refine Dz.bind (Q := fun z w'' => z = false ∧ w'' = w') (Dz.pure ⟨rfl, rfl⟩) ?_
    rintro _ w'' ⟨rfl, rfl⟩
    simp only [Bool.false_eq_true, if_false, Bool.not_false, if_true]
    refine Dz.bind (Q := fun z w' => m = z ∧ w' = w'') (Dz.pure ⟨rfl, rfl⟩) ?_
    rintro _ w' ⟨rfl, rfl⟩
    by_cases hfit : n + m ≤ xc
    · rw [if_pos hfit]; exact h1 hfit
    · rw [if_neg hfit]
      obtain ⟨hmax, h2⟩ := h2 (by omega)
      refine Dz.bind (Q := fun z w'' => info = z ∧ w'' = w') (Dz.typeInfo hinfo ⟨rfl, rfl⟩) ?_
      rintro _ w'' ⟨rfl, rfl⟩
      rw [if_neg (by have e' : IntKind.max .i64 = 9223372036854775807 := rfl; omega)]
      refine Dz.bind (Q := fun z w' => info = z ∧ w' = w'') (Dz.typeInfo hinfo ⟨rfl, rfl⟩) ?_
      rintro _ w' ⟨rfl, rfl⟩
      have hnc := nextcap_le (n := n + m) (c := xc) (by omega) (by omega)
      have hmul : Builtin.nextslicecap (n + m) xc * info.bytes ≤ 4294968296 * 4096 := Nat.mul_le_mul (by omega) hby
      rw [if_neg (by have : (2:Nat) ^ 48 = 281474976710656 := rfl; omega)]
      exact h2
  -- a new object
  have newObj : ∀ (cs : List Value) (k : Nat), k + m ≤ maxLen → cs.length = k * i.sz → K (.v (.slice (some ⟨h.n, 0, some 0⟩) (k + m) 1)) ls (h.push (.cells (cs ++ xs) i.sz 0)) → ∀ (d newCap : Nat) (rc : Array Value), k + m ≤ newCap → rc.size = newCap * i.sz → VRm s (cs ++ xs) (rc.toList.take (cs ++ xs).length) →
      Res N0 lo s O Pr lb ls w K (.value (.slice (some ⟨w.heap.size, 0, none⟩) (k + m) newCap)) { w with heap := w.heap.push (.cells rc e (0, 0)), drawn := d } := by
    intro cs k hk hcs hK d newCap rc h1 h2 h3
    refine ⟨_, .inl rfl, _, lb, .v _, ls, _, hK, out_newObj M (cap := newCap) (rc := rc) (ty := e) rfl rfl rfl (h3.mono (up_new M _ _)) ?_ (fun _ => h2), VR.new h1⟩
    rw [List.length_append, hcs, hxl, ← Nat.add_mul, h2]
    exact Nat.mul_le_mul_right _ h1
  have nothing : m = 0 → xs = [] := fun hm => by
    rw [hm] at hxl; simpa using hxl
  split at hap
  · -- nil
    cases hx with
    | sl0 =>
    refine key _ (fun hf => ?_) (fun hg => ?_)
    · have hm0 : m = 0 := by omega
      subst hm0
      rw [if_pos rfl] at hap
      obtain ⟨rfl, rfl⟩ := hap
      refine Dz.bind (dz_firstCells M.sim hy rfl hxs rfl) ?_
      rintro new w' ⟨rfl, hnew⟩
      exact Dz.pure (res_val M hK VR.sl0)
    · rw [if_neg (by omega)] at hap
      obtain ⟨h1, rfl, rfl⟩ := hap
      refine ⟨by omega, dz_grow hT M.sim hie (x := .slice none 0 0) (cs := []) VR.sl0 rfl rfl hy rfl hxs (by simp) hxl (by omega) (by omega) ?_⟩
      have := newObj [] 0 (by omega) (by simp)
      simp only [Nat.zero_add, List.nil_append] at this
      simpa using this hK
  · -- no room
    rename_i ad n'
    cases hx with
    | sl id off sp n fl ar cap cel ha he hh h0 hn =>
    have hcap := h0 rfl
    refine key _ (fun hf => ?_) (fun hg => ?_)
    · have hm0 : m = 0 := by omega
      subst hm0
      rw [if_pos rfl] at hap
      obtain ⟨rfl, rfl⟩ := hap
      refine Dz.bind (dz_firstCells M.sim hy rfl hxs rfl) ?_
      rintro new w' ⟨rfl, hnew⟩
      have hn0 : new.toList = [] := by
        have := hnew.1.1; rw [nothing rfl] at this; exact List.length_eq_zero_iff.1 this.symm
      simp only [hn0, Go.storeCells]
      refine Dz.bind (Q := fun _ w'' => w'' = w') (Dz.pure rfl) ?_
      rintro _ w'' rfl
      exact Dz.pure (res_val M hK (VR.sl id off sp _ 0 ar _ cel ha he hh h0 hn))
    · rw [if_neg (by omega)] at hap
      obtain ⟨h1, cs, hcs, rfl, rfl⟩ := hap
      have hcl : cs.length = n * i.sz := by
        simp only [SlCells] at hcs
        split at hcs
        · rename_i hz; rw [hcs, hz]; simp
        · obtain ⟨c', sz'', _, h3⟩ := hcs
          obtain ⟨g1, rfl⟩ := sub_some h3
          simp only at g1
          simp; omega
      exact ⟨h1, dz_grow hT M.sim hie (VR.sl id off sp _ 0 ar _ cel ha he hh h0 hn) rfl hcs hy rfl hxs hcl hxl (by omega) h1 (newObj cs n h1 hcl hK)⟩
  · -- room, maybe
    rename_i ad n'
    cases hx with
    | sl id off sp n fl ar cap cel ha he hh h0 hn =>
    obtain ⟨hmax, hoff, hlo, hlt, c', hg, hnc, rfl, rfl⟩ := hap
    simp only at hoff hlo hlt hg
    subst hoff
    obtain ⟨c1, c2, cs', sz'', c3, ys, c4, c5⟩ := M.sim.cells id cel ha
    have e0 := c3.symm.trans hg
    injection e0 with e1 e2 e3
    subst e1; subst e2
    obtain ⟨e4, e5⟩ := hh e3.symm
    have e4 := e4 (.inr rfl)
    have e5 := e5 rfl rfl
    subst e4; subst e5
    obtain ⟨d1, d2, rc, bty, d3, cs₂, sz₂, ee, d4, d5, d6⟩ := M.sim.own id cel ha hlo
    have e6 := c3.symm.trans d4
    injection e6 with e7 e8 e9
    subst e7; subst e8
    obtain ⟨g1, g2⟩ := append_room hT M hie hsz (K := K) (n := n) (sp := sp) hy rfl hxs hxl ha he e3 hn hmax hlo hlt hg hnc c4 c5 d1 d2 d3 d5 (d6 hsz) hK
    obtain ⟨cb, co, cc⟩ := cel
    simp only at d2
    subst d2
    exact key _ (fun hf => g1 hf) (fun hg' => ⟨hmax, g2 hg'⟩)
  · exact hap.elim
theorem ok_clear (hT:∀ t i,T t=some i→TyOk P t i) (M:Mem N0 lo s O Pr lb ls h w) (tm:TmOk s lb ls.length t a.tmps) {c:Call} (ho:o.op = .call c) (hc:c.callee = .builtin .clear) {ty e sz:Nat} {z:List Value} {q:Bool} (htys:c.argTypes.toList=[ty]) (hi:T ty=some ⟨.slice e,sz,z,q⟩) {i:TyI} (hie:T e=some i)
    {p:Option Addr} {n f:Nat} (hargs:evs t c.args.toList=some [.slice p n f]) (hp:(n=0∧K (.v (.tuple #[])) ls h)∨(n≠0∧∃ ad h',p=some ad∧St lo h ad (zeros i.zero n) h'∧K (.v (.tuple #[])) ls h')):Dz P (EvOk N0 O) (execOp a.eval o) w (Res N0 lo s O Pr lb ls w K):=by
  obtain ⟨d,hd,hkd⟩:=(hT _ _ hi).kind
  have hd':d = .slice e:=by cases d<;>simp [kOk] at hkd<;>simp [hkd]
  subst hd'
  have ht:=hT _ _ hie
  have hav:=evs_ok tm _ _ hargs
  obtain ⟨xr,hxr⟩:∃ xr,c.args.toList.map a.eval=[xr]:=by
    have:=hav.1
    match c.args.toList.map a.eval,this with
    | [xr],_=>exact ⟨xr,rfl⟩
  rw [hxr] at hav
  have hx:VR s (.slice p n f) xr:=hav.2 0 _ _ rfl rfl
  have hargsA:c.args.map a.eval=#[xr]:=Array.ext' (by simpa using hxr)
  have htysA:c.argTypes=#[ty]:=Array.ext' htys
  have hex:execOp a.eval o=(do let v ← Builtin.clear_ #[ty] o.type #[xr];pure (.value v)):=by
    unfold execOp
    rw [ho]
    simp only [resolve,hc,hargsA,htysA]
    rfl
  rw [hex]
  refine dz_val ?_
  have tupR:∀ s':Sim,VR s' (.tuple #[]) (.tuple #[]):=fun s' => .tup _ _ rfl fun i v w hv=>by simp at hv
  have pre:∀ (R:Value→World→Prop),Dz P (EvOk N0 O) (do
      match TypeDesc.slice e,xr with
      | _,.map none | _,.slice none _ _ | _,.slice _ 0 _=>pure ()
      | _,.map (some r) =>
        let .map _ clock ← getObj r | stuck "clear: map expected"
        setObj r (.map #[] clock)
      | .slice elem,.slice (some a) n _ =>
        storeCells a (Builtin.zeroCells (← zeroValue elem).cells n).toList
      | _,_=>stuck "clear: map or slice expected"
      pure (.tuple #[])) w R→Dz P (EvOk N0 O) (Builtin.clear_ #[ty] o.type #[xr]) w R:=by
    intro R h1
    unfold Builtin.clear_
    simp only [List.getElem?_toArray,List.getElem?_cons_zero]
    refine Dz.bind (Q:=fun z w'=>z = .slice e∧w'=w) (Dz.underlying hd ⟨rfl,rfl⟩) ?_
    rintro _ w' ⟨rfl,rfl⟩
    exact h1
  refine pre _ ?_
  rcases hp with ⟨rfl,hK⟩ | ⟨hn,ad,h',rfl,⟨hlo,hlt,c,sz',h2,h3,rfl⟩,hK⟩
  · have:∃ xb xc,xr = .slice xb 0 xc:=by
      cases hx with
      | sl0=>exact ⟨none,0,rfl⟩
      | sl=>exact ⟨_,_,rfl⟩
    obtain ⟨xb,xc,rfl⟩:=this
    cases xb<;>exact Dz.pure (res_val M hK (tupR _))
  · cases hx with
    | sl id off sp _ _ ar cap cel ha he hxx h0 hcap =>
      obtain ⟨c1,c2,cs',sz'',c3,ys,c4,c5⟩:=M.sim.cells id cel ha
      simp only at h2 hlo hlt h3
      have e0:=c3.symm.trans h2
      injection e0 with e1 e2 e3
      subst e1;subst e2
      have e4:=(hxx e3.symm).1 (.inl hn)
      subst e4
      obtain ⟨d1,d2,rc,ty',d3,cs₂,sz₂,e₂,d4,d5,d6⟩:=M.sim.own id cel ha hlo
      have e5:=c3.symm.trans d4
      injection e5 with e6 e7 e8
      subst e6;subst e7
      rw [d2]
      have hys:ys=rc.toList.take cs'.length:=by
        apply List.ext_getElem?
        intro k
        rw [List.getElem?_take]
        by_cases hk:k < cs'.length
        · rw [if_pos hk]
          have hky:k < ys.length:=by rw [← c4.1.1];exact hk
          have:=c5 k _ (List.getElem?_eq_getElem hky)
          unfold World.cell? at this
          simp only [d3,d2,Option.isSome_none,Bool.false_eq_true,if_false,Nat.zero_add] at this
          rw [List.getElem?_eq_getElem hky,← this];simp
        · rw [if_neg hk];exact List.getElem?_eq_none (by rw [← c4.1.1];omega)
      have hzl:(zeros i.zero n).length=n*i.zero.length:=zeros_length _ _
      have hcz:VRm s (zeros i.zero n) (zeros i.zero n):=VRm.of_plain _ fun v hv=>ht.plain v (zeros_mem hv)
      have hsz0:i.zero.length≠0∨i.zero.length=0:=by omega
      obtain ⟨m,rfl⟩:∃ m,n=m+1:=⟨n - 1,by omega⟩
      show Dz P (EvOk N0 O) (do
        let z ← zeroValue e
        let _ ← storeCells ⟨cel.b,0+off,none⟩ (Builtin.zeroCells z.cells (m+1)).toList
        pure (Value.tuple #[])) w _
      refine Dz.bind (Q:=fun z w'=>z.cells=i.zero.toArray∧w'=w) (Dz.zeroValue ht fun z hz=>⟨hz,rfl⟩) ?_
      rintro zv w' ⟨hzc,rfl⟩
      have hzz:(Builtin.zeroCells zv.cells (m+1)).toList=zeros i.zero (m+1):=by
        rw [hzc]
        unfold Builtin.zeroCells
        rcases hsz0 with q | q
        · exact zeros_arr i.zero.toArray (m+1) (by simpa using q)
        · have:i.zero=[]:=List.length_eq_zero_iff.1 q
          rw [this]
          have hz0:∀ k,zeros [] k=[]:=fun k=>by
            induction k with
            | zero=>rfl
            | succ k ih=>rw [zeros,ih];rfl
          rw [hz0];simp
      rw [hzz]
      refine Dz.bind (Q:=fun (_:Unit) w''=>w''=putL w' cel.b (0+off) (zeros i.zero (m+1))) ?_ ?_
      · have:=Dz.storeCells (P:=P) (E:=EvOk N0 O) cel.b ty' (0,0) (fun k=>⟨rfl,d1⟩) (zeros i.zero (m+1)) (0+off) 0 w' rc d3 (by simp) (by have:=c4.1.1;omega) hcz.2
        simpa using this
      · rintro _ w'' rfl
        obtain ⟨⟨rc',p1,p2⟩,p3,p4,p5,p6⟩:=putL_heap cel.b ty' (0,0) (zeros i.zero (m+1)) (0+off) w' rc d3
        rw [Nat.zero_add] at p1 p2 p3 p4 p5 p6 ⊢
        have hle:s.le (s.up id cel (epOf sp)):=Sim.up_le fun c₀ hc₀ => .inr ⟨e3,by rw [ha] at hc₀;exact Option.some.inj hc₀⟩
        have hrs:rc'.size=rc.size:=by have:=congrArg List.length p2;rw [setL_length] at this;simpa using this
        refine Dz.pure ⟨_,.inl rfl,s.up id cel (epOf sp),lb,.v _,ls,_,hK,Out.turn M (.inr ⟨hlt,hlo,rfl,cel,ha,.inl rfl⟩) hle p1 d2 (.inl d1) ?_ ?_ ?_ (by rw [p4];omega) (fun b _ hb=>p3 b hb) p5 p6,tupR _⟩
        · rw [setL_length,p2,setL_take _ _ _ _ (by omega),← hys]
          exact setL_eq _ _ _ _ _ (c4.mono hle) (hcz.mono hle)
        · rw [setL_length];omega
        · intro hs;rw [hrs];exact d6 hs
end
end Go.Id
namespace Go.Id
open Go.Conc
set_option linter.unusedVariables false
section
variable {P:Program} {T:Nat→Option TyI} {N0:Nat→Prop} {lo:Nat} {s:Sim} {O Pr:Nat→Prop} {lb:Nat→Nat} {ls:Lv} {h:Hp} {w:World} {t:Tm} {a:Act} {o:Oper}
variable {K:Sl→Lv→Hp→Prop}
def Sim.upM (s:Sim) (id b:Nat):Sim:={ s with mp:=fun i=>if i=id then some b else s.mp i }
theorem Sim.upM_le {id b:Nat} (h:∀ b₀,s.mp id=some b₀→b₀=b):s.le (s.upM id b):=by
  refine ⟨fun i c hc=>⟨c,hc,Nat.le_refl _,fun _=>rfl⟩,fun i b₀ hb => ?_⟩
  by_cases e:i=id
  · subst e;simp [Sim.upM,h b₀ hb]
  · simp [Sim.upM,e,hb]
def MapR (s:Sim) (es:List (Int×Value)) (en:Array MapEntry):Prop:=es.length=en.size∧∀ (i:Nat) (k:Int) (v:Value) (e:MapEntry),es[i]? = some (k,v)→en[i]? = some e→e.key = .int .i64 k∧VR s v e.val∧True
theorem MapR.mono {s':Sim} (hl:s.le s') {es:List (Int×Value)} {en:Array MapEntry} (h:MapR s es en):MapR s' es en:=⟨h.1,fun i k v e a b=>⟨(h.2 i k v e a b).1,(h.2 i k v e a b).2.1.mono hl,trivial⟩⟩
theorem Out.turnMap (M:Mem N0 lo s O Pr lb ls h w) {id b ck:Nat} {es:List (Int×Value)} {en:Array MapEntry} {w':World} {h':Hp}
    (hid:id=h.n∧h'=h.push (.map es)∧w.heap.size≤b∧(∀ b₀,s.mp id=some b₀→b₀=b)∨lo≤id∧h'=h.set id (.map es)∧s.mp id=some b)
    (hb:w'.heap[b]? = some (.map en ck)) (hO:grow O w w' b) (hv:MapR (s.upM id b) es en)
    (hsz:w.heap.size≤w'.heap.size) (hk:∀ b',b' < w.heap.size→b'≠b→w'.heap[b']? = w.heap[b']?) (hos:w'.os=w.os) (hout:w'.output=w.output) :
    Out N0 lo s (s.upM id b) O Pr lb lb ls ls h' w w':=by
  have H:=M.sim
  have hlo:lo≤id:=by rcases hid with ⟨rfl,_⟩ | ⟨h,_⟩;exact H.lohi;exact h
  have hle:s.le (s.upM id b):=Sim.upM_le fun b₀ hb₀=>by
    rcases hid with ⟨_,_,_,q⟩ | ⟨_,_,q⟩
    · exact q b₀ hb₀
    · rw [q] at hb₀;exact (Option.some.inj hb₀).symm
  have hold:∀ (_:id < h.n),s.mp id=some b→O b∧(∀ i c,s.adr i=some c→c.b≠b)∧∀ i,lo≤i→s.mp i=some b→i=id:=fun _ q=>let ⟨q1,q2,q3,_⟩:=(H.maps id b q).2 hlo;⟨q1,q2,q3⟩
  have hn:id < h'.n∧h.n≤h'.n:=by
    rcases hid with ⟨rfl,rfl,_⟩ | ⟨h1,rfl,q⟩
    · simp [Hp.push]
    · exact ⟨(H.maps id b q).1,Nat.le_refl _⟩
  have hg:h'.g id = .map es:=by rcases hid with ⟨rfl,rfl,_⟩ | ⟨h1,rfl,_⟩<;>simp [Hp.push,Hp.set]
  have hg':∀ i,i≠id→i < h.n→h'.g i=h.g i:=by
    intro i hi hlt
    rcases hid with ⟨rfl,rfl,_⟩ | ⟨h1,rfl,_⟩<;>simp [Hp.push,Hp.set,hi]
  have hltb:∀ b',(N0 b'∨O b')→b' < w.heap.size:=fun b' hb'=>hb'.elim (H.base _) (H.now b')
  have hna:∀ i c,s.adr i=some c→i≠id∧c.b≠b:=by
    intro i c hc
    have hin:=(H.cells i c hc).1
    rcases hid with ⟨rfl,_,q,_⟩ | ⟨_,_,q⟩
    · have:=hltb _ (H.bl hc)
      exact ⟨by omega,by omega⟩
    · obtain ⟨q1,q2⟩:=H.maps id b q
      obtain ⟨_,q3,_,es₀,_,_,q4,_⟩:=q2 hlo
      refine ⟨fun e => ?_,q3 i c hc⟩
      subst e
      obtain ⟨_,_,cs,sz,q5,_⟩:=H.cells i c hc
      rw [q4] at q5;cases q5
  have hsim:SimOk N0 lo (s.upM id b) (grow O w w') h' w':=by
    refine ⟨fun i c hc => ?_,fun i c hc hli => ?_,H.apart,fun i b' hi => ?_,fun b' hb' => ?_,fun b' hb' => ?_,fun b' hb'=>Nat.lt_of_lt_of_le (H.base b' hb') hsz,Nat.le_trans H.lohi hn.2⟩
    · obtain ⟨q1,q2⟩:=hna i c hc
      obtain ⟨h1,h2,cs',sz',h3,ys,h4,h5⟩:=H.cells i c hc
      exact ⟨Nat.lt_of_lt_of_le h1 hn.2,h2,cs',sz',by rw [hg' i q1 h1];exact h3,ys,h4.mono hle,h5.of_heap (hk _ (hltb _ (H.bl hc)) q2)⟩
    · obtain ⟨q1,q2⟩:=hna i c hc
      obtain ⟨h1,h2,rc',ty',h3,cs',sz',e',h4,h5,h6⟩:=H.own i c hc hli
      exact ⟨.inl h1,h2,rc',ty',(hk _ (H.now _ h1) q2).trans h3,cs',sz',e',by rw [hg' i q1 (H.cells i c hc).1];exact h4,h5,h6⟩
    · by_cases e:i=id
      · subst e
        obtain rfl:b=b':=by simpa [Sim.upM] using hi
        refine ⟨hn.1,fun _=>⟨hO,fun i' c hc=>(hna i' c hc).2,fun i' hl' hi' => ?_,es,en,ck,hg,hb,hv⟩⟩
        by_cases e':i'=i
        · exact e'
        · have hi':s.mp i'=some b:=by simpa [Sim.upM,e'] using hi'
          rcases hid with ⟨_,_,q,_⟩ | ⟨_,_,q⟩
          · have:=H.now _ ((H.maps i' b hi').2 hl').1;omega
          · exact ((H.maps i b q).2 hlo).2.2.1 i' hl' hi'
      · have hi2:s.mp i=some b':=by simpa [Sim.upM,e] using hi
        obtain ⟨h1,hx⟩:=H.maps i b' hi2
        refine ⟨Nat.lt_of_lt_of_le h1 hn.2,fun hli => ?_⟩
        obtain ⟨h3,h4,h5,es',en',ck',h6,h7,h8⟩:=hx hli
        have hbb:b'≠b:=by
          rcases hid with ⟨_,_,q,_⟩ | ⟨_,_,q⟩
          · have:=H.now _ h3;omega
          · intro eb;subst eb;exact e (((H.maps id b' q).2 hlo).2.2.1 i hli hi2)
        refine ⟨.inl h3,fun i' c' hc'=>h4 i' c' hc',fun i' hl' hi' => ?_,es',en',ck',by rw [hg' i e h1];exact h6,(hk _ (H.now _ h3) hbb).trans h7,MapR.mono hle h8⟩
        by_cases e':i'=id
        · subst e'
          have:b=b':=by simpa [Sim.upM] using hi'
          exact absurd this.symm hbb
        · exact h5 i' hl' (by simpa [Sim.upM,e'] using hi')
    · rcases hb' with hb' | hb'
      · exact Nat.lt_of_lt_of_le (H.now b' hb') hsz
      · exact hb'.2
    · rcases hb' with hb' | hb'
      · exact H.new b' hb'
      · exact fun hn=>absurd (H.base _ hn) (Nat.not_lt.2 hb'.1)
  have hnc:∀ b',b' < w.heap.size→¬ Rng s lo b'→b'≠b:=by
    intro b' hlt hr heq
    rcases hid with ⟨_,_,q,_⟩ | ⟨_,_,q⟩
    · omega
    · exact hr (.inr ⟨id,by rw [heq];exact q,hlo⟩)
  have hrng:∀ b',b' < w.heap.size→¬ Rng s lo b'→¬ Rng (s.upM id b) lo b':=by
    rintro b' hlt hr (⟨i,c',hc',hli,hb'⟩ | ⟨i,hi,hil⟩)
    · exact hr (.inl ⟨i,c',hc',hli,hb'⟩)
    · by_cases e:i=id
      · subst e
        have:b=b':=by simpa [Sim.upM] using hi
        exact hnc b' hlt hr this.symm
      · exact hr (.inr ⟨i,by simpa [Sim.upM,e] using hi,hil⟩)
  refine ⟨hle,fun _ _=>rfl,Nat.le_refl _,⟨hsim,⟨fun j cs' hj => ?_,M.loc.inj⟩,fun b' hb' => ?_⟩,hsz,fun b' hlt hnb=>hk b' hlt ?_,fun b' hb'=>hk b' (M.sim.now _ (M.pr b' hb').1) (hnc b' (M.sim.now _ (M.pr b' hb').1) (M.pr b' hb').2),hos,hout⟩
  · obtain ⟨h1,h2,h3,rc',ty',h4,h5⟩:=M.loc.cell j cs' hj
    have hlt:=M.sim.now _ h1
    exact ⟨.inl h1,hrng _ hlt h2,h3,rc',ty',(hk _ hlt (hnc _ hlt h2)).trans h4,h5.mono hle⟩
  · exact ⟨.inl (M.pr b' hb').1,hrng b' (M.sim.now _ (M.pr b' hb').1) (M.pr b' hb').2⟩
  · rintro rfl
    rcases hO with q | q
    · exact hnb q
    · omega
variable {E:Event→Prop}
theorem Dz.getMap {r ck:Nat} {en:Array MapEntry} (hb:w.heap[r]? = some (.map en ck)) (he:E ⟨.obj r,false,false⟩) {Q:Obj→World→Prop} (h:Q (.map en ck) w):Dz P E (Go.getObj r) w Q:=by
  refine ⟨.map en ck,w,by simp [Go.getObj,Sem.run,hb],h,fun es hes e hm => ?_⟩
  have:(Go.getObj r).events P w es=es.push ⟨.obj r,false,false⟩:=by simp [Go.getObj,Sem.events,Sem.runT,hb,Obj.isChan,-Sem.runT_eq]
  rw [this] at hm
  simp only [Array.mem_push] at hm
  rcases hm with hm | rfl
  · exact hes e hm
  · exact he
theorem Dz.setMap {r ck ck':Nat} {en en':Array MapEntry} (hb:w.heap[r]? = some (.map en ck)) (he:E ⟨.obj r,true,false⟩) {Q:Unit→World→Prop} (h:Q () { w with heap:=w.heap.setIfInBounds r (.map en' ck') }):Dz P E (Go.setObj r (.map en' ck')) w Q:=by
  refine ⟨(),{ w with heap:=w.heap.setIfInBounds r (.map en' ck') },by simp [Go.setObj,Sem.run,hb],h,fun es hes e hm => ?_⟩
  have:(Go.setObj r (.map en' ck')).events P w es=es.push ⟨.obj r,true,false⟩:=by simp [Go.setObj,Sem.events,Sem.runT,hb,Obj.isChan,-Sem.runT_eq]
  rw [this] at hm
  simp only [Array.mem_push] at hm
  rcases hm with hm | rfl
  · exact hes e hm
  · exact he
theorem int_kind {k:Nat} {i:TyI} (ht:TyOk P k i) (hk:i.k = .int .i64):P.underlying k=some (.int .i64):=by
  obtain ⟨d,hd,hkd⟩:=ht.kind
  rw [hk] at hkd
  cases d<;>simp [kOk] at hkd
  subst hkd;exact hd
theorem dz_checkKey {k:Nat} (hd:P.underlying k=some (.int .i64)) (b:Bool) (j:Int) {Q:Unit→World→Prop} (h:Q () w):Dz P E (Instr.checkKey b 10000 k (.int .i64 j)) w Q:=by
  show Dz P E (Instr.checkKey b (9999+1) k (.int .i64 j)) w Q
  unfold Instr.checkKey
  refine Dz.bind (Q:=fun d w'=>d = .int .i64∧w'=w) (Dz.underlying hd ⟨rfl,rfl⟩) ?_
  rintro d w' ⟨rfl,rfl⟩
  exact Dz.pure h
theorem findNow_ok:∀ (es:List (Int×Value)) (en:List MapEntry) (j:Int) (i:Nat),es.length=en.length→(∀ (n:Nat) (k:Int) (v:Value) (e:MapEntry),es[n]? = some (k,v)→en[n]? = some e→e.key = .int .i64 k) →
    Instr.findNow (.int .i64) (.int .i64 j) en i=some (match mIx es j with | some n=>(en[n]?).map fun e=>(i+n,e.val) | none=>none)
  | [],[],j,i,_,_=>rfl
  | (k,v)::es,e::en,j,i,hl,hk=>by
    have h0:=hk 0 k v e rfl rfl
    unfold Instr.findNow
    rw [h0]
    simp only [Instr.sameNow,if_true]
    by_cases q:k=j
    · subst q
      simp [mIx]
    · have:(j == k)=false:=by simp;exact fun e=>q e.symm
      rw [this]
      simp only []
      rw [findNow_ok es en j (i+1) (by simpa using hl) fun n k v e a b=>hk (n+1) k v e (by simpa using a) (by simpa using b)]
      have hmx:mIx ((k,v)::es) j=(mIx es j).map (· + 1):=by rw [mIx,if_neg q]
      rw [hmx]
      cases mIx es j with
      | none=>rfl
      | some n=>simp [Nat.add_assoc,Nat.add_comm 1 n]
  | [],_::_,_,_,hl,_=>by simp at hl
  | _::_,[],_,_,hl,_=>by simp at hl
theorem dz_findKey {k:Nat} (hd:P.underlying k=some (.int .i64)) {es:List (Int×Value)} {en:Array MapEntry} (R:MapR s es en) (j:Int) {Q:Option (Nat×Value)→World→Prop} (h:Q (match mIx es j with | some n=>(en[n]?).map fun e=>(n,e.val) | none=>none) w):Dz P E (Instr.findKey k (.int .i64 j) en.toList) w Q:=by
  unfold Instr.findKey
  refine Dz.bind (Q:=fun d w'=>d = .int .i64∧w'=w) (Dz.underlying hd ⟨rfl,rfl⟩) ?_
  rintro d w' ⟨rfl,rfl⟩
  rw [findNow_ok es en.toList j 0 (by simpa using R.1) fun n k v e a b=>(R.2 n k v e a (by simpa using b)).1]
  simp only [Array.getElem?_toList,Nat.zero_add]
  exact Dz.pure h
theorem mIx_lt:∀ {es:List (Int×Value)} {j:Int} {n:Nat},mIx es j=some n→∃ v,es[n]? = some (j,v)
  | [],_,_,h=>by cases h
  | (k,v)::es,j,n,h=>by
    unfold mIx at h
    by_cases q:k=j
    · rw [if_pos q] at h;cases h;subst q;exact ⟨v,rfl⟩
    · rw [if_neg q] at h
      cases hm:mIx es j with
      | none=>rw [hm] at h;cases h
      | some m =>
        rw [hm] at h;cases h
        obtain ⟨v',hv'⟩:=mIx_lt hm
        exact ⟨v',by simpa using hv'⟩
theorem ok_makeMap (M:Mem N0 lo s O Pr lb ls h w) {ty:Nat} (ho:o.op = .makeMap ty none) (hK:K (.v (.map (some h.n))) ls (h.push (.map []))):Dz P (EvOk N0 O) (execOp a.eval o) w (Res N0 lo s O Pr lb ls w K):=by
  have hex:execOp a.eval o=(do let z ← Instr.makeMap ty none;pure (.value z)):=by unfold execOp;rw [ho];rfl
  rw [hex]
  refine dz_val ?_
  unfold Instr.makeMap
  refine Dz.bind (Q:=fun n w'=>n=w.heap.size∧w'={ w with heap:=w.heap.push (.map #[] 0) }) (Dz.newObj ⟨rfl,rfl⟩) ?_
  rintro n w' ⟨rfl,rfl⟩
  refine Dz.pure ⟨_,.inl rfl,s.upM h.n w.heap.size,lb,.v _,ls,_,hK,Out.turnMap M (id:=h.n) (es:=[]) (en:=#[]) (ck:=0) (.inl ⟨rfl,rfl,Nat.le_refl _,fun b₀ hb=>absurd (M.sim.maps _ b₀ hb).1 (by omega)⟩) (by simp) (.inr ⟨Nat.le_refl _,by simp⟩) ⟨rfl,fun i k v e h=>by simp at h⟩ (by simp) (fun b' hb' hne=>by simp only [Array.getElem?_push];rw [if_neg hne]) rfl rfl,?_⟩
  exact .map _ _ (by simp [Sim.upM])
theorem ok_lookup (hT:∀ t i,T t=some i→TyOk P t i) (M:Mem N0 lo s O Pr lb ls h w) (tm:TmOk s lb ls.length t a.tmps) {ty:Nat} {x y:Operand} (ho:o.op = .lookup ty x y false) {k e sz:Nat} {z:List Value} {q:Bool} (hi:T ty=some ⟨.map k e,sz,z,q⟩) {r:Nat} {j:Int} (hx:ev t x=some (.map (some r))) (hy:ev t y=some (.int .i64 j))
    {sk:Nat} {zk:List Value} {qk:Bool} {ie:TyI} (hk:T k=some ⟨.int .i64,sk,zk,qk⟩) (he:T e=some ie) (hlo:lo≤r) {es:List (Int×Value)} (hg:h.g r = .map es) {v₀:Value} (hv₀:mLook es j (asV ie ie.zero)=some v₀) (hK₀:K (.v v₀) ls h) :
    Dz P (EvOk N0 O) (execOp a.eval o) w (Res N0 lo s O Pr lb ls w K):=by
  obtain ⟨d,hd,hkd⟩:=(hT _ _ hi).kind
  have hd':d = .map k e:=by cases d<;>simp [kOk] at hkd<;>simp [hkd]
  subst hd'
  have hdk:=int_kind (hT _ _ hk) rfl
  have hex:execOp a.eval o=(do let z ← Instr.lookup ty (a.eval x) (a.eval y) false;pure (.value z)):=by unfold execOp;rw [ho]
  rw [hex,(ev_ok tm hy).int_inv]
  refine dz_val ?_
  have hxv:=ev_ok tm hx
  generalize a.eval x=xr at hxv ⊢
  cases hxv with
  | map _ b hb =>
  obtain ⟨_,hx2⟩:=M.sim.maps r b hb
  obtain ⟨m1,m2,m3,es',en,ck,m4,m5,m6⟩:=hx2 hlo
  rw [hg] at m4;cases m4
  have R:MapR s es en:=m6
  unfold Instr.lookup
  refine Dz.bind (Q:=fun z w'=>z = .map k e∧w'=w) (Dz.underlying hd ⟨rfl,rfl⟩) ?_
  rintro _ w' ⟨rfl,rfl⟩
  simp only []
  refine Dz.bind (Q:=fun z w''=>z = .map en ck∧w''=w') (Dz.getMap (E:=EvOk N0 O) m5 ⟨rfl,m1⟩ ⟨rfl,rfl⟩) ?_
  rintro _ w'' ⟨rfl,rfl⟩
  refine Dz.bind (Q:=fun z w'=>en=z∧w'=w'') (Dz.pure ⟨rfl,rfl⟩) ?_
  rintro _ w' ⟨rfl,rfl⟩
  refine Dz.bind (Q:=fun _ w''=>w''=w') (dz_checkKey hdk _ j rfl) ?_
  rintro _ w'' rfl
  refine Dz.bind (dz_findKey hdk R j (Q:=fun z w'=>z=(match mIx es j with | some n=>(en[n]?).map fun e=>(n,e.val) | none=>none)∧w'=w'') ⟨rfl,rfl⟩) ?_
  rintro _ w' ⟨rfl,rfl⟩
  have hK:match mGet es j with | some v=>K (.v v) ls h | none=>(match asV ie ie.zero with | some z=>K (.v z) ls h | none=>False):=by
    unfold mLook at hv₀
    cases hm:mGet es j with
    | some v =>
      rw [hm] at hv₀
      cases hv₀;exact hK₀
    | none =>
      rw [hm] at hv₀
      simp only at hv₀ ⊢
      rw [hv₀];exact hK₀
  unfold mGet at hK
  cases hm:mIx es j with
  | some n =>
    rw [hm] at hK
    obtain ⟨v,hv⟩:=mIx_lt hm
    simp only [hv,Option.map_some] at hK
    have hn:n < en.size:=by rw [← R.1];exact (List.getElem?_eq_some_iff.1 hv).1
    have hr:=R.2 n j v en[n] hv (Array.getElem?_eq_getElem hn)
    simp only [Array.getElem?_eq_getElem hn,Option.map_some]
    refine Dz.bind (Q:=fun z w''=>z=(en[n].val,true)∧w''=w') (Dz.pure ⟨rfl,rfl⟩) ?_
    rintro _ w'' ⟨rfl,rfl⟩
    exact Dz.pure (res_val M hK hr.2.1)
  | none =>
    rw [hm] at hK
    simp only at hK
    split at hK
    · rename_i zv hzv
      have ht:=hT _ _ he
      obtain ⟨info,hinfo,hsz,⟨zr,hz,hzc,hzz⟩,_⟩:=ht.info
      simp only []
      refine Dz.bind (Q:=fun z w''=>zr=z∧w''=w') ?_ ?_
      · unfold Go.zeroValue
        refine Dz.bind (Q:=fun p w''=>p=info∧w''=w') (Dz.typeInfo hinfo ⟨rfl,rfl⟩) ?_
        rintro _ w'' ⟨rfl,rfl⟩
        rw [hz];exact Dz.pure ⟨rfl,rfl⟩
      · rintro _ w'' ⟨rfl,rfl⟩
        refine Dz.bind (Q:=fun z w'=>zr=z.1∧w'=w'') (Dz.pure ⟨rfl,rfl⟩) ?_
        rintro ⟨z,b'⟩ w' ⟨rfl,rfl⟩
        refine Dz.pure (res_val M hK (asV_ok hzv (VRm.of_plain s ht.plain) ?_))
        cases hag:ie.agg<;>rw [hag] at hzz<;>exact hzz
    · exact hK.elim
theorem MapR.put {es:List (Int×Value)} {en:Array MapEntry} (R:MapR s es en) {n:Nat} {j:Int} {v vr:Value} (hv:VR s v vr) {f:MapEntry→MapEntry} (hf:∀ e,e.key = .int .i64 j→(f e).key = .int .i64 j∧(f e).val=vr) (hn:mIx es j=some n):MapR s (es.set n (j,v)) (en.modify n f):=by
  obtain ⟨v₀,hv₀⟩:=mIx_lt hn
  refine ⟨by simp [R.1],fun i k u e h1 h2 => ?_⟩
  rw [Array.getElem?_modify] at h2
  rw [List.getElem?_set] at h1
  by_cases c:n=i
  · subst c
    rw [if_pos rfl] at h1 h2
    split at h1
    · cases h1
      cases he:en[n]? with
      | none=>rw [he] at h2;cases h2
      | some e₀ =>
        rw [he] at h2
        simp only [Option.map_some,Option.some.injEq] at h2
        subst h2
        have h3:=(R.2 n j v₀ e₀ hv₀ he).1
        exact ⟨(hf e₀ h3).1,by rw [(hf e₀ h3).2];exact hv,trivial⟩
    · cases h1
  · rw [if_neg c] at h1 h2
    exact R.2 i k u e h1 h2
theorem ok_mapUpdate (hT:∀ t i,T t=some i→TyOk P t i) (M:Mem N0 lo s O Pr lb ls h w) (tm:TmOk s lb ls.length t a.tmps) {ty:Nat} {x y u:Operand} (ho:o.op = .mapUpdate ty x y u) {k e sz:Nat} {z:List Value} {q:Bool} (hi:T ty=some ⟨.map k e,sz,z,q⟩) {r:Nat} {j:Int} {v:Value} (hx:ev t x=some (.map (some r))) (hy:ev t y=some (.int .i64 j)) (hu:ev t u=some v)
    {sk:Nat} {zk:List Value} {qk:Bool} (hk:T k=some ⟨.int .i64,sk,zk,qk⟩) (hlo:lo≤r) {es:List (Int×Value)} (hg:h.g r = .map es) (hK:K (.v undef) ls (h.set r (.map (mPut es j v)))) :
    Dz P (EvOk N0 O) (execOp a.eval o) w (Res N0 lo s O Pr lb ls w K):=by
  obtain ⟨d,hd,hkd⟩:=(hT _ _ hi).kind
  have hd':d = .map k e:=by cases d<;>simp [kOk] at hkd<;>simp [hkd]
  subst hd'
  have hdk:=int_kind (hT _ _ hk) rfl
  have hex:execOp a.eval o=(do Instr.mapUpdate ty (a.eval x) (a.eval y) (a.eval u);pure .skip):=by unfold execOp;rw [ho]
  rw [hex,(ev_ok tm hy).int_inv]
  have hxv:=ev_ok tm hx
  have huv:=ev_ok tm hu
  generalize a.eval x=xr at hxv ⊢
  generalize a.eval u=ur at huv ⊢
  cases hxv with
  | map _ b hb =>
  obtain ⟨_,hx2⟩:=M.sim.maps r b hb
  obtain ⟨m1,m2,m3,es',en,ck,m4,m5,m6⟩:=hx2 hlo
  rw [hg] at m4;cases m4
  have R:MapR s es en:=m6
  have hbl:b < w.heap.size:=M.sim.now _ m1
  have hle:s.le (s.upM r b):=Sim.upM_le fun b₀ hb₀=>by rw [hb] at hb₀;exact (Option.some.inj hb₀).symm
  have undefR:∀ (s':Sim) (lb':Nat→Nat) (n:Nat),SlR s' lb' n (.v undef) undef:=fun s' _ _=>VR.plain s' rfl
  have fin:∀ (es₁:List (Int×Value)) (en₁:Array MapEntry) (ck₁:Nat),MapR s es₁ en₁→K (.v undef) ls (h.set r (.map es₁))→Dz P (EvOk N0 O) (Go.setObj b (.map en₁ ck₁)) w fun _ w'=>Res N0 lo s O Pr lb ls w K .skip w':=by
    intro es₁ en₁ ck₁ R₁ hK₁
    refine Dz.setMap (E:=EvOk N0 O) m5 ⟨rfl,m1⟩ ?_
    refine ⟨undef,.inr ⟨rfl,rfl⟩,s.upM r b,lb,.v undef,ls,_,hK₁,Out.turnMap M (id:=r) (es:=es₁) (en:=en₁) (ck:=ck₁) (.inr ⟨hlo,rfl,hb⟩) (by simp [hbl]) (.inl m1) (R₁.mono hle) (by simp) (fun b' hb' hne=>by simp only [];rw [Array.getElem?_setIfInBounds_ne (Ne.symm hne)]) rfl rfl,undefR _ _ _⟩
  refine Dz.bind (Q:=fun _ w'=>Res N0 lo s O Pr lb ls w K .skip w') ?_ (fun _ w' hq=>Dz.pure hq)
  unfold Instr.mapUpdate
  refine Dz.bind (Q:=fun z w'=>z = .map k e∧w'=w) (Dz.underlying hd ⟨rfl,rfl⟩) ?_
  rintro _ w' ⟨rfl,rfl⟩
  simp only []
  refine Dz.bind (Q:=fun z w''=>z = .map en ck∧w''=w') (Dz.getMap (E:=EvOk N0 O) m5 ⟨rfl,m1⟩ ⟨rfl,rfl⟩) ?_
  rintro _ w'' ⟨rfl,rfl⟩
  refine Dz.bind (Q:=fun _ w'=>w'=w'') (dz_checkKey hdk _ j rfl) ?_
  rintro _ w' rfl
  refine Dz.bind (dz_findKey hdk R j (Q:=fun z w''=>z=(match mIx es j with | some n=>(en[n]?).map fun e=>(n,e.val) | none=>none)∧w''=w') ⟨rfl,rfl⟩) ?_
  rintro _ w'' ⟨rfl,rfl⟩
  unfold mPut at hK
  cases hm:mIx es j with
  | some n =>
    rw [hm] at hK
    obtain ⟨v₀,hv₀⟩:=mIx_lt hm
    have hn:n < en.size:=by rw [← R.1];exact (List.getElem?_eq_some_iff.1 hv₀).1
    have hr:=R.2 n j v₀ en[n] hv₀ (Array.getElem?_eq_getElem hn)
    simp only [Array.getElem?_eq_getElem hn,Option.map_some,Option.getD_some,hr.1]
    refine Dz.bind (Q:=fun z w'=>z = .int .i64 j∧w'=w'') ?_ ?_
    · unfold Instr.keyThatStays
      rw [if_pos (show Instr.sameBits (9999+1) (.int .i64 j) (.int .i64 j)=true from by simp [Instr.sameBits])]
      exact Dz.pure ⟨rfl,rfl⟩
    · rintro _ w' ⟨rfl,rfl⟩
      exact fin _ _ _ (R.put huv (fun e he=>⟨rfl,rfl⟩) hm) hK
  | none =>
    rw [hm] at hK
    simp only []
    refine fin _ _ _ ⟨by simp [R.1],fun i k' v' e' h1 h2 => ?_⟩ hK
    rw [Array.getElem?_push] at h2
    rw [List.getElem?_append] at h1
    by_cases c:i < es.length
    · rw [if_pos c] at h1
      rw [if_neg (by rw [← R.1];omega)] at h2
      exact R.2 i k' v' e' h1 h2
    · rw [if_neg c] at h1
      have:i=es.length:=by
        have:=(List.getElem?_eq_some_iff.1 h1).1
        simp at this;omega
      subst this
      rw [if_pos R.1] at h2
      simp at h1
      cases h2
      obtain ⟨rfl,rfl⟩:=h1
      exact ⟨rfl,huv,trivial⟩
end
end Go.Id
namespace Go.Id
open Go.Conc
set_option linter.unusedVariables false
structure TbOk (P:Program) (T:Nat→Option TyI):Prop where
  ok:∀ t i,T t=some i→TyOk P t i
  known:∀ t i,T t=some i→i.k ≠ .other
  mix:P.follows .mixedOrders=true
section
variable {P:Program} {T:Nat→Option TyI} {N0:Nat→Prop} {lo:Nat} {s:Sim} {O Pr:Nat→Prop} {lb:Nat→Nat} {ls:Lv} {h:Hp} {w:World} {t:Tm} {a:Act} {o:Oper}
variable {K:Sl→Lv→Hp→Prop}
theorem lenP_ok (hT:TbOk P T) {ty:Nat} {x xr:Value} (hx:VR s x xr) {R:Value→Prop} (h:lenP (T ty) x R) {E:Event→Prop} {cs:TypeId} {Q:Value→World→Prop} (hQ:∀ v,R (.int .i64 v)→Q (.int .i64 v) w):Dz P E (Builtin.len_ #[ty] cs #[xr]) w Q:=by
  unfold lenP at h
  unfold Builtin.len_
  simp only [List.getElem?_toArray,List.getElem?_cons_zero]
  split at h
  · rename_i hi
    obtain ⟨d,hd,hkd⟩:=(hT.ok _ _ hi).kind
    cases d<;>simp [kOk] at hkd
    refine Dz.bind (Dz.underlying hd (Q:=fun d w'=>d = .slice _∧w'=w) ⟨rfl,rfl⟩) ?_
    rintro d w' ⟨rfl,rfl⟩
    cases hx<;>exact Dz.pure (hQ _ h)
  · rename_i hi
    obtain ⟨d,hd,hkd⟩:=(hT.ok _ _ hi).kind
    cases d<;>simp [kOk] at hkd
    refine Dz.bind (Q:=fun d w'=>d = .string∧w'=w) (Dz.underlying hd ⟨rfl,rfl⟩) ?_
    rintro d w' ⟨rfl,rfl⟩
    cases hx;exact Dz.pure (hQ _ h)
  · exact h.elim
theorem exec_builtin {c:Call} (ho:o.op = .call c) {b:Builtin} (hc:c.callee = .builtin b):execOp a.eval o=builtin b c.argTypes o.type (c.args.map fun | .const _=>true | _=>false) (c.args.map a.eval):=by
  unfold execOp
  rw [ho]
  simp only [resolve,hc]
  rfl
theorem opP_ok (hT : TbOk P T) (loc : Bool) (M : Mem N0 lo s O Pr lb ls h w) (tm : TmOk s lb ls.length t a.tmps) (hk : opP T lo loc t ls h K o.op) : Dz P (EvOk N0 O) (execOp a.eval o) w (Res N0 lo s O Pr lb ls w K) := by
  cases hop : o.op with
  | move x => rw [hop] at hk; simp only [opP] at hk; split at hk; exact ok_move M tm (.inl hop) ‹_› hk; exact hk.elim
  | assign x => rw [hop] at hk; simp only [opP] at hk; split at hk; exact ok_move M tm (.inr hop) ‹_› hk; exact hk.elim
  | pick c x y =>
    rw [hop] at hk; simp only [opP] at hk; split at hk
    · rename_i q hq
      have hq' : ev t c = some (.bool q) := by unfold ev; rw [hq]
      cases q with
      | true =>
        simp only at hk
        split at hk
        · rename_i sl hs; exact ok_pick (sl := sl) M tm hop hq' hs hk
        · exact hk.elim
      | false =>
        simp only at hk
        split at hk
        · rename_i sl hs; exact ok_pick (sl := sl) M tm hop hq' hs hk
        · exact hk.elim
    · rename_i q hq
      have hq' : ev t c = some (.bool q) := by unfold ev; rw [hq]
      cases q with
      | true =>
        have := hk.t rfl
        simp only at this
        split at this
        · rename_i sl hs; exact ok_pick (sl := sl) M tm hop hq' hs this
        · exact this.elim
      | false =>
        have := hk.f rfl
        simp only at this
        split at this
        · rename_i sl hs; exact ok_pick (sl := sl) M tm hop hq' hs this
        · exact this.elim
    · exact hk.elim
  | alloc e => rw [hop] at hk; simp only [opP] at hk; split at hk; exact ok_alloc hT.ok M hop ‹_› loc hk; exact hk.elim
  | box e x => rw [hop] at hk; simp only [opP] at hk; split at hk; exact ok_box M tm hop ‹_› (req_iff hk).1 loc (req_iff hk).2; exact hk.elim
  | build ty ps =>
    rw [hop] at hk; simp only [opP] at hk; split at hk
    · split at hk
      · split at hk
        · exact ok_build hT.ok M tm hop ‹_› ‹_› ‹_› ‹_› hk
        · exact hk.elim
      · exact hk.elim
    · exact hk.elim
  | buildSlice ty n ps =>
    rw [hop] at hk; simp only [opP] at hk; split at hk
    · split at hk
      · obtain ⟨h12, hk⟩ := req_iff hk
        rw [Bool.and_eq_true] at h12
        have h1 := Nat.le_of_ble_eq_true h12.1
        have h2 := beq_f h12.2
        split at hk
        · rename_i hf
          exact ok_buildSlice hT.ok M tm hop ‹_› ‹_› ‹_› h1 h2 hf (by rw [fillL_length _ _ _ hf, zeros_length, (hT.ok _ _ ‹_›).size]) hk
        · exact hk.elim
      · exact hk.elim
    · exact hk.elim
  | load e x =>
    rw [hop] at hk; simp only [opP] at hk; split at hk
    · split at hk
      · split at hk
        · split at hk
          · exact ok_load hT.ok (fun _ _ _ => .inr trivial) M tm hop ‹_› (hT.known _ _ ‹_›) (.inl ⟨_, _, _, _, _, ‹_›, ‹_›, ‹_›, ‹_›, hk⟩)
          · exact hk.elim
        · exact hk.elim
      · exact hk.elim
    · obtain ⟨cs, h1, hk⟩ := hk
      split at hk
      · exact ok_load hT.ok (fun _ _ _ => .inr trivial) M tm hop ‹_› (hT.known _ _ ‹_›) (.inr ⟨_, _, _, ‹_›, h1, ‹_›, hk⟩)
      · exact hk.elim
    · exact hk.elim
  | store e x y =>
    rw [hop] at hk; simp only [opP] at hk; split at hk
    · split at hk
      · obtain ⟨h123, hk⟩ := req_iff hk
        simp only [Bool.and_eq_true] at h123
        obtain ⟨⟨h1, h2⟩, h3⟩ := h123
        have h2 := beq_t h2
        have h3 := Nat.le_of_ble_eq_true h3
        exact ok_store hT.ok M tm hop ‹_› ‹_› h1 h2 (.inl ⟨_, _, _, ‹_›, ‹_›, h3, hk⟩)
      · exact hk.elim
    · obtain ⟨h12, h', h3, hk⟩ := req_iff hk
      simp only [Bool.and_eq_true] at h12
      obtain ⟨h1, h2⟩ := h12
      have h2 := beq_t h2
      exact ok_store hT.ok M tm hop ‹_› ‹_› h1 h2 (.inr ⟨_, _, ‹_›, h3, hk⟩)
    · exact hk.elim
  | nilCheck x =>
    rw [hop] at hk; simp only [opP] at hk; split at hk
    · exact ok_nilCheck M tm hop ‹_› (.inl ⟨_, _, rfl⟩) hk
    · exact ok_nilCheck M tm hop ‹_› (.inr (.inl ⟨_, rfl⟩)) hk
    · exact ok_nilCheck M tm hop ‹_› (.inr (.inr (.inl ⟨_, _, _, rfl⟩))) hk
    · exact ok_nilCheck M tm hop ‹_› (.inr (.inr (.inr ⟨_, _, rfl⟩))) hk
    · exact hk.elim
  | binOp op ty x y ty' => rw [hop] at hk; simp only [opP] at hk; split at hk; exact ok_binOp hT.ok M tm hop ‹_› ‹_› hk; exact hk.elim
  | unOp op ty x =>
    cases op <;> rw [hop] at hk <;> simp only [opP] at hk <;> first
      | exact hk.elim
      | (split at hk
         · first | exact ok_not M tm hop ‹_› hk | exact ok_neg M tm hop ‹_› hk
         · exact hk.elim)
  | convert src dst x => rw [hop] at hk; simp only [opP] at hk; split at hk; exact ok_convert hT.ok M tm hop ‹_› ‹_› ‹_› hk; exact hk.elim
  | makeInterface ty x =>
    rw [hop] at hk; simp only [opP] at hk; split at hk
    · split at hk
      · exact hk.elim
      · exact hk.elim
      · rename_i hn1 hn2
        exact ok_makeInterface hT.ok M tm hop ‹_› ⟨hn1, hn2⟩ ‹_› hk
    · exact hk.elim
  | makeFunc f xs ys => rw [hop] at hk; simp only [opP] at hk; split at hk; exact ok_makeFunc M tm hop ‹_› ‹_› hk; (split at hk; exact ok_makeClo M tm hop ‹_› ‹_› hk; exact hk.elim); exact hk.elim
  | makeSlice ty x y =>
    rw [hop] at hk; simp only [opP] at hk; split at hk
    · split at hk
      · obtain ⟨h1, ⟨h2, h3, h4⟩, hk⟩ := req_iff hk
        have h1 := beq_f h1
        exact ok_makeSlice hT.ok M tm hop ‹_› ‹_› ‹_› ‹_› h1 h2 h3 h4 hk
      · exact hk.elim
    · exact hk.elim
  | makeMap ty r =>
    rw [hop] at hk; simp only [opP] at hk; split at hk
    · exact ok_makeMap M hop hk
    · exact hk.elim
  | lookup ty x i b =>
    cases b with
    | true => rw [hop] at hk; simp only [opP] at hk
    | false =>
      rw [hop] at hk; simp only [opP] at hk; split at hk
      · split at hk
        · obtain ⟨h1, es, h2, hk⟩ := hk
          exact ok_lookup hT.ok M tm hop ‹_› ‹_› ‹_› ‹_› ‹_› h1 h2 hk.choose_spec.1 hk.choose_spec.2
        · exact hk.elim
      · exact hk.elim
  | mapUpdate ty x i y =>
    rw [hop] at hk; simp only [opP] at hk; split at hk
    · split at hk
      · obtain ⟨h1, es, h2, hk⟩ := hk
        exact ok_mapUpdate hT.ok M tm hop ‹_› ‹_› ‹_› ‹_› ‹_› h1 h2 hk
      · exact hk.elim
    · exact hk.elim
  | slice ty x l r m => rw [hop] at hk; simp only [opP] at hk; split at hk; exact ok_slice hT.ok M tm hop ‹_› hk; exact hk.elim
  | fieldAddr e x f =>
    rw [hop] at hk; simp only [opP] at hk; split at hk
    · split at hk
      · split at hk
        · split at hk
          · exact ok_fieldAddr hT.ok M tm hop ‹_› ‹_› ‹_› (by simp) (.inl ⟨_, _, ‹_›, hk⟩)
          · exact ok_fieldAddr hT.ok M tm hop ‹_› ‹_› ‹_› (by simp) (.inr ⟨_, ‹_›, hk⟩)
        · exact hk.elim
      · exact hk.elim
    · exact hk.elim
  | field e x f =>
    rw [hop] at hk; simp only [opP] at hk; split at hk
    · split at hk
      · split at hk
        · split at hk
          · split at hk
            · exact ok_field hT.ok M tm hop ‹_› ‹_› ‹_› (hT.known _ _ ‹_›) ‹_› ‹_› ‹_› hk
            · exact hk.elim
          · exact hk.elim
        · exact hk.elim
      · exact hk.elim
    · exact hk.elim
  | indexAddr e x y =>
    rw [hop] at hk; simp only [opP] at hk; split at hk
    · split at hk
      · exact ok_indexAddr hT.ok M tm hop ‹_› ‹_› (.inl ⟨_, _, _, _, _, rfl, ‹_›, ‹_›, hk.1.1, hk.1.2, hk.2⟩)
      · exact hk.elim
    · split at hk
      · exact ok_indexAddr hT.ok M tm hop ‹_› ‹_› (.inr (.inl ⟨_, _, _, _, _, rfl, ‹_›, ‹_›, hk.1.1, hk.1.2, hk.2⟩))
      · exact hk.elim
    · split at hk
      · exact ok_indexAddr hT.ok M tm hop ‹_› ‹_› (.inr (.inr ⟨_, _, _, _, rfl, ‹_›, ‹_›, hk.1.1, hk.1.2, hk.2⟩))
      · exact hk.elim
    · exact hk.elim
  | index e x y =>
    rw [hop] at hk; simp only [opP] at hk; split at hk
    · split at hk
      · obtain ⟨⟨h1, h2⟩, c, h3, hk⟩ := hk
        split at hk
        · exact ok_index hT.ok M tm hop ‹_› ‹_› (.inl ⟨_, _, _, _, _, _, rfl, ‹_›, hT.known _ _ ‹_›, ‹_›, h1, h2, h3, ‹_›, hk⟩)
        · exact hk.elim
      · exact hk.elim
    · obtain ⟨h1, b, h2, hk⟩ := hk
      exact ok_index hT.ok M tm hop ‹_› ‹_› (.inr ⟨_, _, rfl, ‹_›, h1, h2, hk⟩)
    · exact hk.elim
  | typeAssert x xt ty ok =>
    rw [hop] at hk; simp only [opP] at hk; split at hk
    · split at hk
      · exact hk.elim
      · exact hk.elim
      · rename_i hn1 hn2
        exact ok_typeAssert hT.ok M tm hop ‹_› ⟨hn1, hn2⟩ ‹_› hk
    · exact hk.elim
  | extract x k =>
    rw [hop] at hk; simp only [opP] at hk; split at hk
    · split at hk
      · exact ok_extract M tm hop ‹_› ‹_› hk
      · exact hk.elim
    · exact hk.elim
  | call c =>
    rw [hop] at hk
    obtain ⟨cal, args, argTypes⟩ := c
    cases cal with
    | value f => simp only [opP] at hk
    | invoke r m => simp only [opP] at hk
    | builtin b =>
      simp only [opP] at hk
      split at hk
      · rename_i vs hvs
        have hav := evs_ok tm _ _ hvs
        unfold builtinP at hk
        split at hk
        · -- len
          rename_i x hty
          split at hk
          · rename_i ty hty'
            obtain ⟨xr, hxr⟩ : ∃ xr, args.toList.map a.eval = [xr] := by
              have := hav.1
              match args.toList.map a.eval, this with
              | [xr], _ => exact ⟨xr, rfl⟩
            rw [hxr] at hav
            have hA : args.map a.eval = #[xr] := Array.ext' (by simpa using hxr)
            have hB : argTypes = #[ty] := Array.ext' hty'
            rw [exec_builtin hop rfl]
            simp only [builtin, hA, hB]
            refine dz_val ?_
            exact lenP_ok hT (hav.2 0 _ _ rfl rfl) hk fun v hv => res_val M hv (VR.int _ _)
          · exact hk.elim
        · -- append
          split at hk
          · split at hk
            · split at hk
              · obtain ⟨xs, h1, v', h', h2, hk⟩ := hk
                exact ok_append hT.ok M tm hop rfl ‹_› ‹_› ‹_› ‹_› ‹_› h1 h2 hk
              · exact hk.elim
            · exact hk.elim
          · exact hk.elim
        · -- clear
          rename_i x hty
          split at hk
          · rename_i ty hty'
            split at hk
            · rename_i hx
              split at hk
              · exact ok_clear hT.ok M tm hop rfl hty' ‹_› ‹_› hvs hk
              · exact hk.elim
            · exact hk.elim
          · exact hk.elim
        · -- min
          rename_i k n k' n'
          replace hk := req_iff hk
          obtain ⟨hkk, hk⟩ := hk
          have hkk := eq_of_beq hkk
          subst hkk
          obtain ⟨xr, yr, hxr⟩ : ∃ xr yr, args.toList.map a.eval = [xr, yr] := by
            have := hav.1
            match args.toList.map a.eval, this with
            | [xr, yr], _ => exact ⟨xr, yr, rfl⟩
          rw [hxr] at hav
          obtain rfl := (hav.2 0 _ _ rfl rfl).int_inv
          obtain rfl := (hav.2 1 _ _ rfl rfl).int_inv
          have hA : args.map a.eval = #[.int k n, .int k n'] := Array.ext' (by simpa using hxr)
          rw [exec_builtin hop rfl]
          simp only [builtin, hA]
          refine dz_val ?_
          exact Dz.pure (res_val M hk (VR.int _ _))
        · -- max
          rename_i k n k' n'
          replace hk := req_iff hk
          obtain ⟨hkk, hk⟩ := hk
          have hkk := eq_of_beq hkk
          subst hkk
          obtain ⟨xr, yr, hxr⟩ : ∃ xr yr, args.toList.map a.eval = [xr, yr] := by
            have := hav.1
            match args.toList.map a.eval, this with
            | [xr, yr], _ => exact ⟨xr, yr, rfl⟩
          rw [hxr] at hav
          obtain rfl := (hav.2 0 _ _ rfl rfl).int_inv
          obtain rfl := (hav.2 1 _ _ rfl rfl).int_inv
          have hA : args.map a.eval = #[.int k n, .int k n'] := Array.ext' (by simpa using hxr)
          rw [exec_builtin hop rfl]
          simp only [builtin, hA]
          refine dz_val ?_
          exact Dz.pure (res_val M hk (VR.int _ _))
        · exact hk.elim
      · exact hk.elim
  | _ => rw [hop] at hk; simp only [opP] at hk
end
end Go.Id
namespace Go.Id
open Go.Conc
set_option linter.unusedVariables false
structure Ctx (P:Program) where
  main:Bool
  N0:Nat→Prop
  J:((Nat→Prop)→Goroutine→World→Prop)→(Nat→Prop)→Goroutine→World→Prop
  rely:∀ Stop O g w w₁,J Stop O g w→Rly N0 O w w₁→J Stop O g w₁
  step:∀ Stop O g w,g.status = .running→(∀ w₁,Rly N0 O w w₁→∃ g' w₂ es,stepG P main g w₁ = .go g' w₂ es∧Guar N0 O w₁ w₂ es∧J Stop (grow O w₁ w₂) g' w₂)→J Stop O g w
structure Kept (N0:Nat→Prop) (Pr:Nat→Prop) (w w':World):Prop where
  pr:∀ b,Pr b→w'.heap[b]? = w.heap[b]?
  low:∀ b,N0 b→w'.heap[b]? = w.heap[b]?
  size:w.heap.size≤w'.heap.size
  os:w'.os=w.os
  out:w'.output=w.output
theorem Kept.refl (N0:Nat→Prop) (Pr:Nat→Prop) (w:World):Kept N0 Pr w w:=⟨fun _ _=>rfl,fun _ _=>rfl,Nat.le_refl _,rfl,rfl⟩
theorem Kept.trans {N0:Nat→Prop} {Pr:Nat→Prop} {w w' w'':World} (h:Kept N0 Pr w w') (h':Kept N0 Pr w' w''):Kept N0 Pr w w'' :=
  ⟨fun b hb=>(h'.pr b hb).trans (h.pr b hb),fun b hb=>(h'.low b hb).trans (h.low b hb),Nat.le_trans h.size h'.size,h'.os.trans h.os,h'.out.trans h.out⟩
theorem Kept.less {N0:Nat→Prop} {Pr Pr':Nat→Prop} {w w':World} (h:Kept N0 Pr w w') (hp:∀ b,Pr' b→Pr b):Kept N0 Pr' w w':=⟨fun b hb=>h.pr b (hp b hb),h.low,h.size,h.os,h.out⟩
def Reads (P:Program) (N0:Nat→Prop) (O:Nat→Prop) (fn:Func) (tmps:Array Value) (w:World) (vr:Value):Prop :=
  ∀ w',Rly N0 O w w'→Dz P (EvOk N0 O) (results fn tmps) w' fun r w''=>r=vr∧w''=w'
section
variable {P:Program}
def OG (O:Nat→Prop) (w:World) (O':Nat→Prop):Prop:=(∀ b,O b→O' b)∧∀ b,O' b→O b∨w.heap.size≤b
theorem OG.refl (O:Nat→Prop) (w:World):OG O w O:=⟨fun _ h=>h,fun _ h => .inl h⟩
theorem OG.of {O O₁ O':Nat→Prop} {w w₁:World} (h:OG O₁ w₁ O') (h₁:OG O w O₁) (hs:w.heap.size≤w₁.heap.size):OG O w O' :=
  ⟨fun b hb=>h.1 b (h₁.1 b hb),fun b hb=>(h.2 b hb).elim (h₁.2 b) fun x => .inr (Nat.le_trans hs x)⟩
theorem OG.grow {O:Nat→Prop} {w w₁ w₂:World} (hs:w.heap.size≤w₁.heap.size):OG O w (grow O w₁ w₂) :=
  ⟨fun b hb => .inl hb,fun b hb=>hb.elim .inl fun x => .inr (Nat.le_trans hs x.1)⟩
def After (X:Ctx P) (lo:Nat) (s:Sim) (O Pr:Nat→Prop) (w:World) (Post:Value→Hp→Prop) (C:(Nat→Prop)→Value→World→Prop):Prop :=
  ∀ v vr h' s' (O':Nat→Prop) w',Post v h'→s.le s'→SimOk X.N0 lo s' O' h' w'→VR s' v vr→OG O w O'→(∀ b,Pr b→¬ Rng s' lo b)→Kept X.N0 Pr w w'→C O' vr w'
inductive En where
  | ret (Post:Value→Hp→Prop)
  | mid (ds:List Deferred) (K:List Item→Tm→Lv→Hp→Prop)
def En.ds:En→List Deferred
  | .ret _=>[]
  | .mid ds _=>ds
def En.post:En→Value→Hp→Prop
  | .ret Post=>Post
  | .mid _ _=>fun _ _=>False
def Aft (X:Ctx P) (lo:Nat) (fn:Func) (E:En) (s:Sim) (O Pr:Nat→Prop) (w:World) (b:Frame) (cs:List Frame) (Stop:(Nat→Prop)→Goroutine→World→Prop):Prop :=
  match E with
  | .ret Post=>After X lo s O Pr w Post (fun O' vr w'=>∀ (a':Act) (todo:List Item),a'.defers=[]→Reads P X.N0 O' fn a'.tmps w' vr→X.J Stop O' (G { b.at a' todo with mode := .returning } cs) w')
  | .mid ds K=>∀ k' t' ls' h' s' (O':Nat→Prop) lb' w' (a':Act),K k' t' ls' h'→s.le s'→Mem X.N0 lo s' O' Pr lb' ls' h' w'→TmOk s' lb' ls'.length t' a'.tmps→a'.defers=ds→a'.tmps.size=fn.ntmps→OG O w O'→Kept X.N0 Pr w w'→X.J Stop O' (G (b.at a' k') cs) w'
def R (X:Ctx P) (lo:Nat) (f:FuncId) (fn:Func) (E:En) (k:List Item) (t:Tm) (ls:Lv) (h:Hp):Prop :=
  ∀ s (O Pr:Nat→Prop) lb w (b:Frame) (a:Act) cs Stop,b.fn=f→b.kind ≠ .early→a.defers=E.ds→a.tmps.size=fn.ntmps→Mem X.N0 lo s O Pr lb ls h w→TmOk s lb ls.length t a.tmps →
    Aft X lo fn E s O Pr w b cs Stop→X.J Stop O (G (b.at a k) cs) w
def Tri (X:Ctx P) (lo:Nat) (f:FuncId) (args:List Value) (h:Hp) (Post:Value→Hp→Prop):Prop :=
  (∃ fn c,P.funcs[f]? = some fn∧(fn.name == "runtime.NumGoroutine")=false∧fn.body=some c) ∧
  ∀ s (O Pr:Nat→Prop) w (argsr:Array Value) (c:Frame) cs Stop,SimOk X.N0 lo s O h w→VRs s args argsr.toList→(∀ b,Pr b→O b∧¬ Rng s lo b) →
    After X lo s O Pr w Post (fun O' vr w'=>X.J Stop O' (G (c.finish vr) cs) w')→X.J Stop O (G (Frame.enter P f argsr .normal) (c::cs)) w
variable {X:Ctx P} {lo:Nat} {f:FuncId} {fn:Func} {Post:En} {k:List Item} {t:Tm} {ls:Lv} {h:Hp}
theorem Tri.mono {args:List Value} {Post Post':Value→Hp→Prop} (H:Tri X lo f args h Post) (hp:∀ v h',Post v h'→Post' v h'):Tri X lo f args h Post' :=
  ⟨H.1,fun s O Pr w argsr c cs Stop h1 h2 h3 h4=>H.2 s O Pr w argsr c cs Stop h1 h2 h3 fun v vr h' s' O' w' q=>h4 v vr h' s' O' w' (hp v h' q)⟩
theorem kept_rly {N0:Nat→Prop} {s:Sim} {O Pr:Nat→Prop} {lb:Nat→Nat} {w w₁:World} (M:Mem N0 lo s O Pr lb ls h w) (r:Rly N0 O w w₁):Kept N0 Pr w w₁ :=
  ⟨fun b hb=>r.2.1 b (M.sim.now b (M.pr b hb).1) (.inr (M.pr b hb).1),fun b hb=>r.2.1 b (M.sim.base _ hb) (.inl hb),r.1,r.2.2.1,r.2.2.2⟩
theorem guar_idle (N0:Nat→Prop) (O:Nat→Prop) (w:World):Guar N0 O w w #[]:=⟨Nat.le_refl _,fun _ _ _=>rfl,rfl,rfl,fun e he=>by simp at he⟩
theorem Aft.from {s:Sim} {O Pr:Nat→Prop} {w w₁:World} {b:Frame} {cs:List Frame} {Stop:(Nat→Prop)→Goroutine→World→Prop} (H:Aft X lo fn Post s O Pr w b cs Stop) {s₁:Sim} {O₁:Nat→Prop} (hs:s.le s₁) (hO:OG O w O₁) (hk:Kept X.N0 Pr w w₁):Aft X lo fn Post s₁ O₁ Pr w₁ b cs Stop:=by
  cases Post with
  | ret Post=>exact fun v vr h' s' O' w' h1 h2 h3 h4 h5 h6 h7=>H v vr h' s' O' w' h1 (hs.trans h2) h3 h4 (h5.of hO hk.size) h6 (hk.trans h7)
  | mid ds K=>exact fun k' t' ls' h' s' O' lb' w' a' h1 h2 h3 h4 h5 h6 h7 h8=>H k' t' ls' h' s' O' lb' w' a' h1 (hs.trans h2) h3 h4 h5 h6 (h7.of hO hk.size) (hk.trans h8)
theorem R_mid {ds:List Deferred} {K:List Item→Tm→Lv→Hp→Prop} (H:K k t ls h):R X lo f fn (.mid ds K) k t ls h :=
  fun s O Pr lb w b a cs Stop h1 h2 h3 h4 M tm A=>A k t ls h s O lb w a H s.le_refl M tm h3 h4 (OG.refl O w) (Kept.refl _ _ _)
theorem R_move {k':List Item} (hs:∀ (b:Frame) (a:Act) cs w₁,(∃ s lb,TmOk s lb ls.length t a.tmps)→stepG P X.main (G (b.at a k) cs) w₁ = .go (G (b.at a k') cs) w₁ #[]) (H:R X lo f fn Post k' t ls h):R X lo f fn Post k t ls h:=by
  intro s O Pr lb w b a cs Stop h1 h2 h3 h4 M tm A
  refine X.step _ _ _ _ rfl fun w₁ r=>⟨_,w₁,#[],hs b a cs w₁ ⟨s,lb,tm⟩,guar_idle _ _ _,?_⟩
  rw [grow_self]
  exact H s O Pr lb w₁ b a cs Stop h1 h2 h3 h4 (M.rely r) tm (A.from s.le_refl (OG.refl O w) (kept_rly M r))
theorem R_skip (H:R X lo f fn Post k t ls h):R X lo f fn Post (.code .skip::k) t ls h:=R_move (fun _ _ _ _ _=>stepG_skip) H
theorem R_label {l:Nat} (H:R X lo f fn Post k t ls h):R X lo f fn Post (.code (.label l)::k) t ls h:=R_move (fun _ _ _ _ _=>stepG_label) H
theorem R_inBlock {id:Nat} (H:R X lo f fn Post k t ls h):R X lo f fn Post (.inBlock id::k) t ls h:=R_move (fun _ _ _ _ _=>stepG_inBlock) H
theorem R_inScope {c:Code} (H:R X lo f fn Post k t ls h):R X lo f fn Post (.inScope c::k) t ls h:=R_move (fun b a cs w _=>by simp [G,stepG,stepG.exec,Frame.at]) H
theorem R_seq {x y:Code} (H:R X lo f fn Post (.code x :: .code y::k) t ls h):R X lo f fn Post (.code (.seq x y)::k) t ls h:=R_move (fun _ _ _ _ _=>stepG_seq) H
theorem R_block {id:Nat} {x:Code} (H:R X lo f fn Post (.code x :: .inBlock id::k) t ls h):R X lo f fn Post (.code (.block id x)::k) t ls h:=R_move (fun _ _ _ _ _=>stepG_block) H
theorem R_scope {x:Code} (H:R X lo f fn Post (.code x :: .inScope x::k) t ls h):R X lo f fn Post (.code (.scope x)::k) t ls h:=R_move (fun b a cs w _=>by simp [G,stepG,stepG.exec,Frame.at]) H
theorem R_loop {x:Code} (H:R X lo f fn Post (.code x :: .inLoop x::k) t ls h):R X lo f fn Post (.code (.loop x)::k) t ls h:=R_move (fun _ _ _ _ _=>stepG_loop) H
theorem R_inLoop {x:Code} (H:R X lo f fn Post (.code x :: .inLoop x::k) t ls h):R X lo f fn Post (.inLoop x::k) t ls h:=R_move (fun _ _ _ _ _=>stepG_inLoop) H
theorem R_exit {id:Nat} {k':List Item} (hk:exitTo id k=some k') (H:R X lo f fn Post k' t ls h):R X lo f fn Post (.code (.exit id)::k) t ls h:=R_move (fun _ _ _ _ _=>stepG_exit hk) H
theorem R_region {id:Nat} {ops:Array Oper} (H:R X lo f fn Post (.inRegion ops (List.range ops.size)::k) t ls h):R X lo f fn Post (.code (.region id ops false)::k) t ls h:=R_move (fun _ _ _ _ _=>stepG_region) H
theorem R_rend {ops:Array Oper} (H:R X lo f fn Post k t ls h):R X lo f fn Post (.inRegion ops []::k) t ls h:=R_move (fun _ _ _ _ _=>stepG_region_end) H
theorem R_cond {c:Operand} {x y:Code} {q:Bool} (hq:ev t c=some (.bool q)) (H:R X lo f fn Post (.code (if q then x else y)::k) t ls h):R X lo f fn Post (.code (.cond c x y)::k) t ls h :=
  R_move (fun b a cs w ⟨s,lb,tm⟩=>stepG_cond (ev_ok tm hq).bool_inv) H
def Sub (t' t:Tm):Prop:=∀ j x,look t' j=some x→look t j=some x
theorem TmOk.put {s:Sim} {lb:Nat→Nat} {n:Nat} {a:Act} (tm:TmOk s lb n t a.tmps) {d:Option Nat} {x:Sl} {vr:Value} (hd:∀ j,d=some j→j < a.tmps.size) (hx:SlR s lb n x vr):TmOk s lb n (t.put d x) (a.put d vr).tmps:=by
  cases d with
  | none=>exact tm
  | some d =>
    intro j y hy
    have hd:=hd d rfl
    simp only [Tm.put,look] at hy
    simp only [Act.put]
    by_cases e:d=j
    · subst e
      rw [if_pos rfl] at hy;cases hy
      exact ⟨vr,by simp [hd],hx⟩
    · rw [if_neg e] at hy
      obtain ⟨v,h1,h2⟩:=tm j y hy
      exact ⟨v,by rw [Array.getElem?_setIfInBounds_ne e];exact h1,h2⟩
theorem put_size (a:Act) (d:Option Nat) (v:Value):(a.put d v).tmps.size=a.tmps.size:=by cases d<;>simp [Act.put]
theorem put_defers (a:Act) (d:Option Nat) (v:Value):(a.put d v).defers=a.defers:=by cases d<;>rfl
def dstOk (n:Nat):Option Nat→Bool
  | none=>true
  | some d=>Nat.blt d n
theorem dstOk_lt {n:Nat} {d:Option Nat} (h:dstOk n d=true):∀ j,d=some j→j < n:=by
  rintro j rfl;simpa [dstOk] using h
theorem R_unwanted {ops:Array Oper} {i:Nat} {rest:List Nat} {o:Oper} (ho:ops[i]? = some o) (hw:∀ s lb (a:Act),TmOk s lb ls.length t a.tmps→Region.wanted o (yielded ops a.tmps)=false) (hd:dstOk fn.ntmps o.dst=true)
    (H:R X lo f fn Post (.inRegion ops rest::k) (t.put o.dst (.v undef)) ls h):R X lo f fn Post (.inRegion ops (i::rest)::k) t ls h:=by
  intro s O Pr lb w b a cs Stop h1 h2 h3 h4 M tm A
  refine X.step _ _ _ _ rfl fun w₁ r=>⟨_,w₁,#[],stepG_unwanted ho (hw s lb a tm),guar_idle _ _ _,?_⟩
  rw [grow_self]
  exact H s O Pr lb w₁ b (a.put o.dst undef) cs Stop h1 h2 (by rw [put_defers];exact h3) (by rw [put_size];exact h4) (M.rely r) (tm.put (by rw [h4];exact dstOk_lt hd) (VR.plain s rfl)) (A.from s.le_refl (OG.refl O w) (kept_rly M r))
theorem R_call {ops:Array Oper} {i:Nat} {rest:List Nat} {o:Oper} (ho:ops[i]? = some o) (hw:∀ s lb (a:Act),TmOk s lb ls.length t a.tmps→Region.wanted o (yielded ops a.tmps)=true) (hd:dstOk fn.ntmps o.dst=true) {g:FuncId} {args:List Value}
    (hc:∀ s lb (a:Act),TmOk s lb ls.length t a.tmps→∃ argsr:Array Value,VRs s args argsr.toList∧∀ w,Dz P (fun _=>False) (execOp a.eval o) w fun nx w'=>nx = .enter g argsr∧w'=w)
    (H:Tri X lo g args h fun v h'=>R X lo f fn Post (.inRegion ops rest::k) (t.put o.dst (.v v)) ls h'):R X lo f fn Post (.inRegion ops (i::rest)::k) t ls h:=by
  intro s O Pr lb w b a cs Stop h1 h2 h3 h4 M tm A
  have hk:b.kind ≠ .early:=h2
  obtain ⟨argsr,hargs,hex⟩:=hc s lb a tm
  refine X.step _ _ _ _ rfl fun w₁ r => ?_
  obtain ⟨nx,w₂,hr,⟨rfl,rfl⟩,hev⟩:=hex w₁
  refine ⟨_,w₂,_,stepG_enter ho (hw s lb a tm) hk hr,⟨Nat.le_refl _,fun _ _ _=>rfl,rfl,rfl,fun e he=>(hev #[] (fun e he=>by simp at he) e (mem_listed he)).elim⟩,?_⟩
  rw [grow_self]
  have M₁:=M.rely r
  refine H.2 s O (fun b=>Pr b∨∃ j,j < ls.length∧lb j=b) w₂ argsr _ cs Stop M₁.sim hargs ?_ ?_
  · rintro b' (hb | ⟨j,hj,rfl⟩)
    · exact M₁.pr b' hb
    · obtain ⟨a1,a2,_⟩:=M₁.loc.cell j _ (List.getElem?_eq_getElem hj)
      exact ⟨a1,a2⟩
  · intro v vr h' s' O' w' hv hle hS hvr hO hpr hkept
    have hfin:(b.at a (.inRegion ops (i::rest)::k)).finish vr=b.at (a.put o.dst vr) (.inRegion ops rest::k):=by rw [Frame.finish_at,ho];rfl
    rw [hfin]
    have M':Mem X.N0 lo s' O' Pr lb ls h' w':=by
      refine ⟨hS,⟨fun j cs hj => ?_,M₁.loc.inj⟩,fun b hb=>⟨hO.1 b (M₁.pr b hb).1,hpr b (.inl hb)⟩⟩
      obtain ⟨a1,a2,a3,rc,ty,a4,a5⟩:=M₁.loc.cell j cs hj
      have hjl:j < ls.length:=(List.getElem?_eq_some_iff.1 hj).1
      exact ⟨hO.1 _ a1,hpr _ (.inr ⟨j,hjl,rfl⟩),a3,rc,ty,(hkept.pr _ (.inr ⟨j,hjl,rfl⟩)).trans a4,a5.mono hle⟩
    exact hv s' O' Pr lb w' b (a.put o.dst vr) cs Stop h1 h2 (by rw [put_defers];exact h3) (by rw [put_size];exact h4) M' ((tm.mono hle (Nat.le_refl _) fun _ _=>rfl).put (by rw [h4];exact dstOk_lt hd) hvr) (A.from hle (hO.of (OG.refl O w) r.1) ((kept_rly M r).trans (hkept.less fun b hb => .inl hb)))
theorem stepG_leaves {main:Bool} {b:Frame} {a:Act} {cs:List Frame} {w:World} {todo:List Item} {c:Frame} {v:Value} {w':World} (hn:b.kind = .normal) (hd:a.defers=[]) (hf:P.funcs[b.fn]? = some fn) (hr:(results fn a.tmps).run P w = .ok v w') :
    stepG P main (G { b.at a todo with mode := .returning } (c::cs)) w = .go (G (c.finish v) cs) w' (seen P b.fn ((results fn a.tmps).events P w #[])):=by
  simp [G,stepG,unwind,doReturn,Frame.at,hn,hd,hf,hr,GStep.after]
end
end Go.Id
namespace Go.Id
open Go.Conc
set_option linter.unusedVariables false
def retOne (T:Nat→Option TyI) (t:Tm) (ls:Lv):ResultVar→Option Value
  | .tmp j=>(match look t j with | some (.v v)=>some v | some (.b q)=>some (.bool q) | _=>none)
  | .cell j e=>(match look t j,T e with
    | some (.l b off),some i=>(match ls[b]? with
      | some c=>(match sub? c off i.sz with | some cs=>asV i cs | none=>none)
      | none=>none)
    | _,_=>none)
def retAll (T:Nat→Option TyI) (t:Tm) (ls:Lv):List ResultVar→Option (List Value)
  | []=>some []
  | r::rs=>(match retOne T t ls r with | some v=>(match retAll T t ls rs with | some vs=>some (v::vs) | none=>none) | none=>none)
def retV (T:Nat→Option TyI) (t:Tm) (ls:Lv) (rs:List ResultVar):Option Value:=match retAll T t ls rs with
  | some [v]=>some v
  | some vs=>some (.tuple vs.toArray)
  | none=>none
section
variable {P:Program} {T:Nat→Option TyI} {N0:Nat→Prop} {lo:Nat} {s:Sim} {O Pr:Nat→Prop} {lb:Nat→Nat} {ls:Lv} {h:Hp} {w:World} {t:Tm} {a:Act}
theorem dz_retOne (hT:TbOk P T) (M:Mem N0 lo s O Pr lb ls h w) (tm:TmOk s lb ls.length t a.tmps) {r:ResultVar} {v:Value} (hr:retOne T t ls r=some v):∃ vr,VR s v vr∧∀ w',Rly N0 O w w'→Dz P (EvOk N0 O) (match r with
    | .tmp t=>pure (a.tmps.getD t undef)
    | .cell x t=>do loadVar t (← asAddr (a.tmps.getD x undef))) w' fun x w''=>x=vr∧w''=w':=by
  unfold retOne at hr
  split at hr
  · split at hr
    · rename_i j v' hl
      cases hr
      obtain ⟨vr,h1,h2⟩:=tm _ _ hl
      refine ⟨vr,h2,fun w' _=>Dz.pure ⟨?_,rfl⟩⟩
      simp [Array.getD_eq_getD_getElem?,h1]
    · rename_i j q hl
      cases hr
      obtain ⟨vr,h1,h2⟩:=tm _ _ hl
      subst h2
      refine ⟨_,VR.bool q,fun w' _=>Dz.pure ⟨?_,rfl⟩⟩
      simp [Array.getD_eq_getD_getElem?,h1]
    · cases hr
  · rename_i j e
    split at hr
    · rename_i b off i hl hi
      split at hr
      · rename_i c hc
        split at hr
        · rename_i cs hcs
          obtain ⟨vr,h1,h2,h3⟩:=tm _ _ hl
          subst h3
          obtain ⟨b1,b2,b3,rc,ty,b4,b5⟩:=M.loc.cell b c hc
          obtain ⟨g1,rfl⟩:=sub_some hcs
          have ht:=hT.ok _ _ hi
          have hlen:c.length=rc.size:=by simpa using b5.1.1
          have hys:((rc.toList.drop off).take i.sz).length=i.sz:=by simp;omega
          have hm:=(b5.drop off).take i.sz
          have hex:∃ vr,(match i.agg with | true=>vr = .agg ((rc.toList.drop off).take i.sz).toArray | false=>((rc.toList.drop off).take i.sz)=[vr]):=by
            cases ha:i.agg with
            | true=>exact ⟨_,rfl⟩
            | false =>
              have h1:=ht.one ha
              rw [h1] at hys ⊢
              match (rc.toList.drop off).take 1,hys with
              | [y],_=>exact ⟨y,rfl⟩
          obtain ⟨vr,hvr⟩:=hex
          refine ⟨vr,asV_ok hr hm hvr,fun w' r => ?_⟩
          have e1:a.tmps.getD j undef = .pointer (some ⟨lb b,off,none⟩):=by simp [Array.getD_eq_getD_getElem?,h1]
          simp only [e1]
          refine Dz.bind (Q:=fun z w''=>z=⟨lb b,off,none⟩∧w''=w') (Dz.pure ⟨rfl,rfl⟩) ?_
          rintro z w'' ⟨rfl,rfl⟩
          have hb':w''.heap[lb b]? = some (.cells rc ty (0,0)):=(r.2.1 _ (M.sim.now _ b1) (.inr b1)).trans b4
          refine (Dz.loadVar ht (hT.known _ _ hi) hys ?_ (fun k=>⟨rfl,.inr b1⟩) ht.one).mono ?_
          · intro k z hz
            rw [List.getElem?_take] at hz
            split at hz
            · rw [List.getElem?_drop] at hz
              unfold World.cell?;simp only [hb'];simpa using hz
            · cases hz
          · rintro x w₃ ⟨rfl,hx⟩
            refine ⟨?_,rfl⟩
            cases ha:i.agg with
            | true=>rw [ha] at hx hvr;exact hx.trans hvr.symm
            | false=>rw [ha] at hx hvr;simp only at hx hvr;have:=hx.symm.trans hvr;simpa using this
        · cases hr
      · cases hr
    · cases hr
theorem dz_retL (hT:TbOk P T) (M:Mem N0 lo s O Pr lb ls h w) (tm:TmOk s lb ls.length t a.tmps):∀ (rs:List ResultVar) (vs:List Value),retAll T t ls rs=some vs→∃ vr,VRs s vs vr∧∀ w',Rly N0 O w w'→Dz P (EvOk N0 O) (rs.mapM fun r=>match r with
    | .tmp t=>(pure (a.tmps.getD t undef):Sem Value)
    | .cell x t=>do loadVar t (← asAddr (a.tmps.getD x undef))) w' fun x w''=>x=vr∧w''=w'
  | [],vs,h=>by cases h;exact ⟨[],VRs.nil s,fun w' _=>by rw [List.mapM_nil];exact Dz.pure ⟨rfl,rfl⟩⟩
  | r::rs,vs,h=>by
    unfold retAll at h
    split at h
    · split at h
      · cases h
        obtain ⟨v',h1,h2⟩:=dz_retOne hT M tm ‹_›
        obtain ⟨vs',h3,h4⟩:=dz_retL hT M tm rs _ ‹_›
        refine ⟨v'::vs',VRs.cons h1 h3,fun w' hw => ?_⟩
        rw [List.mapM_cons]
        refine Dz.bind (h2 w' hw) ?_
        rintro x w'' ⟨rfl,rfl⟩
        refine Dz.bind (h4 w'' hw) ?_
        rintro xs w₃ ⟨rfl,rfl⟩
        exact Dz.pure ⟨rfl,rfl⟩
      · cases h
    · cases h
theorem reads_ok (hT:TbOk P T) (M:Mem N0 lo s O Pr lb ls h w) (tm:TmOk s lb ls.length t a.tmps) {fn:Func} {v:Value} (hr:retV T t ls fn.results.toList=some v):∃ vr,VR s v vr∧Reads P N0 O fn a.tmps w vr:=by
  unfold retV at hr
  have key:∀ vs,retAll T t ls fn.results.toList=some vs→∃ vr:List Value,VRs s vs vr∧∀ w',Rly N0 O w w'→Dz P (EvOk N0 O) (results fn a.tmps) w' fun x w''=>x=(if h:vr.toArray.size=1 then vr.toArray[0] else .tuple vr.toArray)∧w''=w':=by
    intro vs hvs
    obtain ⟨vr,h1,h2⟩:=dz_retL hT M tm _ vs hvs
    refine ⟨vr,h1,fun w' hw => ?_⟩
    unfold results
    refine Dz.bind (Q:=fun x w''=>x=vr.toArray∧w''=w') ?_ ?_
    · rw [Array.mapM_eq_mapM_toList]
      exact Dz.map ((h2 w' hw).mono fun x w'' hx=>⟨by rw [hx.1],hx.2⟩)
    · rintro x w'' ⟨rfl,rfl⟩
      exact Dz.pure ⟨rfl,rfl⟩
  split at hr
  · rename_i v' hv
    cases hr
    obtain ⟨vr,h1,h2⟩:=key _ hv
    have:∃ x,vr=[x]:=by
      have:=h1.1
      match vr,this with
      | [x],_=>exact ⟨x,rfl⟩
    obtain ⟨x,rfl⟩:=this
    exact ⟨x,h1.2 0 _ _ rfl rfl,fun w' hw=>(h2 w' hw).mono fun y w'' hy=>⟨by simpa using hy.1,hy.2⟩⟩
  · rename_i vs hne hv
    cases hr
    obtain ⟨vr,h1,h2⟩:=key _ hv
    refine ⟨.tuple vr.toArray,.tup _ _ (by simpa using h1.1) (fun i v w a b=>h1.2 i v w (by simpa using a) (by simpa using b)),fun w' hw=>(h2 w' hw).mono fun y w'' hy=>⟨?_,hy.2⟩⟩
    rw [hy.1,dif_neg]
    intro h
    have:vs.length=1:=by rw [h1.1];simpa using h
    match vs,this with
    | [x],_=>exact hne x rfl
  · cases hr
end
section
variable {P:Program} {X:Ctx P} {T:Nat→Option TyI} {lo:Nat} {f:FuncId} {fn:Func} {Post:En} {k:List Item} {t:Tm} {ls:Lv} {h:Hp}
theorem R_ret (hT:TbOk P T) {v:Value} (hr:retV T t ls fn.results.toList=some v) (hp:Post.post v h):R X lo f fn Post (.code .ret::k) t ls h:=by
  intro s O Pr lb w b a cs Stop h1 h2 h3 h4 M tm A
  obtain ⟨vr,hv,hrd⟩:=reads_ok hT M tm hr
  cases Post with
  | mid ds K=>exact hp.elim
  | ret Post =>
  refine X.step _ _ _ _ rfl fun w₁ r=>⟨_,w₁,#[],stepG_ret',guar_idle _ _ _,?_⟩
  rw [grow_self]
  exact A v vr h s O w₁ hp s.le_refl (M.rely r).sim hv (OG.refl O w) (fun b hb=>(M.pr b hb).2) (kept_rly M r) a _ h3 fun w' hw=>hrd w' (r.trans hw)
theorem R_end (hT:TbOk P T) {v:Value} (hr:retV T t ls fn.results.toList=some v) (hp:Post.post v h):R X lo f fn Post [] t ls h:=by
  intro s O Pr lb w b a cs Stop h1 h2 h3 h4 M tm A
  obtain ⟨vr,hv,hrd⟩:=reads_ok hT M tm hr
  cases Post with
  | mid ds K=>exact hp.elim
  | ret Post =>
  refine X.step _ _ _ _ rfl fun w₁ r=>⟨_,w₁,#[],stepG_end,guar_idle _ _ _,?_⟩
  rw [grow_self]
  exact A v vr h s O w₁ hp s.le_refl (M.rely r).sim hv (OG.refl O w) (fun b hb=>(M.pr b hb).2) (kept_rly M r) a _ h3 fun w' hw=>hrd w' (r.trans hw)
def argsTm:Nat→List Value→Tm
  | _,[]=>[]
  | i,v::vs=>(i,.v v)::argsTm (i+1) vs
theorem look_args:∀ (vs:List Value) (i j:Nat) (x:Sl),look (argsTm i vs) j=some x→∃ v,x = .v v∧i≤j∧vs[j - i]? = some v
  | [],i,j,x,h=>by simp [argsTm,look] at h
  | v::vs,i,j,x,h=>by
    simp only [argsTm,look] at h
    split at h
    · rename_i e;subst e;cases h;exact ⟨v,rfl,Nat.le_refl _,by simp⟩
    · obtain ⟨v',h1,h2,h3⟩:=look_args vs (i+1) j x h
      exact ⟨v',h1,by omega,by rw [show j - i=(j - (i+1))+1 from by omega];simpa using h3⟩
theorem Tri_enter {Post:Value→Hp→Prop} {c:Code} {args:List Value} (hf:P.funcs[f]? = some fn) (hname:(fn.name == "runtime.NumGoroutine")=false) (hb:fn.body=some c) (hlen:args.length≤fn.ntmps) (H:lo≤h.n→R X lo f fn (.ret Post) [.code c] (argsTm 0 args) [] h):Tri X lo f args h Post:=by
  refine ⟨⟨fn,c,hf,hname,hb⟩,fun s O Pr w argsr cl cs Stop S ha hp A => ?_⟩
  rw [enter_at argsr hf hb]
  have hsz:args.length=argsr.size:=by simpa using ha.1
  refine H S.lohi s O Pr (fun _=>0) w (base f) { tmps:=argsr++Array.replicate (fn.ntmps - argsr.size) undef,defers:=[] } (cl::cs) Stop rfl (by simp [base]) rfl (by simp;omega) ⟨S,⟨fun j cs hj=>by simp at hj,fun j j' hj=>by simp at hj⟩,hp⟩ ?_ ?_
  · intro j x hx
    obtain ⟨v,rfl,_,h3⟩:=look_args _ _ _ _ hx
    have hj:j < argsr.size:=by rw [← hsz];exact (List.getElem?_eq_some_iff.1 (by simpa using h3)).1
    exact ⟨argsr[j],by simp [Array.getElem?_append,hj],ha.2 j v _ (by simpa using h3) (by simp [hj])⟩
  · intro v vr h' s' O' w' h1 h2 h3 h4 h5 h6 h7 a' todo hd hrd
    refine X.step _ _ _ _ rfl fun w₁ r => ?_
    obtain ⟨x,w₂,g1,⟨rfl,rfl⟩,g3⟩:=hrd w₁ r
    refine ⟨_,w₂,_,stepG_leaves (b:=base f) rfl hd hf g1,⟨Nat.le_refl _,fun _ _ _=>rfl,rfl,rfl,fun e he=>g3 #[] (fun e he=>by simp at he) e (mem_seen he)⟩,?_⟩
    rw [grow_self]
    exact X.rely _ _ _ _ _ (A v x h' s' O' w' h1 h2 h3 h4 h5 h6 h7) r
end
end Go.Id
namespace Go.Id
open Go.Conc
set_option linter.unusedVariables false
def isFl:Op→Bool
  | .move _ | .assign _ | .pick _ _ _ | .build _ _ | .load _ _ | .nilCheck _ | .binOp _ _ _ _ _ | .unOp _ _ _ | .convert _ _ _ | .makeInterface _ _ | .makeFunc _ _ _ | .slice _ _ _ _ _ | .fieldAddr _ _ _ | .field _ _ _ | .indexAddr _ _ _ | .index _ _ _ | .typeAssert _ _ _ _ | .extract _ _=>true
  | .call c=>(match c.callee with | .builtin .len=>true | _=>false)
  | _=>false
def isLd:Op→Bool
  | .load _ _=>true
  | _=>false
def One (F:(Value→Prop)→Prop):Prop:=∀ K,F K→∃ v,K v∧∀ K',K' v→F K'
theorem One.const {v:Value}:One fun K=>K v:=fun K h=>⟨v,h,fun _ h=>h⟩
theorem One.false:One fun _=>False:=fun _ h=>h.elim
theorem One.and {p:Prop} {F:(Value→Prop)→Prop} (h:One F):One fun K=>p∧F K:=fun K hk=>let ⟨v,a,b⟩:=h K hk.2;⟨v,a,fun K' h'=>⟨hk.1,b K' h'⟩⟩
theorem One.req {b:Bool} {F:(Value→Prop)→Prop} (h:One F):One fun K=>req b (F K):=by cases b;exact One.false;exact h
theorem One.or {F F':(Value→Prop)→Prop} (h:One F) (h':One F'):One fun K=>F K∨F' K:=fun K hk=>hk.elim (fun x=>let ⟨v,a,b⟩:=h K x;⟨v,a,fun K' h' => .inl (b K' h')⟩) fun x=>let ⟨v,a,b⟩:=h' K x;⟨v,a,fun K' h' => .inr (b K' h')⟩
theorem one_ibin (i:Option TyI) (op:BinOp) (x y:Value):One (ibin i op x y):=by
  unfold ibin
  repeat' (first | exact One.false | exact One.const | (refine One.req ?_) | (refine One.and ?_) | split)
theorem one_conv (s d:TyK) (x:Value):One (convP s d x):=by
  unfold convP
  repeat' (first | exact One.false | exact One.const | split)
theorem one_len (i:Option TyI) (x:Value):One (lenP i x):=by
  unfold lenP
  repeat' (first | exact One.false | exact One.const | split)
theorem one_ta (i:TyI) (s o:Bool) (v:Value):One (taP i s o v):=by
  unfold taP
  repeat' (first | exact One.false | exact One.const | split)
theorem one_bound (t:Tm) (o:Option Operand) (d:Int) {F:Int→(Value→Prop)→Prop} (h:∀ n,One (F n)):One fun K=>bound t o d fun n=>F n K:=by
  unfold bound
  repeat' (first | exact One.false | exact h _ | split)
theorem one_cut (l r:Int) (a:Addr) (sz fl:Nat):One (Cut l r a sz fl):=by
  unfold Cut
  repeat' (first | exact One.const | (refine One.and ?_) | (refine One.or ?_ ?_))
theorem one_slice (T:Nat→Option TyI) (t:Tm) (ty:Nat) (x:Value) (l r m:Option Operand):One (sliceP T t ty x l r m):=by
  unfold sliceP
  repeat' (first | exact One.false | exact One.const | exact one_cut _ _ _ _ _ | (refine one_bound _ _ _ fun _ => ?_) | (refine One.and ?_) | (refine One.or ?_ ?_) | split)
section
variable {T:Nat→Option TyI} {lo:Nat} {loc:Bool} {t:Tm} {ls:Lv} {h:Hp} {K:Sl→Lv→Hp→Prop}
def Is (sl:Sl) (ls:Lv) (h:Hp) (s:Sl) (l:Lv) (g:Hp):Prop:=s=sl∧l=ls∧g=h
theorem Is.r {sl:Sl} {ls:Lv} {h:Hp}:Is sl ls h sl ls h:=⟨rfl,rfl,rfl⟩
def FlAt (T:Nat→Option TyI) (lo:Nat) (loc:Bool) (t:Tm) (ls:Lv) (h:Hp) (op:Op) (sl:Sl):Prop:=opP T lo loc t ls h (Is sl ls h) op
theorem fl_of_one {F:(Value→Prop)→Prop} (h1:One F) (hk:F fun v=>K (.v v) ls h):∃ sl,K sl ls h∧F (fun v=>Is sl ls h (.v v) ls h)∧∀ (ls':Lv) (h':Hp),F (fun v=>Is sl ls' h' (.v v) ls' h') :=
  let ⟨v,a,b⟩:=h1 _ hk;⟨.v v,a,b _ Is.r,fun _ _=>b _ Is.r⟩
theorem fl_split {op : Op} (hf : isFl op = true) (hk : opP T lo loc t ls h K op) : ∃ sl, K sl ls h ∧ FlAt T lo loc t ls h op sl ∧ (isLd op = false → ∀ ls' h', FlAt T lo loc t ls' h' op sl) := by
  unfold FlAt
  cases op with
  | move x => simp only [opP] at hk ⊢; split at hk; exact ⟨_, hk, Is.r, fun _ _ _ => Is.r⟩; exact hk.elim
  | assign x => simp only [opP] at hk ⊢; split at hk; exact ⟨_, hk, Is.r, fun _ _ _ => Is.r⟩; exact hk.elim
  | pick c a b =>
    simp only [opP] at hk ⊢
    split at hk
    · split at hk
      · exact ⟨_, hk, Is.r, fun _ _ _ => Is.r⟩
      · exact hk.elim
    · rename_i q hq
      cases q with
      | true =>
        have hk := hk.t rfl
        split at hk
        · rename_i s hs
          exact ⟨s, hk, ⟨fun _ => (by simp only [hs]; exact Is.r), fun h => (by cases h)⟩, fun _ _ _ => ⟨fun _ => (by simp only [hs]; exact Is.r), fun h => (by cases h)⟩⟩
        · exact hk.elim
      | false =>
        have hk := hk.f rfl
        split at hk
        · rename_i s hs
          exact ⟨s, hk, ⟨fun h => (by cases h), fun _ => (by simp only [hs]; exact Is.r)⟩, fun _ _ _ => ⟨fun h => (by cases h), fun _ => (by simp only [hs]; exact Is.r)⟩⟩
        · exact hk.elim
    · exact hk.elim
  | load e x =>
    simp only [opP] at hk ⊢
    split at hk
    · split at hk
      · split at hk
        · split at hk
          · exact ⟨_, hk, Is.r, fun h => by cases h⟩
          · exact hk.elim
        · exact hk.elim
      · exact hk.elim
    · obtain ⟨cs, h1, hk⟩ := hk
      split at hk
      · rename_i v hv; exact ⟨.v v, hk, ⟨cs, h1, by rw [hv]; exact Is.r⟩, fun h => by cases h⟩
      · exact hk.elim
    · exact hk.elim
  | build ty ps =>
    simp only [opP] at hk ⊢
    repeat' split at hk
    all_goals first | exact hk.elim | exact ⟨_, hk, Is.r, fun _ _ _ => Is.r⟩
  | nilCheck x =>
    simp only [opP] at hk ⊢
    repeat' split at hk
    all_goals first | exact hk.elim | exact ⟨_, hk, Is.r, fun _ _ _ => Is.r⟩
  | binOp op ty x y ty' =>
    simp only [opP] at hk ⊢
    split at hk
    · obtain ⟨sl, a, b, c⟩ := fl_of_one (one_ibin _ _ _ _) hk
      exact ⟨sl, a, b, fun _ => c⟩
    · exact hk.elim
  | unOp op ty x =>
    cases op <;> simp only [opP] at hk ⊢ <;> first
      | exact hk.elim
      | (split at hk
         · exact ⟨_, hk, Is.r, fun _ _ _ => Is.r⟩
         · exact hk.elim)
  | convert s d x =>
    simp only [opP] at hk ⊢
    split at hk
    · obtain ⟨sl, a, b, c⟩ := fl_of_one (one_conv _ _ _) hk
      exact ⟨sl, a, b, fun _ => c⟩
    · exact hk.elim
  | makeInterface ty x =>
    simp only [opP] at hk ⊢
    repeat' split at hk
    all_goals first | exact hk.elim | exact ⟨_, hk, Is.r, fun _ _ _ => Is.r⟩
  | makeFunc f xs ys =>
    simp only [opP] at hk ⊢
    repeat' split at hk
    all_goals first | exact hk.elim | exact ⟨_, hk, Is.r, fun _ _ _ => Is.r⟩
  | slice ty x l r m =>
    simp only [opP] at hk ⊢
    split at hk
    · obtain ⟨sl, a, b, c⟩ := fl_of_one (one_slice _ _ _ _ _ _ _) hk
      exact ⟨sl, a, b, fun _ => c⟩
    · exact hk.elim
  | fieldAddr e x f =>
    simp only [opP] at hk ⊢
    repeat' split at hk
    all_goals first | exact hk.elim | exact ⟨_, hk, Is.r, fun _ _ _ => Is.r⟩
  | field e x f =>
    simp only [opP] at hk ⊢
    repeat' split at hk
    all_goals first | exact hk.elim | exact ⟨_, hk, Is.r, fun _ _ _ => Is.r⟩
  | indexAddr e x i =>
    simp only [opP] at hk ⊢
    repeat' split at hk
    all_goals first | exact hk.elim | exact ⟨_, hk.2, ⟨hk.1, Is.r⟩, fun _ _ _ => ⟨hk.1, Is.r⟩⟩
  | index e x i =>
    simp only [opP] at hk ⊢
    split at hk
    · split at hk
      · obtain ⟨h1, c, h2, hk⟩ := hk
        split at hk
        · rename_i v hv
          exact ⟨.v v, hk, ⟨h1, c, h2, by rw [hv]; exact Is.r⟩, fun _ _ _ => ⟨h1, c, h2, by rw [hv]; exact Is.r⟩⟩
        · exact hk.elim
      · exact hk.elim
    · obtain ⟨h1, b, h2, hk⟩ := hk
      exact ⟨_, hk, ⟨h1, b, h2, Is.r⟩, fun _ _ _ => ⟨h1, b, h2, Is.r⟩⟩
    · exact hk.elim
  | typeAssert x xt ty ok =>
    simp only [opP] at hk ⊢
    split at hk
    · split at hk
      · exact hk.elim
      · exact hk.elim
      · obtain ⟨sl, a, b, c⟩ := fl_of_one (one_ta _ _ _ _) hk
        exact ⟨sl, a, b, fun _ => c⟩
    · exact hk.elim
  | extract x k =>
    simp only [opP] at hk ⊢
    repeat' split at hk
    all_goals first | exact hk.elim | exact ⟨_, hk, Is.r, fun _ _ _ => Is.r⟩
  | call c =>
    obtain ⟨cal, args, ats⟩ := c
    cases cal with
    | builtin b =>
      simp only [opP] at hk ⊢
      split at hk
      · have hb : b = .len := by
          cases b <;> first | rfl | (exact absurd (show Bool.false = Bool.true from hf) (by decide))
        rename_i vs hvs
        subst hb
        match vs, hk with
        | [], hk => exact hk.elim
        | [x], hk =>
          simp only [builtinP] at hk ⊢
          split at hk
          · obtain ⟨sl, a, b, c⟩ := fl_of_one (one_len _ _) hk
            exact ⟨sl, a, b, fun _ => c⟩
          · exact hk.elim
        | x :: y :: r, hk => exact hk.elim
      · exact hk.elim
    | value f => simp [isFl] at hf
    | invoke r n => simp [isFl] at hf
  | _ => simp [isFl] at hf
end
section
variable {t t':Tm}
theorem ev_congr {x:Operand} (h:evS t x=evS t' x):ev t x=ev t' x:=by unfold ev;rw [h]
theorem pt_congr {x:Operand} (h:evS t x=evS t' x):ptOf t x=ptOf t' x:=by unfold ptOf;rw [h]
theorem evs_congr:∀ {xs:List Operand},(∀ x∈xs,evS t x=evS t' x)→evs t xs=evs t' xs
  | [],_=>rfl
  | x::xs,h=>by unfold evs;rw [ev_congr (h x (by simp)),evs_congr fun y hy=>h y (by simp [hy])]
theorem caps_congr:∀ {xs:List Operand},(∀ x∈xs,evS t x=evS t' x)→caps t xs=caps t' xs
  | [],_=>rfl
  | x::xs,h=>by unfold caps;rw [h x (by simp),caps_congr fun y hy=>h y (by simp [hy])]
theorem parts_congr:∀ {xs:List (Nat×Operand)},(∀ x∈xs,evS t x.2=evS t' x.2)→partsV t xs=partsV t' xs
  | [],_=>rfl
  | (i,x)::xs,h=>by unfold partsV;rw [ev_congr (h (i,x) (by simp)),parts_congr fun y hy=>h y (by simp [hy])]
theorem bound_congr {o:Option Operand} {d:Int} {K:Int→Prop} (h:∀ x,o=some x→evS t x=evS t' x):bound t o d K=bound t' o d K:=by
  cases o with
  | none=>rfl
  | some x=>simp only [bound,ev_congr (h x rfl)]
theorem slice_congr {T:Nat→Option TyI} {ty:Nat} {x:Value} {l r m:Option Operand} {K:Value→Prop} (hl:∀ x,l=some x→evS t x=evS t' x) (hr:∀ x,r=some x→evS t x=evS t' x) (hm:∀ x,m=some x→evS t x=evS t' x):sliceP T t ty x l r m K=sliceP T t' ty x l r m K:=by
  unfold sliceP
  simp only [bound_congr hl,bound_congr hr]
  cases m with
  | none=>rfl
  | some y=>simp only [ev_congr (hm y rfl)]
theorem op_congr {T:Nat→Option TyI} {lo:Nat} {loc:Bool} {ls:Lv} {h:Hp} {K:Sl→Lv→Hp→Prop} {op:Op} (hc:∀ x∈op.operands,evS t x=evS t' x):opP T lo loc t ls h K op=opP T lo loc t' ls h K op:=by
  cases op with
  | move x=>simp only [opP,hc x (by simp [Op.operands])]
  | assign x=>simp only [opP,hc x (by simp [Op.operands])]
  | pick c a b =>
    have h1:=hc c (by simp [Op.operands])
    have h2:=hc a (by simp [Op.operands])
    have h3:=hc b (by simp [Op.operands])
    simp only [opP,h1]
    split
    · rename_i q _;cases q<;>simp only [h2,h3]
    · congr 1
      funext q
      cases q<;>simp only [h2,h3]
    · rfl
  | alloc e=>simp only [opP]
  | box e x=>simp only [opP,ev_congr (hc x (by simp [Op.operands]))]
  | build ty ps=>simp only [opP,parts_congr fun x hx=>hc x.2 (by simp only [Op.operands,List.mem_toArray,List.mem_map];exact ⟨x,hx,rfl⟩)]
  | buildSlice ty n ps=>simp only [opP,parts_congr fun x hx=>hc x.2 (by simp only [Op.operands,List.mem_toArray,List.mem_map];exact ⟨x,hx,rfl⟩)]
  | load e x=>simp only [opP,pt_congr (hc x (by simp [Op.operands]))]
  | store e x y=>simp only [opP,pt_congr (hc x (by simp [Op.operands])),ev_congr (hc y (by simp [Op.operands]))]
  | nilCheck x=>simp only [opP,hc x (by simp [Op.operands])]
  | binOp o ty x y ty'=>simp only [opP,ev_congr (hc x (by simp [Op.operands])),ev_congr (hc y (by simp [Op.operands]))]
  | unOp o ty x=>cases o<;>simp only [opP,ev_congr (hc x (by simp [Op.operands]))]
  | convert s d x=>simp only [opP,ev_congr (hc x (by simp [Op.operands]))]
  | makeInterface ty x=>simp only [opP,ev_congr (hc x (by simp [Op.operands]))]
  | makeFunc f xs ys =>
    have h1:∀ x∈xs.toList,evS t x=evS t' x:=fun x hx=>hc x (by simp only [Op.operands,Array.mem_append];exact .inl (by simpa using hx))
    have h2:∀ x∈ys.toList,evS t x=evS t' x:=fun x hx=>hc x (by simp only [Op.operands,Array.mem_append];exact .inr (by simpa using hx))
    simp only [opP,evs_congr h1,evs_congr h2,caps_congr h2]
  | makeSlice ty x y=>simp only [opP,ev_congr (hc x (by simp [Op.operands])),ev_congr (hc y (by simp [Op.operands]))]
  | slice ty x l r m =>
    have h1:=hc x (by simp [Op.operands])
    simp only [opP,ev_congr h1]
    have h2:∀ v K,sliceP T t ty v l r m K=sliceP T t' ty v l r m K:=fun v K=>slice_congr (fun y hy=>hc y (by subst hy;simp [Op.operands])) (fun y hy=>hc y (by subst hy;simp [Op.operands])) (fun y hy=>hc y (by subst hy;simp [Op.operands]))
    simp only [h2]
  | lookup ty x i b=>cases b<;>simp only [opP,ev_congr (hc x (by simp [Op.operands])),ev_congr (hc i (by simp [Op.operands]))]
  | mapUpdate ty x i y=>simp only [opP,ev_congr (hc x (by simp [Op.operands])),ev_congr (hc i (by simp [Op.operands])),ev_congr (hc y (by simp [Op.operands]))]
  | fieldAddr e x f=>simp only [opP,pt_congr (hc x (by simp [Op.operands]))]
  | field e x f=>simp only [opP,ev_congr (hc x (by simp [Op.operands]))]
  | indexAddr e x i=>simp only [opP,hc x (by simp [Op.operands]),ev_congr (hc i (by simp [Op.operands]))]
  | index e x i=>simp only [opP,ev_congr (hc x (by simp [Op.operands])),ev_congr (hc i (by simp [Op.operands]))]
  | typeAssert x xt ty ok=>simp only [opP,ev_congr (hc x (by simp [Op.operands]))]
  | extract x k=>simp only [opP,ev_congr (hc x (by simp [Op.operands]))]
  | call c =>
    obtain ⟨cal,args,ats⟩:=c
    cases cal with
    | builtin b =>
      have h1:∀ x∈args.toList,evS t x=evS t' x:=fun x hx=>hc x (by simp only [Op.operands,Call.operands,Array.mem_append];exact .inr (by simpa using hx))
      simp only [opP,evs_congr h1]
    | value f=>simp only [opP]
    | invoke r n=>simp only [opP]
  | _=>simp only [opP]
end
end Go.Id
namespace Go.Id
open Go.Conc
set_option linter.unusedVariables false
def pmL:List Edge→Nat
  | []=>0
  | e::r=>match Region.binds .any e with | true=>2 ^ e.on ||| pmL r | false=>pmL r
def pm (o:Oper):Nat:=pmL o.after.toList
def orSel:List Nat→Nat→Nat→Nat
  | [],_,_=>0
  | b::r,j,m=>match Nat.testBit m j with | true=>b ||| orSel r (j+1) m | false=>orSel r (j+1) m
def bmGo:List Oper→List Nat→List Nat
  | [],acc=>acc
  | o::r,acc=>bmGo r (acc++[pm o ||| orSel acc 0 (pm o)])
def bmOf (ops:List Oper):List Nat:=bmGo ops []
def tmpsOf:List Operand→List Nat
  | []=>[]
  | .tmp j::r=>j::tmpsOf r
  | _::r=>tmpsOf r
def allB {α:Type} (p:α→Bool):List α→Bool
  | []=>true
  | x::r=>match p x with | true=>allB p r | false=>false
theorem allB_iff {α:Type} {p:α→Bool}:∀ {l:List α},allB p l=true→∀ x∈l,p x=true
  | [],_,x,h=>by cases h
  | y::r,h,x,hx=>by
    unfold allB at h
    split at h
    · rcases List.mem_cons.1 hx with rfl | hx
      · assumption
      · exact allB_iff h x hx
    · cases h
def eqO:Option Nat→Nat→Bool
  | some d,e=>Nat.beq d e
  | none,_=>false
def rdOk1 (i:Nat) (o:Oper) (d k:Nat) (ok:Oper):Bool:=match eqO ok.dst d with
  | false=>true
  | true=>match Nat.beq i k with
    | true => !(isLd o.op)
    | false=>match Nat.testBit (pm o) k with
      | true=>true
      | false=>match isLd o.op with | true=>false | false=>Nat.testBit (pm ok) i
def withIx (l:List Oper):Nat→List (Nat×Oper)
  | i=>match l with | []=>[] | o::r=>(i,o)::withIx r (i+1)
def rdOkAll (ops:List (Nat×Oper)):Bool:=allB (fun p=>allB (fun d=>allB (fun q=>rdOk1 p.1 p.2 d q.1 q.2) ops) (tmpsOf p.2.op.operands.toList)) ops
def dstsOk:List (Nat×Oper)→Bool
  | []=>true
  | (i,o)::r=>match o.dst with
    | none=>dstsOk r
    | some d=>match allB (fun q => !(eqO q.2.dst d)) r with | true=>dstsOk r | false=>false
def gdOk (ops:List (Nat×Oper)):Bool:=allB (fun p=>match p.2.guard with | none=>true | some (j,_)=>Nat.testBit (pm p.2) j) ops
def ordOk (ops:Array Oper) (bm:List Nat):List Nat→Nat→Nat→Bool
  | [],done,_=>Nat.beq done (2 ^ ops.size - 1)
  | i::r,done,ch=>match ops[i]? with
    | none=>false
    | some o=>match Nat.testBit done i with
      | true=>false
      | false=>match Nat.beq (pm o &&& done) (pm o) with
        | false=>false
        | true=>match Nat.beq ((bm.getD i 0) &&& ch) ch with
          | false=>false
          | true=>ordOk ops bm r (done ||| 2 ^ i) (match isFl o.op with | true=>ch | false=>ch ||| 2 ^ i)
def eqL:List Nat→List Nat→Bool
  | [],[]=>true
  | x::l,y::m=>match Nat.beq x y with | true=>eqL l m | false=>false
  | _,_=>false
theorem eqL_eq:∀ {l m:List Nat},eqL l m=true→l=m
  | [],[],_=>rfl
  | x::l,y::m,h=>by
    unfold eqL at h
    split at h
    · rename_i hb;rw [Nat.eq_of_beq_eq_true hb,eqL_eq h]
    · cases h
  | [],_::_,h=>by cases h
  | _::_,[],h=>by cases h
def drawOk (ops:Array Oper) (ord bm:List Nat):Bool:=match eqL (bmOf ops.toList) bm with
  | false=>false
  | true=>match ordOk ops bm ord 0 0 with
  | false=>false
  | true=>match rdOkAll (withIx ops.toList 0) with
    | false=>false
    | true=>match gdOk (withIx ops.toList 0) with
      | false=>false
      | true=>dstsOk (withIx ops.toList 0)
theorem pm_iff {l:List Edge} {j:Nat}:Nat.testBit (pmL l) j=true↔∃ e∈l,Region.binds .any e=true∧e.on=j:=by
  induction l with
  | nil=>simp [pmL]
  | cons e r ih =>
    unfold pmL
    split
    · rename_i hb
      rw [Nat.testBit_or,Bool.or_eq_true,ih,Nat.testBit_two_pow]
      constructor
      · rintro (h | ⟨e',h1,h2,h3⟩)
        · exact ⟨e,by simp,hb,by simpa using h⟩
        · exact ⟨e',by simp [h1],h2,h3⟩
      · rintro ⟨e',h1,h2,h3⟩
        rcases List.mem_cons.1 h1 with rfl | h1
        · exact .inl (by simpa using h3)
        · exact .inr ⟨e',h1,h2,h3⟩
    · rename_i hb
      rw [ih]
      constructor
      · rintro ⟨e',h1,h2,h3⟩;exact ⟨e',by simp [h1],h2,h3⟩
      · rintro ⟨e',h1,h2,h3⟩
        rcases List.mem_cons.1 h1 with rfl | h1
        · rw [hb] at h2;cases h2
        · exact ⟨e',h1,h2,h3⟩
theorem orSel_iff {m x:Nat}:∀ {l:List Nat} {j:Nat},Nat.testBit (orSel l j m) x=true→∃ k b,l[k]? = some b∧Nat.testBit m (j+k)=true∧Nat.testBit b x=true
  | [],j,h=>by simp [orSel] at h
  | b::r,j,h=>by
    unfold orSel at h
    split at h
    · rename_i hb
      rw [Nat.testBit_or,Bool.or_eq_true] at h
      rcases h with h | h
      · exact ⟨0,b,rfl,by simpa using hb,h⟩
      · obtain ⟨k,b',h1,h2,h3⟩:=orSel_iff h
        exact ⟨k+1,b',by simpa using h1,by rw [← h2];congr 1;omega,h3⟩
    · obtain ⟨k,b',h1,h2,h3⟩:=orSel_iff h
      exact ⟨k+1,b',by simpa using h1,by rw [← h2];congr 1;omega,h3⟩
def ClosedS (ops:Array Oper) (S:Nat→Prop):Prop:=∀ i o,S i→ops[i]? = some o→∀ j,Nat.testBit (pm o) j=true→S j
theorem bmGo_inv {ops:Array Oper} {S:Nat→Prop} (hc:ClosedS ops S):∀ (l:List Oper) (acc:List Nat),(∀ k:Nat,ops[acc.length+k]? = l[k]?) →
    (∀ (i b:Nat) (o:Oper),acc[i]? = some b→ops[i]? = some o→(∀ j,Nat.testBit (pm o) j=true→S j)→∀ j,Nat.testBit b j=true→S j) →
    ∀ (i b:Nat) (o:Oper),(bmGo l acc)[i]? = some b→ops[i]? = some o→(∀ j,Nat.testBit (pm o) j=true→S j)→∀ j,Nat.testBit b j=true→S j
  | [],acc,_,h=>h
  | x::r,acc,hx,h=>by
    refine bmGo_inv hc r _ (fun k => ?_) fun i b o hb ho hp j hj => ?_
    · have:=hx (k+1)
      simp only [List.length_append,List.length_cons,List.length_nil]
      rw [show acc.length+(0+1)+k=acc.length+(k+1) by omega,this];rfl
    · by_cases hi:i < acc.length
      · rw [List.getElem?_append_left hi] at hb
        exact h i b o hb ho hp j hj
      · have hi':i=acc.length:=by
          have:=(List.getElem?_eq_some_iff.1 hb).1
          simp at this;omega
        subst hi'
        simp at hb
        subst hb
        have hox:o=x:=by
          have:=hx 0
          simp at this
          rw [this] at ho;exact (Option.some.inj ho).symm
        subst hox
        rw [Nat.testBit_or,Bool.or_eq_true] at hj
        rcases hj with hj | hj
        · exact hp j hj
        · obtain ⟨k,b',h1,h2,h3⟩:=orSel_iff hj
          rw [Nat.zero_add] at h2
          have hk:k < ops.size:=by
            have h4:=(List.getElem?_eq_some_iff.1 h1).1
            have h5:=(Array.getElem?_eq_some_iff.1 ho).1
            omega
          exact h k b' ops[k] h1 (Array.getElem?_eq_getElem hk) (fun j' hj'=>hc k _ (hp k h2) (Array.getElem?_eq_getElem hk) j' hj') j h3
theorem bm_in {ops:Array Oper} {S:Nat→Prop} (hc:ClosedS ops S) {i:Nat} {o:Oper} (ho:ops[i]? = some o) (hp:∀ j,Nat.testBit (pm o) j=true→S j) {j:Nat} (hj:Nat.testBit ((bmOf ops.toList).getD i 0) j=true):S j:=by
  cases hb:(bmOf ops.toList)[i]? with
  | none=>simp [List.getD,hb] at hj
  | some b =>
    have:(bmOf ops.toList).getD i 0=b:=by simp [List.getD,hb]
    rw [this] at hj
    exact bmGo_inv hc ops.toList [] (fun k=>by simp) (fun i b o h=>by simp at h) i b o hb ho hp j hj
theorem mem_withIx {l:List Oper} {n i:Nat} {o:Oper}:(i,o)∈withIx l n↔n≤i∧l[i - n]? = some o:=by
  induction l generalizing n with
  | nil=>simp [withIx]
  | cons x r ih =>
    unfold withIx
    simp only [List.mem_cons,Prod.mk.injEq,ih]
    constructor
    · rintro (⟨rfl,rfl⟩ | ⟨h1,h2⟩)
      · exact ⟨Nat.le_refl _,by simp⟩
      · exact ⟨by omega,by rw [show i - n=(i - (n+1))+1 by omega];simpa using h2⟩
    · rintro ⟨h1,h2⟩
      by_cases hi:i=n
      · subst hi;simp at h2;exact .inl ⟨rfl,h2.symm⟩
      · exact .inr ⟨by omega,by rw [show i - n=(i - (n+1))+1 by omega] at h2;simpa using h2⟩
theorem mem_ix {ops:Array Oper} {i:Nat} {o:Oper}:(i,o)∈withIx ops.toList 0↔ops[i]? = some o:=by rw [mem_withIx];simp
theorem mem_tmpsOf {d:Nat}:∀ {l:List Operand},Operand.tmp d∈l→d∈tmpsOf l
  | .tmp j::r,h=>by
    rcases List.mem_cons.1 h with h | h
    · cases h;simp [tmpsOf]
    · simp [tmpsOf,mem_tmpsOf h]
  | .const v::r,h=>by rcases List.mem_cons.1 h with h | h;cases h;exact mem_tmpsOf (l:=r) h
  | .global v::r,h=>by rcases List.mem_cons.1 h with h | h;cases h;exact mem_tmpsOf (l:=r) h
  | .func v::r,h=>by rcases List.mem_cons.1 h with h | h;cases h;exact mem_tmpsOf (l:=r) h
theorem eqO_iff {o:Option Nat} {d:Nat}:eqO o d=true↔o=some d:=by
  cases o with
  | none=>simp [eqO]
  | some e=>simp [eqO]
structure DrawOk (ops:Array Oper):Prop where
  rd:∀ (i:Nat) (o:Oper) (d k:Nat) (ok:Oper),ops[i]? = some o→ops[k]? = some ok → .tmp d∈o.op.operands→ok.dst=some d→i≠k→Nat.testBit (pm o) k=true∨(isLd o.op=false∧Nat.testBit (pm ok) i=true)
  own:∀ (i:Nat) (o:Oper) (d:Nat),ops[i]? = some o→isLd o.op=true → .tmp d∈o.op.operands→o.dst≠some d
  gd:∀ (i:Nat) (o:Oper) (j:Nat) (want:Bool),ops[i]? = some o→o.guard=some (j,want)→Nat.testBit (pm o) j=true
  dst:∀ (i:Nat) (o:Oper) (k:Nat) (ok:Oper) (d:Nat),ops[i]? = some o→ops[k]? = some ok→o.dst=some d→ok.dst=some d→i=k
theorem dsts_of:∀ {l:List (Nat×Oper)},dstsOk l=true→∀ (a b:Nat) (p q:Nat×Oper) (d:Nat),l[a]? = some p→l[b]? = some q→p.2.dst=some d→q.2.dst=some d→a=b
  | [],_,a,b,p,q,d,ha,hb,h1,h2=>by simp at ha
  | (i,o)::r,h,a,b,p,q,d,ha,hb,h1,h2=>by
    unfold dstsOk at h
    have tail:dstsOk r=true:=by
      split at h
      · exact h
      · split at h
        · exact h
        · cases h
    have head:∀ q':Nat×Oper,q'∈r→∀ d,o.dst=some d→q'.2.dst≠some d:=by
      intro q' hq d hd
      simp only [hd] at h
      split at h
      · rename_i hall
        have:=allB_iff hall q' hq
        intro e
        rw [eqO_iff.2 e] at this
        cases this
      · cases h
    cases a with
    | zero =>
      cases b with
      | zero=>rfl
      | succ b =>
        simp at ha hb
        subst ha
        exact absurd h2 (head q (List.mem_of_getElem? hb) d h1)
    | succ a =>
      cases b with
      | zero =>
        simp at ha hb
        subst hb
        exact absurd h1 (head p (List.mem_of_getElem? ha) d h2)
      | succ b =>
        simp at ha hb
        rw [dsts_of tail a b p q d ha hb h1 h2]
theorem withIx_get {l:List Oper} {n i:Nat} {o:Oper} (h:l[i]? = some o):(withIx l n)[i]? = some (n+i,o):=by
  induction l generalizing n i with
  | nil=>simp at h
  | cons x r ih =>
    cases i with
    | zero=>simp at h;subst h;simp [withIx]
    | succ i=>simp at h;simp only [withIx,List.getElem?_cons_succ];rw [ih h];congr 2;omega
theorem drawOk_spec {ops:Array Oper} {ord bm:List Nat} (h:drawOk ops ord bm=true):DrawOk ops∧bm=bmOf ops.toList∧ordOk ops bm ord 0 0=true:=by
  unfold drawOk at h
  split at h
  · cases h
  rename_i h0
  split at h
  · cases h
  · rename_i h1
    split at h
    · cases h
    · rename_i h2
      split at h
      · cases h
      · rename_i h3
        refine ⟨⟨fun i o d k ok hi hk hd hdst hne => ?_,fun i o d hi hl hd hdst => ?_,fun i o j want hi hg => ?_,fun i o k ok d hi hk h4 h5 => ?_⟩,(eqL_eq h0).symm,h1⟩
        · have a1:=allB_iff h2 (i,o) (mem_ix.2 hi)
          have a2:=allB_iff a1 d (mem_tmpsOf (by simpa using hd))
          have a3:=allB_iff a2 (k,ok) (mem_ix.2 hk)
          simp only [rdOk1,eqO_iff.2 hdst] at a3
          split at a3
          · rename_i hb;exact absurd (Nat.eq_of_beq_eq_true hb) hne
          · split at a3
            · exact .inl ‹_›
            · split at a3
              · cases a3
              · exact .inr ⟨‹_›,a3⟩
        · have a1:=allB_iff h2 (i,o) (mem_ix.2 hi)
          have a2:=allB_iff a1 d (mem_tmpsOf (by simpa using hd))
          have a3:=allB_iff a2 (i,o) (mem_ix.2 hi)
          simp only [rdOk1,eqO_iff.2 hdst,Nat.beq_refl,hl] at a3
          cases a3
        · have a1:=allB_iff h3 (i,o) (mem_ix.2 hi)
          simp only [hg] at a1
          exact a1
        · have a1:=withIx_get (n:=0) (l:=ops.toList) (i:=i) (o:=o) (by simpa using hi)
          have a2:=withIx_get (n:=0) (l:=ops.toList) (i:=k) (o:=ok) (by simpa using hk)
          exact dsts_of h i k _ _ d a1 a2 h4 h5
end Go.Id
namespace Go.Id
open Go.Conc
set_option linter.unusedVariables false
structure CallP {P:Program} (X:Ctx P) (lo:Nat) (g:FuncId) (args:List Value) (h:Hp) (K:Value→Hp→Prop):Prop where
  ex:∃ Post,Tri X lo g args h Post∧∀ v h',Post v h'→K v h'
def calleeOf (Mt:Nat→String→Option FuncId) (t:Tm) (c:Call):Option (FuncId×List Value) :=
  match c.callee,evs t c.args.toList with
  | .value (.func g),some vs=>some (g,vs)
  | .value (.tmp j),some vs=>(match ev t (.tmp j) with
    | some (.func (.func g) first cap)=>some (g,first.toList++vs++cap.toList)
    | _=>none)
  | .invoke x name,some vs=>(match ev t x with
    | some (.iface ty v)=>(match Mt ty name with | some g=>some (g,v::vs) | none=>none)
    | _=>none)
  | _,_=>none
def memN (j:Nat):List Nat→Bool
  | []=>false
  | i::r=>if i=j then true else memN j r
def isLoc (esc:List Nat):Option Nat→Bool
  | none=>false
  | some d => !(memN d esc)
structure Hint where
  esc:List Nat:=[]
  plan:List (Nat×List Nat×List Nat):=[]
def planOf:List (Nat×List Nat×List Nat)→Nat→Option (List Nat×List Nat)
  | [],_=>none
  | (i,l)::r,j=>if i=j then some l else planOf r j
def knowT (c:Operand) (q:Bool) (t:Tm):Tm:=match c with | .tmp j=>(j,.b q)::t | _=>t
def ifB (q:Bool) (x y:Prop):Prop:=match q with | true=>x | false=>y
def ifC (q:Bool) (x y:Code):Code:=match q with | true=>x | false=>y
section
variable {P:Program} (X:Ctx P) (T:Nat→Option TyI) (Mt:Nat→String→Option FuncId) (lo:Nat) (f:FuncId) (fn:Func) (esc:Hint) (Post:En)
def vcS (t:Tm) (ls:Lv) (h:Hp) (o:Oper) (K:Sl→Lv→Hp→Prop):Prop :=
  match o.op with
  | .call c=>(match c.callee with
    | .builtin _=>opP T lo (isLoc esc.esc o.dst) t ls h K o.op
    | _=>(match calleeOf Mt t c with
      | some (g,args)=>CallP X lo g args h fun v h'=>K (.v v) ls h'
      | none=>False))
  | op=>opP T lo (isLoc esc.esc o.dst) t ls h K op
def vcRun (t:Tm) (ls:Lv) (h:Hp) (o:Oper) (K:Tm→Lv→Hp→Prop):Prop:=vcS X T Mt lo esc t ls h o fun sl ls' h'=>K (t.put o.dst sl) ls' h'
def vcOp (ops:Array Oper) (t:Tm) (ls:Lv) (h:Hp) (o:Oper) (K:Tm→Lv→Hp→Prop):Prop :=
  match dstOk fn.ntmps o.dst with
  | false=>False
  | true=>match o.guard with
    | none=>vcRun X T Mt lo esc t ls h o K
    | some (j,want)=>match (ops[j]?).bind (·.dst) with
      | none=>False
      | some d=>match look t d with
        | some (.b q)=>ifB (q == want) (vcRun X T Mt lo esc t ls h o K) (K (t.put o.dst (.v undef)) ls h)
        | some (.v (.bool q))=>Cnd q fun q=>ifB (q == want) (vcRun X T Mt lo esc ((d,.b q)::t) ls h o K) (K (Tm.put ((d,.b q)::t) o.dst (.v undef)) ls h)
        | some (.v (.tuple _))=>K (t.put o.dst (.v undef)) ls h
        | _=>False
def nrm:Sl→Sl
  | .b q => .v (.bool q)
  | x=>x
def reck (ops:Array Oper) (bmc:Nat) (t:Tm) (ls:Lv) (h:Hp):List Nat→Prop→Prop
  | [],Q=>Q
  | j::r,Q=>match ops[j]? with
    | none=>False
    | some o=>match isLd o.op with
      | false=>reck ops bmc t ls h r Q
      | true=>match Nat.testBit bmc j with
        | true=>reck ops bmc t ls h r Q
        | false=>match (match o.guard with | none=>some true | some (g,want)=>(match (ops[g]?).bind (·.dst) with | none=>none | some d=>(match look t d with | some (.b q)=>some (q == want) | some (.v (.tuple _))=>some false | _=>none))) with
          | none=>False
          | some false=>reck ops bmc t ls h r Q
          | some true=>match o.dst with
            | none=>False
            | some d=>match look t d with
              | none=>False
              | some x=>FlAt T lo (isLoc esc.esc o.dst) t ls h o.op (nrm x)∧reck ops bmc t ls h r Q
def vcD (ops:Array Oper) (bm:List Nat) (K:Tm→Lv→Hp→Prop):List Nat→List Nat→Tm→Lv→Hp→Prop
  | [],_,t,ls,h=>K t ls h
  | i::r,D,t,ls,h=>match ops[i]? with
    | none=>False
    | some o=>match isFl o.op with
      | true=>vcOp X T Mt lo fn esc ops t ls h o fun t ls h=>vcD ops bm K r (i::D) t ls h
      | false=>vcOp X T Mt lo fn esc ops t ls h o fun t ls h=>reck T lo esc ops (bm.getD i 0) t ls h D (vcD ops bm K r (i::D) t ls h)
def vc:Nat→List Item→Tm→Lv→Hp→Prop
  | 0,k,t,ls,h=>R X lo f fn Post k t ls h
  | n+1,k,t,ls,h=>match k with
    | []=>(match retV T t ls fn.results.toList with | some v=>Post.post v h | none=>False)
    | .code .skip::k=>vc n k t ls h
    | .code (.label _)::k=>vc n k t ls h
    | .code (.seq a b)::k=>vc n (.code a :: .code b::k) t ls h
    | .code (.cond c x y)::k=>(match evS t c with
      | some (.b q)=>vc n (.code (ifC q x y)::k) t ls h
      | some (.v (.bool q))=>Cnd q fun q=>vc n (.code (ifC q x y)::k) (knowT c q t) ls h
      | _=>False)
    | .code (.block id b)::k=>vc n (.code b :: .inBlock id::k) t ls h
    | .code (.scope b)::k=>vc n (.code b :: .inScope b::k) t ls h
    | .code (.exit id)::k=>(match exitTo id k with | some k'=>vc n k' t ls h | none=>False)
    | .code .ret::_=>(match retV T t ls fn.results.toList with | some v=>Post.post v h | none=>False)
    | .code (.region _ ops false)::k=>vc n (.inRegion ops (List.range ops.size)::k) t ls h
    | .code (.region id ops true)::k=>(match planOf esc.plan id with
      | some (ord,bm)=>drawOk ops ord bm=true∧vcD X T Mt lo fn esc ops bm (fun t ls h=>vc n k t ls h) ord [] t ls h
      | none=>R X lo f fn Post (.code (.region id ops true)::k) t ls h)
    | .inBlock _::k=>vc n k t ls h
    | .inScope _::k=>vc n k t ls h
    | .inRegion _ []::k=>vc n k t ls h
    | .inRegion ops (i::rest)::k=>(match ops[i]? with
      | some o=>vcOp X T Mt lo fn esc ops t ls h o fun t ls h=>vc n (.inRegion ops rest::k) t ls h
      | none=>False)
    | k=>R X lo f fn Post k t ls h
end
structure MtOk (P:Program) (Mt:Nat→String→Option FuncId):Prop where
  ok:∀ ty name g,Mt ty name=some g→∀ (v:Value) (w:World),(method (P.types.size+Made.depth) ty v name).run P w = .ok (g,v) w∧∀ es,(method (P.types.size+Made.depth) ty v name).events P w es=es
section
variable {P:Program} {X:Ctx P} {T:Nat→Option TyI} {Mt:Nat→String→Option FuncId} {lo:Nat} {f:FuncId} {fn:Func} {esc:Hint} {Post:En} {k:List Item} {t:Tm} {ls:Lv} {h:Hp}
theorem R_know {j:Nat} {q:Bool} (hj:evS t (.tmp j)=some (.v (.bool q))) (H:R X lo f fn Post k ((j,.b q)::t) ls h):R X lo f fn Post k t ls h:=by
  intro s O Pr lb w b a cs Stop h1 h2 h3 h4 M tm A
  refine H s O Pr lb w b a cs Stop h1 h2 h3 h4 M (fun i x hx => ?_) A
  simp only [look] at hx
  split at hx
  · rename_i e
    subst e
    cases hx
    obtain ⟨vr,g1,g2⟩:=tm j _ hj
    exact ⟨vr,g1,VR.bool_inv g2⟩
  · exact tm i x hx
theorem callFunc_ok {g:FuncId} {fn':Func} {c:Code} (hf:P.funcs[g]? = some fn') (hname:(fn'.name == "runtime.NumGoroutine")=false) (hb:fn'.body=some c) (args:Array Value) (w:World):Dz P (fun _=>False) (callFunc g args) w fun nx w'=>nx = .enter g args∧w'=w:=by
  unfold callFunc
  refine Dz.bind (Q:=fun p w'=>p=P∧w'=w) (Dz.program ⟨rfl,rfl⟩) ?_
  rintro p w' ⟨rfl,rfl⟩
  rw [hf]
  simp only [hname,Bool.false_eq_true,if_false,hb,Option.isNone_some]
  exact Dz.pure ⟨rfl,rfl⟩
theorem calleeOf_ok (hM:MtOk P Mt) {o:Oper} {c:Call} (ho:o.op = .call c) {g:FuncId} {args:List Value} (hc:calleeOf Mt t c=some (g,args)) {fn':Func} {cd:Code} (hf:P.funcs[g]? = some fn') (hname:(fn'.name == "runtime.NumGoroutine")=false) (hb:fn'.body=some cd)
    {s:Sim} {lb:Nat→Nat} {a:Act} (tm:TmOk s lb ls.length t a.tmps):∃ argsr:Array Value,VRs s args argsr.toList∧∀ w,Dz P (fun _=>False) (execOp a.eval o) w fun nx w'=>nx = .enter g argsr∧w'=w:=by
  have hex:execOp a.eval o=(do let d ← resolve a.eval c o.type;invoke d.target d.args):=by unfold execOp;rw [ho]
  unfold calleeOf at hc
  split at hc
  · rename_i g' vs hcal hvs
    cases hc
    refine ⟨c.args.map a.eval,by simpa using evs_ok tm _ _ hvs,fun w => ?_⟩
    rw [hex]
    unfold resolve
    simp only [hcal,Act.eval,Deferred.ofValue]
    refine Dz.bind (Q:=fun d w'=>d={ target := .fn (.func g) #[],args:=#[]++c.args.map a.eval }∧w'=w) (Dz.pure ⟨rfl,rfl⟩) ?_
    rintro d w' ⟨rfl,rfl⟩
    simp only [invoke,Array.append_empty,Array.empty_append]
    exact callFunc_ok hf hname hb _ _
  · rename_i j vs hcal hvs
    split at hc
    · rename_i g' first cap hj
      cases hc
      have hv:=ev_ok tm hj
      generalize hz:a.eval (.tmp j)=z at hv
      cases hv with
      | fn _ _ _ first' cap' h1 h2 h3 h4 =>
        have e1:VRs s first.toList first'.toList:=⟨by simpa using h1,fun i v w x y=>h3 i v w (by simpa using x) (by simpa using y)⟩
        have e2:VRs s cap.toList cap'.toList:=⟨by simpa using h2,fun i v w x y=>h4 i v w (by simpa using x) (by simpa using y)⟩
        have e3:=evs_ok tm _ _ hvs
        refine ⟨first'++c.args.map a.eval++cap',by simpa using (e1.app e3).app e2,fun w => ?_⟩
        rw [hex]
        unfold resolve
        simp only [hcal,hz,Deferred.ofValue]
        refine Dz.bind (Q:=fun d w'=>d={ target := .fn (.func g) cap',args:=first'++c.args.map a.eval }∧w'=w) (Dz.pure ⟨rfl,rfl⟩) ?_
        rintro d w' ⟨rfl,rfl⟩
        simp only [invoke]
        exact callFunc_ok hf hname hb _ _
    · cases hc
  · rename_i x name vs hcal hvs
    split at hc
    · rename_i ty v hx
      split at hc
      · rename_i g' hmt
        cases hc
        have hv:=ev_ok tm hx
        generalize hz:a.eval x=z at hv
        cases hv with
        | iface _ _ v' h1 =>
          have e3:=evs_ok tm _ _ hvs
          refine ⟨#[v']++c.args.map a.eval,by simpa using VRs.cons h1 e3,fun w => ?_⟩
          rw [hex]
          unfold resolve
          simp only [hcal,hz]
          refine Dz.bind (Q:=fun d w'=>d={ target := .fn (.method name) #[],args:=#[.iface ty v']++c.args.map a.eval }∧w'=w) (Dz.pure ⟨rfl,rfl⟩) ?_
          rintro d w' ⟨rfl,rfl⟩
          have e4:(#[Value.iface ty v']++c.args.map a.eval)[0]? = some (Value.iface ty v'):=by rw [Array.getElem?_append_left (by simp)];rfl
          have e5:(#[Value.iface ty v']++c.args.map a.eval).extract 1 (#[Value.iface ty v']++c.args.map a.eval).size=c.args.map a.eval:=by
            apply Array.ext'
            simp [List.extract_eq_take_drop]
            exact List.take_of_length_le (by simp)
          simp only [invoke,e4,e5,callMethod]
          refine Dz.bind (Q:=fun p w''=>p=P∧w''=w') (Dz.program ⟨rfl,rfl⟩) ?_
          rintro p w'' ⟨rfl,rfl⟩
          obtain ⟨g1,g2⟩:=hM.ok ty name g hmt v' w''
          refine Dz.bind (Q:=fun r w'=>r=(g,v')∧w'=w'') ⟨_,_,g1,⟨rfl,rfl⟩,fun es hes=>by rw [g2];exact hes⟩ ?_
          rintro r w' ⟨rfl,rfl⟩
          exact callFunc_ok hf hname hb _ _
      · cases hc
    · cases hc
  · cases hc
theorem vcS_ok (hT:TbOk P T) (hM:MtOk P Mt) {ops:Array Oper} {i:Nat} {rest:List Nat} {o:Oper} (ho:ops[i]? = some o) (hw:∀ s lb (a:Act),TmOk s lb ls.length t a.tmps→Region.wanted o (yielded ops a.tmps)=true) (hd:dstOk fn.ntmps o.dst=true)
    {K:Sl→Lv→Hp→Prop} (hK:∀ sl ls h,K sl ls h→R X lo f fn Post (.inRegion ops rest::k) (t.put o.dst sl) ls h) (H:vcS X T Mt lo esc t ls h o K):R X lo f fn Post (.inRegion ops (i::rest)::k) t ls h:=by
  have opm:∀ (op:Op) (K K':Sl→Lv→Hp→Prop),o.op=op→True:=fun _ _ _ _=>trivial
  have viaOp:∀ (op:Op),o.op=op→opP T lo (isLoc esc.esc o.dst) t ls h K op→R X lo f fn Post (.inRegion ops (i::rest)::k) t ls h:=by
    intro op hop hop'
    intro s O Pr lb w b a cs Stop h1 h2 h3 h4 M tm A
    have hk:b.kind ≠ .early:=h2
    refine X.step _ _ _ _ rfl fun w₁ r => ?_
    have M₁:=M.rely r
    obtain ⟨nx,w₂,hr,⟨vr,hnx,s',lb',sl,ls',h',hK',Ou,hsl⟩,hev⟩:=opP_ok hT _ M₁ tm (hop▸hop')
    have hes:∀ e∈listed P b.fn a o w₁,EvOk X.N0 O e:=fun e he=>hev #[] (fun e he=>by simp at he) e (mem_listed he)
    have hstep:stepG P X.main (G (b.at a (.inRegion ops (i::rest)::k)) cs) w₁ = .go (G (b.at (a.put o.dst vr) (.inRegion ops rest::k)) cs) w₂ (listed P b.fn a o w₁):=by
      rcases hnx with rfl | ⟨rfl,rfl⟩
      · exact stepG_value ho (hw s lb a tm) hk hr
      · exact stepG_none ho (hw s lb a tm) hk hr
    refine ⟨_,w₂,_,hstep,⟨Ou.size,Ou.keep,Ou.os,Ou.out,hes⟩,?_⟩
    have tm':TmOk s' lb' ls'.length t a.tmps:=tm.mono Ou.le Ou.len Ou.lbs
    refine hK _ _ _ hK' s' _ Pr lb' w₂ b (a.put o.dst vr) cs Stop h1 h2 (by rw [put_defers];exact h3) (by rw [put_size];exact h4) Ou.mem (tm'.put (by rw [h4];exact dstOk_lt hd) hsl) ?_
    exact A.from Ou.le (OG.grow r.1) ((kept_rly M r).trans ⟨Ou.pres,fun b hb=>Ou.keep b (M₁.sim.base _ hb) fun ho=>M₁.sim.new b ho hb,Ou.size,Ou.os,Ou.out⟩)
  unfold vcS at H
  split at H
  · rename_i c hop
    split at H
    · exact viaOp _ rfl H
    · split at H
      · rename_i g args hcal
        obtain ⟨Q,hTri,hQ⟩:=H.ex
        obtain ⟨fn',cd,e1,e2,e3⟩:=hTri.1
        exact R_call ho hw hd (fun s lb a tm=>calleeOf_ok hM hop hcal e1 e2 e3 tm) (hTri.mono fun v h' hv=>hK _ _ _ (hQ v h' hv))
      · exact H.elim
  · exact viaOp _ rfl H
theorem vcRun_ok (hT:TbOk P T) (hM:MtOk P Mt) {ops:Array Oper} {i:Nat} {rest:List Nat} {o:Oper} (ho:ops[i]? = some o) (hw:∀ s lb (a:Act),TmOk s lb ls.length t a.tmps→Region.wanted o (yielded ops a.tmps)=true) (hd:dstOk fn.ntmps o.dst=true)
    {K:Tm→Lv→Hp→Prop} (hK:∀ t ls h,K t ls h→R X lo f fn Post (.inRegion ops rest::k) t ls h) (H:vcRun X T Mt lo esc t ls h o K):R X lo f fn Post (.inRegion ops (i::rest)::k) t ls h :=
  vcS_ok hT hM ho hw hd (fun sl ls h hk=>hK _ _ _ hk) H
theorem vcOp_ok (hT:TbOk P T) (hM:MtOk P Mt) {ops:Array Oper} {i:Nat} {rest:List Nat} {o:Oper} (ho:ops[i]? = some o) {K:Tm→Lv→Hp→Prop} (hK:∀ t ls h,K t ls h→R X lo f fn Post (.inRegion ops rest::k) t ls h) (H:vcOp X T Mt lo fn esc ops t ls h o K) :
    R X lo f fn Post (.inRegion ops (i::rest)::k) t ls h:=by
  unfold vcOp at H
  split at H
  · exact H.elim
  · rename_i hd
    split at H
    · rename_i hg
      exact vcRun_ok hT hM ho (fun s lb a tm=>by simp [Region.wanted,hg]) hd hK H
    · rename_i j want hg
      split at H
      · exact H.elim
      · rename_i d hdst
        have wt:∀ {t:Tm} {q:Bool},look t d=some (.b q)→∀ s lb (a:Act),TmOk s lb ls.length t a.tmps→Region.wanted o (yielded ops a.tmps)=(q == want):=by
          intro t q hq s lb a tm
          obtain ⟨vr,g1,g2⟩:=tm d _ hq
          have g2:vr = .bool q:=g2
          subst g2
          unfold Region.wanted
          rw [hg]
          simp only [yielded,hdst,Option.bind_some,g1]
          rfl
        split at H
        · rename_i q hq
          cases hqw:(q == want) with
          | true=>rw [hqw] at H;exact vcRun_ok hT hM ho (fun s lb a tm=>by rw [wt hq s lb a tm,hqw]) hd hK H
          | false=>rw [hqw] at H;exact R_unwanted ho (fun s lb a tm=>by rw [wt hq s lb a tm,hqw]) hd (hK _ _ _ H)
        · rename_i q hq
          refine R_know (j:=d) hq ?_
          have hq':look ((d,Sl.b q)::t) d=some (.b q):=by simp [look]
          have H':ifB (q == want) (vcRun X T Mt lo esc ((d,.b q)::t) ls h o K) (K (Tm.put ((d,.b q)::t) o.dst (.v undef)) ls h):=by
            cases q with
            | true=>exact H.t rfl
            | false=>exact H.f rfl
          cases hqw:(q == want) with
          | true=>rw [hqw] at H';exact vcRun_ok hT hM ho (fun s lb a tm=>by rw [wt hq' s lb a tm,hqw]) hd hK H'
          | false=>rw [hqw] at H';exact R_unwanted ho (fun s lb a tm=>by rw [wt hq' s lb a tm,hqw]) hd (hK _ _ _ H')
        · rename_i q hq
          refine R_unwanted ho (fun s lb a tm => ?_) hd (hK _ _ _ H)
          obtain ⟨vr,g1,g2⟩:=tm d _ hq
          have g2:VR s (.tuple q) vr:=g2
          cases g2
          unfold Region.wanted
          rw [hg]
          simp only [yielded,hdst,Option.bind_some,g1]
          cases want<;>rfl
        · exact H.elim
end
end Go.Id
namespace Go.Id
open Go.Conc
set_option linter.unusedVariables false
section
theorem nrm_nrm (x:Sl):nrm (nrm x)=nrm x:=by cases x<;>rfl
theorem SlR_nrm {s:Sim} {lb:Nat→Nat} {n:Nat} {x:Sl} {vr:Value}:SlR s lb n (nrm x) vr↔SlR s lb n x vr:=by
  cases x with
  | b q=>exact ⟨fun h=>VR.bool_inv h,fun h=>by rw [show vr = .bool q from h];exact VR.bool q⟩
  | _=>exact Iff.rfl
def nlook (t:Tm) (d:Nat):Option Sl:=(look t d).map nrm
theorem nlook_some {t:Tm} {d:Nat} {x:Sl} (h:nlook t d=some x):∃ y,look t d=some y∧nrm y=x:=by
  unfold nlook at h;exact Option.map_eq_some_iff.1 h
theorem nlook_put {t:Tm} {o:Option Nat} {x:Sl} {d:Nat}:nlook (t.put o x) d=if o=some d then some (nrm x) else nlook t d:=by
  cases o with
  | none=>simp [Tm.put]
  | some e =>
    simp only [Tm.put,nlook,look,Option.some.injEq]
    split<;>rfl
theorem TmOk.of_n {s:Sim} {lb:Nat→Nat} {n:Nat} {t t':Tm} {m:Array Value} (h:∀ d x,nlook t' d=some x→nlook t d=some x) (tm:TmOk s lb n t m):TmOk s lb n t' m:=by
  intro d x hx
  have h1:nlook t' d=some (nrm x):=by simp [nlook,hx]
  obtain ⟨y,h2,h3⟩:=nlook_some (h d _ h1)
  obtain ⟨vr,h4,h5⟩:=tm d y h2
  exact ⟨vr,h4,SlR_nrm.1 (h3▸SlR_nrm.2 h5)⟩
def ovl (tk tL:Tm):List Nat→Tm
  | []=>tL
  | d::r=>match look tk d with | some x=>(d,x)::ovl tk tL r | none=>ovl tk tL r
theorem nlook_none {t:Tm} {d:Nat}:nlook t d=none↔look t d=none:=by simp [nlook]
theorem look_ovl {tk tL:Tm}:∀ {ds:List Nat} {d:Nat},(∀ e∈ds,nlook tk e=nlook tL e)→look (ovl tk tL ds) d=if d∈ds then look tk d else look tL d
  | [],d,_=>by simp [ovl]
  | e::r,d,h=>by
    have ih:=look_ovl (ds:=r) (d:=d) fun e he=>h e (by simp [he])
    have he:=h e (by simp)
    unfold ovl
    split
    · rename_i x hx
      simp only [look]
      by_cases hed:e=d
      · subst hed;simp [hx]
      · rw [if_neg hed,ih];simp [Ne.symm hed]
    · rename_i hx
      rw [ih]
      by_cases hed:e=d
      · subst hed
        have hl:look tL e=none:=nlook_none.1 (he▸nlook_none.2 hx)
        simp [hx,hl]
      · simp [Ne.symm hed]
theorem nlook_ovl {tk tL:Tm} {ds:List Nat} (h:∀ e∈ds,nlook tk e=nlook tL e) (d:Nat):nlook (ovl tk tL ds) d=nlook tL d:=by
  unfold nlook
  rw [look_ovl h]
  split
  · exact h d ‹_›
  · rfl
end
section
variable {P:Program} {X:Ctx P} {T:Nat→Option TyI} {Mt:Nat→String→Option FuncId} {lo:Nat} {f:FuncId} {fn:Func} {esc:Hint} {Post:En} {k:List Item} {t:Tm} {ls:Lv} {h:Hp}
theorem R_n {t':Tm} (hs:∀ d x,nlook t' d=some x→nlook t d=some x) (H:R X lo f fn Post k t' ls h):R X lo f fn Post k t ls h :=
  fun s O Pr lb w b a cs Stop h1 h2 h3 h4 M tm A=>H s O Pr lb w b a cs Stop h1 h2 h3 h4 M (tm.of_n hs) A
theorem evS_ovl {tk tL:Tm} {ds:List Nat} (h:∀ e∈ds,nlook tk e=nlook tL e) {x:Operand} (hx:∀ d,x = .tmp d→d∈ds):evS tk x=evS (ovl tk tL ds) x:=by
  cases x with
  | tmp d=>simp only [evS];rw [look_ovl h,if_pos (hx d rfl)]
  | _=>rfl
theorem callee_congr {t t':Tm} {c:Call} (h:∀ x∈c.operands,evS t x=evS t' x):calleeOf Mt t c=calleeOf Mt t' c:=by
  obtain ⟨cal,args,ats⟩:=c
  have h1:evs t args.toList=evs t' args.toList:=evs_congr fun x hx=>h x (by simp only [Call.operands,Array.mem_append];exact .inr (by simpa using hx))
  unfold calleeOf
  simp only [h1]
  generalize evs t' args.toList=e
  cases cal with
  | value g =>
    have h2:evS t g=evS t' g:=h g (by simp [Call.operands])
    have h3:=ev_congr h2
    cases e<;>cases g<;>first | rfl | simp only [h3]
  | invoke r n =>
    have h2:evS t r=evS t' r:=h r (by simp [Call.operands])
    have h3:=ev_congr h2
    cases e<;>first | rfl | simp only [h3]
  | builtin b=>cases e<;>rfl
theorem vcS_congr {t t':Tm} {o:Oper} {K:Sl→Lv→Hp→Prop} (h1:∀ x∈o.op.operands,evS t x=evS t' x) (H:vcS X T Mt lo esc t ls h o K):vcS X T Mt lo esc t' ls h o K:=by
  unfold vcS at H ⊢
  generalize o.op=op at h1 H ⊢
  cases op with
  | call c =>
    simp only at H ⊢
    cases hc:c.callee with
    | builtin b=>simp only [hc] at H ⊢;rw [← op_congr h1];exact H
    | value g=>simp only [hc] at H ⊢;rw [← callee_congr h1];exact H
    | invoke r n=>simp only [hc] at H ⊢;rw [← callee_congr h1];exact H
  | _=>simp only at H ⊢;rw [← op_congr h1];exact H
def wv:Sl→Bool→Option Bool
  | .v (.bool q),want=>some (q == want)
  | .v (.tuple _),_=>some false
  | _,_=>none
def Wnt (ops:Array Oper) (t:Tm) (o:Oper) (w:Bool):Prop:=match o.guard with
  | none=>w=true
  | some (j,want)=>∃ d x,(ops[j]?).bind (·.dst)=some d∧nlook t d=some x∧wv x want=some w
theorem Wnt.real {ops:Array Oper} {o:Oper} {w:Bool} (h:Wnt ops t o w) {s:Sim} {lb:Nat→Nat} {n:Nat} {a:Act} (tm:TmOk s lb n t a.tmps):Region.wanted o (yielded ops a.tmps)=w:=by
  unfold Wnt at h
  unfold Region.wanted
  split at h
  · rename_i hg;rw [hg,h]
  · rename_i j want hg
    obtain ⟨d,x,h1,h2,hw⟩:=h
    obtain ⟨y,h3,h4⟩:=nlook_some h2
    obtain ⟨vr,h5,h6⟩:=tm d y h3
    have h8:SlR s lb n x vr:=h4▸SlR_nrm.2 h6
    rw [hg]
    simp only [yielded,h1,Option.bind_some,h5]
    unfold wv at hw
    split at hw
    · have h7:=VR.bool_inv (show VR s _ vr from h8)
      subst h7
      exact Option.some.inj hw
    · have h8:VR s (.tuple _) vr:=h8
      cases h8
      obtain rfl:=Option.some.inj hw
      cases want<;>rfl
    · cases hw
theorem vcOp_cases {ops:Array Oper} {o:Oper} {K:Tm→Lv→Hp→Prop} (H:vcOp X T Mt lo fn esc ops t ls h o K):dstOk fn.ntmps o.dst=true∧∃ tk,(∀ d,nlook tk d=nlook t d) ∧
    ((Wnt ops t o true∧vcS X T Mt lo esc tk ls h o fun sl ls' h'=>K (tk.put o.dst sl) ls' h')∨(Wnt ops t o false∧K (tk.put o.dst (.v undef)) ls h)):=by
  unfold vcOp at H
  split at H
  · exact H.elim
  · rename_i hd
    refine ⟨hd,?_⟩
    split at H
    · rename_i hg
      exact ⟨t,fun _=>rfl,.inl ⟨by unfold Wnt;rw [hg],H⟩⟩
    · rename_i j want hg
      split at H
      · exact H.elim
      · rename_i d hdst
        split at H
        · rename_i q hq
          have hw:Wnt ops t o (q == want):=by unfold Wnt;rw [hg];exact ⟨d,.v (.bool q),hdst,by simp [nlook,hq,nrm],rfl⟩
          refine ⟨t,fun _=>rfl,?_⟩
          cases hqw:(q == want) with
          | true=>rw [hqw] at H hw;exact .inl ⟨hw,H⟩
          | false=>rw [hqw] at H hw;exact .inr ⟨hw,H⟩
        · rename_i q hq
          have hw:Wnt ops t o (q == want):=by unfold Wnt;rw [hg];exact ⟨d,.v (.bool q),hdst,by simp [nlook,hq,nrm],rfl⟩
          refine ⟨(d,.b q)::t,fun e => ?_,?_⟩
          · simp only [nlook,look]
            split
            · rename_i e';subst e';rw [hq];rfl
            · rfl
          have H':ifB (q == want) (vcRun X T Mt lo esc ((d,.b q)::t) ls h o K) (K (Tm.put ((d,.b q)::t) o.dst (.v undef)) ls h):=by
            cases q with
            | true=>exact H.t rfl
            | false=>exact H.f rfl
          cases hqw:(q == want) with
          | true=>rw [hqw] at H' hw;exact .inl ⟨hw,H'⟩
          | false=>rw [hqw] at H' hw;exact .inr ⟨hw,H'⟩
        · rename_i q hq
          refine ⟨t,fun _=>rfl,.inr ⟨?_,H⟩⟩
          unfold Wnt;rw [hg];exact ⟨d,.v (.tuple q),hdst,by simp [nlook,hq,nrm],rfl⟩
        · exact H.elim
theorem vcS_fl {o:Oper} {K:Sl→Lv→Hp→Prop} (hf:isFl o.op=true) (H:vcS X T Mt lo esc t ls h o K):∃ sl,K sl ls h∧FlAt T lo (isLoc esc.esc o.dst) t ls h o.op sl∧(isLd o.op=false→∀ ls' h',FlAt T lo (isLoc esc.esc o.dst) t ls' h' o.op sl):=by
  unfold vcS at H
  split at H
  · rename_i c hop
    rw [hop] at hf
    simp only [isFl] at hf
    split at hf
    · rename_i hcal
      rw [hcal] at H
      rw [hop] at H ⊢
      exact fl_split (by simp [isFl,hcal]) H
    · cases hf
  · exact fl_split hf H
theorem vcS_of_fl {o:Oper} {sl:Sl} (hf:isFl o.op=true) (H:FlAt T lo (isLoc esc.esc o.dst) t ls h o.op sl):vcS X T Mt lo esc t ls h o (Is sl ls h):=by
  unfold vcS
  unfold FlAt at H
  split
  · rename_i c hop
    rw [hop] at hf H
    simp only [isFl] at hf
    split at hf
    · rename_i hcal
      rw [hcal,hop]
      exact H
    · cases hf
  · exact H
end
end Go.Id
