import Derived.WalkKit
import Derived.RangeFuncIn
import Derived.RangeFuncRecord
import Derived.Orders
import Derived.Scope
import Derived.OrdersIn
set_option linter.unusedVariables false
set_option linter.unusedSimpArgs false
namespace Go.Pv
structure NT where
  n:Nat
  rd:Bool
  ds:List Deferred
structure mJ (rd:Bool) (F:Fence):Prop where
  fn:∀ f,F.fn f
  depth:F.depth=none
  alive:F.alive=false
  round:rd=false->F.round=none
theorem aOM {rd:Bool}:mJ rd Fence.wide:=⟨λ_=>trivial,rfl,rfl,λ_=>rfl⟩
section
variable {rd:Bool} {F:Fence} {P:Program}
theorem mJ.room (h:mJ rd F) (n:Nat):F.room n:=λ_ hd=>by rw [h.depth] at hd;cases hd
theorem mJ.fenced (h:mJ rd F) (m:Machine):m.fenced P F:=by
  intro g _
  exact ⟨λha=>(by rw [h.alive] at ha;cases ha),Or.inl (h.fn _),λ_ _=>h.fn _,h.room _⟩
theorem mJ.steps (h:mJ rd F) {m m':Machine}:StepsIn (Machine.fenced P F) P m m'↔Steps P m m' :=
  ⟨StepsIn.steps,λk=>(StepsIn.of_steps k).mono λm _=>h.fenced m⟩
theorem mJ.comes (h:mJ rd F) {m m':Machine} {e:Ending} (k:Comes P m m' e):ComesIn (Machine.fenced P F) P m m' e:=by
  cases e with
  | returned v=>exact h.steps.2 k
  | panicked chain=>exact h.steps.2 k
  | outgrown=>exact k
theorem mJ.calls (h:mJ rd F) {n:Nat} {f:FuncId} {args:Array Value} {w:World} {R:Ending->World->Prop} (k:Calls P f args w R):CallsIn F n P f args w R :=
  ⟨h.fn f,λcs _=>let ⟨e,w',fr,r,s,x⟩:=k cs;⟨e,w',fr,r,h.comes s,x⟩⟩
theorem mJ.rows (h:mJ rd F) {n:Nat} {f:String} {args:Array Value} {w:World} {R:Value->World->Prop} (k:Rows P f args w R):RowsIn F n P f args w R :=
  λc cs _=>let ⟨v,w',r,s⟩:=k c cs;⟨v,w',r,h.steps.2 s⟩
def mV (o:Oper):Bool:=match o.op with
  | .defer _=>false
  | _=>true
theorem aQ9 {o:Oper} (h:mV o=true):∀ c,o.op≠.defer c:=λc hc=>by simp [mV,hc] at h
theorem mJ.oper (h:mJ rd F) {n:Nat} {o:Oper} {a:Act} {w:World} {K:Act->World->Prop} {Q:Go.Exit->Act->World->Prop} (hd:mV o=true) (k:o.wp P a w K Q):o.wpIn F n P a w K Q:=by
  refine ⟨λf _=>h.fn f,?_⟩
  rw [Oper.semAt_eq _ _ _ (aQ9 hd)]
  unfold Oper.wp at k
  generalize (execOp a.eval o).run P w=r at *
  have hdep:F.depth.isSome=true->1<=n:=λhs=>by rw [h.depth] at hs;cases hs
  cases r with
  | ok x w' =>
    cases x <;> simp only [Oper.upon,Oper.uponIn] at k ⊢ <;>
      first
        | exact k
        | exact ⟨hdep,h.calls k⟩
        | exact ⟨hdep,h.rows k⟩
        | exact k.elim
  | halt x w'=>cases x <;> simp only [Oper.upon,Oper.uponIn] at k ⊢ <;> first | exact k | exact k.elim
theorem mJ.ops (h:mJ rd F) {n:Nat} {ops:Array Oper} {Q:Go.Exit->Act->World->Prop} (hd:ops.all mV=true) (hq:¬ LetsOut Q) :
    ∀ (l:List Nat) (a:Act) (w:World),wpOps P ops Q l a w->wpOpsIn F n P ops Q l a w
  | [],a,w,k=>k
  | i :: rest,a,w,k=>by
    simp only [wpOps,wpOpsIn] at k ⊢
    cases ho:ops[i]? with
    | none=>simp only [ho] at k ⊢;exact h.ops hd hq rest a w k
    | some o =>
      simp only [ho] at k ⊢
      have hdo:mV o=true:=by
        rw [Array.all_eq_true] at hd
        obtain ⟨hi,e⟩:=Array.getElem?_eq_some_iff.1 ho
        exact e ▸ hd i hi
      split
      · rename_i hw
        simp only [hw,if_true] at k
        rcases k with k | ⟨_,a1,w1,k⟩
        · have:=h.oper (n:=n) hdo k
          exact Oper.wpIn_mono (λa w hh=>h.ops hd hq rest a w hh) this
        · exact (hq ⟨a1,w1,k⟩).elim
      · rename_i hw
        simp only [hw] at k
        exact ⟨λf _=>h.fn f,h.ops hd hq rest _ w k⟩
end
def kT (rd:Bool) (P:Program) (c:Code) (Q:Go.Exit->Act->World->Prop) (a:Act) (w:World):Prop:=∀ F:Fence,mJ rd F->c.wpIn F 0 P Q a w
section
variable {rd:Bool} {P:Program} {Q Q':Go.Exit->Act->World->Prop} {a:Act} {w:World} {c x y:Code}
theorem nL (h:kT rd P c Q a w) (hq:∀ e a w,Q e a w->Q' e a w):kT rd P c Q' a w:=λF hF=>wpIn_mono (h F hF) hq
theorem aVK (h:Q .normal a w):kT rd P .skip Q a w:=λ_ _=>wpIn_skip h
theorem aYU {l:Nat} (h:Q .normal a w):kT rd P (.label l) Q a w:=λ_ _=>wpIn_label h
theorem aV4 {id:Nat} (h:Q (.exit id) a w):kT rd P (.exit id) Q a w:=λ_ _=>wpIn_exit h
theorem aOK (h:Q .ret a w):kT rd P .ret Q a w:=λ_ _=>wpIn_ret h
theorem aW9 (h:kT rd P x (Go.Exit.then (kT rd P y Q) Q) a w):kT rd P (.seq x y) Q a w:=λF hF =>
  wpIn_seq (wpIn_mono (h F hF) λe a w q=>by
    cases e with
    | normal=>exact q F hF
    | _=>exact q)
theorem aK4 {o:Operand} {t:Bool} (hc:a.eval o=.bool t) (ht:t=true->kT rd P x Q a w) (hf:t=false->kT rd P y Q a w):kT rd P (.cond o x y) Q a w :=
  λF hF=>wpIn_cond_split hc (λh=>ht h F hF) (λh=>hf h F hF)
theorem aY0 {id:Nat} (h:kT rd P c (Go.Exit.inBlock id Q) a w):kT rd P (.block id c) Q a w:=λF hF=>wpIn_block (h F hF)
theorem aUQ {id:Nat} {ops:Array Oper} (hd:ops.all mV=true) (hq:¬ LetsOut Q) (h:wpOps P ops Q (List.range ops.size) a w):kT rd P (.region id ops false) Q a w :=
  λF hF=>wpIn_region (hF.ops hd hq _ _ _ h)
theorem aXP {id:Nat} {ops:Array Oper} (hm:P.follows .mixedOrders=true) (hd:ops.all mV=true) (hq:¬ LetsOut Q)
    (h:wpAny P .any ops Q ops.size (Array.replicate ops.size false) a { w with drawn:=w.drawn+1 }):kT rd P (.region id ops true) Q a w :=
  λF hF=>wpIn_region_draw λt=>hF.ops hd hq _ _ _ (by
    simp only [Region.schedule,hm,Bool.true_or,if_true]
    exact wpAny_sound ops.size t _ a _ h)
theorem aQW {K:Act->World->Prop} {id:Nat} {ops:Array Oper} (hd:ops.all mV=true) (h:wpOps P ops (λe a w=>e=.normal/\K a w) (List.range ops.size) a w) :
    kT rd P (.region id ops false) (λe a w=>e=.normal/\K a w) a w:=aUQ hd (λ⟨_,_,h,_⟩=>nomatch h) h
theorem WM {K:Act->World->Prop} {id:Nat} {ops:Array Oper} (hm:P.follows .mixedOrders=true) (hd:ops.all mV=true)
    (h:wpAny P .any ops (λe a w=>e=.normal/\K a w) ops.size (Array.replicate ops.size false) a { w with drawn:=w.drawn+1 }) :
    kT rd P (.region id ops true) (λe a w=>e=.normal/\K a w) a w:=aXP hm hd (λ⟨_,_,h,_⟩=>nomatch h) h
theorem aJV {b:Frame} {k:List Item} {cs:List Frame} {c:Code}:step P (lone (b.atR a (.code (.scope c) :: k)) cs w)=.next (lone (b.atR a (.code c :: .inScope c :: k)) cs w) :=
  step_lone_go (by simp [stepG,stepG.exec,Frame.atR])
theorem aXF {b:Frame} {k:List Item} {cs:List Frame} {c:Code}:step P (lone (b.atR a (.inScope c :: k)) cs w)=.next (lone (b.atR a k) cs w) :=
  step_lone_go (by simp [stepG,stepG.exec,Frame.atR])
theorem aGW (h:kT rd P c (Go.Exit.noGoto Q) a w):kT rd P (.scope c) Q a w:=by
  intro F hF b k cs hro hb hr
  obtain ⟨e,a₁,w₁,hq,harr⟩:=h F hF b (.inScope c :: k) cs hro hb hr
  have st:StepsIn (Machine.fenced P F) P (lone (b.atR a (.code (.scope c) :: k)) cs w) (lone (b.atR a (.code c :: .inScope c :: k)) cs w):=hF.steps.2 (.one aJV)
  have hx:∀ id,exitTo id (.inScope c :: k)=exitTo id k:=λid=>by simp [exitTo]
  cases e with
  | normal=>exact ⟨.normal,a₁,w₁,hq,(StepsIn.trans st harr).trans (hF.steps.2 (.one aXF))⟩
  | exit id=>exact ⟨.exit id,a₁,w₁,hq,λk' hk=>st.trans (harr.1 k' (by rw [hx];exact hk)),λhr' hk=>let ⟨k₁,h1,h2⟩:=harr.2 hr' (by rw [hx];exact hk);⟨k₁,h1,st.trans h2⟩⟩
  | goto l=>exact hq.elim
  | ret=>exact ⟨_,a₁,w₁,hq,.of_steps st harr⟩
  | panic ch=>exact ⟨_,a₁,w₁,hq,.of_steps st harr⟩
  | outgrown=>exact ⟨_,a₁,w₁,hq,.of_steps st harr⟩
theorem aYR {f:FuncId} {fn:Func} {args:Array Value} {R:Ending->World->Prop} (hf:P.funcs[f]?=some fn) (hb:fn.body=some c)
    (h:kT false P c (bodyPost P fn R) { tmps:=args++Array.replicate (fn.ntmps-args.size) undef,defers:=[] } w):Calls P f args w R :=
  callsIn_wide.1 (callsIn_of_wp (n:=0) hf hb trivial (h _ aOM))
end
inductive AV where
  | sc (v:Value)
  | list (sz:Nat) (xs:List (List AV))
  | pp (cells:List AV)
  | pt (id aU row off:Nat)
  | sl (id aU off len:Nat)
  | agg (cells:List AV)
  | fn (f:Fn) (first cap:List AV)
  | iK (t:TypeId) (v:AV)
  | bT (vs:List AV)
  | mp (ks:List Int) (vs:List AV)
  deriving Inhabited
structure Mu where
  nil:Bool
  b:Nat
  sz:Nat
  ct:Nat
  aU:Nat
structure Sit where
  w:World
  Im:Nat->Prop
  mu:Nat->Option Mu
  used:Nat->Prop
inductive VR (s:Sit):AV->Value->Prop where
  | sc (v:Value):VR s (.sc v) v
  | nil (sz:Nat):VR s (.list sz []) (.slice none 0 0)
  | emp (sz:Nat) (a:Addr):VR s (.list sz []) (.slice (some a) 0 0)
  | list {sz:Nat} {xs:List (List AV)} {b off cap:Nat} (f:Nat->Nat->Value) (hI:s.Im b) (hc:xs.length<=cap) (hm:cap<=maxLen)
      (hr:∀ (i:Nat) (r:List AV),xs[i]?=some r->r.length=sz)
      (hf:∀ (i:Nat) (r:List AV) (j:Nat) (x:AV),xs[i]?=some r->r[j]?=some x->s.w.cell? ⟨b,off+i*sz+j,none⟩=some (f i j))
      (hv:∀ (i:Nat) (r:List AV) (j:Nat) (x:AV),xs[i]?=some r->r[j]?=some x->VR s x (f i j)) :
      VR s (.list sz xs) (.slice (some ⟨b,off,none⟩) xs.length cap)
  | pp {cs:List AV} {b off:Nat} (f:Nat->Value) (hI:s.Im b)
      (hf:∀ (j:Nat) (x:AV),cs[j]?=some x->s.w.cell? ⟨b,off+j,none⟩=some (f j))
      (hv:∀ (j:Nat) (x:AV),cs[j]?=some x->VR s x (f j)):VR s (.pp cs) (.pointer (some ⟨b,off,none⟩))
  | pt {id aU row off:Nat} {v:Value} (hk:s.used aU) (h1:v.oneCell'=true)
      (h:∀ m,s.mu id=some m->m.aU=aU->m.nil=false->v=.pointer (some ⟨m.b,row*m.sz+off,none⟩)):VR s (.pt id aU row off) v
  | sl {id aU off len:Nat} {v:Value} (hk:s.used aU) (h1:v.oneCell'=true)
      (h:∀ m,s.mu id=some m->m.aU=aU->(m.nil=true->v=.slice none 0 0/\len=0)/\(m.nil=false->∃ cap,v=.slice (some ⟨m.b,off*m.sz,none⟩) len cap/\len<=cap/\off+cap<=m.ct)):VR s (.sl id aU off len) v
  | agg {cs:List AV} {vs:Array Value} (hl:cs.length=vs.size)
      (hv:∀ (i:Nat) (x:AV) (v:Value),cs[i]?=some x->vs[i]?=some v->VR s x v):VR s (.agg cs) (.agg vs)
  | fn {f:Fn} {a c:List AV} {a' c':Array Value} (hl:a.length=a'.size) (hl':c.length=c'.size)
      (hv:∀ (i:Nat) (x:AV) (v:Value),a[i]?=some x->a'[i]?=some v->VR s x v)
      (hv':∀ (i:Nat) (x:AV) (v:Value),c[i]?=some x->c'[i]?=some v->VR s x v):VR s (.fn f a c) (.func f a' c')
  | iK {t:TypeId} {x:AV} {v:Value} (h:VR s x v):VR s (.iK t x) (.iface t v)
  | bT {cs:List AV} {vs:Array Value} (hl:cs.length=vs.size)
      (hv:∀ (i:Nat) (x:AV) (v:Value),cs[i]?=some x->vs[i]?=some v->VR s x v):VR s (.bT cs) (.tuple vs)
  | mp {ks:List Int} {xs:List AV} {b clock:Nat} {es:Array MapEntry} (hI:s.Im b) (hb:s.w.heap[b]?=some (.map es clock)) (hk:es.toList.map (·.key)=ks.map (Value.int .i64)) (hl:xs.length=es.toList.length)
      (hv:∀ (i:Nat) (x:AV) (e:MapEntry),xs[i]?=some x->es.toList[i]?=some e->VR s x e.val):VR s (.mp ks xs) (.map (some b))
structure bZ where
  elem:TypeId
  sz:Nat
  mt:Bool
  app:Bool
  aU:Nat
  rows:List (List AV)
abbrev AH:=Nat->Option bZ
structure vE (s:Sit) (o:bZ) (m:Mu) (cur:Array Value) (fr:Nat×Nat):Prop where
  hnil:m.nil=false
  hb:s.w.heap[m.b]?=some (.cells cur o.elem fr)
  hfr:∀ k,k<cur.size->¬ (fr.1<=k/\k<fr.2)
  happ:o.app=true->fr=(0,0)
  hcs:cur.size=m.ct*o.sz
  hct:m.ct<=maxLen
  hlen:o.rows.length<=m.ct
  hr:∀ (i:Nat) (r:List AV),o.rows[i]?=some r->r.length=o.sz
  hv:∀ (i:Nat) (r:List AV) (j:Nat) (x:AV) (v:Value),o.rows[i]?=some r->r[j]?=some x->cur[i*o.sz+j]?=some v->VR s x v
  h1:∀ (k:Nat) (v:Value),cur[k]?=some v->v.oneCell'=true
  him:o.mt=false->s.Im m.b
  kV:o.mt=true->¬ s.Im m.b
structure aUZ (s:Sit) (id:Nat) (o:bZ) (m:Mu):Prop where
  hm:s.mu id=some m
  dV:m.aU=o.aU
  hsz:m.sz=o.sz
  hk:s.used o.aU
  body:(m.nil=true/\o.rows=[])\/∃ cur fr,vE s o m cur fr
structure HR (s:Sit) (H:AH):Prop where
  obj:∀ id o,H id=some o->∃ m,aUZ s id o m
  lN:∀ id id' o o' m m',H id=some o->H id'=some o'->s.mu id=some m->s.mu id'=some m'->m.nil=false->m'.nil=false->m.b=m'.b->id=id'
  im:∀ b,s.Im b->b<s.w.heap.size
  fin:∃ C,∀ k,C<=k->¬ s.used k
def kX (s:Sit) (H:AH) (b:Nat):Prop:=∃ id o m,H id=some o/\o.mt=true/\s.mu id=some m/\m.nil=false/\m.b=b
structure Fr (s:Sit) (H:AH) (s':Sit) (H':AH):Prop where
  os:s'.w.os=s.w.os
  tape:s'.w.tape=s.w.tape
  output:s'.w.output=s.w.output
  size:s.w.heap.size<=s'.w.heap.size
  keep:∀ b,b<s.w.heap.size->¬ kX s H b->s'.w.heap[b]?=s.w.heap[b]?
  nW:∀ b,s.Im b->s'.Im b
  mR:∀ b,b<s.w.heap.size->¬ kX s H b->s'.Im b->s.Im b
  own:∀ b,b<s.w.heap.size->kX s' H' b->kX s H b
  vals:∀ x v,VR s x v->VR s' x v
  p8:∀ k,s.used k->s'.used k
theorem Fr.refl (s:Sit) (H:AH):Fr s H s H :=
  ⟨rfl,rfl,rfl,Nat.le_refl _,λ_ _ _=>rfl,λ_ h=>h,λ_ _ _ h=>h,λ_ _ h=>h,λ_ _ h=>h,λ_ h=>h⟩
theorem Fr.trans {s s1 s2:Sit} {H H1 H2:AH} (h:Fr s H s1 H1) (k:Fr s1 H1 s2 H2):Fr s H s2 H2 where
  os:=k.os.trans h.os
  tape:=k.tape.trans h.tape
  output:=k.output.trans h.output
  size:=Nat.le_trans h.size k.size
  keep:=λb hb ho=>(k.keep b (Nat.lt_of_lt_of_le hb h.size) (λh'=>ho (h.own b hb h'))).trans (h.keep b hb ho)
  nW:=λb hb=>k.nW b (h.nW b hb)
  mR:=λb hb ho hi=>h.mR b hb ho (k.mR b (Nat.lt_of_lt_of_le hb h.size) (λh'=>ho (h.own b hb h')) hi)
  own:=λb hb ho=>h.own b hb (k.own b (Nat.lt_of_lt_of_le hb h.size) ho)
  vals:=λx v hx=>k.vals x v (h.vals x v hx)
  p8:=λi hi=>k.p8 i (h.p8 i hi)
theorem cell_of_heap {w w':World} {a:Addr} (h:w'.heap[a.block]?=w.heap[a.block]?):w'.cell? a=w.cell? a:=by simp [World.cell?,h]
theorem VR.mono {s s':Sit} (hI:∀ b,s.Im b->s'.Im b/\s'.w.heap[b]?=s.w.heap[b]?)
    (hm:∀ id m',s'.mu id=some m'->s.mu id=some m'\/¬ s.used m'.aU) (hk:∀ k,s.used k->s'.used k) {x:AV} {v:Value} (h:VR s x v):VR s' x v:=by
  induction h with
  | sc v=>exact .sc v
  | nil sz=>exact .nil sz
  | emp sz a=>exact .emp sz a
  | list f hI' hc hm' hr hf _ ih =>
    exact .list f (hI _ hI').1 hc hm' hr (λi r j x h1 h2=>(cell_of_heap (hI _ hI').2).trans (hf i r j x h1 h2)) ih
  | pp f hI' hf _ ih=>exact .pp f (hI _ hI').1 (λj x h1=>(cell_of_heap (hI _ hI').2).trans (hf j x h1)) ih
  | pt hk' h1 h =>
    refine .pt (hk _ hk') h1 λm hm1 hv=>?_
    rcases hm _ _ hm1 with h2 | h2
    · exact h m h2 hv
    · exact absurd (hv ▸ hk') h2
  | sl hk' h1 h =>
    refine .sl (hk _ hk') h1 λm hm1 hv=>?_
    rcases hm _ _ hm1 with h2 | h2
    · exact h m h2 hv
    · exact absurd (hv ▸ hk') h2
  | agg hl _ ih=>exact .agg hl ih
  | fn hl hl' _ _ ih ih'=>exact .fn hl hl' ih ih'
  | iK _ ih=>exact .iK ih
  | bT hl _ ih=>exact .bT hl ih
  | mp hI' hb hk hl _ ih=>exact .mp (hI _ hI').1 ((hI _ hI').2.trans hb) hk hl ih
structure AS where
  sl:Nat->Option AV
  hp:AH
def upd {α:Type} (f:Nat->Option α) (t:Nat) (v:Option α):Nat->Option α:=λi=>bif Nat.beq i t then v else f i
theorem upd_same {α:Type} (f:Nat->Option α) (t:Nat) (v:Option α):upd f t v t=v:=by simp [upd]
theorem upd_ne {α:Type} (f:Nat->Option α) {t i:Nat} (v:Option α) (h:i≠t):upd f t v i=f i:=by
  have:Nat.beq i t=false:=by cases hb:Nat.beq i t with | false=>rfl | true=>exact absurd (Nat.eq_of_beq_eq_true hb) h
  simp only [upd,this,cond_false]
def AS.put (S:AS) (d:Option Tmp) (v:AV):AS :=
  match d with
  | none=>S
  | some t=>{ S with sl:=upd S.sl t (some v) }
def AS.ev (S:AS):Operand->Option AV
  | .tmp t=>S.sl t
  | .const v=>some (.sc v)
  | .global g=>some (.sc (.pointer (some ⟨g,0,none⟩)))
  | .func f=>some (.fn (.func f) [] [])
structure SR (n:NT) (s:Sit) (S:AS) (a:Act):Prop where
  size:a.tmps.size=n.n
  defers:a.defers=n.ds
  slot:∀ t x,S.sl t=some x->∃ v,a.tmps[t]?=some v/\VR s x v
  heap:HR s S.hp
def Tr (P:Program) (n:NT) (c:Code) (S:AS) (Q:Exit->AS->Prop):Prop :=
  ∀ s a,SR n s S a->kT n.rd P c (λe a' w'=>∃ S' s',w'=s'.w/\Q e S'/\SR n s' S' a'/\Fr s S.hp s' S'.hp) a s.w
section
variable {P:Program} {n:NT} {S:AS} {Q:Exit->AS->Prop}
theorem Tr.mono {c:Code} {Q':Exit->AS->Prop} (h:Tr P n c S Q) (hq:∀ e S,Q e S->Q' e S):Tr P n c S Q' :=
  λs a hs=>nL (h s a hs) λ_ _ _ ⟨S',s',h1,h2,h3⟩=>⟨S',s',h1,hq _ _ h2,h3⟩
theorem aLC (h:Q .normal S):Tr P n .skip S Q:=λs _ hs=>aVK ⟨S,s,rfl,h,hs,Fr.refl _ _⟩
theorem aNU {l:Nat} (h:Q .normal S):Tr P n (.label l) S Q:=λs _ hs=>aYU ⟨S,s,rfl,h,hs,Fr.refl _ _⟩
theorem aUI {id:Nat} (h:Q (.exit id) S):Tr P n (.exit id) S Q:=λs _ hs=>aV4 ⟨S,s,rfl,h,hs,Fr.refl _ _⟩
theorem aXB (h:Q .ret S):Tr P n .ret S Q:=λs _ hs=>aOK ⟨S,s,rfl,h,hs,Fr.refl _ _⟩
@[reducible] def Exit.thn (next:AS->Prop) (Q:Exit->AS->Prop):Exit->AS->Prop
  | .normal,S=>next S
  | e,S=>Q e S
theorem aX7 {x y:Code} (h:Tr P n x S (Exit.thn (λS'=>Tr P n y S' Q) Q)):Tr P n (.seq x y) S Q:=by
  intro s a hs
  refine aW9 (nL (h s a hs) ?_)
  rintro e a1 w1 ⟨S1,s1,rfl,hq,hs1,hf1⟩
  cases e with
  | normal =>
    exact nL (hq s1 a1 hs1) λe a2 w2 ⟨S2,s2,h1,h2,h3,h4⟩=>⟨S2,s2,h1,h2,h3,hf1.trans h4⟩
  | _=>exact ⟨S1,s1,rfl,hq,hs1,hf1⟩
theorem aDR {s:Sit} {a:Act} {x:AV} {o:Operand} (hs:SR n s S a) (h:S.ev o=some x):VR s x (a.eval o):=by
  cases o with
  | tmp t =>
    obtain ⟨v,h1,h2⟩:=hs.slot t x h
    have:a.eval (.tmp t)=v:=by simp [Act.eval,h1]
    rw [this];exact h2
  | const v=>simp only [AS.ev,Option.some.injEq] at h;subst h;exact .sc _
  | global g=>simp only [AS.ev,Option.some.injEq] at h;subst h;exact .sc _
  | func f=>simp only [AS.ev,Option.some.injEq] at h;subst h;exact .fn rfl rfl (by simp) (by simp)
theorem VR.iY {s:Sit} {u v:Value} (h:VR s (.sc u) v):v=u:=by cases h;rfl
theorem aPA {c:Operand} {x y:Code} {t:Bool} (hc:S.ev c=some (.sc (.bool t)))
    (ht:t=true->Tr P n x S Q) (hf:t=false->Tr P n y S Q):Tr P n (.cond c x y) S Q:=by
  intro s a hs
  have:=VR.iY (aDR hs hc)
  exact aK4 this (λh=>ht h s a hs) (λh=>hf h s a hs)
@[reducible] def Exit.aC0 (id:Nat) (Q:Exit->AS->Prop):Exit->AS->Prop
  | .exit id',S=>if id'=id then Q .normal S else Q (.exit id') S
  | e,S=>Q e S
theorem aBZ {id:Nat} {c:Code} (h:Tr P n c S (Exit.aC0 id Q)):Tr P n (.block id c) S Q:=by
  intro s a hs
  refine aY0 (nL (h s a hs) ?_)
  rintro e a1 w1 ⟨S1,s1,rfl,hq,hs1,hf1⟩
  cases e with
  | exit id' =>
    simp only [Exit.aC0] at hq
    simp only [Exit.inBlock]
    split
    · rename_i he;rw [if_pos he] at hq;exact ⟨S1,s1,rfl,hq,hs1,hf1⟩
    · rename_i he;rw [if_neg he] at hq;exact ⟨S1,s1,rfl,hq,hs1,hf1⟩
  | _=>exact ⟨S1,s1,rfl,hq,hs1,hf1⟩
def AS.le (S S':AS):Prop:=∀ s,(∀ t x,S'.sl t=some x->∃ y,S.sl t=some y/\∀ v,VR s y v->VR s x v)/\(HR s S.hp->HR s S'.hp)/\(∀ b,kX s S'.hp b->kX s S.hp b)
theorem SR.le {s:Sit} {S':AS} {a:Act} (h:SR n s S a) (hl:S.le S'):SR n s S' a :=
  ⟨h.size,h.defers,λt x hx=>let ⟨_,h1,h2⟩:=(hl s).1 t x hx;let ⟨v,h3,h4⟩:=h.slot t _ h1;⟨v,h3,h2 v h4⟩,(hl s).2.1 h.heap⟩
theorem aZ5 {c:Code} {S':AS} (hl:S.le S') (h:Tr P n c S' Q):Tr P n c S Q:=by
  intro s a hs
  refine nL (h s a (hs.le hl)) ?_
  rintro e a1 w1 ⟨S1,s1,rfl,hq,hs1,hf1⟩
  exact ⟨S1,s1,rfl,hq,hs1,⟨hf1.os,hf1.tape,hf1.output,hf1.size,λb hb ho=>hf1.keep b hb (λh'=>ho ((hl s).2.2 b h')),hf1.nW,
    λb hb ho hi=>hf1.mR b hb (λh'=>ho ((hl s).2.2 b h')) hi,λb hb ho=>(hl s).2.2 b (hf1.own b hb ho),hf1.vals,hf1.p8⟩⟩
theorem aDN {c:Code} {ι:Type} (St:ι->AS) (μ:ι->Nat) (i₀:ι) (h₀:S.le (St i₀))
    (round:∀ i,Tr P n c (St i) (Exit.thn (λS'=>∃ j,μ j<μ i/\S'.le (St j)) Q)):Tr P n (.loop c) S Q:=by
  refine aZ5 h₀ ?_
  intro s a hs F hF b kk cs hro hb hr
  have key:∀ k i,μ i=k->∀ s a,SR n s (St i) a->∃ e a' w',(∃ S' s',w'=s'.w/\Q e S'/\SR n s' S' a'/\Fr s (St i).hp s' S'.hp) /\
      ArrivesIn (Machine.fenced P F) P (lone (b.atR a (.code c :: .inLoop c :: kk)) cs s.w) b kk cs e a' w':=by
    intro k
    induction k using Nat.strongRecOn with
    | _ k ih =>
      intro i hi s a hs
      obtain ⟨e,a1,w1,⟨S1,s1,rfl,hq,hs1,hf1⟩,harr⟩:=round i s a hs F hF b (.inLoop c :: kk) cs hro hb hr
      cases e with
      | normal =>
        obtain ⟨j,hj,hle⟩:=hq
        obtain ⟨e2,a2,w2,⟨S2,s2,rfl,hq2,hs2,hf2⟩,harr2⟩:=ih (μ j) (by omega) j rfl s1 a1 (hs1.le hle)
        refine ⟨e2,a2,s2.w,⟨S2,s2,rfl,hq2,hs2,?_⟩,.of_steps (StepsIn.trans harr (.one (hF.fenced _) stepR_inLoop)) harr2⟩
        exact hf1.trans ⟨hf2.os,hf2.tape,hf2.output,hf2.size,λb hb ho=>hf2.keep b hb (λh'=>ho ((hle s1).2.2 b h')),hf2.nW,
          λb hb ho hi=>hf2.mR b hb (λh'=>ho ((hle s1).2.2 b h')) hi,λb hb ho=>(hle s1).2.2 b (hf2.own b hb ho),hf2.vals,hf2.p8⟩
      | exit id=>exact ⟨_,a1,_,⟨S1,s1,rfl,hq,hs1,hf1⟩,.pass (x:=.inLoop c) rfl (λ_ _=>.inl (by simp)) harr⟩
      | goto l=>exact ⟨_,a1,_,⟨S1,s1,rfl,hq,hs1,hf1⟩,.pass (x:=.inLoop c) rfl (λ_ _=>.inl (by simp)) harr⟩
      | ret=>exact ⟨_,a1,_,⟨S1,s1,rfl,hq,hs1,hf1⟩,.pass (x:=.inLoop c) rfl (λ_ _=>.inl (by simp)) harr⟩
      | panic ch=>exact ⟨_,a1,_,⟨S1,s1,rfl,hq,hs1,hf1⟩,.pass (x:=.inLoop c) rfl (λ_ _=>.inl (by simp)) harr⟩
      | outgrown=>exact ⟨_,a1,_,⟨S1,s1,rfl,hq,hs1,hf1⟩,.pass (x:=.inLoop c) rfl (λ_ _=>.inl (by simp)) harr⟩
  obtain ⟨e,a',w',hq,harr⟩:=key _ i₀ rfl s a hs
  exact ⟨e,a',w',hq,.of_steps (.one (hF.fenced _) stepR_loop) harr⟩
end
section
variable {P:Program} {n:NT} {S:AS}
theorem Oper.aQX {o:Oper} {a:Act} {w:World} {K K':Act->World->Prop} {Q Q':Go.Exit->Act->World->Prop} (h:∀ a w,K a w->K' a w) (hq:∀ e a w,Q e a w->Q' e a w)
    (hh:o.wp P a w K Q):o.wp P a w K' Q':=by
  have hl:LetsOut Q->LetsOut Q':=λ⟨a,w,x⟩=>⟨a,w,hq _ _ _ x⟩
  unfold Oper.wp at *
  generalize (execOp a.eval o).run P w=r at *
  cases r with
  | ok n w' =>
    cases n <;> simp only [Oper.upon] at hh ⊢ <;>
      first
        | exact h _ _ hh
        | exact Calls.mono hh (λe w'' he=>by cases e <;> first | exact h _ _ he | exact hq _ _ _ he | exact hl he)
        | exact Rows.mono hh (λ_ _ he=>h _ _ he)
  | halt x w'=>cases x <;> simp only [Oper.upon] at hh ⊢ <;> first | exact hq _ _ _ hh | exact hh
theorem AJ {ops:Array Oper} {Q Q':Go.Exit->Act->World->Prop} (hq:∀ e a w,Q e a w->Q' e a w):∀ (l:List Nat) (a:Act) (w:World),wpOps P ops Q l a w->wpOps P ops Q' l a w
  | [],a,w,h=>hq _ _ _ h
  | i :: rest,a,w,h=>by
    simp only [wpOps] at h ⊢
    split
    · rename_i ho;simp only [ho] at h;exact AJ hq rest a w h
    · rename_i o ho
      simp only [ho] at h
      split
      · rename_i hw
        simp only [hw,if_true] at h
        exact h.imp (Oper.aQX (AJ hq rest) hq) (λ⟨h1,a,w,h2⟩=>⟨h1,a,w,hq _ _ _ h2⟩)
      · rename_i hw
        simp only [hw] at h
        exact AJ hq rest _ w h
def eG (P:Program) (o:Oper) (S:AS) (F U:Nat->Prop) (Out:AV->AH->Prop):Prop :=
  ∀ (s:Sit) (a:Act) (next:Act->World->Prop) (Q:Go.Exit->Act->World->Prop),HR s S.hp->(∀ x∈o.op.operands,∀ av,S.ev x=some av->VR s av (a.eval x))->(∀ k,F k->¬ s.used k) ->
    (∀ s' v x H',Out x H'->VR s' x v->HR s' H'->Fr s S.hp s' H'->(∀ k,s'.used k->s.used k\/U k)->next (a.put o.dst v) s'.w)->o.wp P a s.w next Q
def no:Nat->Prop:=λ_=>False
def any:Nat->Prop:=λ_=>True
theorem eG.gV {o:Oper} {F U F' U':Nat->Prop} {Out:AV->AH->Prop} (h:eG P o S F U Out) (hF:∀ k,F k->F' k) (hU:∀ k,U k->U' k):eG P o S F' U' Out :=
  λs a next Q h1 h2 h3 h4=>h s a next Q h1 h2 (λk hk=>h3 k (hF k hk)) λs' v x H' a b c d e=>h4 s' v x H' a b c d λk hk=>(e k hk).imp id (hU k)
def dW (P:Program) (o:Oper) (S:AS) (x:AV):Prop:=eG P o S no no (λy H=>y=x/\H=S.hp)
theorem lM {o:Oper} {a:Act} {w w':World} {next:Act->World->Prop} {Q:Go.Exit->Act->World->Prop} {v:Value}
    (h:(execOp a.eval o).run P w=.ok (.value v) w') (hn:next (a.put o.dst v) w'):o.wp P a w next Q:=by
  unfold Oper.wp;rw [h];exact hn
theorem aBH {o:Oper} {a:Act} {w w':World} {next:Act->World->Prop} {Q:Go.Exit->Act->World->Prop}
    (h:(execOp a.eval o).run P w=.ok .skip w') (hn:next (a.put o.dst undef) w'):o.wp P a w next Q:=by
  unfold Oper.wp;rw [h];exact hn
theorem jT {o:Oper} {x:AV} (h:∀ (s:Sit) (ρ:Operand->Value),HR s S.hp->(∀ y∈o.op.operands,∀ av,S.ev y=some av->VR s av (ρ y)) ->
    ∃ v,VR s x v/\(execOp ρ o).run P s.w=.ok (.value v) s.w):dW P o S x:=by
  intro s a next Q hH hops _ hn
  obtain ⟨v,hv,hr⟩:=h s a.eval hH hops
  exact lM hr (hn s v x S.hp ⟨rfl,rfl⟩ hv hH (Fr.refl _ _) λ_ h=>.inl h)
def Rg (P:Program) (n:NT) (ops todo:List Oper) (S:AS) (K:AS->Prop):Prop :=
  ∀ k,ops.drop k=todo->∀ s a,SR n s S a ->
    wpOps P ops.toArray (λe a' w'=>e=.normal/\∃ S' s',w'=s'.w/\K S'/\SR n s' S' a'/\Fr s S.hp s' S'.hp) (List.range' k todo.length) a s.w
theorem aP0 {id:Nat} {l:List Oper} {Q:Go.Exit->AS->Prop} (hd:l.all mV=true) (h:Rg P n l l S (Q .normal)):Tr P n (.region id l.toArray false) S Q:=by
  intro s a hs
  have:=h 0 rfl s a hs
  rw [<- List.range_eq_range'] at this
  refine nL (aQW (by simpa using hd) (by simpa using this)) ?_
  rintro e a' w' ⟨rfl,S',s',h1,h2,h3,h4⟩
  exact ⟨S',s',h1,h2,h3,h4⟩
variable {ops:List Oper} {K:AS->Prop}
theorem AF (h:K S):Rg P n ops [] S K:=λ_ _ s _ hs=>⟨rfl,S,s,rfl,h,hs,Fr.refl _ _⟩
def Wd (ops:List Oper) (S:AS) (o:Oper):Option Bool :=
  match o.guard with
  | none=>some true
  | some (j,want) =>
    match (ops[j]?).bind (·.dst) with
    | none=>some false
    | some t=>match S.sl t with
      | some (.sc (.bool b))=>some (b == want)
      | some (.sc (.tuple _))=>some false
      | _=>none
theorem qY {s:Sit} {a:Act} {o:Oper} {b:Bool} (hs:SR n s S a) (h:Wd ops S o=some b):Region.wanted o (yielded ops.toArray a.tmps)=b:=by
  unfold Wd at h
  unfold Region.wanted
  cases hg:o.guard with
  | none=>simp only [hg,Option.some.injEq] at h;simp [h]
  | some g =>
    obtain ⟨j,want⟩:=g
    rw [hg] at h
    simp only [yielded,List.getElem?_toArray] at h ⊢
    cases hd:(ops[j]?).bind (·.dst) with
    | none=>rw [hd] at h;simp at h;subst h;simp
    | some t =>
      rw [hd] at h
      simp only [Option.bind_some] at h ⊢
      cases hx:S.sl t with
      | none=>rw [hx] at h;simp at h
      | some x =>
        rw [hx] at h
        obtain ⟨v,h1,h2⟩:=hs.slot t x hx
        rw [h1]
        cases x with
        | sc u =>
          have:=h2.iY;subst this
          cases v <;> simp_all
        | _=>simp at h
theorem AS.OF (S:AS) (t:Nat) (v:AV):(S.put (some t) v).sl=upd S.sl t (some v):=rfl
theorem AS.uD (S:AS) (d:Option Tmp) (v:AV):(S.put d v).hp=S.hp:=by cases d <;> rfl
def nS (n:NT):Option Tmp->Bool
  | none=>true
  | some t=>Nat.blt t n.n
theorem SR.put {s:Sit} {a:Act} {d:Option Tmp} {x:AV} {v:Value} (hs:SR n s S a) (hd:nS n d=true) (hv:VR s x v):SR n s (S.put d x) (a.put d v):=by
  cases d with
  | none=>exact hs
  | some t =>
    have hd':t<n.n:=by simpa [nS,Nat.blt_eq] using hd
    refine ⟨by simp [Act.put,hs.size],hs.defers,λi y hy=>?_,hs.heap⟩
    by_cases hi:i=t
    · subst hi
      rw [AS.OF,upd_same] at hy
      cases hy
      exact ⟨v,by simp [Act.put,hs.size,hd'],hv⟩
    · rw [AS.OF,upd_ne _ _ hi] at hy
      obtain ⟨u,h1,h2⟩:=hs.slot i y hy
      exact ⟨u,by simp only [Act.put];rw [Array.getElem?_setIfInBounds_ne (Ne.symm hi)];exact h1,h2⟩
theorem SR.fr {s s':Sit} {H':AH} {a:Act} (hs:SR n s S a) (hH:HR s' H') (hf:Fr s S.hp s' H'):SR n s' { S with hp:=H' } a :=
  ⟨hs.size,hs.defers,λt x hx=>let ⟨v,h1,h2⟩:=hs.slot t x hx;⟨v,h1,hf.vals _ _ h2⟩,hH⟩
theorem SR.opers {s:Sit} {a:Act} (hs:SR n s S a) (o:Oper):∀ x∈o.op.operands,∀ av,S.ev x=some av->VR s av (a.eval x):=λ_ _ _ h=>aDR hs h
theorem drop_cons {α:Type} {l r:List α} {x:α} {k:Nat} (h:l.drop k=x :: r):l[k]?=some x/\l.drop (k+1)=r:=by
  constructor
  · have:=List.getElem?_drop (xs:=l) (i:=k) (j:=0)
    rw [h] at this;simpa using this.symm
  · have:l.drop (k+1)=(l.drop k).drop 1:=by rw [List.drop_drop]
    rw [this,h];rfl
theorem H8 {o:Oper} {rest:List Oper} {Out:AV->AH->Prop} (hw:Wd ops S o=some true) (hd:nS n o.dst=true) (hy:eG P o S no any Out)
    (h:∀ x H',Out x H'->Rg P n ops rest (({ S with hp:=H' }:AS).put o.dst x) K):Rg P n ops (o :: rest) S K:=by
  intro k hk s a hs
  obtain ⟨h0,h1⟩:=drop_cons hk
  rw [List.length_cons,List.range'_succ]
  simp only [wpOps,List.getElem?_toArray,h0,qY hs hw,if_true]
  refine .inl (hy s a _ _ hs.heap (hs.opers o) (λ_ h=>h.elim) ?_)
  intro s' v x H' hO hv hH hf _
  have hs':=(hs.fr hH hf).put hd hv
  have hgo:=h x H' hO (k+1) h1 s' _ hs'
  refine AJ ?_ _ _ _ hgo
  rintro e a' w' ⟨rfl,S2,s2,g1,g2,g3,g4⟩
  rw [AS.uD] at g4
  exact ⟨rfl,S2,s2,g1,g2,g3,hf.trans g4⟩
theorem aH8 {o:Oper} {rest:List Oper} (hw:Wd ops S o=some false) (hd:nS n o.dst=true)
    (h:Rg P n ops rest (S.put o.dst (.sc undef)) K):Rg P n ops (o :: rest) S K:=by
  intro k hk s a hs
  obtain ⟨h0,h1⟩:=drop_cons hk
  rw [List.length_cons,List.range'_succ]
  simp only [wpOps,List.getElem?_toArray,h0,qY hs hw,Bool.false_eq_true,if_false]
  have:=h (k+1) h1 s _ (hs.put hd (.sc undef))
  rw [AS.uD] at this
  exact this
theorem aAH {o:Oper} {rest:List Oper} {x:AV} (hw:Wd ops S o=some true) (hd:nS n o.dst=true) (hy:dW P o S x)
    (h:Rg P n ops rest (S.put o.dst x) K):Rg P n ops (o :: rest) S K :=
  H8 hw hd (hy.gV (λ_ h=>h) λ_ h=>h.elim) λ_ _ ⟨h1,h2⟩=>by subst h1 h2;exact h
section ops
variable {o:Oper}
theorem vO {x:Operand} {v:AV} (ho:o.op=.move x) (hx:S.ev x=some v):dW P o S v :=
  jT λs ρ _ h=>⟨ρ x,h x (by simp [ho,Op.operands]) v hx,by simp [execOp,ho]⟩
theorem JZ {x:Operand} {v:AV} (ho:o.op=.assign x) (hx:S.ev x=some v):dW P o S v :=
  jT λs ρ _ h=>⟨ρ x,h x (by simp [ho,Op.operands]) v hx,by simp [execOp,ho]⟩
theorem JG {x:Operand} {u r:Value} (hx:S.ev x=some (.sc u)) (hm:x∈o.op.operands)
    (hr:∀ (ρ:Operand->Value) (w:World),ρ x=u->(execOp ρ o).run P w=.ok (.value r) w):dW P o S (.sc r) :=
  jT λs ρ _ h=>⟨r,.sc r,hr ρ s.w (h x hm _ hx).iY⟩
theorem K4 {x y:Operand} {u v r:Value} (hx:S.ev x=some (.sc u)) (hy:S.ev y=some (.sc v)) (hm:x∈o.op.operands) (hm':y∈o.op.operands)
    (hr:∀ (ρ:Operand->Value) (w:World),ρ x=u->ρ y=v->(execOp ρ o).run P w=.ok (.value r) w):dW P o S (.sc r) :=
  jT λs ρ _ h=>⟨r,.sc r,hr ρ s.w (h x hm _ hx).iY (h y hm' _ hy).iY⟩
section bin
variable {T Ty:TypeId} {x y:Operand} {k:IntKind} {a b:Int}
theorem mM {op:BinOp} {u v r:Value} (ho:o.op=.binOp op T x y Ty) (hx:S.ev x=some (.sc u)) (hy:S.ev y=some (.sc v))
    (hr:∀ w,(do eqGuard op T x y u v;binOp op T u v:Sem Value).run P w=.ok r w):dW P o S (.sc r) :=
  K4 hx hy (by simp [ho,Op.operands]) (by simp [ho,Op.operands]) fun ρ w h1 h2=>by
    have:=hr w
    simp only [execOp,ho,h1,h2]
    simp only [Sem.run_bind] at this ⊢
    rw [this];rfl
theorem aUP {r:Int} (ho:o.op=.binOp .add T x y Ty) (hx:S.ev x=some (.sc (.int k a))) (hy:S.ev y=some (.sc (.int k b))) (hr:k.wrap (a+b)=r):dW P o S (.sc (.int k r)) :=
  mM ho hx hy λw=>by simp [eqGuard,binOp,Op.intArith,hr]
theorem aJJ {r:Int} (ho:o.op=.binOp .sub T x y Ty) (hx:S.ev x=some (.sc (.int k a))) (hy:S.ev y=some (.sc (.int k b))) (hr:k.wrap (a-b)=r):dW P o S (.sc (.int k r)) :=
  mM ho hx hy λw=>by simp [eqGuard,binOp,Op.intArith,hr]
theorem WU {r:Int} (ho:o.op=.binOp .mul T x y Ty) (hx:S.ev x=some (.sc (.int k a))) (hy:S.ev y=some (.sc (.int k b))) (hr:k.wrap (a*b)=r):dW P o S (.sc (.int k r)) :=
  mM ho hx hy λw=>by simp [eqGuard,binOp,Op.intArith,hr]
theorem QC {r:Int} (ho:o.op=.binOp .quo T x y Ty) (hx:S.ev x=some (.sc (.int k a))) (hy:S.ev y=some (.sc (.int k b))) (hb:b≠0) (hr:k.wrap (a.tdiv b)=r):dW P o S (.sc (.int k r)) :=
  mM ho hx hy λw=>by simp [eqGuard,binOp,Op.intDiv,hb,hr]
theorem yV {r:Int} (ho:o.op=.binOp .rem T x y Ty) (hx:S.ev x=some (.sc (.int k a))) (hy:S.ev y=some (.sc (.int k b))) (hb:b≠0) (hr:a.tmod b=r):dW P o S (.sc (.int k r)) :=
  mM ho hx hy λw=>by simp [eqGuard,binOp,Op.intDiv,hb,hr]
theorem aRT (ho:o.op=.binOp .lss T x y Ty) (hx:S.ev x=some (.sc (.int k a))) (hy:S.ev y=some (.sc (.int k b))):dW P o S (.sc (.bool (decide (a<b)))) :=
  mM ho hx hy λw=>by simp [eqGuard,binOp,Op.intCmp]
theorem a0C (ho:o.op=.binOp .leq T x y Ty) (hx:S.ev x=some (.sc (.int k a))) (hy:S.ev y=some (.sc (.int k b))):dW P o S (.sc (.bool (decide (a<=b)))) :=
  mM ho hx hy λw=>by simp [eqGuard,binOp,Op.intCmp]
theorem aRY (ho:o.op=.binOp .gtr T x y Ty) (hx:S.ev x=some (.sc (.int k a))) (hy:S.ev y=some (.sc (.int k b))):dW P o S (.sc (.bool (decide (b<a)))) :=
  mM ho hx hy λw=>by simp [eqGuard,binOp,Op.intCmp]
theorem aLU (ho:o.op=.binOp .geq T x y Ty) (hx:S.ev x=some (.sc (.int k a))) (hy:S.ev y=some (.sc (.int k b))):dW P o S (.sc (.bool (decide (b<=a)))) :=
  mM ho hx hy λw=>by simp [eqGuard,binOp,Op.intCmp]
theorem aNM (ho:o.op=.binOp .eql T x y Ty) (hx:S.ev x=some (.sc (.int k a))) (hy:S.ev y=some (.sc (.int k b))):dW P o S (.sc (.bool (decide (a=b)))) :=
  mM ho hx hy λw=>by
    have:(a == b)=decide (a=b):=by by_cases h:a=b <;> simp [h]
    simp [eqGuard,binOp,Op.intCmp,this]
theorem aWH (ho:o.op=.binOp .neq T x y Ty) (hx:S.ev x=some (.sc (.int k a))) (hy:S.ev y=some (.sc (.int k b))):dW P o S (.sc (.bool (decide (a≠b)))) :=
  mM ho hx hy λw=>by
    have:(a != b)=decide (a≠b):=by by_cases h:a=b <;> simp [h]
    simp [eqGuard,binOp,Op.intCmp,this]
theorem RG {k':IntKind} {r:Int} (ho:o.op=.binOp .shl T x y Ty) (hx:S.ev x=some (.sc (.int k a))) (hy:S.ev y=some (.sc (.int k' b))) (hb:0<=b) (hr:k.wrap (a*2 ^ (min b.toNat k.bits))=r):dW P o S (.sc (.int k r)) :=
  mM ho hx hy λw=>by simp [eqGuard,binOp,Op.shift,show ¬ b<0 by omega,hr]
theorem UY {k':IntKind} {r:Int} (ho:o.op=.binOp .shr T x y Ty) (hx:S.ev x=some (.sc (.int k a))) (hy:S.ev y=some (.sc (.int k' b))) (hb:0<=b) (hr:a.fdiv (2 ^ (min b.toNat k.bits))=r):dW P o S (.sc (.int k r)) :=
  mM ho hx hy λw=>by simp [eqGuard,binOp,Op.shift,show ¬ b<0 by omega,hr]
theorem aFH {r:Int} (ho:o.op=.binOp .and T x y Ty) (hx:S.ev x=some (.sc (.int k a))) (hy:S.ev y=some (.sc (.int k b))) (hr:k.wrap (BitVec.ofInt k.bits a &&& BitVec.ofInt k.bits b).toNat=r):dW P o S (.sc (.int k r)) :=
  mM ho hx hy λw=>by simp only [eqGuard,binOp,Op.intBits];simp [<- hr]
theorem aHN {r:Int} (ho:o.op=.binOp .or T x y Ty) (hx:S.ev x=some (.sc (.int k a))) (hy:S.ev y=some (.sc (.int k b))) (hr:k.wrap (BitVec.ofInt k.bits a ||| BitVec.ofInt k.bits b).toNat=r):dW P o S (.sc (.int k r)) :=
  mM ho hx hy λw=>by simp only [eqGuard,binOp,Op.intBits];simp [<- hr]
end bin
abbrev bs (l:List UInt8):ByteArray:=⟨l.toArray⟩
section str
variable {T Ty:TypeId} {x y:Operand} {l m:List UInt8}
theorem aD3 (ho:o.op=.binOp .neq T x y Ty) (hx:S.ev x=some (.sc (.string (bs l)))) (hy:S.ev y=some (.sc (.string (bs m)))):dW P o S (.sc (.bool (decide (l≠m)))) :=
  mM ho hx hy λw=>by
    have:(!(l == m))=decide (l≠m):=by by_cases h:l=m <;> simp [h]
    simp [eqGuard,binOp,Op.stringOp,this]
end str
end ops
end
section
variable {P:Program} {n:NT} {S:AS}
theorem addr_add (b o k:Nat):(⟨b,o,none⟩:Addr).add k=⟨b,o+k,none⟩:=by
  unfold Addr.add;split
  · subst_vars;rfl
  · rfl
def Rd (s:Sit) (b o:Nat) (cs:List AV):Prop:=∀ (j:Nat) (x:AV),cs[j]?=some x->∃ v,s.w.cell? ⟨b,o+j,none⟩=some v/\VR s x v
theorem Rd.drop {s:Sit} {b o:Nat} {cs:List AV} (h:Rd s b o cs) (k:Nat):Rd s b (o+k) (cs.drop k):=by
  intro j x hx
  rw [List.getElem?_drop] at hx
  obtain ⟨v,h1,h2⟩:=h _ _ hx
  exact ⟨v,by rw [<- h1];congr 2;omega,h2⟩
theorem VR.aHD {s:Sit} {cs:List AV} {v:Value} (h:VR s (.pp cs) v):∃ b o,v=.pointer (some ⟨b,o,none⟩)/\s.Im b/\Rd s b o cs:=by
  cases h with
  | pp f hI hf hv=>exact ⟨_,_,rfl,hI,λj x hx=>⟨_,hf j x hx,hv j x hx⟩⟩
theorem Rd.pp {s:Sit} {b o:Nat} {cs:List AV} (hI:s.Im b) (h:Rd s b o cs):VR s (.pp cs) (.pointer (some ⟨b,o,none⟩)):=by
  refine .pp (λj=>(s.w.cell? ⟨b,o+j,none⟩).getD undef) hI (λj x hx=>?_) (λj x hx=>?_)
  · obtain ⟨v,h1,_⟩:=h j x hx;simp [h1]
  · obtain ⟨v,h1,h2⟩:=h j x hx;simp [h1,h2]
theorem DO {w:World} {b o:Nat} {cur:Array Value} {e:TypeId} {fr:Nat×Nat} (h:w.heap[b]?=some (.cells cur e fr)):w.cell? ⟨b,o,none⟩=cur[o]?:=by
  simp [World.cell?,h]
theorem vE.rd {s:Sit} {o:bZ} {m:Mu} {cur:Array Value} {fr:Nat×Nat} (h:vE s o m cur fr) {i:Nat} {r:List AV} (hi:o.rows[i]?=some r):Rd s m.b (i*o.sz) r:=by
  intro j x hx
  have hi':i<o.rows.length:=(List.getElem?_eq_some_iff.1 hi).1
  have hj:j<o.sz:=by have:=(List.getElem?_eq_some_iff.1 hx).1;rw [h.hr i r hi] at this;exact this
  have hlt:i*o.sz+j<cur.size:=by
    rw [h.hcs]
    have:(i+1)*o.sz<=m.ct*o.sz:=Nat.mul_le_mul_right _ (by have:=h.hlen;omega)
    rw [Nat.add_mul] at this;omega
  refine ⟨cur[i*o.sz+j],?_,h.hv i r j x _ hi hx (by simp [hlt])⟩
  rw [DO h.hb];simp [hlt]
theorem NV {s:Sit} {id aU row off:Nat} {v:Value} {o:bZ} (hH:HR s S.hp) (ho:S.hp id=some o) (hv:o.aU=aU) (hne:o.rows≠[]) (h:VR s (.pt id aU row off) v) :
    ∃ m cur fr,s.mu id=some m/\vE s o m cur fr/\v=.pointer (some ⟨m.b,row*o.sz+off,none⟩):=by
  obtain ⟨m,hm⟩:=hH.obj id o ho
  rcases hm.body with ⟨_,h2⟩ | ⟨cur,fr,hb⟩
  · exact absurd h2 hne
  · cases h with
    | pt hk h1 h=>exact ⟨m,cur,fr,hm.hm,hb,by rw [h m hm.hm (hm.dV.trans hv) hb.hnil,hm.hsz]⟩
inductive xH (S:AS):AV->List AV->Prop
  | pp (cs:List AV):xH S (.pp cs) cs
  | pt {id aU row off:Nat} {o:bZ} {r:List AV} (ho:S.hp id=some o) (hv:o.aU=aU) (hr:o.rows[row]?=some r):xH S (.pt id aU row off) (r.drop off)
theorem xH.rd {s:Sit} {x:AV} {cs:List AV} {v:Value} (h:xH S x cs) (hH:HR s S.hp) (hv:VR s x v):∃ b o,v=.pointer (some ⟨b,o,none⟩)/\Rd s b o cs:=by
  cases h with
  | pp cs=>obtain ⟨b,o,h1,_,h2⟩:=hv.aHD;exact ⟨b,o,h1,h2⟩
  | pt ho dV hr =>
    obtain ⟨m,cur,fr,_,hb,h1⟩:=NV hH ho dV (λe=>by rw [e] at hr;simp at hr) hv
    exact ⟨_,_,h1,(hb.rd hr).drop _⟩
def gW (P:Program) (T:TypeId):Option (Nat×Bool) :=
  match P.info? T,P.underlying T with
  | some i,some (.struct _)=>some (i.size,true)
  | some i,some (.array _ _)=>some (i.size,true)
  | some i,some _=>some (i.size,false)
  | _,_=>none
theorem aAR {T:TypeId} {k:Nat} {b:Bool} (h:gW P T=some (k,b)) (w:World):(isAgg T).run P w=.ok b w:=by
  unfold gW at h
  unfold isAgg underlying
  cases hi:P.info? T with
  | none=>rw [hi] at h;simp at h
  | some i =>
    cases hu:P.underlying T with
    | none=>rw [hi,hu] at h;simp at h
    | some d=>rw [hi,hu] at h;cases d <;> simp at h <;> simp [program,hu,Sem.run,h]
theorem pR {T:TypeId} {k:Nat} {b:Bool} (h:gW P T=some (k,b)) (w:World):(sizeOf T).run P w=.ok k w:=by
  unfold gW at h
  unfold sizeOf typeInfo
  cases hi:P.info? T with
  | none=>rw [hi] at h;simp at h
  | some i =>
    cases hu:P.underlying T with
    | none=>rw [hi,hu] at h;simp at h
    | some d=>rw [hi,hu] at h;cases d <;> simp at h <;> simp [program,hi,Sem.run,h]
def kD (k:Nat) (agg:Bool) (cs:List AV):Option AV :=
  if agg then (if k<=cs.length then some (.agg (cs.take k)) else none) else cs.head?
theorem aA9 {T:TypeId} {k:Nat} {b:Bool} (h:gW P T=some (k,b)) {s:Sit} {bl o:Nat} {cs:List AV} {x:AV} (hr:Rd s bl o cs) (hx:kD k b cs=some x) :
    ∃ v,VR s x v/\(loadVar T ⟨bl,o,none⟩).run P s.w=.ok v s.w:=by
  unfold loadVar
  rw [Sem.run_bind,aAR h]
  simp only [Result.andThen_ok]
  cases b with
  | false =>
    cases cs with
    | nil=>simp [kD] at hx
    | cons c cs =>
      simp only [kD,Bool.false_eq_true,if_false,List.head?_cons,Option.some.injEq] at hx
      subst hx
      obtain ⟨v,h1,h2⟩:=hr 0 c rfl
      refine ⟨v,h2,?_⟩
      simp only [Bool.false_eq_true,if_false,run_load]
      rw [Nat.add_zero] at h1
      rw [h1]
  | true =>
    simp only [kD,if_true] at hx
    split at hx
    · rename_i hk
      cases hx
      have hc:∀ j,j<k->∃ v,s.w.cell? ⟨bl,o+j,none⟩=some v/\∀ x,cs[j]?=some x->VR s x v:=λj hj=>by
        obtain ⟨v,h1,h2⟩:=hr j cs[j] (by simp [show j<cs.length by omega])
        exact ⟨v,h1,λx hx=>by rw [List.getElem?_eq_getElem (by omega)] at hx;cases hx;exact h2⟩
      let f:Nat->Value:=λj=>(s.w.cell? ⟨bl,o+j,none⟩).getD undef
      have hrun:=run_loadCells (P:=P) s.w ⟨bl,o,none⟩ k f (λj hj=>by
        obtain ⟨v,h1,_⟩:=hc j hj
        rw [addr_add,h1];simp [f,h1])
      refine ⟨.agg ((List.range k).map f).toArray,?_,by simp only [if_true,Sem.run_bind,pR h,Result.andThen_ok,hrun,Sem.run_pure]⟩
      refine .agg (by simp;omega) λi x v h1 h2=>?_
      have hi:i<k:=by have:=(List.getElem?_eq_some_iff.1 h1).1;simp at this;omega
      obtain ⟨u,g1,g2⟩:=hc i hi
      rw [List.getElem?_take_of_lt hi] at h1
      have:v=f i:=by simpa [hi] using h2.symm
      rw [this]
      simp only [f,g1,Option.getD_some]
      exact g2 x h1
    · simp at hx
section ops
variable {o:Oper} {T:TypeId} {x y:Operand}
theorem iB {k:Nat} {b:Bool} {p:AV} {cs:List AV} {v:AV} (ho:o.op=.load T x) (hT:gW P T=some (k,b)) (hx:S.ev x=some p) (hp:xH S p cs) (hv:kD k b cs=some v):dW P o S v :=
  jT λs ρ hH h=>by
    obtain ⟨bl,off,h1,h2⟩:=hp.rd hH (h x (by simp [ho,Op.operands]) _ hx)
    obtain ⟨u,g1,g2⟩:=aA9 hT h2 hv
    exact ⟨u,g1,by simp [execOp,ho,Instr.loadAt,h1,Instr.sureAddr,g2]⟩
theorem kR {p:AV} {cs:List AV} (ho:o.op=.nilCheck x) (hx:S.ev x=some p) (hp:xH S p cs):dW P o S p :=
  jT λs ρ hH h=>by
    have hv:=h x (by simp [ho,Op.operands]) _ hx
    obtain ⟨bl,off,h1,h2⟩:=hp.rd hH hv
    rw [h1] at hv
    exact ⟨_,hv,by simp [execOp,ho,h1]⟩
def kY (P:Program) (T:TypeId) (f:Nat):Option Nat :=
  match P.underlying T with
  | some (.struct fs)=>match fs[f]? with
    | some fl=>match P.info? fl.type with
      | some i=>if i.size=0 then none else some fl.offset
      | none=>none
    | none=>none
  | _=>none
theorem aAJ {f k:Nat} (h:kY P T f=some k) (b o:Nat) (w:World):(Instr.fieldAt T (.pointer (some ⟨b,o,none⟩)) f).run P w=.ok (.pointer (some ⟨b,o+k,none⟩)) w:=by
  unfold kY at h
  cases hu:P.underlying T with
  | none=>rw [hu] at h;simp at h
  | some d =>
    rw [hu] at h
    cases d with
    | struct fs =>
      simp only at h
      cases hf:fs[f]? with
      | none=>rw [hf] at h;simp at h
      | some fl =>
        rw [hf] at h;simp only at h
        cases hi:P.info? fl.type with
        | none=>rw [hi] at h;simp at h
        | some i =>
          rw [hi] at h;simp only at h
          split at h
          · simp at h
          · rename_i hz
            cases h
            simp [Instr.fieldAt,underlying,program,hu,Sem.run,hf,Instr.sureAddr,fieldPlace,sizeOf,typeInfo,hi,hz,addr_add]
    | _=>simp at h
inductive R4:AV->Nat->AV->Prop
  | pp (cs:List AV) (k:Nat):R4 (.pp cs) k (.pp (cs.drop k))
  | pt (id aU row off k:Nat):R4 (.pt id aU row off) k (.pt id aU row (off+k))
theorem gT {f k:Nat} {p q:AV} {cs:List AV} (ho:o.op=.fieldAddr T x f) (hT:kY P T f=some k) (hx:S.ev x=some p) (hp:xH S p cs) (hq:R4 p k q):dW P o S q :=
  jT λs ρ hH h=>by
    have hv:=h x (by simp [ho,Op.operands]) _ hx
    cases hq with
    | pp cs' k =>
      obtain ⟨b,off,h1,hI,h2⟩:=hv.aHD
      exact ⟨_,(h2.drop k).pp hI,by simp [execOp,ho,h1,aAJ hT]⟩
    | pt id aU row off k =>
      cases hp with
      | pt hob dV hr =>
        obtain ⟨m,cur,fr,hm,hb,h1⟩:=NV hH hob dV (λe=>by rw [e] at hr;simp at hr) hv
        refine ⟨.pointer (some ⟨m.b,row*_+off+k,none⟩),?_,by simp only [execOp,ho,h1,Sem.run_bind,aAJ hT];rfl⟩
        cases hv with
        | pt hk hone hh =>
          refine .pt hk rfl λm' hm' hver' hnil=>?_
          rw [hm] at hm';cases hm'
          obtain ⟨m2,hm2⟩:=hH.obj _ _ hob
          have:=hm2.hm;rw [hm] at this;cases this
          rw [hm2.hsz,Nat.add_assoc]
theorem aEI {c:Operand} {b:Bool} {u v r:AV} (ho:o.op=.pick c x y) (hc:S.ev c=some (.sc (.bool b))) (hx:b=true->S.ev x=some u) (hy:b=false->S.ev y=some v)
    (hr:(bif b then u else v)=r):dW P o S r :=
  jT λs ρ hH h=>by
    have hcv:=(h c (by simp [ho,Op.operands]) _ hc).iY
    refine ⟨if b then ρ x else ρ y,?_,by simp [execOp,ho,hcv,asBool]⟩
    cases b with
    | true=>simp only [cond_true] at hr;subst hr;exact h x (by simp [ho,Op.operands]) _ (hx rfl)
    | false=>simp only [cond_false] at hr;subst hr;exact h y (by simp [ho,Op.operands]) _ (hy rfl)
theorem aR6 {src:TypeId} {k k':IntKind} {a r:Int} {d:TypeDesc} (ho:o.op=.convert src T x) (hs:P.underlying src=some d) (hT:P.underlying T=some (.int k)) (hx:S.ev x=some (.sc (.int k' a)))
    (hr:k.wrap a=r):dW P o S (.sc (.int k r)) :=
  JG hx (by simp [ho,Op.operands]) fun ρ w h1=>by
    simp [execOp,ho,h1,convert,run_underlying hs,run_underlying hT,Conv.intToInt,hr]
theorem aK1 {k:IntKind} {a r:Int} (ho:o.op=.unOp .neg T x) (hx:S.ev x=some (.sc (.int k a))) (hr:k.wrap (0-a)=r):dW P o S (.sc (.int k r)) :=
  JG hx (by simp [ho,Op.operands]) fun ρ w h1=>by subst hr;simp [execOp,ho,h1,Op.unary,Op.intArith]
theorem aNS {b r:Bool} (ho:o.op=.unOp .not T x) (hx:S.ev x=some (.sc (.bool b))) (hr:(!b)=r):dW P o S (.sc (.bool r)) :=
  JG hx (by simp [ho,Op.operands]) fun ρ w h1=>by subst hr;simp [execOp,ho,h1,Op.unary]
theorem aF5 {Ty:TypeId} {a b:Bool} (ho:o.op=.binOp .neq T x y Ty) (hT:P.underlying T=some .bool) (hx:S.ev x=some (.sc (.bool a))) (hy:S.ev y=some (.sc (.bool b))):dW P o S (.sc (.bool (decide (a≠b)))) :=
  mM ho hx hy λw=>by
    have:(!(a == b))=decide (a≠b):=by cases a <;> cases b <;> rfl
    simp only [eqGuard,Sem.run_bind]
    simp [run_neq_bool _ _ _ _ hT,<- this]
theorem X9 {Ty:TypeId} {a b:Bool} (ho:o.op=.binOp .eql T x y Ty) (hT:P.underlying T=some .bool) (hx:S.ev x=some (.sc (.bool a))) (hy:S.ev y=some (.sc (.bool b))):dW P o S (.sc (.bool (decide (a=b)))) :=
  mM ho hx hy λw=>by
    have:(a == b)=decide (a=b):=by cases a <;> cases b <;> rfl
    simp only [eqGuard,Sem.run_bind]
    simp [run_eql_bool _ _ _ _ hT,<- this]
theorem aG9 (l:List UInt8):(bs l).size=l.length:=rfl
theorem aG2 {l:List UInt8} (ho:o.op=.call { callee:=.builtin .len,args:=#[x],argTypes:=#[T] }) (hT:P.underlying T=some .string) (hx:S.ev x=some (.sc (.string (bs l)))) :
    dW P o S (.sc (.int .i64 l.length)) :=
  JG hx (by simp [ho,Op.operands,Call.operands]) fun ρ w h1=>by
    simp [execOp,ho,h1,resolve,invoke,builtin,Builtin.len_,run_underlying hT,goInt,aG9]
inductive wO (S:AS):AV->Nat->Prop
  | list (sz:Nat) (xs:List (List AV)):wO S (.list sz xs) xs.length
  | sl {id aU off len:Nat} {ob:bZ} (ho:S.hp id=some ob) (hv:ob.aU=aU):wO S (.sl id aU off len) len
  | nil (c:Nat) (a:Option Addr) (k:Nat):wO S (.sc (.slice a k c)) k
theorem wO.val {s:Sit} {p:AV} {k:Nat} {v:Value} (h:wO S p k) (hH:HR s S.hp) (hv:VR s p v):∃ a c,v=.slice a k c:=by
  cases h with
  | list sz xs=>cases hv with
    | nil=>exact ⟨_,_,rfl⟩
    | emp=>exact ⟨_,_,rfl⟩
    | list=>exact ⟨_,_,rfl⟩
  | nil c a k=>cases hv;exact ⟨_,_,rfl⟩
  | sl ho dV=>cases hv with
    | sl hk h1 h =>
      obtain ⟨m,hm⟩:=hH.obj _ _ ho
      have:=h m hm.hm (hm.dV.trans dV)
      cases hn:m.nil with
      | true=>obtain ⟨g1,g2⟩:=this.1 hn;subst g2;exact ⟨_,_,g1⟩
      | false=>obtain ⟨c,g1,_⟩:=this.2 hn;exact ⟨_,_,g1⟩
theorem vU {e:TypeId} {p:AV} {k:Nat} (ho:o.op=.call { callee:=.builtin .len,args:=#[x],argTypes:=#[T] }) (hT:P.underlying T=some (.slice e)) (hx:S.ev x=some p) (hp:wO S p k) :
    dW P o S (.sc (.int .i64 k)) :=
  jT λs ρ hH h=>by
    obtain ⟨a,c,h1⟩:=hp.val hH (h x (by simp [ho,Op.operands,Call.operands]) _ hx)
    exact ⟨_,.sc _,by simp [execOp,ho,h1,resolve,invoke,builtin,Builtin.len_,run_underlying hT,goInt]⟩
inductive GL (S:AS) (sz:Nat):AV->Nat->AV->Prop
  | list {xs:List (List AV)} {i:Nat} {r:List AV} (h:xs[i]?=some r):GL S sz (.list sz xs) i (.pp r)
  | sl {id aU off len i:Nat} {ob:bZ} (ho:S.hp id=some ob) (hv:ob.aU=aU) (hs:ob.sz=sz) (hi:i<len) (hr:off+i<ob.rows.length):GL S sz (.sl id aU off len) i (.pt id aU (off+i) 0)
theorem mX {e:TypeId} {sz:Nat} {b:Bool} {p q:AV} {k:IntKind} {i:Int} {j:Nat} (ho:o.op=.indexAddr T x y) (hT:P.underlying T=some (.slice e)) (he:gW P e=some (sz,b)) (hx:S.ev x=some p) (hy:S.ev y=some (.sc (.int k i)))
    (hi:i=(j:Int)) (hq:GL S sz p j q):dW P o S q :=
  jT λs ρ hH h=>by
    have hv:=h x (by simp [ho,Op.operands]) _ hx
    have hyv:=(h y (by simp [ho,Op.operands]) _ hy).iY
    generalize hu:ρ x=u at hv
    have run:∀ (bl of len cap:Nat),j<len->(Instr.indexAt T (.slice (some ⟨bl,of,none⟩) len cap) (.int k i)).run P s.w=.ok (.pointer (some ⟨bl,of+j*sz,none⟩)) s.w:=λbl of len cap hlt=>by
      subst hi
      have h0:(0:Int)<=(j:Int):=by omega
      have h1:(j:Int)<(len:Int):=by omega
      simp only [Instr.indexAt,asIntOf,run_underlying hT,Sem.run_bind,Sem.run_pure,Result.andThen_ok,h0,h1,and_self,if_true,pR he,addr_add,Int.toNat_natCast]
    cases hq with
    | list hr =>
      cases hv with
      | nil=>simp at hr
      | emp=>simp at hr
      | list f hI hc hm hl hf hv =>
        have hlt:j<_:=(List.getElem?_eq_some_iff.1 hr).1
        refine ⟨_,?_,by simp only [execOp,ho,hyv,hu,Sem.run_bind,run _ _ _ _ hlt];rfl⟩
        exact Rd.pp hI λjj z hz=>⟨_,hf _ _ _ _ hr hz,hv _ _ _ _ hr hz⟩
    | sl hob dV hsz hlen hr =>
      cases hv with
      | sl hk h1 hh =>
        obtain ⟨m,hm⟩:=hH.obj _ _ hob
        rcases hm.body with ⟨_,h2⟩ | ⟨cur,fr,hb⟩
        · rw [h2] at hr;simp at hr
        · obtain ⟨cap,g1,g2,g3⟩:=(hh m hm.hm (hm.dV.trans dV)).2 hb.hnil
          refine ⟨_,?_,by simp only [execOp,ho,hyv,hu,g1,Sem.run_bind,run _ _ _ _ hlen];rfl⟩
          refine .pt hk rfl λm' hm' _ _=>?_
          rw [hm.hm] at hm';cases hm'
          rw [hm.hsz,hsz,Nat.add_mul,Nat.add_zero]
theorem WK {k:IntKind} {i:Int} {j:Nat} {l:List UInt8} {c:UInt8} (ho:o.op=.index T x y) (hT:P.underlying T=some .string) (hx:S.ev x=some (.sc (.string (bs l)))) (hy:S.ev y=some (.sc (.int k i)))
    (hi:i=(j:Int)) (hc:l[j]?=some c):dW P o S (.sc (.int .u8 c.toNat)) :=
  K4 hx hy (by simp [ho,Op.operands]) (by simp [ho,Op.operands]) fun ρ w h1 h2=>by
    subst hi
    have hlt:j<l.length:=(List.getElem?_eq_some_iff.1 hc).1
    have hget:(bs l)[j]?=some c:=by
      have:j<(bs l).size:=by rw [aG9];exact hlt
      rw [getElem?_pos (bs l) j this]
      have h3:=(List.getElem?_eq_some_iff.1 hc).2
      rw [<- h3];rfl
    simp [execOp,ho,h1,h2,Instr.index,asIntOf,run_underlying hT,hget]
theorem YL (isS:Bool) (len cap:Nat) (lo hi:Option Value) (i j:Nat) (w:World) (hlo:(lo=none/\i=0)\/∃ k,lo=some (.int k (i:Int))) (hhi:(hi=none/\j=len)\/∃ k,hi=some (.int k (j:Int)))
    (hij:i<=j) (hj:j<=cap):(Instr.sliceBounds isS len cap lo hi none).run P w=.ok (i,j,cap) w:=by
  have a1:(0:Int)<=(i:Int):=by omega
  have a2:(0:Int)<=(j:Int):=by omega
  have a3:(i:Int)<=(j:Int):=by omega
  have a4:(j:Int)<=(cap:Int):=by omega
  rcases hlo with ⟨rfl,rfl⟩ | ⟨k,rfl⟩ <;> rcases hhi with ⟨rfl,rfl⟩ | ⟨k',rfl⟩ <;>
    simp only [Instr.sliceBounds,Sem.run_bind,Sem.run_pure,Result.andThen_ok,Option.isSome_none,Bool.false_eq_true,if_false,run_sliceBound,a1,a2,a3,a4,Int.toNat_natCast]
inductive sP (S:AS) (d:Nat):Option Operand->Nat->Prop
  | no:sP S d none d
  | yes {p:Operand} {k:IntKind} {a:Int} {i:Nat} (h:S.ev p=some (.sc (.int k a))) (e:a=(i:Int)):sP S d (some p) i
theorem sP.val {s:Sit} {ρ:Operand->Value} {d i:Nat} {p:Option Operand} (h:sP S d p i) (hv:∀ q,p=some q->∀ av,S.ev q=some av->VR s av (ρ q)):(p.map ρ=none/\i=d)\/∃ k,p.map ρ=some (.int k (i:Int)):=by
  cases h with
  | no=>exact .inl ⟨rfl,rfl⟩
  | yes h e=>exact .inr ⟨_,by rw [Option.map_some,(hv _ rfl _ h).iY,e]⟩
theorem aZS {d:TypeDesc} {v:AV} (ho:o.op=.makeInterface T x) (hT:P.underlying T=some d) (hd:∀ ms,d≠.interface ms) (hx:S.ev x=some v):dW P o S (.iK T v) :=
  jT λs ρ hH h=>⟨_,.iK (h x (by simp [ho,Op.operands]) _ hx),by
    simp only [execOp,ho,Instr.makeInterface,Sem.run_bind,run_underlying hT,Result.andThen_ok]
    cases d <;> first | rfl | exact absurd rfl (hd _)⟩
inductive EvL (S:AS):List Operand->List AV->Prop
  | nil:EvL S [] []
  | cons {x:Operand} {v:AV} {xs:List Operand} {vs:List AV} (h:S.ev x=some v) (t:EvL S xs vs):EvL S (x :: xs) (v :: vs)
theorem EvL.val {s:Sit} {ρ:Operand->Value} {xs:List Operand} {vs:List AV} (h:EvL S xs vs) (hv:∀ q∈xs,∀ av,S.ev q=some av->VR s av (ρ q)) :
    vs.length=xs.length/\∀ (i:Nat) (x:AV) (v:Value),vs[i]?=some x->(xs.map ρ)[i]?=some v->VR s x v:=by
  induction h with
  | nil=>simp
  | cons h t ih =>
    obtain ⟨i1,i2⟩:=ih λq hq=>hv q (List.mem_cons_of_mem _ hq)
    refine ⟨by simp [i1],λi x v h1 h2=>?_⟩
    cases i with
    | zero=>simp at h1 h2;subst h1 h2;exact hv _ (List.mem_cons_self ..) _ h
    | succ i=>exact i2 i x v (by simpa using h1) (by simpa using h2)
theorem aYK {f:Fn} {as cs:List Operand} {vs ws:List AV} (ho:o.op=.makeFunc f as.toArray cs.toArray) (h1:EvL S as vs) (h2:EvL S cs ws):dW P o S (.fn f vs ws) :=
  jT λs ρ hH h=>by
    obtain ⟨a1,a2⟩:=h1.val (s:=s) (ρ:=ρ) λq hq=>h q (by simp [ho,Op.operands,hq])
    obtain ⟨b1,b2⟩:=h2.val (s:=s) (ρ:=ρ) λq hq=>h q (by simp [ho,Op.operands,hq])
    refine ⟨.func f (as.map ρ).toArray (cs.map ρ).toArray,.fn (by simp [a1]) (by simp [b1]) (by simpa using a2) (by simpa using b2),?_⟩
    simp [execOp,ho,Instr.makeFunc]
theorem aST {i:Nat} {vs:List AV} {v:AV} (ho:o.op=.extract x i) (hx:S.ev x=some (.bT vs)) (hv:vs[i]?=some v):dW P o S v :=
  jT λs ρ hH h=>by
    have hxv:=h x (by simp [ho,Op.operands]) _ hx
    generalize hu:ρ x=u at hxv
    cases hxv with
    | bT hl hh =>
      rename_i us
      have hi:i<us.size:=by rw [<- hl];exact (List.getElem?_eq_some_iff.1 hv).1
      exact ⟨us[i],hh i v _ hv (by simp [hi]),by simp [execOp,ho,hu,Instr.extract,hi]⟩
end ops
end
end Go.Pv
