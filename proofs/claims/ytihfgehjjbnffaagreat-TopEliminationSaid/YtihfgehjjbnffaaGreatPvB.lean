import Derived.WalkKit
import Derived.RangeFuncIn
import Derived.RangeFuncRecord
import Derived.Orders
import Derived.Scope
import Derived.OrdersIn
set_option linter.unusedVariables false
set_option linter.unusedSimpArgs false
namespace Go.Pv
structure NT where
  n:Nat
  rd:Bool
  ds:List Deferred
structure nQ (rd:Bool) (F:Fence):Prop where
  fn:∀ f,F.fn f
  depth:F.depth=none
  alive:F.alive=false
  round:rd=false->F.round=none
theorem MC {rd:Bool}:nQ rd Fence.wide:=⟨λ_=>trivial,rfl,rfl,λ_=>rfl⟩
theorem wide_round (l:Nat):nQ true (Fence.wide.inRound l):=⟨λ_=>trivial,rfl,rfl,λh=>by cases h⟩
section
variable {rd:Bool} {F:Fence} {P:Program}
theorem nQ.room (h:nQ rd F) (n:Nat):F.room n:=λ_ hd=>by rw [h.depth] at hd;cases hd
theorem nQ.fenced (h:nQ rd F) (m:Machine):m.fenced P F:=by
  intro g _
  exact ⟨λha=>(by rw [h.alive] at ha;cases ha),Or.inl (h.fn _),λ_ _=>h.fn _,h.room _⟩
theorem nQ.steps (h:nQ rd F) {m m':Machine}:StepsIn (Machine.fenced P F) P m m'↔Steps P m m' :=
  ⟨StepsIn.steps,λk=>(StepsIn.of_steps k).mono λm _=>h.fenced m⟩
theorem nQ.comes (h:nQ rd F) {m m':Machine} {e:Ending} (k:Comes P m m' e):ComesIn (Machine.fenced P F) P m m' e:=by
  cases e with
  | returned v=>exact h.steps.2 k
  | panicked chain=>exact h.steps.2 k
  | outgrown=>exact k
theorem nQ.calls (h:nQ rd F) {n:Nat} {f:FuncId} {args:Array Value} {w:World} {R:Ending->World->Prop} (k:Calls P f args w R):CallsIn F n P f args w R :=
  ⟨h.fn f,λcs _=>let ⟨e,w',fr,r,s,x⟩:=k cs;⟨e,w',fr,r,h.comes s,x⟩⟩
theorem nQ.rows (h:nQ rd F) {n:Nat} {f:String} {args:Array Value} {w:World} {R:Value->World->Prop} (k:Rows P f args w R):RowsIn F n P f args w R :=
  λc cs _=>let ⟨v,w',r,s⟩:=k c cs;⟨v,w',r,h.steps.2 s⟩
def mF (o:Oper):Bool:=match o.op with
  | .defer _=>false
  | _=>true
theorem aPS {o:Oper} (h:mF o=true):∀ c,o.op≠.defer c:=λc hc=>by simp [mF,hc] at h
theorem nQ.oper (h:nQ rd F) {n:Nat} {o:Oper} {a:Act} {w:World} {K:Act->World->Prop} {Q:Go.Exit->Act->World->Prop} (hd:mF o=true) (k:o.wp P a w K Q):o.wpIn F n P a w K Q:=by
  refine ⟨λf _=>h.fn f,?_⟩
  rw [Oper.semAt_eq _ _ _ (aPS hd)]
  unfold Oper.wp at k
  generalize (execOp a.eval o).run P w=r at *
  have hdep:F.depth.isSome=true->1<=n:=λhs=>by rw [h.depth] at hs;cases hs
  cases r with
  | ok x w' =>
    cases x <;> simp only [Oper.upon,Oper.uponIn] at k ⊢ <;>
      first
        | exact k
        | exact ⟨hdep,h.calls k⟩
        | exact ⟨hdep,h.rows k⟩
        | exact k.elim
  | halt x w'=>cases x <;> simp only [Oper.upon,Oper.uponIn] at k ⊢ <;> first | exact k | exact k.elim
theorem nQ.ops (h:nQ rd F) {n:Nat} {ops:Array Oper} {Q:Go.Exit->Act->World->Prop} (hd:ops.all mF=true) (hq:¬ LetsOut Q) :
    ∀ (l:List Nat) (a:Act) (w:World),wpOps P ops Q l a w->wpOpsIn F n P ops Q l a w
  | [],a,w,k=>k
  | i :: rest,a,w,k=>by
    simp only [wpOps,wpOpsIn] at k ⊢
    cases ho:ops[i]? with
    | none=>simp only [ho] at k ⊢;exact h.ops hd hq rest a w k
    | some o =>
      simp only [ho] at k ⊢
      have hdo:mF o=true:=by
        rw [Array.all_eq_true] at hd
        obtain ⟨hi,e⟩:=Array.getElem?_eq_some_iff.1 ho
        exact e ▸ hd i hi
      split
      · rename_i hw
        simp only [hw,if_true] at k
        rcases k with k | ⟨_,a1,w1,k⟩
        · have:=h.oper (n:=n) hdo k
          exact Oper.wpIn_mono (λa w hh=>h.ops hd hq rest a w hh) this
        · exact (hq ⟨a1,w1,k⟩).elim
      · rename_i hw
        simp only [hw] at k
        exact ⟨λf _=>h.fn f,h.ops hd hq rest _ w k⟩
end
def jT (rd:Bool) (P:Program) (c:Code) (Q:Go.Exit->Act->World->Prop) (a:Act) (w:World):Prop:=∀ F:Fence,nQ rd F->c.wpIn F 0 P Q a w
section
variable {rd:Bool} {P:Program} {Q Q':Go.Exit->Act->World->Prop} {a:Act} {w:World} {c x y:Code}
theorem mV (h:jT rd P c Q a w) (hq:∀ e a w,Q e a w->Q' e a w):jT rd P c Q' a w:=λF hF=>wpIn_mono (h F hF) hq
theorem aQ5 (h:Q .normal a w):jT rd P .skip Q a w:=λ_ _=>wpIn_skip h
theorem aVY {l:Nat} (h:Q .normal a w):jT rd P (.label l) Q a w:=λ_ _=>wpIn_label h
theorem aNP {id:Nat} (h:Q (.exit id) a w):jT rd P (.exit id) Q a w:=λ_ _=>wpIn_exit h
theorem aPW (h:Q .ret a w):jT rd P .ret Q a w:=λ_ _=>wpIn_ret h
theorem TV (h:jT rd P x (Go.Exit.then (jT rd P y Q) Q) a w):jT rd P (.seq x y) Q a w:=λF hF =>
  wpIn_seq (wpIn_mono (h F hF) λe a w q=>by
    cases e with
    | normal=>exact q F hF
    | _=>exact q)
theorem aPX {o:Operand} {t:Bool} (hc:a.eval o=.bool t) (ht:t=true->jT rd P x Q a w) (hf:t=false->jT rd P y Q a w):jT rd P (.cond o x y) Q a w :=
  λF hF=>wpIn_cond_split hc (λh=>ht h F hF) (λh=>hf h F hF)
theorem ZW {id:Nat} (h:jT rd P c (Go.Exit.inBlock id Q) a w):jT rd P (.block id c) Q a w:=λF hF=>wpIn_block (h F hF)
theorem aJH (I:Act->World->Prop) (μ:Act->World->Nat) (h₀:I a w)
    (round:∀ a w,I a w->jT rd P c (Go.Exit.then (λa' w'=>I a' w'/\μ a' w' < μ a w) Q) a w):jT rd P (.loop c) Q a w :=
  λF hF=>wpIn_loop I μ h₀ λa w h=>round a w h F hF
theorem aTD {id:Nat} {ops:Array Oper} (hd:ops.all mF=true) (hq:¬ LetsOut Q) (h:wpOps P ops Q (List.range ops.size) a w):jT rd P (.region id ops false) Q a w :=
  λF hF=>wpIn_region (hF.ops hd hq _ _ _ h)
theorem aVA {id:Nat} {ops:Array Oper} (hm:P.follows .mixedOrders=true) (hd:ops.all mF=true) (hq:¬ LetsOut Q)
    (h:wpAny P .any ops Q ops.size (Array.replicate ops.size false) a { w with drawn:=w.drawn+1 }):jT rd P (.region id ops true) Q a w :=
  λF hF=>wpIn_region_draw λt=>hF.ops hd hq _ _ _ (by
    simp only [Region.schedule,hm,Bool.true_or,if_true]
    exact wpAny_sound ops.size t _ a _ h)
theorem PX {K:Act->World->Prop} {id:Nat} {ops:Array Oper} (hd:ops.all mF=true) (h:wpOps P ops (λe a w=>e=.normal/\K a w) (List.range ops.size) a w) :
    jT rd P (.region id ops false) (λe a w=>e=.normal/\K a w) a w:=aTD hd (λ⟨_,_,h,_⟩=>nomatch h) h
theorem aLD {id:Nat} {ops:Array Oper} (hd:ops.all mF=true) (h:wpOps P ops (λe a w=>e=.normal/\Q .normal a w) (List.range ops.size) a w) :
    jT rd P (.region id ops false) Q a w:=mV (PX (K:=Q .normal) hd h) λe a w ⟨he,hk⟩=>by subst he;exact hk
theorem Q8 {K:Act->World->Prop} {id:Nat} {ops:Array Oper} (hm:P.follows .mixedOrders=true) (hd:ops.all mF=true)
    (h:wpAny P .any ops (λe a w=>e=.normal/\K a w) ops.size (Array.replicate ops.size false) a { w with drawn:=w.drawn+1 }) :
    jT rd P (.region id ops true) (λe a w=>e=.normal/\K a w) a w:=aVA hm hd (λ⟨_,_,h,_⟩=>nomatch h) h
theorem aNL {b:Frame} {k:List Item} {cs:List Frame} {c:Code}:step P (lone (b.atR a (.code (.scope c) :: k)) cs w)=.next (lone (b.atR a (.code c :: .inScope c :: k)) cs w) :=
  step_lone_go (by simp [stepG,stepG.exec,Frame.atR])
theorem aJR {b:Frame} {k:List Item} {cs:List Frame} {c:Code}:step P (lone (b.atR a (.inScope c :: k)) cs w)=.next (lone (b.atR a k) cs w) :=
  step_lone_go (by simp [stepG,stepG.exec,Frame.atR])
theorem XD (h:jT rd P c (Go.Exit.noGoto Q) a w):jT rd P (.scope c) Q a w:=by
  intro F hF b k cs hro hb hr
  obtain ⟨e,a₁,w₁,hq,harr⟩:=h F hF b (.inScope c :: k) cs hro hb hr
  have st:StepsIn (Machine.fenced P F) P (lone (b.atR a (.code (.scope c) :: k)) cs w) (lone (b.atR a (.code c :: .inScope c :: k)) cs w):=hF.steps.2 (.one aNL)
  have hx:∀ id,exitTo id (.inScope c :: k)=exitTo id k:=λid=>by simp [exitTo]
  cases e with
  | normal=>exact ⟨.normal,a₁,w₁,hq,(StepsIn.trans st harr).trans (hF.steps.2 (.one aJR))⟩
  | exit id=>exact ⟨.exit id,a₁,w₁,hq,λk' hk=>st.trans (harr.1 k' (by rw [hx];exact hk)),λhr' hk=>let ⟨k₁,h1,h2⟩:=harr.2 hr' (by rw [hx];exact hk);⟨k₁,h1,st.trans h2⟩⟩
  | goto l=>exact hq.elim
  | ret=>exact ⟨_,a₁,w₁,hq,.of_steps st harr⟩
  | panic ch=>exact ⟨_,a₁,w₁,hq,.of_steps st harr⟩
  | outgrown=>exact ⟨_,a₁,w₁,hq,.of_steps st harr⟩
theorem aVW {f:FuncId} {fn:Func} {args:Array Value} {R:Ending->World->Prop} (hf:P.funcs[f]?=some fn) (hb:fn.body=some c)
    (h:jT false P c (bodyPost P fn R) { tmps:=args++Array.replicate (fn.ntmps-args.size) undef,defers:=[] } w):Calls P f args w R :=
  callsIn_wide.1 (callsIn_of_wp (n:=0) hf hb trivial (h _ MC))
end
inductive AV where
  | sc (v:Value)
  | list (sz:Nat) (xs:List (List AV))
  | pp (cells:List AV)
  | pt (id aN row off:Nat)
  | sl (id aN off len:Nat)
  | agg (cells:List AV)
  | fn (f:Fn) (first cap:List AV)
  | gB (t:TypeId) (v:AV)
  | bD (vs:List AV)
  | mp (ks:List Int) (vs:List AV)
  deriving Inhabited
structure Mu where
  nil:Bool
  b:Nat
  sz:Nat
  ct:Nat
  aN:Nat
structure Sit where
  w:World
  Im:Nat->Prop
  mu:Nat->Option Mu
  used:Nat->Prop
inductive VR (s:Sit):AV->Value->Prop where
  | sc (v:Value):VR s (.sc v) v
  | nil (sz:Nat):VR s (.list sz []) (.slice none 0 0)
  | emp (sz:Nat) (a:Addr):VR s (.list sz []) (.slice (some a) 0 0)
  | list {sz:Nat} {xs:List (List AV)} {b off cap:Nat} (f:Nat->Nat->Value) (hI:s.Im b) (hc:xs.length<=cap) (hm:cap<=maxLen)
      (hr:∀ (i:Nat) (r:List AV),xs[i]?=some r->r.length=sz)
      (hf:∀ (i:Nat) (r:List AV) (j:Nat) (x:AV),xs[i]?=some r->r[j]?=some x->s.w.cell? ⟨b,off+i*sz+j,none⟩=some (f i j))
      (hv:∀ (i:Nat) (r:List AV) (j:Nat) (x:AV),xs[i]?=some r->r[j]?=some x->VR s x (f i j)) :
      VR s (.list sz xs) (.slice (some ⟨b,off,none⟩) xs.length cap)
  | pp {cs:List AV} {b off:Nat} (f:Nat->Value) (hI:s.Im b)
      (hf:∀ (j:Nat) (x:AV),cs[j]?=some x->s.w.cell? ⟨b,off+j,none⟩=some (f j))
      (hv:∀ (j:Nat) (x:AV),cs[j]?=some x->VR s x (f j)):VR s (.pp cs) (.pointer (some ⟨b,off,none⟩))
  | pt {id aN row off:Nat} {v:Value} (hk:s.used aN) (h1:v.oneCell'=true)
      (h:∀ m,s.mu id=some m->m.aN=aN->m.nil=false->v=.pointer (some ⟨m.b,row*m.sz+off,none⟩)):VR s (.pt id aN row off) v
  | sl {id aN off len:Nat} {v:Value} (hk:s.used aN) (h1:v.oneCell'=true)
      (h:∀ m,s.mu id=some m->m.aN=aN->(m.nil=true->v=.slice none 0 0/\len=0)/\(m.nil=false->∃ cap,v=.slice (some ⟨m.b,off*m.sz,none⟩) len cap/\len<=cap/\off+cap<=m.ct)):VR s (.sl id aN off len) v
  | agg {cs:List AV} {vs:Array Value} (hl:cs.length=vs.size)
      (hv:∀ (i:Nat) (x:AV) (v:Value),cs[i]?=some x->vs[i]?=some v->VR s x v):VR s (.agg cs) (.agg vs)
  | fn {f:Fn} {a c:List AV} {a' c':Array Value} (hl:a.length=a'.size) (hl':c.length=c'.size)
      (hv:∀ (i:Nat) (x:AV) (v:Value),a[i]?=some x->a'[i]?=some v->VR s x v)
      (hv':∀ (i:Nat) (x:AV) (v:Value),c[i]?=some x->c'[i]?=some v->VR s x v):VR s (.fn f a c) (.func f a' c')
  | gB {t:TypeId} {x:AV} {v:Value} (h:VR s x v):VR s (.gB t x) (.iface t v)
  | bD {cs:List AV} {vs:Array Value} (hl:cs.length=vs.size)
      (hv:∀ (i:Nat) (x:AV) (v:Value),cs[i]?=some x->vs[i]?=some v->VR s x v):VR s (.bD cs) (.tuple vs)
  | mp {ks:List Int} {xs:List AV} {b clock:Nat} {es:Array MapEntry} (hI:s.Im b) (hb:s.w.heap[b]?=some (.map es clock)) (hk:es.toList.map (·.key)=ks.map (Value.int .i64)) (hl:xs.length=es.toList.length)
      (hv:∀ (i:Nat) (x:AV) (e:MapEntry),xs[i]?=some x->es.toList[i]?=some e->VR s x e.val):VR s (.mp ks xs) (.map (some b))
structure bH where
  elem:TypeId
  sz:Nat
  mt:Bool
  app:Bool
  aN:Nat
  rows:List (List AV)
abbrev AH:=Nat->Option bH
structure wY (s:Sit) (o:bH) (m:Mu) (cur:Array Value) (fr:Nat×Nat):Prop where
  hnil:m.nil=false
  hb:s.w.heap[m.b]?=some (.cells cur o.elem fr)
  hfr:∀ k,k<cur.size->¬ (fr.1<=k/\k<fr.2)
  happ:o.app=true->fr=(0,0)
  hcs:cur.size=m.ct*o.sz
  hct:m.ct<=maxLen
  hlen:o.rows.length<=m.ct
  hr:∀ (i:Nat) (r:List AV),o.rows[i]?=some r->r.length=o.sz
  hv:∀ (i:Nat) (r:List AV) (j:Nat) (x:AV) (v:Value),o.rows[i]?=some r->r[j]?=some x->cur[i*o.sz+j]?=some v->VR s x v
  h1:∀ (k:Nat) (v:Value),cur[k]?=some v->v.oneCell'=true
  him:o.mt=false->s.Im m.b
  l7:o.mt=true->¬ s.Im m.b
structure aK9 (s:Sit) (id:Nat) (o:bH) (m:Mu):Prop where
  hm:s.mu id=some m
  bX:m.aN=o.aN
  hsz:m.sz=o.sz
  hk:s.used o.aN
  body:(m.nil=true/\o.rows=[])\/∃ cur fr,wY s o m cur fr
structure HR (s:Sit) (H:AH):Prop where
  obj:∀ id o,H id=some o->∃ m,aK9 s id o m
  lH:∀ id id' o o' m m',H id=some o->H id'=some o'->s.mu id=some m->s.mu id'=some m'->m.nil=false->m'.nil=false->m.b=m'.b->id=id'
  im:∀ b,s.Im b->b<s.w.heap.size
  fin:∃ C,∀ k,C<=k->¬ s.used k
def kS (s:Sit) (H:AH) (b:Nat):Prop:=∃ id o m,H id=some o/\o.mt=true/\s.mu id=some m/\m.nil=false/\m.b=b
structure Fr (s:Sit) (H:AH) (s':Sit) (H':AH):Prop where
  os:s'.w.os=s.w.os
  tape:s'.w.tape=s.w.tape
  output:s'.w.output=s.w.output
  size:s.w.heap.size<=s'.w.heap.size
  keep:∀ b,b<s.w.heap.size->¬ kS s H b->s'.w.heap[b]?=s.w.heap[b]?
  jL:∀ b,s.Im b->s'.Im b
  iY:∀ b,b<s.w.heap.size->¬ kS s H b->s'.Im b->s.Im b
  own:∀ b,b<s.w.heap.size->kS s' H' b->kS s H b
  vals:∀ x v,VR s x v->VR s' x v
  kY:∀ k,s.used k->s'.used k
theorem Fr.refl (s:Sit) (H:AH):Fr s H s H :=
  ⟨rfl,rfl,rfl,Nat.le_refl _,λ_ _ _=>rfl,λ_ h=>h,λ_ _ _ h=>h,λ_ _ h=>h,λ_ _ h=>h,λ_ h=>h⟩
theorem Fr.trans {s s1 s2:Sit} {H H1 H2:AH} (h:Fr s H s1 H1) (k:Fr s1 H1 s2 H2):Fr s H s2 H2 where
  os:=k.os.trans h.os
  tape:=k.tape.trans h.tape
  output:=k.output.trans h.output
  size:=Nat.le_trans h.size k.size
  keep:=λb hb ho=>(k.keep b (Nat.lt_of_lt_of_le hb h.size) (λh'=>ho (h.own b hb h'))).trans (h.keep b hb ho)
  jL:=λb hb=>k.jL b (h.jL b hb)
  iY:=λb hb ho hi=>h.iY b hb ho (k.iY b (Nat.lt_of_lt_of_le hb h.size) (λh'=>ho (h.own b hb h')) hi)
  own:=λb hb ho=>h.own b hb (k.own b (Nat.lt_of_lt_of_le hb h.size) ho)
  vals:=λx v hx=>k.vals x v (h.vals x v hx)
  kY:=λi hi=>k.kY i (h.kY i hi)
theorem cell_of_heap {w w':World} {a:Addr} (h:w'.heap[a.block]?=w.heap[a.block]?):w'.cell? a=w.cell? a:=by simp [World.cell?,h]
theorem VR.mono {s s':Sit} (hI:∀ b,s.Im b->s'.Im b/\s'.w.heap[b]?=s.w.heap[b]?)
    (hm:∀ id m',s'.mu id=some m'->s.mu id=some m'\/¬ s.used m'.aN) (hk:∀ k,s.used k->s'.used k) {x:AV} {v:Value} (h:VR s x v):VR s' x v:=by
  induction h with
  | sc v=>exact .sc v
  | nil sz=>exact .nil sz
  | emp sz a=>exact .emp sz a
  | list f hI' hc hm' hr hf _ ih =>
    exact .list f (hI _ hI').1 hc hm' hr (λi r j x h1 h2=>(cell_of_heap (hI _ hI').2).trans (hf i r j x h1 h2)) ih
  | pp f hI' hf _ ih=>exact .pp f (hI _ hI').1 (λj x h1=>(cell_of_heap (hI _ hI').2).trans (hf j x h1)) ih
  | pt hk' h1 h =>
    refine .pt (hk _ hk') h1 λm hm1 hv=>?_
    rcases hm _ _ hm1 with h2 | h2
    · exact h m h2 hv
    · exact absurd (hv ▸ hk') h2
  | sl hk' h1 h =>
    refine .sl (hk _ hk') h1 λm hm1 hv=>?_
    rcases hm _ _ hm1 with h2 | h2
    · exact h m h2 hv
    · exact absurd (hv ▸ hk') h2
  | agg hl _ ih=>exact .agg hl ih
  | fn hl hl' _ _ ih ih'=>exact .fn hl hl' ih ih'
  | gB _ ih=>exact .gB ih
  | bD hl _ ih=>exact .bD hl ih
  | mp hI' hb hk hl _ ih=>exact .mp (hI _ hI').1 ((hI _ hI').2.trans hb) hk hl ih
structure AS where
  sl:Nat->Option AV
  hp:AH
def upd {α:Type} (f:Nat->Option α) (t:Nat) (v:Option α):Nat->Option α:=λi=>bif Nat.beq i t then v else f i
theorem upd_same {α:Type} (f:Nat->Option α) (t:Nat) (v:Option α):upd f t v t=v:=by simp [upd]
theorem upd_ne {α:Type} (f:Nat->Option α) {t i:Nat} (v:Option α) (h:i≠t):upd f t v i=f i:=by
  have:Nat.beq i t=false:=by cases hb:Nat.beq i t with | false=>rfl | true=>exact absurd (Nat.eq_of_beq_eq_true hb) h
  simp only [upd,this,cond_false]
def AS.put (S:AS) (d:Option Tmp) (v:AV):AS :=
  match d with
  | none=>S
  | some t=>{ S with sl:=upd S.sl t (some v) }
def AS.ev (S:AS):Operand->Option AV
  | .tmp t=>S.sl t
  | .const v=>some (.sc v)
  | .global g=>some (.sc (.pointer (some ⟨g,0,none⟩)))
  | .func f=>some (.fn (.func f) [] [])
structure SR (n:NT) (s:Sit) (S:AS) (a:Act):Prop where
  size:a.tmps.size=n.n
  defers:a.defers=n.ds
  slot:∀ t x,S.sl t=some x->∃ v,a.tmps[t]?=some v/\VR s x v
  heap:HR s S.hp
def Tr (P:Program) (n:NT) (c:Code) (S:AS) (Q:Exit->AS->Prop):Prop :=
  ∀ s a,SR n s S a->jT n.rd P c (λe a' w'=>∃ S' s',w'=s'.w/\Q e S'/\SR n s' S' a'/\Fr s S.hp s' S'.hp) a s.w
section
variable {P:Program} {n:NT} {S:AS} {Q:Exit->AS->Prop}
theorem Tr.mono {c:Code} {Q':Exit->AS->Prop} (h:Tr P n c S Q) (hq:∀ e S,Q e S->Q' e S):Tr P n c S Q' :=
  λs a hs=>mV (h s a hs) λ_ _ _ ⟨S',s',h1,h2,h3⟩=>⟨S',s',h1,hq _ _ h2,h3⟩
theorem aVU (h:Q .normal S):Tr P n .skip S Q:=λs _ hs=>aQ5 ⟨S,s,rfl,h,hs,Fr.refl _ _⟩
theorem aX0 {l:Nat} (h:Q .normal S):Tr P n (.label l) S Q:=λs _ hs=>aVY ⟨S,s,rfl,h,hs,Fr.refl _ _⟩
theorem aNR {id:Nat} (h:Q (.exit id) S):Tr P n (.exit id) S Q:=λs _ hs=>aNP ⟨S,s,rfl,h,hs,Fr.refl _ _⟩
theorem aT4 (h:Q .ret S):Tr P n .ret S Q:=λs _ hs=>aPW ⟨S,s,rfl,h,hs,Fr.refl _ _⟩
@[reducible] def Exit.thn (next:AS->Prop) (Q:Exit->AS->Prop):Exit->AS->Prop
  | .normal,S=>next S
  | e,S=>Q e S
theorem aQ6 {x y:Code} (h:Tr P n x S (Exit.thn (λS'=>Tr P n y S' Q) Q)):Tr P n (.seq x y) S Q:=by
  intro s a hs
  refine TV (mV (h s a hs) ?_)
  rintro e a1 w1 ⟨S1,s1,rfl,hq,hs1,hf1⟩
  cases e with
  | normal =>
    exact mV (hq s1 a1 hs1) λe a2 w2 ⟨S2,s2,h1,h2,h3,h4⟩=>⟨S2,s2,h1,h2,h3,hf1.trans h4⟩
  | _=>exact ⟨S1,s1,rfl,hq,hs1,hf1⟩
theorem nX {s:Sit} {a:Act} {x:AV} {o:Operand} (hs:SR n s S a) (h:S.ev o=some x):VR s x (a.eval o):=by
  cases o with
  | tmp t =>
    obtain ⟨v,h1,h2⟩:=hs.slot t x h
    have:a.eval (.tmp t)=v:=by simp [Act.eval,h1]
    rw [this];exact h2
  | const v=>simp only [AS.ev,Option.some.injEq] at h;subst h;exact .sc _
  | global g=>simp only [AS.ev,Option.some.injEq] at h;subst h;exact .sc _
  | func f=>simp only [AS.ev,Option.some.injEq] at h;subst h;exact .fn rfl rfl (by simp) (by simp)
theorem VR.fF {s:Sit} {u v:Value} (h:VR s (.sc u) v):v=u:=by cases h;rfl
theorem aM1 {c:Operand} {x y:Code} {t:Bool} (hc:S.ev c=some (.sc (.bool t)))
    (ht:t=true->Tr P n x S Q) (hf:t=false->Tr P n y S Q):Tr P n (.cond c x y) S Q:=by
  intro s a hs
  have:=VR.fF (nX hs hc)
  exact aPX this (λh=>ht h s a hs) (λh=>hf h s a hs)
@[reducible] def Exit.X5 (id:Nat) (Q:Exit->AS->Prop):Exit->AS->Prop
  | .exit id',S=>if id'=id then Q .normal S else Q (.exit id') S
  | e,S=>Q e S
theorem XH {id:Nat} {c:Code} (h:Tr P n c S (Exit.X5 id Q)):Tr P n (.block id c) S Q:=by
  intro s a hs
  refine ZW (mV (h s a hs) ?_)
  rintro e a1 w1 ⟨S1,s1,rfl,hq,hs1,hf1⟩
  cases e with
  | exit id' =>
    simp only [Exit.X5] at hq
    simp only [Exit.inBlock]
    split
    · rename_i he;rw [if_pos he] at hq;exact ⟨S1,s1,rfl,hq,hs1,hf1⟩
    · rename_i he;rw [if_neg he] at hq;exact ⟨S1,s1,rfl,hq,hs1,hf1⟩
  | _=>exact ⟨S1,s1,rfl,hq,hs1,hf1⟩
def AS.le (S S':AS):Prop:=∀ s,(∀ t x,S'.sl t=some x->∃ y,S.sl t=some y/\∀ v,VR s y v->VR s x v)/\(HR s S.hp->HR s S'.hp)/\(∀ b,kS s S'.hp b->kS s S.hp b)
theorem SR.le {s:Sit} {S':AS} {a:Act} (h:SR n s S a) (hl:S.le S'):SR n s S' a :=
  ⟨h.size,h.defers,λt x hx=>let ⟨_,h1,h2⟩:=(hl s).1 t x hx;let ⟨v,h3,h4⟩:=h.slot t _ h1;⟨v,h3,h2 v h4⟩,(hl s).2.1 h.heap⟩
theorem aST {c:Code} {S':AS} (hl:S.le S') (h:Tr P n c S' Q):Tr P n c S Q:=by
  intro s a hs
  refine mV (h s a (hs.le hl)) ?_
  rintro e a1 w1 ⟨S1,s1,rfl,hq,hs1,hf1⟩
  exact ⟨S1,s1,rfl,hq,hs1,⟨hf1.os,hf1.tape,hf1.output,hf1.size,λb hb ho=>hf1.keep b hb (λh'=>ho ((hl s).2.2 b h')),hf1.jL,
    λb hb ho hi=>hf1.iY b hb (λh'=>ho ((hl s).2.2 b h')) hi,λb hb ho=>(hl s).2.2 b (hf1.own b hb ho),hf1.vals,hf1.kY⟩⟩
theorem aCO {c:Code} {ι:Type} (St:ι->AS) (μ:ι->Nat) (i₀:ι) (h₀:S.le (St i₀))
    (round:∀ i,Tr P n c (St i) (Exit.thn (λS'=>∃ j,μ j<μ i/\S'.le (St j)) Q)):Tr P n (.loop c) S Q:=by
  refine aST h₀ ?_
  intro s a hs F hF b kk cs hro hb hr
  have key:∀ k i,μ i=k->∀ s a,SR n s (St i) a->∃ e a' w',(∃ S' s',w'=s'.w/\Q e S'/\SR n s' S' a'/\Fr s (St i).hp s' S'.hp) /\
      ArrivesIn (Machine.fenced P F) P (lone (b.atR a (.code c :: .inLoop c :: kk)) cs s.w) b kk cs e a' w':=by
    intro k
    induction k using Nat.strongRecOn with
    | _ k ih =>
      intro i hi s a hs
      obtain ⟨e,a1,w1,⟨S1,s1,rfl,hq,hs1,hf1⟩,harr⟩:=round i s a hs F hF b (.inLoop c :: kk) cs hro hb hr
      cases e with
      | normal =>
        obtain ⟨j,hj,hle⟩:=hq
        obtain ⟨e2,a2,w2,⟨S2,s2,rfl,hq2,hs2,hf2⟩,harr2⟩:=ih (μ j) (by omega) j rfl s1 a1 (hs1.le hle)
        refine ⟨e2,a2,s2.w,⟨S2,s2,rfl,hq2,hs2,?_⟩,.of_steps (StepsIn.trans harr (.one (hF.fenced _) stepR_inLoop)) harr2⟩
        exact hf1.trans ⟨hf2.os,hf2.tape,hf2.output,hf2.size,λb hb ho=>hf2.keep b hb (λh'=>ho ((hle s1).2.2 b h')),hf2.jL,
          λb hb ho hi=>hf2.iY b hb (λh'=>ho ((hle s1).2.2 b h')) hi,λb hb ho=>(hle s1).2.2 b (hf2.own b hb ho),hf2.vals,hf2.kY⟩
      | exit id=>exact ⟨_,a1,_,⟨S1,s1,rfl,hq,hs1,hf1⟩,.pass (x:=.inLoop c) rfl (λ_ _=>.inl (by simp)) harr⟩
      | goto l=>exact ⟨_,a1,_,⟨S1,s1,rfl,hq,hs1,hf1⟩,.pass (x:=.inLoop c) rfl (λ_ _=>.inl (by simp)) harr⟩
      | ret=>exact ⟨_,a1,_,⟨S1,s1,rfl,hq,hs1,hf1⟩,.pass (x:=.inLoop c) rfl (λ_ _=>.inl (by simp)) harr⟩
      | panic ch=>exact ⟨_,a1,_,⟨S1,s1,rfl,hq,hs1,hf1⟩,.pass (x:=.inLoop c) rfl (λ_ _=>.inl (by simp)) harr⟩
      | outgrown=>exact ⟨_,a1,_,⟨S1,s1,rfl,hq,hs1,hf1⟩,.pass (x:=.inLoop c) rfl (λ_ _=>.inl (by simp)) harr⟩
  obtain ⟨e,a',w',hq,harr⟩:=key _ i₀ rfl s a hs
  exact ⟨e,a',w',hq,.of_steps (.one (hF.fenced _) stepR_loop) harr⟩
end
section
variable {P:Program} {n:NT} {S:AS}
theorem Oper.aT6 {o:Oper} {a:Act} {w:World} {K K':Act->World->Prop} {Q Q':Go.Exit->Act->World->Prop} (h:∀ a w,K a w->K' a w) (hq:∀ e a w,Q e a w->Q' e a w)
    (hh:o.wp P a w K Q):o.wp P a w K' Q':=by
  have hl:LetsOut Q->LetsOut Q':=λ⟨a,w,x⟩=>⟨a,w,hq _ _ _ x⟩
  unfold Oper.wp at *
  generalize (execOp a.eval o).run P w=r at *
  cases r with
  | ok n w' =>
    cases n <;> simp only [Oper.upon] at hh ⊢ <;>
      first
        | exact h _ _ hh
        | exact Calls.mono hh (λe w'' he=>by cases e <;> first | exact h _ _ he | exact hq _ _ _ he | exact hl he)
        | exact Rows.mono hh (λ_ _ he=>h _ _ he)
  | halt x w'=>cases x <;> simp only [Oper.upon] at hh ⊢ <;> first | exact hq _ _ _ hh | exact hh
theorem CY {ops:Array Oper} {Q Q':Go.Exit->Act->World->Prop} (hq:∀ e a w,Q e a w->Q' e a w):∀ (l:List Nat) (a:Act) (w:World),wpOps P ops Q l a w->wpOps P ops Q' l a w
  | [],a,w,h=>hq _ _ _ h
  | i :: rest,a,w,h=>by
    simp only [wpOps] at h ⊢
    split
    · rename_i ho;simp only [ho] at h;exact CY hq rest a w h
    · rename_i o ho
      simp only [ho] at h
      split
      · rename_i hw
        simp only [hw,if_true] at h
        exact h.imp (Oper.aT6 (CY hq rest) hq) (λ⟨h1,a,w,h2⟩=>⟨h1,a,w,hq _ _ _ h2⟩)
      · rename_i hw
        simp only [hw] at h
        exact CY hq rest _ w h
def bY (P:Program) (o:Oper) (S:AS) (F U:Nat->Prop) (Out:AV->AH->Prop):Prop :=
  ∀ (s:Sit) (a:Act) (next:Act->World->Prop) (Q:Go.Exit->Act->World->Prop),HR s S.hp->(∀ x∈o.op.operands,∀ av,S.ev x=some av->VR s av (a.eval x))->(∀ k,F k->¬ s.used k) ->
    (∀ s' v x H',Out x H'->VR s' x v->HR s' H'->Fr s S.hp s' H'->(∀ k,s'.used k->s.used k\/U k)->next (a.put o.dst v) s'.w)->o.wp P a s.w next Q
def no:Nat->Prop:=λ_=>False
def any:Nat->Prop:=λ_=>True
theorem bY.eX {o:Oper} {F U F' U':Nat->Prop} {Out:AV->AH->Prop} (h:bY P o S F U Out) (hF:∀ k,F k->F' k) (hU:∀ k,U k->U' k):bY P o S F' U' Out :=
  λs a next Q h1 h2 h3 h4=>h s a next Q h1 h2 (λk hk=>h3 k (hF k hk)) λs' v x H' a b c d e=>h4 s' v x H' a b c d λk hk=>(e k hk).imp id (hU k)
def bW (P:Program) (o:Oper) (S:AS) (x:AV):Prop:=bY P o S no no (λy H=>y=x/\H=S.hp)
theorem kP {o:Oper} {a:Act} {w w':World} {next:Act->World->Prop} {Q:Go.Exit->Act->World->Prop} {v:Value}
    (h:(execOp a.eval o).run P w=.ok (.value v) w') (hn:next (a.put o.dst v) w'):o.wp P a w next Q:=by
  unfold Oper.wp;rw [h];exact hn
theorem Q3 {o:Oper} {a:Act} {w w':World} {next:Act->World->Prop} {Q:Go.Exit->Act->World->Prop}
    (h:(execOp a.eval o).run P w=.ok .skip w') (hn:next (a.put o.dst undef) w'):o.wp P a w next Q:=by
  unfold Oper.wp;rw [h];exact hn
theorem iV {o:Oper} {x:AV} (h:∀ (s:Sit) (ρ:Operand->Value),HR s S.hp->(∀ y∈o.op.operands,∀ av,S.ev y=some av->VR s av (ρ y)) ->
    ∃ v,VR s x v/\(execOp ρ o).run P s.w=.ok (.value v) s.w):bW P o S x:=by
  intro s a next Q hH hops _ hn
  obtain ⟨v,hv,hr⟩:=h s a.eval hH hops
  exact kP hr (hn s v x S.hp ⟨rfl,rfl⟩ hv hH (Fr.refl _ _) λ_ h=>.inl h)
def Rg (P:Program) (n:NT) (ops todo:List Oper) (S:AS) (K:AS->Prop):Prop :=
  ∀ k,ops.drop k=todo->∀ s a,SR n s S a ->
    wpOps P ops.toArray (λe a' w'=>e=.normal/\∃ S' s',w'=s'.w/\K S'/\SR n s' S' a'/\Fr s S.hp s' S'.hp) (List.range' k todo.length) a s.w
theorem aXW {id:Nat} {l:List Oper} {Q:Go.Exit->AS->Prop} (hd:l.all mF=true) (h:Rg P n l l S (Q .normal)):Tr P n (.region id l.toArray false) S Q:=by
  intro s a hs
  have:=h 0 rfl s a hs
  rw [<- List.range_eq_range'] at this
  refine mV (PX (by simpa using hd) (by simpa using this)) ?_
  rintro e a' w' ⟨rfl,S',s',h1,h2,h3,h4⟩
  exact ⟨S',s',h1,h2,h3,h4⟩
variable {ops:List Oper} {K:AS->Prop}
theorem B7 (h:K S):Rg P n ops [] S K:=λ_ _ s _ hs=>⟨rfl,S,s,rfl,h,hs,Fr.refl _ _⟩
def Wd (ops:List Oper) (S:AS) (o:Oper):Option Bool :=
  match o.guard with
  | none=>some true
  | some (j,want) =>
    match (ops[j]?).bind (·.dst) with
    | none=>some false
    | some t=>match S.sl t with
      | some (.sc (.bool b))=>some (b == want)
      | some (.sc (.tuple _))=>some false
      | _=>none
theorem oC {s:Sit} {a:Act} {o:Oper} {b:Bool} (hs:SR n s S a) (h:Wd ops S o=some b):Region.wanted o (yielded ops.toArray a.tmps)=b:=by
  unfold Wd at h
  unfold Region.wanted
  cases hg:o.guard with
  | none=>simp only [hg,Option.some.injEq] at h;simp [h]
  | some g =>
    obtain ⟨j,want⟩:=g
    rw [hg] at h
    simp only [yielded,List.getElem?_toArray] at h ⊢
    cases hd:(ops[j]?).bind (·.dst) with
    | none=>rw [hd] at h;simp at h;subst h;simp
    | some t =>
      rw [hd] at h
      simp only [Option.bind_some] at h ⊢
      cases hx:S.sl t with
      | none=>rw [hx] at h;simp at h
      | some x =>
        rw [hx] at h
        obtain ⟨v,h1,h2⟩:=hs.slot t x hx
        rw [h1]
        cases x with
        | sc u =>
          have:=h2.fF;subst this
          cases v <;> simp_all
        | _=>simp at h
theorem AS.KJ (S:AS) (t:Nat) (v:AV):(S.put (some t) v).sl=upd S.sl t (some v):=rfl
theorem AS.uU (S:AS) (d:Option Tmp) (v:AV):(S.put d v).hp=S.hp:=by cases d <;> rfl
def kX (n:NT):Option Tmp->Bool
  | none=>true
  | some t=>Nat.blt t n.n
theorem SR.put {s:Sit} {a:Act} {d:Option Tmp} {x:AV} {v:Value} (hs:SR n s S a) (hd:kX n d=true) (hv:VR s x v):SR n s (S.put d x) (a.put d v):=by
  cases d with
  | none=>exact hs
  | some t =>
    have hd':t<n.n:=by simpa [kX,Nat.blt_eq] using hd
    refine ⟨by simp [Act.put,hs.size],hs.defers,λi y hy=>?_,hs.heap⟩
    by_cases hi:i=t
    · subst hi
      rw [AS.KJ,upd_same] at hy
      cases hy
      exact ⟨v,by simp [Act.put,hs.size,hd'],hv⟩
    · rw [AS.KJ,upd_ne _ _ hi] at hy
      obtain ⟨u,h1,h2⟩:=hs.slot i y hy
      exact ⟨u,by simp only [Act.put];rw [Array.getElem?_setIfInBounds_ne (Ne.symm hi)];exact h1,h2⟩
theorem SR.fr {s s':Sit} {H':AH} {a:Act} (hs:SR n s S a) (hH:HR s' H') (hf:Fr s S.hp s' H'):SR n s' { S with hp:=H' } a :=
  ⟨hs.size,hs.defers,λt x hx=>let ⟨v,h1,h2⟩:=hs.slot t x hx;⟨v,h1,hf.vals _ _ h2⟩,hH⟩
theorem SR.opers {s:Sit} {a:Act} (hs:SR n s S a) (o:Oper):∀ x∈o.op.operands,∀ av,S.ev x=some av->VR s av (a.eval x):=λ_ _ _ h=>nX hs h
theorem drop_cons {α:Type} {l r:List α} {x:α} {k:Nat} (h:l.drop k=x :: r):l[k]?=some x/\l.drop (k+1)=r:=by
  constructor
  · have:=List.getElem?_drop (xs:=l) (i:=k) (j:=0)
    rw [h] at this;simpa using this.symm
  · have:l.drop (k+1)=(l.drop k).drop 1:=by rw [List.drop_drop]
    rw [this,h];rfl
theorem F8 {o:Oper} {rest:List Oper} {Out:AV->AH->Prop} (hw:Wd ops S o=some true) (hd:kX n o.dst=true) (hy:bY P o S no any Out)
    (h:∀ x H',Out x H'->Rg P n ops rest (({ S with hp:=H' }:AS).put o.dst x) K):Rg P n ops (o :: rest) S K:=by
  intro k hk s a hs
  obtain ⟨h0,h1⟩:=drop_cons hk
  rw [List.length_cons,List.range'_succ]
  simp only [wpOps,List.getElem?_toArray,h0,oC hs hw,if_true]
  refine .inl (hy s a _ _ hs.heap (hs.opers o) (λ_ h=>h.elim) ?_)
  intro s' v x H' hO hv hH hf _
  have hs':=(hs.fr hH hf).put hd hv
  have hgo:=h x H' hO (k+1) h1 s' _ hs'
  refine CY ?_ _ _ _ hgo
  rintro e a' w' ⟨rfl,S2,s2,g1,g2,g3,g4⟩
  rw [AS.uU] at g4
  exact ⟨rfl,S2,s2,g1,g2,g3,hf.trans g4⟩
theorem aG3 {o:Oper} {rest:List Oper} (hw:Wd ops S o=some false) (hd:kX n o.dst=true)
    (h:Rg P n ops rest (S.put o.dst (.sc undef)) K):Rg P n ops (o :: rest) S K:=by
  intro k hk s a hs
  obtain ⟨h0,h1⟩:=drop_cons hk
  rw [List.length_cons,List.range'_succ]
  simp only [wpOps,List.getElem?_toArray,h0,oC hs hw,Bool.false_eq_true,if_false]
  have:=h (k+1) h1 s _ (hs.put hd (.sc undef))
  rw [AS.uU] at this
  exact this
theorem aED {o:Oper} {rest:List Oper} {x:AV} (hw:Wd ops S o=some true) (hd:kX n o.dst=true) (hy:bW P o S x)
    (h:Rg P n ops rest (S.put o.dst x) K):Rg P n ops (o :: rest) S K :=
  F8 hw hd (hy.eX (λ_ h=>h) λ_ h=>h.elim) λ_ _ ⟨h1,h2⟩=>by subst h1 h2;exact h
section ops
variable {o:Oper}
theorem mK {x:Operand} {v:AV} (ho:o.op=.move x) (hx:S.ev x=some v):bW P o S v :=
  iV λs ρ _ h=>⟨ρ x,h x (by simp [ho,Op.operands]) v hx,by simp [execOp,ho]⟩
theorem uK {x:Operand} {v:AV} (ho:o.op=.assign x) (hx:S.ev x=some v):bW P o S v :=
  iV λs ρ _ h=>⟨ρ x,h x (by simp [ho,Op.operands]) v hx,by simp [execOp,ho]⟩
theorem ID {x:Operand} {u r:Value} (hx:S.ev x=some (.sc u)) (hm:x∈o.op.operands)
    (hr:∀ (ρ:Operand->Value) (w:World),ρ x=u->(execOp ρ o).run P w=.ok (.value r) w):bW P o S (.sc r) :=
  iV λs ρ _ h=>⟨r,.sc r,hr ρ s.w (h x hm _ hx).fF⟩
theorem ML {x y:Operand} {u v r:Value} (hx:S.ev x=some (.sc u)) (hy:S.ev y=some (.sc v)) (hm:x∈o.op.operands) (hm':y∈o.op.operands)
    (hr:∀ (ρ:Operand->Value) (w:World),ρ x=u->ρ y=v->(execOp ρ o).run P w=.ok (.value r) w):bW P o S (.sc r) :=
  iV λs ρ _ h=>⟨r,.sc r,hr ρ s.w (h x hm _ hx).fF (h y hm' _ hy).fF⟩
section bin
variable {T Ty:TypeId} {x y:Operand} {k:IntKind} {a b:Int}
theorem oH {op:BinOp} {u v r:Value} (ho:o.op=.binOp op T x y Ty) (hx:S.ev x=some (.sc u)) (hy:S.ev y=some (.sc v))
    (hr:∀ w,(do eqGuard op T x y u v;binOp op T u v:Sem Value).run P w=.ok r w):bW P o S (.sc r) :=
  ML hx hy (by simp [ho,Op.operands]) (by simp [ho,Op.operands]) fun ρ w h1 h2=>by
    have:=hr w
    simp only [execOp,ho,h1,h2]
    simp only [Sem.run_bind] at this ⊢
    rw [this];rfl
theorem XM {r:Int} (ho:o.op=.binOp .add T x y Ty) (hx:S.ev x=some (.sc (.int k a))) (hy:S.ev y=some (.sc (.int k b))) (hr:k.wrap (a+b)=r):bW P o S (.sc (.int k r)) :=
  oH ho hx hy λw=>by simp [eqGuard,binOp,Op.intArith,hr]
theorem M4 {r:Int} (ho:o.op=.binOp .sub T x y Ty) (hx:S.ev x=some (.sc (.int k a))) (hy:S.ev y=some (.sc (.int k b))) (hr:k.wrap (a-b)=r):bW P o S (.sc (.int k r)) :=
  oH ho hx hy λw=>by simp [eqGuard,binOp,Op.intArith,hr]
theorem TC {r:Int} (ho:o.op=.binOp .mul T x y Ty) (hx:S.ev x=some (.sc (.int k a))) (hy:S.ev y=some (.sc (.int k b))) (hr:k.wrap (a*b)=r):bW P o S (.sc (.int k r)) :=
  oH ho hx hy λw=>by simp [eqGuard,binOp,Op.intArith,hr]
theorem FO {r:Int} (ho:o.op=.binOp .quo T x y Ty) (hx:S.ev x=some (.sc (.int k a))) (hy:S.ev y=some (.sc (.int k b))) (hb:b≠0) (hr:k.wrap (a.tdiv b)=r):bW P o S (.sc (.int k r)) :=
  oH ho hx hy λw=>by simp [eqGuard,binOp,Op.intDiv,hb,hr]
theorem FB {r:Int} (ho:o.op=.binOp .rem T x y Ty) (hx:S.ev x=some (.sc (.int k a))) (hy:S.ev y=some (.sc (.int k b))) (hb:b≠0) (hr:a.tmod b=r):bW P o S (.sc (.int k r)) :=
  oH ho hx hy λw=>by simp [eqGuard,binOp,Op.intDiv,hb,hr]
theorem vS (ho:o.op=.binOp .lss T x y Ty) (hx:S.ev x=some (.sc (.int k a))) (hy:S.ev y=some (.sc (.int k b))):bW P o S (.sc (.bool (decide (a<b)))) :=
  oH ho hx hy λw=>by simp [eqGuard,binOp,Op.intCmp]
theorem xL (ho:o.op=.binOp .leq T x y Ty) (hx:S.ev x=some (.sc (.int k a))) (hy:S.ev y=some (.sc (.int k b))):bW P o S (.sc (.bool (decide (a<=b)))) :=
  oH ho hx hy λw=>by simp [eqGuard,binOp,Op.intCmp]
theorem aBT (ho:o.op=.binOp .gtr T x y Ty) (hx:S.ev x=some (.sc (.int k a))) (hy:S.ev y=some (.sc (.int k b))):bW P o S (.sc (.bool (decide (b<a)))) :=
  oH ho hx hy λw=>by simp [eqGuard,binOp,Op.intCmp]
theorem aVZ (ho:o.op=.binOp .geq T x y Ty) (hx:S.ev x=some (.sc (.int k a))) (hy:S.ev y=some (.sc (.int k b))):bW P o S (.sc (.bool (decide (b<=a)))) :=
  oH ho hx hy λw=>by simp [eqGuard,binOp,Op.intCmp]
theorem jO (ho:o.op=.binOp .eql T x y Ty) (hx:S.ev x=some (.sc (.int k a))) (hy:S.ev y=some (.sc (.int k b))):bW P o S (.sc (.bool (decide (a=b)))) :=
  oH ho hx hy λw=>by
    have:(a == b)=decide (a=b):=by by_cases h:a=b <;> simp [h]
    simp [eqGuard,binOp,Op.intCmp,this]
theorem aWO (ho:o.op=.binOp .neq T x y Ty) (hx:S.ev x=some (.sc (.int k a))) (hy:S.ev y=some (.sc (.int k b))):bW P o S (.sc (.bool (decide (a≠b)))) :=
  oH ho hx hy λw=>by
    have:(a != b)=decide (a≠b):=by by_cases h:a=b <;> simp [h]
    simp [eqGuard,binOp,Op.intCmp,this]
theorem H8 {k':IntKind} {r:Int} (ho:o.op=.binOp .shl T x y Ty) (hx:S.ev x=some (.sc (.int k a))) (hy:S.ev y=some (.sc (.int k' b))) (hb:0<=b) (hr:k.wrap (a*2 ^ (min b.toNat k.bits))=r):bW P o S (.sc (.int k r)) :=
  oH ho hx hy λw=>by simp [eqGuard,binOp,Op.shift,show ¬ b<0 by omega,hr]
theorem GH {k':IntKind} {r:Int} (ho:o.op=.binOp .shr T x y Ty) (hx:S.ev x=some (.sc (.int k a))) (hy:S.ev y=some (.sc (.int k' b))) (hb:0<=b) (hr:a.fdiv (2 ^ (min b.toNat k.bits))=r):bW P o S (.sc (.int k r)) :=
  oH ho hx hy λw=>by simp [eqGuard,binOp,Op.shift,show ¬ b<0 by omega,hr]
theorem NA {r:Int} (ho:o.op=.binOp .and T x y Ty) (hx:S.ev x=some (.sc (.int k a))) (hy:S.ev y=some (.sc (.int k b))) (hr:k.wrap (BitVec.ofInt k.bits a &&& BitVec.ofInt k.bits b).toNat=r):bW P o S (.sc (.int k r)) :=
  oH ho hx hy λw=>by simp only [eqGuard,binOp,Op.intBits];simp [<- hr]
theorem NI {r:Int} (ho:o.op=.binOp .or T x y Ty) (hx:S.ev x=some (.sc (.int k a))) (hy:S.ev y=some (.sc (.int k b))) (hr:k.wrap (BitVec.ofInt k.bits a ||| BitVec.ofInt k.bits b).toNat=r):bW P o S (.sc (.int k r)) :=
  oH ho hx hy λw=>by simp only [eqGuard,binOp,Op.intBits];simp [<- hr]
end bin
abbrev bs (l:List UInt8):ByteArray:=⟨l.toArray⟩
section str
variable {T Ty:TypeId} {x y:Operand} {l m:List UInt8}
theorem K5 (ho:o.op=.binOp .neq T x y Ty) (hx:S.ev x=some (.sc (.string (bs l)))) (hy:S.ev y=some (.sc (.string (bs m)))):bW P o S (.sc (.bool (decide (l≠m)))) :=
  oH ho hx hy λw=>by
    have:(!(l == m))=decide (l≠m):=by by_cases h:l=m <;> simp [h]
    simp [eqGuard,binOp,Op.stringOp,this]
end str
end ops
end
end Go.Pv
