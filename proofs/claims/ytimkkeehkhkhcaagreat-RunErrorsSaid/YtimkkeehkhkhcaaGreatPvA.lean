import Derived.WalkKit
import Derived.RangeFuncIn
import Derived.RangeFuncRecord
import Derived.Orders
import Derived.Scope
import Derived.OrdersIn
set_option linter.unusedVariables false
set_option linter.unusedSimpArgs false
namespace Go.Pv
structure NT where
  n:Nat
  rd:Bool
  ds:List Deferred
structure lW (rd:Bool) (F:Fence):Prop where
  fn:∀ f,F.fn f
  depth:F.depth=none
  alive:F.alive=false
  round:rd=false->F.round=none
theorem HZ {rd:Bool}:lW rd Fence.wide:=⟨λ_=>trivial,rfl,rfl,λ_=>rfl⟩
theorem wide_round (l:Nat):lW true (Fence.wide.inRound l):=⟨λ_=>trivial,rfl,rfl,λh=>by cases h⟩
section
variable {rd:Bool} {F:Fence} {P:Program}
theorem lW.room (h:lW rd F) (n:Nat):F.room n:=λ_ hd=>by rw [h.depth] at hd;cases hd
theorem lW.fenced (h:lW rd F) (m:Machine):m.fenced P F:=by
  intro g _
  exact ⟨λha=>(by rw [h.alive] at ha;cases ha),Or.inl (h.fn _),λ_ _=>h.fn _,h.room _⟩
theorem lW.steps (h:lW rd F) {m m':Machine}:StepsIn (Machine.fenced P F) P m m'↔Steps P m m' :=
  ⟨StepsIn.steps,λk=>(StepsIn.of_steps k).mono λm _=>h.fenced m⟩
theorem lW.comes (h:lW rd F) {m m':Machine} {e:Ending} (k:Comes P m m' e):ComesIn (Machine.fenced P F) P m m' e:=by
  cases e with
  | returned v=>exact h.steps.2 k
  | panicked chain=>exact h.steps.2 k
  | outgrown=>exact k
theorem lW.calls (h:lW rd F) {n:Nat} {f:FuncId} {args:Array Value} {w:World} {R:Ending->World->Prop} (k:Calls P f args w R):CallsIn F n P f args w R :=
  ⟨h.fn f,λcs _=>let ⟨e,w',fr,r,s,x⟩:=k cs;⟨e,w',fr,r,h.comes s,x⟩⟩
theorem lW.rows (h:lW rd F) {n:Nat} {f:String} {args:Array Value} {w:World} {R:Value->World->Prop} (k:Rows P f args w R):RowsIn F n P f args w R :=
  λc cs _=>let ⟨v,w',r,s⟩:=k c cs;⟨v,w',r,h.steps.2 s⟩
def kN (o:Oper):Bool:=match o.op with
  | .defer _=>false
  | _=>true
theorem aLE {o:Oper} (h:kN o=true):∀ c,o.op≠.defer c:=λc hc=>by simp [kN,hc] at h
theorem lW.oper (h:lW rd F) {n:Nat} {o:Oper} {a:Act} {w:World} {K:Act->World->Prop} {Q:Go.Exit->Act->World->Prop} (hd:kN o=true) (k:o.wp P a w K Q):o.wpIn F n P a w K Q:=by
  refine ⟨λf _=>h.fn f,?_⟩
  rw [Oper.semAt_eq _ _ _ (aLE hd)]
  unfold Oper.wp at k
  generalize (execOp a.eval o).run P w=r at *
  have hdep:F.depth.isSome=true->1<=n:=λhs=>by rw [h.depth] at hs;cases hs
  cases r with
  | ok x w' =>
    cases x <;> simp only [Oper.upon,Oper.uponIn] at k ⊢ <;>
      first
        | exact k
        | exact ⟨hdep,h.calls k⟩
        | exact ⟨hdep,h.rows k⟩
        | exact k.elim
  | halt x w'=>cases x <;> simp only [Oper.upon,Oper.uponIn] at k ⊢ <;> first | exact k | exact k.elim
theorem lW.ops (h:lW rd F) {n:Nat} {ops:Array Oper} {Q:Go.Exit->Act->World->Prop} (hd:ops.all kN=true) (hq:¬ LetsOut Q) :
    ∀ (l:List Nat) (a:Act) (w:World),wpOps P ops Q l a w->wpOpsIn F n P ops Q l a w
  | [],a,w,k=>k
  | i :: rest,a,w,k=>by
    simp only [wpOps,wpOpsIn] at k ⊢
    cases ho:ops[i]? with
    | none=>simp only [ho] at k ⊢;exact h.ops hd hq rest a w k
    | some o =>
      simp only [ho] at k ⊢
      have hdo:kN o=true:=by
        rw [Array.all_eq_true] at hd
        obtain ⟨hi,e⟩:=Array.getElem?_eq_some_iff.1 ho
        exact e ▸ hd i hi
      split
      · rename_i hw
        simp only [hw,if_true] at k
        rcases k with k | ⟨_,a1,w1,k⟩
        · have:=h.oper (n:=n) hdo k
          exact Oper.wpIn_mono (λa w hh=>h.ops hd hq rest a w hh) this
        · exact (hq ⟨a1,w1,k⟩).elim
      · rename_i hw
        simp only [hw] at k
        exact ⟨λf _=>h.fn f,h.ops hd hq rest _ w k⟩
end
def jV (rd:Bool) (P:Program) (c:Code) (Q:Go.Exit->Act->World->Prop) (a:Act) (w:World):Prop:=∀ F:Fence,lW rd F->c.wpIn F 0 P Q a w
section
variable {rd:Bool} {P:Program} {Q Q':Go.Exit->Act->World->Prop} {a:Act} {w:World} {c x y:Code}
theorem kJ (h:jV rd P c Q a w) (hq:∀ e a w,Q e a w->Q' e a w):jV rd P c Q' a w:=λF hF=>wpIn_mono (h F hF) hq
theorem aA3 (h:Q .normal a w):jV rd P .skip Q a w:=λ_ _=>wpIn_skip h
theorem aJ5 {l:Nat} (h:Q .normal a w):jV rd P (.label l) Q a w:=λ_ _=>wpIn_label h
theorem aC8 {id:Nat} (h:Q (.exit id) a w):jV rd P (.exit id) Q a w:=λ_ _=>wpIn_exit h
theorem XV (h:Q .ret a w):jV rd P .ret Q a w:=λ_ _=>wpIn_ret h
theorem DC (h:jV rd P x (Go.Exit.then (jV rd P y Q) Q) a w):jV rd P (.seq x y) Q a w:=λF hF =>
  wpIn_seq (wpIn_mono (h F hF) λe a w q=>by
    cases e with
    | normal=>exact q F hF
    | _=>exact q)
theorem WW {o:Operand} {t:Bool} (hc:a.eval o=.bool t) (ht:t=true->jV rd P x Q a w) (hf:t=false->jV rd P y Q a w):jV rd P (.cond o x y) Q a w :=
  λF hF=>wpIn_cond_split hc (λh=>ht h F hF) (λh=>hf h F hF)
theorem HV {id:Nat} (h:jV rd P c (Go.Exit.inBlock id Q) a w):jV rd P (.block id c) Q a w:=λF hF=>wpIn_block (h F hF)
theorem X5 (I:Act->World->Prop) (μ:Act->World->Nat) (h₀:I a w)
    (round:∀ a w,I a w->jV rd P c (Go.Exit.then (λa' w'=>I a' w'/\μ a' w' < μ a w) Q) a w):jV rd P (.loop c) Q a w :=
  λF hF=>wpIn_loop I μ h₀ λa w h=>round a w h F hF
theorem aI1 {id:Nat} {ops:Array Oper} (hd:ops.all kN=true) (hq:¬ LetsOut Q) (h:wpOps P ops Q (List.range ops.size) a w):jV rd P (.region id ops false) Q a w :=
  λF hF=>wpIn_region (hF.ops hd hq _ _ _ h)
theorem aIR {id:Nat} {ops:Array Oper} (hm:P.follows .mixedOrders=true) (hd:ops.all kN=true) (hq:¬ LetsOut Q)
    (h:wpAny P .any ops Q ops.size (Array.replicate ops.size false) a { w with drawn:=w.drawn+1 }):jV rd P (.region id ops true) Q a w :=
  λF hF=>wpIn_region_draw λt=>hF.ops hd hq _ _ _ (by
    simp only [Region.schedule,hm,Bool.true_or,if_true]
    exact wpAny_sound ops.size t _ a _ h)
theorem EM {K:Act->World->Prop} {id:Nat} {ops:Array Oper} (hd:ops.all kN=true) (h:wpOps P ops (λe a w=>e=.normal/\K a w) (List.range ops.size) a w) :
    jV rd P (.region id ops false) (λe a w=>e=.normal/\K a w) a w:=aI1 hd (λ⟨_,_,h,_⟩=>nomatch h) h
theorem aFB {id:Nat} {ops:Array Oper} (hd:ops.all kN=true) (h:wpOps P ops (λe a w=>e=.normal/\Q .normal a w) (List.range ops.size) a w) :
    jV rd P (.region id ops false) Q a w:=kJ (EM (K:=Q .normal) hd h) λe a w ⟨he,hk⟩=>by subst he;exact hk
theorem JX {K:Act->World->Prop} {id:Nat} {ops:Array Oper} (hm:P.follows .mixedOrders=true) (hd:ops.all kN=true)
    (h:wpAny P .any ops (λe a w=>e=.normal/\K a w) ops.size (Array.replicate ops.size false) a { w with drawn:=w.drawn+1 }) :
    jV rd P (.region id ops true) (λe a w=>e=.normal/\K a w) a w:=aIR hm hd (λ⟨_,_,h,_⟩=>nomatch h) h
theorem aBV {b:Frame} {k:List Item} {cs:List Frame} {c:Code}:step P (lone (b.atR a (.code (.scope c) :: k)) cs w)=.next (lone (b.atR a (.code c :: .inScope c :: k)) cs w) :=
  step_lone_go (by simp [stepG,stepG.exec,Frame.atR])
theorem aE3 {b:Frame} {k:List Item} {cs:List Frame} {c:Code}:step P (lone (b.atR a (.inScope c :: k)) cs w)=.next (lone (b.atR a k) cs w) :=
  step_lone_go (by simp [stepG,stepG.exec,Frame.atR])
theorem V9 (h:jV rd P c (Go.Exit.noGoto Q) a w):jV rd P (.scope c) Q a w:=by
  intro F hF b k cs hro hb hr
  obtain ⟨e,a₁,w₁,hq,harr⟩:=h F hF b (.inScope c :: k) cs hro hb hr
  have st:StepsIn (Machine.fenced P F) P (lone (b.atR a (.code (.scope c) :: k)) cs w) (lone (b.atR a (.code c :: .inScope c :: k)) cs w):=hF.steps.2 (.one aBV)
  have hx:∀ id,exitTo id (.inScope c :: k)=exitTo id k:=λid=>by simp [exitTo]
  cases e with
  | normal=>exact ⟨.normal,a₁,w₁,hq,(StepsIn.trans st harr).trans (hF.steps.2 (.one aE3))⟩
  | exit id=>exact ⟨.exit id,a₁,w₁,hq,λk' hk=>st.trans (harr.1 k' (by rw [hx];exact hk)),λhr' hk=>let ⟨k₁,h1,h2⟩:=harr.2 hr' (by rw [hx];exact hk);⟨k₁,h1,st.trans h2⟩⟩
  | goto l=>exact hq.elim
  | ret=>exact ⟨_,a₁,w₁,hq,.of_steps st harr⟩
  | panic ch=>exact ⟨_,a₁,w₁,hq,.of_steps st harr⟩
  | outgrown=>exact ⟨_,a₁,w₁,hq,.of_steps st harr⟩
theorem aAW {f:FuncId} {fn:Func} {args:Array Value} {R:Ending->World->Prop} (hf:P.funcs[f]?=some fn) (hb:fn.body=some c)
    (h:jV false P c (bodyPost P fn R) { tmps:=args++Array.replicate (fn.ntmps-args.size) undef,defers:=[] } w):Calls P f args w R :=
  callsIn_wide.1 (callsIn_of_wp (n:=0) hf hb trivial (h _ HZ))
end
inductive AV where
  | sc (v:Value)
  | list (sz:Nat) (xs:List (List AV))
  | pp (cells:List AV)
  | pt (id aD row off:Nat)
  | sl (id aD off len:Nat)
  | agg (cells:List AV)
  | fn (f:Fn) (first cap:List AV)
  | iG (t:TypeId) (v:AV)
  | aM (vs:List AV)
  | mp (ks:List Int) (vs:List AV)
  deriving Inhabited
structure Mu where
  nil:Bool
  b:Nat
  sz:Nat
  ct:Nat
  aD:Nat
structure Sit where
  w:World
  Im:Nat->Prop
  mu:Nat->Option Mu
  used:Nat->Prop
inductive VR (s:Sit):AV->Value->Prop where
  | sc (v:Value):VR s (.sc v) v
  | nil (sz:Nat):VR s (.list sz []) (.slice none 0 0)
  | emp (sz:Nat) (a:Addr):VR s (.list sz []) (.slice (some a) 0 0)
  | list {sz:Nat} {xs:List (List AV)} {b off cap:Nat} (f:Nat->Nat->Value) (hI:s.Im b) (hc:xs.length<=cap) (hm:cap<=maxLen)
      (hr:∀ (i:Nat) (r:List AV),xs[i]?=some r->r.length=sz)
      (hf:∀ (i:Nat) (r:List AV) (j:Nat) (x:AV),xs[i]?=some r->r[j]?=some x->s.w.cell? ⟨b,off+i*sz+j,none⟩=some (f i j))
      (hv:∀ (i:Nat) (r:List AV) (j:Nat) (x:AV),xs[i]?=some r->r[j]?=some x->VR s x (f i j)) :
      VR s (.list sz xs) (.slice (some ⟨b,off,none⟩) xs.length cap)
  | pp {cs:List AV} {b off:Nat} (f:Nat->Value) (hI:s.Im b)
      (hf:∀ (j:Nat) (x:AV),cs[j]?=some x->s.w.cell? ⟨b,off+j,none⟩=some (f j))
      (hv:∀ (j:Nat) (x:AV),cs[j]?=some x->VR s x (f j)):VR s (.pp cs) (.pointer (some ⟨b,off,none⟩))
  | pt {id aD row off:Nat} {v:Value} (hk:s.used aD) (h1:v.oneCell'=true)
      (h:∀ m,s.mu id=some m->m.aD=aD->m.nil=false->v=.pointer (some ⟨m.b,row*m.sz+off,none⟩)):VR s (.pt id aD row off) v
  | sl {id aD off len:Nat} {v:Value} (hk:s.used aD) (h1:v.oneCell'=true)
      (h:∀ m,s.mu id=some m->m.aD=aD->(m.nil=true->v=.slice none 0 0/\len=0)/\(m.nil=false->∃ cap,v=.slice (some ⟨m.b,off*m.sz,none⟩) len cap/\len<=cap/\off+cap<=m.ct)):VR s (.sl id aD off len) v
  | agg {cs:List AV} {vs:Array Value} (hl:cs.length=vs.size)
      (hv:∀ (i:Nat) (x:AV) (v:Value),cs[i]?=some x->vs[i]?=some v->VR s x v):VR s (.agg cs) (.agg vs)
  | fn {f:Fn} {a c:List AV} {a' c':Array Value} (hl:a.length=a'.size) (hl':c.length=c'.size)
      (hv:∀ (i:Nat) (x:AV) (v:Value),a[i]?=some x->a'[i]?=some v->VR s x v)
      (hv':∀ (i:Nat) (x:AV) (v:Value),c[i]?=some x->c'[i]?=some v->VR s x v):VR s (.fn f a c) (.func f a' c')
  | iG {t:TypeId} {x:AV} {v:Value} (h:VR s x v):VR s (.iG t x) (.iface t v)
  | aM {cs:List AV} {vs:Array Value} (hl:cs.length=vs.size)
      (hv:∀ (i:Nat) (x:AV) (v:Value),cs[i]?=some x->vs[i]?=some v->VR s x v):VR s (.aM cs) (.tuple vs)
  | mp {ks:List Int} {xs:List AV} {b clock:Nat} {es:Array MapEntry} (hI:s.Im b) (hb:s.w.heap[b]?=some (.map es clock)) (hk:es.toList.map (·.key)=ks.map (Value.int .i64)) (hl:xs.length=es.toList.length)
      (hv:∀ (i:Nat) (x:AV) (e:MapEntry),xs[i]?=some x->es.toList[i]?=some e->VR s x e.val):VR s (.mp ks xs) (.map (some b))
structure aW where
  elem:TypeId
  sz:Nat
  mt:Bool
  app:Bool
  aD:Nat
  rows:List (List AV)
abbrev AH:=Nat->Option aW
structure rJ (s:Sit) (o:aW) (m:Mu) (cur:Array Value) (fr:Nat×Nat):Prop where
  hnil:m.nil=false
  hb:s.w.heap[m.b]?=some (.cells cur o.elem fr)
  hfr:∀ k,k<cur.size->¬ (fr.1<=k/\k<fr.2)
  happ:o.app=true->fr=(0,0)
  hcs:cur.size=m.ct*o.sz
  hct:m.ct<=maxLen
  hlen:o.rows.length<=m.ct
  hr:∀ (i:Nat) (r:List AV),o.rows[i]?=some r->r.length=o.sz
  hv:∀ (i:Nat) (r:List AV) (j:Nat) (x:AV) (v:Value),o.rows[i]?=some r->r[j]?=some x->cur[i*o.sz+j]?=some v->VR s x v
  h1:∀ (k:Nat) (v:Value),cur[k]?=some v->v.oneCell'=true
  him:o.mt=false->s.Im m.b
  jI:o.mt=true->¬ s.Im m.b
structure WE (s:Sit) (id:Nat) (o:aW) (m:Mu):Prop where
  hm:s.mu id=some m
  bP:m.aD=o.aD
  hsz:m.sz=o.sz
  hk:s.used o.aD
  body:(m.nil=true/\o.rows=[])\/∃ cur fr,rJ s o m cur fr
structure HR (s:Sit) (H:AH):Prop where
  obj:∀ id o,H id=some o->∃ m,WE s id o m
  jQ:∀ id id' o o' m m',H id=some o->H id'=some o'->s.mu id=some m->s.mu id'=some m'->m.nil=false->m'.nil=false->m.b=m'.b->id=id'
  im:∀ b,s.Im b->b<s.w.heap.size
  fin:∃ C,∀ k,C<=k->¬ s.used k
def jY (s:Sit) (H:AH) (b:Nat):Prop:=∃ id o m,H id=some o/\o.mt=true/\s.mu id=some m/\m.nil=false/\m.b=b
structure Fr (s:Sit) (H:AH) (s':Sit) (H':AH):Prop where
  os:s'.w.os=s.w.os
  tape:s'.w.tape=s.w.tape
  output:s'.w.output=s.w.output
  size:s.w.heap.size<=s'.w.heap.size
  keep:∀ b,b<s.w.heap.size->¬ jY s H b->s'.w.heap[b]?=s.w.heap[b]?
  j5:∀ b,s.Im b->s'.Im b
  j4:∀ b,b<s.w.heap.size->¬ jY s H b->s'.Im b->s.Im b
  own:∀ b,b<s.w.heap.size->jY s' H' b->jY s H b
  vals:∀ x v,VR s x v->VR s' x v
  lY:∀ k,s.used k->s'.used k
theorem Fr.refl (s:Sit) (H:AH):Fr s H s H :=
  ⟨rfl,rfl,rfl,Nat.le_refl _,λ_ _ _=>rfl,λ_ h=>h,λ_ _ _ h=>h,λ_ _ h=>h,λ_ _ h=>h,λ_ h=>h⟩
theorem Fr.trans {s s1 s2:Sit} {H H1 H2:AH} (h:Fr s H s1 H1) (k:Fr s1 H1 s2 H2):Fr s H s2 H2 where
  os:=k.os.trans h.os
  tape:=k.tape.trans h.tape
  output:=k.output.trans h.output
  size:=Nat.le_trans h.size k.size
  keep:=λb hb ho=>(k.keep b (Nat.lt_of_lt_of_le hb h.size) (λh'=>ho (h.own b hb h'))).trans (h.keep b hb ho)
  j5:=λb hb=>k.j5 b (h.j5 b hb)
  j4:=λb hb ho hi=>h.j4 b hb ho (k.j4 b (Nat.lt_of_lt_of_le hb h.size) (λh'=>ho (h.own b hb h')) hi)
  own:=λb hb ho=>h.own b hb (k.own b (Nat.lt_of_lt_of_le hb h.size) ho)
  vals:=λx v hx=>k.vals x v (h.vals x v hx)
  lY:=λi hi=>k.lY i (h.lY i hi)
theorem cell_of_heap {w w':World} {a:Addr} (h:w'.heap[a.block]?=w.heap[a.block]?):w'.cell? a=w.cell? a:=by simp [World.cell?,h]
theorem VR.mono {s s':Sit} (hI:∀ b,s.Im b->s'.Im b/\s'.w.heap[b]?=s.w.heap[b]?)
    (hm:∀ id m',s'.mu id=some m'->s.mu id=some m'\/¬ s.used m'.aD) (hk:∀ k,s.used k->s'.used k) {x:AV} {v:Value} (h:VR s x v):VR s' x v:=by
  induction h with
  | sc v=>exact .sc v
  | nil sz=>exact .nil sz
  | emp sz a=>exact .emp sz a
  | list f hI' hc hm' hr hf _ ih =>
    exact .list f (hI _ hI').1 hc hm' hr (λi r j x h1 h2=>(cell_of_heap (hI _ hI').2).trans (hf i r j x h1 h2)) ih
  | pp f hI' hf _ ih=>exact .pp f (hI _ hI').1 (λj x h1=>(cell_of_heap (hI _ hI').2).trans (hf j x h1)) ih
  | pt hk' h1 h =>
    refine .pt (hk _ hk') h1 λm hm1 hv=>?_
    rcases hm _ _ hm1 with h2 | h2
    · exact h m h2 hv
    · exact absurd (hv ▸ hk') h2
  | sl hk' h1 h =>
    refine .sl (hk _ hk') h1 λm hm1 hv=>?_
    rcases hm _ _ hm1 with h2 | h2
    · exact h m h2 hv
    · exact absurd (hv ▸ hk') h2
  | agg hl _ ih=>exact .agg hl ih
  | fn hl hl' _ _ ih ih'=>exact .fn hl hl' ih ih'
  | iG _ ih=>exact .iG ih
  | aM hl _ ih=>exact .aM hl ih
  | mp hI' hb hk hl _ ih=>exact .mp (hI _ hI').1 ((hI _ hI').2.trans hb) hk hl ih
structure AS where
  sl:Nat->Option AV
  hp:AH
def upd {α:Type} (f:Nat->Option α) (t:Nat) (v:Option α):Nat->Option α:=λi=>bif Nat.beq i t then v else f i
theorem upd_same {α:Type} (f:Nat->Option α) (t:Nat) (v:Option α):upd f t v t=v:=by simp [upd]
theorem upd_ne {α:Type} (f:Nat->Option α) {t i:Nat} (v:Option α) (h:i≠t):upd f t v i=f i:=by
  have:Nat.beq i t=false:=by cases hb:Nat.beq i t with | false=>rfl | true=>exact absurd (Nat.eq_of_beq_eq_true hb) h
  simp only [upd,this,cond_false]
def AS.put (S:AS) (d:Option Tmp) (v:AV):AS :=
  match d with
  | none=>S
  | some t=>{ S with sl:=upd S.sl t (some v) }
def AS.ev (S:AS):Operand->Option AV
  | .tmp t=>S.sl t
  | .const v=>some (.sc v)
  | .global g=>some (.sc (.pointer (some ⟨g,0,none⟩)))
  | .func f=>some (.fn (.func f) [] [])
structure SR (n:NT) (s:Sit) (S:AS) (a:Act):Prop where
  size:a.tmps.size=n.n
  defers:a.defers=n.ds
  slot:∀ t x,S.sl t=some x->∃ v,a.tmps[t]?=some v/\VR s x v
  heap:HR s S.hp
def Tr (P:Program) (n:NT) (c:Code) (S:AS) (Q:Exit->AS->Prop):Prop :=
  ∀ s a,SR n s S a->jV n.rd P c (λe a' w'=>∃ S' s',w'=s'.w/\Q e S'/\SR n s' S' a'/\Fr s S.hp s' S'.hp) a s.w
section
variable {P:Program} {n:NT} {S:AS} {Q:Exit->AS->Prop}
theorem Tr.mono {c:Code} {Q':Exit->AS->Prop} (h:Tr P n c S Q) (hq:∀ e S,Q e S->Q' e S):Tr P n c S Q' :=
  λs a hs=>kJ (h s a hs) λ_ _ _ ⟨S',s',h1,h2,h3⟩=>⟨S',s',h1,hq _ _ h2,h3⟩
theorem aDC (h:Q .normal S):Tr P n .skip S Q:=λs _ hs=>aA3 ⟨S,s,rfl,h,hs,Fr.refl _ _⟩
theorem YV {l:Nat} (h:Q .normal S):Tr P n (.label l) S Q:=λs _ hs=>aJ5 ⟨S,s,rfl,h,hs,Fr.refl _ _⟩
theorem Y8 {id:Nat} (h:Q (.exit id) S):Tr P n (.exit id) S Q:=λs _ hs=>aC8 ⟨S,s,rfl,h,hs,Fr.refl _ _⟩
theorem aG5 (h:Q .ret S):Tr P n .ret S Q:=λs _ hs=>XV ⟨S,s,rfl,h,hs,Fr.refl _ _⟩
@[reducible] def Exit.thn (next:AS->Prop) (Q:Exit->AS->Prop):Exit->AS->Prop
  | .normal,S=>next S
  | e,S=>Q e S
theorem aAN {x y:Code} (h:Tr P n x S (Exit.thn (λS'=>Tr P n y S' Q) Q)):Tr P n (.seq x y) S Q:=by
  intro s a hs
  refine DC (kJ (h s a hs) ?_)
  rintro e a1 w1 ⟨S1,s1,rfl,hq,hs1,hf1⟩
  cases e with
  | normal =>
    exact kJ (hq s1 a1 hs1) λe a2 w2 ⟨S2,s2,h1,h2,h3,h4⟩=>⟨S2,s2,h1,h2,h3,hf1.trans h4⟩
  | _=>exact ⟨S1,s1,rfl,hq,hs1,hf1⟩
theorem tC {s:Sit} {a:Act} {x:AV} {o:Operand} (hs:SR n s S a) (h:S.ev o=some x):VR s x (a.eval o):=by
  cases o with
  | tmp t =>
    obtain ⟨v,h1,h2⟩:=hs.slot t x h
    have:a.eval (.tmp t)=v:=by simp [Act.eval,h1]
    rw [this];exact h2
  | const v=>simp only [AS.ev,Option.some.injEq] at h;subst h;exact .sc _
  | global g=>simp only [AS.ev,Option.some.injEq] at h;subst h;exact .sc _
  | func f=>simp only [AS.ev,Option.some.injEq] at h;subst h;exact .fn rfl rfl (by simp) (by simp)
theorem VR.gJ {s:Sit} {u v:Value} (h:VR s (.sc u) v):v=u:=by cases h;rfl
theorem aCR {c:Operand} {x y:Code} {t:Bool} (hc:S.ev c=some (.sc (.bool t)))
    (ht:t=true->Tr P n x S Q) (hf:t=false->Tr P n y S Q):Tr P n (.cond c x y) S Q:=by
  intro s a hs
  have:=VR.gJ (tC hs hc)
  exact WW this (λh=>ht h s a hs) (λh=>hf h s a hs)
@[reducible] def Exit.yD (id:Nat) (Q:Exit->AS->Prop):Exit->AS->Prop
  | .exit id',S=>if id'=id then Q .normal S else Q (.exit id') S
  | e,S=>Q e S
theorem IR {id:Nat} {c:Code} (h:Tr P n c S (Exit.yD id Q)):Tr P n (.block id c) S Q:=by
  intro s a hs
  refine HV (kJ (h s a hs) ?_)
  rintro e a1 w1 ⟨S1,s1,rfl,hq,hs1,hf1⟩
  cases e with
  | exit id' =>
    simp only [Exit.yD] at hq
    simp only [Exit.inBlock]
    split
    · rename_i he;rw [if_pos he] at hq;exact ⟨S1,s1,rfl,hq,hs1,hf1⟩
    · rename_i he;rw [if_neg he] at hq;exact ⟨S1,s1,rfl,hq,hs1,hf1⟩
  | _=>exact ⟨S1,s1,rfl,hq,hs1,hf1⟩
def AS.le (S S':AS):Prop:=∀ s,(∀ t x,S'.sl t=some x->∃ y,S.sl t=some y/\∀ v,VR s y v->VR s x v)/\(HR s S.hp->HR s S'.hp)/\(∀ b,jY s S'.hp b->jY s S.hp b)
theorem SR.le {s:Sit} {S':AS} {a:Act} (h:SR n s S a) (hl:S.le S'):SR n s S' a :=
  ⟨h.size,h.defers,λt x hx=>let ⟨_,h1,h2⟩:=(hl s).1 t x hx;let ⟨v,h3,h4⟩:=h.slot t _ h1;⟨v,h3,h2 v h4⟩,(hl s).2.1 h.heap⟩
theorem aGF {c:Code} {S':AS} (hl:S.le S') (h:Tr P n c S' Q):Tr P n c S Q:=by
  intro s a hs
  refine kJ (h s a (hs.le hl)) ?_
  rintro e a1 w1 ⟨S1,s1,rfl,hq,hs1,hf1⟩
  exact ⟨S1,s1,rfl,hq,hs1,⟨hf1.os,hf1.tape,hf1.output,hf1.size,λb hb ho=>hf1.keep b hb (λh'=>ho ((hl s).2.2 b h')),hf1.j5,
    λb hb ho hi=>hf1.j4 b hb (λh'=>ho ((hl s).2.2 b h')) hi,λb hb ho=>(hl s).2.2 b (hf1.own b hb ho),hf1.vals,hf1.lY⟩⟩
theorem ES {c:Code} {ι:Type} (St:ι->AS) (μ:ι->Nat) (i₀:ι) (h₀:S.le (St i₀))
    (round:∀ i,Tr P n c (St i) (Exit.thn (λS'=>∃ j,μ j<μ i/\S'.le (St j)) Q)):Tr P n (.loop c) S Q:=by
  refine aGF h₀ ?_
  intro s a hs F hF b kk cs hro hb hr
  have key:∀ k i,μ i=k->∀ s a,SR n s (St i) a->∃ e a' w',(∃ S' s',w'=s'.w/\Q e S'/\SR n s' S' a'/\Fr s (St i).hp s' S'.hp) /\
      ArrivesIn (Machine.fenced P F) P (lone (b.atR a (.code c :: .inLoop c :: kk)) cs s.w) b kk cs e a' w':=by
    intro k
    induction k using Nat.strongRecOn with
    | _ k ih =>
      intro i hi s a hs
      obtain ⟨e,a1,w1,⟨S1,s1,rfl,hq,hs1,hf1⟩,harr⟩:=round i s a hs F hF b (.inLoop c :: kk) cs hro hb hr
      cases e with
      | normal =>
        obtain ⟨j,hj,hle⟩:=hq
        obtain ⟨e2,a2,w2,⟨S2,s2,rfl,hq2,hs2,hf2⟩,harr2⟩:=ih (μ j) (by omega) j rfl s1 a1 (hs1.le hle)
        refine ⟨e2,a2,s2.w,⟨S2,s2,rfl,hq2,hs2,?_⟩,.of_steps (StepsIn.trans harr (.one (hF.fenced _) stepR_inLoop)) harr2⟩
        exact hf1.trans ⟨hf2.os,hf2.tape,hf2.output,hf2.size,λb hb ho=>hf2.keep b hb (λh'=>ho ((hle s1).2.2 b h')),hf2.j5,
          λb hb ho hi=>hf2.j4 b hb (λh'=>ho ((hle s1).2.2 b h')) hi,λb hb ho=>(hle s1).2.2 b (hf2.own b hb ho),hf2.vals,hf2.lY⟩
      | exit id=>exact ⟨_,a1,_,⟨S1,s1,rfl,hq,hs1,hf1⟩,.pass (x:=.inLoop c) rfl (λ_ _=>.inl (by simp)) harr⟩
      | goto l=>exact ⟨_,a1,_,⟨S1,s1,rfl,hq,hs1,hf1⟩,.pass (x:=.inLoop c) rfl (λ_ _=>.inl (by simp)) harr⟩
      | ret=>exact ⟨_,a1,_,⟨S1,s1,rfl,hq,hs1,hf1⟩,.pass (x:=.inLoop c) rfl (λ_ _=>.inl (by simp)) harr⟩
      | panic ch=>exact ⟨_,a1,_,⟨S1,s1,rfl,hq,hs1,hf1⟩,.pass (x:=.inLoop c) rfl (λ_ _=>.inl (by simp)) harr⟩
      | outgrown=>exact ⟨_,a1,_,⟨S1,s1,rfl,hq,hs1,hf1⟩,.pass (x:=.inLoop c) rfl (λ_ _=>.inl (by simp)) harr⟩
  obtain ⟨e,a',w',hq,harr⟩:=key _ i₀ rfl s a hs
  exact ⟨e,a',w',hq,.of_steps (.one (hF.fenced _) stepR_loop) harr⟩
end
end Go.Pv
