import Derived.Test.YtfbohcojaajpfaaGreatE70
set_option linter.unusedVariables false
set_option linter.unusedSimpArgs false
namespace Go.Pv
open Go.Proofs
def sumf {α:Type} (f:α→Int):List α→Int | []=>0 | x :: r=>f x+sumf f r
theorem sumf_app {α:Type} (f:α→Int) (a b:List α):sumf f (a++b)=sumf f a+sumf f b:=by
  induction a with
  | nil=>simp [sumf]
  | cons x r ih=>simp only [List.cons_append,sumf,ih];omega
theorem sumf_set {α:Type} (f:α→Int) {l:List α} {k:Nat} {a b:α} (h:l[k]?=some a):sumf f (l.set k b)=sumf f l-f a+f b:=by
  induction l generalizing k with
  | nil=>cases h
  | cons x r ih =>
    cases k with
    | zero=>cases h;simp only [List.set_cons_zero,sumf];omega
    | succ k=>simp only [List.set_cons_succ,sumf];rw [ih h];omega
theorem sumf_nn {α:Type} {f:α→Int} {l:List α} (h:∀ x∈l,0≤f x):0≤sumf f l:=by
  induction l with
  | nil=>exact Int.le_refl _
  | cons x r ih=>have:=ih fun y hy=>h y (List.mem_cons_of_mem _ hy);have:=h x (List.mem_cons_self ..);simp only [sumf];omega
theorem sumf_drop {α:Type} (f:α→Int) {l:List α} {i:Nat} {x:α} (h:l[i]?=some x):sumf f (l.drop i)=f x+sumf f (l.drop (i+1)):=by
  rw [(drop_at h).2];rfl
theorem sumf_map {α β:Type} (f:β→Int) (g:α→β) (l:List α):sumf f (l.map g)=sumf (fun x=>f (g x)) l:=by
  induction l with
  | nil=>rfl
  | cons x r ih=>simp only [List.map_cons,sumf,ih]
theorem sumf_zero {α:Type} {f:α→Int} {l:List α} (h:∀ x∈l,f x=0):sumf f l=0:=by
  induction l with
  | nil=>rfl
  | cons x r ih=>simp only [sumf];rw [h x (List.mem_cons_self ..),ih fun y hy=>h y (List.mem_cons_of_mem _ hy)];rfl
def sumI (l:List Int):Int:=sumf (fun x=>x) l
def sV (l:List GPool):Int:=sumf (fun p=>tV p.Layers) l
theorem mem_set {α:Type} {l:List α} {k:Nat} {b x:α} (h:x∈l.set k b):x=b∨x∈l:=by
  rcases List.mem_or_eq_of_mem_set h with h | h
  · exact .inr h
  · exact .inl h
theorem adds_nn {l:List Int}:∀ {n:Int},0≤n→(∀ x∈l,0≤x)→n+sumI l≤288230376151711744→adds n l=some (n+sumI l):=by
  induction l with
  | nil=>intro n _ _ _;simp [adds,sumI,sumf]
  | cons x r ih =>
    intro n hn hx hs
    have h1:=hx x (List.mem_cons_self ..)
    have h2:0≤sumI r:=sumf_nn fun y hy=>hx y (List.mem_cons_of_mem _ hy)
    have e:sumI (x :: r)=x+sumI r:=rfl
    rw [adds,if_pos ⟨by unfold InM;omega,by unfold InM;omega,by unfold InM;omega⟩,ih (by omega) (fun y hy=>hx y (List.mem_cons_of_mem _ hy)) (by omega),e,Int.add_assoc]
theorem sum2_nn {l:List Int} (hx:∀ x∈l,0≤x) (hs:sumI l≤288230376151711744):sum2 l=(sumI l,0):=by
  unfold sum2;rw [adds_nn (Int.le_refl 0) hx (by omega)];show (0+sumI l,(0:Int))=_;rw [Int.zero_add]
theorem adds_some {l:List Int}:∀ {n v:Int},adds n l=some v→v=n+sumI l∧(InM n→InM v):=by
  induction l with
  | nil=>intro n v h;cases h;simp [sumI,sumf]
  | cons x r ih =>
    intro n v h
    rw [adds] at h
    by_cases hc:InM n∧InM x∧InM (n+x)
    · rw [if_pos hc] at h
      obtain ⟨h1,h2⟩:=ih h
      exact ⟨by rw [h1];show n+x+sumI r=n+(x+sumI r);omega,fun _=>h2 hc.2.2⟩
    · rw [if_neg hc] at h;cases h
theorem sum2_ok {l:List Int} (h:(sum2 l).2=0):sum2 l=(sumI l,0)∧InM (sumI l):=by
  unfold sum2 at h ⊢
  cases e:adds 0 l with
  | none=>rw [e] at h;exact absurd (show (2:Int)=0 from h) (by decide)
  | some v =>
    obtain ⟨h1,h2⟩:=adds_some e
    rw [Int.zero_add] at h1;subst h1
    exact ⟨rfl,h2 (by unfold InM;omega)⟩
theorem LR_one {l:List GLayer} (h:LR l) (hl:1≤l.length):LR [⟨tQ l,tV l,tP l⟩]∧tS [⟨tQ l,tV l,tP l⟩]≤tS l∧tQ [⟨tQ l,tV l,tP l⟩]=tQ l∧tV [⟨tQ l,tV l,tP l⟩]=tV l∧tP [⟨tQ l,tV l,tP l⟩]=tP l:=by
  obtain ⟨hk,h30,hQ,hV,hS⟩:=h
  obtain ⟨a1,a2,a3,a4,a5,a6⟩:=s_pos hk
  have e:ab (tP l)≤tS l:=by unfold ab;split <;> omega
  refine ⟨⟨?_,by simp,by simp [tQ];omega,by simp [tV];omega,by simp [tS];omega⟩,by simp [tS];omega,by simp [tQ],by simp [tV],by simp [tP]⟩
  intro x hx
  rw [List.mem_singleton] at hx;subst hx
  exact ⟨by simp only;omega,by simp only;omega,by unfold InM;simp only;omega⟩
theorem LR_mk {q v p:Int} (hq:1≤q∧q≤288230376151711744) (hv:0≤v∧v≤288230376151711744) (hp:InM p):LR [⟨q,v,p⟩]:=by
  have e:ab p≤288230376151711744:=by unfold InM at hp;unfold ab;split <;> omega
  refine ⟨fun x hx=>?_,by simp,by simp [tQ];omega,by simp [tV];omega,by simp [tS];omega⟩
  rw [List.mem_singleton] at hx;subst hx;exact ⟨hq,hv,hp⟩
theorem LR_nil:LR []:=⟨(fun x hx=>(nomatch hx)),by simp,by simp [tQ],by simp [tV],by simp [tS]⟩
structure PR (m:Int) (p:GPool):Prop where
  mt:1≤m∧m≤4
  ly:LR p.Layers
  one:m≠1→p.Layers.length≤1
  p0:0≤p.Pend.a0
  p1:0≤p.Pend.a1
  p2:0≤p.Pend.a2
  sum:p.Pend.a0+p.Pend.a1+p.Pend.a2≤tQ p.Layers
  oth:m≠3→p.Pend.a0=0∧p.Pend.a1=0∧p.Pend.a2=0
structure IO (m:Int) (p q:GPool):Prop where
  pp:PR m p
  qq:PR m q
  sq:tQ p.Layers+tQ q.Layers≤288230376151711744
  ss:tS p.Layers+tS q.Layers≤288230376151711744
def RIn (r:GRoll):Prop:=InM r.Open∧InM r.Bought∧InM r.Landed∧InM r.Arrived∧InM r.Returned∧InM r.Sold∧InM r.Shipped∧InM r.SentBack∧InM r.Scrapped∧InM r.Lost∧InM r.Revalued
def rsum (r:GRoll):Int:=r.Open+r.Bought+r.Landed+r.Arrived+r.Returned+r.Revalued-(r.Sold+r.Shipped+r.SentBack+r.Scrapped+r.Lost)
def radd (a b:GRoll):GRoll:=⟨a.Open+b.Open,a.Bought+b.Bought,a.Landed+b.Landed,a.Arrived+b.Arrived,a.Returned+b.Returned,a.Sold+b.Sold,a.Shipped+b.Shipped,a.SentBack+b.SentBack,a.Scrapped+b.Scrapped,a.Lost+b.Lost,a.Revalued+b.Revalued⟩
structure ES (n:Nat) (mts:List Int) (per:Int) (x:GEnt):Prop where
  now:1≤x.Now∧x.Now≤per
  lp:x.Pools.length=2*n
  lr:x.Rolls.length=n
  lb:x.Bal.length=17
  lc:x.Prices.length=n
  ld:x.Down.length=n
  lm:mts.length=n
  bal:∀ b∈x.Bal,InM b
  pri:∀ b∈x.Prices,-1≤b∧b≤288230376151711744
  dwn:∀ b∈x.Down,0≤b∧b≤288230376151711744
  pool:∀ (i:Nat) m p q,mts[i]?=some m→x.Pools[2*i]?=some p→x.Pools[2*i+1]?=some q→IO m p q
  roll:∀ r∈x.Rolls,RIn r
def bl (x:GEnt) (a:Nat):Int:=x.Bal.getD a 0
structure EB (x:GEnt):Prop where
  ctl:sV x.Pools=bl x 0
  wri:sumI x.Down=-bl x 11
  bln:sumI x.Bal=0
  rol:∀ (i:Nat) r p q,x.Rolls[i]?=some r→x.Pools[2*i]?=some p→x.Pools[2*i+1]?=some q→rsum r=tV p.Layers+tV q.Layers
structure MOk (m:GMaster):Prop where
  ents:1≤m.Entities∧m.Entities≤4
  per:1≤m.Periods∧m.Periods≤12
  n1:1≤m.Weights.length∧m.Weights.length≤5
  wei:∀ x∈m.Weights,0≤x∧x≤1073741824
  lm:(m.Methods.length:Int)=m.Entities
  lc:(m.Costs.length:Int)=m.Entities
  met:∀ l∈m.Methods,l.length=m.Weights.length∧∀ x∈l,1≤x∧x≤4
  cos:∀ l∈m.Costs,l.length=m.Weights.length∧∀ x∈l,0≤x∧x≤1073741824
structure EO (m:GMaster) (mts:List Int) (x:GEnt):Prop where
  es:ES m.Weights.length mts m.Periods x
  ee:EB x
  opn:x.Closed=false
  ahd:x.Ahead=[]
structure EC (m:GMaster) (mts:List Int) (x y:GEnt):Prop where
  es:ES m.Weights.length mts m.Periods x
  ee:EB x
  cls:x.Closed=true
  ahd:x.Ahead=[y]
  eo:EO m mts y
  now:y.Now=x.Now
  b1:bl y 1=bl x 1
  b12:bl y 12=bl x 12
  b13:bl y 13=bl x 13
  b14:bl y 14=bl x 14
def EI (m:GMaster) (mts:List Int) (x:GEnt):Prop:=EO m mts x∨∃ y,EC m mts x y
def ROk (m:GMaster) (r:GReceipt):Prop:=(0≤r.Entity∧r.Entity<m.Entities)∧(0≤r.Item∧r.Item<(m.Weights.length:Int))∧(0≤r.Loc∧r.Loc≤1)∧(0≤r.Qty∧r.Qty≤288230376151711744)∧(0≤r.Value∧r.Value≤288230376151711744)∧(0≤r.Open∧r.Open≤r.Qty)∧(0≤r.Accrued∧r.Accrued≤288230376151711744)∧(0≤r.Back∧r.Back≤r.Qty)
def SOk (m:GMaster) (r:GSale):Prop:=(0≤r.Entity∧r.Entity<m.Entities)∧(0≤r.Item∧r.Item<(m.Weights.length:Int))∧(0≤r.Loc∧r.Loc≤1)∧(0≤r.Qty∧r.Qty≤288230376151711744)∧(0≤r.Back∧r.Back≤r.Qty)∧(0≤r.Cost∧r.Cost≤288230376151711744)∧InM r.Profit∧(1≤r.Period∧r.Period≤12)
def TOk (m:GMaster) (r:GTransit):Prop:=(0≤r.From∧r.From<m.Entities)∧(0≤r.To∧r.To<m.Entities)∧(0≤r.Item∧r.Item<(m.Weights.length:Int))∧(0≤r.Qty∧r.Qty≤288230376151711744)∧(0≤r.Value∧r.Value≤288230376151711744)∧InM r.Profit
def accR (e:Nat) (r:GReceipt):Int:=if r.Entity=(e:Int) then r.Accrued else 0
def wayT (e:Nat) (r:GTransit):Int:=if r.To=(e:Int) then r.Value else 0
def grp (x:GEnt):Int:=bl x 13+bl x 14
structure Inv (K:Int) (s:GState):Prop where
  mas:MOk s.Master
  len:(s.Ents.length:Int)=s.Master.Entities
  don:0≤s.Done∧s.Done≤K
  rct:∀ r∈s.Receipts,ROk s.Master r
  sal:∀ r∈s.Sales,SOk s.Master r
  tra:∀ r∈s.Transits,TOk s.Master r
  l1:s.Receipts.length≤40
  l2:s.Sales.length≤40
  l3:s.Transits.length≤40
  ent:∀ (e:Nat) x mts,s.Ents[e]?=some x→s.Master.Methods[e]?=some mts→EI s.Master mts x
  acc:∀ (e:Nat) x,s.Ents[e]?=some x→sumf (accR e) s.Receipts=-bl x 1
  way:∀ (e:Nat) x,s.Ents[e]?=some x→sumf (wayT e) s.Transits=bl x 12
  mtl:sumf grp s.Ents=0
def upE (s:GState) (e:Nat) (x:GEnt):GState:={ s with Ents:=s.Ents.set e x }
theorem upE_upE (s:GState) (e:Nat) (x y:GEnt):upE (upE s e x) e y=upE s e y:=by unfold upE;rw [List.set_set]
theorem upE_at {s:GState} {e:Nat} {x:GEnt} (h:e<s.Ents.length):(upE s e x).Ents[e]?=some x:=by unfold upE;simp [h]
theorem get_set {α:Type} {l:List α} {k j:Nat} {b:α} (hk:k<l.length):(l.set k b)[j]?=if k=j then some b else l[j]?:=by
  rw [List.getElem?_set];by_cases h:k=j
  · rw [if_pos h,if_pos hk,if_pos h]
  · rw [if_neg h,if_neg h]
theorem PR.io {m:Int} {p q:GPool} (h:IO m p q):PR m p∧PR m q:=⟨h.pp,h.qq⟩
theorem IO.symm {m:Int} {p q:GPool} (h:IO m p q):IO m q p:=⟨h.qq,h.pp,by have:=h.sq;omega,by have:=h.ss;omega⟩
theorem ES.at {n:Nat} {mts:List Int} {per:Int} {x:GEnt} (h:ES n mts per x) {i c:Nat} (hi:i<n) (hc:c<2):∃ m p q,mts[i]?=some m∧x.Pools[2*i+c]?=some p∧x.Pools[2*i+(1-c)]?=some q∧IO m p q:=by
  have h1:i<mts.length:=by rw [h.lm];exact hi
  have h2:2*i<x.Pools.length:=by rw [h.lp];omega
  have h3:2*i+1<x.Pools.length:=by rw [h.lp];omega
  have e1:=List.getElem?_eq_getElem h1
  have e2:=List.getElem?_eq_getElem h2
  have e3:=List.getElem?_eq_getElem h3
  have hio:=h.pool i _ _ _ e1 e2 e3
  rcases (by omega:c=0∨c=1) with rfl | rfl
  · exact ⟨_,_,_,e1,e2,e3,hio⟩
  · exact ⟨_,_,_,e1,e3,e2,hio.symm⟩
theorem ES.put {n:Nat} {mts:List Int} {per:Int} {x:GEnt} (h:ES n mts per x) {i c:Nat} (hi:i<n) (hc:c<2) {m:Int} {q p':GPool} (hm:mts[i]?=some m) (hq:x.Pools[2*i+(1-c)]?=some q) (hio:IO m p' q):ES n mts per { x with Pools:=x.Pools.set (2*i+c) p' }:=by
  have hk:2*i+c<x.Pools.length:=by rw [h.lp];omega
  refine { h with lp:=by rw [List.length_set];exact h.lp,pool:=?_ }
  intro j m' a b hm' ha hb
  rw [get_set hk] at ha hb
  by_cases hj:j=i
  · subst hj
    rw [hm] at hm';cases hm'
    rcases (by omega:c=0∨c=1) with rfl | rfl
    · rw [if_pos (by omega)] at ha;rw [if_neg (by omega)] at hb
      cases ha;rw [show 2*j+1=2*j+(1-0) by omega,hq] at hb;cases hb;exact hio
    · rw [if_neg (by omega)] at ha;rw [if_pos (by omega)] at hb
      cases hb;rw [show 2*j=2*j+(1-1) by omega,hq] at ha;cases ha;exact hio.symm
  · rw [if_neg (by omega)] at ha hb
    exact h.pool j m' a b hm' ha hb
theorem ES.setBal {n:Nat} {mts:List Int} {per:Int} {x:GEnt} (h:ES n mts per x) {b:List Int} (h1:b.length=17) (h2:∀ y∈b,InM y):ES n mts per { x with Bal:=b }:={ h with lb:=h1,bal:=h2 }
theorem ES.setRoll {n:Nat} {mts:List Int} {per:Int} {x:GEnt} (h:ES n mts per x) {i:Nat} {r:GRoll} (hr:RIn r):ES n mts per { x with Rolls:=x.Rolls.set i r }:={ h with lr:=by rw [List.length_set];exact h.lr,roll:=fun y hy=>by rcases mem_set hy with rfl | hy;exact hr;exact h.roll y hy }
theorem ES.setPrice {n:Nat} {mts:List Int} {per:Int} {x:GEnt} (h:ES n mts per x) {i:Nat} {r:Int} (hr:-1≤r∧r≤288230376151711744):ES n mts per { x with Prices:=x.Prices.set i r }:={ h with lc:=by rw [List.length_set];exact h.lc,pri:=fun y hy=>by rcases mem_set hy with rfl | hy;exact hr;exact h.pri y hy }
theorem sV_set {l:List GPool} {k:Nat} {a b:GPool} (h:l[k]?=some a):sV (l.set k b)=sV l-tV a.Layers+tV b.Layers:=sumf_set _ h
theorem sumI_set {l:List Int} {k:Nat} {a b:Int} (h:l[k]?=some a):sumI (l.set k b)=sumI l-a+b:=sumf_set _ h
theorem Inv.mts {K:Int} {s:GState} (h:Inv K s) {e:Nat} (he:e<s.Ents.length):∃ mts,s.Master.Methods[e]?=some mts∧mts.length=s.Master.Weights.length∧∀ x∈mts,1≤x∧x≤4:=by
  have h1:=h.len;have h2:=h.mas.lm
  have h3:e<s.Master.Methods.length:=by omega
  have e1:=List.getElem?_eq_getElem h3
  exact ⟨_,e1,h.mas.met _ (mem_at e1)⟩
theorem Inv.cst {K:Int} {s:GState} (h:Inv K s) {e:Nat} (he:e<s.Ents.length):∃ cs,s.Master.Costs[e]?=some cs∧cs.length=s.Master.Weights.length∧∀ x∈cs,0≤x∧x≤1073741824:=by
  have h1:=h.len;have h2:=h.mas.lc
  have h3:e<s.Master.Costs.length:=by omega
  have e1:=List.getElem?_eq_getElem h3
  exact ⟨_,e1,h.mas.cos _ (mem_at e1)⟩
theorem Inv.up {K:Int} {s:GState} (h:Inv K s) {e:Nat} {x x':GEnt} {mts:List Int} (hx:s.Ents[e]?=some x) (hm:s.Master.Methods[e]?=some mts) (ho:EI s.Master mts x') {R:List GReceipt} {S:List GSale} {T:List GTransit}
    (hR:∀ r∈R,ROk s.Master r) (hS:∀ r∈S,SOk s.Master r) (hT:∀ r∈T,TOk s.Master r) (l1:R.length≤40) (l2:S.length≤40) (l3:T.length≤40)
    (ha:sumf (accR e) R-sumf (accR e) s.Receipts=bl x 1-bl x' 1) (ha':∀ f,f≠e→sumf (accR f) R=sumf (accR f) s.Receipts)
    (hw:sumf (wayT e) T-sumf (wayT e) s.Transits=bl x' 12-bl x 12) (hw':∀ f,f≠e→sumf (wayT f) T=sumf (wayT f) s.Transits)
    (hg:grp x'=grp x):Inv K { s with Ents:=s.Ents.set e x',Receipts:=R,Sales:=S,Transits:=T }:=by
  have hk:e<s.Ents.length:=(List.getElem?_eq_some_iff.1 hx).1
  refine { h with len:=by show ((s.Ents.set e x').length:Int)=_;rw [List.length_set];exact h.len,rct:=hR,sal:=hS,tra:=hT,l1:=l1,l2:=l2,l3:=l3,ent:=?_,acc:=?_,way:=?_,mtl:=?_ }
  · intro f y ms hy hms
    have hy:(s.Ents.set e x')[f]?=some y:=hy
    rw [get_set hk] at hy
    by_cases hf:e=f
    · subst hf;rw [if_pos rfl] at hy;cases hy
      have hms:s.Master.Methods[e]?=some ms:=hms
      rw [hm] at hms;cases hms;exact ho
    · rw [if_neg hf] at hy;exact h.ent f y ms hy hms
  · intro f y hy
    have hy:(s.Ents.set e x')[f]?=some y:=hy
    show sumf (accR f) R=_
    rw [get_set hk] at hy
    by_cases hf:e=f
    · subst hf;rw [if_pos rfl] at hy;cases hy
      have:=h.acc e x hx;omega
    · rw [if_neg hf] at hy;rw [ha' f (Ne.symm hf)];exact h.acc f y hy
  · intro f y hy
    have hy:(s.Ents.set e x')[f]?=some y:=hy
    show sumf (wayT f) T=_
    rw [get_set hk] at hy
    by_cases hf:e=f
    · subst hf;rw [if_pos rfl] at hy;cases hy
      have:=h.way e x hx;omega
    · rw [if_neg hf] at hy;rw [hw' f (Ne.symm hf)];exact h.way f y hy
  · show sumf grp (s.Ents.set e x')=0
    rw [sumf_set _ hx,hg];have:=h.mtl;omega
theorem Inv.up2 {K:Int} {s:GState} (h:Inv K s) {e g:Nat} {x x' y y':GEnt} {mts mtg:List Int} (hne:e≠g) (hx:s.Ents[e]?=some x) (hm:s.Master.Methods[e]?=some mts) (ho:EI s.Master mts x') (hy:s.Ents[g]?=some y) (hmg:s.Master.Methods[g]?=some mtg) (hog:EI s.Master mtg y') {T:List GTransit}
    (hT:∀ r∈T,TOk s.Master r) (l3:T.length≤40) (ha:bl x' 1=bl x 1) (hag:bl y' 1=bl y 1) (hw:bl x' 12=bl x 12) (hwg:sumf (wayT g) T-sumf (wayT g) s.Transits=bl y' 12-bl y 12) (hw':∀ f,f≠g→sumf (wayT f) T=sumf (wayT f) s.Transits)
    (hg:grp x'+grp y'=grp x+grp y):Inv K { s with Ents:=(s.Ents.set e x').set g y',Transits:=T }:=by
  have hk:e<s.Ents.length:=(List.getElem?_eq_some_iff.1 hx).1
  have hk2:g<(s.Ents.set e x').length:=by rw [List.length_set];exact (List.getElem?_eq_some_iff.1 hy).1
  have hy2:(s.Ents.set e x')[g]?=some y:=by rw [get_set hk,if_neg hne];exact hy
  have cas:∀ {f:Nat} {z:GEnt},((s.Ents.set e x').set g y')[f]?=some z→(f=g∧z=y')∨(f=e∧z=x')∨(f≠g∧f≠e∧s.Ents[f]?=some z):=by
    intro f z hz
    rw [get_set hk2] at hz
    by_cases h1:g=f
    · rw [if_pos h1] at hz;cases hz;exact .inl ⟨h1.symm,rfl⟩
    · rw [if_neg h1,get_set hk] at hz
      by_cases h2:e=f
      · rw [if_pos h2] at hz;cases hz;exact .inr (.inl ⟨h2.symm,rfl⟩)
      · rw [if_neg h2] at hz;exact .inr (.inr ⟨Ne.symm h1,Ne.symm h2,hz⟩)
  refine { h with len:=by show (((s.Ents.set e x').set g y').length:Int)=_;rw [List.length_set,List.length_set];exact h.len,tra:=hT,l3:=l3,ent:=?_,acc:=?_,way:=?_,mtl:=?_ }
  · intro f z ms hz hms
    have hms:s.Master.Methods[f]?=some ms:=hms
    rcases cas hz with ⟨rfl,rfl⟩ | ⟨rfl,rfl⟩ | ⟨_,_,hz⟩
    · rw [hmg] at hms;cases hms;exact hog
    · rw [hm] at hms;cases hms;exact ho
    · exact h.ent f z ms hz hms
  · intro f z hz
    show sumf (accR f) s.Receipts=_
    rcases cas hz with ⟨rfl,rfl⟩ | ⟨rfl,rfl⟩ | ⟨_,_,hz⟩
    · rw [hag];exact h.acc _ y hy
    · rw [ha];exact h.acc _ x hx
    · exact h.acc f z hz
  · intro f z hz
    show sumf (wayT f) T=_
    rcases cas hz with ⟨rfl,rfl⟩ | ⟨rfl,rfl⟩ | ⟨h1,_,hz⟩
    · have:=h.way _ y hy;omega
    · rw [hw,hw' f hne];exact h.way _ x hx
    · rw [hw' f h1];exact h.way f z hz
  · show sumf grp ((s.Ents.set e x').set g y')=0
    rw [sumf_set _ hy2,sumf_set _ hx];have:=h.mtl;omega
end Go.Pv
