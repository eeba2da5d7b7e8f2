import Derived.Test.YtidcjedeacampaaGreatE70
import Derived.Test.YtidcjedeacampaaGreatX80k
set_option linter.unusedVariables false
set_option linter.unusedSimpArgs false
namespace Go.Pv
open Go.Proofs
def eD {α:Type} (f:α->Int):List α->Int | []=>0 | x :: r=>f x+eD f r
theorem yN {α:Type} (f:α->Int) (a b:List α):eD f (a++b)=eD f a+eD f b:=by
  induction a with
  | nil=>simp [eD]
  | cons x r ih=>simp only [List.cons_append,eD,ih];omega
theorem tT {α:Type} (f:α->Int) {l:List α} {k:Nat} {a b:α} (h:l[k]?=some a):eD f (l.set k b)=eD f l-f a+f b:=by
  induction l generalizing k with
  | nil=>cases h
  | cons x r ih =>
    cases k with
    | zero=>cases h;simp only [List.set_cons_zero,eD];omega
    | succ k=>simp only [List.set_cons_succ,eD];rw [ih h];omega
theorem vU {α:Type} {f:α->Int} {l:List α} (h:∀ x∈l,0<=f x):0<=eD f l:=by
  induction l with
  | nil=>exact Int.le_refl _
  | cons x r ih=>have:=ih λy hy=>h y (List.mem_cons_of_mem _ hy);have:=h x (List.mem_cons_self ..);simp only [eD];omega
theorem wS {α:Type} (f:α->Int) {l:List α} {i:Nat} {x:α} (h:l[i]?=some x):eD f (l.drop i)=f x+eD f (l.drop (i+1)):=by
  rw [(drop_at h).2];rfl
theorem aJB {α β:Type} (f:β->Int) (g:α->β) (l:List α):eD f (l.map g)=eD (λx=>f (g x)) l:=by
  induction l with
  | nil=>rfl
  | cons x r ih=>simp only [List.map_cons,eD,ih]
theorem MC {α:Type} {f:α->Int} {l:List α} (h:∀ x∈l,f x=0):eD f l=0:=by
  induction l with
  | nil=>rfl
  | cons x r ih=>simp only [eD];rw [h x (List.mem_cons_self ..),ih λy hy=>h y (List.mem_cons_of_mem _ hy)];rfl
def cZ (l:List Int):Int:=eD (λx=>x) l
def sV (l:List aS):Int:=eD (λp=>tV p.aI) l
theorem mem_set {α:Type} {l:List α} {k:Nat} {b x:α} (h:x∈l.set k b):x=b\/x∈l:=by
  rcases List.mem_or_eq_of_mem_set h with h | h
  · exact .inr h
  · exact .inl h
theorem aJZ {l:List Int}:∀ {n:Int},0<=n->(∀ x∈l,0<=x)->n+cZ l<=288230376151711744->iQ n l=some (n+cZ l):=by
  induction l with
  | nil=>intro n _ _ _;simp [iQ,cZ,eD]
  | cons x r ih =>
    intro n hn hx hs
    have h1:=hx x (List.mem_cons_self ..)
    have h2:0<=cZ r:=vU λy hy=>hx y (List.mem_cons_of_mem _ hy)
    have e:cZ (x :: r)=x+cZ r:=rfl
    rw [iQ,if_pos ⟨by unfold bN;omega,by unfold bN;omega,by unfold bN;omega⟩,ih (by omega) (λy hy=>hx y (List.mem_cons_of_mem _ hy)) (by omega),e,Int.add_assoc]
theorem MI {l:List Int} (hx:∀ x∈l,0<=x) (hs:cZ l<=288230376151711744):gP l=(cZ l,0):=by
  unfold gP;rw [aJZ (Int.le_refl 0) hx (by omega)];show (0+cZ l,(0:Int))=_;rw [Int.zero_add]
theorem aHJ {l:List Int}:∀ {n v:Int},iQ n l=some v->v=n+cZ l/\(bN n->bN v):=by
  induction l with
  | nil=>intro n v h;cases h;simp [cZ,eD]
  | cons x r ih =>
    intro n v h
    rw [iQ] at h
    by_cases hc:bN n/\bN x/\bN (n+x)
    · rw [if_pos hc] at h
      obtain ⟨h1,h2⟩:=ih h
      exact ⟨by rw [h1];show n+x+cZ r=n+(x+cZ r);omega,λ_=>h2 hc.2.2⟩
    · rw [if_neg hc] at h;cases h
theorem WA {l:List Int} (h:(gP l).2=0):gP l=(cZ l,0)/\bN (cZ l):=by
  unfold gP at h ⊢
  cases e:iQ 0 l with
  | none=>rw [e] at h;exact absurd (show (2:Int)=0 from h) (by decide)
  | some v =>
    obtain ⟨h1,h2⟩:=aHJ e
    rw [Int.zero_add] at h1;subst h1
    exact ⟨rfl,h2 (by unfold bN;omega)⟩
theorem aT8 {l:List aF} (h:LR l) (hl:1<=l.length):LR [⟨tQ l,tV l,tP l⟩]/\tS [⟨tQ l,tV l,tP l⟩]<=tS l/\tQ [⟨tQ l,tV l,tP l⟩]=tQ l/\tV [⟨tQ l,tV l,tP l⟩]=tV l/\tP [⟨tQ l,tV l,tP l⟩]=tP l:=by
  obtain ⟨hk,h30,hQ,hV,hS⟩:=h
  obtain ⟨a1,a2,a3,a4,a5,a6⟩:=rO hk
  have e:ab (tP l)<=tS l:=by unfold ab;split <;> omega
  refine ⟨⟨?_,by simp,by simp [tQ];omega,by simp [tV];omega,by simp [tS];omega⟩,by simp [tS];omega,by simp [tQ],by simp [tV],by simp [tP]⟩
  intro x hx
  rw [List.mem_singleton] at hx;subst hx
  exact ⟨by simp only;omega,by simp only;omega,by unfold bN;simp only;omega⟩
theorem WU {q v p:Int} (hq:1<=q/\q<=288230376151711744) (hv:0<=v/\v<=288230376151711744) (hp:bN p):LR [⟨q,v,p⟩]:=by
  have e:ab p<=288230376151711744:=by unfold bN at hp;unfold ab;split <;> omega
  refine ⟨λx hx=>?_,by simp,by simp [tQ];omega,by simp [tV];omega,by simp [tS];omega⟩
  rw [List.mem_singleton] at hx;subst hx;exact ⟨hq,hv,hp⟩
theorem aSQ:LR []:=⟨(λx hx=>(nomatch hx)),by simp,by simp [tQ],by simp [tV],by simp [tS]⟩
structure PR (m:Int) (p:aS):Prop where
  mt:1<=m/\m<=4
  ly:LR p.aI
  one:m≠1->p.aI.length<=1
  p0:0<=p.bC.a0
  p1:0<=p.bC.a1
  p2:0<=p.bC.a2
  sum:p.bC.a0+p.bC.a1+p.bC.a2<=tQ p.aI
  vX:m≠3->p.bC.a0=0/\p.bC.a1=0/\p.bC.a2=0
structure IO (m:Int) (p q:aS):Prop where
  pp:PR m p
  qq:PR m q
  sq:tQ p.aI+tQ q.aI<=288230376151711744
  ss:tS p.aI+tS q.aI<=288230376151711744
def y9 (r:cB):Prop:=bN r.Open/\bN r.jH/\bN r.jL/\bN r.jJ/\bN r.jK/\bN r.jG/\bN r.jN/\bN r.jE/\bN r.jF/\bN r.jM/\bN r.jI
def lD (r:cB):Int:=r.Open+r.jH+r.jL+r.jJ+r.jK+r.jI-(r.jG+r.jN+r.jE+r.jF+r.jM)
def sZ (a b:cB):cB:=⟨a.Open+b.Open,a.jH+b.jH,a.jL+b.jL,a.jJ+b.jJ,a.jK+b.jK,a.jG+b.jG,a.jN+b.jN,a.jE+b.jE,a.jF+b.jF,a.jM+b.jM,a.jI+b.jI⟩
structure ES (n:Nat) (bH:List Int) (iZ:Int) (x:aP):Prop where
  now:1<=x.fQ/\x.fQ<=iZ
  lp:x.bR.length=2*n
  lr:x.dJ.length=n
  lb:x.dI.length=17
  lc:x.gJ.length=n
  ld:x.Down.length=n
  lm:bH.length=n
  gW:∀ b∈x.dI,bN b
  pri:∀ b∈x.gJ,-1<=b/\b<=288230376151711744
  DR:∀ b∈x.Down,0<=b/\b<=288230376151711744
  BV:∀ (i:Nat) m p q,bH[i]?=some m->x.bR[2*i]?=some p->x.bR[2*i+1]?=some q->IO m p q
  roll:∀ r∈x.dJ,y9 r
def bl (x:aP) (a:Nat):Int:=x.dI.getD a 0
structure EB (x:aP):Prop where
  ctl:sV x.bR=bl x 0
  qW:cZ x.Down=-bl x 11
  rE:cZ x.dI=0
  o6:∀ (i:Nat) r p q,x.dJ[i]?=some r->x.bR[2*i]?=some p->x.bR[2*i+1]?=some q->lD r=tV p.aI+tV q.aI
structure qL (m:fM):Prop where
  xE:1<=m.gG/\m.gG<=4
  iZ:1<=m.gZ/\m.gZ<=12
  n1:1<=m.bW.length/\m.bW.length<=5
  wei:∀ x∈m.bW,0<=x/\x<=1073741824
  lm:(m.Methods.length:Int)=m.gG
  lc:(m.gX.length:Int)=m.gG
  met:∀ l∈m.Methods,l.length=m.bW.length/\∀ x∈l,1<=x/\x<=4
  cos:∀ l∈m.gX,l.length=m.bW.length/\∀ x∈l,0<=x/\x<=1073741824
structure EO (m:fM) (bH:List Int) (x:aP):Prop where
  es:ES m.bW.length bH m.gZ x
  ee:EB x
  opn:x.Closed=false
  mH:x.fZ=[]
structure EC (m:fM) (bH:List Int) (x y:aP):Prop where
  es:ES m.bW.length bH m.gZ x
  ee:EB x
  MW:x.Closed=true
  mH:x.fZ=[y]
  eo:EO m bH y
  now:y.fQ=x.fQ
  b1:bl y 1=bl x 1
  b12:bl y 12=bl x 12
  b13:bl y 13=bl x 13
  b14:bl y 14=bl x 14
def EI (m:fM) (bH:List Int) (x:aP):Prop:=EO m bH x\/∃ y,EC m bH x y
def zD (m:fM) (r:dX):Prop:=(0<=r.fU/\r.fU<m.gG)/\(0<=r.Item/\r.Item<(m.bW.length:Int))/\(0<=r.Loc/\r.Loc<=1)/\(0<=r.aT/\r.aT<=288230376151711744)/\(0<=r.Value/\r.Value<=288230376151711744)/\(0<=r.Open/\r.Open<=r.aT)/\(0<=r.jW/\r.jW<=288230376151711744)/\(0<=r.jB/\r.jB<=r.aT)
def qJ (m:fM) (r:fA):Prop:=(0<=r.fU/\r.fU<m.gG)/\(0<=r.Item/\r.Item<(m.bW.length:Int))/\(0<=r.Loc/\r.Loc<=1)/\(0<=r.aT/\r.aT<=288230376151711744)/\(0<=r.jB/\r.jB<=r.aT)/\(0<=r.rD/\r.rD<=288230376151711744)/\bN r.bO/\(1<=r.oP/\r.oP<=12)
def CE (m:fM) (r:fP):Prop:=(0<=r.uL/\r.uL<m.gG)/\(0<=r.To/\r.To<m.gG)/\(0<=r.Item/\r.Item<(m.bW.length:Int))/\(0<=r.aT/\r.aT<=288230376151711744)/\(0<=r.Value/\r.Value<=288230376151711744)/\bN r.bO
def jO (e:Nat) (r:dX):Int:=if r.fU=(e:Int) then r.jW else 0
def iV (e:Nat) (r:fP):Int:=if r.To=(e:Int) then r.Value else 0
def lC (x:aP):Int:=bl x 13+bl x 14
structure Inv (K:Int) (s:aB):Prop where
  kF:qL s.bF
  len:(s.bA.length:Int)=s.bF.gG
  zM:0<=s.Done/\s.Done<=K
  nO:∀ r∈s.bX,zD s.bF r
  oD:∀ r∈s.dS,qJ s.bF r
  oO:∀ r∈s.dH,CE s.bF r
  l1:s.bX.length<=40
  l2:s.dS.length<=40
  l3:s.dH.length<=40
  ent:∀ (e:Nat) x bH,s.bA[e]?=some x->s.bF.Methods[e]?=some bH->EI s.bF bH x
  acc:∀ (e:Nat) x,s.bA[e]?=some x->eD (jO e) s.bX=-bl x 1
  way:∀ (e:Nat) x,s.bA[e]?=some x->eD (iV e) s.dH=bl x 12
  zF:eD lC s.bA=0
def mO (s:aB) (e:Nat) (x:aP):aB:={ s with bA:=s.bA.set e x }
theorem WX (s:aB) (e:Nat) (x y:aP):mO (mO s e x) e y=mO s e y:=by unfold mO;rw [List.set_set]
theorem TK {s:aB} {e:Nat} {x:aP} (h:e<s.bA.length):(mO s e x).bA[e]?=some x:=by unfold mO;simp [h]
set_option maxRecDepth 100000
set_option maxHeartbeats 1000000
theorem zW (a b c:Int):0<=(md a b c).1/\(md a b c).1<=288230376151711744/\0<=(md a b c).2.2/\(md a b c).2.2<=2:=by
  unfold md
  by_cases h:a<0\/b<0\/c<1
  · rw [if_pos h];simp
  · rw [if_neg h]
    have h0:0<=a*b / c:=Int.ediv_nonneg (Int.mul_nonneg (by omega) (by omega)) (by omega)
    by_cases h2:a*b / c>288230376151711744
    · rw [if_pos h2];simp
    · rw [if_neg h2];simp;omega
theorem CF {l:List aF} {n:Nat} (hn:66<n) (hl:LR l):sH n l=some (⟨tQ l,tV l,tP l⟩,0):=by
  obtain ⟨hk,h30,hQ,hV,hS⟩:=hl
  exact gF (B8 (OR (by omega) (by omega) hk) λr hr=>hr.1 hQ hV hS)
theorem jA {l:List aF} (h:LR l):(0<=tQ l/\tQ l<=288230376151711744)/\(0<=tV l/\tV l<=288230376151711744)/\(-288230376151711744<=tP l/\tP l<=288230376151711744)/\(0<=tS l/\tS l<=288230376151711744)/\(l.length:Int)<=tQ l/\l.length<=30/\-tS l<=tP l/\tP l<=tS l:=by
  obtain ⟨hk,h30,hQ,hV,hS⟩:=h
  obtain ⟨a1,a2,a3,a4,a5,a6⟩:=rO hk
  omega
theorem y8 {p:aS} {n:Nat} (hn:66<n) (hl:LR p.aI):wT n p=some ⟨tQ p.aI,tV p.aI,tP p.aI⟩:=by
  unfold wT aAS
  simp only [WT.run,bT,CF hn hl,Option.bind_some]
theorem R4 {m:Int} {p:aS} {n:Nat} (hn:66<n) (h:PR m p):CU n p=some (tQ p.aI-p.bC.a0-p.bC.a1-p.bC.a2):=by
  have hl:=jA h.ly
  have:=h.p0;have:=h.p1;have:=h.p2;have:=h.sum
  refine gF ?_
  unfold CU VV
  simp only [WT.run,bT,CF hn h.ly,Option.bind_some]
  exact lI (by (try simp only at *);omega) (lI (by (try simp only at *);omega) (lI (by (try simp only at *);omega) (aG rfl)))
theorem aOY {m:Int} {p:aS} {n:Nat} (hn:66<n) (h:PR m p):LU n m p=some (tQ p.aI-p.bC.a0-p.bC.a1-p.bC.a2):=by
  refine gF ?_
  unfold LU aBS
  simp only [WT.run,bT,R4 hn h,y8 hn h.ly,Option.bind_some]
  refine aD (aQ (λk=>aG rfl) λk=>aG ?_)
  obtain ⟨a,b,c⟩:=h.vX k
  show tQ p.aI=_
  omega
theorem UA {l:List aF} {x:aF} (h:LR (l++[x])):jT x:=h.1 x (by simp)
theorem OK {l:List aF} {x:aF} {n:Nat} (hn:66<n) (hl:LR l):Ex (λr=>(r.2=0/\r.1=[⟨tQ l+x.aT,tV l+x.Value,tP l+x.bO⟩]/\LR (l++[x]))\/(r.2≠0/\r.1=l)) (xA n l x):=by
  have h1:=nI hl
  obtain ⟨a1,a2,a3,a4⟩:=vR l [x]
  simp only [tQ,tV,tP,tS,Int.add_zero] at a1 a2 a3 a4
  unfold xA OG
  simp only [WT.run,bT]
  repeat' with_reducible first | refine bG ?_ | refine dZ ?_ | apply aD | apply bK | apply dY | apply dN | apply eB | apply d9 | apply dV | apply dQ | apply dW | apply dU | refine aQ (λ_=>?_) λ_=>?_ | refine dK (λ_=>?_) λ_=>?_ | apply dF | apply bU | apply dA | apply bL | apply aG
  all_goals try exact .inr ⟨(λk=>nomatch k),rfl⟩
  refine dO (aD (dO (aW _ (BY (by simp;omega) (by simp;omega)) λb hb=>?_)))
  repeat' with_reducible first | refine bG ?_ | refine dZ ?_ | apply aD | apply bK | apply dY | apply dN | apply eB | apply d9 | apply dV | apply dQ | apply dW | apply dU | refine aQ (λ_=>?_) λ_=>?_ | refine dK (λ_=>?_) λ_=>?_ | apply dF | apply bU | apply dA | apply bL | apply aG
  · exact .inr ⟨(λk=>nomatch k),rfl⟩
  · rename_i h4
    have h3:=hb.1 h4
    refine x_eq (CF hn h3) (aG (.inl ⟨rfl,?_,h3⟩))
    simp only [a1,a2,a3,tQ,tV,tP]
theorem L9 {n:Nat} {q c:Int} (hn:66<n) (ha:-9223372036854775808<=q/\q<=9223372036854775807) (hb:-9223372036854775808<=c/\c<=9223372036854775807):DT n q c=some ((md q c 1).1,decide ((md q c 1).2.2=0)):=by
  unfold DT aDA
  simp only [WT.run,bT,BO hn ha hb (show -9223372036854775808<=(1:Int)/\(1:Int)<=9223372036854775807 by decide),Option.bind_some]
  rfl
theorem aK5 {l:List aF} {x:aF} {c:Int} {n:Nat} (hn:66<n) (hl:LR l) (hc:0<=c/\c<=1073741824) (hx:x.aT<=9223372036854775807) :
    Ex (λr=>(r.2.2=0/\(0<=x.Value/\x.Value<=288230376151711744)/\∃ v,r.1=[⟨tQ l+x.aT,tV l+v,tP l+x.bO⟩]/\LR (l++[⟨x.aT,v,x.bO⟩])/\r.2.1=x.Value-v)\/(r.2.2≠0/\r.1=l/\r.2.1=0)) (AP n l x c):=by
  unfold AP P8
  simp only [WT.run,bT]
  repeat' with_reducible first | refine bG ?_ | refine dZ ?_ | apply aD | apply bK | apply dY | apply dN | apply eB | apply d9 | apply dV | apply dQ | apply dW | apply dU | refine aQ (λ_=>?_) λ_=>?_ | refine dK (λ_=>?_) λ_=>?_ | apply dF | apply bU | apply dA | apply bL | apply aG
  all_goals try exact .inr ⟨(λk=>nomatch k),rfl,rfl⟩
  all_goals try (exfalso;omega)
  rename_i h1 h2
  refine x_eq (L9 hn (by omega) (by omega)) ?_
  have hm:=zW x.aT c 1
  repeat' with_reducible first | refine bG ?_ | refine dZ ?_ | apply aD | apply bK | apply dY | apply dN | apply eB | apply d9 | apply dV | apply dQ | apply dW | apply dU | refine aQ (λ_=>?_) λ_=>?_ | refine dK (λ_=>?_) λ_=>?_ | apply dF | apply bU | apply dA | apply bL | apply aG
  all_goals try exact .inr ⟨(λk=>nomatch k),rfl,rfl⟩
  rename_i h3
  refine aW _ (OK hn hl) λr hr=>?_
  rcases hr with ⟨e1,e2,e3⟩ | ⟨e1,e2⟩
  · repeat' with_reducible first | refine bG ?_ | refine dZ ?_ | apply aD | apply bK | apply dY | apply dN | apply eB | apply d9 | apply dV | apply dQ | apply dW | apply dU | refine aQ (λ_=>?_) λ_=>?_ | refine dK (λ_=>?_) λ_=>?_ | apply dF | apply bU | apply dA | apply bL | apply aG
    · omega
    · exact Or.inl ⟨rfl,by omega,(md x.aT c 1).1,e2,e3,rfl⟩
  · repeat' with_reducible first | refine bG ?_ | refine dZ ?_ | apply aD | apply bK | apply dY | apply dN | apply eB | apply d9 | apply dV | apply dQ | apply dW | apply dU | refine aQ (λ_=>?_) λ_=>?_ | refine dK (λ_=>?_) λ_=>?_ | apply dF | apply bU | apply dA | apply bL | apply aG
    · exact .inr ⟨e1,rfl,rfl⟩
    · omega
theorem M4 {m:Int} {p:aS} {l:List aF} (h:PR m p) (hl:LR l) (h1:m≠1->l.length<=1) (hq:tQ p.aI<=tQ l):PR m ⟨l,p.bC⟩ :=
  { h with ly:=hl,one:=h1,sum:=by have:=h.sum;show p.bC.a0+p.bC.a1+p.bC.a2<=tQ l;omega }
def Came (m:Int) (p q:aS) (x:aF) (above:Int):Prop:=PR m q/\tQ q.aI=tQ p.aI+x.aT/\tV q.aI+above=tV p.aI+x.Value/\tP q.aI=tP p.aI+x.bO/\tS q.aI<=tS p.aI+ab x.bO/\(1<=x.aT/\x.aT<=288230376151711744)/\(0<=x.Value/\x.Value<=288230376151711744)
theorem RF {m:Int} {p:aS} {x:aF} (h:PR m p) (hl:LR (p.aI++[x])):Came m p ⟨[⟨tQ p.aI+x.aT,tV p.aI+x.Value,tP p.aI+x.bO⟩],p.bC⟩ x 0:=by
  obtain ⟨a1,a2,a3,a4⟩:=vR p.aI [x]
  simp only [tQ,tV,tP,tS,Int.add_zero] at a1 a2 a3 a4
  obtain ⟨b1,b2,b3,b4,b5⟩:=aT8 hl (by simp)
  have hb:=jA hl
  have hx:=UA hl
  obtain ⟨c1,c2,c3⟩:=hx
  rw [a1,a2,a3] at b1 b2 b3 b4 b5
  refine ⟨M4 h b1 (λ_=>by simp) (by rw [b3];omega),b3,?_,b5,?_,by omega,by omega⟩
  · show tV [_]+0=_;rw [b4];omega
  · show tS [_]<=_;omega
theorem aSP {m:Int} {p:aS} {x:aF} {n:Nat} (hn:66<n) (h:PR m p):Ex (λr=>(r.2=0/\Came m p r.1 x 0)\/(r.2≠0/\r.1=p)) (CK n p x):=by
  unfold CK SQ
  simp only [WT.run,bT]
  refine aW _ (OK hn h.ly) λr hr=>?_
  rcases hr with ⟨e1,e2,e3⟩ | ⟨e1,e2⟩
  · repeat' with_reducible first | refine bG ?_ | refine dZ ?_ | apply aD | apply bK | apply dY | apply dN | apply eB | apply d9 | apply dV | apply dQ | apply dW | apply dU | refine aQ (λ_=>?_) λ_=>?_ | refine dK (λ_=>?_) λ_=>?_ | apply dF | apply bU | apply dA | apply bL | apply aG
    · omega
    · rw [e2];exact .inl ⟨rfl,RF h e3⟩
  · repeat' with_reducible first | refine bG ?_ | refine dZ ?_ | apply aD | apply bK | apply dY | apply dN | apply eB | apply d9 | apply dV | apply dQ | apply dW | apply dU | refine aQ (λ_=>?_) λ_=>?_ | refine dK (λ_=>?_) λ_=>?_ | apply dF | apply bU | apply dA | apply bL | apply aG
    · exact .inr ⟨e1,rfl⟩
    · omega
theorem aDM {m c:Int} {p:aS} {x:aF} {n:Nat} (hn:66<n) (h:PR m p) (hc:0<=c/\c<=1073741824) (hx:x.aT<=9223372036854775807) :
    Ex (λr=>(r.2.2=0/\Came m p r.1 x r.2.1/\(-288230376151711744<=r.2.1/\r.2.1<=288230376151711744))\/(r.2.2≠0/\r.1=p/\r.2.1=0)) (C9 n m c p x):=by
  unfold C9 SF
  simp only [WT.run,bT]
  refine aW (λ(r:Int×Int×aS)=>r.2.1=0->Came m p r.2.2 x r.1/\(-288230376151711744<=r.1/\r.1<=288230376151711744)) ?_ λr hr=>?_
  · refine aD (aQ (λk1=>?_) λk1=>aD (aQ (λk2=>?_) λk2=>aD (aQ (λk3=>?_) λk3=>aD (aQ (λk4=>?_) λk4=>aG (λk=>nomatch k)))))
    · refine aW _ (aN5 hn h.ly) λr hr=>aG ?_
      rcases hr with ⟨e1,e2,e3⟩ | ⟨e1,e2⟩
      · intro _
        obtain ⟨a1,a2,a3,a4⟩:=vR p.aI [x]
        simp only [tQ,tV,tP,tS,Int.add_zero] at a1 a2 a3 a4
        obtain ⟨c1,c2,c3⟩:=UA e3
        simp only [e2]
        refine ⟨⟨M4 h e3 (λk=>absurd k1 k) (by omega),a1,by simp only;omega,a3,by simp only;omega,by omega,by omega⟩,by decide⟩
      · intro k;exact absurd k e1
    · refine aW _ (OK hn h.ly) λr hr=>aG ?_
      rcases hr with ⟨e1,e2,e3⟩ | ⟨e1,e2⟩
      · intro _;simp only [e2];exact ⟨RF h e3,by decide⟩
      · intro k;exact absurd k e1
    · refine aW _ (aSP hn h) λr hr=>aG ?_
      rcases hr with ⟨e1,e2⟩ | ⟨e1,e2⟩
      · intro _;exact ⟨e2,by simp⟩
      · intro k;exact absurd k e1
    · refine aW _ (aK5 hn h.ly hc hx) λr hr=>aG ?_
      rcases hr with ⟨e1,hv,v,e2,e3,e4⟩ | ⟨e1,e2,_⟩
      · intro _
        obtain ⟨b1,b2,b3,b4,b5,b6,b7⟩:=RF h e3
        have b8:0<=v/\v<=288230376151711744:=b7
        simp only [e2,e4]
        refine ⟨⟨b1,b2,?_,b4,b5,b6,hv⟩,by omega⟩
        (try simp only at *);omega
      · intro k;exact absurd k e1
  · obtain ⟨ab,e,q⟩:=r
    repeat' with_reducible first | refine bG ?_ | refine dZ ?_ | apply aD | apply bK | apply dY | apply dN | apply eB | apply d9 | apply dV | apply dQ | apply dW | apply dU | refine aQ (λ_=>?_) λ_=>?_ | refine dK (λ_=>?_) λ_=>?_ | apply dF | apply bU | apply dA | apply bL | apply aG
    · rename_i k;exact .inr ⟨k,rfl,rfl⟩
    · rename_i k;exact .inl ⟨rfl,hr (by simpa using k)⟩
set_option maxRecDepth 1000000
theorem pIn (a:Int):BQ a=some (decide (bN a)):=by
  unfold BQ ZY bN
  simp only [WT.run,bT]
  by_cases h1:a>=-288230376151711744
  · by_cases h2:a<=288230376151711744
    · simp [bnd,h1,h2,cond]
    · simp [bnd,h1,h2,cond]
  · simp [bnd,h1,cond]
theorem OW (a b:Int):oH a b=some (jS a b):=by
  unfold oH aEO jS
  simp only [WT.run,bT,pIn,Option.bind_some]
  by_cases h1:bN a
  · by_cases h2:bN b
    · have e:bE (a+b)=a+b:=by unfold bN at h1 h2;exact wrap64 (by omega)
      by_cases h3:bN (a+b)
      · simp [bnd,h1,h2,h3,cond,e]
      · simp [bnd,h1,h2,h3,cond,e]
    · simp [bnd,h1,h2,cond]
  · simp [bnd,h1,cond]
theorem wQ {l:List Int} {n:Nat} (hn:l.length+1<n) (hl:(l.length:Int)<1000000000):qP n l=some (gP l):=by
  have key:Ex (λr=>r=gP l) (qP n l):=by
    unfold qP aES
    simp only [WT.run,bT,OW,Option.bind_some]
    refine aW (λ(r:Int⊕(Int×Int))=>match r with | .inl a=>iQ 0 l=some a | .inr q=>q=gP l) (gB (λ(v:Int×Int)=>0<=v.2/\v.2<=(l.length:Int)/\iQ 0 l=iQ v.1 (l.drop v.2.toNat)) (λ(v:Int×Int)=>l.length-v.2.toNat) ?_ (v:=(0,0)) (by simp) (by simp;omega)) ?_
    · rintro ⟨s,i⟩ ⟨h0,h1,h2⟩
      refine bK (aD (fJ (λh=>?_) λh=>?_))
      · have h:=of_decide_eq_true h
        simp only at h0 h1 h2 h
        refine eZ h0 h λx hx=>?_
        refine aD (fJ (λh3=>?_) λh3=>?_)
        · refine bL (bL (aG ?_))
          have h3:=of_decide_eq_true h3
          have e2:iQ 0 l=none:=by
            rw [h2,(drop_at hx).2];unfold jS at h3;unfold iQ
            by_cases h4:bN s/\bN x/\bN (s+x)
            · rw [if_pos h4] at h3;exact absurd rfl h3
            · rw [if_neg h4]
          have e3:(jS s x).2=2:=by
            unfold jS at h3 ⊢
            by_cases h4:bN s/\bN x/\bN (s+x)
            · rw [if_pos h4] at h3;exact absurd rfl h3
            · rw [if_neg h4]
          show ((0:Int),(jS s x).2)=gP l
          unfold gP;rw [e2,e3]
        · have h3:=of_decide_eq_false h3
          have h4:bN s/\bN x/\bN (s+x):=by
            by_cases h4:bN s/\bN x/\bN (s+x)
            · exact h4
            · unfold jS at h3;rw [if_neg h4] at h3;exact absurd (show ((0:Int),(2:Int)).snd≠0 by decide) h3
          refine bG (dD ⟨⟨by omega,by omega,?_⟩,?_⟩)
          · have e:(i+1).toNat=i.toNat+1:=by omega
            show iQ 0 l=iQ (jS s x).1 (l.drop (i+1).toNat)
            rw [h2,(drop_at hx).2,e];unfold jS;rw [if_pos h4,iQ,if_pos h4]
          · show l.length-(i+1).toNat<l.length-i.toNat
            omega
      · have h:=of_decide_eq_false h
        refine bL (dD ?_)
        have e:l.drop i.toNat=[]:=List.drop_eq_nil_of_le (by simp only at h h0;omega)
        show iQ 0 l=some s
        rw [h2,e];rfl
    · intro r hr
      refine jQ (λa e=>aG ?_) λq e=>?_
      · subst e;show (a,(0:Int))=gP l;unfold gP;rw [show iQ 0 l=some a from hr]
      · subst e;exact hr
  obtain ⟨r,e,rfl⟩:=key;exact e
def kM:List Int->Int | []=>0 | x :: r=>x+kM r
def lZ:List Int->Int | []=>0 | x :: r=>ab x+lZ r
theorem aB6:∀ l:List Int,0<=lZ l
  | []=>Int.le_refl _
  | x :: r=>by have:=aB6 r;have:=nY x;show 0<=ab x+lZ r;omega
theorem PY:∀ {l:List Int} {n:Int},ab n+lZ l<=288230376151711744->iQ n l=some (n+kM l)
  | [],n,h=>by show some n=some (n+0);rw [Int.add_zero]
  | x :: r,n,h=>by
    have h:ab n+(ab x+lZ r)<=288230376151711744:=h
    have h1:=aB6 r;have h2:=nY n;have h3:=nY x;have h4:=nY (n+x)
    have h5:ab (n+x)<=ab n+ab x:=by unfold ab;split <;> split <;> split <;> omega
    unfold iQ
    rw [if_pos (by unfold bN;omega),PY (by omega)]
    show some (n+x+kM r)=some (n+(x+kM r));rw [Int.add_assoc]
theorem OI:∀ {l:List Int} {n r:Int},bN n->iQ n l=some r->bN r/\r=n+kM l
  | [],n,r,hn,h=>by cases h;exact ⟨hn,(Int.add_zero _).symm⟩
  | x :: l,n,r,hn,h=>by
    unfold iQ at h
    by_cases k:bN n/\bN x/\bN (n+x)
    · rw [if_pos k] at h
      obtain ⟨a,b⟩:=OI k.2.2 h
      exact ⟨a,by rw [b];show _=n+(x+kM l);omega⟩
    · rw [if_neg k] at h;cases h
theorem A9 {l:List Int} (h:lZ l=kM l):(kM l<=288230376151711744/\gP l=(kM l,0))\/(¬ kM l<=288230376151711744/\(gP l).2=2):=by
  by_cases k:kM l<=288230376151711744
  · left;refine ⟨k,?_⟩
    unfold gP;rw [PY (by rw [h];show 0+_<=_;omega)];show (0+kM l,(0:Int))=_;rw [Int.zero_add]
  · right;refine ⟨k,?_⟩
    unfold gP
    cases e:iQ 0 l with
    | none=>rfl
    | some v=>obtain ⟨a,b⟩:=OI (by unfold bN;omega) e;unfold bN at a;omega
theorem aAN (l:List Int):gP l=(kM l,0)\/((gP l).2=2/\¬ lZ l<=288230376151711744):=by
  by_cases k:lZ l<=288230376151711744
  · left
    unfold gP;rw [PY (by show 0+_<=_;omega)];show (0+kM l,(0:Int))=_;rw [Int.zero_add]
  · unfold gP
    cases e:iQ 0 l with
    | none=>exact .inr ⟨rfl,k⟩
    | some v=>obtain ⟨a,b⟩:=OI (by unfold bN;omega) e;left;show (v,(0:Int))=_;rw [b,Int.zero_add]
theorem aN4 {l:List aF} (hk:∀ x∈l,jT x):kM (l.map (·.aT))=tQ l/\lZ (l.map (·.aT))=tQ l/\kM (l.map (·.Value))=tV l/\lZ (l.map (·.Value))=tV l/\kM (l.map (·.bO))=tP l/\lZ (l.map (·.bO))=tS l:=by
  induction l with
  | nil=>exact ⟨rfl,rfl,rfl,rfl,rfl,rfl⟩
  | cons x r ih =>
    obtain ⟨h1,h2,h3,h4,h5,h6⟩:=ih λy hy=>hk y (List.mem_cons_of_mem _ hy)
    obtain ⟨c1,c2,c3⟩:=hk x (List.mem_cons_self ..)
    have e1:ab x.aT=x.aT:=by unfold ab;rw [if_neg (by omega)]
    have e2:ab x.Value=x.Value:=by unfold ab;rw [if_neg (by omega)]
    simp only [List.map_cons,kM,lZ,tQ,tV,tP,tS,h1,h2,h3,h4,h5,h6,e1,e2,and_self]
theorem take_at {α β:Type} {l:List α} {i:Nat} {x:α} {f:α->β} (h:l[i]?=some x):(l.take i).map f++[f x]=(l.take (i+1)).map f:=by
  obtain ⟨hi,e⟩:=List.getElem?_eq_some_iff.1 h
  rw [List.take_add_one,h,List.map_append];rfl
theorem T4 {l:List aF} {n:Nat} (hn:l.length+1<n) (hl:(l.length:Int)<1000000000) (hk:∀ x∈l,jT x) :
    Ex (λr=>(tQ l<=288230376151711744->tV l<=288230376151711744->tS l<=288230376151711744->r=(⟨tQ l,tV l,tP l⟩,0))/\(r.2=0->tQ l<=288230376151711744/\tV l<=288230376151711744)) (AJ n l):=by
  unfold AJ X4
  simp only [WT.run,bT]
  refine aW (λ(r:List Int×List Int×List Int)=>r=(l.map (·.aT),l.map (·.Value),l.map (·.bO)))
    (gB (λ(v:Int×List Int×List Int×List Int)=>0<=v.1/\v.1<=(l.length:Int)/\v.2=((l.take v.1.toNat).map (·.aT),(l.take v.1.toNat).map (·.Value),(l.take v.1.toNat).map (·.bO))) (λv=>l.length-v.1.toNat) ?_ (v:=(0,[],[],[])) (by simp) (by simp;omega)) ?_
  · rintro ⟨i,a,b,c⟩ ⟨h0,h1,h2⟩
    simp only [Prod.mk.injEq] at h0 h1 h2
    obtain ⟨rfl,rfl,rfl⟩:=h2
    refine bK (bK (bK (aD (aQ (λh=>?_) λh=>?_))))
    · refine eZ h0 h λx hx=>?_
      have e:(i+1).toNat=i.toNat+1:=by omega
      simp only [take_at (f:=aF.aT) hx,take_at (f:=aF.Value) hx,take_at (f:=aF.bO) hx]
      refine aD (dO (aD (dO (aD (dO (bG (dD ⟨⟨by simp only;omega,by simp only;omega,?_⟩,by simp only;omega⟩)))))))
      simp only [e]
    · refine bL (aG ?_)
      simp only [List.take_of_length_le (show l.length<=i.toNat by omega)]
  · rintro _ rfl
    obtain ⟨m1,m2,m3,m4,m5,m6⟩:=aN4 hk
    refine bK (bK ?_)
    refine aW (λ(r:aF⊕(aF×Int))=>match r with
      | .inl a=>a=⟨tQ l,tV l,tP l⟩/\tQ l<=288230376151711744/\tV l<=288230376151711744
      | .inr q=>q.2=2/\¬ (tQ l<=288230376151711744/\tV l<=288230376151711744/\tS l<=288230376151711744)) ?_ λr hr=>jQ (λa e=>?_) λb e=>?_
    · refine x_eq (wQ (by simp;omega) (by simp;omega)) (aD (aQ (λk=>bL (aG ?_)) λk=>x_eq (wQ (by simp;omega) (by simp;omega)) (aD (aQ (λk2=>bL (aG ?_)) λk2=>x_eq (wQ (by simp;omega) (by simp;omega)) (aD (aQ (λk3=>bL (aG ?_)) λk3=>dD ?_))))))
      · rcases A9 (m2.trans m1.symm) with ⟨g1,g2⟩ | ⟨g1,g2⟩
        · rw [g2] at k;exact absurd rfl k
        · exact ⟨g2,λhh=>g1 (by rw [m1];exact hh.1)⟩
      · rcases A9 (m4.trans m3.symm) with ⟨g1,g2⟩ | ⟨g1,g2⟩
        · rw [g2] at k2;exact absurd rfl k2
        · exact ⟨g2,λhh=>g1 (by rw [m3];exact hh.2.1)⟩
      · rcases aAN (l.map (·.bO)) with g2 | ⟨g1,g2⟩
        · rw [g2] at k3;exact absurd rfl k3
        · exact ⟨g1,λhh=>g2 (by rw [m6];exact hh.2.2)⟩
      · rcases A9 (m2.trans m1.symm) with ⟨g1,g2⟩ | ⟨g1,g2⟩
        · rcases A9 (m4.trans m3.symm) with ⟨g3,g4⟩ | ⟨g3,g4⟩
          · rcases aAN (l.map (·.bO)) with g5 | ⟨g5,g6⟩
            · simp only [g2,g4,g5,m1,m3,m5];exact ⟨by first | rfl | trivial,by omega,by omega⟩
            · rw [g5] at k3;exact absurd (by decide) k3
          · rw [g4] at k2;exact absurd (by decide) k2
        · rw [g2] at k;exact absurd (by decide) k
    · subst e;obtain ⟨g1,g2,g3⟩:=hr
      exact aG ⟨λ_ _ _=>by rw [g1],λ_=>⟨g2,g3⟩⟩
    · subst e;obtain ⟨g1,g2⟩:=hr
      exact ⟨λa1 a2 a3=>absurd ⟨a1,a2,a3⟩ g2,λk=>by rw [g1] at k;exact absurd k (by decide)⟩
theorem aJI {l:List aF} {n:Nat} (hn:l.length+1<n) (hl:(l.length:Int)<1000000000) (hk:∀ x∈l,jT x):GU n l=some (decide (tS l<=288230376151711744)):=by
  have key:Ex (λr=>r=decide (tS l<=288230376151711744)) (GU n l):=by
    unfold GU aC0
    simp only [WT.run,bT]
    refine aW (λ(r:List Int)=>r=l.map (λx=>ab x.bO))
      (gB (λ(v:Int×List Int)=>0<=v.1/\v.1<=(l.length:Int)/\v.2=(l.take v.1.toNat).map (λx=>ab x.bO)) (λv=>l.length-v.1.toNat) ?_ (v:=(0,[])) (by simp) (by simp;omega)) ?_
    · rintro ⟨i,a⟩ ⟨h0,h1,h2⟩
      simp only at h0 h1 h2
      subst h2
      refine bK (aD (aQ (λh=>?_) λh=>?_))
      · refine eZ h0 h λx hx=>?_
        have e:(i+1).toNat=i.toNat+1:=by omega
        obtain ⟨c1,c2,c3⟩:=hk x (fO hx)
        unfold bN at c3
        have e2:(if 0-x.bO>x.bO then 0-x.bO else x.bO)=ab x.bO:=by unfold ab;split <;> split <;> omega
        refine bG (aD ?_)
        simp only [e2,take_at (f:=λx=>ab x.bO) hx]
        refine aD (dO (bG (dD ⟨⟨by simp only;omega,by simp only;omega,?_⟩,by simp only;omega⟩)))
        simp only [e]
      · refine bL (aG ?_)
        simp only [List.take_of_length_le (show l.length<=i.toNat by omega)]
    · rintro _ rfl
      refine x_eq (wQ (by simp;omega) (by simp;omega)) (aD (aG ?_))
      have e1:kM (l.map (λx=>ab x.bO))=tS l/\lZ (l.map (λx=>ab x.bO))=tS l:=by
        clear hn hl hk
        induction l with
        | nil=>exact ⟨rfl,rfl⟩
        | cons x r ih =>
          have e:ab (ab x.bO)=ab x.bO:=by have:=nY x.bO;unfold ab;split <;> (try split) <;> omega
          simp only [List.map_cons,kM,lZ,tS,ih.1,ih.2,e,and_self]
      rcases A9 (e1.2.trans e1.1.symm) with ⟨g1,g2⟩ | ⟨g1,g2⟩
      · rw [g2,e1.1];rw [e1.1] at g1;simp [g1]
      · rw [e1.1] at g1;simp only [g2];simp [g1]
  exact gF key
theorem aJX (x:aF):Ex (λr=>r=true↔¬ jT x) (JC x):=by
  unfold JC V5 jT bN
  simp only [WT.run,bT]
  repeat' with_reducible first | refine bG ?_ | refine dZ ?_ | apply aD | apply bK | apply dY | apply dN | apply eB | apply d9 | apply dV | apply dQ | apply dW | apply dU | refine aQ (λ_=>?_) λ_=>?_ | refine dK (λ_=>?_) λ_=>?_ | apply dF | apply bU | apply dA | apply bL | apply aG
  all_goals try (exact ⟨λ_=>by omega,λ_=>rfl⟩)
  simp only [decide_eq_true_eq];exact ⟨λ_=>by omega,λ_=>by omega⟩
theorem aRG {l:List aF} {n:Nat} (hn:l.length+1<n) (hl:(l.length:Int)<1000000000):Ex (λr=>r=true↔LR l) (LD n l):=by
  unfold LD aDR
  simp only [WT.run,bT]
  refine aW (λb=>b=true↔(¬ l.length<=30\/¬ ∀ x∈l,jT x)) (aD (aQ (λh=>aG ⟨λ_=>.inl (by omega),λ_=>rfl⟩) λh=>aW (λb=>b=true↔¬ ∀ x∈l,jT x) (aW (λ(v:Int)=>v>=0↔¬ ∀ x∈l,jT x) ?_ λv hv=>aD (aG (by simpa using hv))) λb hb=>aG ⟨λk=>.inr (hb.1 k),λk=>hb.2 (k.resolve_left (by omega))⟩)) λb hb=>?_
  · refine aW (λ(r:Unit⊕Int)=>match r with | .inl _=>∀ x∈l,jT x | .inr v=>v>=0/\¬ ∀ x∈l,jT x)
      (gB (λ(v:Int)=>0<=v/\v<=(l.length:Int)/\((∀ x∈l.drop v.toNat,jT x)->∀ x∈l,jT x)) (λ(v:Int)=>l.length-v.toNat) ?_ (v:=0) (by simp) (by simp;omega)) λr hr=>jQ (λa e=>?_) λb e=>?_
    · rintro i ⟨h0,h1,h2⟩
      refine aD (aQ (λh=>?_) λh=>?_)
      · refine eZ h0 h λx hx=>aW _ (aJX x) λb hb=>fJ (λk=>bL (bL (aG ⟨h0,λhh=>hb.1 k (hh x (fO hx))⟩))) λk=>bG (dD ⟨⟨by omega,by omega,λhh=>h2 λy hy=>?_⟩,by omega⟩)
        have e:(i+1).toNat=i.toNat+1:=by omega
        rw [e] at hh
        rw [(drop_at hx).2] at hy
        rcases List.mem_cons.1 hy with rfl | hy
        · exact Classical.not_not.1 λq=>by rw [hb.2 q] at k;cases k
        · exact hh y hy
      · refine bL (dD (h2 λx hx=>?_))
        rw [List.drop_eq_nil_of_le (by omega)] at hx;cases hx
    · subst e;exact aG ⟨λk=>absurd k (by decide),λk=>absurd hr k⟩
    · subst e;exact ⟨λ_=>hr.2,λ_=>hr.1⟩
  · refine fJ (λk=>aG ⟨(λq=>nomatch q),λq=>?_⟩) λk=>?_
    · rcases hb.1 k with g | g
      · exact absurd q.2.1 g
      · exact absurd q.1 g
    · have g:l.length<=30/\∀ x∈l,jT x:=by
        by_cases g1:l.length<=30
        · by_cases g2:∀ x∈l,jT x
          · exact ⟨g1,g2⟩
          · rw [hb.2 (.inr g2)] at k;cases k
        · rw [hb.2 (.inl g1)] at k;cases k
      refine aW _ (T4 hn hl g.2) λt ht=>aW (λb=>b=true↔LR l) (aD (aQ (λq=>?_) λq=>aG ⟨(λz=>nomatch z),λz=>?_⟩)) λb hb=>aG hb
      · rw [aJI hn hl g.2]
        have:=ht.2 q
        refine ⟨_,rfl,?_⟩
        show decide _=true↔_
        rw [decide_eq_true_eq]
        exact ⟨λz=>⟨g.2,g.1,this.1,this.2,z⟩,λz=>z.2.2.2.2⟩
      · exact absurd (by rw [ht.1 z.2.2.1 z.2.2.2.1 z.2.2.2.2]) q
open Classical in
noncomputable def f9 (l:List aF) (x:aF):List aF×Int:=if x.aT<1\/x.Value<0 then (l,1) else if 30<=l.length then (l,6) else if LR (l++[x]) then (l++[x],0) else (l,2)
theorem GJ {l:List aF} {x:aF} (h:x.aT<1\/x.Value<0):f9 l x=(l,1):=if_pos h
theorem XW {l:List aF} {x:aF} (h:¬ (x.aT<1\/x.Value<0)) (h2:30<=l.length):f9 l x=(l,6):=by unfold f9;rw [if_neg h,if_pos h2]
theorem OD {l:List aF} {x:aF} (h:¬ (x.aT<1\/x.Value<0)) (h2:¬ 30<=l.length) (h3:¬ LR (l++[x])):f9 l x=(l,2):=by unfold f9;rw [if_neg h,if_neg h2,if_neg h3]
theorem OT {l:List aF} {x:aF} (h:¬ (x.aT<1\/x.Value<0)) (h2:¬ 30<=l.length) (h3:LR (l++[x])):f9 l x=(l++[x],0):=by unfold f9;rw [if_neg h,if_neg h2,if_pos h3]
theorem r9 {l:List aF} {x:aF} {n:Nat} (hn:66<n) (hl:LR l):CX n l x=some (f9 l x):=by
  have h1:=nI hl
  refine gF ?_
  unfold CX QT
  simp only [WT.run,bT]
  refine dO (aD (dO ?_))
  repeat' with_reducible first | refine bG ?_ | refine dZ ?_ | apply aD | apply bK | apply dY | apply dN | apply eB | apply d9 | apply dV | apply dQ | apply dW | apply dU | refine aQ (λ_=>?_) λ_=>?_ | refine dK (λ_=>?_) λ_=>?_ | apply dF | apply bU | apply dA | apply bL | apply aG
  · exact (GJ (by omega)).symm
  · exact (GJ (by omega)).symm
  · exact (XW (by omega) (by omega)).symm
  refine aW _ (BY (l:=l++[x]) (by simp;omega) (by simp;omega)) λb hb=>?_
  repeat' with_reducible first | refine bG ?_ | refine dZ ?_ | apply aD | apply bK | apply dY | apply dN | apply eB | apply d9 | apply dV | apply dQ | apply dW | apply dU | refine aQ (λ_=>?_) λ_=>?_ | refine dK (λ_=>?_) λ_=>?_ | apply dF | apply bU | apply dA | apply bL | apply aG
  · rename_i k;exact (OD (by omega) (by omega) λq=>by rw [hb.2 q] at k;cases k).symm
  · rename_i k;exact (OT (by omega) (by omega) (hb.1 k)).symm
theorem p9 {l:List aF} {x:aF} {n:Nat} (hn:66<n) (hl:LR l):GC n l x=some (f9 l x):=by
  have h1:=nI hl
  refine gF ?_
  unfold GC VN
  simp only [WT.run,bT]
  refine dO ?_
  repeat' with_reducible first | refine bG ?_ | refine dZ ?_ | apply aD | apply bK | apply dY | apply dN | apply eB | apply d9 | apply dV | apply dQ | apply dW | apply dU | refine aQ (λ_=>?_) λ_=>?_ | refine dK (λ_=>?_) λ_=>?_ | apply dF | apply bU | apply dA | apply bL | apply aG
  · exact (GJ (by omega)).symm
  · exact (GJ (by omega)).symm
  · exact (XW (by omega) (by omega)).symm
  refine dO (aD (dO (aW _ (aRG (l:=l++[x]) (by simp;omega) (by simp;omega)) λb hb=>?_)))
  repeat' with_reducible first | refine bG ?_ | refine dZ ?_ | apply aD | apply bK | apply dY | apply dN | apply eB | apply d9 | apply dV | apply dQ | apply dW | apply dU | refine aQ (λ_=>?_) λ_=>?_ | refine dK (λ_=>?_) λ_=>?_ | apply dF | apply bU | apply dA | apply bL | apply aG
  · rename_i k;exact (OD (by omega) (by omega) λq=>by rw [hb.2 q] at k;cases k).symm
  · rename_i k;exact (OT (by omega) (by omega) (hb.1 k)).symm
open Classical in
noncomputable def f10 (l:List aF) (x:aF):List aF×Int:=if x.aT<1\/x.Value<0 then (l,1) else if LR (l++[x]) then ([⟨tQ l+x.aT,tV l+x.Value,tP l+x.bO⟩],0) else (l,2)
theorem N8 {l:List aF} {x:aF} (h:x.aT<1\/x.Value<0):f10 l x=(l,1):=if_pos h
theorem aEC {l:List aF} {x:aF} (h:¬ (x.aT<1\/x.Value<0)) (h3:¬ LR (l++[x])):f10 l x=(l,2):=by unfold f10;rw [if_neg h,if_neg h3]
theorem Y4 {l:List aF} {x:aF} (h:¬ (x.aT<1\/x.Value<0)) (h3:LR (l++[x])):f10 l x=([⟨tQ l+x.aT,tV l+x.Value,tP l+x.bO⟩],0):=by unfold f10;rw [if_neg h,if_pos h3]
theorem R5 {l:List aF} {n:Nat} (hn:66<n) (hl:LR l):AJ n l=some (⟨tQ l,tV l,tP l⟩,0):=by
  have h1:=nI hl
  obtain ⟨r,e,h,_⟩:=T4 (n:=n) (by omega) (by omega) hl.1
  rw [e,h hl.2.2.1 hl.2.2.2.1 hl.2.2.2.2]
theorem zP {l:List aF} {x:aF} {n:Nat} (hn:66<n) (hl:LR l):xA n l x=some (f10 l x):=by
  have h1:=nI hl
  obtain ⟨a1,a2,a3,a4⟩:=vR l [x]
  simp only [tQ,tV,tP,tS,Int.add_zero] at a1 a2 a3 a4
  refine gF ?_
  unfold xA OG
  simp only [WT.run,bT]
  repeat' with_reducible first | refine bG ?_ | refine dZ ?_ | apply aD | apply bK | apply dY | apply dN | apply eB | apply d9 | apply dV | apply dQ | apply dW | apply dU | refine aQ (λ_=>?_) λ_=>?_ | refine dK (λ_=>?_) λ_=>?_ | apply dF | apply bU | apply dA | apply bL | apply aG
  · exact (N8 (by omega)).symm
  · exact (N8 (by omega)).symm
  refine dO (aD (dO (aW _ (BY (by simp;omega) (by simp;omega)) λb hb=>?_)))
  repeat' with_reducible first | refine bG ?_ | refine dZ ?_ | apply aD | apply bK | apply dY | apply dN | apply eB | apply d9 | apply dV | apply dQ | apply dW | apply dU | refine aQ (λ_=>?_) λ_=>?_ | refine dK (λ_=>?_) λ_=>?_ | apply dF | apply bU | apply dA | apply bL | apply aG
  · rename_i k;exact (aEC (by omega) λq=>by rw [hb.2 q] at k;cases k).symm
  · rename_i k
    have h3:=hb.1 k
    refine x_eq (CF hn h3) (aG ?_)
    rw [Y4 (by omega) h3]
    simp only [a1,a2,a3,tQ,tV,tP]
theorem wB {l:List aF} {x:aF} {n:Nat} (hn:66<n) (hl:LR l) (h2:l.length<30):B9 n l x=some (f10 l x):=by
  obtain ⟨a1,a2,a3,a4⟩:=vR l [x]
  simp only [tQ,tV,tP,tS,Int.add_zero] at a1 a2 a3 a4
  refine gF ?_
  unfold B9 aCG
  simp only [WT.run,bT,p9 hn hl,Option.bind_some]
  by_cases k1:x.aT<1\/x.Value<0
  · rw [GJ k1,N8 k1];exact aD (dF (aG rfl))
  · by_cases k2:LR (l++[x])
    · rw [OT k1 (by omega) k2,Y4 k1 k2]
      refine aD (bU (x_eq (R5 hn k2) (aD (bU (aG ?_)))))
      simp only [a1,a2,a3,tQ,tV,tP]
    · rw [OD k1 (by omega) k2,aEC k1 k2];exact aD (dF (aG rfl))
end Go.Pv
