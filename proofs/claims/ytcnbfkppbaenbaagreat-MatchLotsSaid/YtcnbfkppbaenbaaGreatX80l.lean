import Derived.Test.YtcnbfkppbaenbaaGreatE70
import Derived.Test.YtcnbfkppbaenbaaGreatX80k
set_option linter.unusedVariables false
set_option linter.unusedSimpArgs false
namespace Go.Pv
open Go.Proofs
def eD {α:Type} (f:α->Int):List α->Int | []=>0 | x :: r=>f x+eD f r
theorem vV {α:Type} (f:α->Int) (a b:List α):eD f (a++b)=eD f a+eD f b:=by
  induction a with
  | nil=>simp [eD]
  | cons x r ih=>simp only [List.cons_append,eD,ih];omega
theorem rW {α:Type} (f:α->Int) {l:List α} {k:Nat} {a b:α} (h:l[k]?=some a):eD f (l.set k b)=eD f l-f a+f b:=by
  induction l generalizing k with
  | nil=>cases h
  | cons x r ih =>
    cases k with
    | zero=>cases h;simp only [List.set_cons_zero,eD];omega
    | succ k=>simp only [List.set_cons_succ,eD];rw [ih h];omega
theorem uK {α:Type} {f:α->Int} {l:List α} (h:∀ x∈l,0<=f x):0<=eD f l:=by
  induction l with
  | nil=>exact Int.le_refl _
  | cons x r ih=>have:=ih λy hy=>h y (List.mem_cons_of_mem _ hy);have:=h x (List.mem_cons_self ..);simp only [eD];omega
theorem tT {α:Type} (f:α->Int) {l:List α} {i:Nat} {x:α} (h:l[i]?=some x):eD f (l.drop i)=f x+eD f (l.drop (i+1)):=by
  rw [(drop_at h).2];rfl
theorem aKW {α β:Type} (f:β->Int) (g:α->β) (l:List α):eD f (l.map g)=eD (λx=>f (g x)) l:=by
  induction l with
  | nil=>rfl
  | cons x r ih=>simp only [List.map_cons,eD,ih]
theorem JA {α:Type} {f:α->Int} {l:List α} (h:∀ x∈l,f x=0):eD f l=0:=by
  induction l with
  | nil=>rfl
  | cons x r ih=>simp only [eD];rw [h x (List.mem_cons_self ..),ih λy hy=>h y (List.mem_cons_of_mem _ hy)];rfl
def dA (l:List Int):Int:=eD (λx=>x) l
def sV (l:List aH):Int:=eD (λp=>tV p.aW) l
theorem mem_set {α:Type} {l:List α} {k:Nat} {b x:α} (h:x∈l.set k b):x=b\/x∈l:=by
  rcases List.mem_or_eq_of_mem_set h with h | h
  · exact .inr h
  · exact .inl h
theorem aJ2 {l:List Int}:∀ {n:Int},0<=n->(∀ x∈l,0<=x)->n+dA l<=288230376151711744->iD n l=some (n+dA l):=by
  induction l with
  | nil=>intro n _ _ _;simp [iD,dA,eD]
  | cons x r ih =>
    intro n hn hx hs
    have h1:=hx x (List.mem_cons_self ..)
    have h2:0<=dA r:=uK λy hy=>hx y (List.mem_cons_of_mem _ hy)
    have e:dA (x :: r)=x+dA r:=rfl
    rw [iD,if_pos ⟨by unfold bQ;omega,by unfold bQ;omega,by unfold bQ;omega⟩,ih (by omega) (λy hy=>hx y (List.mem_cons_of_mem _ hy)) (by omega),e,Int.add_assoc]
theorem HV {l:List Int} (hx:∀ x∈l,0<=x) (hs:dA l<=288230376151711744):gM l=(dA l,0):=by
  unfold gM;rw [aJ2 (Int.le_refl 0) hx (by omega)];show (0+dA l,(0:Int))=_;rw [Int.zero_add]
theorem aK7 {l:List Int}:∀ {n v:Int},iD n l=some v->v=n+dA l/\(bQ n->bQ v):=by
  induction l with
  | nil=>intro n v h;cases h;simp [dA,eD]
  | cons x r ih =>
    intro n v h
    rw [iD] at h
    by_cases hc:bQ n/\bQ x/\bQ (n+x)
    · rw [if_pos hc] at h
      obtain ⟨h1,h2⟩:=ih h
      exact ⟨by rw [h1];show n+x+dA r=n+(x+dA r);omega,λ_=>h2 hc.2.2⟩
    · rw [if_neg hc] at h;cases h
theorem aCH {l:List Int} (h:(gM l).2=0):gM l=(dA l,0)/\bQ (dA l):=by
  unfold gM at h ⊢
  cases e:iD 0 l with
  | none=>rw [e] at h;exact absurd (show (2:Int)=0 from h) (by decide)
  | some v =>
    obtain ⟨h1,h2⟩:=aK7 e
    rw [Int.zero_add] at h1;subst h1
    exact ⟨rfl,h2 (by unfold bQ;omega)⟩
theorem aI8 {l:List aB} (h:LR l) (hl:1<=l.length):LR [⟨tQ l,tV l,tP l⟩]/\tS [⟨tQ l,tV l,tP l⟩]<=tS l/\tQ [⟨tQ l,tV l,tP l⟩]=tQ l/\tV [⟨tQ l,tV l,tP l⟩]=tV l/\tP [⟨tQ l,tV l,tP l⟩]=tP l:=by
  obtain ⟨hk,h30,hQ,hV,hS⟩:=h
  obtain ⟨a1,a2,a3,a4,a5,a6⟩:=l9 hk
  have e:ab (tP l)<=tS l:=by unfold ab;split <;> omega
  refine ⟨⟨?_,by simp,by simp [tQ];omega,by simp [tV];omega,by simp [tS];omega⟩,by simp [tS];omega,by simp [tQ],by simp [tV],by simp [tP]⟩
  intro x hx
  rw [List.mem_singleton] at hx;subst hx
  exact ⟨by simp only;omega,by simp only;omega,by unfold bQ;simp only;omega⟩
theorem Y7 {q v p:Int} (hq:1<=q/\q<=288230376151711744) (hv:0<=v/\v<=288230376151711744) (hp:bQ p):LR [⟨q,v,p⟩]:=by
  have e:ab p<=288230376151711744:=by unfold bQ at hp;unfold ab;split <;> omega
  refine ⟨λx hx=>?_,by simp,by simp [tQ];omega,by simp [tV];omega,by simp [tS];omega⟩
  rw [List.mem_singleton] at hx;subst hx;exact ⟨hq,hv,hp⟩
theorem aTT:LR []:=⟨(λx hx=>(nomatch hx)),by simp,by simp [tQ],by simp [tV],by simp [tS]⟩
structure PR (m:Int) (p:aH):Prop where
  mt:1<=m/\m<=4
  ly:LR p.aW
  one:m≠1->p.aW.length<=1
  p0:0<=p.bN.a0
  p1:0<=p.bN.a1
  p2:0<=p.bN.a2
  sum:p.bN.a0+p.bN.a1+p.bN.a2<=tQ p.aW
  uQ:m≠3->p.bN.a0=0/\p.bN.a1=0/\p.bN.a2=0
structure IO (m:Int) (p q:aH):Prop where
  pp:PR m p
  qq:PR m q
  sq:tQ p.aW+tQ q.aW<=288230376151711744
  ss:tS p.aW+tS q.aW<=288230376151711744
def wX (r:cO):Prop:=bQ r.Open/\bQ r.iW/\bQ r.jH/\bQ r.jG/\bQ r.iY/\bQ r.jF/\bQ r.jE/\bQ r.iX/\bQ r.jC/\bQ r.jD/\bQ r.jB
def kM (r:cO):Int:=r.Open+r.iW+r.jH+r.jG+r.iY+r.jB-(r.jF+r.jE+r.iX+r.jC+r.jD)
def qU (a b:cO):cO:=⟨a.Open+b.Open,a.iW+b.iW,a.jH+b.jH,a.jG+b.jG,a.iY+b.iY,a.jF+b.jF,a.jE+b.jE,a.iX+b.iX,a.jC+b.jC,a.jD+b.jD,a.jB+b.jB⟩
structure ES (n:Nat) (bL:List Int) (iN:Int) (x:aQ):Prop where
  now:1<=x.fU/\x.fU<=iN
  lp:x.bX.length=2*n
  lr:x.dQ.length=n
  lb:x.dR.length=17
  lc:x.gI.length=n
  ld:x.Down.length=n
  lm:bL.length=n
  gH:∀ b∈x.dR,bQ b
  pri:∀ b∈x.gI,-1<=b/\b<=288230376151711744
  zX:∀ b∈x.Down,0<=b/\b<=288230376151711744
  AI:∀ (i:Nat) m p q,bL[i]?=some m->x.bX[2*i]?=some p->x.bX[2*i+1]?=some q->IO m p q
  roll:∀ r∈x.dQ,wX r
def bl (x:aQ) (a:Nat):Int:=x.dR.getD a 0
structure EB (x:aQ):Prop where
  ctl:sV x.bX=bl x 0
  pW:dA x.Down=-bl x 11
  qX:dA x.dR=0
  pE:∀ (i:Nat) r p q,x.dQ[i]?=some r->x.bX[2*i]?=some p->x.bX[2*i+1]?=some q->kM r=tV p.aW+tV q.aW
structure pM (m:fC):Prop where
  vL:1<=m.gG/\m.gG<=4
  iN:1<=m.gQ/\m.gQ<=12
  n1:1<=m.bZ.length/\m.bZ.length<=5
  ZM:∀ x∈m.bZ,0<=x/\x<=1073741824
  lm:(m.Methods.length:Int)=m.gG
  lc:(m.gL.length:Int)=m.gG
  met:∀ l∈m.Methods,l.length=m.bZ.length/\∀ x∈l,1<=x/\x<=4
  cos:∀ l∈m.gL,l.length=m.bZ.length/\∀ x∈l,0<=x/\x<=1073741824
structure EO (m:fC) (bL:List Int) (x:aQ):Prop where
  es:ES m.bZ.length bL m.gQ x
  ee:EB x
  opn:x.Closed=false
  lH:x.fV=[]
structure EC (m:fC) (bL:List Int) (x y:aQ):Prop where
  es:ES m.bZ.length bL m.gQ x
  ee:EB x
  LP:x.Closed=true
  lH:x.fV=[y]
  eo:EO m bL y
  now:y.fU=x.fU
  b1:bl y 1=bl x 1
  b12:bl y 12=bl x 12
  b13:bl y 13=bl x 13
  b14:bl y 14=bl x 14
def EI (m:fC) (bL:List Int) (x:aQ):Prop:=EO m bL x\/∃ y,EC m bL x y
def tH (m:fC) (r:dG):Prop:=(0<=r.eY/\r.eY<m.gG)/\(0<=r.Item/\r.Item<(m.bZ.length:Int))/\(0<=r.Loc/\r.Loc<=1)/\(0<=r.aG/\r.aG<=288230376151711744)/\(0<=r.Value/\r.Value<=288230376151711744)/\(0<=r.Open/\r.Open<=r.aG)/\(0<=r.gW/\r.gW<=288230376151711744)/\(0<=r.gP/\r.gP<=r.aG)
def pI (m:fC) (r:eZ):Prop:=(0<=r.eY/\r.eY<m.gG)/\(0<=r.Item/\r.Item<(m.bZ.length:Int))/\(0<=r.Loc/\r.Loc<=1)/\(0<=r.aG/\r.aG<=288230376151711744)/\(0<=r.gP/\r.gP<=r.aG)/\(0<=r.pR/\r.pR<=288230376151711744)/\bQ r.bO/\(1<=r.nG/\r.nG<=12)
def BH (m:fC) (r:fT):Prop:=(0<=r.rZ/\r.rZ<m.gG)/\(0<=r.To/\r.To<m.gG)/\(0<=r.Item/\r.Item<(m.bZ.length:Int))/\(0<=r.aG/\r.aG<=288230376151711744)/\(0<=r.Value/\r.Value<=288230376151711744)/\bQ r.bO
def iT (e:Nat) (r:dG):Int:=if r.eY=(e:Int) then r.gW else 0
def iI (e:Nat) (r:fT):Int:=if r.To=(e:Int) then r.Value else 0
def kH (x:aQ):Int:=bl x 13+bl x 14
structure Inv (K:Int) (s:aA):Prop where
  jW:pM s.bH
  len:(s.bD.length:Int)=s.bH.gG
  xS:0<=s.Done/\s.Done<=K
  mD:∀ r∈s.bY,tH s.bH r
  mO:∀ r∈s.eF,pI s.bH r
  nP:∀ r∈s.dL,BH s.bH r
  l1:s.bY.length<=40
  l2:s.eF.length<=40
  l3:s.dL.length<=40
  ent:∀ (e:Nat) x bL,s.bD[e]?=some x->s.bH.Methods[e]?=some bL->EI s.bH bL x
  acc:∀ (e:Nat) x,s.bD[e]?=some x->eD (iT e) s.bY=-bl x 1
  way:∀ (e:Nat) x,s.bD[e]?=some x->eD (iI e) s.dL=bl x 12
  xD:eD kH s.bD=0
def lM (s:aA) (e:Nat) (x:aQ):aA:={ s with bD:=s.bD.set e x }
theorem aD0 (s:aA) (e:Nat) (x y:aQ):lM (lM s e x) e y=lM s e y:=by unfold lM;rw [List.set_set]
theorem QK {s:aA} {e:Nat} {x:aQ} (h:e<s.bD.length):(lM s e x).bD[e]?=some x:=by unfold lM;simp [h]
set_option maxRecDepth 100000
set_option maxHeartbeats 1000000
theorem yN (a b c:Int):0<=(md a b c).1/\(md a b c).1<=288230376151711744/\0<=(md a b c).2.2/\(md a b c).2.2<=2:=by
  unfold md
  by_cases h:a<0\/b<0\/c<1
  · rw [if_pos h];simp
  · rw [if_neg h]
    have h0:0<=a*b / c:=Int.ediv_nonneg (Int.mul_nonneg (by omega) (by omega)) (by omega)
    by_cases h2:a*b / c>288230376151711744
    · rw [if_pos h2];simp
    · rw [if_neg h2];simp;omega
theorem xI {l:List aB} {n:Nat} (hn:66<n) (hl:LR l):rP n l=some (⟨tQ l,tV l,tP l⟩,0):=by
  obtain ⟨hk,h30,hQ,hV,hS⟩:=hl
  exact fH (IN (LC (by omega) (by omega) hk) λr hr=>hr.1 hQ hV hS)
theorem gV {l:List aB} (h:LR l):(0<=tQ l/\tQ l<=288230376151711744)/\(0<=tV l/\tV l<=288230376151711744)/\(-288230376151711744<=tP l/\tP l<=288230376151711744)/\(0<=tS l/\tS l<=288230376151711744)/\(l.length:Int)<=tQ l/\l.length<=30/\-tS l<=tP l/\tP l<=tS l:=by
  obtain ⟨hk,h30,hQ,hV,hS⟩:=h
  obtain ⟨a1,a2,a3,a4,a5,a6⟩:=l9 hk
  omega
theorem xJ {p:aH} {n:Nat} (hn:66<n) (hl:LR p.aW):uX n p=some ⟨tQ p.aW,tV p.aW,tP p.aW⟩:=by
  unfold uX UT
  simp only [WT.run,bS,xI hn hl,Option.bind_some]
theorem EY {m:Int} {p:aH} {n:Nat} (hn:66<n) (h:PR m p):wJ n p=some (tQ p.aW-p.bN.a0-p.bN.a1-p.bN.a2):=by
  have hl:=gV h.ly
  have:=h.p0;have:=h.p1;have:=h.p2;have:=h.sum
  refine fH ?_
  unfold wJ YQ
  simp only [WT.run,bS,xI hn h.ly,Option.bind_some]
  exact gU (by (try simp only at *);omega) (gU (by (try simp only at *);omega) (gU (by (try simp only at *);omega) (aD rfl)))
theorem aI9 {m:Int} {p:aH} {n:Nat} (hn:66<n) (h:PR m p):MU n m p=some (tQ p.aW-p.bN.a0-p.bN.a1-p.bN.a2):=by
  refine fH ?_
  unfold MU VE
  simp only [WT.run,bS,EY hn h,xJ hn h.ly,Option.bind_some]
  refine aF (aI (λk=>aD rfl) λk=>aD ?_)
  obtain ⟨a,b,c⟩:=h.uQ k
  show tQ p.aW=_
  omega
theorem aAJ {l:List aB} {x:aB} (h:LR (l++[x])):jA x:=h.1 x (by simp)
theorem PK {l:List aB} {x:aB} {n:Nat} (hn:66<n) (hl:LR l):Ex (λr=>(r.2=0/\r.1=[⟨tQ l+x.aG,tV l+x.Value,tP l+x.bO⟩]/\LR (l++[x]))\/(r.2≠0/\r.1=l)) (vB n l x):=by
  have h1:=tC hl
  obtain ⟨a1,a2,a3,a4⟩:=tK l [x]
  simp only [tQ,tV,tP,tS,Int.add_zero] at a1 a2 a3 a4
  unfold vB N7
  simp only [WT.run,bS]
  repeat' with_reducible first | refine bE ?_ | refine dU ?_ | apply aF | apply bF | apply dY | apply dN | apply dV | apply dZ | apply d9 | apply dO | apply dW | apply dS | refine aI (λ_=>?_) λ_=>?_ | refine dJ (λ_=>?_) λ_=>?_ | apply dB | apply bW | apply cZ | apply bJ | apply aD
  all_goals try exact .inr ⟨(λk=>nomatch k),rfl⟩
  refine dM (aF (dM (aU _ (BK (by simp;omega) (by simp;omega)) λb hb=>?_)))
  repeat' with_reducible first | refine bE ?_ | refine dU ?_ | apply aF | apply bF | apply dY | apply dN | apply dV | apply dZ | apply d9 | apply dO | apply dW | apply dS | refine aI (λ_=>?_) λ_=>?_ | refine dJ (λ_=>?_) λ_=>?_ | apply dB | apply bW | apply cZ | apply bJ | apply aD
  · exact .inr ⟨(λk=>nomatch k),rfl⟩
  · rename_i h4
    have h3:=hb.1 h4
    refine x_eq (xI hn h3) (aD (.inl ⟨rfl,?_,h3⟩))
    simp only [a1,a2,a3,tQ,tV,tP]
theorem M6 {n:Nat} {q c:Int} (hn:66<n) (ha:-9223372036854775808<=q/\q<=9223372036854775807) (hb:-9223372036854775808<=c/\c<=9223372036854775807):y8 n q c=some ((md q c 1).1,decide ((md q c 1).2.2=0)):=by
  unfold y8 VD
  simp only [WT.run,bS,zA hn ha hb (show -9223372036854775808<=(1:Int)/\(1:Int)<=9223372036854775807 by decide),Option.bind_some]
  rfl
theorem aGX {l:List aB} {x:aB} {c:Int} {n:Nat} (hn:66<n) (hl:LR l) (hc:0<=c/\c<=1073741824) (hx:x.aG<=9223372036854775807) :
    Ex (λr=>(r.2.2=0/\(0<=x.Value/\x.Value<=288230376151711744)/\∃ v,r.1=[⟨tQ l+x.aG,tV l+v,tP l+x.bO⟩]/\LR (l++[⟨x.aG,v,x.bO⟩])/\r.2.1=x.Value-v)\/(r.2.2≠0/\r.1=l/\r.2.1=0)) (L9 n l x c):=by
  unfold L9 aAB
  simp only [WT.run,bS]
  repeat' with_reducible first | refine bE ?_ | refine dU ?_ | apply aF | apply bF | apply dY | apply dN | apply dV | apply dZ | apply d9 | apply dO | apply dW | apply dS | refine aI (λ_=>?_) λ_=>?_ | refine dJ (λ_=>?_) λ_=>?_ | apply dB | apply bW | apply cZ | apply bJ | apply aD
  all_goals try exact .inr ⟨(λk=>nomatch k),rfl,rfl⟩
  all_goals try (exfalso;omega)
  rename_i h1 h2
  refine x_eq (M6 hn (by omega) (by omega)) ?_
  have hm:=yN x.aG c 1
  repeat' with_reducible first | refine bE ?_ | refine dU ?_ | apply aF | apply bF | apply dY | apply dN | apply dV | apply dZ | apply d9 | apply dO | apply dW | apply dS | refine aI (λ_=>?_) λ_=>?_ | refine dJ (λ_=>?_) λ_=>?_ | apply dB | apply bW | apply cZ | apply bJ | apply aD
  all_goals try exact .inr ⟨(λk=>nomatch k),rfl,rfl⟩
  rename_i h3
  refine aU _ (PK hn hl) λr hr=>?_
  rcases hr with ⟨e1,e2,e3⟩ | ⟨e1,e2⟩
  · repeat' with_reducible first | refine bE ?_ | refine dU ?_ | apply aF | apply bF | apply dY | apply dN | apply dV | apply dZ | apply d9 | apply dO | apply dW | apply dS | refine aI (λ_=>?_) λ_=>?_ | refine dJ (λ_=>?_) λ_=>?_ | apply dB | apply bW | apply cZ | apply bJ | apply aD
    · omega
    · exact Or.inl ⟨rfl,by omega,(md x.aG c 1).1,e2,e3,rfl⟩
  · repeat' with_reducible first | refine bE ?_ | refine dU ?_ | apply aF | apply bF | apply dY | apply dN | apply dV | apply dZ | apply d9 | apply dO | apply dW | apply dS | refine aI (λ_=>?_) λ_=>?_ | refine dJ (λ_=>?_) λ_=>?_ | apply dB | apply bW | apply cZ | apply bJ | apply aD
    · exact .inr ⟨e1,rfl,rfl⟩
    · omega
theorem IY {m:Int} {p:aH} {l:List aB} (h:PR m p) (hl:LR l) (h1:m≠1->l.length<=1) (hq:tQ p.aW<=tQ l):PR m ⟨l,p.bN⟩ :=
  { h with ly:=hl,one:=h1,sum:=by have:=h.sum;show p.bN.a0+p.bN.a1+p.bN.a2<=tQ l;omega }
def Came (m:Int) (p q:aH) (x:aB) (above:Int):Prop:=PR m q/\tQ q.aW=tQ p.aW+x.aG/\tV q.aW+above=tV p.aW+x.Value/\tP q.aW=tP p.aW+x.bO/\tS q.aW<=tS p.aW+ab x.bO/\(1<=x.aG/\x.aG<=288230376151711744)/\(0<=x.Value/\x.Value<=288230376151711744)
theorem OU {m:Int} {p:aH} {x:aB} (h:PR m p) (hl:LR (p.aW++[x])):Came m p ⟨[⟨tQ p.aW+x.aG,tV p.aW+x.Value,tP p.aW+x.bO⟩],p.bN⟩ x 0:=by
  obtain ⟨a1,a2,a3,a4⟩:=tK p.aW [x]
  simp only [tQ,tV,tP,tS,Int.add_zero] at a1 a2 a3 a4
  obtain ⟨b1,b2,b3,b4,b5⟩:=aI8 hl (by simp)
  have hb:=gV hl
  have hx:=aAJ hl
  obtain ⟨c1,c2,c3⟩:=hx
  rw [a1,a2,a3] at b1 b2 b3 b4 b5
  refine ⟨IY h b1 (λ_=>by simp) (by rw [b3];omega),b3,?_,b5,?_,by omega,by omega⟩
  · show tV [_]+0=_;rw [b4];omega
  · show tS [_]<=_;omega
theorem aM7 {m:Int} {p:aH} {x:aB} {n:Nat} (hn:66<n) (h:PR m p):Ex (λr=>(r.2=0/\Came m p r.1 x 0)\/(r.2≠0/\r.1=p)) (KQ n p x):=by
  unfold KQ WY
  simp only [WT.run,bS]
  refine aU _ (PK hn h.ly) λr hr=>?_
  rcases hr with ⟨e1,e2,e3⟩ | ⟨e1,e2⟩
  · repeat' with_reducible first | refine bE ?_ | refine dU ?_ | apply aF | apply bF | apply dY | apply dN | apply dV | apply dZ | apply d9 | apply dO | apply dW | apply dS | refine aI (λ_=>?_) λ_=>?_ | refine dJ (λ_=>?_) λ_=>?_ | apply dB | apply bW | apply cZ | apply bJ | apply aD
    · omega
    · rw [e2];exact .inl ⟨rfl,OU h e3⟩
  · repeat' with_reducible first | refine bE ?_ | refine dU ?_ | apply aF | apply bF | apply dY | apply dN | apply dV | apply dZ | apply d9 | apply dO | apply dW | apply dS | refine aI (λ_=>?_) λ_=>?_ | refine dJ (λ_=>?_) λ_=>?_ | apply dB | apply bW | apply cZ | apply bJ | apply aD
    · exact .inr ⟨e1,rfl⟩
    · omega
theorem aP3 {m c:Int} {p:aH} {x:aB} {n:Nat} (hn:66<n) (h:PR m p) (hc:0<=c/\c<=1073741824) (hx:x.aG<=9223372036854775807) :
    Ex (λr=>(r.2.2=0/\Came m p r.1 x r.2.1/\(-288230376151711744<=r.2.1/\r.2.1<=288230376151711744))\/(r.2.2≠0/\r.1=p/\r.2.1=0)) (HY n m c p x):=by
  unfold HY aDA
  simp only [WT.run,bS]
  refine aU (λ(r:Int×Int×aH)=>r.2.1=0->Came m p r.2.2 x r.1/\(-288230376151711744<=r.1/\r.1<=288230376151711744)) ?_ λr hr=>?_
  · refine aF (aI (λk1=>?_) λk1=>aF (aI (λk2=>?_) λk2=>aF (aI (λk3=>?_) λk3=>aF (aI (λk4=>?_) λk4=>aD (λk=>nomatch k)))))
    · refine aU _ (aP4 hn h.ly) λr hr=>aD ?_
      rcases hr with ⟨e1,e2,e3⟩ | ⟨e1,e2⟩
      · intro _
        obtain ⟨a1,a2,a3,a4⟩:=tK p.aW [x]
        simp only [tQ,tV,tP,tS,Int.add_zero] at a1 a2 a3 a4
        obtain ⟨c1,c2,c3⟩:=aAJ e3
        simp only [e2]
        refine ⟨⟨IY h e3 (λk=>absurd k1 k) (by omega),a1,by simp only;omega,a3,by simp only;omega,by omega,by omega⟩,by decide⟩
      · intro k;exact absurd k e1
    · refine aU _ (PK hn h.ly) λr hr=>aD ?_
      rcases hr with ⟨e1,e2,e3⟩ | ⟨e1,e2⟩
      · intro _;simp only [e2];exact ⟨OU h e3,by decide⟩
      · intro k;exact absurd k e1
    · refine aU _ (aM7 hn h) λr hr=>aD ?_
      rcases hr with ⟨e1,e2⟩ | ⟨e1,e2⟩
      · intro _;exact ⟨e2,by simp⟩
      · intro k;exact absurd k e1
    · refine aU _ (aGX hn h.ly hc hx) λr hr=>aD ?_
      rcases hr with ⟨e1,hv,v,e2,e3,e4⟩ | ⟨e1,e2,_⟩
      · intro _
        obtain ⟨b1,b2,b3,b4,b5,b6,b7⟩:=OU h e3
        have b8:0<=v/\v<=288230376151711744:=b7
        simp only [e2,e4]
        refine ⟨⟨b1,b2,?_,b4,b5,b6,hv⟩,by omega⟩
        (try simp only at *);omega
      · intro k;exact absurd k e1
  · obtain ⟨ab,e,q⟩:=r
    repeat' with_reducible first | refine bE ?_ | refine dU ?_ | apply aF | apply bF | apply dY | apply dN | apply dV | apply dZ | apply d9 | apply dO | apply dW | apply dS | refine aI (λ_=>?_) λ_=>?_ | refine dJ (λ_=>?_) λ_=>?_ | apply dB | apply bW | apply cZ | apply bJ | apply aD
    · rename_i k;exact .inr ⟨k,rfl,rfl⟩
    · rename_i k;exact .inl ⟨rfl,hr (by simpa using k)⟩
set_option maxHeartbeats 4000000
noncomputable section
def T4 (n:Nat) (a1:aA) (a2:Int):WT Tryz.prog (.b (Int)) :=
 .al 1<|.jn 2 [4] [] [3] (λu2 (a:(List Int))=>[(5,.sl 3 (u2 3) 0 a.length)]) (λ_ a=>[.nw 3 3 1 (a.map fI)]) (.no 5 3 3 1<|.lp [1,2,4] [1] [3] (λu3 (a:Int×(List Int))=>[(5,.sl 3 (u3 3) 0 a.2.length),(6,int a.1)]) (λ_ a=>[.nw 3 3 1 (a.2.map fI)]) n ((0:Int),(([]:List Int):List Int)) (pw λy0_2 y0_3=>.ln 13 fI a1.bH.bZ<|.bB 14 (decide (y0_2<(a1.bH.bZ.length:Int))) λx5=>.ifs [14] x5 (.cl 21 (wF n a1 a2 y0_2) KM LG λx6=>.to 23 (aP 1 fI ([x6.Value]:List Int))<|.bl (y0_3++([x6.Value]:List Int):List Int) λx7=>.as (x7.length<=68719476736) inferInstance<|.ge 24 0<|.bI 16 (bA (y0_2+1)) λx10=>.brk ((x10:Int),x7)) (.esc (.ret y0_3)))) (λy1_2=>.kS 27 (nI n y1_2) rH qP (λ_=>rfl) λx11=>.ret ((x11.1:Int)))
def M9 (n:Nat) (a1:aA) (a2:Int):Option (Int):=(T4 n a1 a2).run
theorem aXH {n a1 a2 r} (h0:M9 n a1 a2=some r):PP Tryz.prog 140 [.agg (aA.av a1),int a2] (λy=>y=int r) :=
 bU mixed bR (λr:Int=>int r) h0 Tryz.func140 (λr=>bT r) 100000 au
def aBV (n:Nat) (a1:aA) (a2:Int):WT Tryz.prog (.b (Bool)) :=
 .al 1<|.jn 0 [] [] [] (λ_ (a:Bool)=>[(4,aT a)]) (λ_ _=>[]) (.dr [(0,[1]),(4,[1]),(7,[1]),(8,[1])] [] [1] [] [0,1,2,3,4,5,6,7,8,9,10,11,12,13,14,15,16,17] (.cl 7 (tY a1 a2) zK BC λx4=>.ifs [7] x4 (.cl 11 (M9 n a1 a2) aLZ aXH λx5=>.iF 15 aQ.av gE aQ.fF a1.bD a2 λx6=>.ix 18 fI x6.dR 0 λx7=>.bB 20 (decide (x5=x7)) λx8=>.ret x8) (.ret false))) (λy0_1=>.ret ((y0_1:Bool)))
def EZ (n:Nat) (a1:aA) (a2:Int):Option (Bool):=(aBV n a1 a2).run
theorem aKI {n a1 a2 r} (h0:EZ n a1 a2=some r):PP Tryz.prog 80 [.agg (aA.av a1),int a2] (λy=>y=aT r) :=
 bU mixed bR (λr:Bool=>aT r) h0 Tryz.func80 (λr=>gF r) 100000 au
def TZ (n:Nat) (a1:aA) (a2:Int):WT Tryz.prog (.b (Bool)) :=
 .al 1<|.jn 2 [1,2,4] [1] [3] (λu6 (a:(List Int))=>[(5,.sl 3 (u6 3) 0 a.length)]) (λ_ a=>[.nw 3 3 1 (a.map fI)]) (.no 5 3 3 1<|.lp [1,2,4] [1] [3] (λu10 (a:Int×(List Int))=>[(5,.sl 3 (u10 3) 0 a.2.length),(6,int a.1)]) (λ_ a=>[.nw 3 3 1 (a.2.map fI)]) n ((0:Int),(([]:List Int):List Int)) (pw λy0_2 y0_3=>.ln 12 dG.av a1.bY<|.bB 13 (decide (y0_2<(a1.bY.length:Int))) λx5=>.ifs [13] x5 (.jn 1 [1,2,4,6] [1] [3] (λu11 (a:(List Int))=>[(5,.sl 3 (u11 3) 0 a.length)]) (λ_ a=>[.nw 3 3 1 (a.map fI)]) (.ix 19 dG.av a1.bY y0_2 λx6=>.bB 23 (decide (x6.eY=a2)) λx7=>.ifs [23] x7 (.ix 28 dG.av a1.bY y0_2 λx8=>.to 31 (aP 1 fI ([x8.gW]:List Int))<|.bl (y0_3++([x8.gW]:List Int):List Int) λx9=>.as (x9.length<=68719476736) inferInstance<|.ge 32 0<|.ret x9) (.ret y0_3)) (λy1_2=>.bI 15 (bA (y0_2+1)) λx12=>.brk ((x12:Int),y1_2))) (.esc (.ret y0_3)))) (λy2_2=>.kS 35 (nI n y2_2) rH qP (λ_=>rfl) λx13=>.jn 0 [] [] [] (λ_ (a:Bool)=>[(4,aT a)]) (λ_ _=>[]) (.cl 40 (tY a1 a2) zK BC λx14=>.ifs [40] x14 (.bB 43 (decide (x13.2=0)) λx15=>.ifs [43] x15 (.iF 50 aQ.av gE aQ.fF a1.bD a2 λx16=>.ix 53 fI x16.dR 1 λx17=>.bI 55 (bA (0-x17)) λx18=>.bB 56 (decide (x13.1=x18)) λx19=>.ret x19) (.ret false)) (.ret false)) (λy3_1=>.ret ((y3_1:Bool))))
def DR (n:Nat) (a1:aA) (a2:Int):Option (Bool):=(TZ n a1 a2).run
theorem aN1 {n a1 a2 r} (h0:DR n a1 a2=some r):PP Tryz.prog 81 [.agg (aA.av a1),int a2] (λy=>y=aT r) :=
 bU mixed bR (λr:Bool=>aT r) h0 Tryz.func81 (λr=>gF r) 100000 au
def aFP (n:Nat) (a1:aA) (a2:Int):WT Tryz.prog (.b (Bool)) :=
 .al 1<|.jn 2 [1,2,4] [1] [3] (λu6 (a:(List Int))=>[(5,.sl 3 (u6 3) 0 a.length)]) (λ_ a=>[.nw 3 3 1 (a.map fI)]) (.no 5 3 3 1<|.lp [1,2,4] [1] [3] (λu10 (a:Int×(List Int))=>[(5,.sl 3 (u10 3) 0 a.2.length),(6,int a.1)]) (λ_ a=>[.nw 3 3 1 (a.2.map fI)]) n ((0:Int),(([]:List Int):List Int)) (pw λy0_2 y0_3=>.ln 12 fT.av a1.dL<|.bB 13 (decide (y0_2<(a1.dL.length:Int))) λx5=>.ifs [13] x5 (.jn 1 [1,2,4,6] [1] [3] (λu11 (a:(List Int))=>[(5,.sl 3 (u11 3) 0 a.length)]) (λ_ a=>[.nw 3 3 1 (a.map fI)]) (.ix 19 fT.av a1.dL y0_2 λx6=>.bB 23 (decide (x6.To=a2)) λx7=>.ifs [23] x7 (.ix 28 fT.av a1.dL y0_2 λx8=>.to 31 (aP 1 fI ([x8.Value]:List Int))<|.bl (y0_3++([x8.Value]:List Int):List Int) λx9=>.as (x9.length<=68719476736) inferInstance<|.ge 32 0<|.ret x9) (.ret y0_3)) (λy1_2=>.bI 15 (bA (y0_2+1)) λx12=>.brk ((x12:Int),y1_2))) (.esc (.ret y0_3)))) (λy2_2=>.kS 35 (nI n y2_2) rH qP (λ_=>rfl) λx13=>.jn 0 [] [] [] (λ_ (a:Bool)=>[(4,aT a)]) (λ_ _=>[]) (.cl 40 (tY a1 a2) zK BC λx14=>.ifs [40] x14 (.bB 43 (decide (x13.2=0)) λx15=>.ifs [43] x15 (.iF 50 aQ.av gE aQ.fF a1.bD a2 λx16=>.ix 53 fI x16.dR 12 λx17=>.bB 55 (decide (x13.1=x17)) λx18=>.ret x18) (.ret false)) (.ret false)) (λy3_1=>.ret ((y3_1:Bool))))
def EF (n:Nat) (a1:aA) (a2:Int):Option (Bool):=(aFP n a1 a2).run
theorem aOK {n a1 a2 r} (h0:EF n a1 a2=some r):PP Tryz.prog 82 [.agg (aA.av a1),int a2] (λy=>y=aT r) :=
 bU mixed bR (λr:Bool=>aT r) h0 Tryz.func82 (λr=>gF r) 100000 au
def aBA (n:Nat) (a1:aA) (a2:Int):WT Tryz.prog (.b (Bool)) :=
 .al 1<|.cl 9 (tY a1 a2) zK BC λx4=>.bB 10 (!x4) λx5=>.ifs [10] x5 (.ret ((false:Bool))) (.iF 15 aQ.av gE aQ.fF a1.bD a2 λx6=>.cl 18 (nI n x6.Down) rH qP λx7=>.jn 0 [] [] [] (λ_ (a:Bool)=>[(4,aT a)]) (λ_ _=>[]) (.bB 22 (decide (x7.2=0)) λx8=>.ifs [22] x8 (.iF 28 aQ.av gE aQ.fF a1.bD a2 λx9=>.ix 31 fI x9.dR 11 λx10=>.bI 33 (bA (0-x10)) λx11=>.bB 34 (decide (x7.1=x11)) λx12=>.ret x12) (.ret false)) (λy0_1=>.ret ((y0_1:Bool))))
def DU (n:Nat) (a1:aA) (a2:Int):Option (Bool):=(aBA n a1 a2).run
theorem aKU {n a1 a2 r} (h0:DU n a1 a2=some r):PP Tryz.prog 83 [.agg (aA.av a1),int a2] (λy=>y=aT r) :=
 bU mixed bR (λr:Bool=>aT r) h0 Tryz.func83 (λr=>gF r) 100000 au
def U5 (n:Nat) (a1:List Int):WT Tryz.prog (.b (Int×Int×Int)) :=
 .ln 9 fI a1<|.bB 10 (decide ((a1.length:Int)≠17)) λx2=>.ifs [10] x2 (.ret ((0:Int),0,1)) (.fD 3 [2,3,4] [] [] (λ_ (a:Int×Int)=>[(5,int a.1),(6,int a.2)]) (λ_ _=>[]) (.lp [0,2,3,4] [] [] (λ_ (a:Int×Int×Int)=>[(5,int a.1),(6,int a.2.1),(7,int a.2.2)]) (λ_ _=>[]) n ((0:Int),0,0) (pw λy0_1 q0=>(pw λy0_2 y0_3=>.ln 13 fI a1<|.bB 14 (decide (y0_3<(a1.length:Int))) λx3=>.ifs [14] x3 (.fD 1 [0,2,3,4,7] [] [] (λ_ (a:Int×Int)=>[(5,int a.1),(6,int a.2)]) (λ_ _=>[]) (.ix 26 fI a1 y0_3 λx4=>.cl 28 (nU x4) qV rF λx5=>.bB 29 (!x5) λx6=>.ifs [29] x6 (.esc (.esc (.esc (.ret ((0:Int),0,2))))) (.ix 33 fI a1 y0_3 λx7=>.bB 35 (decide (x7>0)) λx8=>.ifs [35] x8 (.ix 39 fI a1 y0_3 λx9=>.bI 41 (bA (y0_1+x9)) λx10=>.brk ((x10:Int),y0_2)) (.ix 20 fI a1 y0_3 λx11=>.bI 22 (bA (y0_2-x11)) λx12=>.brk ((y0_1:Int),x12)))) (pw λy1_1 y1_2=>.bI 16 (bA (y0_3+1)) λx13=>.brk ((y1_1:Int),y1_2,x13))) (.esc (.brk ((y0_1:Int),y0_2)))) q0)) (pw λy2_1 y2_2=>.ret ((y2_1:Int),y2_2,0)))
def ME (n:Nat) (a1:List Int):Option (Int×Int×Int):=(U5 n a1).run
theorem aVQ {n a1 r} (h0:ME n a1=some r):PP Tryz.prog 142 [aP 1 fI a1] (λy=>y=.bC [int r.1,int r.2.1,int r.2.2]) :=
 bU mixed bR (λr:Int×Int×Int=>.bC [int r.1,int r.2.1,int r.2.2]) h0 Tryz.func142 (λr=>.bC (nM (bT (r.1)) (bT (r.2.1)) (bT (r.2.2)))) 100000 au
def aB9 (n:Nat) (a1:aA) (a2:Int):WT Tryz.prog (.b (Bool)) :=
 .al 1<|.cl 10 (tY a1 a2) zK BC λx4=>.bB 11 (!x4) λx5=>.ifs [11] x5 (.ret ((false:Bool))) (.iF 16 aQ.av gE aQ.fF a1.bD a2 λx6=>.cl 19 (ME n x6.dR) aOU aVQ λx7=>.jn 0 [] [] [] (λ_ (a:Bool)=>[(4,aT a)]) (λ_ _=>[]) (.bB 24 (decide (x7.2.2=0)) λx8=>.ifs [24] x8 (.bB 28 (decide (x7.1=x7.2.1)) λx9=>.ret x9) (.ret false)) (λy0_1=>.ret ((y0_1:Bool))))
def E8 (n:Nat) (a1:aA) (a2:Int):Option (Bool):=(aB9 n a1 a2).run
theorem aHV {n a1 a2 r} (h0:E8 n a1 a2=some r):PP Tryz.prog 84 [.agg (aA.av a1),int a2] (λy=>y=aT r) :=
 bU mixed bR (λr:Bool=>aT r) h0 Tryz.func84 (λr=>gF r) 100000 au
def YU (n:Nat) (a1:aA) (a2:Int) (a3:Int):WT Tryz.prog (.b (Bool)) :=
 .al 1<|.jn 0 [1,2,3,6] [1] [] (λ_ (a:Bool)=>[(28,aT a)]) (λ_ _=>[]) (.cl 12 (tY a1 a2) zK BC λx5=>.bB 13 (!x5) λx6=>.ifs [13] x6 (.ret true) (.bB 16 (decide (a3<0)) λx7=>.ifs [16] x7 (.ret true) (.iF 23 aQ.av gE aQ.fF a1.bD a2 λx8=>.ln 26 cO.av x8.dQ<|.bB 27 (decide (a3>=(x8.dQ.length:Int))) λx9=>.ret x9))) (λy0_1=>.ifs [28] y0_1 (.ret ((false:Bool))) (.iF 32 aQ.av gE aQ.fF a1.bD a2 λx10=>.ix 36 cO.av x10.dQ a3 λx11=>.al 2<|.bI 42 (bA (x11.Open+x11.iW)) λx13=>.bI 45 (bA (x13+x11.jH)) λx14=>.bI 48 (bA (x14+x11.jG)) λx15=>.bI 51 (bA (x15+x11.iY)) λx16=>.bI 54 (bA (x16+x11.jB)) λx17=>.bI 59 (bA (x11.jF+x11.jE)) λx18=>.bI 62 (bA (x18+x11.iX)) λx19=>.bI 65 (bA (x19+x11.jC)) λx20=>.bI 68 (bA (x20+x11.jD)) λx21=>.bI 71 (bA (x17-x21)) λx22=>.cl 75 (wF n a1 a2 a3) KM LG λx23=>.bB 77 (decide (x22=x23.Value)) λx24=>.ret ((x24:Bool))))
def DN (n:Nat) (a1:aA) (a2:Int) (a3:Int):Option (Bool):=(YU n a1 a2 a3).run
theorem aXD {n a1 a2 a3 r} (h0:DN n a1 a2 a3=some r):PP Tryz.prog 85 [.agg (aA.av a1),int a2,int a3] (λy=>y=aT r) :=
 bU mixed bR (λr:Bool=>aT r) h0 Tryz.func85 (λr=>gF r) 100000 au
def TX (n:Nat) (a1:aA):WT Tryz.prog (.b (Bool)) :=
 .al 1<|.jn 0 [1,2] [1] [] (λ_ (a:Bool)=>[(12,aT a)]) (λ_ _=>[]) (.cl 6 (F7 n a1) aU0 aWU λx3=>.bB 7 (!x3) λx4=>.ifs [7] x4 (.ret true) (.cl 10 (CW n a1) aTN aXT λx5=>.bB 11 (!x5) λx6=>.ret x6)) (λy0_1=>.ifs [12] y0_1 (.ret ((false:Bool))) (.fD 2 [2] [] [] (λ_ (a:Unit)=>[]) (λ_ _=>[]) (.lp [1,2] [1] [] (λ_ (a:Int)=>[(3,int a)]) (λ_ _=>[]) n 0 (λy1_1=>.ln 16 aQ.av a1.bD<|.bB 17 (decide (y1_1<(a1.bD.length:Int))) λx7=>.ifs [17] x7 (.fD 1 [1,2,3] [1] [] (λ_ (a:Unit)=>[]) (λ_ _=>[]) (.jn 1 [1,2,3] [1] [] (λ_ (a:Bool)=>[(47,aT a)]) (λ_ _=>[]) (.cl 22 (EZ n a1 y1_1) aPC aKI λx8=>.bB 23 (!x8) λx9=>.ifs [23] x9 (.ret true) (.cl 27 (DR n a1 y1_1) aG2 aN1 λx10=>.bB 28 (!x10) λx11=>.ifs [28] x11 (.ret true) (.cl 33 (EF n a1 y1_1) aVR aOK λx12=>.bB 34 (!x12) λx13=>.ifs [34] x13 (.ret true) (.cl 39 (DU n a1 y1_1) aLX aKU λx14=>.bB 40 (!x14) λx15=>.ifs [40] x15 (.ret true) (.cl 45 (E8 n a1 y1_1) aO2 aHV λx16=>.bB 46 (!x16) λx17=>.ret x17))))) (λy2_1=>.ifs [47] y2_1 (.esc (.esc (.esc (.ret ((false:Bool)))))) (.fD 2 [1,2,3] [1] [] (λ_ (a:Unit)=>[]) (λ_ _=>[]) (.lp [1,2,3] [1] [] (λ_ (a:Int)=>[(4,int a)]) (λ_ _=>[]) n 0 (λy3_1=>.ln 52 fI a1.bH.bZ<|.bB 53 (decide (y3_1<(a1.bH.bZ.length:Int))) λx18=>.ifs [53] x18 (.cl 59 (DN n a1 y1_1 y3_1) aK5 aXD λx19=>.bB 60 (!x19) λx20=>.ifs [60] x20 (.esc (.esc (.esc (.esc (.esc (.ret ((false:Bool)))))))) (.bI 55 (bA (y3_1+1)) λx21=>.brk x21)) (.esc (.brk ())))) (λ_=>.brk ())))) (λ_=>.bI 19 (bA (y1_1+1)) λx22=>.brk x22)) (.esc (.brk ())))) (λ_=>.ret ((true:Bool)))))
def B8 (n:Nat) (a1:aA):Option (Bool):=(TX n a1).run
theorem UJ {n a1 r} (h0:B8 n a1=some r):PP Tryz.prog 43 [.agg (aA.av a1)] (λy=>y=aT r) :=
 bU mixed bR (λr:Bool=>aT r) h0 Tryz.func43 (λr=>gF r) 100000 au
def aAW (n:Nat) (a1:aA) (a2:bK):WT Tryz.prog (.b (Bool)) :=
 .al 1<|.al 2<|.cl 12 (yU n a1 a2) PW QT λx5=>.al 3<|.cl 18 (qT n a1 a2) VH YD λx7=>.al 4<|.jn 0 [] [] [] (λ_ (a:Bool)=>[(4,aT a)]) (λ_ _=>[]) (.cl 23 (yZ n x5.1 x7.1) aFW aFD λx9=>.ifs [23] x9 (.bB 27 (decide (x5.2=x7.2)) λx10=>.ifs [27] x10 (.bB 31 (decide (x5.2=0)) λx11=>.ifs [31] x11 (.cl 40 (B8 n x5.1) aAE UJ λx12=>.ret x12) (.cl 35 (yZ n x5.1 a1) aFW aFD λx13=>.ifs [35] x13 (.cl 40 (B8 n x5.1) aAE UJ λx14=>.ret x14) (.ret false))) (.ret false)) (.ret false)) (λy0_1=>.ret ((y0_1:Bool)))
def KZ (n:Nat) (a1:aA) (a2:bK):Option (Bool):=(aAW n a1 a2).run
theorem aTL {n a1 a2 r} (h0:KZ n a1 a2=some r):PP Tryz.prog 16 [.agg (aA.av a1),.agg (bK.av a2)] (λy=>y=aT r) :=
 bU mixed bR (λr:Bool=>aT r) h0 Tryz.func16 (λr=>gF r) 100000 au
def aEO (n:Nat) (a1:Int) (a2:List Int) (a3:List Int):WT Tryz.prog (.b (Bool)) :=
 .cl 12 (MX n a1) aO9 aPM λx4=>.al 1<|.cl 15 (KV n x4 a2) aVK aVX λx6=>.al 2<|.fD 1 [6] [] [] (λ_ (a:Unit)=>[]) (λ_ _=>[]) (.lp [2,6,7,8] [1] [] (λ_ (a:Int×aA)=>[(9,int a.1)]) (λ_ a=>[.kp 2 [(aA.av a.2)]]) n ((0:Int),x6) (pw λy0_1 y0_2=>.jn 0 [2,6,7,8,9] [1,2] [] (λ_ (a:Bool)=>[(23,aT a)]) (λ_ _=>[]) (.ln 18 fI a3<|.bB 19 (decide (y0_1<(a3.length:Int))) λx8=>.ifs [19] x8 (.bB 22 (decide (y0_1<25)) λx9=>.ret x9) (.ret false)) (λy1_1=>.ifs [23] y1_1 (.fD 1 [2,6,7,8,9] [1] [] (λ_ (a:aA)=>[]) (λ_ a=>[.kp 2 [(aA.av a)]]) (.dr [(0,[1])] [(7,[])] [1] [6,7] [0,1,2,3,4,5,6,7] (.ix 29 fI a3 y0_1 λx10=>.cl 31 (LU n x4 x10 9) aG3 aS3 λx11=>.al 3<|.ix 34 fI a3 y0_1 λx13=>.bI 36 (x13.tmod 4) λx14=>.bB 37 (decide (x14=0)) λx15=>.ifs [37] x15 (.dr [(0,[1])] [(6,[])] [1] [6] [0,1,2,3,4,5,6] (.ix 41 fI a3 y0_1 λx16=>.cl 43 (zN x4 x16) PS S7 λx17=>.cl 47 (KJ n y0_2 x17) aRR aJQ λx18=>.brk x18.1)) (.jn 1 [2,6,7,8,9,10] [1,2,3] [] (λ_ (a:Bool)=>[(58,aT a)]) (λ_ _=>[]) (.cl 51 (wI n x11) OW R6 λx19=>.bB 52 (!x19) λx20=>.ifs [52] x20 (.ret true) (.cl 56 (KZ n y0_2 x11) aW4 aTL λx21=>.bB 57 (!x21) λx22=>.ret x22)) (λy2_1=>.ifs [58] y2_1 (.jn 1 [2,7,8,9,10] [1,2,3] [] (λ_ (a:Bool)=>[(6,aT a)]) (λ_ _=>[]) (.cl 60 (wI n x11) OW R6 λx23=>.bB 61 (!x23) λx24=>.ifs [61] x24 (.cl 63 (K7 n) aCK aC0 λx25=>.ret x25) (.ret false)) (λy3_1=>.esc (.esc (.esc (.ret ((y3_1:Bool))))))) (.cl 68 (yU n y0_2 x11) PW QT λx26=>.brk x26.1))))) (λy4_1=>.bI 25 (bA (y0_1+1)) λx27=>.brk ((x27:Int),y4_1))) (.esc (.brk ()))))) (λ_=>.cl 71 (K7 n) aCK aC0 λx28=>.ret ((x28:Bool)))
def aAK (n:Nat) (a1:Int) (a2:List Int) (a3:List Int):Option (Bool):=(aEO n a1 a2 a3).run
theorem aPJ {n a1 a2 a3 r} (h0:aAK n a1 a2 a3=some r):PP Tryz.prog 4 [int a1,aP 1 fI a2,aP 1 fI a3] (λy=>y=aT r) :=
 bU mixed bR (λr:Bool=>aT r) h0 Tryz.func4 (λr=>gF r) 100000 au
def aA9 (a1:aB):WT Tryz.prog (.b (Bool)) :=
 .al 1<|.jn 0 [] [] [] (λ_ (a:Bool)=>[(2,aT a)]) (λ_ _=>[]) (.bB 5 (decide (a1.aG<1)) λx3=>.ifs [5] x3 (.ret true) (.bB 9 (decide (a1.aG>288230376151711744)) λx4=>.ifs [9] x4 (.ret true) (.bB 14 (decide (a1.Value<0)) λx5=>.ifs [14] x5 (.ret true) (.bB 19 (decide (a1.Value>288230376151711744)) λx6=>.ifs [19] x6 (.ret true) (.bB 24 (decide (a1.bO<(-288230376151711744))) λx7=>.ifs [24] x7 (.ret true) (.bB 29 (decide (a1.bO>288230376151711744)) λx8=>.ret x8)))))) (λy0_1=>.ret ((y0_1:Bool)))
def KO (a1:aB):Option (Bool):=(aA9 a1).run
theorem aVU {a1 r} (h0:KO a1=some r):PP Tryz.prog 277 [.agg (aB.av a1)] (λy=>y=aT r) :=
 bU mixed bR (λr:Bool=>aT r) h0 Tryz.func277 (λr=>gF r) 100000 au
end
end Go.Pv
