import Derived.Test.YtmokiknakhhhdaaGreatPwF
import Derived.Test.YtmokiknakhhhdaaGreatP56
import Derived.Test.YtmokiknakhhhdaaGreatP67
set_option linter.unusedVariables false
set_option linter.unusedSimpArgs false
namespace Go.Pv
def Ex {β:Type} (P:β->Prop) (D:Option β):Prop:=∃ r,D=some r/\P r
theorem iV {α β:Type} {P:β->Prop} {x:α} {f:α->Option β} (h:Ex P (f x)):Ex P (bnd x f):=h
theorem ZU {β:Type} {P:β->Prop} {c:Bool} {a b:Option β} (h1:c=true->Ex P a) (h2:c=false->Ex P b):Ex P (cond c a b):=by cases c;exact h2 rfl;exact h1 rfl
theorem pX {β:Type} {P:β->Prop} {p:Prop} [Decidable p] {k:Option β} (hp:p) (h:Ex P k):Ex P (bU p k):=by unfold bU;rw [if_pos hp];exact h
theorem dP {α β:Type} {P:β->Prop} (Q:α->Prop) {x:Option α} {f:α->Option β} (h1:Ex Q x) (h2:∀ a,Q a->Ex P (f a)):Ex P (x.bind f):=by
  obtain ⟨a,e,hq⟩:=h1;subst e;exact h2 a hq
theorem HV {α β:Type} {P:β->Prop} {l:List α} {i:Int} {f:α->Option β} (h0:0<=i) (h1:i<(l.length:Int)) (h2:∀ a,l[i.toNat]?=some a->Ex P (f a)):Ex P ((ix l i).bind f):=by
  have hl:i.toNat<l.length:=by omega
  have e:l[i.toNat]?=some l[i.toNat]:=List.getElem?_eq_getElem hl
  obtain ⟨r,h3,h4⟩:=h2 _ e
  exact ⟨r,kC h0 e h3,h4⟩
theorem TK {α β γ:Type} {P:γ->Prop} {f:α->β->Option γ} {q:α×β} (h:Ex P (f q.1 q.2)):Ex P (p2 f q):=h
theorem fM {α:Type} {P:α->Prop} {a:α} (h:P a):Ex P (some a):=⟨a,rfl,h⟩
theorem x_w {β:Type} {P:β->Prop} {x:Int} {f:Int->Option β} (hx:-9223372036854775808<=x/\x<=9223372036854775807) (h:Ex P (f x)):Ex P (bnd (bM x) f):=by
  obtain ⟨r,e,hp⟩:=h;exact ⟨r,vN hx e,hp⟩
theorem WG {β:Type} {P Q:β->Prop} {D:Option β} (h:Ex P D) (hq:∀ r,P r->Q r):Ex Q D:=by obtain ⟨r,e,p⟩:=h;exact ⟨r,e,hq r p⟩
theorem WR {α β:Type} {P:β->Prop} {f:α->Option β} {r:α⊕β} (h1:∀ a,r=.inl a->Ex P (f a)) (h2:∀ b,r=.inr b->P b):Ex P (sel f r):=by
  cases r with
  | inl a=>exact h1 a rfl
  | inr b=>exact ⟨b,rfl,h2 b rfl⟩
theorem I8 {V J:Type} {P:J->Prop} {f:V->Option (V⊕J)} (I:V->Prop) (μ:V->Nat)
    (hs:∀ v,I v->Ex (λr=>match r with | .inl v'=>I v'/\μ v' < μ v | .inr j=>P j) (f v)):∀ {n:Nat} {v:V},I v->μ v<n->Ex P (iter f n v)
  | 0,v,_,hn=>absurd hn (Nat.not_lt_zero _)
  | n+1,v,hv,hn=>by
    show Ex P ((f v).bind (sel λv'=>iter f n v'))
    refine dP _ (hs v hv) λr hr=>WR (λa e=>?_) (λb e=>?_)
    · subst e;exact I8 I μ hs hr.1 (by have:=hr.2;omega)
    · subst e;exact hr
theorem vL {α β:Type} {P:α⊕β->Prop} {x:Option β} (h:Ex (λb=>P (.inr b)) x):Ex P (esc x):=by obtain ⟨r,e,p⟩:=h;subst e;exact ⟨_,rfl,p⟩
theorem zT {α β:Type} {P:α⊕β->Prop} {a:α} (h:P (.inl a)):Ex P (brk a:Option (α⊕β)):=⟨_,rfl,h⟩
theorem xX {β:Type} {P:β->Prop} {p:Prop} {_:Decidable p} {a b:Option β} (h1:p->Ex P a) (h2:¬p->Ex P b):Ex P (cond (decide p) a b):=by
  by_cases h:p
  · rw [decide_eq_true h];exact h1 h
  · rw [decide_eq_false h];exact h2 h
theorem UP {β:Type} {P:β->Prop} {c:Bool} {a b:Option β} (h1:c=false->Ex P a) (h2:c=true->Ex P b):Ex P (cond (!c) a b):=by cases c;exact h1 rfl;exact h2 rfl
theorem RD {α γ β:Type} {P:β->Prop} {x:γ} {g:γ->Option α} {f:α->Option β} (h:Ex P ((g x).bind f)):Ex P ((bnd x g).bind f):=h
theorem ZS {α β:Type} {P:β->Prop} {x:Int} {g:Int->Option α} {f:α->Option β} (hx:-9223372036854775808<=x/\x<=9223372036854775807) (h:Ex P ((g x).bind f)):Ex P ((bnd (bM x) g).bind f):=by
  obtain ⟨r,e,p⟩:=h;have k:bM x=x:=wrap64 hx
  exact ⟨r,by rw [<- e];show Option.bind (g (bM x)) f=_;rw [k],p⟩
theorem U6 {α β:Type} {P:β->Prop} {c:Bool} {x y:Option α} {f:α->Option β} (h:Ex P (cond c (x.bind f) (y.bind f))):Ex P ((cond c x y).bind f):=by cases c;exact h;exact h
theorem Y9 {α β:Type} {P:β->Prop} {a:α} {f:α->Option β} (h:Ex P (f a)):Ex P ((some a).bind f):=h
theorem YL {α γ β:Type} {P:β->Prop} {x:Option γ} {g:γ->Option α} {f:α->Option β} (h:Ex P (x.bind λa=>(g a).bind f)):Ex P ((x.bind g).bind f):=by cases x;exact h;exact h
theorem PK {α γ δ β:Type} {P:β->Prop} {g:γ->δ->Option α} {q:γ×δ} {f:α->Option β} (h:Ex P ((g q.1 q.2).bind f)):Ex P ((p2 g q).bind f):=h
theorem YU {α β:Type} {P:β->Prop} {p:Prop} [Decidable p] {k:Option α} {f:α->Option β} (h:Ex P (bU p (k.bind f))):Ex P ((bU p k).bind f):=by
  unfold bU at h ⊢
  by_cases hp:p
  · rw [if_pos hp] at h ⊢;exact h
  · rw [if_neg hp] at h;obtain ⟨r,e,_⟩:=h;cases e
theorem PT {α β:Type} {P:β->Prop} {x:Option β} {f:α->Option β} (h:Ex P x):Ex P ((esc x:Option (α⊕β)).bind (sel f)):=by obtain ⟨r,e,p⟩:=h;subst e;exact ⟨_,rfl,p⟩
theorem P4 {α β:Type} {P:β->Prop} {a:α} {f:α->Option β} (h:Ex P (f a)):Ex P ((brk a:Option (α⊕β)).bind (sel f)):=h
theorem Q5 {α β:Type} {P:β->Prop} {f:α->Option β} {a:α} (h:Ex P (f a)):Ex P (sel f (.inl a)):=h
theorem NM {β:Type} {P:β->Prop} {x:Int} {f:Int->Option β} (h:Ex P (f x)) (hx:-9223372036854775808<=x/\x<=9223372036854775807:=by first | omega | (simp only;omega)):Ex P (bnd (bM x) f):=x_w hx h
theorem UO {α β:Type} {P:β->Prop} {x:Int} {g:Int->Option α} {f:α->Option β} (h:Ex P ((g x).bind f)) (hx:-9223372036854775808<=x/\x<=9223372036854775807:=by first | omega | (simp only;omega)):Ex P ((bnd (bM x) g).bind f):=ZS hx h
theorem lX {β:Type} {P:β->Prop} {p:Prop} {_:Decidable p} {k:Option β} (h:Ex P k) (hp:p:=by first | omega | (simp only [List.length_append,List.length_cons,List.length_nil,List.length_set];omega) | (simp;omega)):Ex P (bU p k):=pX hp h
open Go.Proofs
set_option maxRecDepth 100000
set_option maxHeartbeats 4000000
def m1:eU:=⟨1,1,[1],[[2]],[[0]]⟩
def e1 (p:Int):bC:=⟨1,false,[⟨[],⟨0,0,0⟩⟩,⟨[],⟨0,0,0⟩⟩],List.replicate 17 0,[⟨0,0,0,0,0,0,0,0,0,0,0⟩],[p],[0],[]⟩
def S1 (p d:Int):bD:=⟨m1,[e1 p],[],[],[],d⟩
def o1 (j:Int):aF:=⟨10,0,0,0,0,0,j,0,[]⟩
theorem aKX:C4 1500 m1=some (S1 (-1) 0,0):=by kernel_rfl
theorem MP {n:Nat} {j:Int} (h:0<=j/\j<=1000):dL n (o1 j)=some true:=by
  unfold o1;rw [AT,show decide (j<0)=false from decide_eq_false (by omega),show decide (j>1073741824)=false from decide_eq_false (by omega)];rfl
theorem aOD {p d j:Int}:I6 (S1 p d) (o1 j)=some (S1 j d,0):=by kernel_rfl
theorem aEP {n:Nat} {p d j:Int} (h:0<=j/\j<=1000):DU n (S1 p d) (o1 j)=some (S1 j (if 288230376151711744<bM (d+1) then 288230376151711744 else bM (d+1)),0):=by
  unfold DU PL;simp only [WT.run,jT,MP h,aOD];rfl
theorem stp {n:Nat} {p d j:Int} (hd:0<=d/\d<=400) (h:0<=j/\j<=1000):vY n (S1 p d) (o1 j)=some (S1 j (d+1),0):=by
  have e:(if 288230376151711744<bM (d+1) then 288230376151711744 else bM (d+1))=d+1:=by rw [show bM (d+1)=d+1 from wrap64 (by omega),if_neg (by omega)]
  unfold vY YQ;simp only [WT.run,jT,MP h,aEP h,e];rfl
def ol (i c:Nat):List aF:=(List.range' i c).map λ(k:Nat)=>o1 (k:Int)
theorem Q8 {n:Nat}:∀ (c i:Nat) (e:List Int),i+c<=400->rE (vY n) (ol i c) (S1 ((i:Int)-1) i) e=some (S1 (((i+c:Nat):Int)-1) ((i+c:Nat):Int),e++List.replicate c 0)
  | 0,i,e,_=>by simp [ol,rE]
  | c+1,i,e,h=>by
    show (vY n (S1 ((i:Int)-1) i) (o1 (i:Int))).bind (λx=>rE (vY n) (ol (i+1) c) x.1 (e++[x.2]))=_
    rw [stp (by omega) (by omega)]
    have:=Q8 (n:=n) c (i+1) (e++[0]) (by omega)
    rw [show (((i+1:Nat):Int)-1)=(i:Int) by omega,show ((i+1:Nat):Int)=(i:Int)+1 by omega] at this
    show rE (vY n) (ol (i+1) c) (S1 (i:Int) ((i:Int)+1)) (e++[0])=_
    rw [this,show i+1+c=i+(c+1) by omega,List.append_assoc];rfl
theorem NF (i c:Nat):(ol i c).length=c:=by simp [ol]
theorem aJR (k:Nat):(ol 0 k).take 400=ol 0 (min k 400):=by
  unfold ol;rw [<- List.map_take]
  congr 1
  rcases Nat.le_total k 400 with h | h
  · rw [Nat.min_eq_left h,List.take_of_length_le (by simp;omega)]
  · rw [Nat.min_eq_right h]
    obtain ⟨d,rfl⟩:∃ d,k=400+d:=⟨k-400,by omega⟩
    rw [<- List.range'_append (s:=0) (m:=400) (n:=d) (step:=1),List.take_left' (by simp)]
theorem OR {k:Nat}:yR 1500 m1 (ol 0 k)=some (S1 (((min k 400:Nat):Int)-1) ((min k 400:Nat):Int),List.replicate (min k 400) 0,0):=by
  have h:=Q8 (n:=1500) (min k 400) 0 [] (by omega)
  rw [<- aJR] at h
  have h':CW 1500 (S1 (-1) 0) (ol 0 k)=some (S1 (((min k 400:Nat):Int)-1) ((min k 400:Nat):Int),List.replicate (min k 400) 0):=by
    unfold CW;simpa using h
  unfold yR QH;simp only [WT.run,jT]
  exact eD aKX (oV (l6 rfl (eD h' rfl)))
theorem MB {k:Nat} (hk:k<=900) {o:aF} (h:o∈ol 0 k):∃ j:Int,(0<=j/\j<=1000)/\o=o1 j:=by
  obtain ⟨j,hj,rfl⟩:=List.mem_map.1 h
  have:=(List.mem_range'_1.1 hj).2
  exact ⟨j,by omega,rfl⟩
theorem WS {j:Int} (h:0<=j/\j<=1000):kZ (o1 j)=true:=by unfold kZ;rw [MP h];rfl
theorem aHF {j:Int} (h:0<=j/\j<=1000):Fits (o1 j):=R3 (show (0:Nat)<=1000000 by decide) (WS h)
theorem aJM {j:Int}:zN (o1 j)/\(o1 j).bT.length<=100:=⟨show (0:Nat)<=1000000 by decide,show (0:Nat)<=100 by decide⟩
theorem aNK {j:Int} (h:0<=j/\j<=1000):(gL (o1 j)).length<=44:=by
  have e (v:Int):(enc v).length<=11:=by have:=pV v;omega
  have e2:∀ c:UInt8,c≠115->(mX (o1 j) c).length<=11:=λc hc=>by unfold mX;rw [if_neg hc];exact e _
  have h1:=e 10;have h2:=e2 101 (by decide);have h3:=e2 105 (by decide);have h4:=e2 97 (by decide)
  show (enc 10++(mX (o1 j) 101++(mX (o1 j) 105++(mX (o1 j) 97++[])))).length<=44
  simp only [List.length_append,List.length_nil];omega
theorem aHJ {k:Nat} (hk:k<=400):∃ b,rJ 1500 (ol 0 k)=some b/\wQ 1500 b=some (ol 0 k,0):=by
  have ho:∀ o∈ol 0 k,kZ o=true/\Fits o:=λo h=>by obtain ⟨j,hj,rfl⟩:=MB (by omega) h;exact ⟨WS hj,aHF hj⟩
  have ha:ME (ol 0 k):=λo h=>by obtain ⟨j,hj,rfl⟩:=MB (by omega) h;exact aJM
  have hl:=NF 0 k
  have hb:rJ 1500 (ol 0 k)=some (zQ (ol 0 k)):=aEH ha (by omega) (by omega)
  refine ⟨_,hb,?_⟩
  rw [aB6 λo h=>(ho o h).1]
  have hlen:(enc ((ol 0 k).length:Int)++(ol 0 k).flatMap gL).length<=131072:=by
    have h1:∀ l:List aF,(∀ o∈l,∃ j:Int,(0<=j/\j<=1000)/\o=o1 j)->(l.flatMap gL).length<=44*l.length:=λl=>by
      induction l with
      | nil=>intro _;simp
      | cons o l ih =>
        intro h
        obtain ⟨j,hj,rfl⟩:=h o (List.mem_cons_self ..)
        have:=ih λo' h'=>h o' (List.mem_cons_of_mem _ h')
        have:=aNK hj
        simp only [List.flatMap_cons,List.length_append,List.length_cons];omega
    have:=h1 (ol 0 k) λo h=>MB (k:=k) (by omega) h
    have h2:=pV ((ol 0 k).length:Int)
    rw [List.length_append];omega
  rw [aBC hlen (show 601<=1500 by omega)]
  have:=aKQ (by omega) ho []
  rw [List.append_nil] at this
  rw [this];rfl
theorem aEO {k:Nat} (h1:400<k) (h2:k<=900):rJ 1500 (ol 0 k)=some []:=by
  unfold rJ
  exact jF (by rw [NF];omega) rfl
theorem aII:wQ 1500 []=some ([],3):=by kernel_rfl
theorem D5 {β:Type} {D:Option β} {x:β} (h:Ex (λr=>r=x) D):D=some x:=by obtain ⟨r,e,rfl⟩:=h;exact e
theorem aJE {α:Type} {l:List α} {i:Nat} {x:α} (h:l[i]?=some x):x∈l:=List.mem_of_getElem? h
theorem drop_at {α:Type} {l:List α} {i:Int} {x:α} (h:l[i.toNat]?=some x):i.toNat<l.length/\l.drop i.toNat=x :: l.drop (i.toNat+1):=by
  obtain ⟨h1,h2⟩:=List.getElem?_eq_some_iff.1 h
  exact ⟨h1,by rw [List.drop_eq_getElem_cons h1,h2]⟩
theorem JK {V J:Type} {P:J->Prop} {f:V->Option (V⊕J)} {v0:V} {n m:Nat} (at':V->Int) (I:V->Prop) (h0:0<=at' v0/\at' v0<=m/\I v0) (hn:m<n)
    (hs:∀ v,0<=at' v->at' v<=m->I v->Ex (λr=>match r with | .inl v'=>at' v<m/\at' v'=at' v+1/\I v' | .inr j=>P j) (f v)):Ex P (iter f n v0):=by
  refine I8 (λv=>0<=at' v/\at' v<=m/\I v) (λv=>(m-at' v).toNat) (λv hv=>?_) h0 (by omega)
  refine WG (hs v hv.1 hv.2.1 hv.2.2) λr hr=>?_
  cases r with
  | inl v'=>obtain ⟨h1,h2,h3⟩:=hr;exact ⟨⟨by omega,by omega,h3⟩,by omega⟩
  | inr j=>exact hr
theorem aLP (a b c:Int):lH a b c=some (decide (b<=a/\a<=c)):=by
  refine D5 ?_
  unfold lH YD
  simp only [WT.run,jT]
  repeat' with_reducible first | refine NM ?_ | refine UO ?_ | apply iV | apply TK | apply RD | apply PK | apply Y9 | apply PT | apply P4 | apply YL | apply U6 | apply YU | refine xX (λ_=>?_) λ_=>?_ | refine UP (λ_=>?_) λ_=>?_ | apply x_cT | apply x_cF | apply Q5 | apply vL | apply fM
  · exact decide_eq_decide.2 (by omega)
  · exact (decide_eq_false (by omega)).symm
theorem aOP {p:Prop} [Decidable p]:(!decide p)=true↔¬p:=by rw [Bool.not_eq_true',decide_eq_false_iff_not]
theorem aHQ {l:List Int} {lo:Int} {n:Nat} (hn:66<n) (hl:l.length<=60):Ex (λr=>r=true↔∀ y∈l,lo<=y/\y<=288230376151711744) (oF n lo l):=by
  unfold oF SH
  simp only [WT.run,jT,aLP,Option.bind_some]
  refine dP (λ(b:Bool)=>b=true↔¬ ∀ y∈l,lo<=y/\y<=288230376151711744) (dP (λ(v:Int)=>(v=-1/\∀ y∈l,lo<=y/\y<=288230376151711744)\/(0<=v/\¬ ∀ y∈l,lo<=y/\y<=288230376151711744)) ?_ λv hv=>?_) λb hb=>iV (fM ?_)
  · refine dP (λ(r:Unit⊕Int)=>match r with | .inl _=>∀ y∈l,lo<=y/\y<=288230376151711744 | .inr v=>0<=v/\¬ ∀ y∈l,lo<=y/\y<=288230376151711744) (I8 (λ(i:Int)=>0<=i/\i<=(l.length:Int)/\((∀ y∈l.drop i.toNat,lo<=y/\y<=288230376151711744)->∀ y∈l,lo<=y/\y<=288230376151711744)) (λ(i:Int)=>l.length-i.toNat) ?_ (v:=0) ⟨by simp,by simp,by simp⟩ (by simp;omega)) λr hr=>WR (λu e=>fM (.inl ⟨rfl,by subst e;exact hr⟩)) λv e=>by subst e;exact .inr hr
    rintro i ⟨h0,h1,h2⟩
    refine iV (xX (λh=>HV h0 h λx hx=>?_) λh=>vL (zT (h2 λy hy=>by rw [List.drop_eq_nil_of_le (by omega)] at hy;cases hy)))
    have hx:l[i.toNat]?=some x:=hx
    refine dP (λ(b:Bool)=>b=true↔¬ (lo<=x/\x<=288230376151711744)) (iV (fM aOP)) λb hb=>ZU (λkb=>vL (vL (fM ⟨h0,λhh=>hb.1 kb (hh x (aJE hx))⟩))) λkb=>?_
    have hin:lo<=x/\x<=288230376151711744:=by
      by_cases hc:lo<=x/\x<=288230376151711744
      · exact hc
      · rw [hb.2 hc] at kb;cases kb
    refine NM (zT ⟨⟨by omega,by omega,λhh=>h2 λy hy=>?_⟩,by omega⟩)
    rw [(drop_at hx).2] at hy
    rcases List.mem_cons.1 hy with rfl | hy
    · exact hin
    · exact hh y (by rw [show (i+1).toNat=i.toNat+1 by omega];exact hy)
  · refine iV (fM ?_)
    rcases hv with ⟨rfl,hv⟩ | ⟨h1,h2⟩
    · exact ⟨λk=>by simp at k,λk=>absurd hv k⟩
    · exact ⟨λ_=>h2,λ_=>decide_eq_true h1⟩
  · cases b with
    | true=>exact ⟨(λk=>nomatch k),λk=>absurd k (hb.1 rfl)⟩
    | false=>exact ⟨λ_=>by
        by_cases hc:∀ y∈l,lo<=y/\y<=288230376151711744
        · exact hc
        · exact absurd (hb.2 hc) (by simp),λ_=>rfl⟩
theorem U9 {l:List Int} {lo:Int} {n:Nat} (hn:66<n) (hl:l.length<=60) (h:∀ y∈l,lo<=y/\y<=288230376151711744):oF n lo l=some true:=D5 (WG (aHQ hn hl) λr hr=>hr.2 h)
theorem Z8 {p:Int} (h:-1<=p/\p<=1000):zS 1500 m1 0 (e1 p)=some true:=by
  refine D5 ?_
  rw [show (1500:Nat)=1499+1 from rfl,aJJ]
  have hp:oF 1499 (-1) (e1 p).gW=some true:=U9 (by omega) (by simp [e1]) λy hy=>by
    have hy:y∈[p]:=hy
    rw [List.mem_singleton.1 hy];omega
  unfold KL;simp only [WT.run,jT,hp]
  exact ⟨true,by kernel_rfl,rfl⟩
theorem aIO {p d:Int} (h:-1<=p/\p<=1000) (hd:0<=d/\d<=1000):EH 1500 (S1 p d)=some true:=by
  refine D5 ?_
  have h1:oF 1500 0 [(S1 p d).Done]=some true:=U9 (by omega) (by simp) λy hy=>by
    have hy:y∈[d]:=hy
    rw [List.mem_singleton.1 hy];omega
  have h2:=Z8 h
  unfold EH OY;simp only [WT.run,jT,h1]
  refine dP (λy=>y=false) ⟨false,by kernel_rfl,rfl⟩ λy hy=>?_
  subst hy
  refine pX rfl (dP (λ_=>True) (JK (m:=1) (λv=>v) (λ_=>True) ⟨by omega,by omega,trivial⟩ (by omega) λv h3 h4 _=>iV (xX (λhlt=>?_) λ_=>vL (fM trivial))) λ_ _=>⟨true,by kernel_rfl,rfl⟩)
  have hlt:v<1:=hlt
  obtain rfl:v=0:=by omega
  exact dP (λx=>x=e1 p) ⟨_,rfl,rfl⟩ λx hx=>by
    subst hx
    exact dP (λb=>b=true) ⟨true,h2,rfl⟩ λb hb=>by
      subst hb
      exact iV (pX rfl (iV (zT ⟨by omega,rfl,trivial⟩)))
end Go.Pv
