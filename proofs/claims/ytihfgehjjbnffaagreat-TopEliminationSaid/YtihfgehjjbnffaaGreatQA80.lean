import Derived.Test.YtihfgehjjbnffaaGreatXUl
import Derived.Test.YtihfgehjjbnffaaGreatPvAG
import Derived.Test.YtihfgehjjbnffaaGreatPwI
set_option linter.unusedVariables false
set_option linter.unusedSimpArgs false
namespace Go.Pv
section
variable {α β γ δ R:Type}
theorem DF {x:α} {f:α->Option β} {r:Option β} (h:f x=r):bnd x f=r:=h
theorem H6 {x:Int} {f:Int->Option β} {r:Option β} (hx:-9223372036854775808<=x/\x<=9223372036854775807) (h:f x=r):bnd (bA x) f=r:=by
  show f (bA x)=r
  rw [show bA x=x from wrap64 hx];exact h
theorem zN {p:Prop} [Decidable p] {f:Bool->Option β} {r:Option β} (hp:p) (h:f true=r):bnd (decide p) f=r:=by
  show f (decide p)=r
  rw [decide_eq_true hp];exact h
theorem rY {p:Prop} [Decidable p] {f:Bool->Option β} {r:Option β} (hp:¬ p) (h:f false=r):bnd (decide p) f=r:=by
  show f (decide p)=r
  rw [decide_eq_false hp];exact h
theorem zZ {a b:Option β} {r:Option β} (h:a=r):cond true a b=r:=h
theorem rO {a b:Option β} {r:Option β} (h:b=r):cond false a b=r:=h
theorem wN {p:Prop} [Decidable p] {k r:Option β} (hp:p) (h:k=r):gZ p k=r:=by unfold gZ;rw [if_pos hp];exact h
theorem xV {x:Option α} {f:α->Option β} {a:α} {r:Option β} (hx:x=some a) (h:f a=r):x.bind f=r:=by rw [hx];exact h
theorem VO {l:List α} {i:Int} {v:α} {f:α->Option β} {r:Option β} (h0:0<=i) (hl:l[i.toNat]?=some v) (h:f v=r):(ix l i).bind f=r:=by
  unfold ix;rw [if_neg (by omega),hl];exact h
theorem zB {x:Int} {f:Int->Option β} {r:Option β} (hx:0<=x/\x<=18446744073709551615) (h:f x=r):bnd (wu64 x) f=r:=by
  show f (wu64 x)=r
  rw [show wu64 x=x from mJ hx];exact h
end
def Ex {β:Type} (P:β->Prop) (D:Option β):Prop:=∃ r,D=some r/\P r
theorem aD {α β:Type} {P:β->Prop} {x:α} {f:α->Option β} (h:Ex P (f x)):Ex P (bnd x f):=h
theorem cZ {β:Type} {P:β->Prop} {c:Bool} {a b:Option β} (h1:c=true->Ex P a) (h2:c=false->Ex P b):Ex P (cond c a b):=by cases c;exact h2 rfl;exact h1 rfl
theorem gU {β:Type} {P:β->Prop} {p:Prop} [Decidable p] {k:Option β} (hp:p) (h:Ex P k):Ex P (gZ p k):=by unfold gZ;rw [if_pos hp];exact h
theorem aB {α β:Type} {P:β->Prop} (Q:α->Prop) {x:Option α} {f:α->Option β} (h1:Ex Q x) (h2:∀ a,Q a->Ex P (f a)):Ex P (x.bind f):=by
  obtain ⟨a,e,hq⟩:=h1;subst e;exact h2 a hq
theorem x_eq {α β:Type} {P:β->Prop} {x:Option α} {a:α} {f:α->Option β} (e:x=some a) (h:Ex P (f a)):Ex P (x.bind f):=by subst e;exact h
theorem bP {α β:Type} {P:β->Prop} {l:List α} {i:Int} {f:α->Option β} (h0:0<=i) (h1:i<(l.length:Int)) (h2:∀ a,l[i.toNat]?=some a->Ex P (f a)):Ex P ((ix l i).bind f):=by
  have hl:i.toNat<l.length:=by omega
  have e:l[i.toNat]?=some l[i.toNat]:=List.getElem?_eq_getElem hl
  obtain ⟨r,h3,h4⟩:=h2 _ e
  exact ⟨r,VO h0 e h3,h4⟩
theorem jP {α β γ:Type} {P:γ->Prop} {f:α->β->Option γ} {q:α×β} (h:Ex P (f q.1 q.2)):Ex P (p2 f q):=h
theorem aF {α:Type} {P:α->Prop} {a:α} (h:P a):Ex P (some a):=⟨a,rfl,h⟩
theorem x_w {β:Type} {P:β->Prop} {x:Int} {f:Int->Option β} (hx:-9223372036854775808<=x/\x<=9223372036854775807) (h:Ex P (f x)):Ex P (bnd (bA x) f):=by
  obtain ⟨r,e,hp⟩:=h;exact ⟨r,H6 hx e,hp⟩
theorem nR {β:Type} {P Q:β->Prop} {D:Option β} (h:Ex P D) (hq:∀ r,P r->Q r):Ex Q D:=by obtain ⟨r,e,p⟩:=h;exact ⟨r,e,hq r p⟩
theorem jA {α β:Type} {P:β->Prop} {f:α->Option β} {r:α⊕β} (h1:∀ a,r=.inl a->Ex P (f a)) (h2:∀ b,r=.inr b->P b):Ex P (sel f r):=by
  cases r with
  | inl a=>exact h1 a rfl
  | inr b=>exact ⟨b,rfl,h2 b rfl⟩
theorem qG {V J:Type} {P:J->Prop} {f:V->Option (V⊕J)} (I:V->Prop) (μ:V->Nat)
    (hs:∀ v,I v->Ex (λr=>match r with | .inl v'=>I v'/\μ v' < μ v | .inr j=>P j) (f v)):∀ {n:Nat} {v:V},I v->μ v<n->Ex P (iter f n v)
  | 0,v,_,hn=>absurd hn (Nat.not_lt_zero _)
  | n+1,v,hv,hn=>by
    show Ex P ((f v).bind (sel λv'=>iter f n v'))
    refine aB _ (hs v hv) λr hr=>jA (λa e=>?_) (λb e=>?_)
    · subst e;exact qG I μ hs hr.1 (by have:=hr.2;omega)
    · subst e;exact hr
theorem bZ {α β:Type} {P:α⊕β->Prop} {x:Option β} (h:Ex (λb=>P (.inr b)) x):Ex P (esc x):=by obtain ⟨r,e,p⟩:=h;subst e;exact ⟨_,rfl,p⟩
theorem bM {α β:Type} {P:α⊕β->Prop} {a:α} (h:P (.inl a)):Ex P (brk a:Option (α⊕β)):=⟨_,rfl,h⟩
theorem aO1 {β:Type} {P:β->Prop} {D:Option β} {r:β} (h:Ex P D) (e:D=some r):P r:=by obtain ⟨s,e',p⟩:=h;rw [e] at e';cases e';exact p
open Go.Proofs
def gY (a:Int):Prop:=-288230376151711744<=a/\a<=288230376151711744
instance (a:Int):Decidable (gY a):=inferInstanceAs (Decidable (_/\_))
def sN (a b:Int):Int×Int:=if gY a/\gY b/\gY (a+b) then (a+b,0) else (0,2)
def mI:Int->List Int->Option Int
  | n,[]=>some n
  | n,x :: r=>if gY n/\gY x/\gY (n+x) then mI (n+x) r else none
def jC (l:List Int):Int×Int:=match mI 0 l with | some v=>(v,0) | none=>(0,2)
theorem LX {x:Int} (h:0<=x/\x<=18446744073709551615):(BitVec.ofInt IntKind.u64.bits x).toNat=x.toNat:=by
  show (BitVec.ofInt 64 x).toNat=x.toNat
  rw [BitVec.toNat_ofInt]
  have:x % ((2 ^ 64:Nat):Int)=x:=Int.emod_eq_of_lt h.1 (by show x<18446744073709551616;omega)
  rw [this]
theorem aRV {x:Int} (h:0<=x/\x<=18446744073709551615):((BitVec.ofInt IntKind.u64.bits x &&& BitVec.ofInt IntKind.u64.bits 4294967295).toNat:Int)=x % 4294967296:=by
  rw [BitVec.toNat_and,LX h,LX (by decide)]
  have:x.toNat &&& (4294967295:Int).toNat=x.toNat % 4294967296:=Nat.and_two_pow_sub_one_eq_mod x.toNat 32
  rw [this];omega
theorem orK {a b t:Int} {k:Nat} (ha:a=2 ^ k*t) (ht:0<=t) (h:a<=18446744073709551615) (hb:0<=b/\b<2 ^ k) (hb2:b<=18446744073709551615):((BitVec.ofInt IntKind.u64.bits a ||| BitVec.ofInt IntKind.u64.bits b).toNat:Int)=a+b:=by
  have p2:(0:Int)<=2 ^ k:=Int.pow_nonneg (by decide)
  have ha0:0<=a:=by rw [ha];exact Int.mul_nonneg p2 ht
  rw [BitVec.toNat_or,LX ⟨ha0,h⟩,LX ⟨hb.1,hb2⟩]
  have e1:a.toNat=2 ^ k*t.toNat:=by
    apply Int.ofNat.inj
    show ((a.toNat:Nat):Int)=((2 ^ k*t.toNat:Nat):Int)
    rw [Int.toNat_of_nonneg ha0,ha,Int.natCast_mul,Int.toNat_of_nonneg ht];simp
  have e2:b.toNat<2 ^ k:=by
    have:((b.toNat:Nat):Int)<((2 ^ k:Nat):Int):=by rw [Int.toNat_of_nonneg hb.1];simpa using hb.2
    omega
  rw [e1,<- Nat.two_pow_add_eq_or_of_lt e2,<- e1]
  omega
theorem BL {x y X Y:Int} (hx:0<=x/\x<=X) (hy:0<=y/\y<=Y):0<=x*y/\x*y<=X*Y :=
  ⟨Int.mul_nonneg hx.1 hy.1,Int.le_trans (Int.mul_le_mul_of_nonneg_left hy.2 hx.1) (Int.mul_le_mul_of_nonneg_right hx.2 (by omega))⟩
theorem aXG {a b:Int} (ha:0<=a/\a<=9223372036854775807) (hb:0<=b/\b<=9223372036854775807) :
    ∃ p q r s:Int,p=(a % 4294967296)*(b % 4294967296)/\q=(a / 4294967296)*(b % 4294967296)/\r=(a % 4294967296)*(b / 4294967296)/\s=(a / 4294967296)*(b / 4294967296) /\
      (0<=p/\p<=18446744065119617025)/\(0<=q/\q<=9223372030412324865)/\(0<=r/\r<=9223372030412324865)/\(0<=s/\s<=4611686014132420609)/\a*b=s*18446744073709551616+(q+r)*4294967296+p:=by
  refine ⟨_,_,_,_,rfl,rfl,rfl,rfl,?_,?_,?_,?_,?_⟩
  · exact BL (X:=4294967295) (Y:=4294967295) (by omega) (by omega)
  · exact BL (X:=2147483647) (Y:=4294967295) (by omega) (by omega)
  · exact BL (X:=4294967295) (Y:=2147483647) (by omega) (by omega)
  · exact BL (X:=2147483647) (Y:=2147483647) (by omega) (by omega)
  · generalize e1:a / 4294967296=a1
    generalize e0:a % 4294967296=a0
    generalize f1:b / 4294967296=b1
    generalize f0:b % 4294967296=b0
    have ea:a=a1*4294967296+a0:=by omega
    have eb:b=b1*4294967296+b0:=by omega
    rw [ea,eb];grind
theorem aHR {u y y1 y0 d q r:Int} (hy:y=y1*4294967296+y0) (h0:0<=y0/\y0<4294967296) (h1:2147483648<=y1/\y1<4294967296) (hu:0<=u/\u<y) (hd:0<=d/\d<4294967296) (hr:u=q*y1+r) (hq:(u*4294967296+d) / y<=q)
    (hc:q>=4294967296\/q*y0>4294967296*r+d):(u*4294967296+d) / y<=q-1:=by
  have hy0:0<y:=by omega
  have key:(u*4294967296+d) / y<q:=by
    rcases hc with h | h
    · have:(u*4294967296+d) / y<4294967296:=by
        apply Int.ediv_lt_of_lt_mul hy0
        have:u*4294967296+d<(u+1)*4294967296:=by omega
        have h2:(u+1)*4294967296<=y*4294967296:=by omega
        have h3:y*4294967296=4294967296*y:=Int.mul_comm _ _
        omega
      omega
    · apply Int.ediv_lt_of_lt_mul hy0
      have:q*y=(q*y1)*4294967296+q*y0:=by rw [hy];grind
      omega
  omega
theorem aBW {u y y1 y0 d q r:Int} (hy:y=y1*4294967296+y0) (h0:0<=y0/\y0<4294967296) (h1:2147483648<=y1/\y1<4294967296) (hu:0<=u/\u<y) (hd:0<=d/\d<4294967296) (hr:u=q*y1+r) (hq:(u*4294967296+d) / y<=q)
    (hc:(q<4294967296/\q*y0<=4294967296*r+d)\/r>=4294967296):q=(u*4294967296+d) / y:=by
  have hy0:0<y:=by omega
  have key:q<=(u*4294967296+d) / y:=by
    apply Int.le_ediv_of_mul_le hy0
    have e:q*y=(q*y1)*4294967296+q*y0:=by rw [hy];grind
    have hq0:0<=q:=Int.le_trans (Int.ediv_nonneg (by omega) (by omega)) hq
    rcases hc with h | h
    · omega
    · have hqB:q<4294967296:=by
        apply Int.lt_of_mul_lt_mul_right (a:=y1) _ (by omega)
        have:4294967296*y1=y1*4294967296:=Int.mul_comm _ _
        omega
      have:=(BL (X:=4294967295) (Y:=4294967295) ⟨hq0,by omega⟩ ⟨h0.1,by omega⟩).2
      omega
  omega
set_option maxRecDepth 100000
set_option maxHeartbeats 1000000
theorem kG {β:Type} {D:Option β} {x:β} (h:Ex (λr=>r=x) D):D=some x:=by obtain ⟨r,e,rfl⟩:=h;exact e
theorem D8 (x:Int):wu64 x=x % 18446744073709551616:=aX1 x
theorem aTA {p q r s ab:Int} (bp:0<=p/\p<=18446744065119617025) (bq:0<=q/\q<=9223372030412324865) (br:0<=r/\r<=9223372030412324865) (bs:0<=s/\s<=4611686014132420609) (e:ab=s*18446744073709551616+(q+r)*4294967296+p) :
    ((s+q / 4294967296) % 18446744073709551616+r / 4294967296) % 18446744073709551616=s+q / 4294967296+r / 4294967296/\s+q / 4294967296+r / 4294967296+(p / 4294967296+q % 4294967296+r % 4294967296) / 4294967296=ab / 18446744073709551616 /\
      0<=ab / 18446744073709551616/\ab / 18446744073709551616<18446744073709551616/\(p / 4294967296+q % 4294967296+r % 4294967296) % 4294967296*4294967296+p % 4294967296=ab % 18446744073709551616:=by
  have hp:p=p / 4294967296*4294967296+p % 4294967296:=by omega
  have hq:q=q / 4294967296*4294967296+q % 4294967296:=by omega
  have hr:r=r / 4294967296*4294967296+r % 4294967296:=by omega
  have hp0:0<=p % 4294967296/\p % 4294967296<4294967296:=by omega
  have hp1:0<=p / 4294967296/\p / 4294967296<4294967296:=by omega
  have hq0:0<=q % 4294967296/\q % 4294967296<4294967296:=by omega
  have hq1:0<=q / 4294967296/\q / 4294967296<4294967296:=by omega
  have hr0:0<=r % 4294967296/\r % 4294967296<4294967296:=by omega
  have hr1:0<=r / 4294967296/\r / 4294967296<4294967296:=by omega
  generalize p / 4294967296=p1 at *
  generalize p % 4294967296=p0 at *
  generalize q / 4294967296=q1 at *
  generalize q % 4294967296=q0 at *
  generalize r / 4294967296=r1 at *
  generalize r % 4294967296=r0 at *
  have hm:p1+q0+r0=(p1+q0+r0) / 4294967296*4294967296+(p1+q0+r0) % 4294967296:=by omega
  have hm0:0<=(p1+q0+r0) % 4294967296/\(p1+q0+r0) % 4294967296<4294967296:=by omega
  have hm1:0<=(p1+q0+r0) / 4294967296/\(p1+q0+r0) / 4294967296<=2:=by omega
  generalize (p1+q0+r0) / 4294967296=m1 at *
  generalize (p1+q0+r0) % 4294967296=m0 at *
  have hab:ab=(s+q1+r1+m1)*18446744073709551616+(m0*4294967296+p0):=by omega
  have h1:ab / 18446744073709551616=s+q1+r1+m1:=by omega
  have h2:ab % 18446744073709551616=m0*4294967296+p0:=by omega
  rw [h1,h2]
  refine ⟨?_,rfl,?_,?_,rfl⟩ <;> omega
section
variable {β:Type}
theorem uE {α:Type} {e v:α} {f:α->Option β} {r:Option β} (he:e=v) (h:f v=r):bnd e f=r:=by subst he;exact h
theorem VX {a e P y:Int} {t:Nat} {f:Int->Option β} {r:Option β} (he:e.toNat=t) (ht:t<=64) (hP:(2:Int) ^ t=P) (hy:wu64 (a*P)=y) (h:f y=r):bnd (wu64 (a*(2 ^ (min e.toNat IntKind.u64.bits)))) f=r:=by
  have:min e.toNat IntKind.u64.bits=t:=by rw [he];show min t 64=t;omega
  show f (wu64 (a*(2 ^ (min e.toNat IntKind.u64.bits))))=r
  rw [this,hP,hy];exact h
theorem aHP {a e P:Int} {t:Nat} {f:Int->Option β} {r:Option β} (he:e.toNat=t) (ht:t<=64) (hP:(2:Int) ^ t=P) (h0:0<=P) (h:f (a / P)=r):bnd (a.fdiv (2 ^ (min e.toNat IntKind.u64.bits))) f=r:=by
  have:min e.toNat IntKind.u64.bits=t:=by rw [he];show min t 64=t;omega
  show f (a.fdiv (2 ^ (min e.toNat IntKind.u64.bits)))=r
  rw [this,hP,Int.fdiv_eq_ediv_of_nonneg a h0];exact h
theorem aCH {x:Int} {f:Int->Option β} {r:Option β} (hx:0<=x/\x<=18446744073709551615) (h:f (x % 4294967296)=r):bnd (wu64 ((BitVec.ofInt IntKind.u64.bits x &&& BitVec.ofInt IntKind.u64.bits 4294967295).toNat:Int)) f=r:=by
  show f (wu64 _)=r
  rw [aRV hx,show wu64 (x % 4294967296)=x % 4294967296 from mJ (by omega)];exact h
theorem aUG {a b v:Int} {f:Int->Option β} {r:Option β} (hv:((BitVec.ofInt IntKind.u64.bits a ||| BitVec.ofInt IntKind.u64.bits b).toNat:Int)=v) (hr:0<=v/\v<=18446744073709551615) (h:f v=r):bnd (wu64 ((BitVec.ofInt IntKind.u64.bits a ||| BitVec.ofInt IntKind.u64.bits b).toNat:Int)) f=r:=by
  show f (wu64 _)=r
  rw [hv,show wu64 v=v from mJ hr];exact h
end
def md (a b c:Int):Int×Int×Int:=if a<0\/b<0\/c<1 then (0,0,1) else if a*b / c>288230376151711744 then (0,0,2) else (a*b / c,a*b % c,0)
theorem aMT {a b c:Int} (ha:0<=a/\a<=9223372036854775807) (hb:0<=b/\b<=9223372036854775807) (hc:1<=c/\c<=9223372036854775807) :
    (0<=a*b / 18446744073709551616)/\(0<=a*b % 18446744073709551616/\a*b % 18446744073709551616<=18446744073709551615)/\a*b / 18446744073709551616*18446744073709551616+a*b % 18446744073709551616=a*b /\
      (0<=a*b / c)/\(0<=a*b % c/\a*b % c<c)/\(a*b / 18446744073709551616<c↔a*b / c<=18446744073709551615):=by
  have h0:0<=a*b:=Int.mul_nonneg ha.1 hb.1
  have h1:0<=a*b / c:=Int.ediv_nonneg h0 (by omega)
  have h2:0<=a*b % c:=Int.emod_nonneg _ (by omega)
  have h3:a*b % c<c:=Int.emod_lt_of_pos _ (by omega)
  have h4:a*b / c<18446744073709551616↔a*b<18446744073709551616*c:=Int.ediv_lt_iff_lt_mul (by omega)
  generalize a*b=N at *
  refine ⟨by omega,by omega,by omega,h1,⟨h2,h3⟩,?_⟩
  omega
theorem digit {c M:Int} (hc:1<=c) (M0:0<=M):(M / 2 % c*2+M % 2>=c->M % c=M / 2 % c*2+M % 2-c/\M / c=M / 2 / c*2+1)/\(¬ M / 2 % c*2+M % 2>=c->M % c=M / 2 % c*2+M % 2/\M / c=M / 2 / c*2):=by
  have q0:0<=M / 2 / c:=Int.ediv_nonneg (by omega) (by omega)
  have r0:0<=M / 2 % c:=Int.emod_nonneg _ (by omega)
  have r1:M / 2 % c<c:=Int.emod_lt_of_pos _ (by omega)
  have er:c*(M / 2 / c)+M / 2 % c=M / 2:=Int.mul_ediv_add_emod _ _
  generalize M / 2 / c=Q at *
  generalize M / 2 % c=R at *
  have step:∀ R' Q':Int,M=Q'*c+R'->0<=R'->R' < c->M % c=R'/\M / c=Q':=by
    intro R' Q' h g1 g2
    constructor
    · rw [h,Int.add_comm,Int.add_mul_emod_self_right,Int.emod_eq_of_lt g1 g2]
    · rw [h,Int.add_comm,Int.add_mul_ediv_right _ _ (by omega),Int.ediv_eq_zero_of_lt g1 g2];omega
  refine ⟨λhge=>step _ _ ?_ (by omega) (by omega),λhge=>step _ _ ?_ (by omega) (by omega)⟩
  · have:(Q*2+1)*c=c*Q*2+c:=by grind
    omega
  · have:(Q*2)*c=c*Q*2:=by grind
    omega
def pt (v q n:Int):Int:=if n<1\/q<0\/q>n\/¬ gY v then 0 else if v<0 then-(-v*q / n) else v*q / n
end Go.Pv
namespace Go.Pv
theorem aU {β:Type} {P:β->Prop} {p:Prop} {_:Decidable p} {a b:Option β} (h1:p->Ex P a) (h2:¬p->Ex P b):Ex P (cond (decide p) a b):=by
  by_cases h:p
  · rw [decide_eq_true h];exact h1 h
  · rw [decide_eq_false h];exact h2 h
theorem iK {β:Type} {P:β->Prop} {c:Bool} {a b:Option β} (h1:c=false->Ex P a) (h2:c=true->Ex P b):Ex P (cond (!c) a b):=by cases c;exact h1 rfl;exact h2 rfl
theorem kL {α γ β:Type} {P:β->Prop} {x:γ} {g:γ->Option α} {f:α->Option β} (h:Ex P ((g x).bind f)):Ex P ((bnd x g).bind f):=h
theorem aTO {α β:Type} {P:β->Prop} {x:Int} {g:Int->Option α} {f:α->Option β} (hx:-9223372036854775808<=x/\x<=9223372036854775807) (h:Ex P ((g x).bind f)):Ex P ((bnd (bA x) g).bind f):=by
  obtain ⟨r,e,p⟩:=h;have k:bA x=x:=wrap64 hx
  exact ⟨r,by rw [<- e];show Option.bind (g (bA x)) f=_;rw [k],p⟩
theorem jZ {α β:Type} {P:β->Prop} {c:Bool} {x y:Option α} {f:α->Option β} (h:Ex P (cond c (x.bind f) (y.bind f))):Ex P ((cond c x y).bind f):=by cases c;exact h;exact h
theorem jS {α β:Type} {P:β->Prop} {a:α} {f:α->Option β} (h:Ex P (f a)):Ex P ((some a).bind f):=h
theorem jW {α γ β:Type} {P:β->Prop} {x:Option γ} {g:γ->Option α} {f:α->Option β} (h:Ex P (x.bind λa=>(g a).bind f)):Ex P ((x.bind g).bind f):=by cases x;exact h;exact h
theorem jR {α γ δ β:Type} {P:β->Prop} {g:γ->δ->Option α} {q:γ×δ} {f:α->Option β} (h:Ex P ((g q.1 q.2).bind f)):Ex P ((p2 g q).bind f):=h
theorem kC {α β:Type} {P:β->Prop} {p:Prop} [Decidable p] {k:Option α} {f:α->Option β} (h:Ex P (gZ p (k.bind f))):Ex P ((gZ p k).bind f):=by
  unfold gZ at h ⊢
  by_cases hp:p
  · rw [if_pos hp] at h ⊢;exact h
  · rw [if_neg hp] at h;obtain ⟨r,e,_⟩:=h;cases e
theorem kF {α β:Type} {P:β->Prop} {x:Option β} {f:α->Option β} (h:Ex P x):Ex P ((esc x:Option (α⊕β)).bind (sel f)):=by obtain ⟨r,e,p⟩:=h;subst e;exact ⟨_,rfl,p⟩
theorem kH {α β:Type} {P:β->Prop} {a:α} {f:α->Option β} (h:Ex P (f a)):Ex P ((brk a:Option (α⊕β)).bind (sel f)):=h
theorem fJ {α β:Type} {P:β->Prop} {f:α->Option β} {a:α} (h:Ex P (f a)):Ex P (sel f (.inl a)):=h
theorem iL {α β:Type} {P:β->Prop} {l:List α} {i:Int} {a:α} {f:α->Option β} (h0:0<=i) (h:l[i.toNat]?=some a) (k:Ex P (f a)):Ex P ((ix l i).bind f):=by
  obtain ⟨r,e,p⟩:=k;exact ⟨r,VO h0 h e,p⟩
theorem cO {β:Type} {P:β->Prop} {x:Int} {f:Int->Option β} (h:Ex P (f x)) (hx:-9223372036854775808<=x/\x<=9223372036854775807:=by first | omega | (simp only;omega)):Ex P (bnd (bA x) f):=x_w hx h
theorem jV {α β:Type} {P:β->Prop} {x:Int} {g:Int->Option α} {f:α->Option β} (h:Ex P ((g x).bind f)) (hx:-9223372036854775808<=x/\x<=9223372036854775807:=by first | omega | (simp only;omega)):Ex P ((bnd (bA x) g).bind f):=aTO hx h
theorem dI {β:Type} {P:β->Prop} {p:Prop} {_:Decidable p} {k:Option β} (h:Ex P k) (hp:p:=by first | omega | (simp only [List.length_append,List.length_cons,List.length_nil,List.length_set];omega) | (simp;omega)):Ex P (gZ p k):=gU hp h
open Go.Proofs
set_option maxRecDepth 100000
set_option maxHeartbeats 4000000
theorem aSH {a b:Int} (ha:0<=a/\a<=9223372036854775807) (hb:0<=b/\b<=9223372036854775807):FM a b=some (a*b / 18446744073709551616,a*b % 18446744073709551616):=by
  obtain ⟨p,q,r,s,hp,hq,hr,hs,bp,bq,br,bs,e⟩:=aXG ha hb
  have wa:wu64 a=a:=mJ (by omega)
  have wb:wu64 b=b:=mJ (by omega)
  have t1:a.tmod 4294967296=a % 4294967296:=Int.tmod_eq_emod_of_nonneg ha.1
  have t2:b.tmod 4294967296=b % 4294967296:=Int.tmod_eq_emod_of_nonneg hb.1
  have t3:a.tdiv 4294967296=a / 4294967296:=Int.tdiv_eq_ediv_of_nonneg ha.1
  have t4:b.tdiv 4294967296=b / 4294967296:=Int.tdiv_eq_ediv_of_nonneg hb.1
  have w3:wu64 (a / 4294967296)=a / 4294967296:=mJ (by omega)
  have w4:wu64 (b / 4294967296)=b / 4294967296:=mJ (by omega)
  have wp:wu64 (a % 4294967296*(b % 4294967296))=p:=by rw [<- hp];exact mJ (by omega)
  have wq:wu64 (a / 4294967296*(b % 4294967296))=q:=by rw [<- hq];exact mJ (by omega)
  have wr:wu64 (a % 4294967296*(b / 4294967296))=r:=by rw [<- hr];exact mJ (by omega)
  have ws:wu64 (a / 4294967296*(b / 4294967296))=s:=by rw [<- hs];exact mJ (by omega)
  have d1:p.tdiv 4294967296=p / 4294967296:=Int.tdiv_eq_ediv_of_nonneg bp.1
  have d2:q.tdiv 4294967296=q / 4294967296:=Int.tdiv_eq_ediv_of_nonneg bq.1
  have d3:r.tdiv 4294967296=r / 4294967296:=Int.tdiv_eq_ediv_of_nonneg br.1
  have m2:q.tmod 4294967296=q % 4294967296:=Int.tmod_eq_emod_of_nonneg bq.1
  have m3:r.tmod 4294967296=r % 4294967296:=Int.tmod_eq_emod_of_nonneg br.1
  have wd:wu64 (p / 4294967296)=p / 4294967296:=mJ (by omega)
  have we:wu64 (p / 4294967296+q % 4294967296)=p / 4294967296+q % 4294967296:=mJ (by omega)
  have wf:wu64 (p / 4294967296+q % 4294967296+r % 4294967296)=p / 4294967296+q % 4294967296+r % 4294967296:=mJ (by omega)
  have dm:(p / 4294967296+q % 4294967296+r % 4294967296).tdiv 4294967296=(p / 4294967296+q % 4294967296+r % 4294967296) / 4294967296:=Int.tdiv_eq_ediv_of_nonneg (by omega)
  simp only [FM,WU,WT.run,bU,bnd,wa,wb,t1,t2,t3,t4,w3,w4,wp,wq,wr,ws,d1,d2,d3,m2,m3,wd,we,wf,dm]
  obtain ⟨k1,k2,k3,k4,k5⟩:=aTA bp bq br bs e
  rw [D8 (a*b),D8,D8,D8]
  have z1:wu64 (q / 4294967296)=q / 4294967296:=mJ (by omega)
  have z2:wu64 (r / 4294967296)=r / 4294967296:=mJ (by omega)
  have z3:wu64 ((p / 4294967296+q % 4294967296+r % 4294967296) / 4294967296)=(p / 4294967296+q % 4294967296+r % 4294967296) / 4294967296:=mJ (by omega)
  rw [z1,z2,z3,k1,k2,Int.emod_eq_of_lt k3 k4]
theorem aQX:∀ k:Nat,k<256->∃ c:UInt8,([0,1,2,2,3,3,3,3,4,4,4,4,4,4,4,4,5,5,5,5,5,5,5,5,5,5,5,5,5,5,5,5,6,6,6,6,6,6,6,6,6,6,6,6,6,6,6,6,6,6,6,6,6,6,6,6,6,6,6,6,6,6,6,6,7,7,7,7,7,7,7,7,7,7,7,7,7,7,7,7,7,7,7,7,7,7,7,7,7,7,7,7,7,7,7,7,7,7,7,7,7,7,7,7,7,7,7,7,7,7,7,7,7,7,7,7,7,7,7,7,7,7,7,7,7,7,7,7,8,8,8,8,8,8,8,8,8,8,8,8,8,8,8,8,8,8,8,8,8,8,8,8,8,8,8,8,8,8,8,8,8,8,8,8,8,8,8,8,8,8,8,8,8,8,8,8,8,8,8,8,8,8,8,8,8,8,8,8,8,8,8,8,8,8,8,8,8,8,8,8,8,8,8,8,8,8,8,8,8,8,8,8,8,8,8,8,8,8,8,8,8,8,8,8,8,8,8,8,8,8,8,8,8,8,8,8,8,8,8,8,8,8,8,8,8,8,8,8,8,8,8,8,8,8,8,8]:List UInt8)[k]?=some c/\c.toNat<=8/\k<2 ^ c.toNat/\2 ^ c.toNat<=2*k+(if k=0 then 1 else 0):=by decide +kernel
variable {β:Type}
theorem aBG {x:Int} {f:Int->Option β} {r:Option β} (h:f (x / 4294967296)=r):bnd (x.fdiv (2 ^ (min (32:Int).toNat IntKind.u64.bits))) f=r:=by
  show f (x.fdiv 4294967296)=r
  rw [Int.fdiv_eq_ediv_of_nonneg x (by decide)];exact h
theorem aJD {x:Int} {f:Int->Option β} {r:Option β} (hx:0<=x/\x<=255) (h:f x=r):bnd (FV x) f=r:=by
  show f (FV x)=r
  rw [show FV x=x from aUY hx];exact h
theorem aL2 {P:β->Prop} {a b:Option β} (h:Ex P b):Ex P (cond false a b):=h
theorem aT0 (x:Int):x.fdiv (2 ^ (min (32:Int).toNat IntKind.u64.bits))=x / 4294967296:=Int.fdiv_eq_ediv_of_nonneg x (by decide)
theorem aM9 (x:Int):x.fdiv (2 ^ (min (16:Int).toNat IntKind.u64.bits))=x / 65536:=Int.fdiv_eq_ediv_of_nonneg x (by decide)
theorem fd8 (x:Int):x.fdiv (2 ^ (min (8:Int).toNat IntKind.u64.bits))=x / 256:=Int.fdiv_eq_ediv_of_nonneg x (by decide)
theorem GY {x:Int} {P:β->Prop} {f:Int->Option β} (hx:0<=x/\x<=18446744073709551615) (h:Ex P (f x)):Ex P (bnd (wu64 x) f):=by
  obtain ⟨r,e,p⟩:=h;exact ⟨r,zB hx e,p⟩
theorem aU0 {k:Nat} {c:UInt8} (h8:c.toNat<=8) (h1:k<2 ^ c.toNat) (h2:2 ^ c.toNat<=2*k+(if k=0 then 1 else 0)) (hk:1<=k) :
    ∃ m:Nat,c.toNat=m+1/\m<=7/\2 ^ m<=k/\k<2 ^ (m+1):=by
  rw [if_neg (by omega)] at h2
  cases hc:c.toNat with
  | zero=>rw [hc] at h1;simp at h1;omega
  | succ m=>rw [hc] at h1 h2 h8;exact ⟨m,rfl,by omega,by rw [Nat.pow_succ] at h2;omega,h1⟩
theorem aT7 {m off:Nat} {z x:Int} (hm:m<=7) (hz:(2:Int) ^ m<=z) (hz2:z<2 ^ (m+1)) (hx:z*2 ^ off<=x) (hx2:x<(z+1)*2 ^ off):(2:Int) ^ (m+off)<=x/\x<2 ^ (m+1+off):=by
  have p:(0:Int)<=2 ^ off:=Int.pow_nonneg (by decide)
  constructor
  · rw [Int.pow_add];exact Int.le_trans (Int.mul_le_mul_of_nonneg_right hz p) hx
  · rw [Int.pow_add];exact Int.lt_of_lt_of_le hx2 (Int.mul_le_mul_of_nonneg_right (by omega) p)
@[reducible] def aEL:List UInt8:=([0,1,2,2,3,3,3,3,4,4,4,4,4,4,4,4,5,5,5,5,5,5,5,5,5,5,5,5,5,5,5,5,6,6,6,6,6,6,6,6,6,6,6,6,6,6,6,6,6,6,6,6,6,6,6,6,6,6,6,6,6,6,6,6,7,7,7,7,7,7,7,7,7,7,7,7,7,7,7,7,7,7,7,7,7,7,7,7,7,7,7,7,7,7,7,7,7,7,7,7,7,7,7,7,7,7,7,7,7,7,7,7,7,7,7,7,7,7,7,7,7,7,7,7,7,7,7,7,8,8,8,8,8,8,8,8,8,8,8,8,8,8,8,8,8,8,8,8,8,8,8,8,8,8,8,8,8,8,8,8,8,8,8,8,8,8,8,8,8,8,8,8,8,8,8,8,8,8,8,8,8,8,8,8,8,8,8,8,8,8,8,8,8,8,8,8,8,8,8,8,8,8,8,8,8,8,8,8,8,8,8,8,8,8,8,8,8,8,8,8,8,8,8,8,8,8,8,8,8,8,8,8,8,8,8,8,8,8,8,8,8,8,8,8,8,8,8,8,8,8,8,8,8,8,8,8]:List UInt8)
theorem aUL {x:Int} (h:1<=x/\x<=18446744073709551615):Ex (λr=>∃ L:Nat,r=(L:Int)+1/\L<=63/\(2:Int) ^ L<=x/\x<2 ^ (L+1)) (JV x):=by
  have fin:∀ (off:Nat) (z:Int),(z*2 ^ off<=x/\x<(z+1)*2 ^ off)->1<=z->z<=255->off<=56 ->
      ∃ (m:Nat) (c:UInt8),(aEL)[z.toNat]?=some c/\(c.toNat:Int)=(m:Int)+1/\m<=7/\(2:Int) ^ (m+off)<=x/\x<2 ^ (m+off+1):=by
    intro off z hz z1 z2 ho
    obtain ⟨c,hc,h8,h1,h2⟩:=aQX z.toNat (by omega)
    obtain ⟨m,e,hm,g1,g2⟩:=aU0 h8 h1 h2 (by omega)
    have k1:(2:Int) ^ m<=z:=by
      have:((2 ^ m:Nat):Int)<=(z.toNat:Int):=by exact_mod_cast g1
      rw [Int.toNat_of_nonneg (by omega)] at this;simpa using this
    have k2:z<(2:Int) ^ (m+1):=by
      have:(z.toNat:Int)<((2 ^ (m+1):Nat):Int):=by exact_mod_cast g2
      rw [Int.toNat_of_nonneg (by omega)] at this;simpa using this
    have:=aT7 hm k1 k2 hz.1 hz.2
    exact ⟨m,c,hc,by omega,hm,this.1,by rw [show m+off+1=m+1+off from by omega];exact this.2⟩
  have tl:∀ (o:Nat) (w off z:Int),(2:Int) ^ o=w->off=(o:Int)->z*w<=x/\x<(z+1)*w->1<=z/\z<=255->o<=56->Ex (λr=>∃ L:Nat,r=(L:Int)+1/\L<=63/\(2:Int) ^ L<=x/\x<2 ^ (L+1))
      (bnd (FV z) λi=>(ix aEL i).bind λc=>bnd (bA (c.toNat:Int)) λk=>bnd (bA (off+k)) λr=>some r):=by
    intro o w off z hw ho hz hz1 ho2
    subst hw;subst ho
    obtain ⟨m,c,hc,e,hm,g1,g2⟩:=fin o z hz hz1.1 hz1.2 ho2
    exact ⟨_,aJD (by omega) (VO (by omega) hc (H6 (by omega) (H6 (by omega) rfl))),m+o,by omega,by omega,g1,g2⟩
  unfold JV aAD
  simp only [WT.run,bU,aT0,aM9,fd8]
  repeat' with_reducible first
    | refine cO ?_ | refine jV ?_ | apply aD | apply jP | apply kL | apply jR | apply jS | apply kF | apply kH | apply jW | apply jZ | apply kC | refine aU (λ_=>?_) λ_=>?_ | apply x_cT | apply x_cF | apply fJ | apply bZ
  all_goals simp only at *
  all_goals first
    | exact tl 56 72057594037927936 _ _ (by decide) (by decide) (by omega) (by omega) (by decide)
    | exact tl 48 281474976710656 _ _ (by decide) (by decide) (by omega) (by omega) (by decide)
    | exact tl 40 1099511627776 _ _ (by decide) (by decide) (by omega) (by omega) (by decide)
    | exact tl 32 4294967296 _ _ (by decide) (by decide) (by omega) (by omega) (by decide)
    | exact tl 24 16777216 _ _ (by decide) (by decide) (by omega) (by omega) (by decide)
    | exact tl 16 65536 _ _ (by decide) (by decide) (by omega) (by omega) (by decide)
    | exact tl 8 256 _ _ (by decide) (by decide) (by omega) (by omega) (by decide)
    | exact tl 0 1 _ _ (by decide) (by decide) (by omega) (by omega) (by decide)
def RV (y1 y0 d:Int) (v:Int×Int):Option ((Int×Int)⊕Int) :=
  p2 (λq r=>(bnd (decide (q>=4294967296)) λx=>cond x (some true) (bnd (wu64 (q*y0)) λa=>bnd (wu64 (4294967296*r)) λb=>bnd (wu64 (b+d)) λc=>bnd (decide (a>c)) λx=>some x)).bind λy =>
    cond y (bnd (wu64 (q-1)) λq1=>bnd (wu64 (r+y1)) λr1=>bnd (decide (r1>=4294967296)) λx=>cond x (esc (some q1)) (brk (q1,r1))) (esc (some q))) v
theorem ZB {u y y1 y0 d:Int} {n:Nat} (hn:5<n) (hy:y=y1*4294967296+y0) (h0:0<=y0/\y0<4294967296) (h1:2147483648<=y1/\y1<4294967296) (hu:0<=u/\u<y) (hd:0<=d/\d<4294967296)
    {q r:Int} (e:u=q*y1+r) (hq:(u*4294967296+d) / y<=q) (hr0:0<=r) (hr:r<4294967296) (hqm:q<=18446744073709551615):iter (RV y1 y0 d) n (q,r)=some ((u*4294967296+d) / y):=by
  have hQ:0<=(u*4294967296+d) / y:=Int.ediv_nonneg (by omega) (by omega)
  refine kG (qG (λ(v:Int×Int)=>u=v.1*y1+v.2/\(u*4294967296+d) / y<=v.1/\0<=v.2/\v.2<4294967296/\v.1<=18446744073709551615) (λv=>(4-v.2 / 2147483648).toNat) ?_ (v:=(q,r)) ⟨e,hq,hr0,hr,hqm⟩ (by simp only;omega))
  rintro ⟨q,r⟩ ⟨e,hq,hr0,hr,hqm⟩
  simp only at e hq hr0 hr hqm
  refine jP (aB (λ(b:Bool)=>(b=true->(u*4294967296+d) / y<=q-1)/\(b=false->(u*4294967296+d) / y=q)) ?_ λb hb=>cZ (λk=>?_) λk=>bZ (aF (hb.2 k).symm))
  rotate_left
  · have hh:=hb.1 k
    have e':u=(q-1)*y1+(r+y1):=by rw [e,Int.sub_mul];omega
    simp only
    refine GY (by omega) (GY (by omega) (aD (aU (λc3=>bZ (aF ?_)) λc3=>bM ⟨⟨e',hh,by first | omega | (simp only;omega),by first | omega | (simp only;omega),by first | omega | (simp only;omega)⟩,by first | omega | (simp only;omega)⟩)))
    exact aBW hy h0 h1 hu hd e' hh (.inr c3)
  by_cases c1:q>=4294967296
  · exact ⟨_,zN c1 (zZ rfl),λ_=>aHR hy h0 h1 hu hd e hq (.inl c1),λk=>nomatch k⟩
  · have b1:=BL (X:=4294967295) (Y:=4294967295) (x:=q) (y:=y0) ⟨by omega,by omega⟩ ⟨h0.1,by omega⟩
    refine aD ?_
    rw [decide_eq_false c1]
    refine aL2 ?_
    simp only
    refine GY (by omega) ?_
    refine GY (by omega) ?_
    refine GY (by omega) ?_
    exact aD (aF ⟨λk=>aHR hy h0 h1 hu hd e hq (.inr (of_decide_eq_true k)),λk=>(aBW hy h0 h1 hu hd e hq (.inl ⟨by omega,by have:=of_decide_eq_false k;omega⟩)).symm⟩)
def ZN (y1 y0 d:Int) (v:Int×Int):Option ((Int×Int)⊕Int) :=
  p2 (λr q=>(bnd (decide (q>=4294967296)) λx=>cond x (some true) (bnd (wu64 (q*y0)) λa=>bnd (wu64 (4294967296*r)) λb=>bnd (wu64 (b+d)) λc=>bnd (decide (a>c)) λx=>some x)).bind λy =>
    cond y (bnd (wu64 (q-1)) λq1=>bnd (wu64 (r+y1)) λr1=>bnd (decide (r1>=4294967296)) λx=>cond x (esc (some q1)) (brk (r1,q1))) (esc (some q))) v
theorem aF5 {J:Type} {f g:Int×Int->Option ((Int×Int)⊕J)} (h:∀ a b,g (b,a)=(f (a,b)).map λz=>match z with | .inl w=>.inl (w.2,w.1) | .inr j=>.inr j):∀ n a b,iter g n (b,a)=iter f n (a,b)
  | 0,_,_=>rfl
  | n+1,a,b=>by
    show (g (b,a)).bind (sel (iter g n))=(f (a,b)).bind (sel (iter f n))
    rw [h]
    cases f (a,b) with
    | none=>rfl
    | some z =>
      cases z with
      | inl w=>exact aF5 h n w.1 w.2
      | inr j=>rfl
theorem aIC (y1 y0 d:Int) (n:Nat) (a b:Int):iter (ZN y1 y0 d) n (b,a)=iter (RV y1 y0 d) n (a,b):=by
  refine aF5 (λq r=>?_) n a b
  simp only [RV,ZN,p2,bnd]
  cases decide (q>=4294967296)
  · simp only [cond_false,Option.bind_some]
    cases decide (wu64 (q*y0)>wu64 (wu64 (4294967296*r)+d))
    · rfl
    · simp only [cond_true]
      cases decide (wu64 (r+y1)>=4294967296) <;> rfl
  · simp only [cond_true,Option.bind_some]
    cases decide (wu64 (r+y1)>=4294967296) <;> rfl
variable {β:Type}
theorem aJX {n:Nat} {a b:Int} (ha:0<=a/\a<=18446744073709551615) (hb:1<=b/\b<=9223372036854775807):DR n 0 a b=some (a / b,a % b):=by
  have h1:0<=a / b/\a / b<=a:=⟨Int.ediv_nonneg ha.1 (by omega),Int.ediv_le_self _ ha.1⟩
  unfold DR V9
  simp only [WT.run,bU]
  refine rY (by omega) (rO (rY (by omega) (rO (zN (by trivial) (zZ (wN (by omega) (uE (v:=a / b) ?_ (wN (by omega) (uE (v:=a % b) ?_ rfl)))))))))
  · rw [Int.tdiv_eq_ediv_of_nonneg ha.1];exact mJ (by omega)
  · exact Int.tmod_eq_emod_of_nonneg ha.1
theorem aKE {hi lo c P R y u w:Int} (hc:1<=c) (hh:0<=hi/\hi<c) (hl:0<=lo/\lo<=18446744073709551615) (hP:1<=P) (hR:1<=R) (hPR:P*R=18446744073709551616) (hy:y=c*P) (hu:u=hi*P+lo / R) (hw:w=(lo % R)*P) :
    (hi*18446744073709551616+lo)*P=u*18446744073709551616+w/\0<=u/\u<y/\0<=w/\w<18446744073709551616/\0<=hi*P/\hi*P<y/\0<=lo / R/\lo / R<P/\lo*P=lo / R*18446744073709551616+w:=by
  have h1:0<=lo % R/\lo % R<R:=⟨Int.emod_nonneg _ (by omega),Int.emod_lt_of_pos _ (by omega)⟩
  have h2:lo=R*(lo / R)+lo % R:=(Int.mul_ediv_add_emod lo R).symm
  have h3:0<=lo / R:=Int.ediv_nonneg hl.1 (by omega)
  have h4:lo / R<P:=Int.ediv_lt_of_lt_mul (by omega) (by omega)
  have h5:0<=hi*P:=Int.mul_nonneg hh.1 (by omega)
  have h6:hi*P<=(c-1)*P:=Int.mul_le_mul_of_nonneg_right (by omega) (by omega)
  have h7:(c-1)*P=y-P:=by rw [hy];grind
  have h8:0<=w:=by rw [hw];exact Int.mul_nonneg h1.1 (by omega)
  have h9:w<=(R-1)*P:=by rw [hw];exact Int.mul_le_mul_of_nonneg_right (by omega) (by omega)
  have h10:(R-1)*P=18446744073709551616-P:=by rw [<- hPR];grind
  have h11:lo*P=lo / R*18446744073709551616+w:=by
    rw [hw,<- hPR]
    generalize lo / R=t at *
    generalize lo % R=v at *
    rw [h2];grind
  refine ⟨?_,by omega,by omega,h8,by omega,h5,by omega,h3,h4,h11⟩
  have:(hi*18446744073709551616+lo)*P=hi*P*18446744073709551616+lo*P:=by grind
  rw [this,h11,hu];grind
theorem aMI {N c P y q1 q0 u d1 d0 u2 r0 w:Int} (hc:1<=c) (hP:1<=P) (hy:y=c*P) (hN:N*P=u*18446744073709551616+w) (hw:w=d1*4294967296+d0) (h1:u*4294967296+d1=q1*y+u2) (h2:u2*4294967296+d0=q0*y+r0) (hr:0<=r0/\r0<y) :
    q1*4294967296+q0=N / c/\r0 / P=N % c:=by
  have e1:N*P=(q1*4294967296+q0)*y+r0:=by rw [hN,hw];grind
  have e2:r0=(N-(q1*4294967296+q0)*c)*P:=by
    have:(N-(q1*4294967296+q0)*c)*P=N*P-(q1*4294967296+q0)*(c*P):=by grind
    rw [this,<- hy];omega
  generalize hM:N-(q1*4294967296+q0)*c=M at *
  have m0:0<=M:=by
    rcases Int.lt_or_le M 0 with h | h
    · have:M*P<0:=Int.mul_neg_of_neg_of_pos h (by omega)
      omega
    · exact h
  have m1:M<c:=by
    apply Int.lt_of_mul_lt_mul_right (a:=P) _ (by omega)
    rw [<- e2,<- hy];exact hr.2
  have e3:N=M+(q1*4294967296+q0)*c:=by omega
  constructor
  · rw [e3,Int.add_mul_ediv_right _ _ (by omega),Int.ediv_eq_zero_of_lt m0 m1];omega
  · rw [e3,Int.add_mul_emod_self_right,Int.emod_eq_of_lt m0 m1,e2,Int.mul_ediv_cancel _ (by omega)]
theorem aPL {c:Int} (hc:1<=c/\c<=9223372036854775807):∃ s:Nat,JK c=some (s:Int)/\1<=s/\s<=63/\9223372036854775808<=c*2 ^ s/\c*2 ^ s<18446744073709551616:=by
  obtain ⟨_,hL,L,rfl,L63,g1,g2⟩:=aUL (x:=c) ⟨hc.1,by omega⟩
  have L62:L<=62:=by
    rcases Nat.lt_or_ge L 63 with h | h
    · omega
    · have:L=63:=by omega
      subst this
      have:(2:Int) ^ 63=9223372036854775808:=by decide
      omega
  have p:(0:Int)<=2 ^ (63-L):=Int.pow_nonneg (by decide)
  have p':(0:Int)<2 ^ (63-L):=Int.pow_pos (by decide)
  have e1:(2:Int) ^ L*2 ^ (63-L)=9223372036854775808:=by rw [<- Int.pow_add,show L+(63-L)=63 from by omega];decide
  have e2:(2:Int) ^ (L+1)*2 ^ (63-L)=18446744073709551616:=by rw [<- Int.pow_add,show L+1+(63-L)=64 from by omega];decide
  refine ⟨63-L,?_,by omega,by omega,?_,?_⟩
  · unfold JK aEE
    simp only [WT.run,bU]
    refine xV hL (uE (v:=((63-L:Nat):Int)) ?_ rfl)
    rw [show (64:Int)-((L:Int)+1)=((63-L:Nat):Int) from by omega]
    exact wrap64 (by omega)
  · rw [<- e1];exact Int.mul_le_mul_of_nonneg_right g1 p
  · rw [<- e2];exact Int.mul_lt_mul_of_pos_right g2 p'
theorem aUX {n:Nat} {hi lo c:Int} (hn:5<n) (hc:1<=c/\c<=9223372036854775807) (hh:0<=hi/\hi<c) (hl:0<=lo/\lo<=18446744073709551615):DR n hi lo c=some ((hi*18446744073709551616+lo) / c,(hi*18446744073709551616+lo) % c):=by
  by_cases h0:hi=0
  · rw [h0,aJX hl hc,Int.zero_mul,Int.zero_add]
  · obtain ⟨s,hs,s1,s63,y1,y2⟩:=aPL hc
    generalize hP:(2:Int) ^ s=P at *
    generalize hR:(2:Int) ^ (64-s)=R
    have hP1:1<=P:=by rw [<- hP];have:(0:Int)<2 ^ s:=Int.pow_pos (by decide);omega
    have hR1:1<=R:=by rw [<- hR];have:(0:Int)<2 ^ (64-s):=Int.pow_pos (by decide);omega
    have hPR:P*R=18446744073709551616:=by rw [<- hP,<- hR,<- Int.pow_add,show s+(64-s)=64 from by omega];decide
    generalize hy:c*P=y at *
    generalize hu:hi*P+lo / R=u
    generalize hw:(lo % R)*P=w
    obtain ⟨k1,k2,k3,k4,k5,k6,k7,k8,k9,k10⟩:=aKE hc.1 hh hl hP1 hR1 hPR hy.symm hu.symm hw.symm
    have ww:wu64 (lo*P)=w:=by rw [D8,k10];omega
    have hor:((BitVec.ofInt IntKind.u64.bits (hi*P) ||| BitVec.ofInt IntKind.u64.bits (lo / R)).toNat:Int)=u:=by
      rw [orK (k:=s) (t:=hi) (by rw [hP];exact Int.mul_comm _ _) hh.1 (by omega) (by rw [hP];omega) (by omega),hu]
    have hyy:y=y / 4294967296*4294967296+y % 4294967296:=by omega
    generalize hy1:y / 4294967296=b1 at *
    generalize hy0:y % 4294967296=b0 at *
    have B1:2147483648<=b1/\b1<4294967296:=by omega
    have B0:0<=b0/\b0<4294967296:=by omega
    have hww:w=w / 4294967296*4294967296+w % 4294967296:=by omega
    generalize hd1:w / 4294967296=d1 at *
    generalize hd0:w % 4294967296=d0 at *
    have D1:0<=d1/\d1<4294967296:=by omega
    have D0:0<=d0/\d0<4294967296:=by omega
    have digit:∀ u d:Int,0<=u->u<y->0<=d->d<4294967296->∃ q r Q v:Int,wu64 (u.tdiv b1)=q/\wu64 (q*b1)=q*b1/\wu64 (u-q*b1)=r/\u=q*b1+r/\(u*4294967296+d) / y<=q/\0<=r/\r<4294967296/\q<=18446744073709551615 /\
        (u*4294967296+d) / y=Q/\u*4294967296+d=Q*y+v/\0<=v/\v<y/\0<=Q/\Q<4294967296/\wu64 (wu64 (wu64 (u*4294967296)+d)-wu64 (Q*y))=v:=by
      intro u d u0 u1 d0 d1
      have q0:0<=u / b1:=Int.ediv_nonneg u0 (by omega)
      have q1:u / b1<=u:=Int.ediv_le_self _ u0
      have r0:0<=u % b1:=Int.emod_nonneg _ (by omega)
      have r1:u % b1<b1:=Int.emod_lt_of_pos _ (by omega)
      have e:b1*(u / b1)+u % b1=u:=Int.mul_ediv_add_emod u b1
      have ec:b1*(u / b1)=u / b1*b1:=Int.mul_comm _ _
      have qb:0<=u / b1*b1:=Int.mul_nonneg q0 (by omega)
      have Q0:0<=(u*4294967296+d) / y:=Int.ediv_nonneg (by omega) (by omega)
      have QB:(u*4294967296+d) / y<4294967296:=by
        apply Int.ediv_lt_of_lt_mul (by omega)
        have:4294967296*y=y*4294967296:=Int.mul_comm _ _
        omega
      have v0:0<=(u*4294967296+d) % y:=Int.emod_nonneg _ (by omega)
      have v1:(u*4294967296+d) % y<y:=Int.emod_lt_of_pos _ (by omega)
      have ev:y*((u*4294967296+d) / y)+(u*4294967296+d) % y=u*4294967296+d:=Int.mul_ediv_add_emod _ _
      have evc:y*((u*4294967296+d) / y)=(u*4294967296+d) / y*y:=Int.mul_comm _ _
      have hq:(u*4294967296+d) / y<=u / b1:=by
        generalize hQ:(u*4294967296+d) / y=Q at *
        apply Int.le_ediv_of_mul_le (by omega)
        have e3:Q*y=Q*b1*4294967296+Q*b0:=by
          have:y=b1*4294967296+b0:=hyy
          rw [this];grind
        have e4:0<=Q*b0:=Int.mul_nonneg Q0 B0.1
        have e5:Q*y<=u*4294967296+d:=by rw [<- evc,<- ev];exact Int.le_add_of_nonneg_right v0
        clear ev evc
        generalize Q*b1=X at *
        generalize Q*b0=Z at *
        generalize Q*y=W at *
        clear q0 q1 r0 r1 e ec v0 v1 QB k1 k10 hww
        omega
      refine ⟨u / b1,u % b1,_,_,?_,?_,?_,by omega,hq,r0,by omega,by omega,rfl,by rw [<- evc];exact ev.symm,v0,v1,Q0,QB,?_⟩
      · rw [Int.tdiv_eq_ediv_of_nonneg u0];exact mJ (by omega)
      · exact mJ (by omega)
      · rw [show u-u / b1*b1=u % b1 from by omega];exact mJ (by omega)
      · generalize (u*4294967296+d) / y*y=X at *
        generalize (u*4294967296+d) % y=v at *
        simp only [D8];omega
    obtain ⟨qa,ra,Q1,u2,a1,a2,a3,a4,a5,a6,a7,a8,a9,pQ,oL,a12,yF,KF,FU⟩:=digit u d1 k2 k3 D1.1 D1.2
    obtain ⟨qb,rb,Q2,r0,c1,c2,c3,c4,c5,c6,c7,c8,c9,c10,c11,c12,c13,c14,c15⟩:=digit u2 d0 oL a12 D0.1 D0.2
    have l0:=ZB hn hyy B0 B1 ⟨k2,k3⟩ D1 a4 a5 a6 a7 a8
    have l1:=ZB hn hyy B0 B1 ⟨oL,a12⟩ D0 c4 c5 c6 c7 c8
    rw [a9] at l0
    rw [c9] at l1
    rw [<- aIC] at l1
    obtain ⟨z1,z2⟩:=aMI hc.1 hP1 hy.symm k1 hww pQ c10 ⟨c11,c12⟩
    unfold DR V9
    simp only [WT.run,bU]
    refine rY (by omega) (rO (rY (by omega) (rO (rY h0 (rO (xV hs ?_))))))
    refine zB (by omega) (wN (by omega) (VX (t:=s) (y:=y) (by omega) (by omega) hP (by rw [hy];exact mJ (by omega)) ?_))
    refine aBG (aCH (by omega) (wN (by omega) (VX (t:=s) (y:=hi*P) (by omega) (by omega) hP (mJ (by omega)) ?_)))
    refine zB (by omega) (wN (by omega) (aHP (t:=64-s) (by omega) (by omega) hR (by omega) ?_))
    refine aUG hor (by omega) (wN (by omega) (VX (t:=s) (by omega) (by omega) hP ww ?_))
    refine aBG (aCH (by omega) ?_)
    rw [hy1,hy0,hd1,hd0]
    refine wN (by omega) (uE a1 (uE a2 (uE a3 (xV l0 ?_))))
    refine DF (DF (DF (uE FU ?_)))
    refine wN (by omega) (uE c1 (uE c2 (uE c3 (xV l1 ?_))))
    refine zB (by omega) (zB (by omega) (DF (DF (DF (uE c15 (wN (by omega) (aHP (t:=s) (by omega) (by omega) hP (by omega) ?_)))))))
    rw [z1,z2]
theorem SX {n:Nat} {a b c:Int} (hn:66<n) (ha:-9223372036854775808<=a/\a<=9223372036854775807) (hb:-9223372036854775808<=b/\b<=9223372036854775807) (hc:-9223372036854775808<=c/\c<=9223372036854775807):vJ n a b c=some (md a b c):=by
  unfold vJ aF4 md
  simp only [WT.run,bU]
  by_cases k:a<0\/b<0\/c<1
  · rw [if_pos k]
    refine xV (a:=true) ?_ (zZ rfl)
    by_cases k1:a<0
    · exact zN k1 (zZ rfl)
    · refine rY k1 (rO ?_)
      by_cases k2:b<0
      · exact zN k2 (zZ rfl)
      · exact rY k2 (rO (zN (by omega) rfl))
  · rw [if_neg k]
    have ha':0<=a/\a<=9223372036854775807:=by omega
    have hb':0<=b/\b<=9223372036854775807:=by omega
    have hc':1<=c/\c<=9223372036854775807:=by omega
    refine xV (a:=false) ?_ (rO (xV (aSH ha' hb') ?_))
    · exact rY (by omega) (rO (rY (by omega) (rO (rY (by omega) rfl))))
    have h0:0<=a*b:=Int.mul_nonneg ha'.1 hb'.1
    have hN:a*b / 18446744073709551616*18446744073709551616+a*b % 18446744073709551616=a*b:=by omega
    have hr:0<=a*b % c/\a*b % c<c:=⟨Int.emod_nonneg _ (by omega),Int.emod_lt_of_pos _ (by omega)⟩
    have hq0:0<=a*b / c:=Int.ediv_nonneg h0 (by omega)
    have hd:c*(a*b / c)+a*b % c=a*b:=Int.mul_ediv_add_emod _ _
    refine zB (by omega) ?_
    by_cases h1:a*b / 18446744073709551616>=c
    · refine zN h1 (zZ ?_)
      have:¬ a*b / c<=288230376151711744:=by
        intro hq
        have h5:c*(a*b / c)<=c*288230376151711744:=Int.mul_le_mul_of_nonneg_left hq (by omega)
        generalize a*b=N at *
        generalize c*(N / c)=X at *
        omega
      rw [if_pos (by omega)]
    · refine rY h1 (rO (zB (by omega) ?_))
      have hd:=aUX (n:=n) (by omega) (hi:=a*b / 18446744073709551616) hc' ⟨by omega,by omega⟩ (show 0<=a*b % 18446744073709551616/\a*b % 18446744073709551616<=18446744073709551615 by omega)
      rw [hN] at hd
      refine xV hd ?_
      by_cases h2:a*b / c>288230376151711744
      · rw [if_pos h2];exact zN h2 (zZ rfl)
      · rw [if_neg h2];exact rY h2 (rO (H6 (by omega) (H6 (by omega) rfl)))
end Go.Pv
