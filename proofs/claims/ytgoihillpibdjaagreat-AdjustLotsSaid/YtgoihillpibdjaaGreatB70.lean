import Derived.Test.YtgoihillpibdjaaGreatX90g
import Derived.Test.YtgoihillpibdjaaGreatPvAM
import Derived.Test.YtgoihillpibdjaaGreatPwI
set_option linter.unusedVariables false
set_option linter.unusedSimpArgs false
namespace Go.Pv
section
variable {α β γ δ R:Type}
theorem gZ {x:α} {f:α->Option β} {r:Option β} (h:f x=r):bnd x f=r:=h
theorem iO {x:Int} {f:Int->Option β} {r:Option β} (hx:-9223372036854775808<=x/\x<=9223372036854775807) (h:f x=r):bnd (aW x) f=r:=by
  show f (aW x)=r
  rw [show aW x=x from wrap64 hx];exact h
theorem fJ {p:Prop} [Decidable p] {f:Bool->Option β} {r:Option β} (hp:p) (h:f true=r):bnd (decide p) f=r:=by
  show f (decide p)=r
  rw [decide_eq_true hp];exact h
theorem eB {p:Prop} [Decidable p] {f:Bool->Option β} {r:Option β} (hp:¬ p) (h:f false=r):bnd (decide p) f=r:=by
  show f (decide p)=r
  rw [decide_eq_false hp];exact h
theorem fC {a b:Option β} {r:Option β} (h:a=r):cond true a b=r:=h
theorem dB {a b:Option β} {r:Option β} (h:b=r):cond false a b=r:=h
theorem oZ {p:Prop} [Decidable p] {k r:Option β} (hp:p) (h:k=r):iQ p k=r:=by unfold iQ;rw [if_pos hp];exact h
theorem dA {x:Option α} {f:α->Option β} {a:α} {r:Option β} (hx:x=some a) (h:f a=r):x.bind f=r:=by rw [hx];exact h
theorem iA {l:List α} {i:Int} {v:α} {f:α->Option β} {r:Option β} (h0:0<=i) (hl:l[i.toNat]?=some v) (h:f v=r):(ix l i).bind f=r:=by
  unfold ix;rw [if_neg (by omega),hl];exact h
theorem uS {f:α->β->Option γ} {a:α} {b:β} {r:Option γ} (h:f a b=r):p2 f (a,b)=r:=h
theorem WE {f:α->Option β} {a:α} {r:Option β} (h:f a=r):sel f (.inl a)=r:=h
theorem uX {x:Int} {f:Int->Option β} {r:Option β} (hx:0<=x/\x<=18446744073709551615) (h:f x=r):bnd (wu64 x) f=r:=by
  show f (wu64 x)=r
  rw [show wu64 x=x from iC hx];exact h
end
def Ex {β:Type} (P:β->Prop) (D:Option β):Prop:=∃ r,D=some r/\P r
theorem aD {α β:Type} {P:β->Prop} {x:α} {f:α->Option β} (h:Ex P (f x)):Ex P (bnd x f):=h
theorem eX {β:Type} {P:β->Prop} {c:Bool} {a b:Option β} (h1:c=true->Ex P a) (h2:c=false->Ex P b):Ex P (cond c a b):=by cases c;exact h2 rfl;exact h1 rfl
theorem iF {β:Type} {P:β->Prop} {p:Prop} [Decidable p] {k:Option β} (hp:p) (h:Ex P k):Ex P (iQ p k):=by unfold iQ;rw [if_pos hp];exact h
theorem aT {α β:Type} {P:β->Prop} (Q:α->Prop) {x:Option α} {f:α->Option β} (h1:Ex Q x) (h2:∀ a,Q a->Ex P (f a)):Ex P (x.bind f):=by
  obtain ⟨a,e,hq⟩:=h1;subst e;exact h2 a hq
theorem x_eq {α β:Type} {P:β->Prop} {x:Option α} {a:α} {f:α->Option β} (e:x=some a) (h:Ex P (f a)):Ex P (x.bind f):=by subst e;exact h
theorem eF {α β:Type} {P:β->Prop} {l:List α} {i:Int} {f:α->Option β} (h0:0<=i) (h1:i<(l.length:Int)) (h2:∀ a,l[i.toNat]?=some a->Ex P (f a)):Ex P ((ix l i).bind f):=by
  have hl:i.toNat<l.length:=by omega
  have e:l[i.toNat]?=some l[i.toNat]:=List.getElem?_eq_getElem hl
  obtain ⟨r,h3,h4⟩:=h2 _ e
  exact ⟨r,iA h0 e h3,h4⟩
theorem bE {α β γ:Type} {P:γ->Prop} {f:α->β->Option γ} {q:α×β} (h:Ex P (f q.1 q.2)):Ex P (p2 f q):=h
theorem aF {α:Type} {P:α->Prop} {a:α} (h:P a):Ex P (some a):=⟨a,rfl,h⟩
theorem gL {β:Type} {P:β->Prop} {x:Int} {f:Int->Option β} (hx:-9223372036854775808<=x/\x<=9223372036854775807) (h:Ex P (f x)):Ex P (bnd (aW x) f):=by
  obtain ⟨r,e,hp⟩:=h;exact ⟨r,iO hx e,hp⟩
theorem N8 {β:Type} {P Q:β->Prop} {D:Option β} (h:Ex P D) (hq:∀ r,P r->Q r):Ex Q D:=by obtain ⟨r,e,p⟩:=h;exact ⟨r,e,hq r p⟩
theorem jI {α β:Type} {P:β->Prop} {f:α->Option β} {r:α⊕β} (h1:∀ a,r=.inl a->Ex P (f a)) (h2:∀ b,r=.inr b->P b):Ex P (sel f r):=by
  cases r with
  | inl a=>exact h1 a rfl
  | inr b=>exact ⟨b,rfl,h2 b rfl⟩
theorem fM {V J:Type} {P:J->Prop} {f:V->Option (V⊕J)} (I:V->Prop) (μ:V->Nat)
    (hs:∀ v,I v->Ex (λr=>match r with | .inl v'=>I v'/\μ v' < μ v | .inr j=>P j) (f v)):∀ {n:Nat} {v:V},I v->μ v<n->Ex P (iter f n v)
  | 0,v,_,hn=>absurd hn (Nat.not_lt_zero _)
  | n+1,v,hv,hn=>by
    show Ex P ((f v).bind (sel λv'=>iter f n v'))
    refine aT _ (hs v hv) λr hr=>jI (λa e=>?_) (λb e=>?_)
    · subst e;exact fM I μ hs hr.1 (by have:=hr.2;omega)
    · subst e;exact hr
theorem bK {α β:Type} {P:α⊕β->Prop} {x:Option β} (h:Ex (λb=>P (.inr b)) x):Ex P (esc x):=by obtain ⟨r,e,p⟩:=h;subst e;exact ⟨_,rfl,p⟩
theorem bX {α β:Type} {P:α⊕β->Prop} {a:α} (h:P (.inl a)):Ex P (brk a:Option (α⊕β)):=⟨_,rfl,h⟩
theorem H6 {β:Type} {P:β->Prop} {D:Option β} {r:β} (h:Ex P D) (e:D=some r):P r:=by obtain ⟨s,e',p⟩:=h;rw [e] at e';cases e';exact p
open Go.Proofs
def bQ (a:Int):Prop:=-288230376151711744<=a/\a<=288230376151711744
instance (a:Int):Decidable (bQ a):=inferInstanceAs (Decidable (_/\_))
theorem CL (a:Int):nU a=some (decide (bQ a)):=by
  unfold nU YG bQ
  simp only [WT.run,bR]
  by_cases h1:a>=-288230376151711744
  · by_cases h2:a<=288230376151711744
    · simp [bnd,h1,h2,cond]
    · simp [bnd,h1,h2,cond]
  · simp [bnd,h1,cond]
def jK (a b:Int):Int×Int:=if bQ a/\bQ b/\bQ (a+b) then (a+b,0) else (0,2)
theorem vZ (a b:Int):sK a b=some (jK a b):=by
  unfold sK aHC jK
  simp only [WT.run,bR,CL,Option.bind_some]
  by_cases h1:bQ a
  · by_cases h2:bQ b
    · have e:aW (a+b)=a+b:=by unfold bQ at h1 h2;exact wrap64 (by omega)
      by_cases h3:bQ (a+b)
      · simp [bnd,h1,h2,h3,cond,e]
      · simp [bnd,h1,h2,h3,cond,e]
    · simp [bnd,h1,h2,cond]
  · simp [bnd,h1,cond]
def iD:Int->List Int->Option Int
  | n,[]=>some n
  | n,x :: r=>if bQ n/\bQ x/\bQ (n+x) then iD (n+x) r else none
def gG (l:List Int):Int×Int:=match iD 0 l with | some v=>(v,0) | none=>(0,2)
theorem drop_at {α:Type} {l:List α} {i:Nat} {x:α} (h:l[i]?=some x):i<l.length/\l.drop i=x :: l.drop (i+1):=by
  obtain ⟨hi,e⟩:=List.getElem?_eq_some_iff.1 h
  subst e;exact ⟨hi,List.drop_eq_getElem_cons hi⟩
theorem uH {l:List Int} {n:Nat} (hn:l.length+1<n) (hl:(l.length:Int)<1000000000):nK n l=some (gG l):=by
  have key:Ex (λr=>r=gG l) (nK n l):=by
    unfold nK WX
    simp only [WT.run,bR,vZ,Option.bind_some]
    refine aT (λ(r:Int⊕(Int×Int))=>match r with | .inl a=>iD 0 l=some a | .inr q=>q=gG l) (fM (λ(v:Int×Int)=>0<=v.2/\v.2<=(l.length:Int)/\iD 0 l=iD v.1 (l.drop v.2.toNat)) (λ(v:Int×Int)=>l.length-v.2.toNat) ?_ (v:=(0,0)) (by simp) (by simp;omega)) ?_
    · rintro ⟨s,i⟩ ⟨h0,h1,h2⟩
      refine bE (aD (eX (λh=>?_) λh=>?_))
      · have h:=of_decide_eq_true h
        simp only at h0 h1 h2 h
        refine eF h0 h λx hx=>?_
        refine aD (eX (λh3=>?_) λh3=>?_)
        · refine bK (bK (aF ?_))
          have h3:=of_decide_eq_true h3
          have e2:iD 0 l=none:=by
            rw [h2,(drop_at hx).2];unfold jK at h3;unfold iD
            by_cases h4:bQ s/\bQ x/\bQ (s+x)
            · rw [if_pos h4] at h3;exact absurd rfl h3
            · rw [if_neg h4]
          have e3:(jK s x).2=2:=by
            unfold jK at h3 ⊢
            by_cases h4:bQ s/\bQ x/\bQ (s+x)
            · rw [if_pos h4] at h3;exact absurd rfl h3
            · rw [if_neg h4]
          show ((0:Int),(jK s x).2)=gG l
          unfold gG;rw [e2,e3]
        · have h3:=of_decide_eq_false h3
          have h4:bQ s/\bQ x/\bQ (s+x):=by
            by_cases h4:bQ s/\bQ x/\bQ (s+x)
            · exact h4
            · unfold jK at h3;rw [if_neg h4] at h3;exact absurd (show ((0:Int),(2:Int)).snd≠0 by decide) h3
          refine gL (by omega) (bX ⟨⟨by omega,by omega,?_⟩,?_⟩)
          · have e:(i+1).toNat=i.toNat+1:=by omega
            show iD 0 l=iD (jK s x).1 (l.drop (i+1).toNat)
            rw [h2,(drop_at hx).2,e];unfold jK;rw [if_pos h4,iD,if_pos h4]
          · show l.length-(i+1).toNat<l.length-i.toNat
            omega
      · have h:=of_decide_eq_false h
        refine bK (bX ?_)
        have e:l.drop i.toNat=[]:=List.drop_eq_nil_of_le (by simp only at h h0;omega)
        show iD 0 l=some s
        rw [h2,e];rfl
    · intro r hr
      refine jI (λa e=>aF ?_) λq e=>?_
      · subst e;show (a,(0:Int))=gG l;unfold gG;rw [show iD 0 l=some a from hr]
      · subst e;exact hr
  obtain ⟨r,e,rfl⟩:=key;exact e
theorem CU {x:Int} (h:0<=x/\x<=18446744073709551615):(BitVec.ofInt IntKind.u64.bits x).toNat=x.toNat:=by
  show (BitVec.ofInt 64 x).toNat=x.toNat
  rw [BitVec.toNat_ofInt]
  have:x % ((2 ^ 64:Nat):Int)=x:=Int.emod_eq_of_lt h.1 (by show x<18446744073709551616;omega)
  rw [this]
theorem AX {x:Int} (h:0<=x/\x<=18446744073709551615):((BitVec.ofInt IntKind.u64.bits x &&& BitVec.ofInt IntKind.u64.bits 4294967295).toNat:Int)=x % 4294967296:=by
  rw [BitVec.toNat_and,CU h,CU (by decide)]
  have:x.toNat &&& (4294967295:Int).toNat=x.toNat % 4294967296:=Nat.and_two_pow_sub_one_eq_mod x.toNat 32
  rw [this];omega
theorem and1 {x:Int} (h:0<=x/\x<=18446744073709551615):((BitVec.ofInt IntKind.u64.bits x &&& BitVec.ofInt IntKind.u64.bits 1).toNat:Int)=x % 2:=by
  rw [BitVec.toNat_and,CU h,CU (by decide)]
  have:x.toNat &&& (1:Int).toNat=x.toNat % 2:=Nat.and_two_pow_sub_one_eq_mod x.toNat 1
  rw [this];omega
theorem IS {a b t:Int} {k:Nat} (ha:a=2 ^ k*t) (ht:0<=t) (h:a<=18446744073709551615) (hb:0<=b/\b<2 ^ k) (hb2:b<=18446744073709551615):((BitVec.ofInt IntKind.u64.bits a ||| BitVec.ofInt IntKind.u64.bits b).toNat:Int)=a+b:=by
  have p2:(0:Int)<=2 ^ k:=Int.pow_nonneg (by decide)
  have ha0:0<=a:=by rw [ha];exact Int.mul_nonneg p2 ht
  rw [BitVec.toNat_or,CU ⟨ha0,h⟩,CU ⟨hb.1,hb2⟩]
  have e1:a.toNat=2 ^ k*t.toNat:=by
    apply Int.ofNat.inj
    show ((a.toNat:Nat):Int)=((2 ^ k*t.toNat:Nat):Int)
    rw [Int.toNat_of_nonneg ha0,ha,Int.natCast_mul,Int.toNat_of_nonneg ht];simp
  have e2:b.toNat<2 ^ k:=by
    have:((b.toNat:Nat):Int)<((2 ^ k:Nat):Int):=by rw [Int.toNat_of_nonneg hb.1];simpa using hb.2
    omega
  rw [e1,<- Nat.two_pow_add_eq_or_of_lt e2,<- e1]
  omega
theorem AZ {x y X Y:Int} (hx:0<=x/\x<=X) (hy:0<=y/\y<=Y):0<=x*y/\x*y<=X*Y :=
  ⟨Int.mul_nonneg hx.1 hy.1,Int.le_trans (Int.mul_le_mul_of_nonneg_left hy.2 hx.1) (Int.mul_le_mul_of_nonneg_right hx.2 (by omega))⟩
theorem Z4 {a b:Int} (ha:0<=a/\a<=9223372036854775807) (hb:0<=b/\b<=9223372036854775807) :
    ∃ p q r s:Int,p=(a % 4294967296)*(b % 4294967296)/\q=(a / 4294967296)*(b % 4294967296)/\r=(a % 4294967296)*(b / 4294967296)/\s=(a / 4294967296)*(b / 4294967296) /\
      (0<=p/\p<=18446744065119617025)/\(0<=q/\q<=9223372030412324865)/\(0<=r/\r<=9223372030412324865)/\(0<=s/\s<=4611686014132420609)/\a*b=s*18446744073709551616+(q+r)*4294967296+p:=by
  refine ⟨_,_,_,_,rfl,rfl,rfl,rfl,?_,?_,?_,?_,?_⟩
  · exact AZ (X:=4294967295) (Y:=4294967295) (by omega) (by omega)
  · exact AZ (X:=2147483647) (Y:=4294967295) (by omega) (by omega)
  · exact AZ (X:=4294967295) (Y:=2147483647) (by omega) (by omega)
  · exact AZ (X:=2147483647) (Y:=2147483647) (by omega) (by omega)
  · generalize e1:a / 4294967296=a1
    generalize e0:a % 4294967296=a0
    generalize f1:b / 4294967296=b1
    generalize f0:b % 4294967296=b0
    have ea:a=a1*4294967296+a0:=by omega
    have eb:b=b1*4294967296+b0:=by omega
    rw [ea,eb];grind
theorem aAD {u y y1 y0 d q r:Int} (hy:y=y1*4294967296+y0) (h0:0<=y0/\y0<4294967296) (h1:2147483648<=y1/\y1<4294967296) (hu:0<=u/\u<y) (hd:0<=d/\d<4294967296) (hr:u=q*y1+r) (hq:(u*4294967296+d) / y<=q)
    (hc:q>=4294967296\/q*y0>4294967296*r+d):(u*4294967296+d) / y<=q-1:=by
  have hy0:0<y:=by omega
  have key:(u*4294967296+d) / y<q:=by
    rcases hc with h | h
    · have:(u*4294967296+d) / y<4294967296:=by
        apply Int.ediv_lt_of_lt_mul hy0
        have:u*4294967296+d<(u+1)*4294967296:=by omega
        have h2:(u+1)*4294967296<=y*4294967296:=by omega
        have h3:y*4294967296=4294967296*y:=Int.mul_comm _ _
        omega
      omega
    · apply Int.ediv_lt_of_lt_mul hy0
      have:q*y=(q*y1)*4294967296+q*y0:=by rw [hy];grind
      omega
  omega
theorem aEO {u y y1 y0 d q r:Int} (hy:y=y1*4294967296+y0) (h0:0<=y0/\y0<4294967296) (h1:2147483648<=y1/\y1<4294967296) (hu:0<=u/\u<y) (hd:0<=d/\d<4294967296) (hr:u=q*y1+r) (hq:(u*4294967296+d) / y<=q)
    (hc:(q<4294967296/\q*y0<=4294967296*r+d)\/r>=4294967296):q=(u*4294967296+d) / y:=by
  have hy0:0<y:=by omega
  have key:q<=(u*4294967296+d) / y:=by
    apply Int.le_ediv_of_mul_le hy0
    have e:q*y=(q*y1)*4294967296+q*y0:=by rw [hy];grind
    have hq0:0<=q:=Int.le_trans (Int.ediv_nonneg (by omega) (by omega)) hq
    rcases hc with h | h
    · omega
    · have hqB:q<4294967296:=by
        apply Int.lt_of_mul_lt_mul_right (a:=y1) _ (by omega)
        have:4294967296*y1=y1*4294967296:=Int.mul_comm _ _
        omega
      have:=(AZ (X:=4294967295) (Y:=4294967295) ⟨hq0,by omega⟩ ⟨h0.1,by omega⟩).2
      omega
  omega
set_option maxRecDepth 100000
set_option maxHeartbeats 1000000
theorem eT {β:Type} {D:Option β} {x:β} (h:Ex (λr=>r=x) D):D=some x:=by obtain ⟨r,e,rfl⟩:=h;exact e
theorem rE (x:Int):wu64 x=x % 18446744073709551616:=aQ4 x
theorem aHQ {p q r s ab:Int} (bp:0<=p/\p<=18446744065119617025) (bq:0<=q/\q<=9223372030412324865) (br:0<=r/\r<=9223372030412324865) (bs:0<=s/\s<=4611686014132420609) (e:ab=s*18446744073709551616+(q+r)*4294967296+p) :
    ((s+q / 4294967296) % 18446744073709551616+r / 4294967296) % 18446744073709551616=s+q / 4294967296+r / 4294967296/\s+q / 4294967296+r / 4294967296+(p / 4294967296+q % 4294967296+r % 4294967296) / 4294967296=ab / 18446744073709551616 /\
      0<=ab / 18446744073709551616/\ab / 18446744073709551616<18446744073709551616/\(p / 4294967296+q % 4294967296+r % 4294967296) % 4294967296*4294967296+p % 4294967296=ab % 18446744073709551616:=by
  have hp:p=p / 4294967296*4294967296+p % 4294967296:=by omega
  have hq:q=q / 4294967296*4294967296+q % 4294967296:=by omega
  have hr:r=r / 4294967296*4294967296+r % 4294967296:=by omega
  have hp0:0<=p % 4294967296/\p % 4294967296<4294967296:=by omega
  have hp1:0<=p / 4294967296/\p / 4294967296<4294967296:=by omega
  have hq0:0<=q % 4294967296/\q % 4294967296<4294967296:=by omega
  have hq1:0<=q / 4294967296/\q / 4294967296<4294967296:=by omega
  have hr0:0<=r % 4294967296/\r % 4294967296<4294967296:=by omega
  have hr1:0<=r / 4294967296/\r / 4294967296<4294967296:=by omega
  generalize p / 4294967296=p1 at *
  generalize p % 4294967296=p0 at *
  generalize q / 4294967296=q1 at *
  generalize q % 4294967296=q0 at *
  generalize r / 4294967296=r1 at *
  generalize r % 4294967296=r0 at *
  have hm:p1+q0+r0=(p1+q0+r0) / 4294967296*4294967296+(p1+q0+r0) % 4294967296:=by omega
  have hm0:0<=(p1+q0+r0) % 4294967296/\(p1+q0+r0) % 4294967296<4294967296:=by omega
  have hm1:0<=(p1+q0+r0) / 4294967296/\(p1+q0+r0) / 4294967296<=2:=by omega
  generalize (p1+q0+r0) / 4294967296=m1 at *
  generalize (p1+q0+r0) % 4294967296=m0 at *
  have hab:ab=(s+q1+r1+m1)*18446744073709551616+(m0*4294967296+p0):=by omega
  have h1:ab / 18446744073709551616=s+q1+r1+m1:=by omega
  have h2:ab % 18446744073709551616=m0*4294967296+p0:=by omega
  rw [h1,h2]
  refine ⟨?_,rfl,?_,?_,rfl⟩ <;> omega
theorem f32 (x:Int):x.fdiv (2 ^ (min (32:Int).toNat IntKind.u64.bits))=x / 4294967296:=by
  show x.fdiv 4294967296=_
  exact Int.fdiv_eq_ediv_of_nonneg x (by decide)
theorem s32 (x:Int):x*(2 ^ (min (32:Int).toNat IntKind.u64.bits))=x*4294967296:=rfl
theorem ZI {a b:Int} (ha:0<=a/\a<=9223372036854775807) (hb:0<=b/\b<=9223372036854775807):ET a b=some (a*b / 18446744073709551616,a*b % 18446744073709551616):=by
  obtain ⟨p,q,r,s,hp,hq,hr,hs,bp,bq,br,bs,e⟩:=Z4 ha hb
  have wa:wu64 a=a:=iC (by omega)
  have wb:wu64 b=b:=iC (by omega)
  have t1:wu64 (a % 4294967296)=a % 4294967296:=iC (by omega)
  have t2:wu64 (b % 4294967296)=b % 4294967296:=iC (by omega)
  have wp:wu64 (a % 4294967296*(b % 4294967296))=p:=by rw [<- hp];exact iC (by omega)
  have wq:wu64 (a / 4294967296*(b % 4294967296))=q:=by rw [<- hq];exact iC (by omega)
  have wr:wu64 (a % 4294967296*(b / 4294967296))=r:=by rw [<- hr];exact iC (by omega)
  have ws:wu64 (a / 4294967296*(b / 4294967296))=s:=by rw [<- hs];exact iC (by omega)
  have wd:wu64 (r % 4294967296)=r % 4294967296:=iC (by omega)
  have wd2:wu64 (q % 4294967296)=q % 4294967296:=iC (by omega)
  have wd3:wu64 (p % 4294967296)=p % 4294967296:=iC (by omega)
  have we:wu64 (p / 4294967296+r % 4294967296)=p / 4294967296+r % 4294967296:=iC (by omega)
  have wf:wu64 (p / 4294967296+r % 4294967296+q % 4294967296)=p / 4294967296+r % 4294967296+q % 4294967296:=iC (by omega)
  have hor:((BitVec.ofInt IntKind.u64.bits (wu64 ((p / 4294967296+r % 4294967296+q % 4294967296)*4294967296)) ||| BitVec.ofInt IntKind.u64.bits (p % 4294967296)).toNat:Int)=wu64 ((p / 4294967296+r % 4294967296+q % 4294967296)*4294967296)+p % 4294967296 :=
    IS (k:=32) (t:=wu64 ((p / 4294967296+r % 4294967296+q % 4294967296)*4294967296) / 4294967296) (by rw [rE];show _=4294967296*_;omega) (by rw [rE];omega) (by rw [rE];omega) (by show _/\_<(4294967296:Int);omega) (by omega)
  unfold ET aDK
  simp only [WT.run,bnd,wa,wb,f32,s32,AX (x:=a) (by omega),AX (x:=b) (by omega),t1,t2,wp,wq,wr,ws,AX (x:=p) (by omega),AX (x:=q) (by omega),AX (x:=r) (by omega),wd,wd2,wd3,we,wf,hor]
  obtain ⟨k1,k2,k3,k4,k5⟩:=aHQ (ab:=a*b) bp br bq bs (by rw [e,Int.add_comm q r])
  simp only [rE]
  rw [k1,k2,Int.emod_eq_of_lt k3 k4,<- k5]
  have k6:((p / 4294967296+r % 4294967296+q % 4294967296)*4294967296 % 18446744073709551616+p % 4294967296) % 18446744073709551616=(p / 4294967296+r % 4294967296+q % 4294967296) % 4294967296*4294967296+p % 4294967296:=by omega
  rw [k6]
section
variable {β:Type}
theorem lY {α:Type} {e v:α} {f:α->Option β} {r:Option β} (he:e=v) (h:f v=r):bnd e f=r:=by subst he;exact h
theorem yN {a e P y:Int} {t:Nat} {f:Int->Option β} {r:Option β} (he:e.toNat=t) (ht:t<=64) (hP:(2:Int) ^ t=P) (hy:wu64 (a*P)=y) (h:f y=r):bnd (wu64 (a*(2 ^ (min e.toNat IntKind.u64.bits)))) f=r:=by
  have:min e.toNat IntKind.u64.bits=t:=by rw [he];show min t 64=t;omega
  show f (wu64 (a*(2 ^ (min e.toNat IntKind.u64.bits))))=r
  rw [this,hP,hy];exact h
theorem NM {a e P:Int} {t:Nat} {f:Int->Option β} {r:Option β} (he:e.toNat=t) (ht:t<=64) (hP:(2:Int) ^ t=P) (h0:0<=P) (h:f (a / P)=r):bnd (a.fdiv (2 ^ (min e.toNat IntKind.u64.bits))) f=r:=by
  have:min e.toNat IntKind.u64.bits=t:=by rw [he];show min t 64=t;omega
  show f (a.fdiv (2 ^ (min e.toNat IntKind.u64.bits)))=r
  rw [this,hP,Int.fdiv_eq_ediv_of_nonneg a h0];exact h
theorem aEN {x:Int} {f:Int->Option β} {r:Option β} (hx:0<=x/\x<=18446744073709551615) (h:f (x % 4294967296)=r):bnd (wu64 ((BitVec.ofInt IntKind.u64.bits x &&& BitVec.ofInt IntKind.u64.bits 4294967295).toNat:Int)) f=r:=by
  show f (wu64 _)=r
  rw [AX hx,show wu64 (x % 4294967296)=x % 4294967296 from iC (by omega)];exact h
theorem MI {a b v:Int} {f:Int->Option β} {r:Option β} (hv:((BitVec.ofInt IntKind.u64.bits a ||| BitVec.ofInt IntKind.u64.bits b).toNat:Int)=v) (hr:0<=v/\v<=18446744073709551615) (h:f v=r):bnd (wu64 ((BitVec.ofInt IntKind.u64.bits a ||| BitVec.ofInt IntKind.u64.bits b).toNat:Int)) f=r:=by
  show f (wu64 _)=r
  rw [hv,show wu64 v=v from iC hr];exact h
end
def md (a b c:Int):Int×Int×Int:=if a<0\/b<0\/c<1 then (0,0,1) else if a*b / c>288230376151711744 then (0,0,2) else (a*b / c,a*b % c,0)
theorem aT3 {a b c:Int} (ha:0<=a/\a<=9223372036854775807) (hb:0<=b/\b<=9223372036854775807) (hc:1<=c/\c<=9223372036854775807) :
    (0<=a*b / 18446744073709551616)/\(0<=a*b % 18446744073709551616/\a*b % 18446744073709551616<=18446744073709551615)/\a*b / 18446744073709551616*18446744073709551616+a*b % 18446744073709551616=a*b /\
      (0<=a*b / c)/\(0<=a*b % c/\a*b % c<c)/\(a*b / 18446744073709551616<c↔a*b / c<=18446744073709551615):=by
  have h0:0<=a*b:=Int.mul_nonneg ha.1 hb.1
  have h1:0<=a*b / c:=Int.ediv_nonneg h0 (by omega)
  have h2:0<=a*b % c:=Int.emod_nonneg _ (by omega)
  have h3:a*b % c<c:=Int.emod_lt_of_pos _ (by omega)
  have h4:a*b / c<18446744073709551616↔a*b<18446744073709551616*c:=Int.ediv_lt_iff_lt_mul (by omega)
  generalize a*b=N at *
  refine ⟨by omega,by omega,by omega,h1,⟨h2,h3⟩,?_⟩
  omega
theorem aQ2 {hi lo N:Int} (hN:N=hi*18446744073709551616+lo) {k:Nat} (hk:k+1<=64):lo / 2 ^ k % 2=N / 2 ^ k % 2:=by
  have p:(0:Int)<2 ^ k:=Int.pow_pos (by decide)
  have e3:(18446744073709551616:Int)=2 ^ (63-k)*2*2 ^ k:=by
    have:(2:Int) ^ (63-k)*2*2 ^ k=2 ^ (63-k+1+k):=by rw [Int.pow_add,Int.pow_succ]
    rw [this,show 63-k+1+k=64 from by omega];decide
  have e4:N=lo+(hi*2 ^ (63-k)*2)*2 ^ k:=by
    rw [hN]
    have:hi*18446744073709551616=(hi*2 ^ (63-k)*2)*2 ^ k:=by
      conv=>lhs;rw [e3]
      grind
    omega
  rw [e4,Int.add_mul_ediv_right _ _ (by omega)]
  generalize hi*2 ^ (63-k)=z
  omega
theorem digit {c M:Int} (hc:1<=c) (M0:0<=M):(M / 2 % c*2+M % 2>=c->M % c=M / 2 % c*2+M % 2-c/\M / c=M / 2 / c*2+1)/\(¬ M / 2 % c*2+M % 2>=c->M % c=M / 2 % c*2+M % 2/\M / c=M / 2 / c*2):=by
  have q0:0<=M / 2 / c:=Int.ediv_nonneg (by omega) (by omega)
  have r0:0<=M / 2 % c:=Int.emod_nonneg _ (by omega)
  have r1:M / 2 % c<c:=Int.emod_lt_of_pos _ (by omega)
  have er:c*(M / 2 / c)+M / 2 % c=M / 2:=Int.mul_ediv_add_emod _ _
  generalize M / 2 / c=Q at *
  generalize M / 2 % c=R at *
  have step:∀ R' Q':Int,M=Q'*c+R'->0<=R'->R' < c->M % c=R'/\M / c=Q':=by
    intro R' Q' h g1 g2
    constructor
    · rw [h,Int.add_comm,Int.add_mul_emod_self_right,Int.emod_eq_of_lt g1 g2]
    · rw [h,Int.add_comm,Int.add_mul_ediv_right _ _ (by omega),Int.ediv_eq_zero_of_lt g1 g2];omega
  refine ⟨λhge=>step _ _ ?_ (by omega) (by omega),λhge=>step _ _ ?_ (by omega) (by omega)⟩
  · have:(Q*2+1)*c=c*Q*2+c:=by grind
    omega
  · have:(Q*2)*c=c*Q*2:=by grind
    omega
theorem wY {n:Nat} {a b c:Int} (hn:66<n) (ha:-9223372036854775808<=a/\a<=9223372036854775807) (hb:-9223372036854775808<=b/\b<=9223372036854775807) (hc:-9223372036854775808<=c/\c<=9223372036854775807):nM n a b c=some (md a b c):=by
  unfold nM XD md
  simp only [WT.run,bR]
  by_cases h1:a<0
  · rw [if_pos (.inl h1)];exact dA (a:=true) (fJ h1 (fC rfl)) (fC rfl)
  by_cases h2:b<0
  · rw [if_pos (.inr (.inl h2))];exact dA (a:=true) (eB h1 (dB (fJ h2 (fC rfl)))) (fC rfl)
  by_cases h3:c<1
  · rw [if_pos (.inr (.inr h3))];exact dA (a:=true) (eB h1 (dB (eB h2 (dB (fJ h3 rfl))))) (fC rfl)
  rw [if_neg (by omega)]
  obtain ⟨f1,f2,f3,f4,f5,f6⟩:=aT3 (a:=a) (b:=b) (c:=c) (by omega) (by omega) (by omega)
  refine dA (a:=false) (eB h1 (dB (eB h2 (dB (eB h3 rfl))))) (dB (dA (ZI (by omega) (by omega)) (uX (by omega) ?_)))
  by_cases h4:a*b / 18446744073709551616>=c
  · rw [if_pos (by omega)];exact fJ h4 (fC rfl)
  have hq:a*b / c<=18446744073709551615:=f6.1 (by omega)
  refine eB h4 (dB (dA (a:=(a*b % c,a*b / c)) (eT ?_) (uS ?_)))
  · generalize hN:a*b=N at *
    refine fM (λ(v:Int×Int×Int)=>∃ k:Nat,k<=64/\v=(N / 2 ^ k % c,N / 2 ^ k / c,(k:Int)-1)) (λ(v:Int×Int×Int)=>(v.2.2+1).toNat) ?_ ⟨64,by omega,?_⟩ (by show ((63:Int)+1).toNat<n;omega)
    · rintro v ⟨k,hk,rfl⟩
      cases k with
      | zero =>
        refine ⟨.inr (N % c,N / c),?_,rfl⟩
        have e:N / 2 ^ 0=N:=by show N / 1=N;omega
        rw [e]
        exact uS (uS (eB (by omega) (dB rfl)))
      | succ k =>
        have N0:0<=N:=by omega
        have p:(0:Int)<2 ^ k:=Int.pow_pos (by decide)
        have p2:(2:Int) ^ (k+1)=2 ^ k*2:=Int.pow_succ _ _
        have e1:N / 2 ^ (k+1)=N / 2 ^ k / 2:=by rw [p2,Int.ediv_ediv_of_nonneg (by omega)]
        have M0:0<=N / 2 ^ k:=Int.ediv_nonneg N0 (by omega)
        have MN:N / 2 ^ k<=N:=Int.ediv_le_self _ N0
        have hb:=aQ2 f3.symm (k:=k) hk
        have L0:0<=N % 18446744073709551616 / 2 ^ k:=Int.ediv_nonneg f2.1 (by omega)
        have L1:N % 18446744073709551616 / 2 ^ k<=N % 18446744073709551616:=Int.ediv_le_self _ f2.1
        have hqk:N / 2 ^ k / c<=18446744073709551615:=Int.le_trans (Int.ediv_le_ediv (by omega) MN) hq
        refine ⟨.inl (N / 2 ^ k % c,N / 2 ^ k / c,(k:Int)-1),?_,⟨k,by omega,rfl⟩,by show ((k:Int)-1+1).toNat<(((k+1:Nat):Int)-1+1).toNat;omega⟩
        rw [e1]
        obtain ⟨d1,d2⟩:=digit (c:=c) (M:=N / 2 ^ k) (by omega) M0
        generalize N / 2 ^ k=M at *
        have q0:0<=M / 2 / c:=Int.ediv_nonneg (by omega) (by omega)
        have r0:0<=M / 2 % c:=Int.emod_nonneg _ (by omega)
        have r1:M / 2 % c<c:=Int.emod_lt_of_pos _ (by omega)
        generalize M / 2 / c=Q at *
        generalize M / 2 % c=R at *
        have hor:((BitVec.ofInt IntKind.u64.bits (R*2) ||| BitVec.ofInt IntKind.u64.bits (M % 2)).toNat:Int)=R*2+M % 2 :=
          IS (k:=1) (t:=R) (by show R*2=2*R;omega) r0 (by omega) (by show _/\_<(2:Int);omega) (by omega)
        have hor2:Q*2<=18446744073709551615->((BitVec.ofInt IntKind.u64.bits (Q*2) ||| BitVec.ofInt IntKind.u64.bits 1).toNat:Int)=Q*2+1:=λh =>
          IS (k:=1) (t:=Q) (by show Q*2=2*Q;omega) q0 h (by decide) (by decide)
        refine uS (uS (fJ (by omega) (fC ?_)))
        by_cases hge:R*2+M % 2>=c
        · obtain ⟨s1,s2⟩:=d1 hge
          refine dA (a:=(M % c,M / c)) ?_ (uS ?_)
          · rw [s1,s2]
            refine yN (t:=1) (y:=R*2) rfl (by decide) (P:=2) rfl (iC (by omega)) (lY (v:=(k:Int)) (by rw [show ((k+1:Nat):Int)-1=(k:Int) from by omega];exact iC (by omega)) (oZ (by omega) (NM (t:=k) (by omega) (by omega) rfl (by omega) ?_)))
            exact lY (v:=M % 2) (by rw [and1 (x:=N % 18446744073709551616 / 2 ^ k) ⟨L0,by omega⟩,hb];exact iC (by omega)) (MI hor (by omega) (yN (t:=1) (y:=Q*2) rfl (by decide) (P:=2) rfl (iC (by omega)) (fJ hge (fC (uX (by omega) (MI (hor2 (by omega)) (by omega) rfl))))))
          · exact lY (v:=(k:Int)-1) (by rw [show ((k+1:Nat):Int)-1-1=(k:Int)-1 from by omega];exact wrap64 (by omega)) rfl
        · obtain ⟨s1,s2⟩:=d2 hge
          refine dA (a:=(M % c,M / c)) ?_ (uS ?_)
          · rw [s1,s2]
            refine yN (t:=1) (y:=R*2) rfl (by decide) (P:=2) rfl (iC (by omega)) (lY (v:=(k:Int)) (by rw [show ((k+1:Nat):Int)-1=(k:Int) from by omega];exact iC (by omega)) (oZ (by omega) (NM (t:=k) (by omega) (by omega) rfl (by omega) ?_)))
            exact lY (v:=M % 2) (by rw [and1 (x:=N % 18446744073709551616 / 2 ^ k) ⟨L0,by omega⟩,hb];exact iC (by omega)) (MI hor (by omega) (yN (t:=1) (y:=Q*2) rfl (by decide) (P:=2) rfl (iC (by omega)) (eB hge (dB rfl))))
          · exact lY (v:=(k:Int)-1) (by rw [show ((k+1:Nat):Int)-1-1=(k:Int)-1 from by omega];exact wrap64 (by omega)) rfl
    · have e:N / 2 ^ 64=N / 18446744073709551616:=rfl
      have e1:N / 18446744073709551616 % c=N / 18446744073709551616:=Int.emod_eq_of_lt f1 (by omega)
      have e2:N / 18446744073709551616 / c=0:=Int.ediv_eq_zero_of_lt f1 (by omega)
      rw [e,e1,e2];rfl
  · by_cases h5:a*b / c>288230376151711744
    · rw [if_pos h5];exact fJ h5 (fC rfl)
    · rw [if_neg h5];exact eB h5 (dB (iO (by omega) (iO (by omega) rfl)))
def pt (v q n:Int):Int:=if n<1\/q<0\/q>n\/¬ bQ v then 0 else if v<0 then-(-v*q / n) else v*q / n
theorem qZ {v q n:Int} (hv:0<=v) (hq:0<=q/\q<=n) (hn:1<=n):0<=v*q / n/\v*q / n<=v:=by
  refine ⟨Int.ediv_nonneg (Int.mul_nonneg hv hq.1) (by omega),?_⟩
  have:v*q<=v*n:=Int.mul_le_mul_of_nonneg_left hq.2 hv
  have h2:v*q / n<=v*n / n:=Int.ediv_le_ediv (by omega) this
  rwa [Int.mul_ediv_cancel _ (by omega)] at h2
theorem qF {n:Nat} {v q k:Int} (hn:66<n) (hq:-9223372036854775808<=q/\q<=9223372036854775807) (hk:-9223372036854775808<=k/\k<=9223372036854775807):pP n v q k=some (pt v q k):=by
  unfold pP aFL pt
  simp only [WT.run,bR,CL,Option.bind_some]
  by_cases h1:k<1
  · rw [if_pos (.inl h1)];exact dA (a:=true) (fJ h1 (fC rfl)) (fC rfl)
  by_cases h2:q<0
  · rw [if_pos (.inr (.inl h2))];exact dA (a:=true) (eB h1 (dB (fJ h2 (fC rfl)))) (fC rfl)
  by_cases h3:q>k
  · rw [if_pos (.inr (.inr (.inl h3)))];exact dA (a:=true) (eB h1 (dB (eB h2 (dB (fJ h3 (fC rfl)))))) (fC rfl)
  by_cases h4:bQ v
  · rw [if_neg (by intro h;rcases h with h | h | h | h <;> first | omega | exact h h4)]
    have h4':=h4
    unfold bQ at h4'
    refine dA (a:=false) (eB h1 (dB (eB h2 (dB (eB h3 (dB (by simp [bnd,h4]))))))) (dB ?_)
    by_cases h5:v<0
    · obtain ⟨g1,g2⟩:=qZ (v:=-v) (q:=q) (n:=k) (by omega) (by omega) (by omega)
      have e:md (-v) q k=(-v*q / k,-v*q % k,0):=by unfold md;rw [if_neg (by omega),if_neg (by omega)]
      rw [if_pos h5]
      refine fJ h5 (fC (lY (v:=-v) (by rw [show (0:Int)-v=-v from by omega];exact wrap64 (by omega)) (dA (wY hn (by omega) hq hk) ?_)))
      rw [e]
      exact lY (v:=-(-v*q / k)) (by show aW (0 - -v*q / k)=_;rw [show (0:Int) - -v*q / k=-(-v*q / k) from by omega];exact wrap64 (by omega)) rfl
    · obtain ⟨g1,g2⟩:=qZ (v:=v) (q:=q) (n:=k) (by omega) (by omega) (by omega)
      have e:md v q k=(v*q / k,v*q % k,0):=by unfold md;rw [if_neg (by omega),if_neg (by omega)]
      rw [if_neg h5]
      refine eB h5 (dB (dA (wY hn (by omega) hq hk) ?_))
      rw [e]
  · rw [if_pos (.inr (.inr (.inr h4)))]
    exact dA (a:=true) (eB h1 (dB (eB h2 (dB (eB h3 (dB (by simp [bnd,h4]))))))) (fC rfl)
end Go.Pv
