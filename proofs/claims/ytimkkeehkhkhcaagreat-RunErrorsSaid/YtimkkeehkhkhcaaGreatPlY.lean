import Derived.Test.YtimkkeehkhkhcaaGreatPvAE
import Derived.Test.YtimkkeehkhkhcaaGreatPwF
import Derived.Test.YtimkkeehkhkhcaaGreatXSl
set_option linter.unusedVariables false
set_option linter.unusedSimpArgs false
namespace Go.Pv
section
variable {α β γ δ R:Type}
theorem uL {x:α} {f:α->Option β} {r:Option β} (h:f x=r):bnd x f=r:=h
theorem v_w {x:Int} {f:Int->Option β} {r:Option β} (hx:-9223372036854775808<=x/\x<=9223372036854775807) (h:f x=r):bnd (bL x) f=r:=by
  show f (bL x)=r
  rw [show bL x=x from wrap64 hx];exact h
theorem qP {p:Prop} [Decidable p] {f:Bool->Option β} {r:Option β} (hp:p) (h:f true=r):bnd (decide p) f=r:=by
  show f (decide p)=r
  rw [decide_eq_true hp];exact h
theorem nC {p:Prop} [Decidable p] {f:Bool->Option β} {r:Option β} (hp:¬ p) (h:f false=r):bnd (decide p) f=r:=by
  show f (decide p)=r
  rw [decide_eq_false hp];exact h
theorem zD {a b:Option β} {r:Option β} (h:a=r):cond true a b=r:=h
theorem nH {a b:Option β} {r:Option β} (h:b=r):cond false a b=r:=h
theorem rE {p:Prop} [Decidable p] {k r:Option β} (hp:p) (h:k=r):cZ p k=r:=by unfold cZ;rw [if_pos hp];exact h
theorem mJ {x:Option α} {f:α->Option β} {a:α} {r:Option β} (hx:x=some a) (h:f a=r):x.bind f=r:=by rw [hx];exact h
theorem aE9 {l:List α} {i:Int} {v:α} {f:α->Option β} {r:Option β} (h0:0<=i) (hl:l[i.toNat]?=some v) (h:f v=r):(ix l i).bind f=r:=by
  unfold ix;rw [if_neg (by omega),hl];exact h
end
def Ex {β:Type} (P:β->Prop) (D:Option β):Prop:=∃ r,D=some r/\P r
theorem bE {α β:Type} {P:β->Prop} {x:α} {f:α->Option β} (h:Ex P (f x)):Ex P (bnd x f):=h
theorem qI {β:Type} {P:β->Prop} {c:Bool} {a b:Option β} (h1:c=true->Ex P a) (h2:c=false->Ex P b):Ex P (cond c a b):=by cases c;exact h2 rfl;exact h1 rfl
theorem dP {β:Type} {P:β->Prop} {p:Prop} [Decidable p] {k:Option β} (hp:p) (h:Ex P k):Ex P (cZ p k):=by unfold cZ;rw [if_pos hp];exact h
theorem dQ {α β:Type} {P:β->Prop} (Q:α->Prop) {x:Option α} {f:α->Option β} (h1:Ex Q x) (h2:∀ a,Q a->Ex P (f a)):Ex P (x.bind f):=by
  obtain ⟨a,e,hq⟩:=h1;subst e;exact h2 a hq
theorem x_eq {α β:Type} {P:β->Prop} {x:Option α} {a:α} {f:α->Option β} (e:x=some a) (h:Ex P (f a)):Ex P (x.bind f):=by subst e;exact h
theorem pR {α β:Type} {P:β->Prop} {l:List α} {i:Int} {f:α->Option β} (h0:0<=i) (h1:i<(l.length:Int)) (h2:∀ a,l[i.toNat]?=some a->Ex P (f a)):Ex P ((ix l i).bind f):=by
  have hl:i.toNat<l.length:=by omega
  have e:l[i.toNat]?=some l[i.toNat]:=List.getElem?_eq_getElem hl
  obtain ⟨r,h3,h4⟩:=h2 _ e
  exact ⟨r,aE9 h0 e h3,h4⟩
theorem iV {α β γ:Type} {P:γ->Prop} {f:α->β->Option γ} {q:α×β} (h:Ex P (f q.1 q.2)):Ex P (p2 f q):=h
theorem dR {α:Type} {P:α->Prop} {a:α} (h:P a):Ex P (some a):=⟨a,rfl,h⟩
theorem x_w {β:Type} {P:β->Prop} {x:Int} {f:Int->Option β} (hx:-9223372036854775808<=x/\x<=9223372036854775807) (h:Ex P (f x)):Ex P (bnd (bL x) f):=by
  obtain ⟨r,e,hp⟩:=h;exact ⟨r,v_w hx e,hp⟩
theorem aJQ {β:Type} {P Q:β->Prop} {D:Option β} (h:Ex P D) (hq:∀ r,P r->Q r):Ex Q D:=by obtain ⟨r,e,p⟩:=h;exact ⟨r,e,hq r p⟩
theorem aFL {α β:Type} {P:β->Prop} {f:α->Option β} {r:α⊕β} (h1:∀ a,r=.inl a->Ex P (f a)) (h2:∀ b,r=.inr b->P b):Ex P (sel f r):=by
  cases r with
  | inl a=>exact h1 a rfl
  | inr b=>exact ⟨b,rfl,h2 b rfl⟩
theorem UF {V J:Type} {P:J->Prop} {f:V->Option (V⊕J)} (I:V->Prop) (μ:V->Nat)
    (hs:∀ v,I v->Ex (λr=>match r with | .inl v'=>I v'/\μ v' < μ v | .inr j=>P j) (f v)):∀ {n:Nat} {v:V},I v->μ v<n->Ex P (iter f n v)
  | 0,v,_,hn=>absurd hn (Nat.not_lt_zero _)
  | n+1,v,hv,hn=>by
    show Ex P ((f v).bind (sel λv'=>iter f n v'))
    refine dQ _ (hs v hv) λr hr=>aFL (λa e=>?_) (λb e=>?_)
    · subst e;exact UF I μ hs hr.1 (by have:=hr.2;omega)
    · subst e;exact hr
theorem oZ {α β:Type} {P:α⊕β->Prop} {x:Option β} (h:Ex (λb=>P (.inr b)) x):Ex P (esc x):=by obtain ⟨r,e,p⟩:=h;subst e;exact ⟨_,rfl,p⟩
theorem pK {α β:Type} {P:α⊕β->Prop} {a:α} (h:P (.inl a)):Ex P (brk a:Option (α⊕β)):=⟨_,rfl,h⟩
end Go.Pv
namespace Go.Pv
open Go.Proofs
set_option maxRecDepth 100000
set_option maxHeartbeats 4000000
def mb:List UInt8:=[6,2,6,0,2,4,6,2,4,6,6,2,4,6,6,2,4,6,6,0,14,28,6,2,16,30,6,4,18,32]
def ob:List UInt8:=[2,28,0]
def bb:List UInt8:=[60,12,4,12,0,4,8,12,4,8,12,12,4,8,12,12,4,8,12,12,0,28,56,12,4,32,60,12,8,36,64,2,2,0,0,0,0,0,0,0,0,0,0,0,0,0,0,0,0,0,0,0,0,0,0,0,0,0,0,0,0,0,0,0,0,0,0,0,0,0,0,0,0,0,0,0,0,0,0,0,0,0,0,0,0,0,0,0,0,0,0,0,0,0,0,0,0,0,0,0,0,0,0,0,0,0,0,6,1,1,1,6,0,0,0,2,2,0,0,0,0,0,0,0,0,0,0,0,0,0,0,0,0,0,0,0,0,0,0,0,0,0,0,0,0,0,0,0,0,0,0,0,0,0,0,0,0,0,0,0,0,0,0,0,0,0,0,0,0,0,0,0,0,0,0,0,0,0,0,0,0,0,0,0,0,0,0,0,0,0,0,0,6,1,1,1,6,0,0,0,0,2,0,0,0,0,0,0,0,0,0,0,0,0,0,0,0,0,0,0,0,0,0,0,0,0,0,0,0,0,0,0,0,0,0,0,0,0,0,0,0,0,0,0,0,0,0,0,0,0,0,0,0,0,0,0,0,0,0,0,0,0,0,0,0,0,0,0,0,0,0,0,0,0,0,0,0,6,1,1,1,6,0,0,0,0,2,0,0,0,0,0,0,0,0,0,0,0,0,0,0,0,0,0,0,0,0,0,0,0,0,0,0,0,0,0,0,0,0,0,0,0,0,0,0,0,0,0,0,0,0,0,0,0,0,0,0,0,0,0,0,0,0,0,0,0,0,0,0,0,0,0,0,0,0,0,0,0,0,0,0,0,6,1,1,1,6,0,0,0,0,0,0,0,2]
def m3:dB:=⟨3,1,[0,1,2],[[1,2,3],[1,2,3],[1,2,3]],[[0,7,14],[1,8,15],[2,9,16]]⟩
theorem aJI:AO 1500=some true:=by decide +kernel
theorem aAY:D8 1500 3=some m3:=by decide +kernel
theorem aBJ:AI 1500 m3=some mb:=by decide +kernel
theorem aKM:DU 1500 [(⟨14,0,0,0,0,0,0,0,[]⟩:aP)]=some ob:=by decide +kernel
theorem aA9:oH 1500 mb ob=some (bb,[0],0):=by decide +kernel
theorem aF9:oH 1500 (mb.drop 1) ob=some ([],[],3):=by decide +kernel
theorem W9:oH 1500 mb (ob++[120])=some ([],[],3):=by decide +kernel
theorem aL1:(oD 1500 (bb++[1])).map (λr=>r.2)=some 3:=by decide +kernel
theorem mX {β:Type} {P:β->Prop} {p:Prop} {_:Decidable p} {a b:Option β} (h1:p->Ex P a) (h2:¬p->Ex P b):Ex P (cond (decide p) a b):=by
  by_cases h:p
  · rw [decide_eq_true h];exact h1 h
  · rw [decide_eq_false h];exact h2 h
theorem aFP {β:Type} {P:β->Prop} {c:Bool} {a b:Option β} (h1:c=false->Ex P a) (h2:c=true->Ex P b):Ex P (cond (!c) a b):=by cases c;exact h1 rfl;exact h2 rfl
theorem YT {α γ β:Type} {P:β->Prop} {x:γ} {g:γ->Option α} {f:α->Option β} (h:Ex P ((g x).bind f)):Ex P ((bnd x g).bind f):=h
theorem aL0 {α β:Type} {P:β->Prop} {x:Int} {g:Int->Option α} {f:α->Option β} (hx:-9223372036854775808<=x/\x<=9223372036854775807) (h:Ex P ((g x).bind f)):Ex P ((bnd (bL x) g).bind f):=by
  obtain ⟨r,e,p⟩:=h;have k:bL x=x:=wrap64 hx
  exact ⟨r,by rw [<- e];show Option.bind (g (bL x)) f=_;rw [k],p⟩
theorem aGR {α β:Type} {P:β->Prop} {c:Bool} {x y:Option α} {f:α->Option β} (h:Ex P (cond c (x.bind f) (y.bind f))):Ex P ((cond c x y).bind f):=by cases c;exact h;exact h
theorem ZW {α β:Type} {P:β->Prop} {a:α} {f:α->Option β} (h:Ex P (f a)):Ex P ((some a).bind f):=h
theorem ZF {α γ β:Type} {P:β->Prop} {x:Option γ} {g:γ->Option α} {f:α->Option β} (h:Ex P (x.bind λa=>(g a).bind f)):Ex P ((x.bind g).bind f):=by cases x;exact h;exact h
theorem aLI {α γ δ β:Type} {P:β->Prop} {g:γ->δ->Option α} {q:γ×δ} {f:α->Option β} (h:Ex P ((g q.1 q.2).bind f)):Ex P ((p2 g q).bind f):=h
theorem XR {α β:Type} {P:β->Prop} {p:Prop} [Decidable p] {k:Option α} {f:α->Option β} (h:Ex P (cZ p (k.bind f))):Ex P ((cZ p k).bind f):=by
  unfold cZ at h ⊢
  by_cases hp:p
  · rw [if_pos hp] at h ⊢;exact h
  · rw [if_neg hp] at h;obtain ⟨r,e,_⟩:=h;cases e
theorem aLM {α β:Type} {P:β->Prop} {x:Option β} {f:α->Option β} (h:Ex P x):Ex P ((esc x:Option (α⊕β)).bind (sel f)):=by obtain ⟨r,e,p⟩:=h;subst e;exact ⟨_,rfl,p⟩
theorem aL3 {α β:Type} {P:β->Prop} {a:α} {f:α->Option β} (h:Ex P (f a)):Ex P ((brk a:Option (α⊕β)).bind (sel f)):=h
theorem YK {α β:Type} {P:β->Prop} {f:α->Option β} {a:α} (h:Ex P (f a)):Ex P (sel f (.inl a)):=h
theorem nP {β:Type} {P:β->Prop} {x:Int} {f:Int->Option β} (h:Ex P (f x)) (hx:-9223372036854775808<=x/\x<=9223372036854775807:=by first | omega | (simp only;omega)):Ex P (bnd (bL x) f):=x_w hx h
theorem aB1 {α β:Type} {P:β->Prop} {x:Int} {g:Int->Option α} {f:α->Option β} (h:Ex P ((g x).bind f)) (hx:-9223372036854775808<=x/\x<=9223372036854775807:=by first | omega | (simp only;omega)):Ex P ((bnd (bL x) g).bind f):=aL0 hx h
theorem x_a {β:Type} {P:β->Prop} {p:Prop} {_:Decidable p} {k:Option β} (h:Ex P k) (hp:p:=by first | omega | (simp only [List.length_append,List.length_cons,List.length_nil,List.length_set];omega) | (simp;omega)):Ex P (cZ p k):=dP hp h
end Go.Pv
