import Derived.Test.YtcnbfkppbaenbaaGreatB70
set_option linter.unusedVariables false
set_option linter.unusedSimpArgs false
namespace Go.Pv
open Go.Proofs
set_option maxRecDepth 100000
set_option maxHeartbeats 1000000
def tQ:List aB->Int | []=>0 | x :: r=>x.aG+tQ r
def tV:List aB->Int | []=>0 | x :: r=>x.Value+tV r
def tP:List aB->Int | []=>0 | x :: r=>x.bO+tP r
def ab (x:Int):Int:=if x<0 then -x else x
def tS:List aB->Int | []=>0 | x :: r=>ab x.bO+tS r
def jA (x:aB):Prop:=(1<=x.aG/\x.aG<=288230376151711744)/\(0<=x.Value/\x.Value<=288230376151711744)/\bQ x.bO
def LR (l:List aB):Prop:=(∀ x∈l,jA x)/\l.length<=30/\tQ l<=288230376151711744/\tV l<=288230376151711744/\tS l<=288230376151711744
theorem mE (x:Int):0<=ab x/\-ab x<=x/\x<=ab x:=by unfold ab;split <;> omega
theorem tK (a b:List aB):tQ (a++b)=tQ a+tQ b/\tV (a++b)=tV a+tV b/\tP (a++b)=tP a+tP b/\tS (a++b)=tS a+tS b:=by
  induction a with
  | nil=>simp [tQ,tV,tP,tS]
  | cons x r ih=>obtain ⟨h1,h2,h3,h4⟩:=ih;simp only [List.cons_append,tQ,tV,tP,tS,h1,h2,h3,h4];refine ⟨?_,?_,?_,?_⟩ <;> omega
theorem l9 {l:List aB} (h:∀ x∈l,jA x):0<=tQ l/\0<=tV l/\0<=tS l/\-tS l<=tP l/\tP l<=tS l/\(l.length:Int)<=tQ l:=by
  induction l with
  | nil=>simp [tQ,tV,tP,tS]
  | cons x r ih =>
    obtain ⟨h1,h2,h3,h4,h5,h6⟩:=ih λy hy=>h y (List.mem_cons_of_mem _ hy)
    obtain ⟨g1,g2,g3⟩:=h x (List.mem_cons_self ..)
    obtain ⟨a1,a2,a3⟩:=mE x.bO
    simp only [tQ,tV,tP,tS,List.length_cons]
    refine ⟨?_,?_,?_,?_,?_,?_⟩ <;> omega
theorem bW {β:Type} {P:β->Prop} {a b:Option β} (h:Ex P b):Ex P (cond false a b):=h
theorem dB {β:Type} {P:β->Prop} {a b:Option β} (h:Ex P a):Ex P (cond true a b):=h
theorem BV {l:List aB} {i:Nat} {x:aB} (h:l[i]?=some x):tQ (l.drop i)=x.aG+tQ (l.drop (i+1))/\tV (l.drop i)=x.Value+tV (l.drop (i+1))/\tP (l.drop i)=x.bO+tP (l.drop (i+1))/\tS (l.drop i)=ab x.bO+tS (l.drop (i+1)):=by
  rw [(drop_at h).2];exact ⟨rfl,rfl,rfl,rfl⟩
theorem fE {α:Type} {l:List α} {i:Nat} {x:α} (h:l[i]?=some x):x∈l:=List.mem_of_getElem? h
theorem o8 {a b:Int} (h:bQ a/\bQ b/\bQ (a+b)):jI a b=(a+b,0):=by unfold jI;rw [if_pos h]
theorem wG {a b:Int} (h:¬ (bQ a/\bQ b/\bQ (a+b))):jI a b=(0,2):=by unfold jI;rw [if_neg h]
theorem LC {l:List aB} {n:Nat} (hn:l.length+1<n) (hl:(l.length:Int)<1000000000) (hk:∀ x∈l,jA x) :
    Ex (λr=>(tQ l<=288230376151711744->tV l<=288230376151711744->tS l<=288230376151711744->r=(⟨tQ l,tV l,tP l⟩,0))/\(r.2=0->tQ l<=288230376151711744/\tV l<=288230376151711744)) (rP n l):=by
  have hp:=l9 hk
  have hd:∀ i,∀ x∈l.drop i,jA x:=λi x hx=>hk x (List.mem_of_mem_drop hx)
  unfold rP aF6
  simp only [WT.run,bS,wS,Option.bind_some]
  refine aU (λ(r:aB⊕(aB×Int))=>match r with
    | .inl a=>a=⟨tQ l,tV l,tP l⟩/\tQ l<=288230376151711744/\tV l<=288230376151711744
    | .inr q=>q.2=2/\¬ (tQ l<=288230376151711744/\tV l<=288230376151711744/\tS l<=288230376151711744))
    (fJ (λ(v:Int×aB)=>0<=v.1/\v.1<=(l.length:Int)/\(0<=v.2.aG/\v.2.aG<=288230376151711744/\v.2.aG+tQ (l.drop v.1.toNat)=tQ l)/\(0<=v.2.Value/\v.2.Value<=288230376151711744/\v.2.Value+tV (l.drop v.1.toNat)=tV l)/\(bQ v.2.bO/\v.2.bO+tP (l.drop v.1.toNat)=tP l/\ab v.2.bO+tS (l.drop v.1.toNat)<=tS l)) (λ(v:Int×aB)=>l.length-v.1.toNat) ?_ (v:=(0,⟨0,0,0⟩)) (by simp [bQ,ab]) (by simp;omega)) ?_
  · rintro ⟨i,q,v,p⟩ ⟨h0,h1,h2,h3,h4⟩
    refine bF (aF (fB (λh=>?_) λh=>?_))
    · have h:=of_decide_eq_true h
      simp only at h0 h1 h2 h3 h4 h
      refine eT h0 h λx hx=>eT h0 h λx' hx'=>eT h0 h λx'' hx''=>?_
      rw [hx] at hx' hx'';cases hx';cases hx''
      have hx:l[i.toNat]?=some x:=hx
      obtain ⟨d1,d2,d3,d4⟩:=BV hx
      obtain ⟨g1,g2,g3⟩:=hk x (fE hx)
      have hr:=l9 (hd (i.toNat+1))
      have e:(i+1).toNat=i.toNat+1:=by omega
      obtain ⟨a1,a2,a3⟩:=mE x.bO
      obtain ⟨b1,b2,b3⟩:=mE p
      unfold bQ at h4
      by_cases hA:bQ q/\bQ x.aG/\bQ (q+x.aG)
      · by_cases hB:bQ v/\bQ x.Value/\bQ (v+x.Value)
        · by_cases hC:bQ p/\bQ x.bO/\bQ (p+x.bO)
          · rw [o8 hA,o8 hB,o8 hC]
            refine x_eq (a:=false) rfl (bW (gU (show -9223372036854775808<=i+1/\i+1<=9223372036854775807 by omega) (cK ?_)))
            unfold bQ at hA hB hC
            refine ⟨⟨by show (0:Int)<=i+1;omega,by show i+1<=(l.length:Int);omega,?_,?_,?_⟩,by show l.length-(i+1).toNat<l.length-i.toNat;omega⟩
            · show 0<=q+x.aG/\q+x.aG<=_/\q+x.aG+tQ (l.drop (i+1).toNat)=tQ l
              rw [e];omega
            · show 0<=v+x.Value/\v+x.Value<=_/\v+x.Value+tV (l.drop (i+1).toNat)=tV l
              rw [e];omega
            · show bQ (p+x.bO)/\p+x.bO+tP (l.drop (i+1).toNat)=tP l/\ab (p+x.bO)+tS (l.drop (i+1).toNat)<=tS l
              rw [e]
              refine ⟨hC.2.2,by omega,?_⟩
              have:ab (p+x.bO)<=ab p+ab x.bO:=by unfold ab;repeat' split <;> omega
              omega
          · rw [o8 hA,o8 hB,wG hC]
            refine x_eq (a:=true) rfl (bJ (bJ (aD ⟨rfl,?_⟩)))
            intro hh
            apply hC;unfold bQ at g3 ⊢;omega
        · rw [o8 hA,wG hB]
          refine x_eq (a:=true) rfl (bJ (bJ (aD ⟨rfl,?_⟩)))
          intro hh
          apply hB;unfold bQ;omega
      · rw [wG hA]
        refine x_eq (a:=true) rfl (bJ (bJ (aD ⟨rfl,?_⟩)))
        intro hh
        apply hA;unfold bQ;omega
    · have h:=of_decide_eq_false h
      simp only at h0 h1 h2 h3 h4 h
      have e:l.drop i.toNat=[]:=List.drop_eq_nil_of_le (by omega)
      rw [e] at h2 h3 h4
      simp only [tQ,tV,tP,tS] at h2 h3 h4
      refine bJ (cK ⟨?_,by omega,by omega⟩)
      show (⟨q,v,p⟩:aB)=_
      rw [show q=tQ l by omega,show v=tV l by omega,show p=tP l by omega]
  · intro r hr
    refine iZ (λa e=>aD ?_) λq e=>?_
    · subst e;obtain ⟨rfl,h1,h2⟩:=hr;exact ⟨λ_ _ _=>rfl,λ_=>⟨h1,h2⟩⟩
    · subst e;obtain ⟨h1,h2⟩:=hr
      exact ⟨λk1 k2 k3=>absurd ⟨k1,k2,k3⟩ h2,λk=>by rw [h1] at k;exact absurd k (by decide)⟩
theorem VU {l:List aB} {n:Nat} (hn:l.length+1<n) (hl:(l.length:Int)<1000000000) (hk:∀ x∈l,jA x) :
    Ex (λr=>(tS l<=288230376151711744->r=(tS l,0))/\(r.2=0->tS l<=288230376151711744)) (E4 n l):=by
  have hp:=l9 hk
  have hd:∀ i,∀ x∈l.drop i,jA x:=λi x hx=>hk x (List.mem_of_mem_drop hx)
  unfold E4 aE0
  simp only [WT.run,bS,wS,Option.bind_some]
  refine aU (λ(r:Int⊕(Int×Int))=>match r with
    | .inl a=>a=tS l/\tS l<=288230376151711744
    | .inr q=>q.2=2/\¬ tS l<=288230376151711744)
    (fJ (λ(v:Int×Int)=>0<=v.2/\v.2<=(l.length:Int)/\(0<=v.1/\v.1<=288230376151711744/\v.1+tS (l.drop v.2.toNat)=tS l)) (λ(v:Int×Int)=>l.length-v.2.toNat) ?_ (v:=(0,0)) (by simp) (by simp;omega)) ?_
  · rintro ⟨s,i⟩ ⟨h0,h1,h2⟩
    refine bF (aF (fB (λh=>?_) λh=>?_))
    · have h:=of_decide_eq_true h
      simp only at h0 h1 h2 h
      refine eT h0 h λx hx=>eT h0 h λx' hx'=>?_
      rw [hx] at hx';cases hx'
      have hx:l[i.toNat]?=some x:=hx
      obtain ⟨d1,d2,d3,d4⟩:=BV hx
      obtain ⟨g1,g2,g3⟩:=hk x (fE hx)
      have hr:=l9 (hd (i.toNat+1))
      have e:(i+1).toNat=i.toNat+1:=by omega
      unfold bQ at g3
      refine gU (by omega) (aF ?_)
      have ea:(if 0-x.bO>x.bO then 0-x.bO else x.bO)=ab x.bO:=by unfold ab;repeat' split <;> omega
      rw [ea]
      obtain ⟨a1,a2,a3⟩:=mE x.bO
      have aM:ab x.bO<=288230376151711744:=by unfold ab;split <;> omega
      by_cases hA:bQ s/\bQ (ab x.bO)/\bQ (s+ab x.bO)
      · rw [o8 hA]
        refine x_eq (a:=false) ?_ (bW (gU (show -9223372036854775808<=i+1/\i+1<=9223372036854775807 by omega) (cK ?_)))
        · exact eU (λk=>k rfl) (dF (iV h0 hx (eU (by omega) rfl)))
        · unfold bQ at hA
          refine ⟨⟨by show (0:Int)<=i+1;omega,by show i+1<=(l.length:Int);omega,?_⟩,by show l.length-(i+1).toNat<l.length-i.toNat;omega⟩
          show 0<=s+ab x.bO/\s+ab x.bO<=_/\s+ab x.bO+tS (l.drop (i+1).toNat)=tS l
          rw [e];omega
      · rw [wG hA]
        refine x_eq (a:=true) rfl (bJ (bJ (aD ⟨rfl,?_⟩)))
        intro hh
        apply hA;unfold bQ;omega
    · have h:=of_decide_eq_false h
      simp only at h0 h1 h2 h
      have e:l.drop i.toNat=[]:=List.drop_eq_nil_of_le (by omega)
      rw [e] at h2
      simp only [tS] at h2
      exact bJ (cK ⟨by show s=tS l;omega,by omega⟩)
  · intro r hr
    refine iZ (λa e=>aD ?_) λq e=>?_
    · subst e;obtain ⟨rfl,h1⟩:=hr;exact ⟨λ_=>rfl,λ_=>h1⟩
    · subst e;obtain ⟨h1,h2⟩:=hr
      exact ⟨λk1=>absurd k1 h2,λk=>by rw [h1] at k;exact absurd k (by decide)⟩
theorem BK {l:List aB} {n:Nat} (hn:l.length+1<n) (hl:(l.length:Int)<1000000000):Ex (λr=>r=true↔LR l) (yG n l):=by
  unfold yG aCE
  simp only [WT.run,bS,zY,Option.bind_some]
  refine aU (λ(r:Unit⊕Bool)=>match r with | .inl _=>∀ x∈l,jA x | .inr b=>b=false/\¬ ∀ x∈l,jA x)
    (fJ (λ(v:Int)=>0<=v/\v<=(l.length:Int)/\((∀ x∈l.drop v.toNat,jA x)->∀ x∈l,jA x)) (λ(v:Int)=>l.length-v.toNat) ?_ (v:=0) (by simp) (by simp;omega)) ?_
  · rintro i ⟨h0,h1,h2⟩
    refine aF (fB (λh=>?_) λh=>?_)
    · have h:=of_decide_eq_true h
      refine eT h0 h λx hx=>?_
      have e:(i+1).toNat=i.toNat+1:=by omega
      by_cases hx2:jA x
      · obtain ⟨g1,g2,g3⟩:=hx2
        refine x_eq (a:=false) (eU (by omega) (dF (eU (by omega) (dF (eU (by omega) (dF (eU (by omega) (dF (by simp [bnd,g3]))))))))) (bW (gU (by omega) (cK ⟨⟨by omega,by omega,?_⟩,by show l.length-(i+1).toNat<_;omega⟩)))
        rw [e];intro hh
        refine h2 λy hy=>?_
        rw [(drop_at hx).2] at hy
        rcases List.mem_cons.1 hy with rfl | hy
        · exact ⟨g1,g2,g3⟩
        · exact hh y hy
      · refine aU (λb=>b=true) ?_ λb hb=>?_
        · refine aF (fB (λk1=>aD rfl) λk1=>aF (fB (λk2=>aD rfl) λk2=>aF (fB (λk3=>aD rfl) λk3=>aF (fB (λk4=>aD rfl) λk4=>?_))))
          have k1:=of_decide_eq_false k1;have k2:=of_decide_eq_false k2;have k3:=of_decide_eq_false k3;have k4:=of_decide_eq_false k4
          by_cases k5:bQ x.bO
          · exact absurd ⟨by omega,by omega,k5⟩ hx2
          · exact aF (aF (aD (by simp [k5])))
        · subst hb
          exact dB (bJ (bJ (aD ⟨rfl,λhh=>hx2 (hh x (fE hx))⟩)))
    · have h:=of_decide_eq_false h
      refine bJ (cK (h2 λx hx=>?_))
      rw [List.drop_eq_nil_of_le (by omega)] at hx;cases hx
  · intro r hr
    refine iZ (λa e=>?_) λq e=>?_
    · subst e
      have hk:∀ x∈l,jA x:=hr
      refine aU _ (LC hn hl hk) λa ha=>aU _ (VU hn hl hk) λb hb=>?_
      have hp:=l9 hk
      refine aU (λr=>r=true↔LR l) (aF (fB (λk1=>aF (fB (λk2=>aF (aD ?_)) λk2=>aD ?_)) λk1=>aD ?_)) λr hr=>aD hr
      · have k1:=of_decide_eq_true k1;have k2:=of_decide_eq_true k2
        have h3:=ha.2 k2
        constructor
        · intro k3;exact ⟨hk,by omega,h3.1,h3.2,hb.2 (of_decide_eq_true k3)⟩
        · intro k3;rw [hb.1 k3.2.2.2.2];exact decide_eq_true rfl
      · have k2:=of_decide_eq_false k2
        refine ⟨λ(k:false=true)=>Bool.noConfusion k,λk=>absurd ?_ k2⟩
        rw [ha.1 k.2.2.1 k.2.2.2.1 k.2.2.2.2]
      · have k1:=of_decide_eq_false k1
        exact ⟨λ(k:false=true)=>Bool.noConfusion k,λk=>absurd k.2.1 (by omega)⟩
    · subst e;obtain ⟨h1,h2⟩:=hr
      exact ⟨λk=>(by rw [h1] at k;cases k),λk=>absurd k.1 h2⟩
theorem aI {β:Type} {P:β->Prop} {p:Prop} {_:Decidable p} {a b:Option β} (h1:p->Ex P a) (h2:¬p->Ex P b):Ex P (cond (decide p) a b):=by
  by_cases h:p
  · rw [decide_eq_true h];exact h1 h
  · rw [decide_eq_false h];exact h2 h
theorem dJ {β:Type} {P:β->Prop} {c:Bool} {a b:Option β} (h1:c=false->Ex P a) (h2:c=true->Ex P b):Ex P (cond (!c) a b):=by cases c;exact h1 rfl;exact h2 rfl
theorem dY {α γ β:Type} {P:β->Prop} {x:γ} {g:γ->Option α} {f:α->Option β} (h:Ex P ((g x).bind f)):Ex P ((bnd x g).bind f):=h
theorem aT3 {α β:Type} {P:β->Prop} {x:Int} {g:Int->Option α} {f:α->Option β} (hx:-9223372036854775808<=x/\x<=9223372036854775807) (h:Ex P ((g x).bind f)):Ex P ((bnd (bA x) g).bind f):=by
  obtain ⟨r,e,p⟩:=h;have k:bA x=x:=wrap64 hx
  exact ⟨r,by rw [<- e];show Option.bind (g (bA x)) f=_;rw [k],p⟩
theorem dW {α β:Type} {P:β->Prop} {c:Bool} {x y:Option α} {f:α->Option β} (h:Ex P (cond c (x.bind f) (y.bind f))):Ex P ((cond c x y).bind f):=by cases c;exact h;exact h
theorem dV {α β:Type} {P:β->Prop} {a:α} {f:α->Option β} (h:Ex P (f a)):Ex P ((some a).bind f):=h
theorem dO {α γ β:Type} {P:β->Prop} {x:Option γ} {g:γ->Option α} {f:α->Option β} (h:Ex P (x.bind λa=>(g a).bind f)):Ex P ((x.bind g).bind f):=by cases x;exact h;exact h
theorem dN {α γ δ β:Type} {P:β->Prop} {g:γ->δ->Option α} {q:γ×δ} {f:α->Option β} (h:Ex P ((g q.1 q.2).bind f)):Ex P ((p2 g q).bind f):=h
theorem dS {α β:Type} {P:β->Prop} {p:Prop} [Decidable p] {k:Option α} {f:α->Option β} (h:Ex P (iO p (k.bind f))):Ex P ((iO p k).bind f):=by
  unfold iO at h ⊢
  by_cases hp:p
  · rw [if_pos hp] at h ⊢;exact h
  · rw [if_neg hp] at h;obtain ⟨r,e,_⟩:=h;cases e
theorem dZ {α β:Type} {P:β->Prop} {x:Option β} {f:α->Option β} (h:Ex P x):Ex P ((esc x:Option (α⊕β)).bind (sel f)):=by obtain ⟨r,e,p⟩:=h;subst e;exact ⟨_,rfl,p⟩
theorem d9 {α β:Type} {P:β->Prop} {a:α} {f:α->Option β} (h:Ex P (f a)):Ex P ((brk a:Option (α⊕β)).bind (sel f)):=h
theorem cZ {α β:Type} {P:β->Prop} {f:α->Option β} {a:α} (h:Ex P (f a)):Ex P (sel f (.inl a)):=h
theorem yK {α β:Type} {P:β->Prop} {f:α->Option β} {a:β} (h:P a):Ex P (sel f (.inr a)):=⟨a,rfl,h⟩
theorem dD {α β:Type} {P:β->Prop} {l:List α} {i:Int} {a:α} {f:α->Option β} (h0:0<=i) (h:l[i.toNat]?=some a) (k:Ex P (f a)):Ex P ((ix l i).bind f):=by
  obtain ⟨r,e,p⟩:=k;exact ⟨r,iV h0 h e,p⟩
theorem bE {β:Type} {P:β->Prop} {x:Int} {f:Int->Option β} (h:Ex P (f x)) (hx:-9223372036854775808<=x/\x<=9223372036854775807:=by first | omega | (simp only;omega)):Ex P (bnd (bA x) f):=gU hx h
theorem dU {α β:Type} {P:β->Prop} {x:Int} {g:Int->Option α} {f:α->Option β} (h:Ex P ((g x).bind f)) (hx:-9223372036854775808<=x/\x<=9223372036854775807:=by first | omega | (simp only;omega)):Ex P ((bnd (bA x) g).bind f):=aT3 hx h
theorem dM {β:Type} {P:β->Prop} {p:Prop} {_:Decidable p} {k:Option β} (h:Ex P k) (hp:p:=by first | omega | (simp only [List.length_append,List.length_cons,List.length_nil,List.length_set];omega) | (simp;omega)):Ex P (iO p k):=iR hp h
theorem tC {l:List aB} (h:LR l):l.length<=30:=h.2.1
theorem aP4 {l:List aB} {x:aB} {n:Nat} (hn:66<n) (hl:LR l):Ex (λr=>(r.2=0/\r.1=l++[x]/\LR (l++[x]))\/(r.2≠0/\r.1=l)) (yY n l x):=by
  unfold yY QE
  simp only [WT.run,bS]
  have h1:=tC hl
  refine dM (aF (dM ?_))
  refine aU (λ_=>True) (aF (fB (λ_=>aD trivial) λ_=>aF (aD trivial))) λb _=>fB (λ_=>aD (.inr ⟨(λk=>nomatch k),rfl⟩)) λ_=>aF (fB (λ_=>aD (.inr ⟨(λk=>nomatch k),rfl⟩)) λk=>?_)
  refine aU _ (BK (l:=l++[x]) (by simp;omega) (by simp;omega)) λb hb=>aF (fB (λ_=>aD (.inr ⟨(λk=>nomatch k),rfl⟩)) λk2=>aD (.inl ⟨rfl,rfl,hb.1 (by simpa using k2)⟩))
theorem WL {p w q:Int} (hp:bQ p) (hw:1<=w/\w<q):ab (p-pt p w q)+ab (pt p w q)=ab p/\bQ (pt p w q)/\bQ (p-pt p w q):=by
  unfold bQ at hp ⊢
  have e:pt p w q=if p<0 then -(-p*w / q) else p*w / q:=by
    unfold pt;rw [if_neg (by intro h;rcases h with h | h | h | h;all_goals first | omega | exact h hp)]
  rw [e]
  by_cases h:p<0
  · obtain ⟨g1,g2⟩:=rM (v:=-p) (q:=w) (n:=q) (by omega) (by omega) (by omega)
    rw [if_pos h];generalize -p*w / q=z at *
    unfold ab
    repeat' split
    all_goals omega
  · obtain ⟨g1,g2⟩:=rM (v:=p) (q:=w) (n:=q) (by omega) (by omega) (by omega)
    rw [if_neg h];generalize p*w / q=z at *
    unfold ab
    repeat' split
    all_goals omega
theorem ZP {v w q:Int} (hv:0<=v/\v<=288230376151711744) (hw:1<=w/\w<q):0<=pt v w q/\pt v w q<=v:=by
  have e:pt v w q=v*w / q:=by
    unfold pt;rw [if_neg (by unfold bQ;intro h;omega),if_neg (by omega)]
  rw [e];exact rM (by omega) (by omega) (by omega)
def qM (l m:List aB) (g:aB):Prop:=LR m/\m.length<=l.length/\tQ m+g.aG=tQ l/\tV m+g.Value=tV l/\tP m+g.bO=tP l/\tS m+ab g.bO<=tS l/\0<=g.Value
theorem aHG {l:List aB} {a b c:Int} (h1:∀ x∈l,jA x) (h2:l.length<=30) (h3:tQ l<=a) (h4:tV l<=b) (h5:tS l<=c) (ha:a<=288230376151711744) (hb:b<=288230376151711744) (hc:c<=288230376151711744):LR l:=⟨h1,h2,by omega,by omega,by omega⟩
theorem QG {l:List aB} {q:Int} {n:Nat} (hn:66<n) (hl:LR l) (hq:-9223372036854775808<=q/\q<=9223372036854775807) :
    Ex (λr=>(r.2.2=0/\1<=q/\r.2.1.aG=q/\qM l r.1 r.2.1)\/(r.2.2≠0/\r.1=l/\r.2.1=⟨0,0,0⟩/\(1<=q->tQ l<q))) (xN n l q):=by
  obtain ⟨hk,h30,hQ,hV,hS⟩:=hl
  have hp:=l9 hk
  unfold xN SY
  simp only [WT.run,bS]
  refine aU _ (LC (by omega) (by omega) hk) λt ht=>?_
  rw [ht.1 hQ hV hS]
  refine aF (fB (λk1=>aD (.inr ⟨(λk=>nomatch k),rfl,rfl,λk=>?_⟩)) λk1=>aF (fB (λk2=>aD (.inr ⟨(λk=>nomatch k),rfl,rfl,λk=>of_decide_eq_true k2⟩)) λk2=>?_))
  · have:=of_decide_eq_true k1;omega
  have k1:=of_decide_eq_false k1;have k2:=of_decide_eq_false k2
  simp only at k2
  refine aU (λ(r:aB×List aB)=>r.1.aG=q/\qM l r.2 r.1) (fJ (λ(v:Int×aB×List aB)=>0<=v.1/\v.1<=(l.length:Int)/\(∀ x∈v.2.2,jA x)/\(v.2.2.length:Int)<=v.1/\(0<=v.2.1.aG/\v.2.1.aG<=q)/\0<=v.2.1.Value/\tQ v.2.2+v.2.1.aG+tQ (l.drop v.1.toNat)=tQ l/\tV v.2.2+v.2.1.Value+tV (l.drop v.1.toNat)=tV l/\tP v.2.2+v.2.1.bO+tP (l.drop v.1.toNat)=tP l/\tS v.2.2+ab v.2.1.bO+tS (l.drop v.1.toNat)<=tS l/\(tQ v.2.2>0->v.2.1.aG=q)) (λ(v:Int×aB×List aB)=>l.length-v.1.toNat) ?_ (v:=(0,⟨0,0,0⟩,[])) (by simp [tQ,tV,tP,tS,ab];omega) (by simp;omega)) ?_
  · rintro ⟨i,⟨gq,gv,gp⟩,m⟩ ⟨h0,h1,hm,hml,hg,hgv,e1,e2,e3,e4,e5⟩
    refine bF (bF (aF (fB (λh=>?_) λh=>?_)))
    · have h:=of_decide_eq_true h
      simp only at h0 h1 hm hml hg hgv e1 e2 e3 e4 e5 h
      refine aU (λ(r:aB×List aB)=>(∀ x∈r.2,jA x)/\(r.2.length:Int)<=i+1/\(0<=r.1.aG/\r.1.aG<=q)/\0<=r.1.Value/\tQ r.2+r.1.aG+tQ (l.drop (i.toNat+1))=tQ l/\tV r.2+r.1.Value+tV (l.drop (i.toNat+1))=tV l/\tP r.2+r.1.bO+tP (l.drop (i.toNat+1))=tP l/\tS r.2+ab r.1.bO+tS (l.drop (i.toNat+1))<=tS l/\(tQ r.2>0->r.1.aG=q)) ?_ λr hr=>?_
      · refine eT h0 h λx hx=>?_
        have hx:l[i.toNat]?=some x:=hx
        obtain ⟨d1,d2,d3,d4⟩:=BV hx
        obtain ⟨g1,g2,g3⟩:=hk x (fE hx)
        have hr:=l9 (l:=l.drop (i.toNat+1)) λy hy=>hk y (List.mem_of_mem_drop hy)
        have hmp:=l9 hm
        refine gU (show -9223372036854775808<=q-gq/\q-gq<=9223372036854775807 by omega) (aF (fB (λc1=>?_) λc1=>?_))
        · have c1:q-gq<=0:=of_decide_eq_true c1
          obtain ⟨a1,a2,a3,a4⟩:=tK m [x]
          simp only [tQ,tV,tP,tS,Int.add_zero] at a1 a2 a3 a4
          refine aF (dM (aD ⟨?_,by simp;omega,by omega,by omega,?_⟩))
          · intro y hy
            rcases List.mem_append.1 hy with hy | hy
            · exact hm y hy
            · rw [List.mem_singleton] at hy;subst hy;exact ⟨g1,g2,g3⟩
          · simp only [a1,a2,a3,a4];refine ⟨?_,?_,?_,?_,?_⟩ <;> omega
        · have c1:¬ q-gq<=0:=of_decide_eq_false c1
          refine aU (λ(r:List aB×aB)=>(∀ x∈r.1,jA x)/\(r.1.length:Int)<=i+1/\(1<=r.2.aG/\gq+r.2.aG<=q)/\(0<=r.2.Value/\r.2.Value<=288230376151711744)/\bQ r.2.bO/\tQ r.1+r.2.aG=tQ m+x.aG/\tV r.1+r.2.Value=tV m+x.Value/\tP r.1+r.2.bO=tP m+x.bO/\tS r.1+ab r.2.bO=tS m+ab x.bO/\(tQ r.1>0->gq+r.2.aG=q)) ?_ λr hr=>?_
          · refine aF (aI (λc2=>?_) λc2=>aD ⟨hm,(by simp only;omega),(by have c2:¬ x.aG>q-gq:=c2;simp only;omega),(by simp only;omega),g3,rfl,rfl,rfl,rfl,by show tQ m>0->gq+x.aG=q;have c2:¬ x.aG>q-gq:=c2;omega⟩)
            have c2:x.aG>q-gq:=c2
            obtain ⟨p1,p2⟩:=ZP (v:=x.Value) (w:=q-gq) (q:=x.aG) g2 (by omega)
            obtain ⟨p3,p4,p5⟩:=WL (p:=x.bO) (w:=q-gq) (q:=x.aG) g3 (by omega)
            refine x_eq (oJ hn (by simp only;omega) (by omega)) (x_eq (oJ hn (by simp only;omega) (by omega)) ?_)
            unfold bQ at p4 p5
            refine gU (by simp only;omega) (gU (by simp only;omega) (gU (by simp only;omega) (aF (dM (aD ?_)))))
            obtain ⟨a1,a2,a3,a4⟩:=tK m [⟨x.aG-(q-gq),x.Value-pt x.Value (q-gq) x.aG,x.bO-pt x.bO (q-gq) x.aG⟩]
            simp only [tQ,tV,tP,tS,Int.add_zero] at a1 a2 a3 a4
            refine ⟨?_,by simp;omega,?_,?_,?_,?_⟩
            · intro y hy
              rcases List.mem_append.1 hy with hy | hy
              · exact hm y hy
              · rw [List.mem_singleton] at hy;subst hy;exact ⟨by simp only;omega,by simp only;omega,by unfold bQ;simp only;omega⟩
            · simp only;omega
            · simp only;omega
            · unfold bQ;simp only;omega
            · simp only [a1,a2,a3,a4];refine ⟨?_,?_,?_,?_,?_⟩ <;> omega
          · obtain ⟨m',yq,yv,yp⟩:=r
            obtain ⟨r1,r2,r3,r4,r5,r6,r7,r8,r9,G5⟩:=hr
            simp only at r1 r2 r3 r4 r5 r6 r7 r8 r9 G5
            have hmp':=l9 r1
            obtain ⟨b1,b2,b3⟩:=mE gp
            obtain ⟨b4,b5,b6⟩:=mE yp
            obtain ⟨b7,b8,b9⟩:=mE (gp+yp)
            have b10:ab (gp+yp)<=ab gp+ab yp:=by unfold ab;repeat' split <;> omega
            refine bF (gU (by simp only;omega) (gU (by simp only;omega) (gU (by simp only;omega) (aD ⟨r1,r2,by simp only;omega,by simp only;omega,?_⟩))))
            simp only;refine ⟨?_,?_,?_,?_,?_⟩ <;> omega
      · refine bF (bE (cK ?_))
        have e:(i+1).toNat=i.toNat+1:=by omega
        refine ⟨⟨by show (0:Int)<=i+1;omega,by show i+1<=(l.length:Int);omega,hr.1,hr.2.1,hr.2.2.1,hr.2.2.2.1,?_⟩,by show l.length-(i+1).toNat<l.length-i.toNat;omega⟩
        show tQ r.2+r.1.aG+tQ (l.drop (i+1).toNat)=tQ l/\tV r.2+r.1.Value+tV (l.drop (i+1).toNat)=tV l/\tP r.2+r.1.bO+tP (l.drop (i+1).toNat)=tP l/\tS r.2+ab r.1.bO+tS (l.drop (i+1).toNat)<=tS l/\(tQ r.2>0->r.1.aG=q)
        rw [e];exact hr.2.2.2.2
    · have h:=of_decide_eq_false h
      simp only at h0 h1 hm hml hg hgv e1 e2 e3 e4 e5 h
      have e:l.drop i.toNat=[]:=List.drop_eq_nil_of_le (by omega)
      rw [e] at e1 e2 e3 e4
      simp only [tQ,tV,tP,tS,Int.add_zero] at e1 e2 e3 e4
      have hmp:=l9 hm
      obtain ⟨b1,b2,b3⟩:=mE gp
      refine bJ (aD ?_)
      show gq=q/\qM l m ⟨gq,gv,gp⟩
      refine ⟨by omega,?_⟩
      refine ⟨aHG hm (by omega) (by omega:tQ m<=tQ l) (by omega:tV m<=tV l) (by omega:tS m<=tS l) hQ hV hS,by omega,by simp only;omega,by simp only;omega,by simp only;omega,by simp only;omega,by simp only;omega⟩
  · intro r hr
    exact bF (aD (.inl ⟨rfl,by omega,hr.1,hr.2⟩))
end Go.Pv
