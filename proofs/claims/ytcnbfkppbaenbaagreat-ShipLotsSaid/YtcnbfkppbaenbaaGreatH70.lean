import Derived.Test.YtcnbfkppbaenbaaGreatB70
set_option linter.unusedVariables false
set_option linter.unusedSimpArgs false
namespace Go.Pv
open Go.Proofs
set_option maxRecDepth 100000
set_option maxHeartbeats 1000000
def tQ:List aB->Int | []=>0 | x :: r=>x.aG+tQ r
def tV:List aB->Int | []=>0 | x :: r=>x.Value+tV r
def tP:List aB->Int | []=>0 | x :: r=>x.bO+tP r
def ab (x:Int):Int:=if x<0 then -x else x
def tS:List aB->Int | []=>0 | x :: r=>ab x.bO+tS r
def jA (x:aB):Prop:=(1<=x.aG/\x.aG<=288230376151711744)/\(0<=x.Value/\x.Value<=288230376151711744)/\bQ x.bO
def LR (l:List aB):Prop:=(∀ x∈l,jA x)/\l.length<=30/\tQ l<=288230376151711744/\tV l<=288230376151711744/\tS l<=288230376151711744
theorem mE (x:Int):0<=ab x/\-ab x<=x/\x<=ab x:=by unfold ab;split <;> omega
theorem tK (a b:List aB):tQ (a++b)=tQ a+tQ b/\tV (a++b)=tV a+tV b/\tP (a++b)=tP a+tP b/\tS (a++b)=tS a+tS b:=by
  induction a with
  | nil=>simp [tQ,tV,tP,tS]
  | cons x r ih=>obtain ⟨h1,h2,h3,h4⟩:=ih;simp only [List.cons_append,tQ,tV,tP,tS,h1,h2,h3,h4];refine ⟨?_,?_,?_,?_⟩ <;> omega
theorem l9 {l:List aB} (h:∀ x∈l,jA x):0<=tQ l/\0<=tV l/\0<=tS l/\-tS l<=tP l/\tP l<=tS l/\(l.length:Int)<=tQ l:=by
  induction l with
  | nil=>simp [tQ,tV,tP,tS]
  | cons x r ih =>
    obtain ⟨h1,h2,h3,h4,h5,h6⟩:=ih λy hy=>h y (List.mem_cons_of_mem _ hy)
    obtain ⟨g1,g2,g3⟩:=h x (List.mem_cons_self ..)
    obtain ⟨a1,a2,a3⟩:=mE x.bO
    simp only [tQ,tV,tP,tS,List.length_cons]
    refine ⟨?_,?_,?_,?_,?_,?_⟩ <;> omega
theorem bW {β:Type} {P:β->Prop} {a b:Option β} (h:Ex P b):Ex P (cond false a b):=h
theorem dB {β:Type} {P:β->Prop} {a b:Option β} (h:Ex P a):Ex P (cond true a b):=h
theorem BV {l:List aB} {i:Nat} {x:aB} (h:l[i]?=some x):tQ (l.drop i)=x.aG+tQ (l.drop (i+1))/\tV (l.drop i)=x.Value+tV (l.drop (i+1))/\tP (l.drop i)=x.bO+tP (l.drop (i+1))/\tS (l.drop i)=ab x.bO+tS (l.drop (i+1)):=by
  rw [(drop_at h).2];exact ⟨rfl,rfl,rfl,rfl⟩
theorem fE {α:Type} {l:List α} {i:Nat} {x:α} (h:l[i]?=some x):x∈l:=List.mem_of_getElem? h
theorem o8 {a b:Int} (h:bQ a/\bQ b/\bQ (a+b)):jI a b=(a+b,0):=by unfold jI;rw [if_pos h]
theorem wG {a b:Int} (h:¬ (bQ a/\bQ b/\bQ (a+b))):jI a b=(0,2):=by unfold jI;rw [if_neg h]
theorem LC {l:List aB} {n:Nat} (hn:l.length+1<n) (hl:(l.length:Int)<1000000000) (hk:∀ x∈l,jA x) :
    Ex (λr=>(tQ l<=288230376151711744->tV l<=288230376151711744->tS l<=288230376151711744->r=(⟨tQ l,tV l,tP l⟩,0))/\(r.2=0->tQ l<=288230376151711744/\tV l<=288230376151711744)) (rP n l):=by
  have hp:=l9 hk
  have hd:∀ i,∀ x∈l.drop i,jA x:=λi x hx=>hk x (List.mem_of_mem_drop hx)
  unfold rP aF6
  simp only [WT.run,bS,wS,Option.bind_some]
  refine aU (λ(r:aB⊕(aB×Int))=>match r with
    | .inl a=>a=⟨tQ l,tV l,tP l⟩/\tQ l<=288230376151711744/\tV l<=288230376151711744
    | .inr q=>q.2=2/\¬ (tQ l<=288230376151711744/\tV l<=288230376151711744/\tS l<=288230376151711744))
    (fJ (λ(v:Int×aB)=>0<=v.1/\v.1<=(l.length:Int)/\(0<=v.2.aG/\v.2.aG<=288230376151711744/\v.2.aG+tQ (l.drop v.1.toNat)=tQ l)/\(0<=v.2.Value/\v.2.Value<=288230376151711744/\v.2.Value+tV (l.drop v.1.toNat)=tV l)/\(bQ v.2.bO/\v.2.bO+tP (l.drop v.1.toNat)=tP l/\ab v.2.bO+tS (l.drop v.1.toNat)<=tS l)) (λ(v:Int×aB)=>l.length-v.1.toNat) ?_ (v:=(0,⟨0,0,0⟩)) (by simp [bQ,ab]) (by simp;omega)) ?_
  · rintro ⟨i,q,v,p⟩ ⟨h0,h1,h2,h3,h4⟩
    refine bF (aF (fB (λh=>?_) λh=>?_))
    · have h:=of_decide_eq_true h
      simp only at h0 h1 h2 h3 h4 h
      refine eT h0 h λx hx=>eT h0 h λx' hx'=>eT h0 h λx'' hx''=>?_
      rw [hx] at hx' hx'';cases hx';cases hx''
      have hx:l[i.toNat]?=some x:=hx
      obtain ⟨d1,d2,d3,d4⟩:=BV hx
      obtain ⟨g1,g2,g3⟩:=hk x (fE hx)
      have hr:=l9 (hd (i.toNat+1))
      have e:(i+1).toNat=i.toNat+1:=by omega
      obtain ⟨a1,a2,a3⟩:=mE x.bO
      obtain ⟨b1,b2,b3⟩:=mE p
      unfold bQ at h4
      by_cases hA:bQ q/\bQ x.aG/\bQ (q+x.aG)
      · by_cases hB:bQ v/\bQ x.Value/\bQ (v+x.Value)
        · by_cases hC:bQ p/\bQ x.bO/\bQ (p+x.bO)
          · rw [o8 hA,o8 hB,o8 hC]
            refine x_eq (a:=false) rfl (bW (gU (show -9223372036854775808<=i+1/\i+1<=9223372036854775807 by omega) (cK ?_)))
            unfold bQ at hA hB hC
            refine ⟨⟨by show (0:Int)<=i+1;omega,by show i+1<=(l.length:Int);omega,?_,?_,?_⟩,by show l.length-(i+1).toNat<l.length-i.toNat;omega⟩
            · show 0<=q+x.aG/\q+x.aG<=_/\q+x.aG+tQ (l.drop (i+1).toNat)=tQ l
              rw [e];omega
            · show 0<=v+x.Value/\v+x.Value<=_/\v+x.Value+tV (l.drop (i+1).toNat)=tV l
              rw [e];omega
            · show bQ (p+x.bO)/\p+x.bO+tP (l.drop (i+1).toNat)=tP l/\ab (p+x.bO)+tS (l.drop (i+1).toNat)<=tS l
              rw [e]
              refine ⟨hC.2.2,by omega,?_⟩
              have:ab (p+x.bO)<=ab p+ab x.bO:=by unfold ab;repeat' split <;> omega
              omega
          · rw [o8 hA,o8 hB,wG hC]
            refine x_eq (a:=true) rfl (bJ (bJ (aD ⟨rfl,?_⟩)))
            intro hh
            apply hC;unfold bQ at g3 ⊢;omega
        · rw [o8 hA,wG hB]
          refine x_eq (a:=true) rfl (bJ (bJ (aD ⟨rfl,?_⟩)))
          intro hh
          apply hB;unfold bQ;omega
      · rw [wG hA]
        refine x_eq (a:=true) rfl (bJ (bJ (aD ⟨rfl,?_⟩)))
        intro hh
        apply hA;unfold bQ;omega
    · have h:=of_decide_eq_false h
      simp only at h0 h1 h2 h3 h4 h
      have e:l.drop i.toNat=[]:=List.drop_eq_nil_of_le (by omega)
      rw [e] at h2 h3 h4
      simp only [tQ,tV,tP,tS] at h2 h3 h4
      refine bJ (cK ⟨?_,by omega,by omega⟩)
      show (⟨q,v,p⟩:aB)=_
      rw [show q=tQ l by omega,show v=tV l by omega,show p=tP l by omega]
  · intro r hr
    refine iZ (λa e=>aD ?_) λq e=>?_
    · subst e;obtain ⟨rfl,h1,h2⟩:=hr;exact ⟨λ_ _ _=>rfl,λ_=>⟨h1,h2⟩⟩
    · subst e;obtain ⟨h1,h2⟩:=hr
      exact ⟨λk1 k2 k3=>absurd ⟨k1,k2,k3⟩ h2,λk=>by rw [h1] at k;exact absurd k (by decide)⟩
theorem VU {l:List aB} {n:Nat} (hn:l.length+1<n) (hl:(l.length:Int)<1000000000) (hk:∀ x∈l,jA x) :
    Ex (λr=>(tS l<=288230376151711744->r=(tS l,0))/\(r.2=0->tS l<=288230376151711744)) (E4 n l):=by
  have hp:=l9 hk
  have hd:∀ i,∀ x∈l.drop i,jA x:=λi x hx=>hk x (List.mem_of_mem_drop hx)
  unfold E4 aE0
  simp only [WT.run,bS,wS,Option.bind_some]
  refine aU (λ(r:Int⊕(Int×Int))=>match r with
    | .inl a=>a=tS l/\tS l<=288230376151711744
    | .inr q=>q.2=2/\¬ tS l<=288230376151711744)
    (fJ (λ(v:Int×Int)=>0<=v.2/\v.2<=(l.length:Int)/\(0<=v.1/\v.1<=288230376151711744/\v.1+tS (l.drop v.2.toNat)=tS l)) (λ(v:Int×Int)=>l.length-v.2.toNat) ?_ (v:=(0,0)) (by simp) (by simp;omega)) ?_
  · rintro ⟨s,i⟩ ⟨h0,h1,h2⟩
    refine bF (aF (fB (λh=>?_) λh=>?_))
    · have h:=of_decide_eq_true h
      simp only at h0 h1 h2 h
      refine eT h0 h λx hx=>eT h0 h λx' hx'=>?_
      rw [hx] at hx';cases hx'
      have hx:l[i.toNat]?=some x:=hx
      obtain ⟨d1,d2,d3,d4⟩:=BV hx
      obtain ⟨g1,g2,g3⟩:=hk x (fE hx)
      have hr:=l9 (hd (i.toNat+1))
      have e:(i+1).toNat=i.toNat+1:=by omega
      unfold bQ at g3
      refine gU (by omega) (aF ?_)
      have ea:(if 0-x.bO>x.bO then 0-x.bO else x.bO)=ab x.bO:=by unfold ab;repeat' split <;> omega
      rw [ea]
      obtain ⟨a1,a2,a3⟩:=mE x.bO
      have aM:ab x.bO<=288230376151711744:=by unfold ab;split <;> omega
      by_cases hA:bQ s/\bQ (ab x.bO)/\bQ (s+ab x.bO)
      · rw [o8 hA]
        refine x_eq (a:=false) ?_ (bW (gU (show -9223372036854775808<=i+1/\i+1<=9223372036854775807 by omega) (cK ?_)))
        · exact eU (λk=>k rfl) (dF (iV h0 hx (eU (by omega) rfl)))
        · unfold bQ at hA
          refine ⟨⟨by show (0:Int)<=i+1;omega,by show i+1<=(l.length:Int);omega,?_⟩,by show l.length-(i+1).toNat<l.length-i.toNat;omega⟩
          show 0<=s+ab x.bO/\s+ab x.bO<=_/\s+ab x.bO+tS (l.drop (i+1).toNat)=tS l
          rw [e];omega
      · rw [wG hA]
        refine x_eq (a:=true) rfl (bJ (bJ (aD ⟨rfl,?_⟩)))
        intro hh
        apply hA;unfold bQ;omega
    · have h:=of_decide_eq_false h
      simp only at h0 h1 h2 h
      have e:l.drop i.toNat=[]:=List.drop_eq_nil_of_le (by omega)
      rw [e] at h2
      simp only [tS] at h2
      exact bJ (cK ⟨by show s=tS l;omega,by omega⟩)
  · intro r hr
    refine iZ (λa e=>aD ?_) λq e=>?_
    · subst e;obtain ⟨rfl,h1⟩:=hr;exact ⟨λ_=>rfl,λ_=>h1⟩
    · subst e;obtain ⟨h1,h2⟩:=hr
      exact ⟨λk1=>absurd k1 h2,λk=>by rw [h1] at k;exact absurd k (by decide)⟩
theorem BK {l:List aB} {n:Nat} (hn:l.length+1<n) (hl:(l.length:Int)<1000000000):Ex (λr=>r=true↔LR l) (yG n l):=by
  unfold yG aCE
  simp only [WT.run,bS,zY,Option.bind_some]
  refine aU (λ(r:Unit⊕Bool)=>match r with | .inl _=>∀ x∈l,jA x | .inr b=>b=false/\¬ ∀ x∈l,jA x)
    (fJ (λ(v:Int)=>0<=v/\v<=(l.length:Int)/\((∀ x∈l.drop v.toNat,jA x)->∀ x∈l,jA x)) (λ(v:Int)=>l.length-v.toNat) ?_ (v:=0) (by simp) (by simp;omega)) ?_
  · rintro i ⟨h0,h1,h2⟩
    refine aF (fB (λh=>?_) λh=>?_)
    · have h:=of_decide_eq_true h
      refine eT h0 h λx hx=>?_
      have e:(i+1).toNat=i.toNat+1:=by omega
      by_cases hx2:jA x
      · obtain ⟨g1,g2,g3⟩:=hx2
        refine x_eq (a:=false) (eU (by omega) (dF (eU (by omega) (dF (eU (by omega) (dF (eU (by omega) (dF (by simp [bnd,g3]))))))))) (bW (gU (by omega) (cK ⟨⟨by omega,by omega,?_⟩,by show l.length-(i+1).toNat<_;omega⟩)))
        rw [e];intro hh
        refine h2 λy hy=>?_
        rw [(drop_at hx).2] at hy
        rcases List.mem_cons.1 hy with rfl | hy
        · exact ⟨g1,g2,g3⟩
        · exact hh y hy
      · refine aU (λb=>b=true) ?_ λb hb=>?_
        · refine aF (fB (λk1=>aD rfl) λk1=>aF (fB (λk2=>aD rfl) λk2=>aF (fB (λk3=>aD rfl) λk3=>aF (fB (λk4=>aD rfl) λk4=>?_))))
          have k1:=of_decide_eq_false k1;have k2:=of_decide_eq_false k2;have k3:=of_decide_eq_false k3;have k4:=of_decide_eq_false k4
          by_cases k5:bQ x.bO
          · exact absurd ⟨by omega,by omega,k5⟩ hx2
          · exact aF (aF (aD (by simp [k5])))
        · subst hb
          exact dB (bJ (bJ (aD ⟨rfl,λhh=>hx2 (hh x (fE hx))⟩)))
    · have h:=of_decide_eq_false h
      refine bJ (cK (h2 λx hx=>?_))
      rw [List.drop_eq_nil_of_le (by omega)] at hx;cases hx
  · intro r hr
    refine iZ (λa e=>?_) λq e=>?_
    · subst e
      have hk:∀ x∈l,jA x:=hr
      refine aU _ (LC hn hl hk) λa ha=>aU _ (VU hn hl hk) λb hb=>?_
      have hp:=l9 hk
      refine aU (λr=>r=true↔LR l) (aF (fB (λk1=>aF (fB (λk2=>aF (aD ?_)) λk2=>aD ?_)) λk1=>aD ?_)) λr hr=>aD hr
      · have k1:=of_decide_eq_true k1;have k2:=of_decide_eq_true k2
        have h3:=ha.2 k2
        constructor
        · intro k3;exact ⟨hk,by omega,h3.1,h3.2,hb.2 (of_decide_eq_true k3)⟩
        · intro k3;rw [hb.1 k3.2.2.2.2];exact decide_eq_true rfl
      · have k2:=of_decide_eq_false k2
        refine ⟨λ(k:false=true)=>Bool.noConfusion k,λk=>absurd ?_ k2⟩
        rw [ha.1 k.2.2.1 k.2.2.2.1 k.2.2.2.2]
      · have k1:=of_decide_eq_false k1
        exact ⟨λ(k:false=true)=>Bool.noConfusion k,λk=>absurd k.2.1 (by omega)⟩
    · subst e;obtain ⟨h1,h2⟩:=hr
      exact ⟨λk=>(by rw [h1] at k;cases k),λk=>absurd k.1 h2⟩
theorem aI {β:Type} {P:β->Prop} {p:Prop} {_:Decidable p} {a b:Option β} (h1:p->Ex P a) (h2:¬p->Ex P b):Ex P (cond (decide p) a b):=by
  by_cases h:p
  · rw [decide_eq_true h];exact h1 h
  · rw [decide_eq_false h];exact h2 h
theorem dJ {β:Type} {P:β->Prop} {c:Bool} {a b:Option β} (h1:c=false->Ex P a) (h2:c=true->Ex P b):Ex P (cond (!c) a b):=by cases c;exact h1 rfl;exact h2 rfl
theorem dY {α γ β:Type} {P:β->Prop} {x:γ} {g:γ->Option α} {f:α->Option β} (h:Ex P ((g x).bind f)):Ex P ((bnd x g).bind f):=h
theorem aT3 {α β:Type} {P:β->Prop} {x:Int} {g:Int->Option α} {f:α->Option β} (hx:-9223372036854775808<=x/\x<=9223372036854775807) (h:Ex P ((g x).bind f)):Ex P ((bnd (bA x) g).bind f):=by
  obtain ⟨r,e,p⟩:=h;have k:bA x=x:=wrap64 hx
  exact ⟨r,by rw [<- e];show Option.bind (g (bA x)) f=_;rw [k],p⟩
theorem dW {α β:Type} {P:β->Prop} {c:Bool} {x y:Option α} {f:α->Option β} (h:Ex P (cond c (x.bind f) (y.bind f))):Ex P ((cond c x y).bind f):=by cases c;exact h;exact h
theorem dV {α β:Type} {P:β->Prop} {a:α} {f:α->Option β} (h:Ex P (f a)):Ex P ((some a).bind f):=h
theorem dO {α γ β:Type} {P:β->Prop} {x:Option γ} {g:γ->Option α} {f:α->Option β} (h:Ex P (x.bind λa=>(g a).bind f)):Ex P ((x.bind g).bind f):=by cases x;exact h;exact h
theorem dN {α γ δ β:Type} {P:β->Prop} {g:γ->δ->Option α} {q:γ×δ} {f:α->Option β} (h:Ex P ((g q.1 q.2).bind f)):Ex P ((p2 g q).bind f):=h
theorem dS {α β:Type} {P:β->Prop} {p:Prop} [Decidable p] {k:Option α} {f:α->Option β} (h:Ex P (iO p (k.bind f))):Ex P ((iO p k).bind f):=by
  unfold iO at h ⊢
  by_cases hp:p
  · rw [if_pos hp] at h ⊢;exact h
  · rw [if_neg hp] at h;obtain ⟨r,e,_⟩:=h;cases e
theorem dZ {α β:Type} {P:β->Prop} {x:Option β} {f:α->Option β} (h:Ex P x):Ex P ((esc x:Option (α⊕β)).bind (sel f)):=by obtain ⟨r,e,p⟩:=h;subst e;exact ⟨_,rfl,p⟩
theorem d9 {α β:Type} {P:β->Prop} {a:α} {f:α->Option β} (h:Ex P (f a)):Ex P ((brk a:Option (α⊕β)).bind (sel f)):=h
theorem cZ {α β:Type} {P:β->Prop} {f:α->Option β} {a:α} (h:Ex P (f a)):Ex P (sel f (.inl a)):=h
theorem yK {α β:Type} {P:β->Prop} {f:α->Option β} {a:β} (h:P a):Ex P (sel f (.inr a)):=⟨a,rfl,h⟩
theorem dD {α β:Type} {P:β->Prop} {l:List α} {i:Int} {a:α} {f:α->Option β} (h0:0<=i) (h:l[i.toNat]?=some a) (k:Ex P (f a)):Ex P ((ix l i).bind f):=by
  obtain ⟨r,e,p⟩:=k;exact ⟨r,iV h0 h e,p⟩
theorem bE {β:Type} {P:β->Prop} {x:Int} {f:Int->Option β} (h:Ex P (f x)) (hx:-9223372036854775808<=x/\x<=9223372036854775807:=by first | omega | (simp only;omega)):Ex P (bnd (bA x) f):=gU hx h
theorem dU {α β:Type} {P:β->Prop} {x:Int} {g:Int->Option α} {f:α->Option β} (h:Ex P ((g x).bind f)) (hx:-9223372036854775808<=x/\x<=9223372036854775807:=by first | omega | (simp only;omega)):Ex P ((bnd (bA x) g).bind f):=aT3 hx h
theorem dM {β:Type} {P:β->Prop} {p:Prop} {_:Decidable p} {k:Option β} (h:Ex P k) (hp:p:=by first | omega | (simp only [List.length_append,List.length_cons,List.length_nil,List.length_set];omega) | (simp;omega)):Ex P (iO p k):=iR hp h
theorem tC {l:List aB} (h:LR l):l.length<=30:=h.2.1
theorem aP4 {l:List aB} {x:aB} {n:Nat} (hn:66<n) (hl:LR l):Ex (λr=>(r.2=0/\r.1=l++[x]/\LR (l++[x]))\/(r.2≠0/\r.1=l)) (yY n l x):=by
  unfold yY QE
  simp only [WT.run,bS]
  have h1:=tC hl
  refine dM (aF (dM ?_))
  refine aU (λ_=>True) (aF (fB (λ_=>aD trivial) λ_=>aF (aD trivial))) λb _=>fB (λ_=>aD (.inr ⟨(λk=>nomatch k),rfl⟩)) λ_=>aF (fB (λ_=>aD (.inr ⟨(λk=>nomatch k),rfl⟩)) λk=>?_)
  refine aU _ (BK (l:=l++[x]) (by simp;omega) (by simp;omega)) λb hb=>aF (fB (λ_=>aD (.inr ⟨(λk=>nomatch k),rfl⟩)) λk2=>aD (.inl ⟨rfl,rfl,hb.1 (by simpa using k2)⟩))
theorem WL {p w q:Int} (hp:bQ p) (hw:1<=w/\w<q):ab (p-pt p w q)+ab (pt p w q)=ab p/\bQ (pt p w q)/\bQ (p-pt p w q):=by
  unfold bQ at hp ⊢
  have e:pt p w q=if p<0 then -(-p*w / q) else p*w / q:=by
    unfold pt;rw [if_neg (by intro h;rcases h with h | h | h | h;all_goals first | omega | exact h hp)]
  rw [e]
  by_cases h:p<0
  · obtain ⟨g1,g2⟩:=rM (v:=-p) (q:=w) (n:=q) (by omega) (by omega) (by omega)
    rw [if_pos h];generalize -p*w / q=z at *
    unfold ab
    repeat' split
    all_goals omega
  · obtain ⟨g1,g2⟩:=rM (v:=p) (q:=w) (n:=q) (by omega) (by omega) (by omega)
    rw [if_neg h];generalize p*w / q=z at *
    unfold ab
    repeat' split
    all_goals omega
theorem ZP {v w q:Int} (hv:0<=v/\v<=288230376151711744) (hw:1<=w/\w<q):0<=pt v w q/\pt v w q<=v:=by
  have e:pt v w q=v*w / q:=by
    unfold pt;rw [if_neg (by unfold bQ;intro h;omega),if_neg (by omega)]
  rw [e];exact rM (by omega) (by omega) (by omega)
def qM (l m:List aB) (g:aB):Prop:=LR m/\m.length<=l.length/\tQ m+g.aG=tQ l/\tV m+g.Value=tV l/\tP m+g.bO=tP l/\tS m+ab g.bO<=tS l/\0<=g.Value
theorem aHG {l:List aB} {a b c:Int} (h1:∀ x∈l,jA x) (h2:l.length<=30) (h3:tQ l<=a) (h4:tV l<=b) (h5:tS l<=c) (ha:a<=288230376151711744) (hb:b<=288230376151711744) (hc:c<=288230376151711744):LR l:=⟨h1,h2,by omega,by omega,by omega⟩
theorem QG {l:List aB} {q:Int} {n:Nat} (hn:66<n) (hl:LR l) (hq:-9223372036854775808<=q/\q<=9223372036854775807) :
    Ex (λr=>(r.2.2=0/\1<=q/\r.2.1.aG=q/\qM l r.1 r.2.1)\/(r.2.2≠0/\r.1=l/\r.2.1=⟨0,0,0⟩/\(1<=q->tQ l<q))) (xN n l q):=by
  obtain ⟨hk,h30,hQ,hV,hS⟩:=hl
  have hp:=l9 hk
  unfold xN SY
  simp only [WT.run,bS]
  refine aU _ (LC (by omega) (by omega) hk) λt ht=>?_
  rw [ht.1 hQ hV hS]
  refine aF (fB (λk1=>aD (.inr ⟨(λk=>nomatch k),rfl,rfl,λk=>?_⟩)) λk1=>aF (fB (λk2=>aD (.inr ⟨(λk=>nomatch k),rfl,rfl,λk=>of_decide_eq_true k2⟩)) λk2=>?_))
  · have:=of_decide_eq_true k1;omega
  have k1:=of_decide_eq_false k1;have k2:=of_decide_eq_false k2
  simp only at k2
  refine aU (λ(r:aB×List aB)=>r.1.aG=q/\qM l r.2 r.1) (fJ (λ(v:Int×aB×List aB)=>0<=v.1/\v.1<=(l.length:Int)/\(∀ x∈v.2.2,jA x)/\(v.2.2.length:Int)<=v.1/\(0<=v.2.1.aG/\v.2.1.aG<=q)/\0<=v.2.1.Value/\tQ v.2.2+v.2.1.aG+tQ (l.drop v.1.toNat)=tQ l/\tV v.2.2+v.2.1.Value+tV (l.drop v.1.toNat)=tV l/\tP v.2.2+v.2.1.bO+tP (l.drop v.1.toNat)=tP l/\tS v.2.2+ab v.2.1.bO+tS (l.drop v.1.toNat)<=tS l/\(tQ v.2.2>0->v.2.1.aG=q)) (λ(v:Int×aB×List aB)=>l.length-v.1.toNat) ?_ (v:=(0,⟨0,0,0⟩,[])) (by simp [tQ,tV,tP,tS,ab];omega) (by simp;omega)) ?_
  · rintro ⟨i,⟨gq,gv,gp⟩,m⟩ ⟨h0,h1,hm,hml,hg,hgv,e1,e2,e3,e4,e5⟩
    refine bF (bF (aF (fB (λh=>?_) λh=>?_)))
    · have h:=of_decide_eq_true h
      simp only at h0 h1 hm hml hg hgv e1 e2 e3 e4 e5 h
      refine aU (λ(r:aB×List aB)=>(∀ x∈r.2,jA x)/\(r.2.length:Int)<=i+1/\(0<=r.1.aG/\r.1.aG<=q)/\0<=r.1.Value/\tQ r.2+r.1.aG+tQ (l.drop (i.toNat+1))=tQ l/\tV r.2+r.1.Value+tV (l.drop (i.toNat+1))=tV l/\tP r.2+r.1.bO+tP (l.drop (i.toNat+1))=tP l/\tS r.2+ab r.1.bO+tS (l.drop (i.toNat+1))<=tS l/\(tQ r.2>0->r.1.aG=q)) ?_ λr hr=>?_
      · refine eT h0 h λx hx=>?_
        have hx:l[i.toNat]?=some x:=hx
        obtain ⟨d1,d2,d3,d4⟩:=BV hx
        obtain ⟨g1,g2,g3⟩:=hk x (fE hx)
        have hr:=l9 (l:=l.drop (i.toNat+1)) λy hy=>hk y (List.mem_of_mem_drop hy)
        have hmp:=l9 hm
        refine gU (show -9223372036854775808<=q-gq/\q-gq<=9223372036854775807 by omega) (aF (fB (λc1=>?_) λc1=>?_))
        · have c1:q-gq<=0:=of_decide_eq_true c1
          obtain ⟨a1,a2,a3,a4⟩:=tK m [x]
          simp only [tQ,tV,tP,tS,Int.add_zero] at a1 a2 a3 a4
          refine aF (dM (aD ⟨?_,by simp;omega,by omega,by omega,?_⟩))
          · intro y hy
            rcases List.mem_append.1 hy with hy | hy
            · exact hm y hy
            · rw [List.mem_singleton] at hy;subst hy;exact ⟨g1,g2,g3⟩
          · simp only [a1,a2,a3,a4];refine ⟨?_,?_,?_,?_,?_⟩ <;> omega
        · have c1:¬ q-gq<=0:=of_decide_eq_false c1
          refine aU (λ(r:List aB×aB)=>(∀ x∈r.1,jA x)/\(r.1.length:Int)<=i+1/\(1<=r.2.aG/\gq+r.2.aG<=q)/\(0<=r.2.Value/\r.2.Value<=288230376151711744)/\bQ r.2.bO/\tQ r.1+r.2.aG=tQ m+x.aG/\tV r.1+r.2.Value=tV m+x.Value/\tP r.1+r.2.bO=tP m+x.bO/\tS r.1+ab r.2.bO=tS m+ab x.bO/\(tQ r.1>0->gq+r.2.aG=q)) ?_ λr hr=>?_
          · refine aF (aI (λc2=>?_) λc2=>aD ⟨hm,(by simp only;omega),(by have c2:¬ x.aG>q-gq:=c2;simp only;omega),(by simp only;omega),g3,rfl,rfl,rfl,rfl,by show tQ m>0->gq+x.aG=q;have c2:¬ x.aG>q-gq:=c2;omega⟩)
            have c2:x.aG>q-gq:=c2
            obtain ⟨p1,p2⟩:=ZP (v:=x.Value) (w:=q-gq) (q:=x.aG) g2 (by omega)
            obtain ⟨p3,p4,p5⟩:=WL (p:=x.bO) (w:=q-gq) (q:=x.aG) g3 (by omega)
            refine x_eq (oJ hn (by simp only;omega) (by omega)) (x_eq (oJ hn (by simp only;omega) (by omega)) ?_)
            unfold bQ at p4 p5
            refine gU (by simp only;omega) (gU (by simp only;omega) (gU (by simp only;omega) (aF (dM (aD ?_)))))
            obtain ⟨a1,a2,a3,a4⟩:=tK m [⟨x.aG-(q-gq),x.Value-pt x.Value (q-gq) x.aG,x.bO-pt x.bO (q-gq) x.aG⟩]
            simp only [tQ,tV,tP,tS,Int.add_zero] at a1 a2 a3 a4
            refine ⟨?_,by simp;omega,?_,?_,?_,?_⟩
            · intro y hy
              rcases List.mem_append.1 hy with hy | hy
              · exact hm y hy
              · rw [List.mem_singleton] at hy;subst hy;exact ⟨by simp only;omega,by simp only;omega,by unfold bQ;simp only;omega⟩
            · simp only;omega
            · simp only;omega
            · unfold bQ;simp only;omega
            · simp only [a1,a2,a3,a4];refine ⟨?_,?_,?_,?_,?_⟩ <;> omega
          · obtain ⟨m',yq,yv,yp⟩:=r
            obtain ⟨r1,r2,r3,r4,r5,r6,r7,r8,r9,G5⟩:=hr
            simp only at r1 r2 r3 r4 r5 r6 r7 r8 r9 G5
            have hmp':=l9 r1
            obtain ⟨b1,b2,b3⟩:=mE gp
            obtain ⟨b4,b5,b6⟩:=mE yp
            obtain ⟨b7,b8,b9⟩:=mE (gp+yp)
            have b10:ab (gp+yp)<=ab gp+ab yp:=by unfold ab;repeat' split <;> omega
            refine bF (gU (by simp only;omega) (gU (by simp only;omega) (gU (by simp only;omega) (aD ⟨r1,r2,by simp only;omega,by simp only;omega,?_⟩))))
            simp only;refine ⟨?_,?_,?_,?_,?_⟩ <;> omega
      · refine bF (bE (cK ?_))
        have e:(i+1).toNat=i.toNat+1:=by omega
        refine ⟨⟨by show (0:Int)<=i+1;omega,by show i+1<=(l.length:Int);omega,hr.1,hr.2.1,hr.2.2.1,hr.2.2.2.1,?_⟩,by show l.length-(i+1).toNat<l.length-i.toNat;omega⟩
        show tQ r.2+r.1.aG+tQ (l.drop (i+1).toNat)=tQ l/\tV r.2+r.1.Value+tV (l.drop (i+1).toNat)=tV l/\tP r.2+r.1.bO+tP (l.drop (i+1).toNat)=tP l/\tS r.2+ab r.1.bO+tS (l.drop (i+1).toNat)<=tS l/\(tQ r.2>0->r.1.aG=q)
        rw [e];exact hr.2.2.2.2
    · have h:=of_decide_eq_false h
      simp only at h0 h1 hm hml hg hgv e1 e2 e3 e4 e5 h
      have e:l.drop i.toNat=[]:=List.drop_eq_nil_of_le (by omega)
      rw [e] at e1 e2 e3 e4
      simp only [tQ,tV,tP,tS,Int.add_zero] at e1 e2 e3 e4
      have hmp:=l9 hm
      obtain ⟨b1,b2,b3⟩:=mE gp
      refine bJ (aD ?_)
      show gq=q/\qM l m ⟨gq,gv,gp⟩
      refine ⟨by omega,?_⟩
      refine ⟨aHG hm (by omega) (by omega:tQ m<=tQ l) (by omega:tV m<=tV l) (by omega:tS m<=tS l) hQ hV hS,by omega,by simp only;omega,by simp only;omega,by simp only;omega,by simp only;omega,by simp only;omega⟩
  · intro r hr
    exact bF (aD (.inl ⟨rfl,by omega,hr.1,hr.2⟩))
def eD {α:Type} (f:α->Int):List α->Int | []=>0 | x :: r=>f x+eD f r
theorem vV {α:Type} (f:α->Int) (a b:List α):eD f (a++b)=eD f a+eD f b:=by
  induction a with
  | nil=>simp [eD]
  | cons x r ih=>simp only [List.cons_append,eD,ih];omega
theorem rW {α:Type} (f:α->Int) {l:List α} {k:Nat} {a b:α} (h:l[k]?=some a):eD f (l.set k b)=eD f l-f a+f b:=by
  induction l generalizing k with
  | nil=>cases h
  | cons x r ih =>
    cases k with
    | zero=>cases h;simp only [List.set_cons_zero,eD];omega
    | succ k=>simp only [List.set_cons_succ,eD];rw [ih h];omega
theorem uK {α:Type} {f:α->Int} {l:List α} (h:∀ x∈l,0<=f x):0<=eD f l:=by
  induction l with
  | nil=>exact Int.le_refl _
  | cons x r ih=>have:=ih λy hy=>h y (List.mem_cons_of_mem _ hy);have:=h x (List.mem_cons_self ..);simp only [eD];omega
theorem tT {α:Type} (f:α->Int) {l:List α} {i:Nat} {x:α} (h:l[i]?=some x):eD f (l.drop i)=f x+eD f (l.drop (i+1)):=by
  rw [(drop_at h).2];rfl
theorem aKW {α β:Type} (f:β->Int) (g:α->β) (l:List α):eD f (l.map g)=eD (λx=>f (g x)) l:=by
  induction l with
  | nil=>rfl
  | cons x r ih=>simp only [List.map_cons,eD,ih]
theorem JA {α:Type} {f:α->Int} {l:List α} (h:∀ x∈l,f x=0):eD f l=0:=by
  induction l with
  | nil=>rfl
  | cons x r ih=>simp only [eD];rw [h x (List.mem_cons_self ..),ih λy hy=>h y (List.mem_cons_of_mem _ hy)];rfl
def dA (l:List Int):Int:=eD (λx=>x) l
def sV (l:List aH):Int:=eD (λp=>tV p.aW) l
theorem mem_set {α:Type} {l:List α} {k:Nat} {b x:α} (h:x∈l.set k b):x=b\/x∈l:=by
  rcases List.mem_or_eq_of_mem_set h with h | h
  · exact .inr h
  · exact .inl h
theorem aJ2 {l:List Int}:∀ {n:Int},0<=n->(∀ x∈l,0<=x)->n+dA l<=288230376151711744->iD n l=some (n+dA l):=by
  induction l with
  | nil=>intro n _ _ _;simp [iD,dA,eD]
  | cons x r ih =>
    intro n hn hx hs
    have h1:=hx x (List.mem_cons_self ..)
    have h2:0<=dA r:=uK λy hy=>hx y (List.mem_cons_of_mem _ hy)
    have e:dA (x :: r)=x+dA r:=rfl
    rw [iD,if_pos ⟨by unfold bQ;omega,by unfold bQ;omega,by unfold bQ;omega⟩,ih (by omega) (λy hy=>hx y (List.mem_cons_of_mem _ hy)) (by omega),e,Int.add_assoc]
theorem HV {l:List Int} (hx:∀ x∈l,0<=x) (hs:dA l<=288230376151711744):gM l=(dA l,0):=by
  unfold gM;rw [aJ2 (Int.le_refl 0) hx (by omega)];show (0+dA l,(0:Int))=_;rw [Int.zero_add]
theorem aK7 {l:List Int}:∀ {n v:Int},iD n l=some v->v=n+dA l/\(bQ n->bQ v):=by
  induction l with
  | nil=>intro n v h;cases h;simp [dA,eD]
  | cons x r ih =>
    intro n v h
    rw [iD] at h
    by_cases hc:bQ n/\bQ x/\bQ (n+x)
    · rw [if_pos hc] at h
      obtain ⟨h1,h2⟩:=ih h
      exact ⟨by rw [h1];show n+x+dA r=n+(x+dA r);omega,λ_=>h2 hc.2.2⟩
    · rw [if_neg hc] at h;cases h
theorem aCH {l:List Int} (h:(gM l).2=0):gM l=(dA l,0)/\bQ (dA l):=by
  unfold gM at h ⊢
  cases e:iD 0 l with
  | none=>rw [e] at h;exact absurd (show (2:Int)=0 from h) (by decide)
  | some v =>
    obtain ⟨h1,h2⟩:=aK7 e
    rw [Int.zero_add] at h1;subst h1
    exact ⟨rfl,h2 (by unfold bQ;omega)⟩
theorem aI8 {l:List aB} (h:LR l) (hl:1<=l.length):LR [⟨tQ l,tV l,tP l⟩]/\tS [⟨tQ l,tV l,tP l⟩]<=tS l/\tQ [⟨tQ l,tV l,tP l⟩]=tQ l/\tV [⟨tQ l,tV l,tP l⟩]=tV l/\tP [⟨tQ l,tV l,tP l⟩]=tP l:=by
  obtain ⟨hk,h30,hQ,hV,hS⟩:=h
  obtain ⟨a1,a2,a3,a4,a5,a6⟩:=l9 hk
  have e:ab (tP l)<=tS l:=by unfold ab;split <;> omega
  refine ⟨⟨?_,by simp,by simp [tQ];omega,by simp [tV];omega,by simp [tS];omega⟩,by simp [tS];omega,by simp [tQ],by simp [tV],by simp [tP]⟩
  intro x hx
  rw [List.mem_singleton] at hx;subst hx
  exact ⟨by simp only;omega,by simp only;omega,by unfold bQ;simp only;omega⟩
theorem Y7 {q v p:Int} (hq:1<=q/\q<=288230376151711744) (hv:0<=v/\v<=288230376151711744) (hp:bQ p):LR [⟨q,v,p⟩]:=by
  have e:ab p<=288230376151711744:=by unfold bQ at hp;unfold ab;split <;> omega
  refine ⟨λx hx=>?_,by simp,by simp [tQ];omega,by simp [tV];omega,by simp [tS];omega⟩
  rw [List.mem_singleton] at hx;subst hx;exact ⟨hq,hv,hp⟩
theorem aTT:LR []:=⟨(λx hx=>(nomatch hx)),by simp,by simp [tQ],by simp [tV],by simp [tS]⟩
structure PR (m:Int) (p:aH):Prop where
  mt:1<=m/\m<=4
  ly:LR p.aW
  one:m≠1->p.aW.length<=1
  p0:0<=p.bN.a0
  p1:0<=p.bN.a1
  p2:0<=p.bN.a2
  sum:p.bN.a0+p.bN.a1+p.bN.a2<=tQ p.aW
  uQ:m≠3->p.bN.a0=0/\p.bN.a1=0/\p.bN.a2=0
structure IO (m:Int) (p q:aH):Prop where
  pp:PR m p
  qq:PR m q
  sq:tQ p.aW+tQ q.aW<=288230376151711744
  ss:tS p.aW+tS q.aW<=288230376151711744
def wX (r:cO):Prop:=bQ r.Open/\bQ r.iW/\bQ r.jH/\bQ r.jG/\bQ r.iY/\bQ r.jF/\bQ r.jE/\bQ r.iX/\bQ r.jC/\bQ r.jD/\bQ r.jB
def kM (r:cO):Int:=r.Open+r.iW+r.jH+r.jG+r.iY+r.jB-(r.jF+r.jE+r.iX+r.jC+r.jD)
def qU (a b:cO):cO:=⟨a.Open+b.Open,a.iW+b.iW,a.jH+b.jH,a.jG+b.jG,a.iY+b.iY,a.jF+b.jF,a.jE+b.jE,a.iX+b.iX,a.jC+b.jC,a.jD+b.jD,a.jB+b.jB⟩
structure ES (n:Nat) (bL:List Int) (iN:Int) (x:aQ):Prop where
  now:1<=x.fU/\x.fU<=iN
  lp:x.bX.length=2*n
  lr:x.dQ.length=n
  lb:x.dR.length=17
  lc:x.gI.length=n
  ld:x.Down.length=n
  lm:bL.length=n
  gH:∀ b∈x.dR,bQ b
  pri:∀ b∈x.gI,-1<=b/\b<=288230376151711744
  zX:∀ b∈x.Down,0<=b/\b<=288230376151711744
  AI:∀ (i:Nat) m p q,bL[i]?=some m->x.bX[2*i]?=some p->x.bX[2*i+1]?=some q->IO m p q
  roll:∀ r∈x.dQ,wX r
def bl (x:aQ) (a:Nat):Int:=x.dR.getD a 0
structure EB (x:aQ):Prop where
  ctl:sV x.bX=bl x 0
  pW:dA x.Down=-bl x 11
  qX:dA x.dR=0
  pE:∀ (i:Nat) r p q,x.dQ[i]?=some r->x.bX[2*i]?=some p->x.bX[2*i+1]?=some q->kM r=tV p.aW+tV q.aW
structure pM (m:fC):Prop where
  vL:1<=m.gG/\m.gG<=4
  iN:1<=m.gQ/\m.gQ<=12
  n1:1<=m.bZ.length/\m.bZ.length<=5
  ZM:∀ x∈m.bZ,0<=x/\x<=1073741824
  lm:(m.Methods.length:Int)=m.gG
  lc:(m.gL.length:Int)=m.gG
  met:∀ l∈m.Methods,l.length=m.bZ.length/\∀ x∈l,1<=x/\x<=4
  cos:∀ l∈m.gL,l.length=m.bZ.length/\∀ x∈l,0<=x/\x<=1073741824
structure EO (m:fC) (bL:List Int) (x:aQ):Prop where
  es:ES m.bZ.length bL m.gQ x
  ee:EB x
  opn:x.Closed=false
  lH:x.fV=[]
structure EC (m:fC) (bL:List Int) (x y:aQ):Prop where
  es:ES m.bZ.length bL m.gQ x
  ee:EB x
  LP:x.Closed=true
  lH:x.fV=[y]
  eo:EO m bL y
  now:y.fU=x.fU
  b1:bl y 1=bl x 1
  b12:bl y 12=bl x 12
  b13:bl y 13=bl x 13
  b14:bl y 14=bl x 14
def EI (m:fC) (bL:List Int) (x:aQ):Prop:=EO m bL x\/∃ y,EC m bL x y
def tH (m:fC) (r:dG):Prop:=(0<=r.eY/\r.eY<m.gG)/\(0<=r.Item/\r.Item<(m.bZ.length:Int))/\(0<=r.Loc/\r.Loc<=1)/\(0<=r.aG/\r.aG<=288230376151711744)/\(0<=r.Value/\r.Value<=288230376151711744)/\(0<=r.Open/\r.Open<=r.aG)/\(0<=r.gW/\r.gW<=288230376151711744)/\(0<=r.gP/\r.gP<=r.aG)
def pI (m:fC) (r:eZ):Prop:=(0<=r.eY/\r.eY<m.gG)/\(0<=r.Item/\r.Item<(m.bZ.length:Int))/\(0<=r.Loc/\r.Loc<=1)/\(0<=r.aG/\r.aG<=288230376151711744)/\(0<=r.gP/\r.gP<=r.aG)/\(0<=r.pR/\r.pR<=288230376151711744)/\bQ r.bO/\(1<=r.nG/\r.nG<=12)
def BH (m:fC) (r:fT):Prop:=(0<=r.rZ/\r.rZ<m.gG)/\(0<=r.To/\r.To<m.gG)/\(0<=r.Item/\r.Item<(m.bZ.length:Int))/\(0<=r.aG/\r.aG<=288230376151711744)/\(0<=r.Value/\r.Value<=288230376151711744)/\bQ r.bO
def iT (e:Nat) (r:dG):Int:=if r.eY=(e:Int) then r.gW else 0
def iI (e:Nat) (r:fT):Int:=if r.To=(e:Int) then r.Value else 0
def kH (x:aQ):Int:=bl x 13+bl x 14
structure Inv (K:Int) (s:aA):Prop where
  jW:pM s.bH
  len:(s.bD.length:Int)=s.bH.gG
  xS:0<=s.Done/\s.Done<=K
  mD:∀ r∈s.bY,tH s.bH r
  mO:∀ r∈s.eF,pI s.bH r
  nP:∀ r∈s.dL,BH s.bH r
  l1:s.bY.length<=40
  l2:s.eF.length<=40
  l3:s.dL.length<=40
  ent:∀ (e:Nat) x bL,s.bD[e]?=some x->s.bH.Methods[e]?=some bL->EI s.bH bL x
  acc:∀ (e:Nat) x,s.bD[e]?=some x->eD (iT e) s.bY=-bl x 1
  way:∀ (e:Nat) x,s.bD[e]?=some x->eD (iI e) s.dL=bl x 12
  xD:eD kH s.bD=0
def lM (s:aA) (e:Nat) (x:aQ):aA:={ s with bD:=s.bD.set e x }
theorem aD0 (s:aA) (e:Nat) (x y:aQ):lM (lM s e x) e y=lM s e y:=by unfold lM;rw [List.set_set]
theorem QK {s:aA} {e:Nat} {x:aQ} (h:e<s.bD.length):(lM s e x).bD[e]?=some x:=by unfold lM;simp [h]
theorem yN (a b c:Int):0<=(md a b c).1/\(md a b c).1<=288230376151711744/\0<=(md a b c).2.2/\(md a b c).2.2<=2:=by
  unfold md
  by_cases h:a<0\/b<0\/c<1
  · rw [if_pos h];simp
  · rw [if_neg h]
    have h0:0<=a*b / c:=Int.ediv_nonneg (Int.mul_nonneg (by omega) (by omega)) (by omega)
    by_cases h2:a*b / c>288230376151711744
    · rw [if_pos h2];simp
    · rw [if_neg h2];simp;omega
theorem xI {l:List aB} {n:Nat} (hn:66<n) (hl:LR l):rP n l=some (⟨tQ l,tV l,tP l⟩,0):=by
  obtain ⟨hk,h30,hQ,hV,hS⟩:=hl
  exact fH (IN (LC (by omega) (by omega) hk) λr hr=>hr.1 hQ hV hS)
theorem gV {l:List aB} (h:LR l):(0<=tQ l/\tQ l<=288230376151711744)/\(0<=tV l/\tV l<=288230376151711744)/\(-288230376151711744<=tP l/\tP l<=288230376151711744)/\(0<=tS l/\tS l<=288230376151711744)/\(l.length:Int)<=tQ l/\l.length<=30/\-tS l<=tP l/\tP l<=tS l:=by
  obtain ⟨hk,h30,hQ,hV,hS⟩:=h
  obtain ⟨a1,a2,a3,a4,a5,a6⟩:=l9 hk
  omega
theorem xJ {p:aH} {n:Nat} (hn:66<n) (hl:LR p.aW):uX n p=some ⟨tQ p.aW,tV p.aW,tP p.aW⟩:=by
  unfold uX UT
  simp only [WT.run,bS,xI hn hl,Option.bind_some]
theorem EY {m:Int} {p:aH} {n:Nat} (hn:66<n) (h:PR m p):wJ n p=some (tQ p.aW-p.bN.a0-p.bN.a1-p.bN.a2):=by
  have hl:=gV h.ly
  have:=h.p0;have:=h.p1;have:=h.p2;have:=h.sum
  refine fH ?_
  unfold wJ YQ
  simp only [WT.run,bS,xI hn h.ly,Option.bind_some]
  exact gU (by (try simp only at *);omega) (gU (by (try simp only at *);omega) (gU (by (try simp only at *);omega) (aD rfl)))
theorem aI9 {m:Int} {p:aH} {n:Nat} (hn:66<n) (h:PR m p):MU n m p=some (tQ p.aW-p.bN.a0-p.bN.a1-p.bN.a2):=by
  refine fH ?_
  unfold MU VE
  simp only [WT.run,bS,EY hn h,xJ hn h.ly,Option.bind_some]
  refine aF (aI (λk=>aD rfl) λk=>aD ?_)
  obtain ⟨a,b,c⟩:=h.uQ k
  show tQ p.aW=_
  omega
theorem aAJ {l:List aB} {x:aB} (h:LR (l++[x])):jA x:=h.1 x (by simp)
theorem PK {l:List aB} {x:aB} {n:Nat} (hn:66<n) (hl:LR l):Ex (λr=>(r.2=0/\r.1=[⟨tQ l+x.aG,tV l+x.Value,tP l+x.bO⟩]/\LR (l++[x]))\/(r.2≠0/\r.1=l)) (vB n l x):=by
  have h1:=tC hl
  obtain ⟨a1,a2,a3,a4⟩:=tK l [x]
  simp only [tQ,tV,tP,tS,Int.add_zero] at a1 a2 a3 a4
  unfold vB N7
  simp only [WT.run,bS]
  repeat' with_reducible first | refine bE ?_ | refine dU ?_ | apply aF | apply bF | apply dY | apply dN | apply dV | apply dZ | apply d9 | apply dO | apply dW | apply dS | refine aI (λ_=>?_) λ_=>?_ | refine dJ (λ_=>?_) λ_=>?_ | apply dB | apply bW | apply cZ | apply bJ | apply aD
  all_goals try exact .inr ⟨(λk=>nomatch k),rfl⟩
  refine dM (aF (dM (aU _ (BK (by simp;omega) (by simp;omega)) λb hb=>?_)))
  repeat' with_reducible first | refine bE ?_ | refine dU ?_ | apply aF | apply bF | apply dY | apply dN | apply dV | apply dZ | apply d9 | apply dO | apply dW | apply dS | refine aI (λ_=>?_) λ_=>?_ | refine dJ (λ_=>?_) λ_=>?_ | apply dB | apply bW | apply cZ | apply bJ | apply aD
  · exact .inr ⟨(λk=>nomatch k),rfl⟩
  · rename_i h4
    have h3:=hb.1 h4
    refine x_eq (xI hn h3) (aD (.inl ⟨rfl,?_,h3⟩))
    simp only [a1,a2,a3,tQ,tV,tP]
theorem M6 {n:Nat} {q c:Int} (hn:66<n) (ha:-9223372036854775808<=q/\q<=9223372036854775807) (hb:-9223372036854775808<=c/\c<=9223372036854775807):y8 n q c=some ((md q c 1).1,decide ((md q c 1).2.2=0)):=by
  unfold y8 VD
  simp only [WT.run,bS,zA hn ha hb (show -9223372036854775808<=(1:Int)/\(1:Int)<=9223372036854775807 by decide),Option.bind_some]
  rfl
theorem aGX {l:List aB} {x:aB} {c:Int} {n:Nat} (hn:66<n) (hl:LR l) (hc:0<=c/\c<=1073741824) (hx:x.aG<=9223372036854775807) :
    Ex (λr=>(r.2.2=0/\(0<=x.Value/\x.Value<=288230376151711744)/\∃ v,r.1=[⟨tQ l+x.aG,tV l+v,tP l+x.bO⟩]/\LR (l++[⟨x.aG,v,x.bO⟩])/\r.2.1=x.Value-v)\/(r.2.2≠0/\r.1=l/\r.2.1=0)) (L9 n l x c):=by
  unfold L9 aAB
  simp only [WT.run,bS]
  repeat' with_reducible first | refine bE ?_ | refine dU ?_ | apply aF | apply bF | apply dY | apply dN | apply dV | apply dZ | apply d9 | apply dO | apply dW | apply dS | refine aI (λ_=>?_) λ_=>?_ | refine dJ (λ_=>?_) λ_=>?_ | apply dB | apply bW | apply cZ | apply bJ | apply aD
  all_goals try exact .inr ⟨(λk=>nomatch k),rfl,rfl⟩
  all_goals try (exfalso;omega)
  rename_i h1 h2
  refine x_eq (M6 hn (by omega) (by omega)) ?_
  have hm:=yN x.aG c 1
  repeat' with_reducible first | refine bE ?_ | refine dU ?_ | apply aF | apply bF | apply dY | apply dN | apply dV | apply dZ | apply d9 | apply dO | apply dW | apply dS | refine aI (λ_=>?_) λ_=>?_ | refine dJ (λ_=>?_) λ_=>?_ | apply dB | apply bW | apply cZ | apply bJ | apply aD
  all_goals try exact .inr ⟨(λk=>nomatch k),rfl,rfl⟩
  rename_i h3
  refine aU _ (PK hn hl) λr hr=>?_
  rcases hr with ⟨e1,e2,e3⟩ | ⟨e1,e2⟩
  · repeat' with_reducible first | refine bE ?_ | refine dU ?_ | apply aF | apply bF | apply dY | apply dN | apply dV | apply dZ | apply d9 | apply dO | apply dW | apply dS | refine aI (λ_=>?_) λ_=>?_ | refine dJ (λ_=>?_) λ_=>?_ | apply dB | apply bW | apply cZ | apply bJ | apply aD
    · omega
    · exact Or.inl ⟨rfl,by omega,(md x.aG c 1).1,e2,e3,rfl⟩
  · repeat' with_reducible first | refine bE ?_ | refine dU ?_ | apply aF | apply bF | apply dY | apply dN | apply dV | apply dZ | apply d9 | apply dO | apply dW | apply dS | refine aI (λ_=>?_) λ_=>?_ | refine dJ (λ_=>?_) λ_=>?_ | apply dB | apply bW | apply cZ | apply bJ | apply aD
    · exact .inr ⟨e1,rfl,rfl⟩
    · omega
theorem IY {m:Int} {p:aH} {l:List aB} (h:PR m p) (hl:LR l) (h1:m≠1->l.length<=1) (hq:tQ p.aW<=tQ l):PR m ⟨l,p.bN⟩ :=
  { h with ly:=hl,one:=h1,sum:=by have:=h.sum;show p.bN.a0+p.bN.a1+p.bN.a2<=tQ l;omega }
def Came (m:Int) (p q:aH) (x:aB) (above:Int):Prop:=PR m q/\tQ q.aW=tQ p.aW+x.aG/\tV q.aW+above=tV p.aW+x.Value/\tP q.aW=tP p.aW+x.bO/\tS q.aW<=tS p.aW+ab x.bO/\(1<=x.aG/\x.aG<=288230376151711744)/\(0<=x.Value/\x.Value<=288230376151711744)
theorem OU {m:Int} {p:aH} {x:aB} (h:PR m p) (hl:LR (p.aW++[x])):Came m p ⟨[⟨tQ p.aW+x.aG,tV p.aW+x.Value,tP p.aW+x.bO⟩],p.bN⟩ x 0:=by
  obtain ⟨a1,a2,a3,a4⟩:=tK p.aW [x]
  simp only [tQ,tV,tP,tS,Int.add_zero] at a1 a2 a3 a4
  obtain ⟨b1,b2,b3,b4,b5⟩:=aI8 hl (by simp)
  have hb:=gV hl
  have hx:=aAJ hl
  obtain ⟨c1,c2,c3⟩:=hx
  rw [a1,a2,a3] at b1 b2 b3 b4 b5
  refine ⟨IY h b1 (λ_=>by simp) (by rw [b3];omega),b3,?_,b5,?_,by omega,by omega⟩
  · show tV [_]+0=_;rw [b4];omega
  · show tS [_]<=_;omega
theorem aM7 {m:Int} {p:aH} {x:aB} {n:Nat} (hn:66<n) (h:PR m p):Ex (λr=>(r.2=0/\Came m p r.1 x 0)\/(r.2≠0/\r.1=p)) (KQ n p x):=by
  unfold KQ WY
  simp only [WT.run,bS]
  refine aU _ (PK hn h.ly) λr hr=>?_
  rcases hr with ⟨e1,e2,e3⟩ | ⟨e1,e2⟩
  · repeat' with_reducible first | refine bE ?_ | refine dU ?_ | apply aF | apply bF | apply dY | apply dN | apply dV | apply dZ | apply d9 | apply dO | apply dW | apply dS | refine aI (λ_=>?_) λ_=>?_ | refine dJ (λ_=>?_) λ_=>?_ | apply dB | apply bW | apply cZ | apply bJ | apply aD
    · omega
    · rw [e2];exact .inl ⟨rfl,OU h e3⟩
  · repeat' with_reducible first | refine bE ?_ | refine dU ?_ | apply aF | apply bF | apply dY | apply dN | apply dV | apply dZ | apply d9 | apply dO | apply dW | apply dS | refine aI (λ_=>?_) λ_=>?_ | refine dJ (λ_=>?_) λ_=>?_ | apply dB | apply bW | apply cZ | apply bJ | apply aD
    · exact .inr ⟨e1,rfl⟩
    · omega
theorem aP3 {m c:Int} {p:aH} {x:aB} {n:Nat} (hn:66<n) (h:PR m p) (hc:0<=c/\c<=1073741824) (hx:x.aG<=9223372036854775807) :
    Ex (λr=>(r.2.2=0/\Came m p r.1 x r.2.1/\(-288230376151711744<=r.2.1/\r.2.1<=288230376151711744))\/(r.2.2≠0/\r.1=p/\r.2.1=0)) (HY n m c p x):=by
  unfold HY aDA
  simp only [WT.run,bS]
  refine aU (λ(r:Int×Int×aH)=>r.2.1=0->Came m p r.2.2 x r.1/\(-288230376151711744<=r.1/\r.1<=288230376151711744)) ?_ λr hr=>?_
  · refine aF (aI (λk1=>?_) λk1=>aF (aI (λk2=>?_) λk2=>aF (aI (λk3=>?_) λk3=>aF (aI (λk4=>?_) λk4=>aD (λk=>nomatch k)))))
    · refine aU _ (aP4 hn h.ly) λr hr=>aD ?_
      rcases hr with ⟨e1,e2,e3⟩ | ⟨e1,e2⟩
      · intro _
        obtain ⟨a1,a2,a3,a4⟩:=tK p.aW [x]
        simp only [tQ,tV,tP,tS,Int.add_zero] at a1 a2 a3 a4
        obtain ⟨c1,c2,c3⟩:=aAJ e3
        simp only [e2]
        refine ⟨⟨IY h e3 (λk=>absurd k1 k) (by omega),a1,by simp only;omega,a3,by simp only;omega,by omega,by omega⟩,by decide⟩
      · intro k;exact absurd k e1
    · refine aU _ (PK hn h.ly) λr hr=>aD ?_
      rcases hr with ⟨e1,e2,e3⟩ | ⟨e1,e2⟩
      · intro _;simp only [e2];exact ⟨OU h e3,by decide⟩
      · intro k;exact absurd k e1
    · refine aU _ (aM7 hn h) λr hr=>aD ?_
      rcases hr with ⟨e1,e2⟩ | ⟨e1,e2⟩
      · intro _;exact ⟨e2,by simp⟩
      · intro k;exact absurd k e1
    · refine aU _ (aGX hn h.ly hc hx) λr hr=>aD ?_
      rcases hr with ⟨e1,hv,v,e2,e3,e4⟩ | ⟨e1,e2,_⟩
      · intro _
        obtain ⟨b1,b2,b3,b4,b5,b6,b7⟩:=OU h e3
        have b8:0<=v/\v<=288230376151711744:=b7
        simp only [e2,e4]
        refine ⟨⟨b1,b2,?_,b4,b5,b6,hv⟩,by omega⟩
        (try simp only at *);omega
      · intro k;exact absurd k e1
  · obtain ⟨ab,e,q⟩:=r
    repeat' with_reducible first | refine bE ?_ | refine dU ?_ | apply aF | apply bF | apply dY | apply dN | apply dV | apply dZ | apply d9 | apply dO | apply dW | apply dS | refine aI (λ_=>?_) λ_=>?_ | refine dJ (λ_=>?_) λ_=>?_ | apply dB | apply bW | apply cZ | apply bJ | apply aD
    · rename_i k;exact .inr ⟨k,rfl,rfl⟩
    · rename_i k;exact .inl ⟨rfl,hr (by simpa using k)⟩
end Go.Pv
