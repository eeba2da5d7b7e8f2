import Derived.Test.YtgoihillpibdjaaGreatB70
set_option linter.unusedVariables false
set_option linter.unusedSimpArgs false
namespace Go.Pv
open Go.Proofs
set_option maxRecDepth 100000
set_option maxHeartbeats 1000000
def tQ:List aB->Int | []=>0 | x :: r=>x.aI+tQ r
def tV:List aB->Int | []=>0 | x :: r=>x.Value+tV r
def tP:List aB->Int | []=>0 | x :: r=>x.bN+tP r
def ab (x:Int):Int:=if x<0 then -x else x
def tS:List aB->Int | []=>0 | x :: r=>ab x.bN+tS r
def jA (x:aB):Prop:=(1<=x.aI/\x.aI<=288230376151711744)/\(0<=x.Value/\x.Value<=288230376151711744)/\bQ x.bN
def LR (l:List aB):Prop:=(∀ x∈l,jA x)/\l.length<=30/\tQ l<=288230376151711744/\tV l<=288230376151711744/\tS l<=288230376151711744
theorem lV (x:Int):0<=ab x/\-ab x<=x/\x<=ab x:=by unfold ab;split <;> omega
theorem tL (a b:List aB):tQ (a++b)=tQ a+tQ b/\tV (a++b)=tV a+tV b/\tP (a++b)=tP a+tP b/\tS (a++b)=tS a+tS b:=by
  induction a with
  | nil=>simp [tQ,tV,tP,tS]
  | cons x r ih=>obtain ⟨h1,h2,h3,h4⟩:=ih;simp only [List.cons_append,tQ,tV,tP,tS,h1,h2,h3,h4];refine ⟨?_,?_,?_,?_⟩ <;> omega
theorem lX {l:List aB} (h:∀ x∈l,jA x):0<=tQ l/\0<=tV l/\0<=tS l/\-tS l<=tP l/\tP l<=tS l/\(l.length:Int)<=tQ l:=by
  induction l with
  | nil=>simp [tQ,tV,tP,tS]
  | cons x r ih =>
    obtain ⟨h1,h2,h3,h4,h5,h6⟩:=ih λy hy=>h y (List.mem_cons_of_mem _ hy)
    obtain ⟨g1,g2,g3⟩:=h x (List.mem_cons_self ..)
    obtain ⟨a1,a2,a3⟩:=lV x.bN
    simp only [tQ,tV,tP,tS,List.length_cons]
    refine ⟨?_,?_,?_,?_,?_,?_⟩ <;> omega
theorem bU {β:Type} {P:β->Prop} {a b:Option β} (h:Ex P b):Ex P (cond false a b):=h
theorem cO {β:Type} {P:β->Prop} {a b:Option β} (h:Ex P a):Ex P (cond true a b):=h
theorem EN {l:List aB} {i:Nat} {x:aB} (h:l[i]?=some x):tQ (l.drop i)=x.aI+tQ (l.drop (i+1))/\tV (l.drop i)=x.Value+tV (l.drop (i+1))/\tP (l.drop i)=x.bN+tP (l.drop (i+1))/\tS (l.drop i)=ab x.bN+tS (l.drop (i+1)):=by
  rw [(drop_at h).2];exact ⟨rfl,rfl,rfl,rfl⟩
theorem fF {α:Type} {l:List α} {i:Nat} {x:α} (h:l[i]?=some x):x∈l:=List.mem_of_getElem? h
theorem pI {a b:Int} (h:bQ a/\bQ b/\bQ (a+b)):jK a b=(a+b,0):=by unfold jK;rw [if_pos h]
theorem wP {a b:Int} (h:¬ (bQ a/\bQ b/\bQ (a+b))):jK a b=(0,2):=by unfold jK;rw [if_neg h]
theorem ID {l:List aB} {n:Nat} (hn:l.length+1<n) (hl:(l.length:Int)<1000000000) (hk:∀ x∈l,jA x) :
    Ex (λr=>(tQ l<=288230376151711744->tV l<=288230376151711744->tS l<=288230376151711744->r=(⟨tQ l,tV l,tP l⟩,0))/\(r.2=0->tQ l<=288230376151711744/\tV l<=288230376151711744)) (rJ n l):=by
  have hp:=lX hk
  have hd:∀ i,∀ x∈l.drop i,jA x:=λi x hx=>hk x (List.mem_of_mem_drop hx)
  unfold rJ aCJ
  simp only [WT.run,bR,vZ,Option.bind_some]
  refine aT (λ(r:aB⊕(aB×Int))=>match r with
    | .inl a=>a=⟨tQ l,tV l,tP l⟩/\tQ l<=288230376151711744/\tV l<=288230376151711744
    | .inr q=>q.2=2/\¬ (tQ l<=288230376151711744/\tV l<=288230376151711744/\tS l<=288230376151711744))
    (fM (λ(v:Int×aB)=>0<=v.1/\v.1<=(l.length:Int)/\(0<=v.2.aI/\v.2.aI<=288230376151711744/\v.2.aI+tQ (l.drop v.1.toNat)=tQ l)/\(0<=v.2.Value/\v.2.Value<=288230376151711744/\v.2.Value+tV (l.drop v.1.toNat)=tV l)/\(bQ v.2.bN/\v.2.bN+tP (l.drop v.1.toNat)=tP l/\ab v.2.bN+tS (l.drop v.1.toNat)<=tS l)) (λ(v:Int×aB)=>l.length-v.1.toNat) ?_ (v:=(0,⟨0,0,0⟩)) (by simp [bQ,ab]) (by simp;omega)) ?_
  · rintro ⟨i,q,v,p⟩ ⟨h0,h1,h2,h3,h4⟩
    refine bE (aD (eX (λh=>?_) λh=>?_))
    · have h:=of_decide_eq_true h
      simp only at h0 h1 h2 h3 h4 h
      refine eF h0 h λx hx=>eF h0 h λx' hx'=>eF h0 h λx'' hx''=>?_
      rw [hx] at hx' hx'';cases hx';cases hx''
      have hx:l[i.toNat]?=some x:=hx
      obtain ⟨d1,d2,d3,d4⟩:=EN hx
      obtain ⟨g1,g2,g3⟩:=hk x (fF hx)
      have hr:=lX (hd (i.toNat+1))
      have e:(i+1).toNat=i.toNat+1:=by omega
      obtain ⟨a1,a2,a3⟩:=lV x.bN
      obtain ⟨b1,b2,b3⟩:=lV p
      unfold bQ at h4
      by_cases hA:bQ q/\bQ x.aI/\bQ (q+x.aI)
      · by_cases hB:bQ v/\bQ x.Value/\bQ (v+x.Value)
        · by_cases hC:bQ p/\bQ x.bN/\bQ (p+x.bN)
          · rw [pI hA,pI hB,pI hC]
            refine x_eq (a:=false) rfl (bU (gL (show -9223372036854775808<=i+1/\i+1<=9223372036854775807 by omega) (bX ?_)))
            unfold bQ at hA hB hC
            refine ⟨⟨by show (0:Int)<=i+1;omega,by show i+1<=(l.length:Int);omega,?_,?_,?_⟩,by show l.length-(i+1).toNat<l.length-i.toNat;omega⟩
            · show 0<=q+x.aI/\q+x.aI<=_/\q+x.aI+tQ (l.drop (i+1).toNat)=tQ l
              rw [e];omega
            · show 0<=v+x.Value/\v+x.Value<=_/\v+x.Value+tV (l.drop (i+1).toNat)=tV l
              rw [e];omega
            · show bQ (p+x.bN)/\p+x.bN+tP (l.drop (i+1).toNat)=tP l/\ab (p+x.bN)+tS (l.drop (i+1).toNat)<=tS l
              rw [e]
              refine ⟨hC.2.2,by omega,?_⟩
              have:ab (p+x.bN)<=ab p+ab x.bN:=by unfold ab;repeat' split <;> omega
              omega
          · rw [pI hA,pI hB,wP hC]
            refine x_eq (a:=true) rfl (bK (bK (aF ⟨rfl,?_⟩)))
            intro hh
            apply hC;unfold bQ at g3 ⊢;omega
        · rw [pI hA,wP hB]
          refine x_eq (a:=true) rfl (bK (bK (aF ⟨rfl,?_⟩)))
          intro hh
          apply hB;unfold bQ;omega
      · rw [wP hA]
        refine x_eq (a:=true) rfl (bK (bK (aF ⟨rfl,?_⟩)))
        intro hh
        apply hA;unfold bQ;omega
    · have h:=of_decide_eq_false h
      simp only at h0 h1 h2 h3 h4 h
      have e:l.drop i.toNat=[]:=List.drop_eq_nil_of_le (by omega)
      rw [e] at h2 h3 h4
      simp only [tQ,tV,tP,tS] at h2 h3 h4
      refine bK (bX ⟨?_,by omega,by omega⟩)
      show (⟨q,v,p⟩:aB)=_
      rw [show q=tQ l by omega,show v=tV l by omega,show p=tP l by omega]
  · intro r hr
    refine jI (λa e=>aF ?_) λq e=>?_
    · subst e;obtain ⟨rfl,h1,h2⟩:=hr;exact ⟨λ_ _ _=>rfl,λ_=>⟨h1,h2⟩⟩
    · subst e;obtain ⟨h1,h2⟩:=hr
      exact ⟨λk1 k2 k3=>absurd ⟨k1,k2,k3⟩ h2,λk=>by rw [h1] at k;exact absurd k (by decide)⟩
theorem UE {l:List aB} {n:Nat} (hn:l.length+1<n) (hl:(l.length:Int)<1000000000) (hk:∀ x∈l,jA x) :
    Ex (λr=>(tS l<=288230376151711744->r=(tS l,0))/\(r.2=0->tS l<=288230376151711744)) (D5 n l):=by
  have hp:=lX hk
  have hd:∀ i,∀ x∈l.drop i,jA x:=λi x hx=>hk x (List.mem_of_mem_drop hx)
  unfold D5 aAA
  simp only [WT.run,bR,vZ,Option.bind_some]
  refine aT (λ(r:Int⊕(Int×Int))=>match r with
    | .inl a=>a=tS l/\tS l<=288230376151711744
    | .inr q=>q.2=2/\¬ tS l<=288230376151711744)
    (fM (λ(v:Int×Int)=>0<=v.2/\v.2<=(l.length:Int)/\(0<=v.1/\v.1<=288230376151711744/\v.1+tS (l.drop v.2.toNat)=tS l)) (λ(v:Int×Int)=>l.length-v.2.toNat) ?_ (v:=(0,0)) (by simp) (by simp;omega)) ?_
  · rintro ⟨s,i⟩ ⟨h0,h1,h2⟩
    refine bE (aD (eX (λh=>?_) λh=>?_))
    · have h:=of_decide_eq_true h
      simp only at h0 h1 h2 h
      refine eF h0 h λx hx=>eF h0 h λx' hx'=>?_
      rw [hx] at hx';cases hx'
      have hx:l[i.toNat]?=some x:=hx
      obtain ⟨d1,d2,d3,d4⟩:=EN hx
      obtain ⟨g1,g2,g3⟩:=hk x (fF hx)
      have hr:=lX (hd (i.toNat+1))
      have e:(i+1).toNat=i.toNat+1:=by omega
      unfold bQ at g3
      refine gL (by omega) (aD ?_)
      have ea:(if 0-x.bN>x.bN then 0-x.bN else x.bN)=ab x.bN:=by unfold ab;repeat' split <;> omega
      rw [ea]
      obtain ⟨a1,a2,a3⟩:=lV x.bN
      have aM:ab x.bN<=288230376151711744:=by unfold ab;split <;> omega
      by_cases hA:bQ s/\bQ (ab x.bN)/\bQ (s+ab x.bN)
      · rw [pI hA]
        refine x_eq (a:=false) ?_ (bU (gL (show -9223372036854775808<=i+1/\i+1<=9223372036854775807 by omega) (bX ?_)))
        · exact eB (λk=>k rfl) (dB (iA h0 hx (eB (by omega) rfl)))
        · unfold bQ at hA
          refine ⟨⟨by show (0:Int)<=i+1;omega,by show i+1<=(l.length:Int);omega,?_⟩,by show l.length-(i+1).toNat<l.length-i.toNat;omega⟩
          show 0<=s+ab x.bN/\s+ab x.bN<=_/\s+ab x.bN+tS (l.drop (i+1).toNat)=tS l
          rw [e];omega
      · rw [wP hA]
        refine x_eq (a:=true) rfl (bK (bK (aF ⟨rfl,?_⟩)))
        intro hh
        apply hA;unfold bQ;omega
    · have h:=of_decide_eq_false h
      simp only at h0 h1 h2 h
      have e:l.drop i.toNat=[]:=List.drop_eq_nil_of_le (by omega)
      rw [e] at h2
      simp only [tS] at h2
      exact bK (bX ⟨by show s=tS l;omega,by omega⟩)
  · intro r hr
    refine jI (λa e=>aF ?_) λq e=>?_
    · subst e;obtain ⟨rfl,h1⟩:=hr;exact ⟨λ_=>rfl,λ_=>h1⟩
    · subst e;obtain ⟨h1,h2⟩:=hr
      exact ⟨λk1=>absurd k1 h2,λk=>by rw [h1] at k;exact absurd k (by decide)⟩
theorem CO {l:List aB} {n:Nat} (hn:l.length+1<n) (hl:(l.length:Int)<1000000000):Ex (λr=>r=true↔LR l) (zI n l):=by
  unfold zI aCN
  simp only [WT.run,bR,CL,Option.bind_some]
  refine aT (λ(r:Unit⊕Bool)=>match r with | .inl _=>∀ x∈l,jA x | .inr b=>b=false/\¬ ∀ x∈l,jA x)
    (fM (λ(v:Int)=>0<=v/\v<=(l.length:Int)/\((∀ x∈l.drop v.toNat,jA x)->∀ x∈l,jA x)) (λ(v:Int)=>l.length-v.toNat) ?_ (v:=0) (by simp) (by simp;omega)) ?_
  · rintro i ⟨h0,h1,h2⟩
    refine aD (eX (λh=>?_) λh=>?_)
    · have h:=of_decide_eq_true h
      refine eF h0 h λx hx=>?_
      have e:(i+1).toNat=i.toNat+1:=by omega
      by_cases hx2:jA x
      · obtain ⟨g1,g2,g3⟩:=hx2
        refine x_eq (a:=false) (eB (by omega) (dB (eB (by omega) (dB (eB (by omega) (dB (eB (by omega) (dB (by simp [bnd,g3]))))))))) (bU (gL (by omega) (bX ⟨⟨by omega,by omega,?_⟩,by show l.length-(i+1).toNat<_;omega⟩)))
        rw [e];intro hh
        refine h2 λy hy=>?_
        rw [(drop_at hx).2] at hy
        rcases List.mem_cons.1 hy with rfl | hy
        · exact ⟨g1,g2,g3⟩
        · exact hh y hy
      · refine aT (λb=>b=true) ?_ λb hb=>?_
        · refine aD (eX (λk1=>aF rfl) λk1=>aD (eX (λk2=>aF rfl) λk2=>aD (eX (λk3=>aF rfl) λk3=>aD (eX (λk4=>aF rfl) λk4=>?_))))
          have k1:=of_decide_eq_false k1;have k2:=of_decide_eq_false k2;have k3:=of_decide_eq_false k3;have k4:=of_decide_eq_false k4
          by_cases k5:bQ x.bN
          · exact absurd ⟨by omega,by omega,k5⟩ hx2
          · exact aD (aD (aF (by simp [k5])))
        · subst hb
          exact cO (bK (bK (aF ⟨rfl,λhh=>hx2 (hh x (fF hx))⟩)))
    · have h:=of_decide_eq_false h
      refine bK (bX (h2 λx hx=>?_))
      rw [List.drop_eq_nil_of_le (by omega)] at hx;cases hx
  · intro r hr
    refine jI (λa e=>?_) λq e=>?_
    · subst e
      have hk:∀ x∈l,jA x:=hr
      refine aT _ (ID hn hl hk) λa ha=>aT _ (UE hn hl hk) λb hb=>?_
      have hp:=lX hk
      refine aT (λr=>r=true↔LR l) (aD (eX (λk1=>aD (eX (λk2=>aD (aF ?_)) λk2=>aF ?_)) λk1=>aF ?_)) λr hr=>aF hr
      · have k1:=of_decide_eq_true k1;have k2:=of_decide_eq_true k2
        have h3:=ha.2 k2
        constructor
        · intro k3;exact ⟨hk,by omega,h3.1,h3.2,hb.2 (of_decide_eq_true k3)⟩
        · intro k3;rw [hb.1 k3.2.2.2.2];exact decide_eq_true rfl
      · have k2:=of_decide_eq_false k2
        refine ⟨λ(k:false=true)=>Bool.noConfusion k,λk=>absurd ?_ k2⟩
        rw [ha.1 k.2.2.1 k.2.2.2.1 k.2.2.2.2]
      · have k1:=of_decide_eq_false k1
        exact ⟨λ(k:false=true)=>Bool.noConfusion k,λk=>absurd k.2.1 (by omega)⟩
    · subst e;obtain ⟨h1,h2⟩:=hr
      exact ⟨λk=>(by rw [h1] at k;cases k),λk=>absurd k.1 h2⟩
theorem aH {β:Type} {P:β->Prop} {p:Prop} {_:Decidable p} {a b:Option β} (h1:p->Ex P a) (h2:¬p->Ex P b):Ex P (cond (decide p) a b):=by
  by_cases h:p
  · rw [decide_eq_true h];exact h1 h
  · rw [decide_eq_false h];exact h2 h
theorem dG {β:Type} {P:β->Prop} {c:Bool} {a b:Option β} (h1:c=false->Ex P a) (h2:c=true->Ex P b):Ex P (cond (!c) a b):=by cases c;exact h1 rfl;exact h2 rfl
theorem dS {α γ β:Type} {P:β->Prop} {x:γ} {g:γ->Option α} {f:α->Option β} (h:Ex P ((g x).bind f)):Ex P ((bnd x g).bind f):=h
theorem aZ8 {α β:Type} {P:β->Prop} {x:Int} {g:Int->Option α} {f:α->Option β} (hx:-9223372036854775808<=x/\x<=9223372036854775807) (h:Ex P ((g x).bind f)):Ex P ((bnd (aW x) g).bind f):=by
  obtain ⟨r,e,p⟩:=h;have k:aW x=x:=wrap64 hx
  exact ⟨r,by rw [<- e];show Option.bind (g (aW x)) f=_;rw [k],p⟩
theorem dU {α β:Type} {P:β->Prop} {c:Bool} {x y:Option α} {f:α->Option β} (h:Ex P (cond c (x.bind f) (y.bind f))):Ex P ((cond c x y).bind f):=by cases c;exact h;exact h
theorem dN {α β:Type} {P:β->Prop} {a:α} {f:α->Option β} (h:Ex P (f a)):Ex P ((some a).bind f):=h
theorem dL {α γ β:Type} {P:β->Prop} {x:Option γ} {g:γ->Option α} {f:α->Option β} (h:Ex P (x.bind λa=>(g a).bind f)):Ex P ((x.bind g).bind f):=by cases x;exact h;exact h
theorem dI {α γ δ β:Type} {P:β->Prop} {g:γ->δ->Option α} {q:γ×δ} {f:α->Option β} (h:Ex P ((g q.1 q.2).bind f)):Ex P ((p2 g q).bind f):=h
theorem dQ {α β:Type} {P:β->Prop} {p:Prop} [Decidable p] {k:Option α} {f:α->Option β} (h:Ex P (iQ p (k.bind f))):Ex P ((iQ p k).bind f):=by
  unfold iQ at h ⊢
  by_cases hp:p
  · rw [if_pos hp] at h ⊢;exact h
  · rw [if_neg hp] at h;obtain ⟨r,e,_⟩:=h;cases e
theorem dR {α β:Type} {P:β->Prop} {x:Option β} {f:α->Option β} (h:Ex P x):Ex P ((esc x:Option (α⊕β)).bind (sel f)):=by obtain ⟨r,e,p⟩:=h;subst e;exact ⟨_,rfl,p⟩
theorem dO {α β:Type} {P:β->Prop} {a:α} {f:α->Option β} (h:Ex P (f a)):Ex P ((brk a:Option (α⊕β)).bind (sel f)):=h
theorem bY {α β:Type} {P:β->Prop} {f:α->Option β} {a:α} (h:Ex P (f a)):Ex P (sel f (.inl a)):=h
theorem mG {α β:Type} {P:β->Prop} {f:α->Option β} {a:β} (h:P a):Ex P (sel f (.inr a)):=⟨a,rfl,h⟩
theorem bW {α β:Type} {P:β->Prop} {l:List α} {i:Int} {a:α} {f:α->Option β} (h0:0<=i) (h:l[i.toNat]?=some a) (k:Ex P (f a)):Ex P ((ix l i).bind f):=by
  obtain ⟨r,e,p⟩:=k;exact ⟨r,iA h0 h e,p⟩
theorem bF {β:Type} {P:β->Prop} {x:Int} {f:Int->Option β} (h:Ex P (f x)) (hx:-9223372036854775808<=x/\x<=9223372036854775807:=by first | omega | (simp only;omega)):Ex P (bnd (aW x) f):=gL hx h
theorem dP {α β:Type} {P:β->Prop} {x:Int} {g:Int->Option α} {f:α->Option β} (h:Ex P ((g x).bind f)) (hx:-9223372036854775808<=x/\x<=9223372036854775807:=by first | omega | (simp only;omega)):Ex P ((bnd (aW x) g).bind f):=aZ8 hx h
theorem dF {β:Type} {P:β->Prop} {p:Prop} {_:Decidable p} {k:Option β} (h:Ex P k) (hp:p:=by first | omega | (simp only [List.length_append,List.length_cons,List.length_nil,List.length_set];omega) | (simp;omega)):Ex P (iQ p k):=iF hp h
theorem lQ {l:List aB} (h:LR l):l.length<=30:=h.2.1
theorem aMQ {l:List aB} {x:aB} {n:Nat} (hn:66<n) (hl:LR l):Ex (λr=>(r.2=0/\r.1=l++[x]/\LR (l++[x]))\/(r.2≠0/\r.1=l)) (zS n l x):=by
  unfold zS UA
  simp only [WT.run,bR]
  have h1:=lQ hl
  refine dF (aD (dF ?_))
  refine aT (λ_=>True) (aD (eX (λ_=>aF trivial) λ_=>aD (aF trivial))) λb _=>eX (λ_=>aF (.inr ⟨(λk=>nomatch k),rfl⟩)) λ_=>aD (eX (λ_=>aF (.inr ⟨(λk=>nomatch k),rfl⟩)) λk=>?_)
  refine aT _ (CO (l:=l++[x]) (by simp;omega) (by simp;omega)) λb hb=>aD (eX (λ_=>aF (.inr ⟨(λk=>nomatch k),rfl⟩)) λk2=>aF (.inl ⟨rfl,rfl,hb.1 (by simpa using k2)⟩))
theorem aE1 {p w q:Int} (hp:bQ p) (hw:1<=w/\w<q):ab (p-pt p w q)+ab (pt p w q)=ab p/\bQ (pt p w q)/\bQ (p-pt p w q):=by
  unfold bQ at hp ⊢
  have e:pt p w q=if p<0 then -(-p*w / q) else p*w / q:=by
    unfold pt;rw [if_neg (by intro h;rcases h with h | h | h | h;all_goals first | omega | exact h hp)]
  rw [e]
  by_cases h:p<0
  · obtain ⟨g1,g2⟩:=qZ (v:=-p) (q:=w) (n:=q) (by omega) (by omega) (by omega)
    rw [if_pos h];generalize -p*w / q=z at *
    unfold ab
    repeat' split
    all_goals omega
  · obtain ⟨g1,g2⟩:=qZ (v:=p) (q:=w) (n:=q) (by omega) (by omega) (by omega)
    rw [if_neg h];generalize p*w / q=z at *
    unfold ab
    repeat' split
    all_goals omega
theorem aDF {v w q:Int} (hv:0<=v/\v<=288230376151711744) (hw:1<=w/\w<q):0<=pt v w q/\pt v w q<=v:=by
  have e:pt v w q=v*w / q:=by
    unfold pt;rw [if_neg (by unfold bQ;intro h;omega),if_neg (by omega)]
  rw [e];exact qZ (by omega) (by omega) (by omega)
def rW (l m:List aB) (g:aB):Prop:=LR m/\m.length<=l.length/\tQ m+g.aI=tQ l/\tV m+g.Value=tV l/\tP m+g.bN=tP l/\tS m+ab g.bN<=tS l/\0<=g.Value
theorem aQ7 {l:List aB} {a b c:Int} (h1:∀ x∈l,jA x) (h2:l.length<=30) (h3:tQ l<=a) (h4:tV l<=b) (h5:tS l<=c) (ha:a<=288230376151711744) (hb:b<=288230376151711744) (hc:c<=288230376151711744):LR l:=⟨h1,h2,by omega,by omega,by omega⟩
theorem PU {l:List aB} {q:Int} {n:Nat} (hn:66<n) (hl:LR l) (hq:-9223372036854775808<=q/\q<=9223372036854775807) :
    Ex (λr=>(r.2.2=0/\1<=q/\r.2.1.aI=q/\rW l r.1 r.2.1)\/(r.2.2≠0/\r.1=l/\r.2.1=⟨0,0,0⟩/\(1<=q->tQ l<q))) (yU n l q):=by
  obtain ⟨hk,h30,hQ,hV,hS⟩:=hl
  have hp:=lX hk
  unfold yU QR
  simp only [WT.run,bR]
  refine aT _ (ID (by omega) (by omega) hk) λt ht=>?_
  rw [ht.1 hQ hV hS]
  refine aD (eX (λk1=>aF (.inr ⟨(λk=>nomatch k),rfl,rfl,λk=>?_⟩)) λk1=>aD (eX (λk2=>aF (.inr ⟨(λk=>nomatch k),rfl,rfl,λk=>of_decide_eq_true k2⟩)) λk2=>?_))
  · have:=of_decide_eq_true k1;omega
  have k1:=of_decide_eq_false k1;have k2:=of_decide_eq_false k2
  simp only at k2
  refine aT (λ(r:aB×List aB)=>r.1.aI=q/\rW l r.2 r.1) (fM (λ(v:Int×aB×List aB)=>0<=v.1/\v.1<=(l.length:Int)/\(∀ x∈v.2.2,jA x)/\(v.2.2.length:Int)<=v.1/\(0<=v.2.1.aI/\v.2.1.aI<=q)/\0<=v.2.1.Value/\tQ v.2.2+v.2.1.aI+tQ (l.drop v.1.toNat)=tQ l/\tV v.2.2+v.2.1.Value+tV (l.drop v.1.toNat)=tV l/\tP v.2.2+v.2.1.bN+tP (l.drop v.1.toNat)=tP l/\tS v.2.2+ab v.2.1.bN+tS (l.drop v.1.toNat)<=tS l/\(tQ v.2.2>0->v.2.1.aI=q)) (λ(v:Int×aB×List aB)=>l.length-v.1.toNat) ?_ (v:=(0,⟨0,0,0⟩,[])) (by simp [tQ,tV,tP,tS,ab];omega) (by simp;omega)) ?_
  · rintro ⟨i,⟨gq,gv,gp⟩,m⟩ ⟨h0,h1,hm,hml,hg,hgv,e1,e2,e3,e4,e5⟩
    refine bE (bE (aD (eX (λh=>?_) λh=>?_)))
    · have h:=of_decide_eq_true h
      simp only at h0 h1 hm hml hg hgv e1 e2 e3 e4 e5 h
      refine aT (λ(r:aB×List aB)=>(∀ x∈r.2,jA x)/\(r.2.length:Int)<=i+1/\(0<=r.1.aI/\r.1.aI<=q)/\0<=r.1.Value/\tQ r.2+r.1.aI+tQ (l.drop (i.toNat+1))=tQ l/\tV r.2+r.1.Value+tV (l.drop (i.toNat+1))=tV l/\tP r.2+r.1.bN+tP (l.drop (i.toNat+1))=tP l/\tS r.2+ab r.1.bN+tS (l.drop (i.toNat+1))<=tS l/\(tQ r.2>0->r.1.aI=q)) ?_ λr hr=>?_
      · refine eF h0 h λx hx=>?_
        have hx:l[i.toNat]?=some x:=hx
        obtain ⟨d1,d2,d3,d4⟩:=EN hx
        obtain ⟨g1,g2,g3⟩:=hk x (fF hx)
        have hr:=lX (l:=l.drop (i.toNat+1)) λy hy=>hk y (List.mem_of_mem_drop hy)
        have hmp:=lX hm
        refine gL (show -9223372036854775808<=q-gq/\q-gq<=9223372036854775807 by omega) (aD (eX (λc1=>?_) λc1=>?_))
        · have c1:q-gq<=0:=of_decide_eq_true c1
          obtain ⟨a1,a2,a3,a4⟩:=tL m [x]
          simp only [tQ,tV,tP,tS,Int.add_zero] at a1 a2 a3 a4
          refine aD (dF (aF ⟨?_,by simp;omega,by omega,by omega,?_⟩))
          · intro y hy
            rcases List.mem_append.1 hy with hy | hy
            · exact hm y hy
            · rw [List.mem_singleton] at hy;subst hy;exact ⟨g1,g2,g3⟩
          · simp only [a1,a2,a3,a4];refine ⟨?_,?_,?_,?_,?_⟩ <;> omega
        · have c1:¬ q-gq<=0:=of_decide_eq_false c1
          refine aT (λ(r:List aB×aB)=>(∀ x∈r.1,jA x)/\(r.1.length:Int)<=i+1/\(1<=r.2.aI/\gq+r.2.aI<=q)/\(0<=r.2.Value/\r.2.Value<=288230376151711744)/\bQ r.2.bN/\tQ r.1+r.2.aI=tQ m+x.aI/\tV r.1+r.2.Value=tV m+x.Value/\tP r.1+r.2.bN=tP m+x.bN/\tS r.1+ab r.2.bN=tS m+ab x.bN/\(tQ r.1>0->gq+r.2.aI=q)) ?_ λr hr=>?_
          · refine aD (aH (λc2=>?_) λc2=>aF ⟨hm,(by simp only;omega),(by have c2:¬ x.aI>q-gq:=c2;simp only;omega),(by simp only;omega),g3,rfl,rfl,rfl,rfl,by show tQ m>0->gq+x.aI=q;have c2:¬ x.aI>q-gq:=c2;omega⟩)
            have c2:x.aI>q-gq:=c2
            obtain ⟨p1,p2⟩:=aDF (v:=x.Value) (w:=q-gq) (q:=x.aI) g2 (by omega)
            obtain ⟨p3,p4,p5⟩:=aE1 (p:=x.bN) (w:=q-gq) (q:=x.aI) g3 (by omega)
            refine x_eq (qF hn (by simp only;omega) (by omega)) (x_eq (qF hn (by simp only;omega) (by omega)) ?_)
            unfold bQ at p4 p5
            refine gL (by simp only;omega) (gL (by simp only;omega) (gL (by simp only;omega) (aD (dF (aF ?_)))))
            obtain ⟨a1,a2,a3,a4⟩:=tL m [⟨x.aI-(q-gq),x.Value-pt x.Value (q-gq) x.aI,x.bN-pt x.bN (q-gq) x.aI⟩]
            simp only [tQ,tV,tP,tS,Int.add_zero] at a1 a2 a3 a4
            refine ⟨?_,by simp;omega,?_,?_,?_,?_⟩
            · intro y hy
              rcases List.mem_append.1 hy with hy | hy
              · exact hm y hy
              · rw [List.mem_singleton] at hy;subst hy;exact ⟨by simp only;omega,by simp only;omega,by unfold bQ;simp only;omega⟩
            · simp only;omega
            · simp only;omega
            · unfold bQ;simp only;omega
            · simp only [a1,a2,a3,a4];refine ⟨?_,?_,?_,?_,?_⟩ <;> omega
          · obtain ⟨m',yq,yv,yp⟩:=r
            obtain ⟨r1,r2,r3,r4,r5,r6,r7,r8,r9,xP⟩:=hr
            simp only at r1 r2 r3 r4 r5 r6 r7 r8 r9 xP
            have hmp':=lX r1
            obtain ⟨b1,b2,b3⟩:=lV gp
            obtain ⟨b4,b5,b6⟩:=lV yp
            obtain ⟨b7,b8,b9⟩:=lV (gp+yp)
            have b10:ab (gp+yp)<=ab gp+ab yp:=by unfold ab;repeat' split <;> omega
            refine bE (gL (by simp only;omega) (gL (by simp only;omega) (gL (by simp only;omega) (aF ⟨r1,r2,by simp only;omega,by simp only;omega,?_⟩))))
            simp only;refine ⟨?_,?_,?_,?_,?_⟩ <;> omega
      · refine bE (bF (bX ?_))
        have e:(i+1).toNat=i.toNat+1:=by omega
        refine ⟨⟨by show (0:Int)<=i+1;omega,by show i+1<=(l.length:Int);omega,hr.1,hr.2.1,hr.2.2.1,hr.2.2.2.1,?_⟩,by show l.length-(i+1).toNat<l.length-i.toNat;omega⟩
        show tQ r.2+r.1.aI+tQ (l.drop (i+1).toNat)=tQ l/\tV r.2+r.1.Value+tV (l.drop (i+1).toNat)=tV l/\tP r.2+r.1.bN+tP (l.drop (i+1).toNat)=tP l/\tS r.2+ab r.1.bN+tS (l.drop (i+1).toNat)<=tS l/\(tQ r.2>0->r.1.aI=q)
        rw [e];exact hr.2.2.2.2
    · have h:=of_decide_eq_false h
      simp only at h0 h1 hm hml hg hgv e1 e2 e3 e4 e5 h
      have e:l.drop i.toNat=[]:=List.drop_eq_nil_of_le (by omega)
      rw [e] at e1 e2 e3 e4
      simp only [tQ,tV,tP,tS,Int.add_zero] at e1 e2 e3 e4
      have hmp:=lX hm
      obtain ⟨b1,b2,b3⟩:=lV gp
      refine bK (aF ?_)
      show gq=q/\rW l m ⟨gq,gv,gp⟩
      refine ⟨by omega,?_⟩
      refine ⟨aQ7 hm (by omega) (by omega:tQ m<=tQ l) (by omega:tV m<=tV l) (by omega:tS m<=tS l) hQ hV hS,by omega,by simp only;omega,by simp only;omega,by simp only;omega,by simp only;omega,by simp only;omega⟩
  · intro r hr
    exact bE (aF (.inl ⟨rfl,by omega,hr.1,hr.2⟩))
def dZ {α:Type} (f:α->Int):List α->Int | []=>0 | x :: r=>f x+dZ f r
theorem xD {α:Type} (f:α->Int) (a b:List α):dZ f (a++b)=dZ f a+dZ f b:=by
  induction a with
  | nil=>simp [dZ]
  | cons x r ih=>simp only [List.cons_append,dZ,ih];omega
theorem qQ {α:Type} (f:α->Int) {l:List α} {k:Nat} {a b:α} (h:l[k]?=some a):dZ f (l.set k b)=dZ f l-f a+f b:=by
  induction l generalizing k with
  | nil=>cases h
  | cons x r ih =>
    cases k with
    | zero=>cases h;simp only [List.set_cons_zero,dZ];omega
    | succ k=>simp only [List.set_cons_succ,dZ];rw [ih h];omega
theorem uW {α:Type} {f:α->Int} {l:List α} (h:∀ x∈l,0<=f x):0<=dZ f l:=by
  induction l with
  | nil=>exact Int.le_refl _
  | cons x r ih=>have:=ih λy hy=>h y (List.mem_cons_of_mem _ hy);have:=h x (List.mem_cons_self ..);simp only [dZ];omega
theorem uR {α:Type} (f:α->Int) {l:List α} {i:Nat} {x:α} (h:l[i]?=some x):dZ f (l.drop i)=f x+dZ f (l.drop (i+1)):=by
  rw [(drop_at h).2];rfl
theorem aQV {α β:Type} (f:β->Int) (g:α->β) (l:List α):dZ f (l.map g)=dZ (λx=>f (g x)) l:=by
  induction l with
  | nil=>rfl
  | cons x r ih=>simp only [List.map_cons,dZ,ih]
theorem KX {α:Type} {f:α->Int} {l:List α} (h:∀ x∈l,f x=0):dZ f l=0:=by
  induction l with
  | nil=>rfl
  | cons x r ih=>simp only [dZ];rw [h x (List.mem_cons_self ..),ih λy hy=>h y (List.mem_cons_of_mem _ hy)];rfl
def dD (l:List Int):Int:=dZ (λx=>x) l
def sV (l:List aQ):Int:=dZ (λp=>tV p.aG) l
theorem mem_set {α:Type} {l:List α} {k:Nat} {b x:α} (h:x∈l.set k b):x=b\/x∈l:=by
  rcases List.mem_or_eq_of_mem_set h with h | h
  · exact .inr h
  · exact .inl h
theorem aL0 {l:List Int}:∀ {n:Int},0<=n->(∀ x∈l,0<=x)->n+dD l<=288230376151711744->iD n l=some (n+dD l):=by
  induction l with
  | nil=>intro n _ _ _;simp [iD,dD,dZ]
  | cons x r ih =>
    intro n hn hx hs
    have h1:=hx x (List.mem_cons_self ..)
    have h2:0<=dD r:=uW λy hy=>hx y (List.mem_cons_of_mem _ hy)
    have e:dD (x :: r)=x+dD r:=rfl
    rw [iD,if_pos ⟨by unfold bQ;omega,by unfold bQ;omega,by unfold bQ;omega⟩,ih (by omega) (λy hy=>hx y (List.mem_cons_of_mem _ hy)) (by omega),e,Int.add_assoc]
theorem LZ {l:List Int} (hx:∀ x∈l,0<=x) (hs:dD l<=288230376151711744):gG l=(dD l,0):=by
  unfold gG;rw [aL0 (Int.le_refl 0) hx (by omega)];show (0+dD l,(0:Int))=_;rw [Int.zero_add]
theorem aVG {l:List Int}:∀ {n v:Int},iD n l=some v->v=n+dD l/\(bQ n->bQ v):=by
  induction l with
  | nil=>intro n v h;cases h;simp [dD,dZ]
  | cons x r ih =>
    intro n v h
    rw [iD] at h
    by_cases hc:bQ n/\bQ x/\bQ (n+x)
    · rw [if_pos hc] at h
      obtain ⟨h1,h2⟩:=ih h
      exact ⟨by rw [h1];show n+x+dD r=n+(x+dD r);omega,λ_=>h2 hc.2.2⟩
    · rw [if_neg hc] at h;cases h
theorem aEY {l:List Int} (h:(gG l).2=0):gG l=(dD l,0)/\bQ (dD l):=by
  unfold gG at h ⊢
  cases e:iD 0 l with
  | none=>rw [e] at h;exact absurd (show (2:Int)=0 from h) (by decide)
  | some v =>
    obtain ⟨h1,h2⟩:=aVG e
    rw [Int.zero_add] at h1;subst h1
    exact ⟨rfl,h2 (by unfold bQ;omega)⟩
theorem aO5 {l:List aB} (h:LR l) (hl:1<=l.length):LR [⟨tQ l,tV l,tP l⟩]/\tS [⟨tQ l,tV l,tP l⟩]<=tS l/\tQ [⟨tQ l,tV l,tP l⟩]=tQ l/\tV [⟨tQ l,tV l,tP l⟩]=tV l/\tP [⟨tQ l,tV l,tP l⟩]=tP l:=by
  obtain ⟨hk,h30,hQ,hV,hS⟩:=h
  obtain ⟨a1,a2,a3,a4,a5,a6⟩:=lX hk
  have e:ab (tP l)<=tS l:=by unfold ab;split <;> omega
  refine ⟨⟨?_,by simp,by simp [tQ];omega,by simp [tV];omega,by simp [tS];omega⟩,by simp [tS];omega,by simp [tQ],by simp [tV],by simp [tP]⟩
  intro x hx
  rw [List.mem_singleton] at hx;subst hx
  exact ⟨by simp only;omega,by simp only;omega,by unfold bQ;simp only;omega⟩
theorem aFD {q v p:Int} (hq:1<=q/\q<=288230376151711744) (hv:0<=v/\v<=288230376151711744) (hp:bQ p):LR [⟨q,v,p⟩]:=by
  have e:ab p<=288230376151711744:=by unfold bQ at hp;unfold ab;split <;> omega
  refine ⟨λx hx=>?_,by simp,by simp [tQ];omega,by simp [tV];omega,by simp [tS];omega⟩
  rw [List.mem_singleton] at hx;subst hx;exact ⟨hq,hv,hp⟩
theorem aR4:LR []:=⟨(λx hx=>(nomatch hx)),by simp,by simp [tQ],by simp [tV],by simp [tS]⟩
structure PR (m:Int) (p:aQ):Prop where
  mt:1<=m/\m<=4
  ly:LR p.aG
  one:m≠1->p.aG.length<=1
  p0:0<=p.bH.a0
  p1:0<=p.bH.a1
  p2:0<=p.bH.a2
  sum:p.bH.a0+p.bH.a1+p.bH.a2<=tQ p.aG
  sZ:m≠3->p.bH.a0=0/\p.bH.a1=0/\p.bH.a2=0
structure IO (m:Int) (p q:aQ):Prop where
  pp:PR m p
  qq:PR m q
  sq:tQ p.aG+tQ q.aG<=288230376151711744
  ss:tS p.aG+tS q.aG<=288230376151711744
def yO (r:cK):Prop:=bQ r.Open/\bQ r.jC/\bQ r.jE/\bQ r.jD/\bQ r.jB/\bQ r.iZ/\bQ r.jG/\bQ r.iX/\bQ r.iV/\bQ r.jF/\bQ r.jH
def kQ (r:cK):Int:=r.Open+r.jC+r.jE+r.jD+r.jB+r.jH-(r.iZ+r.jG+r.iX+r.iV+r.jF)
def qT (a b:cK):cK:=⟨a.Open+b.Open,a.jC+b.jC,a.jE+b.jE,a.jD+b.jD,a.jB+b.jB,a.iZ+b.iZ,a.jG+b.jG,a.iX+b.iX,a.iV+b.iV,a.jF+b.jF,a.jH+b.jH⟩
structure ES (n:Nat) (bL:List Int) (iM:Int) (x:aP):Prop where
  now:1<=x.fO/\x.fO<=iM
  lp:x.bS.length=2*n
  lr:x.dH.length=n
  lb:x.dK.length=17
  lc:x.fZ.length=n
  ld:x.Down.length=n
  lm:bL.length=n
  gK:∀ b∈x.dK,bQ b
  pri:∀ b∈x.fZ,-1<=b/\b<=288230376151711744
  BF:∀ b∈x.Down,0<=b/\b<=288230376151711744
  BR:∀ (i:Nat) m p q,bL[i]?=some m->x.bS[2*i]?=some p->x.bS[2*i+1]?=some q->IO m p q
  roll:∀ r∈x.dH,yO r
def bl (x:aP) (a:Nat):Int:=x.dK.getD a 0
structure EB (x:aP):Prop where
  ctl:sV x.bS=bl x 0
  qA:dD x.Down=-bl x 11
  rY:dD x.dK=0
  o6:∀ (i:Nat) r p q,x.dH[i]?=some r->x.bS[2*i]?=some p->x.bS[2*i+1]?=some q->kQ r=tV p.aG+tV q.aG
structure pG (m:fG):Prop where
  vF:1<=m.gD/\m.gD<=4
  iM:1<=m.gP/\m.gP<=12
  n1:1<=m.cB.length/\m.cB.length<=5
  wei:∀ x∈m.cB,0<=x/\x<=1073741824
  lm:(m.Methods.length:Int)=m.gD
  lc:(m.gB.length:Int)=m.gD
  met:∀ l∈m.Methods,l.length=m.cB.length/\∀ x∈l,1<=x/\x<=4
  cos:∀ l∈m.gB,l.length=m.cB.length/\∀ x∈l,0<=x/\x<=1073741824
structure EO (m:fG) (bL:List Int) (x:aP):Prop where
  es:ES m.cB.length bL m.gP x
  ee:EB x
  opn:x.Closed=false
  lF:x.fP=[]
structure EC (m:fG) (bL:List Int) (x y:aP):Prop where
  es:ES m.cB.length bL m.gP x
  ee:EB x
  JN:x.Closed=true
  lF:x.fP=[y]
  eo:EO m bL y
  now:y.fO=x.fO
  b1:bl y 1=bl x 1
  b12:bl y 12=bl x 12
  b13:bl y 13=bl x 13
  b14:bl y 14=bl x 14
def EI (m:fG) (bL:List Int) (x:aP):Prop:=EO m bL x\/∃ y,EC m bL x y
def yE (m:fG) (r:eU):Prop:=(0<=r.fT/\r.fT<m.gD)/\(0<=r.Item/\r.Item<(m.cB.length:Int))/\(0<=r.Loc/\r.Loc<=1)/\(0<=r.aI/\r.aI<=288230376151711744)/\(0<=r.Value/\r.Value<=288230376151711744)/\(0<=r.Open/\r.Open<=r.aI)/\(0<=r.jR/\r.jR<=288230376151711744)/\(0<=r.iP/\r.iP<=r.aI)
def pU (m:fG) (r:eH):Prop:=(0<=r.fT/\r.fT<m.gD)/\(0<=r.Item/\r.Item<(m.cB.length:Int))/\(0<=r.Loc/\r.Loc<=1)/\(0<=r.aI/\r.aI<=288230376151711744)/\(0<=r.iP/\r.iP<=r.aI)/\(0<=r.qH/\r.qH<=288230376151711744)/\bQ r.bN/\(1<=r.nP/\r.nP<=12)
def DI (m:fG) (r:fU):Prop:=(0<=r.sW/\r.sW<m.gD)/\(0<=r.To/\r.To<m.gD)/\(0<=r.Item/\r.Item<(m.cB.length:Int))/\(0<=r.aI/\r.aI<=288230376151711744)/\(0<=r.Value/\r.Value<=288230376151711744)/\bQ r.bN
def iU (e:Nat) (r:eU):Int:=if r.fT=(e:Int) then r.jR else 0
def iI (e:Nat) (r:fU):Int:=if r.To=(e:Int) then r.Value else 0
def kF (x:aP):Int:=bl x 13+bl x 14
structure Inv (K:Int) (s:aA):Prop where
  jP:pG s.bJ
  len:(s.bC.length:Int)=s.bJ.gD
  zC:0<=s.Done/\s.Done<=K
  mK:∀ r∈s.cZ,yE s.bJ r
  nA:∀ r∈s.dY,pU s.bJ r
  nO:∀ r∈s.dJ,DI s.bJ r
  l1:s.cZ.length<=40
  l2:s.dY.length<=40
  l3:s.dJ.length<=40
  ent:∀ (e:Nat) x bL,s.bC[e]?=some x->s.bJ.Methods[e]?=some bL->EI s.bJ bL x
  acc:∀ (e:Nat) x,s.bC[e]?=some x->dZ (iU e) s.cZ=-bl x 1
  way:∀ (e:Nat) x,s.bC[e]?=some x->dZ (iI e) s.dJ=bl x 12
  xZ:dZ kF s.bC=0
def kP (s:aA) (e:Nat) (x:aP):aA:={ s with bC:=s.bC.set e x }
theorem NA (s:aA) (e:Nat) (x y:aP):kP (kP s e x) e y=kP s e y:=by unfold kP;rw [List.set_set]
theorem GJ {s:aA} {e:Nat} {x:aP} (h:e<s.bC.length):(kP s e x).bC[e]?=some x:=by unfold kP;simp [h]
theorem pF (a b c:Int):0<=(md a b c).1/\(md a b c).1<=288230376151711744/\0<=(md a b c).2.2/\(md a b c).2.2<=2:=by
  unfold md
  by_cases h:a<0\/b<0\/c<1
  · rw [if_pos h];simp
  · rw [if_neg h]
    have h0:0<=a*b / c:=Int.ediv_nonneg (Int.mul_nonneg (by omega) (by omega)) (by omega)
    by_cases h2:a*b / c>288230376151711744
    · rw [if_pos h2];simp
    · rw [if_neg h2];simp;omega
theorem wM {l:List aB} {n:Nat} (hn:66<n) (hl:LR l):rJ n l=some (⟨tQ l,tV l,tP l⟩,0):=by
  obtain ⟨hk,h30,hQ,hV,hS⟩:=hl
  exact eT (N8 (ID (by omega) (by omega) hk) λr hr=>hr.1 hQ hV hS)
theorem gN {l:List aB} (h:LR l):(0<=tQ l/\tQ l<=288230376151711744)/\(0<=tV l/\tV l<=288230376151711744)/\(-288230376151711744<=tP l/\tP l<=288230376151711744)/\(0<=tS l/\tS l<=288230376151711744)/\(l.length:Int)<=tQ l/\l.length<=30/\-tS l<=tP l/\tP l<=tS l:=by
  obtain ⟨hk,h30,hQ,hV,hS⟩:=h
  obtain ⟨a1,a2,a3,a4,a5,a6⟩:=lX hk
  omega
theorem wG {p:aQ} {n:Nat} (hn:66<n) (hl:LR p.aG):vD n p=some ⟨tQ p.aG,tV p.aG,tP p.aG⟩:=by
  unfold vD aA4
  simp only [WT.run,bR,wM hn hl,Option.bind_some]
theorem E5 {m:Int} {p:aQ} {n:Nat} (hn:66<n) (h:PR m p):xJ n p=some (tQ p.aG-p.bH.a0-p.bH.a1-p.bH.a2):=by
  have hl:=gN h.ly
  have:=h.p0;have:=h.p1;have:=h.p2;have:=h.sum
  refine eT ?_
  unfold xJ aFB
  simp only [WT.run,bR,wM hn h.ly,Option.bind_some]
  exact gL (by (try simp only at *);omega) (gL (by (try simp only at *);omega) (gL (by (try simp only at *);omega) (aF rfl)))
theorem WJ {m:Int} {p:aQ} {n:Nat} (hn:66<n) (h:PR m p):MY n m p=some (tQ p.aG-p.bH.a0-p.bH.a1-p.bH.a2):=by
  refine eT ?_
  unfold MY aGD
  simp only [WT.run,bR,E5 hn h,wG hn h.ly,Option.bind_some]
  refine aD (aH (λk=>aF rfl) λk=>aF ?_)
  obtain ⟨a,b,c⟩:=h.sZ k
  show tQ p.aG=_
  omega
theorem aHU {l:List aB} {x:aB} (h:LR (l++[x])):jA x:=h.1 x (by simp)
theorem QA {l:List aB} {x:aB} {n:Nat} (hn:66<n) (hl:LR l):Ex (λr=>(r.2=0/\r.1=[⟨tQ l+x.aI,tV l+x.Value,tP l+x.bN⟩]/\LR (l++[x]))\/(r.2≠0/\r.1=l)) (vX n l x):=by
  have h1:=lQ hl
  obtain ⟨a1,a2,a3,a4⟩:=tL l [x]
  simp only [tQ,tV,tP,tS,Int.add_zero] at a1 a2 a3 a4
  unfold vX OY
  simp only [WT.run,bR]
  repeat' with_reducible first | refine bF ?_ | refine dP ?_ | apply aD | apply bE | apply dS | apply dI | apply dN | apply dR | apply dO | apply dL | apply dU | apply dQ | refine aH (λ_=>?_) λ_=>?_ | refine dG (λ_=>?_) λ_=>?_ | apply cO | apply bU | apply bY | apply bK | apply aF
  all_goals try exact .inr ⟨(λk=>nomatch k),rfl⟩
  refine dF (aD (dF (aT _ (CO (by simp;omega) (by simp;omega)) λb hb=>?_)))
  repeat' with_reducible first | refine bF ?_ | refine dP ?_ | apply aD | apply bE | apply dS | apply dI | apply dN | apply dR | apply dO | apply dL | apply dU | apply dQ | refine aH (λ_=>?_) λ_=>?_ | refine dG (λ_=>?_) λ_=>?_ | apply cO | apply bU | apply bY | apply bK | apply aF
  · exact .inr ⟨(λk=>nomatch k),rfl⟩
  · rename_i h4
    have h3:=hb.1 h4
    refine x_eq (wM hn h3) (aF (.inl ⟨rfl,?_,h3⟩))
    simp only [a1,a2,a3,tQ,tV,tP]
theorem BZ {n:Nat} {q c:Int} (hn:66<n) (ha:-9223372036854775808<=q/\q<=9223372036854775807) (hb:-9223372036854775808<=c/\c<=9223372036854775807):B6 n q c=some ((md q c 1).1,decide ((md q c 1).2.2=0)):=by
  unfold B6 aJC
  simp only [WT.run,bR,wY hn ha hb (show -9223372036854775808<=(1:Int)/\(1:Int)<=9223372036854775807 by decide),Option.bind_some]
  rfl
theorem aZV {l:List aB} {x:aB} {c:Int} {n:Nat} (hn:66<n) (hl:LR l) (hc:0<=c/\c<=1073741824) (hx:x.aI<=9223372036854775807) :
    Ex (λr=>(r.2.2=0/\(0<=x.Value/\x.Value<=288230376151711744)/\∃ v,r.1=[⟨tQ l+x.aI,tV l+v,tP l+x.bN⟩]/\LR (l++[⟨x.aI,v,x.bN⟩])/\r.2.1=x.Value-v)\/(r.2.2≠0/\r.1=l/\r.2.1=0)) (AU n l x c):=by
  unfold AU PM
  simp only [WT.run,bR]
  repeat' with_reducible first | refine bF ?_ | refine dP ?_ | apply aD | apply bE | apply dS | apply dI | apply dN | apply dR | apply dO | apply dL | apply dU | apply dQ | refine aH (λ_=>?_) λ_=>?_ | refine dG (λ_=>?_) λ_=>?_ | apply cO | apply bU | apply bY | apply bK | apply aF
  all_goals try exact .inr ⟨(λk=>nomatch k),rfl,rfl⟩
  all_goals try (exfalso;omega)
  rename_i h1 h2
  refine x_eq (BZ hn (by omega) (by omega)) ?_
  have hm:=pF x.aI c 1
  repeat' with_reducible first | refine bF ?_ | refine dP ?_ | apply aD | apply bE | apply dS | apply dI | apply dN | apply dR | apply dO | apply dL | apply dU | apply dQ | refine aH (λ_=>?_) λ_=>?_ | refine dG (λ_=>?_) λ_=>?_ | apply cO | apply bU | apply bY | apply bK | apply aF
  all_goals try exact .inr ⟨(λk=>nomatch k),rfl,rfl⟩
  rename_i h3
  refine aT _ (QA hn hl) λr hr=>?_
  rcases hr with ⟨e1,e2,e3⟩ | ⟨e1,e2⟩
  · repeat' with_reducible first | refine bF ?_ | refine dP ?_ | apply aD | apply bE | apply dS | apply dI | apply dN | apply dR | apply dO | apply dL | apply dU | apply dQ | refine aH (λ_=>?_) λ_=>?_ | refine dG (λ_=>?_) λ_=>?_ | apply cO | apply bU | apply bY | apply bK | apply aF
    · omega
    · exact Or.inl ⟨rfl,by omega,(md x.aI c 1).1,e2,e3,rfl⟩
  · repeat' with_reducible first | refine bF ?_ | refine dP ?_ | apply aD | apply bE | apply dS | apply dI | apply dN | apply dR | apply dO | apply dL | apply dU | apply dQ | refine aH (λ_=>?_) λ_=>?_ | refine dG (λ_=>?_) λ_=>?_ | apply cO | apply bU | apply bY | apply bK | apply aF
    · exact .inr ⟨e1,rfl,rfl⟩
    · omega
theorem yJ {m:Int} {p:aQ} {l:List aB} (h:PR m p) (hl:LR l) (h1:m≠1->l.length<=1) (hq:tQ p.aG<=tQ l):PR m ⟨l,p.bH⟩ :=
  { h with ly:=hl,one:=h1,sum:=by have:=h.sum;show p.bH.a0+p.bH.a1+p.bH.a2<=tQ l;omega }
def Came (m:Int) (p q:aQ) (x:aB) (above:Int):Prop:=PR m q/\tQ q.aG=tQ p.aG+x.aI/\tV q.aG+above=tV p.aG+x.Value/\tP q.aG=tP p.aG+x.bN/\tS q.aG<=tS p.aG+ab x.bN/\(1<=x.aI/\x.aI<=288230376151711744)/\(0<=x.Value/\x.Value<=288230376151711744)
theorem T3 {m:Int} {p:aQ} {x:aB} (h:PR m p) (hl:LR (p.aG++[x])):Came m p ⟨[⟨tQ p.aG+x.aI,tV p.aG+x.Value,tP p.aG+x.bN⟩],p.bH⟩ x 0:=by
  obtain ⟨a1,a2,a3,a4⟩:=tL p.aG [x]
  simp only [tQ,tV,tP,tS,Int.add_zero] at a1 a2 a3 a4
  obtain ⟨b1,b2,b3,b4,b5⟩:=aO5 hl (by simp)
  have hb:=gN hl
  have hx:=aHU hl
  obtain ⟨c1,c2,c3⟩:=hx
  rw [a1,a2,a3] at b1 b2 b3 b4 b5
  refine ⟨yJ h b1 (λ_=>by simp) (by rw [b3];omega),b3,?_,b5,?_,by omega,by omega⟩
  · show tV [_]+0=_;rw [b4];omega
  · show tS [_]<=_;omega
theorem aZ7 {m:Int} {p:aQ} {x:aB} {n:Nat} (hn:66<n) (h:PR m p):Ex (λr=>(r.2=0/\Came m p r.1 x 0)\/(r.2≠0/\r.1=p)) (zP n p x):=by
  unfold zP TN
  simp only [WT.run,bR]
  refine aT _ (QA hn h.ly) λr hr=>?_
  rcases hr with ⟨e1,e2,e3⟩ | ⟨e1,e2⟩
  · repeat' with_reducible first | refine bF ?_ | refine dP ?_ | apply aD | apply bE | apply dS | apply dI | apply dN | apply dR | apply dO | apply dL | apply dU | apply dQ | refine aH (λ_=>?_) λ_=>?_ | refine dG (λ_=>?_) λ_=>?_ | apply cO | apply bU | apply bY | apply bK | apply aF
    · omega
    · rw [e2];exact .inl ⟨rfl,T3 h e3⟩
  · repeat' with_reducible first | refine bF ?_ | refine dP ?_ | apply aD | apply bE | apply dS | apply dI | apply dN | apply dR | apply dO | apply dL | apply dU | apply dQ | refine aH (λ_=>?_) λ_=>?_ | refine dG (λ_=>?_) λ_=>?_ | apply cO | apply bU | apply bY | apply bK | apply aF
    · exact .inr ⟨e1,rfl⟩
    · omega
theorem aEE {m c:Int} {p:aQ} {x:aB} {n:Nat} (hn:66<n) (h:PR m p) (hc:0<=c/\c<=1073741824) (hx:x.aI<=9223372036854775807) :
    Ex (λr=>(r.2.2=0/\Came m p r.1 x r.2.1/\(-288230376151711744<=r.2.1/\r.2.1<=288230376151711744))\/(r.2.2≠0/\r.1=p/\r.2.1=0)) (A9 n m c p x):=by
  unfold A9 UR
  simp only [WT.run,bR]
  refine aT (λ(r:Int×Int×aQ)=>r.2.1=0->Came m p r.2.2 x r.1/\(-288230376151711744<=r.1/\r.1<=288230376151711744)) ?_ λr hr=>?_
  · refine aD (aH (λk1=>?_) λk1=>aD (aH (λk2=>?_) λk2=>aD (aH (λk3=>?_) λk3=>aD (aH (λk4=>?_) λk4=>aF (λk=>nomatch k)))))
    · refine aT _ (aMQ hn h.ly) λr hr=>aF ?_
      rcases hr with ⟨e1,e2,e3⟩ | ⟨e1,e2⟩
      · intro _
        obtain ⟨a1,a2,a3,a4⟩:=tL p.aG [x]
        simp only [tQ,tV,tP,tS,Int.add_zero] at a1 a2 a3 a4
        obtain ⟨c1,c2,c3⟩:=aHU e3
        simp only [e2]
        refine ⟨⟨yJ h e3 (λk=>absurd k1 k) (by omega),a1,by simp only;omega,a3,by simp only;omega,by omega,by omega⟩,by decide⟩
      · intro k;exact absurd k e1
    · refine aT _ (QA hn h.ly) λr hr=>aF ?_
      rcases hr with ⟨e1,e2,e3⟩ | ⟨e1,e2⟩
      · intro _;simp only [e2];exact ⟨T3 h e3,by decide⟩
      · intro k;exact absurd k e1
    · refine aT _ (aZ7 hn h) λr hr=>aF ?_
      rcases hr with ⟨e1,e2⟩ | ⟨e1,e2⟩
      · intro _;exact ⟨e2,by simp⟩
      · intro k;exact absurd k e1
    · refine aT _ (aZV hn h.ly hc hx) λr hr=>aF ?_
      rcases hr with ⟨e1,hv,v,e2,e3,e4⟩ | ⟨e1,e2,_⟩
      · intro _
        obtain ⟨b1,b2,b3,b4,b5,b6,b7⟩:=T3 h e3
        have b8:0<=v/\v<=288230376151711744:=b7
        simp only [e2,e4]
        refine ⟨⟨b1,b2,?_,b4,b5,b6,hv⟩,by omega⟩
        (try simp only at *);omega
      · intro k;exact absurd k e1
  · obtain ⟨ab,e,q⟩:=r
    repeat' with_reducible first | refine bF ?_ | refine dP ?_ | apply aD | apply bE | apply dS | apply dI | apply dN | apply dR | apply dO | apply dL | apply dU | apply dQ | refine aH (λ_=>?_) λ_=>?_ | refine dG (λ_=>?_) λ_=>?_ | apply cO | apply bU | apply bY | apply bK | apply aF
    · rename_i k;exact .inr ⟨k,rfl,rfl⟩
    · rename_i k;exact .inl ⟨rfl,hr (by simpa using k)⟩
end Go.Pv
