import Derived.Test.YtgoihillpibdjaaGreatH70
import Derived.Test.YtgoihillpibdjaaGreatI70
set_option linter.unusedVariables false
set_option linter.unusedSimpArgs false
namespace Go.Pv
open Go.Proofs
theorem lW {α:Type} {l:List α} {k j:Nat} {b:α} (hk:k<l.length):(l.set k b)[j]?=if k=j then some b else l[j]?:=by
  rw [List.getElem?_set];by_cases h:k=j
  · rw [if_pos h,if_pos hk,if_pos h]
  · rw [if_neg h,if_neg h]
theorem PR.io {m:Int} {p q:aQ} (h:IO m p q):PR m p/\PR m q:=⟨h.pp,h.qq⟩
theorem IO.symm {m:Int} {p q:aQ} (h:IO m p q):IO m q p:=⟨h.qq,h.pp,by have:=h.sq;omega,by have:=h.ss;omega⟩
theorem ES.at {n:Nat} {bL:List Int} {iM:Int} {x:aP} (h:ES n bL iM x) {i c:Nat} (hi:i<n) (hc:c<2):∃ m p q,bL[i]?=some m/\x.bS[2*i+c]?=some p/\x.bS[2*i+(1-c)]?=some q/\IO m p q:=by
  have h1:i<bL.length:=by rw [h.lm];exact hi
  have h2:2*i<x.bS.length:=by rw [h.lp];omega
  have h3:2*i+1<x.bS.length:=by rw [h.lp];omega
  have e1:=List.getElem?_eq_getElem h1
  have e2:=List.getElem?_eq_getElem h2
  have e3:=List.getElem?_eq_getElem h3
  have hio:=h.BR i _ _ _ e1 e2 e3
  rcases (by omega:c=0\/c=1) with rfl | rfl
  · exact ⟨_,_,_,e1,e2,e3,hio⟩
  · exact ⟨_,_,_,e1,e3,e2,hio.symm⟩
theorem ES.put {n:Nat} {bL:List Int} {iM:Int} {x:aP} (h:ES n bL iM x) {i c:Nat} (hi:i<n) (hc:c<2) {m:Int} {q p':aQ} (hm:bL[i]?=some m) (hq:x.bS[2*i+(1-c)]?=some q) (hio:IO m p' q):ES n bL iM { x with bS:=x.bS.set (2*i+c) p' }:=by
  have hk:2*i+c<x.bS.length:=by rw [h.lp];omega
  refine { h with lp:=by rw [List.length_set];exact h.lp,BR:=?_ }
  intro j m' a b hm' ha hb
  rw [lW hk] at ha hb
  by_cases hj:j=i
  · subst hj
    rw [hm] at hm';cases hm'
    rcases (by omega:c=0\/c=1) with rfl | rfl
    · rw [if_pos (by omega)] at ha;rw [if_neg (by omega)] at hb
      cases ha;rw [show 2*j+1=2*j+(1-0) by omega,hq] at hb;cases hb;exact hio
    · rw [if_neg (by omega)] at ha;rw [if_pos (by omega)] at hb
      cases hb;rw [show 2*j=2*j+(1-1) by omega,hq] at ha;cases ha;exact hio.symm
  · rw [if_neg (by omega)] at ha hb
    exact h.BR j m' a b hm' ha hb
theorem ES.KU {n:Nat} {bL:List Int} {iM:Int} {x:aP} (h:ES n bL iM x) {b:List Int} (h1:b.length=17) (h2:∀ y∈b,bQ y):ES n bL iM { x with dK:=b }:={ h with lb:=h1,gK:=h2 }
theorem ES.aIZ {n:Nat} {bL:List Int} {iM:Int} {x:aP} (h:ES n bL iM x) {i:Nat} {r:cK} (hr:yO r):ES n bL iM { x with dH:=x.dH.set i r }:={ h with lr:=by rw [List.length_set];exact h.lr,roll:=λy hy=>by rcases mem_set hy with rfl | hy;exact hr;exact h.roll y hy }
theorem ES.aSB {n:Nat} {bL:List Int} {iM:Int} {x:aP} (h:ES n bL iM x) {i:Nat} {r:Int} (hr:-1<=r/\r<=288230376151711744):ES n bL iM { x with fZ:=x.fZ.set i r }:={ h with lc:=by rw [List.length_set];exact h.lc,pri:=λy hy=>by rcases mem_set hy with rfl | hy;exact hr;exact h.pri y hy }
theorem RF {l:List aQ} {k:Nat} {a b:aQ} (h:l[k]?=some a):sV (l.set k b)=sV l-tV a.aG+tV b.aG:=qQ _ h
theorem Inv.bL {K:Int} {s:aA} (h:Inv K s) {e:Nat} (he:e<s.bC.length):∃ bL,s.bJ.Methods[e]?=some bL/\bL.length=s.bJ.cB.length/\∀ x∈bL,1<=x/\x<=4:=by
  have h1:=h.len;have h2:=h.jP.lm
  have h3:e<s.bJ.Methods.length:=by omega
  have e1:=List.getElem?_eq_getElem h3
  exact ⟨_,e1,h.jP.met _ (fF e1)⟩
theorem Inv.cst {K:Int} {s:aA} (h:Inv K s) {e:Nat} (he:e<s.bC.length):∃ cs,s.bJ.gB[e]?=some cs/\cs.length=s.bJ.cB.length/\∀ x∈cs,0<=x/\x<=1073741824:=by
  have h1:=h.len;have h2:=h.jP.lc
  have h3:e<s.bJ.gB.length:=by omega
  have e1:=List.getElem?_eq_getElem h3
  exact ⟨_,e1,h.jP.cos _ (fF e1)⟩
theorem Inv.up {K:Int} {s:aA} (h:Inv K s) {e:Nat} {x x':aP} {bL:List Int} (hx:s.bC[e]?=some x) (hm:s.bJ.Methods[e]?=some bL) (ho:EI s.bJ bL x') {R:List eU} {S:List eH} {T:List fU}
    (hR:∀ r∈R,yE s.bJ r) (hS:∀ r∈S,pU s.bJ r) (hT:∀ r∈T,DI s.bJ r) (l1:R.length<=40) (l2:S.length<=40) (l3:T.length<=40)
    (ha:dZ (iU e) R-dZ (iU e) s.cZ=bl x 1-bl x' 1) (ha':∀ f,f≠e->dZ (iU f) R=dZ (iU f) s.cZ)
    (hw:dZ (iI e) T-dZ (iI e) s.dJ=bl x' 12-bl x 12) (hw':∀ f,f≠e->dZ (iI f) T=dZ (iI f) s.dJ)
    (hg:kF x'=kF x):Inv K { s with bC:=s.bC.set e x',cZ:=R,dY:=S,dJ:=T }:=by
  have hk:e<s.bC.length:=(List.getElem?_eq_some_iff.1 hx).1
  refine { h with len:=by show ((s.bC.set e x').length:Int)=_;rw [List.length_set];exact h.len,mK:=hR,nA:=hS,nO:=hT,l1:=l1,l2:=l2,l3:=l3,ent:=?_,acc:=?_,way:=?_,xZ:=?_ }
  · intro f y ms hy hms
    have hy:(s.bC.set e x')[f]?=some y:=hy
    rw [lW hk] at hy
    by_cases hf:e=f
    · subst hf;rw [if_pos rfl] at hy;cases hy
      have hms:s.bJ.Methods[e]?=some ms:=hms
      rw [hm] at hms;cases hms;exact ho
    · rw [if_neg hf] at hy;exact h.ent f y ms hy hms
  · intro f y hy
    have hy:(s.bC.set e x')[f]?=some y:=hy
    show dZ (iU f) R=_
    rw [lW hk] at hy
    by_cases hf:e=f
    · subst hf;rw [if_pos rfl] at hy;cases hy
      have:=h.acc e x hx;omega
    · rw [if_neg hf] at hy;rw [ha' f (Ne.symm hf)];exact h.acc f y hy
  · intro f y hy
    have hy:(s.bC.set e x')[f]?=some y:=hy
    show dZ (iI f) T=_
    rw [lW hk] at hy
    by_cases hf:e=f
    · subst hf;rw [if_pos rfl] at hy;cases hy
      have:=h.way e x hx;omega
    · rw [if_neg hf] at hy;rw [hw' f (Ne.symm hf)];exact h.way f y hy
  · show dZ kF (s.bC.set e x')=0
    rw [qQ _ hx,hg];have:=h.xZ;omega
theorem Inv.up2 {K:Int} {s:aA} (h:Inv K s) {e g:Nat} {x x' y y':aP} {bL mtg:List Int} (hne:e≠g) (hx:s.bC[e]?=some x) (hm:s.bJ.Methods[e]?=some bL) (ho:EI s.bJ bL x') (hy:s.bC[g]?=some y) (hmg:s.bJ.Methods[g]?=some mtg) (hog:EI s.bJ mtg y') {T:List fU}
    (hT:∀ r∈T,DI s.bJ r) (l3:T.length<=40) (ha:bl x' 1=bl x 1) (hag:bl y' 1=bl y 1) (hw:bl x' 12=bl x 12) (hwg:dZ (iI g) T-dZ (iI g) s.dJ=bl y' 12-bl y 12) (hw':∀ f,f≠g->dZ (iI f) T=dZ (iI f) s.dJ)
    (hg:kF x'+kF y'=kF x+kF y):Inv K { s with bC:=(s.bC.set e x').set g y',dJ:=T }:=by
  have hk:e<s.bC.length:=(List.getElem?_eq_some_iff.1 hx).1
  have hk2:g<(s.bC.set e x').length:=by rw [List.length_set];exact (List.getElem?_eq_some_iff.1 hy).1
  have hy2:(s.bC.set e x')[g]?=some y:=by rw [lW hk,if_neg hne];exact hy
  have cas:∀ {f:Nat} {z:aP},((s.bC.set e x').set g y')[f]?=some z->(f=g/\z=y')\/(f=e/\z=x')\/(f≠g/\f≠e/\s.bC[f]?=some z):=by
    intro f z hz
    rw [lW hk2] at hz
    by_cases h1:g=f
    · rw [if_pos h1] at hz;cases hz;exact .inl ⟨h1.symm,rfl⟩
    · rw [if_neg h1,lW hk] at hz
      by_cases h2:e=f
      · rw [if_pos h2] at hz;cases hz;exact .inr (.inl ⟨h2.symm,rfl⟩)
      · rw [if_neg h2] at hz;exact .inr (.inr ⟨Ne.symm h1,Ne.symm h2,hz⟩)
  refine { h with len:=by show (((s.bC.set e x').set g y').length:Int)=_;rw [List.length_set,List.length_set];exact h.len,nO:=hT,l3:=l3,ent:=?_,acc:=?_,way:=?_,xZ:=?_ }
  · intro f z ms hz hms
    have hms:s.bJ.Methods[f]?=some ms:=hms
    rcases cas hz with ⟨rfl,rfl⟩ | ⟨rfl,rfl⟩ | ⟨_,_,hz⟩
    · rw [hmg] at hms;cases hms;exact hog
    · rw [hm] at hms;cases hms;exact ho
    · exact h.ent f z ms hz hms
  · intro f z hz
    show dZ (iU f) s.cZ=_
    rcases cas hz with ⟨rfl,rfl⟩ | ⟨rfl,rfl⟩ | ⟨_,_,hz⟩
    · rw [hag];exact h.acc _ y hy
    · rw [ha];exact h.acc _ x hx
    · exact h.acc f z hz
  · intro f z hz
    show dZ (iI f) T=_
    rcases cas hz with ⟨rfl,rfl⟩ | ⟨rfl,rfl⟩ | ⟨h1,_,hz⟩
    · have:=h.way _ y hy;omega
    · rw [hw,hw' f hne];exact h.way _ x hx
    · rw [hw' f h1];exact h.way f z hz
  · show dZ kF ((s.bC.set e x').set g y')=0
    rw [qQ _ hy2,qQ _ hx];have:=h.xZ;omega
set_option maxRecDepth 100000
set_option maxHeartbeats 1000000
def iN (x:aS):Prop:=(0<=x.dM/\x.dM<17)/\bQ x.bO
theorem OG (x:aS):Ex (λr=>r=true↔iN x) (DN x):=by
  unfold DN XR iN
  simp only [WT.run,bR,CL,Option.bind_some]
  repeat' with_reducible first | refine bF ?_ | refine dP ?_ | apply aD | apply bE | apply dS | apply dI | apply dN | apply dR | apply dO | apply dL | apply dU | apply dQ | refine aH (λ_=>?_) λ_=>?_ | refine dG (λ_=>?_) λ_=>?_ | apply cO | apply bU | apply bY | apply bK | apply aF
  · simp only [decide_eq_true_eq];exact ⟨λh=>⟨⟨by omega,by omega⟩,h⟩,λh=>h.2⟩
  · exact ⟨(λk=>nomatch k),λk=>by omega⟩
  · exact ⟨(λk=>nomatch k),λk=>by omega⟩
def eD (l:List aS) (a:Int):Int:=dZ (λx=>if x.dM=a then x.bO else 0) l
def vJ (l:List aS):Int:=dZ (λx=>x.bO) l
theorem MX {l:List Int} {k a:Nat} {v:Int} (hk:k<l.length):(l.set k v).getD a 0=if k=a then v else l.getD a 0:=by
  rw [List.getD_eq_getElem?_getD,List.getD_eq_getElem?_getD,lW hk]
  by_cases h:k=a
  · rw [if_pos h,if_pos h];rfl
  · rw [if_neg h,if_neg h]
theorem getD_at {l:List Int} {k:Nat} {x:Int} (h:l[k]?=some x):l.getD k 0=x:=by rw [List.getD_eq_getElem?_getD,h];rfl
theorem aDI {l:List aS} {n:Nat} (hn:66<n) (hl:l.length<=60):Ex (λr=>r.2=0->(∀ x∈r.1,iN x)/\r.1.length<=17/\∀ a:Nat,a<17->eD r.1 a=eD l a) (rD n l):=by
  unfold rD QG
  simp only [WT.run,bR,vZ,Option.bind_some]
  refine aT (λ(r:Unit⊕(List aS×Int))=>match r with | .inl _=>∀ x∈l,iN x | .inr r=>r.2≠0)
    (fM (λ(v:Int)=>0<=v/\v<=(l.length:Int)/\((∀ x∈l.drop v.toNat,iN x)->∀ x∈l,iN x)) (λ(v:Int)=>l.length-v.toNat) ?_ (v:=0) (by simp) (by simp;omega)) λr hr=>jI (λu e=>?_) λb e=>?_
  · rintro i ⟨h0,h1,h2⟩
    refine aD (aH (λh=>?_) λh=>?_)
    · refine eF h0 h λx hx=>aT _ (OG x) λb hb=>?_
      repeat' with_reducible first | refine bF ?_ | refine dP ?_ | apply aD | apply bE | apply dS | apply dI | apply dN | apply dR | apply dO | apply dL | apply dU | apply dQ | refine aH (λ_=>?_) λ_=>?_ | refine dG (λ_=>?_) λ_=>?_ | apply cO | apply bU | apply bY | apply bK | apply aF
      · exact λk=>nomatch k
      · rename_i k
        refine bX ⟨⟨by omega,by omega,λhh=>h2 λy hy=>?_⟩,by omega⟩
        rw [(drop_at hx).2] at hy
        rcases List.mem_cons.1 hy with rfl | hy
        · exact hb.1 k
        · exact hh y (by rw [show (i+1).toNat=i.toNat+1 by omega];exact hy)
    · refine bK (bX (h2 λx hx=>?_))
      rw [List.drop_eq_nil_of_le (by omega)] at hx;cases hx
  · subst e
    have hk:∀ x∈l,iN x:=hr
    refine aT (λ(r:List Int⊕(List aS×Int))=>match r with | .inl h=>h.length=17/\(∀ y∈h,bQ y)/\∀ a:Nat,a<17->h.getD a 0=eD l a | .inr r=>r.2≠0)
      (fM (λ(v:Int×List Int)=>0<=v.1/\v.1<=(l.length:Int)/\v.2.length=17/\(∀ y∈v.2,bQ y)/\∀ a:Nat,a<17->v.2.getD a 0+eD (l.drop v.1.toNat) a=eD l a) (λ(v:Int×List Int)=>l.length-v.1.toNat) ?_ (v:=(0,List.replicate 17 0)) ?_ (by simp;omega)) λr hr=>jI (λh e=>?_) λb e=>?_
    · rintro ⟨i,hv⟩ ⟨h0,h1,h2,h3,h4⟩
      simp only at h0 h1 h2 h3 h4
      refine bE (aD (aH (λh=>?_) λh=>?_))
      · refine eF h0 h λx hx=>?_
        have hx:l[i.toNat]?=some x:=hx
        obtain ⟨g1,g2⟩:=hk x (fF hx)
        refine iF g1 (eF g1.1 (by rw [h2];exact g1.2) λc hc=>eF h0 h λx' hx'=>?_)
        have hx':l[i.toNat]?=some x':=hx'
        rw [hx] at hx';cases hx'
        repeat' with_reducible first | refine bF ?_ | refine dP ?_ | apply aD | apply bE | apply dS | apply dI | apply dN | apply dR | apply dO | apply dL | apply dU | apply dQ | refine aH (λ_=>?_) λ_=>?_ | refine dG (λ_=>?_) λ_=>?_ | apply cO | apply bU | apply bY | apply bK | apply aF
        · rename_i k;exact k
        · rename_i k
          refine eF h0 h λx' hx'=>?_
          have hx':l[i.toNat]?=some x':=hx'
          rw [hx] at hx';cases hx'
          refine iF g1 (eF g1.1 (by rw [h2];exact g1.2) λc' hc'=>aD (bF (bX ⟨⟨by simp only;omega,by simp only;omega,by simp only [List.length_set];exact h2,?_,?_⟩,by simp only;omega⟩)))
          · have hin:bQ c/\bQ x.bO/\bQ (c+x.bO):=by
              by_cases hh:bQ c/\bQ x.bO/\bQ (c+x.bO)
              · exact hh
              · rw [wP hh] at k;exact absurd k (by decide)
            rw [pI hin]
            intro y hy
            rcases mem_set hy with rfl | hy
            · exact hin.2.2
            · exact h3 y hy
          · have hin:bQ c/\bQ x.bO/\bQ (c+x.bO):=by
              by_cases hh:bQ c/\bQ x.bO/\bQ (c+x.bO)
              · exact hh
              · rw [wP hh] at k;exact absurd k (by decide)
            rw [pI hin]
            intro a ha
            have h5:=h4 a ha
            have e1:eD (l.drop i.toNat) a=(if x.dM=(a:Int) then x.bO else 0)+eD (l.drop (i.toNat+1)) a:=uR _ hx
            show (hv.set x.dM.toNat (c+x.bO)).getD a 0+eD (l.drop (i+1).toNat) a=eD l a
            rw [MX (by omega),show (i+1).toNat=i.toNat+1 by omega]
            by_cases hA:x.dM.toNat=a
            · rw [if_pos hA];rw [if_pos (by omega)] at e1
              have:hv.getD a 0=c:=getD_at (by rw [<- hA];exact hc)
              omega
            · rw [if_neg hA];rw [if_neg (by omega)] at e1;omega
      · refine bK (bX ⟨h2,h3,λa ha=>?_⟩)
        have h5:=h4 a ha
        rw [List.drop_eq_nil_of_le (by omega)] at h5
        simp only [eD,dZ,Int.add_zero] at h5;exact h5
    · refine ⟨by simp,by simp,by simp,?_,?_⟩
      · intro y hy;rw [List.eq_of_mem_replicate hy];decide
      · intro a ha
        show (List.replicate 17 (0:Int)).getD a 0+eD (l.drop 0) a=eD l a
        have:(List.replicate 17 (0:Int)).getD a 0=0:=by
          rw [List.getD_eq_getElem?_getD,List.getElem?_replicate];split <;> rfl
        rw [this,Int.zero_add];rfl
    · subst e
      obtain ⟨q1,q2,q3⟩:=hr
      refine aT (λ(m:List aS)=>(∀ x∈m,iN x)/\m.length<=17/\∀ a:Nat,a<17->eD m a=h.getD a 0)
        (fM (λ(v:Int×List aS)=>0<=v.1/\v.1<=17/\(∀ x∈v.2,iN x)/\(v.2.length:Int)<=v.1/\∀ a:Nat,eD v.2 a=if (a:Int)<v.1 then h.getD a 0 else 0) (λ(v:Int×List aS)=>17-v.1.toNat) ?_ (v:=(0,[])) ?_ (by simp;omega)) λm hm=>aF λ_=>?_
      · rintro ⟨i,m⟩ ⟨h0,h1,h2,h3,h4⟩
        simp only at h0 h1 h2 h3 h4
        refine bE (aD (aH (λk=>?_) λk=>?_))
        · refine aT (λ(m':List aS)=>(∀ x∈m',iN x)/\(m'.length:Int)<=i+1/\∀ a:Nat,eD m' a=if (a:Int)<i+1 then h.getD a 0 else 0) ?_ λm' hm'=>bF (bX ⟨⟨by simp only;omega,by simp only;omega,hm'.1,hm'.2.1,hm'.2.2⟩,by simp only;omega⟩)
          refine iF ⟨h0,k⟩ (eF h0 (by rw [q1];exact k) λc hc=>?_)
          have hc:h[i.toNat]?=some c:=hc
          refine aD (aH (λk2=>iF ⟨h0,k⟩ (aD (dF (aF ?_)))) λk2=>aF ?_)
          · refine ⟨λx hx=>?_,by simp;omega,λa=>?_⟩
            · rcases List.mem_append.1 hx with hx | hx
              · exact h2 x hx
              · rw [List.mem_singleton] at hx;subst hx;exact ⟨⟨h0,k⟩,q2 c (fF hc)⟩
            · have e1:eD (m++[⟨i,c⟩]) a=eD m a+eD [⟨i,c⟩] a:=xD _ _ _
              rw [e1,h4 a]
              simp only [eD,dZ,Int.add_zero]
              by_cases hA:i=(a:Int)
              · rw [if_pos hA,if_neg (by omega),if_pos (by omega),Int.zero_add]
                exact (getD_at (by rw [<- hc];congr 1;omega)).symm
              · rw [if_neg hA,Int.add_zero]
                by_cases hB:(a:Int)<i
                · rw [if_pos hB,if_pos (by omega)]
                · rw [if_neg hB,if_neg (by omega)]
          · refine ⟨h2,by (try simp only at *);omega,λa=>?_⟩
            rw [h4 a]
            by_cases hA:i=(a:Int)
            · rw [if_neg (by omega),if_pos (by omega)]
              have:h.getD a 0=c:=getD_at (by rw [<- hc];congr 1;omega)
              rw [this];have:c=0:=by simpa using k2
              exact this.symm
            · by_cases hB:(a:Int)<i
              · rw [if_pos hB,if_pos (by omega)]
              · rw [if_neg hB,if_neg (by omega)]
        · refine bK (aF ⟨h2,by (try simp only at *);omega,λa ha=>?_⟩)
          rw [h4 a,if_pos (by omega)]
      · refine ⟨by simp,by simp,(λx hx=>nomatch hx),by simp,λa=>?_⟩
        show (0:Int)=_
        rw [if_neg (by simp)]
      · exact ⟨hm.1,hm.2.1,λa ha=>by rw [hm.2.2 a ha,q3 a ha]⟩
    · subst e;exact λk=>absurd k hr
  · subst e;exact λk=>absurd k hr
theorem aMI {l:List aS} {n:Nat} (hn:66<n) (hl:l.length<=60):Ex (λr=>r=true->vJ l=0) (A8 n l):=by
  unfold A8 QJ
  simp only [WT.run,bR]
  refine aT (λ(r:List Int⊕Bool)=>match r with | .inl m=>m=l.map (λx=>x.bO) | .inr b=>b=false)
    (fM (λ(v:Int×List Int)=>0<=v.1/\v.1<=(l.length:Int)/\(v.2.length:Int)<=v.1/\v.2++(l.drop v.1.toNat).map (λx=>x.bO)=l.map (λx=>x.bO)) (λ(v:Int×List Int)=>l.length-v.1.toNat) ?_ (v:=(0,[])) (by simp) (by simp;omega)) λr hr=>jI (λm e=>?_) λb e=>?_
  · rintro ⟨i,m⟩ ⟨h0,h1,h2,h3⟩
    simp only at h0 h1 h2 h3
    refine bE (aD (aH (λh=>?_) λh=>?_))
    · refine aT (λ_=>True) (eF h0 h λx hx=>aT _ (OG x) λb hb=>?_) λb _=>eX (λ_=>bK (bK (aF rfl))) λ_=>?_
      · repeat' with_reducible first | refine bF ?_ | refine dP ?_ | apply aD | apply bE | apply dS | apply dI | apply dN | apply dR | apply dO | apply dL | apply dU | apply dQ | refine aH (λ_=>?_) λ_=>?_ | refine dG (λ_=>?_) λ_=>?_ | apply cO | apply bU | apply bY | apply bK | apply aF
        · trivial
        · exact eF h0 h λx hx=>aD (aF trivial)
      · refine eF h0 h λx hx=>aD (dF (bF (bX ⟨⟨by simp only;omega,by simp only;omega,by simp;omega,?_⟩,by simp only;omega⟩)))
        show (m++[x.bO])++(l.drop (i+1).toNat).map (λx=>x.bO)=_
        rw [<- h3,(drop_at hx).2,show (i+1).toNat=i.toNat+1 by omega]
        simp
    · refine bK (bX ?_)
      rw [List.drop_eq_nil_of_le (by omega)] at h3
      simpa using h3
  · subst e
    have hm:m=l.map (λx=>x.bO):=hr
    subst hm
    refine x_eq (uH (by simp;omega) (by simp;omega)) ?_
    repeat' with_reducible first | refine bF ?_ | refine dP ?_ | apply aD | apply bE | apply dS | apply dI | apply dN | apply dR | apply dO | apply dL | apply dU | apply dQ | refine aH (λ_=>?_) λ_=>?_ | refine dG (λ_=>?_) λ_=>?_ | apply cO | apply bU | apply bY | apply bK | apply aF
    all_goals try (intro k;cases k;done)
    rename_i k1 k2 k3
    intro k4
    have k4:=of_decide_eq_true k4
    have hs:=aEY k3
    rw [hs.1] at k4
    have e:dD (l.map (λx=>x.bO))=vJ l:=aQV _ _ _
    rw [<- e];exact k4
  · subst e
    have hb:b=false:=hr
    subst hb;exact λk=>nomatch k
def OA (gK:List Int) (l:List aS) (b:List Int):Prop:=b.length=17/\(∀ y∈b,bQ y)/\(∀ a:Nat,a<17->b.getD a 0=gK.getD a 0+eD l a)/\dD b=dD gK
theorem aVB {gK:List Int} {l:List aS} {n:Nat} (hn:66<n) (hl:l.length<=60) (hb:gK.length=17) (hm:∀ y∈gK,bQ y):Ex (λr=>r.2=0->OA gK l r.1) (zO n gK l):=by
  unfold zO U0
  simp only [WT.run,bR,vZ,Option.bind_some]
  refine aD (aH (λk=>absurd (show (gK.length:Int)=17 by omega) k) λ_=>dF (aT _ (aDI hn hl) λm hP=>?_))
  refine aT (λ(b:Bool)=>b=false->m.2=0/\vJ m.1=0) ?_ λb hb2=>eX (λ_=>aF (λk=>nomatch k)) λkb=>?_
  · refine aD (aH (λ_=>aF (λk=>nomatch k)) λk1=>?_)
    have k1:m.2=0:=by simpa using k1
    obtain ⟨p1,p2,p3⟩:=hP k1
    refine aD (aH (λk2=>aT _ (aMI hn (by omega)) λb hb=>aD (aF λk=>⟨k1,hb (by simpa using k)⟩)) λk2=>aF λ_=>⟨k1,?_⟩)
    have:m.1=[]:=List.eq_nil_of_length_eq_zero (by omega)
    rw [this];rfl
  · obtain ⟨z1,z2⟩:=hb2 kb
    obtain ⟨p1,p2,p3⟩:=hP z1
    refine dF (aT (λ(r:List Int⊕(List Int×Int))=>match r with | .inl c=>OA gK l c | .inr r=>r.2≠0)
      (fM (λ(v:Int×List Int)=>0<=v.1/\v.1<=(m.1.length:Int)/\v.2.length=17/\(∀ y∈v.2,bQ y)/\(∀ a:Nat,a<17->v.2.getD a 0+eD (m.1.drop v.1.toNat) a=gK.getD a 0+eD m.1 a)/\dD v.2+vJ (m.1.drop v.1.toNat)=dD gK+vJ m.1) (λ(v:Int×List Int)=>m.1.length-v.1.toNat) ?_ (v:=(0,gK)) ⟨by simp,by simp,hb,hm,λa ha=>rfl,rfl⟩ (by simp;omega)) λr hr=>jI (λc e=>aF λ_=>?_) λb e=>?_)
    · rintro ⟨i,c⟩ ⟨h0,h1,h2,h3,h4,h5⟩
      simp only at h0 h1 h2 h3 h4 h5
      refine bE (aD (aH (λh=>?_) λh=>?_))
      · refine eF h0 h λx hx=>?_
        have hx:m.1[i.toNat]?=some x:=hx
        obtain ⟨g1,g2⟩:=p1 x (fF hx)
        refine eF g1.1 (by rw [h2];exact g1.2) λv hv=>eF h0 h λx' hx'=>?_
        have hx':m.1[i.toNat]?=some x':=hx'
        rw [hx] at hx';cases hx'
        repeat' with_reducible first | refine bF ?_ | refine dP ?_ | apply aD | apply bE | apply dS | apply dI | apply dN | apply dR | apply dO | apply dL | apply dU | apply dQ | refine aH (λ_=>?_) λ_=>?_ | refine dG (λ_=>?_) λ_=>?_ | apply cO | apply bU | apply bY | apply bK | apply aF
        · rename_i k;exact k
        · rename_i k
          refine eF h0 h λx' hx'=>?_
          have hx':m.1[i.toNat]?=some x':=hx'
          rw [hx] at hx';cases hx'
          have hin:bQ v/\bQ x.bO/\bQ (v+x.bO):=by
            by_cases hh:bQ v/\bQ x.bO/\bQ (v+x.bO)
            · exact hh
            · rw [wP hh] at k;exact absurd k (by decide)
          rw [pI hin]
          have hv:c[x.dM.toNat]?=some v:=hv
          have e2:(i+1).toNat=i.toNat+1:=by omega
          refine eF g1.1 (by rw [h2];exact g1.2) λv' hv'=>aD (bF (bX ⟨⟨by simp only;omega,by simp only;omega,by simp only [List.length_set];exact h2,?_,?_,?_⟩,by simp only;omega⟩))
          · intro y hy
            rcases mem_set hy with rfl | hy
            · exact hin.2.2
            · exact h3 y hy
          · intro a ha
            have h6:=h4 a ha
            have e1:eD (m.1.drop i.toNat) a=(if x.dM=(a:Int) then x.bO else 0)+eD (m.1.drop (i.toNat+1)) a:=uR _ hx
            show (c.set x.dM.toNat (v+x.bO)).getD a 0+eD (m.1.drop (i+1).toNat) a=_
            rw [MX (by omega),e2]
            by_cases hA:x.dM.toNat=a
            · rw [if_pos hA];rw [if_pos (by omega)] at e1
              have:c.getD a 0=v:=getD_at (by rw [<- hA];exact hv)
              omega
            · rw [if_neg hA];rw [if_neg (by omega)] at e1;omega
          · have e1:vJ (m.1.drop i.toNat)=x.bO+vJ (m.1.drop (i.toNat+1)):=uR _ hx
            have e3:dD (c.set x.dM.toNat (v+x.bO))=dD c-v+(v+x.bO):=qQ _ hv
            show dD (c.set x.dM.toNat (v+x.bO))+vJ (m.1.drop (i+1).toNat)=_
            rw [e3,e2];omega
      · refine bK (bX ⟨h2,h3,λa ha=>?_,?_⟩)
        · have h6:=h4 a ha
          rw [List.drop_eq_nil_of_le (by omega)] at h6
          have:eD [] (a:Int)=0:=rfl
          have:=p3 a ha
          (try simp only at *);omega
        · rw [List.drop_eq_nil_of_le (by omega)] at h5
          have:vJ []=0:=rfl
          (try simp only at *);omega
    · subst e;exact hr
    · subst e;exact λk=>absurd k hr
structure S0 (s:aA):Prop where
  jP:pG s.bJ
  len:(s.bC.length:Int)=s.bJ.gD
structure SS (s:aA):Prop extends S0 s where
  es:∀ (e:Nat) x bL,s.bC[e]?=some x->s.bJ.Methods[e]?=some bL->ES s.bJ.cB.length bL s.bJ.gP x
theorem Inv.ss {K:Int} {s:aA} (h:Inv K s):SS s:=⟨⟨h.jP,h.len⟩,λe x bL hx hm=>by rcases h.ent e x bL hx hm with h | ⟨y,h⟩;exact h.es;exact h.es⟩
theorem SS.bL {s:aA} (h:SS s) {e:Nat} {x:aP} (hx:s.bC[e]?=some x):∃ bL,s.bJ.Methods[e]?=some bL/\bL.length=s.bJ.cB.length/\(∀ x∈bL,1<=x/\x<=4)/\ES s.bJ.cB.length bL s.bJ.gP x:=by
  have h1:=h.len;have h2:=h.jP.lm
  have he:e<s.bC.length:=(List.getElem?_eq_some_iff.1 hx).1
  have h3:e<s.bJ.Methods.length:=by omega
  have e1:=List.getElem?_eq_getElem h3
  exact ⟨_,e1,(h.jP.met _ (fF e1)).1,(h.jP.met _ (fF e1)).2,h.es e x _ hx e1⟩
theorem SS.up {s:aA} (h:SS s) {e:Nat} {x x':aP} (hx:s.bC[e]?=some x) (hs:∀ bL,s.bJ.Methods[e]?=some bL->ES s.bJ.cB.length bL s.bJ.gP x'):SS (kP s e x'):=by
  have hk:e<s.bC.length:=(List.getElem?_eq_some_iff.1 hx).1
  refine ⟨⟨h.jP,by show ((s.bC.set e x').length:Int)=_;rw [List.length_set];exact h.len⟩,?_⟩
  intro f y ms hy hms
  have hy:(s.bC.set e x')[f]?=some y:=hy
  rw [lW hk] at hy
  by_cases hf:e=f
  · subst hf;rw [if_pos rfl] at hy;cases hy;exact hs ms hms
  · rw [if_neg hf] at hy;exact h.es f y ms hy hms
theorem oN (a b:Int):jQ a b=some (decide (0<=a/\a<=b)):=by
  refine eT ?_
  unfold jQ XH
  simp only [WT.run,bR]
  repeat' with_reducible first | refine bF ?_ | refine dP ?_ | apply aD | apply bE | apply dS | apply dI | apply dN | apply dR | apply dO | apply dL | apply dU | apply dQ | refine aH (λ_=>?_) λ_=>?_ | refine dG (λ_=>?_) λ_=>?_ | apply cO | apply bU | apply bY | apply bK | apply aF
  · simp;omega
  · simp;omega
def gM (s:aA) (e i:Int):Prop:=(0<=e/\e<(s.bC.length:Int))/\(0<=i/\i<(s.bJ.cB.length:Int))
instance (s:aA) (e i:Int):Decidable (gM s e i):=inferInstanceAs (Decidable (_/\_))
theorem S0.gU {s:aA} (h:S0 s):s.bC.length<=4/\1<=s.bC.length/\s.bJ.cB.length<=5:=by
  have:=h.len;have:=h.jP.vF;have:=h.jP.n1;omega
theorem qC {s:aA} (h:S0 s) (e i:Int):wN s e i=some (decide (gM s e i)):=by
  have:=h.gU
  refine eT ?_
  unfold wN WZ
  simp only [WT.run,bR,oN,Option.bind_some]
  repeat' with_reducible first | refine bF ?_ | refine dP ?_ | apply aD | apply bE | apply dS | apply dI | apply dN | apply dR | apply dO | apply dL | apply dU | apply dQ | refine aH (λ_=>?_) λ_=>?_ | refine dG (λ_=>?_) λ_=>?_ | apply cO | apply bU | apply bY | apply bK | apply aF
  · exact decide_eq_decide.2 (by unfold gM;omega)
  · exact (decide_eq_false (by unfold gM;omega)).symm
theorem gM.at {s:aA} {e i:Int} (h:gM s e i):∃ x,s.bC[e.toNat]?=some x:=by
  have:=h.1
  exact ⟨_,List.getElem?_eq_getElem (by omega)⟩
structure mO (s:aA) (e i c:Int) (x:aP) (m k:Int) (p q:aQ):Prop where
  th:gM s e i
  lc:0<=c/\c<=1
  en:s.bC[e.toNat]?=some x
  ms:∃ bL,s.bJ.Methods[e.toNat]?=some bL/\bL[i.toNat]?=some m
  cs:∃ cs,s.bJ.gB[e.toNat]?=some cs/\cs[i.toNat]?=some k
  kk:0<=k/\k<=1073741824
  pp:x.bS[2*i.toNat+c.toNat]?=some p
  qq:x.bS[2*i.toNat+(1-c.toNat)]?=some q
  io:IO m p q
  es:∀ bL,s.bJ.Methods[e.toNat]?=some bL->bL[i.toNat]?=some m/\ES s.bJ.cB.length bL s.bJ.gP x
theorem SS.spot {s:aA} (h:SS s) {e i c:Int} (ht:gM s e i) (hc:0<=c/\c<=1):∃ x m k p q,mO s e i c x m k p q:=by
  obtain ⟨x,hx⟩:=ht.at
  obtain ⟨bL,hm,hl,h4,hes⟩:=h.bL hx
  have h1:=h.len;have h2:=h.jP.lc;have ht1:=ht.1;have ht2:=ht.2
  have h3:e.toNat<s.bJ.gB.length:=by omega
  have e1:=List.getElem?_eq_getElem h3
  have hcs:=h.jP.cos _ (fF e1)
  have h5:i.toNat<(s.bJ.gB[e.toNat]).length:=by rw [hcs.1];omega
  have e2:=List.getElem?_eq_getElem h5
  obtain ⟨m,p,q,hm2,hp,hq,hio⟩:=hes.at (i:=i.toNat) (c:=c.toNat) (by omega) (by omega)
  exact ⟨x,m,_,p,q,⟨ht,hc,hx,⟨bL,hm,hm2⟩,⟨_,e1,e2⟩,hcs.2 _ (fF e2),hp,hq,hio,λmts' hm'=>by rw [hm] at hm';cases hm';exact ⟨hm2,hes⟩⟩⟩
theorem lU {s:aA} (h:S0 s) {e i c:Int} {x:aP} {p:aQ} (ht:gM s e i) (hc:0<=c/\c<=1) (hx:s.bC[e.toNat]?=some x) (hp:x.bS[2*i.toNat+c.toNat]?=some p):o7 s e i c=some p:=by
  have hf:=h.gU
  obtain ⟨t1,t2⟩:=ht
  have hl:2*i.toNat+c.toNat<x.bS.length:=(List.getElem?_eq_some_iff.1 hp).1
  have ei:(i*2+c).toNat=2*i.toNat+c.toNat:=by omega
  refine eT ?_
  unfold o7 Z0
  simp only [WT.run,bR,oN,qC h,Option.bind_some]
  rw [decide_eq_true (p:=gM s e i) ⟨t1,t2⟩,decide_eq_true (p:=0<=c/\c<=1) hc]
  refine aT (λb=>b=false) (aD (bU (aD (bU (bF (bF (bW t1.1 hx (aD (aF ?_))))))))) λb hb=>?_
  · exact decide_eq_false (by omega)
  · subst hb
    exact bU (bW t1.1 hx (bF (bF (bW (by omega) (by rw [ei];exact hp) (aF rfl)))))
theorem ES.gU {n:Nat} {bL:List Int} {iM:Int} {x:aP} (h:ES n bL iM x) (hn:n<=5):x.bS.length<=10/\x.dH.length<=5/\x.dK.length=17/\x.fZ.length<=5/\x.Down.length<=5:=by
  have:=h.lp;have:=h.lr;have:=h.lb;have:=h.lc;have:=h.ld;omega
theorem mO.es' {s:aA} {e i c m k:Int} {x:aP} {p q:aQ} (h:mO s e i c x m k p q):∃ bL,s.bJ.Methods[e.toNat]?=some bL/\bL[i.toNat]?=some m/\ES s.bJ.cB.length bL s.bJ.gP x:=by
  obtain ⟨bL,h1,h2⟩:=h.ms
  exact ⟨bL,h1,h2,(h.es bL h1).2⟩
theorem uE {s:aA} (h:SS s) {e i c m k:Int} {x:aP} {p q p':aQ} (hs:mO s e i c x m k p q):uG s e i c p'=some (kP s e.toNat { x with bS:=x.bS.set (2*i.toNat+c.toNat) p' }):=by
  have hf:=h.toS0.gU
  obtain ⟨t1,t2⟩:=hs.th
  obtain ⟨bL,m1,m2,hes⟩:=hs.es'
  have hl:=hes.gU hf.2.2
  have hc:=hs.lc
  have ei:(i*2+c).toNat=2*i.toNat+c.toNat:=by omega
  refine eT ?_
  unfold uG aAL
  simp only [WT.run,bR]
  repeat' with_reducible first | refine bF ?_ | refine dP ?_ | apply aD | apply bE | apply dS | apply dI | apply dN | apply dR | apply dO | apply dL | apply dU | apply dQ | refine aH (λ_=>?_) λ_=>?_ | refine dG (λ_=>?_) λ_=>?_ | apply cO | apply bU | apply bY | apply bK | apply aF | refine dF ?_
  refine bW t1.1 hs.en ?_
  repeat' with_reducible first | refine bF ?_ | refine dP ?_ | apply aD | apply bE | apply dS | apply dI | apply dN | apply dR | apply dO | apply dL | apply dU | apply dQ | refine aH (λ_=>?_) λ_=>?_ | refine dG (λ_=>?_) λ_=>?_ | apply cO | apply bU | apply bY | apply bK | apply aF | refine dF ?_
  refine bW t1.1 hs.en (bF (bF (bW (by omega) (by rw [ei];exact hs.pp) (aD (aF ?_)))))
  rw [ei];rfl
end Go.Pv
