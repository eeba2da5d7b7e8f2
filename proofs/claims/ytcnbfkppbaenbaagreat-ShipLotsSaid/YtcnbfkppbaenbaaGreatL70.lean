import Derived.Test.YtcnbfkppbaenbaaGreatH70
import Derived.Test.YtcnbfkppbaenbaaGreatI70
set_option linter.unusedVariables false
set_option linter.unusedSimpArgs false
namespace Go.Pv
open Go.Proofs
theorem mK {α:Type} {l:List α} {k j:Nat} {b:α} (hk:k<l.length):(l.set k b)[j]?=if k=j then some b else l[j]?:=by
  rw [List.getElem?_set];by_cases h:k=j
  · rw [if_pos h,if_pos hk,if_pos h]
  · rw [if_neg h,if_neg h]
theorem PR.io {m:Int} {p q:aH} (h:IO m p q):PR m p/\PR m q:=⟨h.pp,h.qq⟩
theorem IO.symm {m:Int} {p q:aH} (h:IO m p q):IO m q p:=⟨h.qq,h.pp,by have:=h.sq;omega,by have:=h.ss;omega⟩
theorem ES.at {n:Nat} {bL:List Int} {iN:Int} {x:aQ} (h:ES n bL iN x) {i c:Nat} (hi:i<n) (hc:c<2):∃ m p q,bL[i]?=some m/\x.bX[2*i+c]?=some p/\x.bX[2*i+(1-c)]?=some q/\IO m p q:=by
  have h1:i<bL.length:=by rw [h.lm];exact hi
  have h2:2*i<x.bX.length:=by rw [h.lp];omega
  have h3:2*i+1<x.bX.length:=by rw [h.lp];omega
  have e1:=List.getElem?_eq_getElem h1
  have e2:=List.getElem?_eq_getElem h2
  have e3:=List.getElem?_eq_getElem h3
  have hio:=h.AI i _ _ _ e1 e2 e3
  rcases (by omega:c=0\/c=1) with rfl | rfl
  · exact ⟨_,_,_,e1,e2,e3,hio⟩
  · exact ⟨_,_,_,e1,e3,e2,hio.symm⟩
theorem ES.put {n:Nat} {bL:List Int} {iN:Int} {x:aQ} (h:ES n bL iN x) {i c:Nat} (hi:i<n) (hc:c<2) {m:Int} {q p':aH} (hm:bL[i]?=some m) (hq:x.bX[2*i+(1-c)]?=some q) (hio:IO m p' q):ES n bL iN { x with bX:=x.bX.set (2*i+c) p' }:=by
  have hk:2*i+c<x.bX.length:=by rw [h.lp];omega
  refine { h with lp:=by rw [List.length_set];exact h.lp,AI:=?_ }
  intro j m' a b hm' ha hb
  rw [mK hk] at ha hb
  by_cases hj:j=i
  · subst hj
    rw [hm] at hm';cases hm'
    rcases (by omega:c=0\/c=1) with rfl | rfl
    · rw [if_pos (by omega)] at ha;rw [if_neg (by omega)] at hb
      cases ha;rw [show 2*j+1=2*j+(1-0) by omega,hq] at hb;cases hb;exact hio
    · rw [if_neg (by omega)] at ha;rw [if_pos (by omega)] at hb
      cases hb;rw [show 2*j=2*j+(1-1) by omega,hq] at ha;cases ha;exact hio.symm
  · rw [if_neg (by omega)] at ha hb
    exact h.AI j m' a b hm' ha hb
theorem ES.G8 {n:Nat} {bL:List Int} {iN:Int} {x:aQ} (h:ES n bL iN x) {b:List Int} (h1:b.length=17) (h2:∀ y∈b,bQ y):ES n bL iN { x with dR:=b }:={ h with lb:=h1,gH:=h2 }
theorem ES.WO {n:Nat} {bL:List Int} {iN:Int} {x:aQ} (h:ES n bL iN x) {i:Nat} {r:cO} (hr:wX r):ES n bL iN { x with dQ:=x.dQ.set i r }:={ h with lr:=by rw [List.length_set];exact h.lr,roll:=λy hy=>by rcases mem_set hy with rfl | hy;exact hr;exact h.roll y hy }
theorem ES.aQY {n:Nat} {bL:List Int} {iN:Int} {x:aQ} (h:ES n bL iN x) {i:Nat} {r:Int} (hr:-1<=r/\r<=288230376151711744):ES n bL iN { x with gI:=x.gI.set i r }:={ h with lc:=by rw [List.length_set];exact h.lc,pri:=λy hy=>by rcases mem_set hy with rfl | hy;exact hr;exact h.pri y hy }
theorem QH {l:List aH} {k:Nat} {a b:aH} (h:l[k]?=some a):sV (l.set k b)=sV l-tV a.aW+tV b.aW:=rW _ h
theorem Inv.bL {K:Int} {s:aA} (h:Inv K s) {e:Nat} (he:e<s.bD.length):∃ bL,s.bH.Methods[e]?=some bL/\bL.length=s.bH.bZ.length/\∀ x∈bL,1<=x/\x<=4:=by
  have h1:=h.len;have h2:=h.jW.lm
  have h3:e<s.bH.Methods.length:=by omega
  have e1:=List.getElem?_eq_getElem h3
  exact ⟨_,e1,h.jW.met _ (fE e1)⟩
theorem Inv.cst {K:Int} {s:aA} (h:Inv K s) {e:Nat} (he:e<s.bD.length):∃ cs,s.bH.gL[e]?=some cs/\cs.length=s.bH.bZ.length/\∀ x∈cs,0<=x/\x<=1073741824:=by
  have h1:=h.len;have h2:=h.jW.lc
  have h3:e<s.bH.gL.length:=by omega
  have e1:=List.getElem?_eq_getElem h3
  exact ⟨_,e1,h.jW.cos _ (fE e1)⟩
theorem Inv.up {K:Int} {s:aA} (h:Inv K s) {e:Nat} {x x':aQ} {bL:List Int} (hx:s.bD[e]?=some x) (hm:s.bH.Methods[e]?=some bL) (ho:EI s.bH bL x') {R:List dG} {S:List eZ} {T:List fT}
    (hR:∀ r∈R,tH s.bH r) (hS:∀ r∈S,pI s.bH r) (hT:∀ r∈T,BH s.bH r) (l1:R.length<=40) (l2:S.length<=40) (l3:T.length<=40)
    (ha:eD (iT e) R-eD (iT e) s.bY=bl x 1-bl x' 1) (ha':∀ f,f≠e->eD (iT f) R=eD (iT f) s.bY)
    (hw:eD (iI e) T-eD (iI e) s.dL=bl x' 12-bl x 12) (hw':∀ f,f≠e->eD (iI f) T=eD (iI f) s.dL)
    (hg:kH x'=kH x):Inv K { s with bD:=s.bD.set e x',bY:=R,eF:=S,dL:=T }:=by
  have hk:e<s.bD.length:=(List.getElem?_eq_some_iff.1 hx).1
  refine { h with len:=by show ((s.bD.set e x').length:Int)=_;rw [List.length_set];exact h.len,mD:=hR,mO:=hS,nP:=hT,l1:=l1,l2:=l2,l3:=l3,ent:=?_,acc:=?_,way:=?_,xD:=?_ }
  · intro f y ms hy hms
    have hy:(s.bD.set e x')[f]?=some y:=hy
    rw [mK hk] at hy
    by_cases hf:e=f
    · subst hf;rw [if_pos rfl] at hy;cases hy
      have hms:s.bH.Methods[e]?=some ms:=hms
      rw [hm] at hms;cases hms;exact ho
    · rw [if_neg hf] at hy;exact h.ent f y ms hy hms
  · intro f y hy
    have hy:(s.bD.set e x')[f]?=some y:=hy
    show eD (iT f) R=_
    rw [mK hk] at hy
    by_cases hf:e=f
    · subst hf;rw [if_pos rfl] at hy;cases hy
      have:=h.acc e x hx;omega
    · rw [if_neg hf] at hy;rw [ha' f (Ne.symm hf)];exact h.acc f y hy
  · intro f y hy
    have hy:(s.bD.set e x')[f]?=some y:=hy
    show eD (iI f) T=_
    rw [mK hk] at hy
    by_cases hf:e=f
    · subst hf;rw [if_pos rfl] at hy;cases hy
      have:=h.way e x hx;omega
    · rw [if_neg hf] at hy;rw [hw' f (Ne.symm hf)];exact h.way f y hy
  · show eD kH (s.bD.set e x')=0
    rw [rW _ hx,hg];have:=h.xD;omega
theorem Inv.up2 {K:Int} {s:aA} (h:Inv K s) {e g:Nat} {x x' y y':aQ} {bL mtg:List Int} (hne:e≠g) (hx:s.bD[e]?=some x) (hm:s.bH.Methods[e]?=some bL) (ho:EI s.bH bL x') (hy:s.bD[g]?=some y) (hmg:s.bH.Methods[g]?=some mtg) (hog:EI s.bH mtg y') {T:List fT}
    (hT:∀ r∈T,BH s.bH r) (l3:T.length<=40) (ha:bl x' 1=bl x 1) (hag:bl y' 1=bl y 1) (hw:bl x' 12=bl x 12) (hwg:eD (iI g) T-eD (iI g) s.dL=bl y' 12-bl y 12) (hw':∀ f,f≠g->eD (iI f) T=eD (iI f) s.dL)
    (hg:kH x'+kH y'=kH x+kH y):Inv K { s with bD:=(s.bD.set e x').set g y',dL:=T }:=by
  have hk:e<s.bD.length:=(List.getElem?_eq_some_iff.1 hx).1
  have hk2:g<(s.bD.set e x').length:=by rw [List.length_set];exact (List.getElem?_eq_some_iff.1 hy).1
  have hy2:(s.bD.set e x')[g]?=some y:=by rw [mK hk,if_neg hne];exact hy
  have cas:∀ {f:Nat} {z:aQ},((s.bD.set e x').set g y')[f]?=some z->(f=g/\z=y')\/(f=e/\z=x')\/(f≠g/\f≠e/\s.bD[f]?=some z):=by
    intro f z hz
    rw [mK hk2] at hz
    by_cases h1:g=f
    · rw [if_pos h1] at hz;cases hz;exact .inl ⟨h1.symm,rfl⟩
    · rw [if_neg h1,mK hk] at hz
      by_cases h2:e=f
      · rw [if_pos h2] at hz;cases hz;exact .inr (.inl ⟨h2.symm,rfl⟩)
      · rw [if_neg h2] at hz;exact .inr (.inr ⟨Ne.symm h1,Ne.symm h2,hz⟩)
  refine { h with len:=by show (((s.bD.set e x').set g y').length:Int)=_;rw [List.length_set,List.length_set];exact h.len,nP:=hT,l3:=l3,ent:=?_,acc:=?_,way:=?_,xD:=?_ }
  · intro f z ms hz hms
    have hms:s.bH.Methods[f]?=some ms:=hms
    rcases cas hz with ⟨rfl,rfl⟩ | ⟨rfl,rfl⟩ | ⟨_,_,hz⟩
    · rw [hmg] at hms;cases hms;exact hog
    · rw [hm] at hms;cases hms;exact ho
    · exact h.ent f z ms hz hms
  · intro f z hz
    show eD (iT f) s.bY=_
    rcases cas hz with ⟨rfl,rfl⟩ | ⟨rfl,rfl⟩ | ⟨_,_,hz⟩
    · rw [hag];exact h.acc _ y hy
    · rw [ha];exact h.acc _ x hx
    · exact h.acc f z hz
  · intro f z hz
    show eD (iI f) T=_
    rcases cas hz with ⟨rfl,rfl⟩ | ⟨rfl,rfl⟩ | ⟨h1,_,hz⟩
    · have:=h.way _ y hy;omega
    · rw [hw,hw' f hne];exact h.way _ x hx
    · rw [hw' f h1];exact h.way f z hz
  · show eD kH ((s.bD.set e x').set g y')=0
    rw [rW _ hy2,rW _ hx];have:=h.xD;omega
set_option maxRecDepth 100000
set_option maxHeartbeats 1000000
def iP (x:aN):Prop:=(0<=x.dI/\x.dI<17)/\bQ x.bM
theorem LD (x:aN):Ex (λr=>r=true↔iP x) (EM x):=by
  unfold EM YO iP
  simp only [WT.run,bS,zY,Option.bind_some]
  repeat' with_reducible first | refine bE ?_ | refine dU ?_ | apply aF | apply bF | apply dY | apply dN | apply dV | apply dZ | apply d9 | apply dO | apply dW | apply dS | refine aI (λ_=>?_) λ_=>?_ | refine dJ (λ_=>?_) λ_=>?_ | apply dB | apply bW | apply cZ | apply bJ | apply aD
  · simp only [decide_eq_true_eq];exact ⟨λh=>⟨⟨by omega,by omega⟩,h⟩,λh=>h.2⟩
  · exact ⟨(λk=>nomatch k),λk=>by omega⟩
  · exact ⟨(λk=>nomatch k),λk=>by omega⟩
def eP (l:List aN) (a:Int):Int:=eD (λx=>if x.dI=a then x.bM else 0) l
def uR (l:List aN):Int:=eD (λx=>x.bM) l
theorem KG {l:List Int} {k a:Nat} {v:Int} (hk:k<l.length):(l.set k v).getD a 0=if k=a then v else l.getD a 0:=by
  rw [List.getD_eq_getElem?_getD,List.getD_eq_getElem?_getD,mK hk]
  by_cases h:k=a
  · rw [if_pos h,if_pos h];rfl
  · rw [if_neg h,if_neg h]
theorem getD_at {l:List Int} {k:Nat} {x:Int} (h:l[k]?=some x):l.getD k 0=x:=by rw [List.getD_eq_getElem?_getD,h];rfl
theorem YL {l:List aN} {n:Nat} (hn:66<n) (hl:l.length<=60):Ex (λr=>r.2=0->(∀ x∈r.1,iP x)/\r.1.length<=17/\∀ a:Nat,a<17->eP r.1 a=eP l a) (rJ n l):=by
  unfold rJ PO
  simp only [WT.run,bS,wS,Option.bind_some]
  refine aU (λ(r:Unit⊕(List aN×Int))=>match r with | .inl _=>∀ x∈l,iP x | .inr r=>r.2≠0)
    (fJ (λ(v:Int)=>0<=v/\v<=(l.length:Int)/\((∀ x∈l.drop v.toNat,iP x)->∀ x∈l,iP x)) (λ(v:Int)=>l.length-v.toNat) ?_ (v:=0) (by simp) (by simp;omega)) λr hr=>iZ (λu e=>?_) λb e=>?_
  · rintro i ⟨h0,h1,h2⟩
    refine aF (aI (λh=>?_) λh=>?_)
    · refine eT h0 h λx hx=>aU _ (LD x) λb hb=>?_
      repeat' with_reducible first | refine bE ?_ | refine dU ?_ | apply aF | apply bF | apply dY | apply dN | apply dV | apply dZ | apply d9 | apply dO | apply dW | apply dS | refine aI (λ_=>?_) λ_=>?_ | refine dJ (λ_=>?_) λ_=>?_ | apply dB | apply bW | apply cZ | apply bJ | apply aD
      · exact λk=>nomatch k
      · rename_i k
        refine cK ⟨⟨by omega,by omega,λhh=>h2 λy hy=>?_⟩,by omega⟩
        rw [(drop_at hx).2] at hy
        rcases List.mem_cons.1 hy with rfl | hy
        · exact hb.1 k
        · exact hh y (by rw [show (i+1).toNat=i.toNat+1 by omega];exact hy)
    · refine bJ (cK (h2 λx hx=>?_))
      rw [List.drop_eq_nil_of_le (by omega)] at hx;cases hx
  · subst e
    have hk:∀ x∈l,iP x:=hr
    refine aU (λ(r:List Int⊕(List aN×Int))=>match r with | .inl h=>h.length=17/\(∀ y∈h,bQ y)/\∀ a:Nat,a<17->h.getD a 0=eP l a | .inr r=>r.2≠0)
      (fJ (λ(v:Int×List Int)=>0<=v.1/\v.1<=(l.length:Int)/\v.2.length=17/\(∀ y∈v.2,bQ y)/\∀ a:Nat,a<17->v.2.getD a 0+eP (l.drop v.1.toNat) a=eP l a) (λ(v:Int×List Int)=>l.length-v.1.toNat) ?_ (v:=(0,List.replicate 17 0)) ?_ (by simp;omega)) λr hr=>iZ (λh e=>?_) λb e=>?_
    · rintro ⟨i,hv⟩ ⟨h0,h1,h2,h3,h4⟩
      simp only at h0 h1 h2 h3 h4
      refine bF (aF (aI (λh=>?_) λh=>?_))
      · refine eT h0 h λx hx=>?_
        have hx:l[i.toNat]?=some x:=hx
        obtain ⟨g1,g2⟩:=hk x (fE hx)
        refine iR g1 (eT g1.1 (by rw [h2];exact g1.2) λc hc=>eT h0 h λx' hx'=>?_)
        have hx':l[i.toNat]?=some x':=hx'
        rw [hx] at hx';cases hx'
        repeat' with_reducible first | refine bE ?_ | refine dU ?_ | apply aF | apply bF | apply dY | apply dN | apply dV | apply dZ | apply d9 | apply dO | apply dW | apply dS | refine aI (λ_=>?_) λ_=>?_ | refine dJ (λ_=>?_) λ_=>?_ | apply dB | apply bW | apply cZ | apply bJ | apply aD
        · rename_i k;exact k
        · rename_i k
          refine eT h0 h λx' hx'=>?_
          have hx':l[i.toNat]?=some x':=hx'
          rw [hx] at hx';cases hx'
          refine iR g1 (eT g1.1 (by rw [h2];exact g1.2) λc' hc'=>aF (bE (cK ⟨⟨by simp only;omega,by simp only;omega,by simp only [List.length_set];exact h2,?_,?_⟩,by simp only;omega⟩)))
          · have hin:bQ c/\bQ x.bM/\bQ (c+x.bM):=by
              by_cases hh:bQ c/\bQ x.bM/\bQ (c+x.bM)
              · exact hh
              · rw [wG hh] at k;exact absurd k (by decide)
            rw [o8 hin]
            intro y hy
            rcases mem_set hy with rfl | hy
            · exact hin.2.2
            · exact h3 y hy
          · have hin:bQ c/\bQ x.bM/\bQ (c+x.bM):=by
              by_cases hh:bQ c/\bQ x.bM/\bQ (c+x.bM)
              · exact hh
              · rw [wG hh] at k;exact absurd k (by decide)
            rw [o8 hin]
            intro a ha
            have h5:=h4 a ha
            have e1:eP (l.drop i.toNat) a=(if x.dI=(a:Int) then x.bM else 0)+eP (l.drop (i.toNat+1)) a:=tT _ hx
            show (hv.set x.dI.toNat (c+x.bM)).getD a 0+eP (l.drop (i+1).toNat) a=eP l a
            rw [KG (by omega),show (i+1).toNat=i.toNat+1 by omega]
            by_cases hA:x.dI.toNat=a
            · rw [if_pos hA];rw [if_pos (by omega)] at e1
              have:hv.getD a 0=c:=getD_at (by rw [<- hA];exact hc)
              omega
            · rw [if_neg hA];rw [if_neg (by omega)] at e1;omega
      · refine bJ (cK ⟨h2,h3,λa ha=>?_⟩)
        have h5:=h4 a ha
        rw [List.drop_eq_nil_of_le (by omega)] at h5
        simp only [eP,eD,Int.add_zero] at h5;exact h5
    · refine ⟨by simp,by simp,by simp,?_,?_⟩
      · intro y hy;rw [List.eq_of_mem_replicate hy];decide
      · intro a ha
        show (List.replicate 17 (0:Int)).getD a 0+eP (l.drop 0) a=eP l a
        have:(List.replicate 17 (0:Int)).getD a 0=0:=by
          rw [List.getD_eq_getElem?_getD,List.getElem?_replicate];split <;> rfl
        rw [this,Int.zero_add];rfl
    · subst e
      obtain ⟨q1,q2,q3⟩:=hr
      refine aU (λ(m:List aN)=>(∀ x∈m,iP x)/\m.length<=17/\∀ a:Nat,a<17->eP m a=h.getD a 0)
        (fJ (λ(v:Int×List aN)=>0<=v.1/\v.1<=17/\(∀ x∈v.2,iP x)/\(v.2.length:Int)<=v.1/\∀ a:Nat,eP v.2 a=if (a:Int)<v.1 then h.getD a 0 else 0) (λ(v:Int×List aN)=>17-v.1.toNat) ?_ (v:=(0,[])) ?_ (by simp;omega)) λm hm=>aD λ_=>?_
      · rintro ⟨i,m⟩ ⟨h0,h1,h2,h3,h4⟩
        simp only at h0 h1 h2 h3 h4
        refine bF (aF (aI (λk=>?_) λk=>?_))
        · refine aU (λ(m':List aN)=>(∀ x∈m',iP x)/\(m'.length:Int)<=i+1/\∀ a:Nat,eP m' a=if (a:Int)<i+1 then h.getD a 0 else 0) ?_ λm' hm'=>bE (cK ⟨⟨by simp only;omega,by simp only;omega,hm'.1,hm'.2.1,hm'.2.2⟩,by simp only;omega⟩)
          refine iR ⟨h0,k⟩ (eT h0 (by rw [q1];exact k) λc hc=>?_)
          have hc:h[i.toNat]?=some c:=hc
          refine aF (aI (λk2=>iR ⟨h0,k⟩ (aF (dM (aD ?_)))) λk2=>aD ?_)
          · refine ⟨λx hx=>?_,by simp;omega,λa=>?_⟩
            · rcases List.mem_append.1 hx with hx | hx
              · exact h2 x hx
              · rw [List.mem_singleton] at hx;subst hx;exact ⟨⟨h0,k⟩,q2 c (fE hc)⟩
            · have e1:eP (m++[⟨i,c⟩]) a=eP m a+eP [⟨i,c⟩] a:=vV _ _ _
              rw [e1,h4 a]
              simp only [eP,eD,Int.add_zero]
              by_cases hA:i=(a:Int)
              · rw [if_pos hA,if_neg (by omega),if_pos (by omega),Int.zero_add]
                exact (getD_at (by rw [<- hc];congr 1;omega)).symm
              · rw [if_neg hA,Int.add_zero]
                by_cases hB:(a:Int)<i
                · rw [if_pos hB,if_pos (by omega)]
                · rw [if_neg hB,if_neg (by omega)]
          · refine ⟨h2,by (try simp only at *);omega,λa=>?_⟩
            rw [h4 a]
            by_cases hA:i=(a:Int)
            · rw [if_neg (by omega),if_pos (by omega)]
              have:h.getD a 0=c:=getD_at (by rw [<- hc];congr 1;omega)
              rw [this];have:c=0:=by simpa using k2
              exact this.symm
            · by_cases hB:(a:Int)<i
              · rw [if_pos hB,if_pos (by omega)]
              · rw [if_neg hB,if_neg (by omega)]
        · refine bJ (aD ⟨h2,by (try simp only at *);omega,λa ha=>?_⟩)
          rw [h4 a,if_pos (by omega)]
      · refine ⟨by simp,by simp,(λx hx=>nomatch hx),by simp,λa=>?_⟩
        show (0:Int)=_
        rw [if_neg (by simp)]
      · exact ⟨hm.1,hm.2.1,λa ha=>by rw [hm.2.2 a ha,q3 a ha]⟩
    · subst e;exact λk=>absurd k hr
  · subst e;exact λk=>absurd k hr
theorem aV7 {l:List aN} {n:Nat} (hn:66<n) (hl:l.length<=60):Ex (λr=>r=true->uR l=0) (A9 n l):=by
  unfold A9 NL
  simp only [WT.run,bS]
  refine aU (λ(r:List Int⊕Bool)=>match r with | .inl m=>m=l.map (λx=>x.bM) | .inr b=>b=false)
    (fJ (λ(v:Int×List Int)=>0<=v.1/\v.1<=(l.length:Int)/\(v.2.length:Int)<=v.1/\v.2++(l.drop v.1.toNat).map (λx=>x.bM)=l.map (λx=>x.bM)) (λ(v:Int×List Int)=>l.length-v.1.toNat) ?_ (v:=(0,[])) (by simp) (by simp;omega)) λr hr=>iZ (λm e=>?_) λb e=>?_
  · rintro ⟨i,m⟩ ⟨h0,h1,h2,h3⟩
    simp only at h0 h1 h2 h3
    refine bF (aF (aI (λh=>?_) λh=>?_))
    · refine aU (λ_=>True) (eT h0 h λx hx=>aU _ (LD x) λb hb=>?_) λb _=>fB (λ_=>bJ (bJ (aD rfl))) λ_=>?_
      · repeat' with_reducible first | refine bE ?_ | refine dU ?_ | apply aF | apply bF | apply dY | apply dN | apply dV | apply dZ | apply d9 | apply dO | apply dW | apply dS | refine aI (λ_=>?_) λ_=>?_ | refine dJ (λ_=>?_) λ_=>?_ | apply dB | apply bW | apply cZ | apply bJ | apply aD
        · trivial
        · exact eT h0 h λx hx=>aF (aD trivial)
      · refine eT h0 h λx hx=>aF (dM (bE (cK ⟨⟨by simp only;omega,by simp only;omega,by simp;omega,?_⟩,by simp only;omega⟩)))
        show (m++[x.bM])++(l.drop (i+1).toNat).map (λx=>x.bM)=_
        rw [<- h3,(drop_at hx).2,show (i+1).toNat=i.toNat+1 by omega]
        simp
    · refine bJ (cK ?_)
      rw [List.drop_eq_nil_of_le (by omega)] at h3
      simpa using h3
  · subst e
    have hm:m=l.map (λx=>x.bM):=hr
    subst hm
    refine x_eq (tF (by simp;omega) (by simp;omega)) ?_
    repeat' with_reducible first | refine bE ?_ | refine dU ?_ | apply aF | apply bF | apply dY | apply dN | apply dV | apply dZ | apply d9 | apply dO | apply dW | apply dS | refine aI (λ_=>?_) λ_=>?_ | refine dJ (λ_=>?_) λ_=>?_ | apply dB | apply bW | apply cZ | apply bJ | apply aD
    all_goals try (intro k;cases k;done)
    rename_i k1 k2 k3
    intro k4
    have k4:=of_decide_eq_true k4
    have hs:=aCH k3
    rw [hs.1] at k4
    have e:dA (l.map (λx=>x.bM))=uR l:=aKW _ _ _
    rw [<- e];exact k4
  · subst e
    have hb:b=false:=hr
    subst hb;exact λk=>nomatch k
def MQ (gH:List Int) (l:List aN) (b:List Int):Prop:=b.length=17/\(∀ y∈b,bQ y)/\(∀ a:Nat,a<17->b.getD a 0=gH.getD a 0+eP l a)/\dA b=dA gH
theorem aHW {gH:List Int} {l:List aN} {n:Nat} (hn:66<n) (hl:l.length<=60) (hb:gH.length=17) (hm:∀ y∈gH,bQ y):Ex (λr=>r.2=0->MQ gH l r.1) (zH n gH l):=by
  unfold zH QZ
  simp only [WT.run,bS,wS,Option.bind_some]
  refine aF (aI (λk=>absurd (show (gH.length:Int)=17 by omega) k) λ_=>dM (aU _ (YL hn hl) λm hP=>?_))
  refine aU (λ(b:Bool)=>b=false->m.2=0/\uR m.1=0) ?_ λb hb2=>fB (λ_=>aD (λk=>nomatch k)) λkb=>?_
  · refine aF (aI (λ_=>aD (λk=>nomatch k)) λk1=>?_)
    have k1:m.2=0:=by simpa using k1
    obtain ⟨p1,p2,p3⟩:=hP k1
    refine aF (aI (λk2=>aU _ (aV7 hn (by omega)) λb hb=>aF (aD λk=>⟨k1,hb (by simpa using k)⟩)) λk2=>aD λ_=>⟨k1,?_⟩)
    have:m.1=[]:=List.eq_nil_of_length_eq_zero (by omega)
    rw [this];rfl
  · obtain ⟨z1,z2⟩:=hb2 kb
    obtain ⟨p1,p2,p3⟩:=hP z1
    refine dM (aU (λ(r:List Int⊕(List Int×Int))=>match r with | .inl c=>MQ gH l c | .inr r=>r.2≠0)
      (fJ (λ(v:Int×List Int)=>0<=v.1/\v.1<=(m.1.length:Int)/\v.2.length=17/\(∀ y∈v.2,bQ y)/\(∀ a:Nat,a<17->v.2.getD a 0+eP (m.1.drop v.1.toNat) a=gH.getD a 0+eP m.1 a)/\dA v.2+uR (m.1.drop v.1.toNat)=dA gH+uR m.1) (λ(v:Int×List Int)=>m.1.length-v.1.toNat) ?_ (v:=(0,gH)) ⟨by simp,by simp,hb,hm,λa ha=>rfl,rfl⟩ (by simp;omega)) λr hr=>iZ (λc e=>aD λ_=>?_) λb e=>?_)
    · rintro ⟨i,c⟩ ⟨h0,h1,h2,h3,h4,h5⟩
      simp only at h0 h1 h2 h3 h4 h5
      refine bF (aF (aI (λh=>?_) λh=>?_))
      · refine eT h0 h λx hx=>?_
        have hx:m.1[i.toNat]?=some x:=hx
        obtain ⟨g1,g2⟩:=p1 x (fE hx)
        refine eT g1.1 (by rw [h2];exact g1.2) λv hv=>eT h0 h λx' hx'=>?_
        have hx':m.1[i.toNat]?=some x':=hx'
        rw [hx] at hx';cases hx'
        repeat' with_reducible first | refine bE ?_ | refine dU ?_ | apply aF | apply bF | apply dY | apply dN | apply dV | apply dZ | apply d9 | apply dO | apply dW | apply dS | refine aI (λ_=>?_) λ_=>?_ | refine dJ (λ_=>?_) λ_=>?_ | apply dB | apply bW | apply cZ | apply bJ | apply aD
        · rename_i k;exact k
        · rename_i k
          refine eT h0 h λx' hx'=>?_
          have hx':m.1[i.toNat]?=some x':=hx'
          rw [hx] at hx';cases hx'
          have hin:bQ v/\bQ x.bM/\bQ (v+x.bM):=by
            by_cases hh:bQ v/\bQ x.bM/\bQ (v+x.bM)
            · exact hh
            · rw [wG hh] at k;exact absurd k (by decide)
          rw [o8 hin]
          have hv:c[x.dI.toNat]?=some v:=hv
          have e2:(i+1).toNat=i.toNat+1:=by omega
          refine eT g1.1 (by rw [h2];exact g1.2) λv' hv'=>aF (bE (cK ⟨⟨by simp only;omega,by simp only;omega,by simp only [List.length_set];exact h2,?_,?_,?_⟩,by simp only;omega⟩))
          · intro y hy
            rcases mem_set hy with rfl | hy
            · exact hin.2.2
            · exact h3 y hy
          · intro a ha
            have h6:=h4 a ha
            have e1:eP (m.1.drop i.toNat) a=(if x.dI=(a:Int) then x.bM else 0)+eP (m.1.drop (i.toNat+1)) a:=tT _ hx
            show (c.set x.dI.toNat (v+x.bM)).getD a 0+eP (m.1.drop (i+1).toNat) a=_
            rw [KG (by omega),e2]
            by_cases hA:x.dI.toNat=a
            · rw [if_pos hA];rw [if_pos (by omega)] at e1
              have:c.getD a 0=v:=getD_at (by rw [<- hA];exact hv)
              omega
            · rw [if_neg hA];rw [if_neg (by omega)] at e1;omega
          · have e1:uR (m.1.drop i.toNat)=x.bM+uR (m.1.drop (i.toNat+1)):=tT _ hx
            have e3:dA (c.set x.dI.toNat (v+x.bM))=dA c-v+(v+x.bM):=rW _ hv
            show dA (c.set x.dI.toNat (v+x.bM))+uR (m.1.drop (i+1).toNat)=_
            rw [e3,e2];omega
      · refine bJ (cK ⟨h2,h3,λa ha=>?_,?_⟩)
        · have h6:=h4 a ha
          rw [List.drop_eq_nil_of_le (by omega)] at h6
          have:eP [] (a:Int)=0:=rfl
          have:=p3 a ha
          (try simp only at *);omega
        · rw [List.drop_eq_nil_of_le (by omega)] at h5
          have:uR []=0:=rfl
          (try simp only at *);omega
    · subst e;exact hr
    · subst e;exact λk=>absurd k hr
structure S0 (s:aA):Prop where
  jW:pM s.bH
  len:(s.bD.length:Int)=s.bH.gG
structure SS (s:aA):Prop extends S0 s where
  es:∀ (e:Nat) x bL,s.bD[e]?=some x->s.bH.Methods[e]?=some bL->ES s.bH.bZ.length bL s.bH.gQ x
theorem Inv.ss {K:Int} {s:aA} (h:Inv K s):SS s:=⟨⟨h.jW,h.len⟩,λe x bL hx hm=>by rcases h.ent e x bL hx hm with h | ⟨y,h⟩;exact h.es;exact h.es⟩
theorem SS.bL {s:aA} (h:SS s) {e:Nat} {x:aQ} (hx:s.bD[e]?=some x):∃ bL,s.bH.Methods[e]?=some bL/\bL.length=s.bH.bZ.length/\(∀ x∈bL,1<=x/\x<=4)/\ES s.bH.bZ.length bL s.bH.gQ x:=by
  have h1:=h.len;have h2:=h.jW.lm
  have he:e<s.bD.length:=(List.getElem?_eq_some_iff.1 hx).1
  have h3:e<s.bH.Methods.length:=by omega
  have e1:=List.getElem?_eq_getElem h3
  exact ⟨_,e1,(h.jW.met _ (fE e1)).1,(h.jW.met _ (fE e1)).2,h.es e x _ hx e1⟩
theorem SS.up {s:aA} (h:SS s) {e:Nat} {x x':aQ} (hx:s.bD[e]?=some x) (hs:∀ bL,s.bH.Methods[e]?=some bL->ES s.bH.bZ.length bL s.bH.gQ x'):SS (lM s e x'):=by
  have hk:e<s.bD.length:=(List.getElem?_eq_some_iff.1 hx).1
  refine ⟨⟨h.jW,by show ((s.bD.set e x').length:Int)=_;rw [List.length_set];exact h.len⟩,?_⟩
  intro f y ms hy hms
  have hy:(s.bD.set e x')[f]?=some y:=hy
  rw [mK hk] at hy
  by_cases hf:e=f
  · subst hf;rw [if_pos rfl] at hy;cases hy;exact hs ms hms
  · rw [if_neg hf] at hy;exact h.es f y ms hy hms
theorem qF (a b:Int):jO a b=some (decide (0<=a/\a<=b)):=by
  refine fH ?_
  unfold jO Y5
  simp only [WT.run,bS]
  repeat' with_reducible first | refine bE ?_ | refine dU ?_ | apply aF | apply bF | apply dY | apply dN | apply dV | apply dZ | apply d9 | apply dO | apply dW | apply dS | refine aI (λ_=>?_) λ_=>?_ | refine dJ (λ_=>?_) λ_=>?_ | apply dB | apply bW | apply cZ | apply bJ | apply aD
  · simp;omega
  · simp;omega
def gY (s:aA) (e i:Int):Prop:=(0<=e/\e<(s.bD.length:Int))/\(0<=i/\i<(s.bH.bZ.length:Int))
instance (s:aA) (e i:Int):Decidable (gY s e i):=inferInstanceAs (Decidable (_/\_))
theorem S0.iC {s:aA} (h:S0 s):s.bD.length<=4/\1<=s.bD.length/\s.bH.bZ.length<=5:=by
  have:=h.len;have:=h.jW.vL;have:=h.jW.n1;omega
theorem sD {s:aA} (h:S0 s) (e i:Int):vH s e i=some (decide (gY s e i)):=by
  have:=h.iC
  refine fH ?_
  unfold vH aE9
  simp only [WT.run,bS,qF,Option.bind_some]
  repeat' with_reducible first | refine bE ?_ | refine dU ?_ | apply aF | apply bF | apply dY | apply dN | apply dV | apply dZ | apply d9 | apply dO | apply dW | apply dS | refine aI (λ_=>?_) λ_=>?_ | refine dJ (λ_=>?_) λ_=>?_ | apply dB | apply bW | apply cZ | apply bJ | apply aD
  · exact decide_eq_decide.2 (by unfold gY;omega)
  · exact (decide_eq_false (by unfold gY;omega)).symm
theorem gY.at {s:aA} {e i:Int} (h:gY s e i):∃ x,s.bD[e.toNat]?=some x:=by
  have:=h.1
  exact ⟨_,List.getElem?_eq_getElem (by omega)⟩
structure nT (s:aA) (e i c:Int) (x:aQ) (m k:Int) (p q:aH):Prop where
  th:gY s e i
  lc:0<=c/\c<=1
  en:s.bD[e.toNat]?=some x
  ms:∃ bL,s.bH.Methods[e.toNat]?=some bL/\bL[i.toNat]?=some m
  cs:∃ cs,s.bH.gL[e.toNat]?=some cs/\cs[i.toNat]?=some k
  kk:0<=k/\k<=1073741824
  pp:x.bX[2*i.toNat+c.toNat]?=some p
  qq:x.bX[2*i.toNat+(1-c.toNat)]?=some q
  io:IO m p q
  es:∀ bL,s.bH.Methods[e.toNat]?=some bL->bL[i.toNat]?=some m/\ES s.bH.bZ.length bL s.bH.gQ x
theorem SS.spot {s:aA} (h:SS s) {e i c:Int} (ht:gY s e i) (hc:0<=c/\c<=1):∃ x m k p q,nT s e i c x m k p q:=by
  obtain ⟨x,hx⟩:=ht.at
  obtain ⟨bL,hm,hl,h4,hes⟩:=h.bL hx
  have h1:=h.len;have h2:=h.jW.lc;have ht1:=ht.1;have ht2:=ht.2
  have h3:e.toNat<s.bH.gL.length:=by omega
  have e1:=List.getElem?_eq_getElem h3
  have hcs:=h.jW.cos _ (fE e1)
  have h5:i.toNat<(s.bH.gL[e.toNat]).length:=by rw [hcs.1];omega
  have e2:=List.getElem?_eq_getElem h5
  obtain ⟨m,p,q,hm2,hp,hq,hio⟩:=hes.at (i:=i.toNat) (c:=c.toNat) (by omega) (by omega)
  exact ⟨x,m,_,p,q,⟨ht,hc,hx,⟨bL,hm,hm2⟩,⟨_,e1,e2⟩,hcs.2 _ (fE e2),hp,hq,hio,λmts' hm'=>by rw [hm] at hm';cases hm';exact ⟨hm2,hes⟩⟩⟩
theorem pX {s:aA} (h:S0 s) {e i c:Int} {x:aQ} {p:aH} (ht:gY s e i) (hc:0<=c/\c<=1) (hx:s.bD[e.toNat]?=some x) (hp:x.bX[2*i.toNat+c.toNat]?=some p):pP s e i c=some p:=by
  have hf:=h.iC
  obtain ⟨t1,t2⟩:=ht
  have hl:2*i.toNat+c.toNat<x.bX.length:=(List.getElem?_eq_some_iff.1 hp).1
  have ei:(i*2+c).toNat=2*i.toNat+c.toNat:=by omega
  refine fH ?_
  unfold pP aCP
  simp only [WT.run,bS,qF,sD h,Option.bind_some]
  rw [decide_eq_true (p:=gY s e i) ⟨t1,t2⟩,decide_eq_true (p:=0<=c/\c<=1) hc]
  refine aU (λb=>b=false) (aF (bW (aF (bW (bE (bE (dD t1.1 hx (aF (aD ?_))))))))) λb hb=>?_
  · exact decide_eq_false (by omega)
  · subst hb
    exact bW (dD t1.1 hx (bE (bE (dD (by omega) (by rw [ei];exact hp) (aD rfl)))))
theorem ES.iC {n:Nat} {bL:List Int} {iN:Int} {x:aQ} (h:ES n bL iN x) (hn:n<=5):x.bX.length<=10/\x.dQ.length<=5/\x.dR.length=17/\x.gI.length<=5/\x.Down.length<=5:=by
  have:=h.lp;have:=h.lr;have:=h.lb;have:=h.lc;have:=h.ld;omega
theorem nT.es' {s:aA} {e i c m k:Int} {x:aQ} {p q:aH} (h:nT s e i c x m k p q):∃ bL,s.bH.Methods[e.toNat]?=some bL/\bL[i.toNat]?=some m/\ES s.bH.bZ.length bL s.bH.gQ x:=by
  obtain ⟨bL,h1,h2⟩:=h.ms
  exact ⟨bL,h1,h2,(h.es bL h1).2⟩
theorem xK {s:aA} (h:SS s) {e i c m k:Int} {x:aQ} {p q p':aH} (hs:nT s e i c x m k p q):uE s e i c p'=some (lM s e.toNat { x with bX:=x.bX.set (2*i.toNat+c.toNat) p' }):=by
  have hf:=h.toS0.iC
  obtain ⟨t1,t2⟩:=hs.th
  obtain ⟨bL,m1,m2,hes⟩:=hs.es'
  have hl:=hes.iC hf.2.2
  have hc:=hs.lc
  have ei:(i*2+c).toNat=2*i.toNat+c.toNat:=by omega
  refine fH ?_
  unfold uE aBZ
  simp only [WT.run,bS]
  repeat' with_reducible first | refine bE ?_ | refine dU ?_ | apply aF | apply bF | apply dY | apply dN | apply dV | apply dZ | apply d9 | apply dO | apply dW | apply dS | refine aI (λ_=>?_) λ_=>?_ | refine dJ (λ_=>?_) λ_=>?_ | apply dB | apply bW | apply cZ | apply bJ | apply aD | refine dM ?_
  refine dD t1.1 hs.en ?_
  repeat' with_reducible first | refine bE ?_ | refine dU ?_ | apply aF | apply bF | apply dY | apply dN | apply dV | apply dZ | apply d9 | apply dO | apply dW | apply dS | refine aI (λ_=>?_) λ_=>?_ | refine dJ (λ_=>?_) λ_=>?_ | apply dB | apply bW | apply cZ | apply bJ | apply aD | refine dM ?_
  refine dD t1.1 hs.en (bE (bE (dD (by omega) (by rw [ei];exact hs.pp) (aF (aD ?_)))))
  rw [ei];rfl
end Go.Pv
