import Derived.Test.YtcnbfkppbaenbaaGreatL70
set_option linter.unusedVariables false
set_option linter.unusedSimpArgs false
namespace Go.Pv
open Go.Proofs
set_option maxRecDepth 100000
set_option maxHeartbeats 1000000
theorem wO (a b:Int):(bQ a->bQ b->bQ (a+b)->gM [a,b]=(a+b,0))/\((gM [a,b]).2=0->bQ a/\bQ b/\bQ (a+b))/\0<=(gM [a,b]).2:=by
  unfold gM
  by_cases h1:bQ a
  · by_cases h2:bQ b/\bQ (a+b)
    · have e:iD 0 [a,b]=some (a+b):=by
        rw [iD,if_pos ⟨by decide,h1,by rw [Int.zero_add];exact h1⟩,iD,if_pos ⟨by rw [Int.zero_add];exact h1,h2.1,by rw [Int.zero_add];exact h2.2⟩,iD,Int.zero_add]
      rw [e];exact ⟨λ_ _ _=>rfl,λ_=>⟨h1,h2.1,h2.2⟩,Int.le_refl 0⟩
    · have e:iD 0 [a,b]=none:=by
        rw [iD,if_pos ⟨by decide,h1,by rw [Int.zero_add];exact h1⟩,iD,if_neg (by rw [Int.zero_add];exact λk=>h2 k.2)]
      rw [e];exact ⟨λ_ k1 k2=>absurd ⟨k1,k2⟩ h2,λk=>absurd k (by decide),by decide⟩
  · have e:iD 0 [a,b]=none:=by rw [iD,if_neg (λk=>h1 k.2.1)]
    rw [e];exact ⟨λk=>absurd k h1,λk=>absurd k (by decide),by decide⟩
theorem aFZ {s:aA} {n:Nat} (hn:66<n) (h:S0 s) {e i:Int} {x:aQ} {p q:aH} (ht:gY s e i) (hx:s.bD[e.toNat]?=some x) (hp:x.bX[2*i.toNat]?=some p) (hq:x.bX[2*i.toNat+1]?=some q) (lp:LR p.aW) (lq:LR q.aW) :
    Ex (λr=>r.1=⟨(gM [tQ p.aW,tQ q.aW]).1,(gM [tV p.aW,tV q.aW]).1,(gM [tP p.aW,tP q.aW]).1⟩/\(r.2=0↔(gM [tQ p.aW,tQ q.aW]).2=0/\(gM [tV p.aW,tV q.aW]).2=0/\(gM [tP p.aW,tP q.aW]).2=0)) (A8 n s e i):=by
  have a0:=pX (c:=0) h ht (by omega) hx hp
  have a1:=pX (c:=1) h ht (by omega) hx hq
  obtain ⟨m,rfl⟩:∃ m,n=m+3:=⟨n-3,by omega⟩
  unfold A8 XE
  simp only [WT.run,bS]
  refine aU (λr=>r=([tQ p.aW,tQ q.aW],[tV p.aW,tV q.aW],[tP p.aW,tP q.aW])) ?_ λr hr=>?_
  · show Ex _ (iter _ (m+2+1) _)
    refine aU (λr=>r=.inl (1,[tQ p.aW],[tV p.aW],[tP p.aW])) ?_ λr hr=>?_
    · refine bF (bF (bF (aF (aI (λ_=>?_) λk=>absurd (show (0:Int)<2 by decide) k))))
      refine x_eq a0 (x_eq (xJ hn lp) ?_)
      repeat' with_reducible first | refine bE ?_ | refine dU ?_ | apply aF | apply bF | apply dY | apply dN | apply dV | apply dZ | apply d9 | apply dO | apply dW | apply dS | refine aI (λ_=>?_) λ_=>?_ | refine dJ (λ_=>?_) λ_=>?_ | apply dB | apply bW | apply cZ | apply bJ | apply aD
      refine iR (by simp) ?_
      repeat' with_reducible first | refine bE ?_ | refine dU ?_ | apply aF | apply bF | apply dY | apply dN | apply dV | apply dZ | apply d9 | apply dO | apply dW | apply dS | refine aI (λ_=>?_) λ_=>?_ | refine dJ (λ_=>?_) λ_=>?_ | apply dB | apply bW | apply cZ | apply bJ | apply aD
      refine iR (by simp) ?_
      repeat' with_reducible first | refine bE ?_ | refine dU ?_ | apply aF | apply bF | apply dY | apply dN | apply dV | apply dZ | apply d9 | apply dO | apply dW | apply dS | refine aI (λ_=>?_) λ_=>?_ | refine dJ (λ_=>?_) λ_=>?_ | apply dB | apply bW | apply cZ | apply bJ | apply aD
      refine iR (by simp) ?_
      exact bE (cK rfl)
    · subst hr
      refine cZ ?_
      show Ex _ (iter _ (m+1+1) _)
      refine aU (λr=>r=.inl (2,[tQ p.aW,tQ q.aW],[tV p.aW,tV q.aW],[tP p.aW,tP q.aW])) ?_ λr hr=>?_
      · refine bF (bF (bF (aF (aI (λ_=>?_) λk=>absurd (show (1:Int)<2 by decide) k))))
        refine x_eq a1 (x_eq (xJ hn lq) ?_)
        repeat' with_reducible first | refine bE ?_ | refine dU ?_ | apply aF | apply bF | apply dY | apply dN | apply dV | apply dZ | apply d9 | apply dO | apply dW | apply dS | refine aI (λ_=>?_) λ_=>?_ | refine dJ (λ_=>?_) λ_=>?_ | apply dB | apply bW | apply cZ | apply bJ | apply aD
        refine iR (by simp) ?_
        repeat' with_reducible first | refine bE ?_ | refine dU ?_ | apply aF | apply bF | apply dY | apply dN | apply dV | apply dZ | apply d9 | apply dO | apply dW | apply dS | refine aI (λ_=>?_) λ_=>?_ | refine dJ (λ_=>?_) λ_=>?_ | apply dB | apply bW | apply cZ | apply bJ | apply aD
        refine iR (by simp) ?_
        repeat' with_reducible first | refine bE ?_ | refine dU ?_ | apply aF | apply bF | apply dY | apply dN | apply dV | apply dZ | apply d9 | apply dO | apply dW | apply dS | refine aI (λ_=>?_) λ_=>?_ | refine dJ (λ_=>?_) λ_=>?_ | apply dB | apply bW | apply cZ | apply bJ | apply aD
        refine iR (by simp) ?_
        exact bE (cK rfl)
      · subst hr
        refine cZ ?_
        show Ex _ (iter _ (m+1) _)
        refine aU (λr=>r=.inr ([tQ p.aW,tQ q.aW],[tV p.aW,tV q.aW],[tP p.aW,tP q.aW])) ?_ λr hr=>?_
        · exact bF (bF (bF (aF (aI (λk=>absurd k (show ¬(2:Int)<2 by decide)) λk=>bJ (aD rfl)))))
        · subst hr;exact yK rfl
  · subst hr
    refine bF (bF ?_)
    refine x_eq (tF (l:=[tQ p.aW,tQ q.aW]) (by simp;omega) (by simp)) (x_eq (tF (l:=[tV p.aW,tV q.aW]) (by simp;omega) (by simp)) (x_eq (tF (l:=[tP p.aW,tP q.aW]) (by simp;omega) (by simp)) ?_))
    have b1:=(wO (tQ p.aW) (tQ q.aW)).2.2
    have b2:=(wO (tV p.aW) (tV q.aW)).2.2
    have b3:=(wO (tP p.aW) (tP q.aW)).2.2
    refine aF (aD ⟨rfl,?_⟩)
    show (if (gM [tP p.aW,tP q.aW]).2>(if (gM [tV p.aW,tV q.aW]).2>(gM [tQ p.aW,tQ q.aW]).2 then (gM [tV p.aW,tV q.aW]).2 else (gM [tQ p.aW,tQ q.aW]).2) then (gM [tP p.aW,tP q.aW]).2 else (if (gM [tV p.aW,tV q.aW]).2>(gM [tQ p.aW,tQ q.aW]).2 then (gM [tV p.aW,tV q.aW]).2 else (gM [tQ p.aW,tQ q.aW]).2))=0↔_
    repeat' split
    all_goals omega
theorem aNJ {s:aA} {n:Nat} (hn:66<n) (h:SS s) {e i m:Int} {x:aQ} {p q:aH} (ht:gY s e i) (hx:s.bD[e.toNat]?=some x) (hp:x.bX[2*i.toNat]?=some p) (hq:x.bX[2*i.toNat+1]?=some q) (io:IO m p q) (hv:tV p.aW+tV q.aW<=288230376151711744) :
    A8 n s e i=some (⟨tQ p.aW+tQ q.aW,tV p.aW+tV q.aW,tP p.aW+tP q.aW⟩,0):=by
  have b1:=gV io.pp.ly;have b2:=gV io.qq.ly
  have:=io.sq;have:=io.ss
  have e1:=(wO (tQ p.aW) (tQ q.aW)).1 (by unfold bQ;omega) (by unfold bQ;omega) (by unfold bQ;omega)
  have e2:=(wO (tV p.aW) (tV q.aW)).1 (by unfold bQ;omega) (by unfold bQ;omega) (by unfold bQ;omega)
  have e3:=(wO (tP p.aW) (tP q.aW)).1 (by unfold bQ;omega) (by unfold bQ;omega) (by unfold bQ;omega)
  refine fH (IN (aFZ hn h.toS0 ht hx hp hq io.pp.ly io.qq.ly) λr hr=>?_)
  rw [e1,e2,e3] at hr
  exact Prod.ext hr.1 (hr.2.2 ⟨rfl,rfl,rfl⟩)
theorem RZ {s:aA} {n:Nat} (hn:66<n) (h:SS s) {e i m:Int} {x:aQ} {p q:aH} (ht:gY s e i) (hx:s.bD[e.toNat]?=some x) (hp:x.bX[2*i.toNat]?=some p) (hq:x.bX[2*i.toNat+1]?=some q) (io:IO m p q) (hv:tV p.aW+tV q.aW<=288230376151711744) :
    wF n s e i=some ⟨tQ p.aW+tQ q.aW,tV p.aW+tV q.aW,tP p.aW+tP q.aW⟩:=by
  unfold wF YW
  simp only [WT.run,bS,aNJ hn h ht hx hp hq io hv,Option.bind_some]
def AB (s:aA) (e:Int) (l:List aN) (t:aA):Prop:=∃ x b,(0<=e/\e<(s.bD.length:Int))/\s.bD[e.toNat]?=some x/\MQ x.dR l b/\t=lM s e.toNat { x with dR:=b }
theorem nY {s:aA} {n:Nat} (hn:66<n) (h:SS s) {e:Int} {l:List aN} (hl:l.length<=60):Ex (λr=>(r.2=0/\AB s e l r.1)\/(r.2≠0/\r.1=s)) (kV n s e l):=by
  have hf:=h.toS0.iC
  unfold kV zU
  simp only [WT.run,bS,qF,Option.bind_some]
  repeat' with_reducible first | refine bE ?_ | refine dU ?_ | apply aF | apply bF | apply dY | apply dN | apply dV | apply dZ | apply d9 | apply dO | apply dW | apply dS | refine aI (λ_=>?_) λ_=>?_ | refine dJ (λ_=>?_) λ_=>?_ | apply dB | apply bW | apply cZ | apply bJ | apply aD
  · exact .inr ⟨(λk=>nomatch k),rfl⟩
  rename_i ht
  have ht:=of_decide_eq_true ht
  have he:0<=e/\e<(s.bD.length:Int):=by omega
  have hx:=List.getElem?_eq_getElem (l:=s.bD) (i:=e.toNat) (by omega)
  generalize s.bD[e.toNat]'(by omega)=x at hx
  obtain ⟨bL,hm,_,_,hes⟩:=h.bL hx
  have hl2:=hes.iC hf.2.2
  refine aU _ (YL hn hl) λm hP=>?_
  repeat' with_reducible first | refine bE ?_ | refine dU ?_ | apply aF | apply bF | apply dY | apply dN | apply dV | apply dZ | apply d9 | apply dO | apply dW | apply dS | refine aI (λ_=>?_) λ_=>?_ | refine dJ (λ_=>?_) λ_=>?_ | apply dB | apply bW | apply cZ | apply bJ | apply aD
  · rename_i k;exact .inr ⟨k,rfl⟩
  rename_i k
  have k:m.2=0:=by omega
  obtain ⟨p1,p2,p3⟩:=hP k
  refine dD he.1 hx (aU _ (aHW hn (by omega) hes.lb hes.gH) λb hb=>?_)
  repeat' with_reducible first | refine bE ?_ | refine dU ?_ | apply aF | apply bF | apply dY | apply dN | apply dV | apply dZ | apply d9 | apply dO | apply dW | apply dS | refine aI (λ_=>?_) λ_=>?_ | refine dJ (λ_=>?_) λ_=>?_ | apply dB | apply bW | apply cZ | apply bJ | apply aD | refine dM ?_
  · rename_i k;exact .inr ⟨k,rfl⟩
  rename_i k2
  have k2:b.2=0:=by omega
  obtain ⟨q1,q2,q3,q4⟩:=hb k2
  refine dD he.1 hx ?_
  repeat' with_reducible first | refine bE ?_ | refine dU ?_ | apply aF | apply bF | apply dY | apply dN | apply dV | apply dZ | apply d9 | apply dO | apply dW | apply dS | refine aI (λ_=>?_) λ_=>?_ | refine dJ (λ_=>?_) λ_=>?_ | apply dB | apply bW | apply cZ | apply bJ | apply aD | refine dM ?_
  refine dD he.1 hx (aD (.inl ⟨rfl,x,b.1,he,hx,⟨q1,q2,λa ha=>?_,q4⟩,rfl⟩))
  rw [q3 a ha,p3 a ha]
def GV (s:aA) (e i:Int) (r:cO) (t:aA):Prop:=∃ x r0,gY s e i/\s.bD[e.toNat]?=some x/\x.dQ[i.toNat]?=some r0/\wX (qU r0 r)/\t=lM s e.toNat { x with dQ:=x.dQ.set i.toNat (qU r0 r) }
theorem oI (a b:Int):(jI a b).2=0\/(jI a b).2=2:=by unfold jI;split <;> simp
def nH (a b:Int):Prop:=bQ a/\bQ b/\bQ (a+b)
theorem kQ {a b:Int}:(jI a b).2=0↔nH a b:=by
  by_cases h:bQ a/\bQ b/\bQ (a+b)
  · rw [o8 h];exact ⟨λ_=>h,λ_=>rfl⟩
  · rw [wG h];exact ⟨λq=>absurd q (by decide),λq=>absurd q h⟩
theorem pZ {a b:Int} (h:nH a b):(jI a b).1=a+b:=by rw [o8 h]
def lX (r:cO):List Int:=[r.Open,r.iW,r.jH,r.jG,r.iY,r.jF,r.jE,r.iX,r.jC,r.jD,r.jB]
def TA (a b:cO):Prop:=∀ j:Nat,j<11->nH ((lX a).getD j 0) ((lX b).getD j 0)
noncomputable def xL (s:aA) (e i:Int) (x:aQ) (r0 r:cO):aA×Int:=open Classical in if TA r0 r then (lM s e.toNat { x with dQ:=x.dQ.set i.toNat (qU r0 r) },0) else (s,2)
theorem aD9 {s:aA} {n:Nat} (hn:66<n) (h:SS s) {e i:Int} {x:aQ} {r0 r:cO} (ht:gY s e i) (hx:s.bD[e.toNat]?=some x) (hr0:x.dQ[i.toNat]?=some r0):nE n s e i r=some (xL s e i x r0 r):=by
  have hf:=h.toS0.iC
  refine fH ?_
  unfold nE IJ
  simp only [WT.run,bS,sD h.toS0,wS,Option.bind_some]
  rw [decide_eq_true ht]
  refine aF (bW ?_)
  have ht2:=ht.1;have ht3:=ht.2
  obtain ⟨bL,hm,_,_,hes⟩:=h.bL hx
  have hl2:=hes.iC hf.2.2
  have hlr:=hes.lr
  refine dD ht2.1 hx (dD ht3.1 hr0 ?_)
  refine x_eq (a:=(⟨r0.Open,r0.iW,r0.jH,r0.jG,r0.iY,r0.jF,r0.jE,r0.iX,r0.jC,r0.jD,r0.jB⟩:jQ)) rfl (x_eq (a:=(⟨r.Open,r.iW,r.jH,r.jG,r.iY,r.jF,r.jE,r.iX,r.jC,r.jD,r.jB⟩:jQ)) rfl ?_)
  have hlb:(lX r).length=11:=rfl
  refine aU (λ(q:List Int⊕(aA×Int))=>match q with
      | .inl l=>l.length=11/\∀ j:Nat,j<11->nH ((lX r0).getD j 0) ((lX r).getD j 0)/\l.getD j 0=(lX r0).getD j 0+(lX r).getD j 0
      | .inr q=>q=(s,2)/\¬ TA r0 r)
    (fJ (λ(v:Int×List Int)=>0<=v.1/\v.1<=11/\v.2.length=11/\∀ j:Nat,j<11->((j:Int)<v.1->nH ((lX r0).getD j 0) ((lX r).getD j 0)/\v.2.getD j 0=(lX r0).getD j 0+(lX r).getD j 0)/\(v.1<=j->v.2.getD j 0=(lX r0).getD j 0))
      (λv=>11-v.1.toNat) ?_ (v:=(0,lX r0)) ⟨by simp,by simp,rfl,λj hj=>⟨λq=>absurd q (by simp only;omega),λ_=>rfl⟩⟩ (by simp only;omega)) λq hq=>?_
  · rintro ⟨k,l⟩ ⟨h0,h1,h2,h3⟩
    simp only at h0 h1 h2 h3
    refine bF (aF (aI (λhk=>?_) λhk=>bJ (cK ⟨h2,λj hj=>(h3 j hj).1 (by simp only at hk;omega)⟩)))
    have hk:k<11:=hk
    refine iR (by first | omega | (simp only;omega)) (eT h0 (by first | omega | (simp only;omega)) λa ha=>iR (by first | omega | (simp only;omega)) (eT h0 (by show k<((lX r).length:Int);omega) λc hc=>?_))
    have d1:l.getD k.toNat 0=a:=getD_at ha
    have d2:(lX r).getD k.toNat 0=c:=getD_at hc
    obtain ⟨g1,g2⟩:=h3 k.toNat (by omega)
    have g2:=g2 (by omega)
    refine aF (aI (λk1=>bJ (bJ (aD ⟨congrArg (Prod.mk s) ((oI _ _).resolve_left k1),λt=>k1 (kQ.2 ?_)⟩))) λk1=>iR (by first | omega | (simp only;omega)) (aF (bE (cK ⟨⟨by first | omega | (simp only;omega),by first | omega | (simp only;omega),by simp only;rw [List.length_set];exact h2,λj hj=>?_⟩,by first | omega | (simp only;omega)⟩))))
    · have:=t k.toNat (by omega)
      rw [<- g2,d1,d2] at this;exact this
    have hin:=kQ.1 (Classical.not_not.1 k1)
    simp only
    rw [KG (by omega),pZ hin]
    by_cases hj2:k.toNat=j
    · rw [if_pos hj2]
      subst hj2
      rw [<- g2,d1,d2]
      exact ⟨λ_=>⟨hin,rfl⟩,λq=>absurd q (by omega)⟩
    · rw [if_neg hj2]
      exact ⟨λq=>(h3 j hj).1 (by omega),λq=>(h3 j hj).2 (by omega)⟩
  cases q with
  | inr q=>exact yK (by obtain ⟨q1,q2⟩:=hq;unfold xL;rw [if_neg q2];exact q1)
  | inl l =>
    obtain ⟨hq1,hq⟩:=hq
    refine cZ ?_
    have g:∀ j:Nat,j<11->l.getD j 0=(lX r0).getD j 0+(lX r).getD j 0:=λj hj=>(hq j hj).2
    have er:qU r0 r=⟨l.getD 0 0,l.getD 1 0,l.getD 2 0,l.getD 3 0,l.getD 4 0,l.getD 5 0,l.getD 6 0,l.getD 7 0,l.getD 8 0,l.getD 9 0,l.getD 10 0⟩:=by
      rw [g 0 (by decide),g 1 (by decide),g 2 (by decide),g 3 (by decide),g 4 (by decide),g 5 (by decide),g 6 (by decide),g 7 (by decide),g 8 (by decide),g 9 (by decide),g 10 (by decide)];rfl
    refine aU (λr=>r=(x.fU,x.Closed,x.fV,x.bX,x.dR,x.dQ,x.gI,x.Down)) (dM (dD ht2.1 hx (dM (dM (dM (dM (dM (aD rfl)))))))) λz hz=>?_
    subst hz
    refine bF (bF (bF (bF (bF (bF (bF (dD ht2.1 hx (iR hq1 (x_eq (a:=(⟨l.getD 0 0,l.getD 1 0,l.getD 2 0,l.getD 3 0,l.getD 4 0,l.getD 5 0,l.getD 6 0,l.getD 7 0,l.getD 8 0,l.getD 9 0,l.getD 10 0⟩:cO)) rfl (dD ht3.1 hr0 (aF (aD ?_))))))))))))
    have ta:TA r0 r:=λj hj=>(hq j hj).1
    unfold xL;rw [if_pos ta,er];rfl
theorem sU {s:aA} {n:Nat} (hn:66<n) (h:SS s) {e i:Int} {r:cO}:Ex (λq=>(q.2=0/\GV s e i r q.1)\/(q.2≠0/\q.1=s)) (nE n s e i r):=by
  have hf:=h.toS0.iC
  by_cases ht:gY s e i
  · obtain ⟨x,hx⟩:=ht.at
    have ht2:=ht.1;have ht3:=ht.2
    obtain ⟨bL,hm,_,_,hes⟩:=h.bL hx
    have hlr:=hes.lr
    have hr0:=List.getElem?_eq_getElem (l:=x.dQ) (i:=i.toNat) (by omega)
    generalize x.dQ[i.toNat]'(by omega)=r0 at hr0
    refine ⟨_,aD9 hn h ht hx hr0,?_⟩
    unfold xL
    split
    · rename_i ta
      have g:∀ j:Nat,j<11->bQ ((lX r0).getD j 0+(lX r).getD j 0):=λj hj=>(ta j hj).2.2
      exact .inl ⟨rfl,x,r0,ht,hx,hr0,⟨g 0 (by decide),g 1 (by decide),g 2 (by decide),g 3 (by decide),g 4 (by decide),g 5 (by decide),g 6 (by decide),g 7 (by decide),g 8 (by decide),g 9 (by decide),g 10 (by decide)⟩,rfl⟩
    · exact .inr ⟨by simp,rfl⟩
  · unfold nE IJ
    simp only [WT.run,bS,sD h.toS0,Option.bind_some]
    rw [decide_eq_false ht]
    exact aF (dB (aD (.inr ⟨by simp,rfl⟩)))
def qD (s:aA) (e i c:Int) (x:aQ) (p':aH):aA:=lM s e.toNat { x with bX:=x.bX.set (2*i.toNat+c.toNat) p' }
def GL (s:aA) (e i c:Int) (l:aB) (t:aA) (carried above:Int):Prop :=
  ∃ x m k p q p',nT s e i c x m k p q/\t=qD s e i c x p'/\IO m p' q/\Came m p p' l above/\carried=l.Value-above/\(-288230376151711744<=above/\above<=288230376151711744)
theorem nT.both {s:aA} {e i c m k:Int} {x:aQ} {p q:aH} (h:nT s e i c x m k p q):∃ a b,x.bX[2*i.toNat]?=some a/\x.bX[2*i.toNat+1]?=some b/\((c=0/\a=p/\b=q)\/(c=1/\a=q/\b=p)):=by
  have h1:=h.pp;have h2:=h.qq;have hc:=h.lc
  rcases (by omega:c=0\/c=1) with rfl | rfl
  · exact ⟨p,q,h1,h2,.inl ⟨rfl,rfl,rfl⟩⟩
  · exact ⟨q,p,h2,h1,.inr ⟨rfl,rfl,rfl⟩⟩
theorem nT.put {s:aA} {e i c m k:Int} {x:aQ} {p q p':aH} (h:nT s e i c x m k p q):(qD s e i c x p').bD[e.toNat]?=some { x with bX:=x.bX.set (2*i.toNat+c.toNat) p' } /\
    ∃ a b,(x.bX.set (2*i.toNat+c.toNat) p')[2*i.toNat]?=some a/\(x.bX.set (2*i.toNat+c.toNat) p')[2*i.toNat+1]?=some b/\((c=0/\a=p'/\b=q)\/(c=1/\a=q/\b=p')):=by
  have hk:2*i.toNat+c.toNat<x.bX.length:=(List.getElem?_eq_some_iff.1 h.pp).1
  have he:e.toNat<s.bD.length:=(List.getElem?_eq_some_iff.1 h.en).1
  refine ⟨QK he,?_⟩
  obtain ⟨a,b,h1,h2,h3⟩:=h.both
  rw [mK hk,mK hk]
  rcases h3 with ⟨rfl,rfl,rfl⟩ | ⟨rfl,rfl,rfl⟩
  · exact ⟨p',b,by rw [if_pos (by simp)],by rw [if_neg (by simp)];exact h2,.inl ⟨rfl,rfl,rfl⟩⟩
  · exact ⟨a,p',by rw [if_neg (by simp)];exact h1,by rw [if_pos (by simp)],.inr ⟨rfl,rfl,rfl⟩⟩
theorem nT.ss {s:aA} (hs:SS s) {e i c m k:Int} {x:aQ} {p q p':aH} (h:nT s e i c x m k p q) (hio:IO m p' q):SS (qD s e i c x p'):=by
  refine hs.up h.en λbL hm=>?_
  obtain ⟨h1,h2⟩:=h.es bL hm
  have ht:=h.th.2;have hc:=h.lc
  exact h2.put (by omega) (by omega) h1 h.qq hio
theorem DJ {s:aA} {n:Nat} (hn:66<n) (h:SS s) {e i c:Int} {l:aB} (hl:l.aG<=9223372036854775807) :
    Ex (λr=>(r.2.2.2=0/\GL s e i c l r.1 r.2.1 r.2.2.1)\/(r.2.2.2≠0/\r.1=s)) (wN n s e i c l):=by
  have hf:=h.toS0.iC
  unfold wN aAF
  simp only [WT.run,bS,sD h.toS0,qF,Option.bind_some]
  repeat' with_reducible first | refine bE ?_ | refine dU ?_ | apply aF | apply bF | apply dY | apply dN | apply dV | apply dZ | apply d9 | apply dO | apply dW | apply dS | refine aI (λ_=>?_) λ_=>?_ | refine dJ (λ_=>?_) λ_=>?_ | apply dB | apply bW | apply cZ | apply bJ | apply aD
  all_goals try exact Or.inr ⟨by simp,rfl⟩
  rename_i ht hc
  have ht:=of_decide_eq_true ht;have hc:=of_decide_eq_true hc
  obtain ⟨x,m,k,p,q,hs⟩:=h.spot ht hc
  obtain ⟨bL,m1,m2⟩:=hs.ms
  obtain ⟨cs,c1,c2⟩:=hs.cs
  refine dD ht.1.1 m1 (dD ht.2.1 m2 (dD ht.1.1 c1 (dD ht.2.1 c2 (x_eq (pX h.toS0 ht hc hs.en hs.pp) (aU _ (aP3 hn hs.io.pp hs.kk hl) λr hr=>?_)))))
  repeat' with_reducible first | refine bE ?_ | refine dU ?_ | apply aF | apply bF | apply dY | apply dN | apply dV | apply dZ | apply d9 | apply dO | apply dW | apply dS | refine aI (λ_=>?_) λ_=>?_ | refine dJ (λ_=>?_) λ_=>?_ | apply dB | apply bW | apply cZ | apply bJ | apply aD
  · rename_i k;exact .inr ⟨k,rfl⟩
  rename_i kz
  rcases hr with ⟨r1,r2,r3⟩ | ⟨r1,_⟩
  rotate_left
  · exact absurd r1 kz
  refine x_eq (xK h hs) ?_
  have hP:PR m r.1:=r2.1
  have hQ:=hs.io.qq
  obtain ⟨en2,a,b,pa,pb,hab⟩:=hs.put (p':=r.1)
  have h0:S0 (qD s e i c x r.1):=⟨h.jW,by show ((s.bD.set _ _).length:Int)=_;rw [List.length_set];exact h.len⟩
  have ht2:gY (qD s e i c x r.1) e i:=by
    refine ⟨⟨ht.1.1,?_⟩,ht.2⟩
    show e<((s.bD.set _ _).length:Int);rw [List.length_set];exact ht.1.2
  have la:LR a.aW/\LR b.aW/\tQ a.aW+tQ b.aW=tQ r.1.aW+tQ q.aW/\tV a.aW+tV b.aW=tV r.1.aW+tV q.aW/\tS a.aW+tS b.aW=tS r.1.aW+tS q.aW:=by
    rcases hab with ⟨_,rfl,rfl⟩ | ⟨_,rfl,rfl⟩
    · exact ⟨hP.ly,hQ.ly,rfl,rfl,rfl⟩
    · exact ⟨hQ.ly,hP.ly,Int.add_comm _ _,Int.add_comm _ _,Int.add_comm _ _⟩
  obtain ⟨l1,l2,l3,l4,l5⟩:=la
  have lb1:=gV l1;have lb2:=gV l2
  refine aU _ (aFZ hn h0 ht2 en2 pa pb l1 l2) λw hw=>?_
  repeat' with_reducible first | refine bE ?_ | refine dU ?_ | apply aF | apply bF | apply dY | apply dN | apply dV | apply dZ | apply d9 | apply dO | apply dW | apply dS | refine aI (λ_=>?_) λ_=>?_ | refine dJ (λ_=>?_) λ_=>?_ | apply dB | apply bW | apply cZ | apply bJ | apply aD
  · exact .inr ⟨(λk=>nomatch k),rfl⟩
  rename_i kw
  have kw:=hw.2.1 (by omega)
  have kq:=(wO _ _).2.1 kw.1
  have kv:=(wO _ _).2.1 kw.2.1
  have a0:=pX (c:=0) h0 ht2 (by omega) en2 pa
  have a1:=pX (c:=1) h0 ht2 (by omega) en2 pb
  refine aU (λr=>r=a.aW++b.aW) ?_ λy hy=>?_
  · obtain ⟨m',rfl⟩:∃ m',n=m'+3:=⟨n-3,by omega⟩
    show Ex _ (iter _ (m'+2+1) _)
    refine aU (λr=>r=.inl (1,a.aW)) ?_ λr hr=>?_
    · refine bF (aF (aI (λ_=>x_eq a0 ?_) λk=>absurd (show (0:Int)<2 by decide) k))
      repeat' with_reducible first | refine bE ?_ | refine dU ?_ | apply aF | apply bF | apply dY | apply dN | apply dV | apply dZ | apply d9 | apply dO | apply dW | apply dS | refine aI (λ_=>?_) λ_=>?_ | refine dJ (λ_=>?_) λ_=>?_ | apply dB | apply bW | apply cZ | apply bJ | apply aD
      refine dM ?_
      exact bE (cK rfl)
    · subst hr
      refine cZ ?_
      show Ex _ (iter _ (m'+1+1) _)
      refine aU (λr=>r=.inl (2,a.aW++b.aW)) ?_ λr hr=>?_
      · refine bF (aF (aI (λ_=>x_eq a1 ?_) λk=>absurd (show (1:Int)<2 by decide) k))
        repeat' with_reducible first | refine bE ?_ | refine dU ?_ | apply aF | apply bF | apply dY | apply dN | apply dV | apply dZ | apply d9 | apply dO | apply dW | apply dS | refine aI (λ_=>?_) λ_=>?_ | refine dJ (λ_=>?_) λ_=>?_ | apply dB | apply bW | apply cZ | apply bJ | apply aD
        refine dM ?_
        exact bE (cK rfl)
      · subst hr
        refine cZ ?_
        show Ex _ (iter _ (m'+1) _)
        refine aU (λr=>r=.inr (a.aW++b.aW)) ?_ λr hr=>?_
        · exact bF (aF (aI (λk=>absurd k (show ¬(2:Int)<2 by decide)) λk=>bJ (aD rfl)))
        · subst hr;exact yK rfl
  · subst hy
    obtain ⟨z1,z2,z3,z4⟩:=tK a.aW b.aW
    obtain ⟨r4,r5,r6,r7,r8,r9,G5⟩:=r2
    refine aU _ (VU (l:=a.aW++b.aW) (by simp;omega) (by simp;omega) λy hy=>?_) λw2 hw2=>?_
    · rcases List.mem_append.1 hy with hy | hy
      · exact l1.1 y hy
      · exact l2.1 y hy
    repeat' with_reducible first | refine bE ?_ | refine dU ?_ | apply aF | apply bF | apply dY | apply dN | apply dV | apply dZ | apply d9 | apply dO | apply dW | apply dS | refine aI (λ_=>?_) λ_=>?_ | refine dJ (λ_=>?_) λ_=>?_ | apply dB | apply bW | apply cZ | apply bJ | apply aD
    · exact .inr ⟨(λk=>nomatch k),rfl⟩
    rename_i k2
    have k3:=hw2.2 (by omega)
    unfold bQ at kq kv
    exact (.inl ⟨rfl,x,m,k,p,q,r.1,hs,rfl,⟨hP,hQ,by omega,by omega⟩,⟨r4,r5,r6,r7,r8,r9,G5⟩,rfl,r3⟩)
def JV (s:aA) (e i c k q:Int) (t:aA) (l:aB) (w:Bool):Prop :=
  ∃ x m o p p2 p',nT s e i c x m o p p2/\t=qD s e i c x p'/\IO m p' p2/\Gone m p p' l/\1<=q/\(w=false->l.aG=q)/\(w=true->l=⟨0,0,0⟩/\m=3/\k≠3)
theorem xQ {s:aA} {n:Nat} (hn:66<n) (h:SS s) {e i c k q:Int} (hq:-9223372036854775808<=q/\q<=9223372036854775807) :
    Ex (λr=>(r.2.2.2=0/\JV s e i c k q r.1 r.2.1 r.2.2.1)\/(r.2.2.2≠0/\r.1=s)) (oM n s e i c k q):=by
  have hf:=h.toS0.iC
  unfold oM IR
  simp only [WT.run,bS,sD h.toS0,qF,Option.bind_some]
  repeat' with_reducible first | refine bE ?_ | refine dU ?_ | apply aF | apply bF | apply dY | apply dN | apply dV | apply dZ | apply d9 | apply dO | apply dW | apply dS | refine aI (λ_=>?_) λ_=>?_ | refine dJ (λ_=>?_) λ_=>?_ | apply dB | apply bW | apply cZ | apply bJ | apply aD
  all_goals try exact Or.inr ⟨by simp,rfl⟩
  rename_i ht hc
  have ht:=of_decide_eq_true ht;have hc:=of_decide_eq_true hc
  obtain ⟨x,m,o,p,p2,hs⟩:=h.spot ht hc
  obtain ⟨bL,m1,m2⟩:=hs.ms
  obtain ⟨cs,c1,c2⟩:=hs.cs
  refine dD ht.1.1 m1 (dD ht.2.1 m2 (dD ht.1.1 c1 (dD ht.2.1 c2 (x_eq (pX h.toS0 ht hc hs.en hs.pp) (aU _ (aIS hn hs.io.pp hs.kk hq) λr hr=>?_)))))
  repeat' with_reducible first | refine bE ?_ | refine dU ?_ | apply aF | apply bF | apply dY | apply dN | apply dV | apply dZ | apply d9 | apply dO | apply dW | apply dS | refine aI (λ_=>?_) λ_=>?_ | refine dJ (λ_=>?_) λ_=>?_ | apply dB | apply bW | apply cZ | apply bJ | apply aD
  · rename_i k;exact .inr ⟨k,rfl⟩
  rename_i kz
  rcases hr with ⟨r1,r2,r3,r4,r5⟩ | r1
  rotate_left
  · exact absurd r1 kz
  refine x_eq (xK h hs) (aD (.inl ⟨rfl,x,m,o,p,p2,r.1,hs,rfl,?_,r3,r2,r4,r5⟩))
  obtain ⟨g1,g2,g3,g4,g5,g6,g7⟩:=r3
  have i1:=hs.io.sq;have i3:=hs.io.ss
  have b1:=gV g1.ly;have b2:=gV hs.io.pp.ly
  have b3:=mE r.2.1.bO
  refine ⟨g1,hs.io.qq,?_,by omega⟩
  cases hw:r.2.2.1 with
  | false=>have:=r4 hw;omega
  | true=>have:=(r5 hw).1;rw [this] at g2;simp only at g2;omega
structure nL (x:aQ) (d:Int) (f:Nat->Int):Prop where
  ctl:sV x.bX=bl x 0+d
  pW:dA x.Down=-bl x 11
  qX:dA x.dR=0
  pE:∀ (i:Nat) r p q,x.dQ[i]?=some r->x.bX[2*i]?=some p->x.bX[2*i+1]?=some q->kM r+f i=tV p.aW+tV q.aW
theorem EB.x {x:aQ} (h:EB x):nL x 0 (λ_=>0):=⟨by have:=h.ctl;omega,h.pW,h.qX,λi r p q h1 h2 h3=>by have:=h.pE i r p q h1 h2 h3;omega⟩
theorem nL.done {x:aQ} {d:Int} {f:Nat->Int} (h:nL x d f) (hd:d=0) (hf:∀ i,f i=0):EB x:=⟨by have:=h.ctl;omega,h.pW,h.qX,λi r p q h1 h2 h3=>by have:=h.pE i r p q h1 h2 h3;have:=hf i;omega⟩
def bump (f:Nat->Int) (i:Nat) (v:Int) (j:Nat):Int:=f j+if j=i then v else 0
theorem nL.put {x:aQ} {d:Int} {f:Nat->Int} (h:nL x d f) {i c:Nat} {p p':aH} (hc:c<2) (hp:x.bX[2*i+c]?=some p) {v:Int} (hv:tV p'.aW-tV p.aW=v):nL { x with bX:=x.bX.set (2*i+c) p' } (d+v) (bump f i v):=by
  have hk:2*i+c<x.bX.length:=(List.getElem?_eq_some_iff.1 hp).1
  refine ⟨?_,h.pW,h.qX,?_⟩
  · show sV (x.bX.set (2*i+c) p')=bl x 0+(d+v)
    rw [QH hp];have:=h.ctl;omega
  · intro j r a b hr ha hb
    have ha:(x.bX.set (2*i+c) p')[2*j]?=some a:=ha
    have hb:(x.bX.set (2*i+c) p')[2*j+1]?=some b:=hb
    rw [mK hk] at ha hb
    unfold bump
    by_cases hj:j=i
    · subst hj
      rw [if_pos rfl]
      rcases (by omega:c=0\/c=1) with rfl | rfl
      · rw [if_pos (by omega)] at ha;rw [if_neg (by omega)] at hb;cases ha
        have h1:=h.pE j r p b hr hp hb
        omega
      · rw [if_neg (by omega)] at ha;rw [if_pos (by omega)] at hb;cases hb
        have h1:=h.pE j r a p hr ha hp
        omega
    · rw [if_neg (by omega)] at ha hb
      rw [if_neg hj,Int.add_zero]
      exact h.pE j r a b hr ha hb
theorem nL.roll {x:aQ} {d:Int} {f:Nat->Int} (h:nL x d f) {i:Nat} {r0 r:cO} (hr:x.dQ[i]?=some r0):nL { x with dQ:=x.dQ.set i (qU r0 r) } d (bump f i (-kM r)):=by
  have hk:i<x.dQ.length:=(List.getElem?_eq_some_iff.1 hr).1
  refine ⟨h.ctl,h.pW,h.qX,?_⟩
  intro j s a b hs ha hb
  have hs:(x.dQ.set i (qU r0 r))[j]?=some s:=hs
  rw [mK hk] at hs
  unfold bump
  by_cases hj:j=i
  · subst hj
    rw [if_pos rfl] at hs;cases hs;rw [if_pos rfl]
    have h1:=h.pE j r0 a b hr ha hb
    unfold kM qU at *
    simp only
    omega
  · rw [if_neg (Ne.symm hj)] at hs;rw [if_neg hj,Int.add_zero]
    exact h.pE j s a b hs ha hb
theorem nL.post {x:aQ} {d:Int} {f:Nat->Int} (h:nL x d f) {l:List aN} {b:List Int} (hb:MQ x.dR l b) (h11:eP l 11=0):nL { x with dR:=b } (d-eP l 0) f:=by
  obtain ⟨b1,b2,b3,b4⟩:=hb
  have e0:b.getD 0 0=x.dR.getD 0 0+eP l 0:=b3 0 (by decide)
  have e11:b.getD 11 0=x.dR.getD 11 0+eP l 11:=b3 11 (by decide)
  refine ⟨?_,?_,?_,h.pE⟩
  · show sV x.bX=b.getD 0 0+(d-eP l 0)
    have:=h.ctl;unfold bl at this;omega
  · show dA x.Down=-b.getD 11 0
    have:=h.pW;unfold bl at this;omega
  · show dA b=0
    rw [b4];exact h.qX
structure On (s:aA) (e:Nat) (bL:List Int) (t:aA) (x:aQ) (d:Int) (f:Nat->Int):Prop where
  en:e<s.bD.length
  ms:s.bH.Methods[e]?=some bL
  eq:t=lM s e x
  es:ES s.bH.bZ.length bL s.bH.gQ x
  eb:nL x d f
  opn:x.Closed=false
  lH:x.fV=[]
theorem aRL {s:aA} {e:Nat} {x:aQ} (h:s.bD[e]?=some x):s=lM s e x:=by
  have:s.bD.set e x=s.bD:=by
    obtain ⟨h1,h2⟩:=List.getElem?_eq_some_iff.1 h
    subst h2;exact List.set_getElem_self h1
  unfold lM;rw [this]
theorem On.start {s:aA} {e:Nat} {bL:List Int} {x:aQ} (hx:s.bD[e]?=some x) (hm:s.bH.Methods[e]?=some bL) (ho:EO s.bH bL x):On s e bL s x 0 (λ_=>0) :=
  ⟨(List.getElem?_eq_some_iff.1 hx).1,hm,aRL hx,ho.es,ho.ee.x,ho.opn,ho.lH⟩
theorem On.at {s:aA} {e:Nat} {bL:List Int} {t:aA} {x:aQ} {d:Int} {f:Nat->Int} (h:On s e bL t x d f):t.bD[e]?=some x:=by rw [h.eq];exact QK h.en
theorem On.ss {s:aA} {e:Nat} {bL:List Int} {t:aA} {x:aQ} {d:Int} {f:Nat->Int} (hs:SS s) (h:On s e bL t x d f):SS t:=by
  rw [h.eq]
  exact hs.up (List.getElem?_eq_getElem h.en) λm hm=>by rw [h.ms] at hm;cases hm;exact h.es
theorem On.done {s:aA} {e:Nat} {bL:List Int} {t:aA} {x:aQ} {d:Int} {f:Nat->Int} (h:On s e bL t x d f) (hd:d=0) (hf:∀ i,f i=0):EO s.bH bL x:=⟨h.es,h.eb.done hd hf,h.opn,h.lH⟩
theorem On.set {s:aA} {e:Nat} {bL:List Int} {t:aA} {x y:aQ} {d d':Int} {f f':Nat->Int} (h:On s e bL t x d f) (hes:ES s.bH.bZ.length bL s.bH.gQ y) (heb:nL y d' f') (ho:y.Closed=x.Closed) (ha:y.fV=x.fV):On s e bL (lM t e y) y d' f' :=
  ⟨h.en,h.ms,by rw [h.eq,aD0],hes,heb,ho.trans h.opn,ha.trans h.lH⟩
theorem On.brought {s:aA} {e i c:Int} {bL:List Int} {t t':aA} {x:aQ} {d:Int} {f:Nat->Int} {l:aB} {carried above:Int} (h:On s e.toNat bL t x d f) (hb:GL t e i c l t' carried above) :
    ∃ x',On s e.toNat bL t' x' (d+carried) (bump f i.toNat carried)/\x'.dR=x.dR/\x'.fU=x.fU/\x'.dQ=x.dQ:=by
  obtain ⟨y,m,k,p,q,p',hs,e1,hio,hc,e2,hab⟩:=hb
  have hy:=hs.en;rw [h.at] at hy;cases hy
  obtain ⟨c1,c2,c3,c4,c5,c6,c7⟩:=hc
  have hlc:=hs.lc;have hth:=hs.th.2
  have hM:t.bH=s.bH:=by rw [h.eq];rfl
  rw [hM] at hth
  have g:=h.es.put (by omega) (by omega) (hs.es bL (by rw [hM];exact h.ms)).1 hs.qq hio
  exact ⟨{ x with bX:=x.bX.set (2*i.toNat+c.toNat) p' },by rw [e1];exact h.set g (h.eb.put (p:=p) (p':=p') (by omega) hs.pp (v:=carried) (by omega)) rfl rfl,rfl,rfl,rfl⟩
theorem On.wW {s:aA} {e i c k q:Int} {bL:List Int} {t t':aA} {x:aQ} {d:Int} {f:Nat->Int} {l:aB} {w:Bool} (h:On s e.toNat bL t x d f) (hb:JV t e i c k q t' l w) :
    ∃ x',On s e.toNat bL t' x' (d+-l.Value) (bump f i.toNat (-l.Value))/\x'.dR=x.dR/\x'.fU=x.fU/\x'.dQ=x.dQ:=by
  obtain ⟨y,m,o,p,p2,p',hs,e1,hio,hc,_⟩:=hb
  have hy:=hs.en;rw [h.at] at hy;cases hy
  obtain ⟨c1,c2,c3,c4,c5,c6,c7⟩:=hc
  have hlc:=hs.lc;have hth:=hs.th.2
  have hM:t.bH=s.bH:=by rw [h.eq];rfl
  rw [hM] at hth
  have g:=h.es.put (by omega) (by omega) (hs.es bL (by rw [hM];exact h.ms)).1 hs.qq hio
  exact ⟨{ x with bX:=x.bX.set (2*i.toNat+c.toNat) p' },by rw [e1];exact h.set g (h.eb.put (p:=p) (p':=p') (by omega) hs.pp (v:=-l.Value) (by omega)) rfl rfl,rfl,rfl,rfl⟩
theorem On.oV {s:aA} {e:Int} {bL:List Int} {t t':aA} {x:aQ} {d:Int} {f:Nat->Int} {l:List aN} (h:On s e.toNat bL t x d f) (hb:AB t e l t') (h11:eP l 11=0) :
    ∃ x',On s e.toNat bL t' x' (d-eP l 0) f/\(∀ a:Nat,a<17->bl x' a=bl x a+eP l a)/\x'.fU=x.fU/\x'.dQ=x.dQ:=by
  obtain ⟨y,b,he,hy,hp,e1⟩:=hb
  rw [h.at] at hy;cases hy
  exact ⟨{ x with dR:=b },by rw [e1];exact h.set (h.es.G8 hp.1 hp.2.1) (h.eb.post hp h11) rfl rfl,λa ha=>hp.2.2.1 a ha,rfl,rfl⟩
theorem On.uP {s:aA} {e i:Int} {bL:List Int} {t t':aA} {x:aQ} {d:Int} {f:Nat->Int} {r:cO} (h:On s e.toNat bL t x d f) (hb:GV t e i r t') :
    ∃ x',On s e.toNat bL t' x' d (bump f i.toNat (-kM r))/\x'.dR=x.dR/\x'.fU=x.fU:=by
  obtain ⟨y,r0,ht,hy,hr0,hr,e1⟩:=hb
  rw [h.at] at hy;cases hy
  exact ⟨{ x with dQ:=x.dQ.set i.toNat (qU r0 r) },by rw [e1];exact h.set (h.es.WO hr) (h.eb.roll hr0) rfl rfl,rfl,rfl⟩
def Kept (K:Int) (s:aA) (r:aA×Int):Prop:=(r.2=0/\Inv K r.1)\/(r.2≠0/\r.1=s)
theorem rE {K:Int} {s:aA} (h:Inv K s) (e i:Int):Ex (λr=>r=0->gY s e i/\∃ x bL,s.bD[e.toNat]?=some x/\s.bH.Methods[e.toNat]?=some bL/\EO s.bH bL x) (oC s e i):=by
  unfold oC PN
  simp only [WT.run,bS,sD h.ss.toS0,Option.bind_some]
  repeat' with_reducible first | refine bE ?_ | refine dU ?_ | apply aF | apply bF | apply dY | apply dN | apply dV | apply dZ | apply d9 | apply dO | apply dW | apply dS | refine aI (λ_=>?_) λ_=>?_ | refine dJ (λ_=>?_) λ_=>?_ | apply dB | apply bW | apply cZ | apply bJ | apply aD
  · exact λk=>nomatch k
  rename_i ht
  have ht:=of_decide_eq_true ht
  obtain ⟨x,hx⟩:=ht.at
  obtain ⟨bL,hm,_⟩:=h.ss.bL hx
  refine dD ht.1.1 hx (fB (λ_=>aD (λk=>nomatch k)) λk=>aD λ_=>⟨ht,x,bL,hx,hm,?_⟩)
  rcases h.ent _ _ _ hx hm with h | ⟨y,h⟩
  · exact h
  · rw [h.LP] at k;cases k
theorem gB (x:aN) (l:List aN) (a:Int):eP (x :: l) a=(if x.dI=a then x.bM else 0)+eP l a:=rfl
theorem fZ (a:Int):eP [] a=0:=rfl
theorem On.inv {K:Int} {s:aA} (hI:Inv K s) {e:Int} {bL:List Int} {t:aA} {x y:aQ} {d:Int} {f:Nat->Int} (h:On s e.toNat bL t y d f) (hx:s.bD[e.toNat]?=some x) (hd:d=0) (hf:∀ i,f i=0) {R:List dG} {S:List eZ} {T:List fT}
    (hR:∀ r∈R,tH s.bH r) (hS:∀ r∈S,pI s.bH r) (hT:∀ r∈T,BH s.bH r) (l1:R.length<=40) (l2:S.length<=40) (l3:T.length<=40)
    (ha:eD (iT e.toNat) R-eD (iT e.toNat) s.bY=bl x 1-bl y 1) (ha':∀ f,f≠e.toNat->eD (iT f) R=eD (iT f) s.bY)
    (hw:eD (iI e.toNat) T-eD (iI e.toNat) s.dL=bl y 12-bl x 12) (hw':∀ f,f≠e.toNat->eD (iI f) T=eD (iI f) s.dL)
    (hg:kH y=kH x):Inv K ⟨t.bH,t.bD,R,S,T,t.Done⟩:=by
  rw [h.eq]
  exact hI.up hx h.ms (.inl (h.done hd hf)) hR hS hT l1 l2 l3 ha ha' hw hw' hg
theorem GL.facts {s t:aA} {e i c:Int} {l:aB} {carried above:Int} (h:GL s e i c l t carried above):gY s e i/\(0<=c/\c<=1)/\(1<=l.aG/\l.aG<=288230376151711744)/\(0<=l.Value/\l.Value<=288230376151711744)/\(-288230376151711744<=above/\above<=288230376151711744)/\carried=l.Value-above/\(-288230376151711744<=carried/\carried<=288230376151711744):=by
  obtain ⟨y,m,k,p,q,p',hs,e1,hio,hc,e2,hab⟩:=h
  obtain ⟨c1,c2,c3,c4,c5,c6,c7⟩:=hc
  have b1:=gV c1.ly;have b2:=gV hs.io.pp.ly
  exact ⟨hs.th,hs.lc,c6,c7,hab,e2,by omega⟩
theorem JV.facts {s t:aA} {e i c k q:Int} {l:aB} {w:Bool} (h:JV s e i c k q t l w):gY s e i/\(0<=c/\c<=1)/\(1<=q/\q<=288230376151711744\/w=true)/\(0<=l.Value/\l.Value<=288230376151711744)/\(-288230376151711744<=l.bO/\l.bO<=288230376151711744)/\1<=q:=by
  obtain ⟨y,m,o,p,p2,p',hs,e1,hio,hc,h1,h2,h3⟩:=h
  obtain ⟨c1,c2,c3,c4,c5,c6,c7⟩:=hc
  have b1:=gV c1.ly;have b2:=gV hs.io.pp.ly
  refine ⟨hs.th,hs.lc,?_,c6,c7,h1⟩
  cases hw:w with
  | true=>exact .inr rfl
  | false=>have:=h2 hw;exact .inl (by omega)
theorem On.rc {s:aA} {e:Nat} {bL:List Int} {t:aA} {x:aQ} {d:Int} {f:Nat->Int} (h:On s e bL t x d f):t.bY=s.bY/\t.eF=s.eF/\t.dL=s.dL/\t.bH=s.bH/\t.bD.length=s.bD.length:=by
  rw [h.eq];exact ⟨rfl,rfl,rfl,rfl,List.length_set ..⟩
theorem mR {x y:aQ} (h:y.dR=x.dR) (a:Nat):bl y a=bl x a:=by unfold bl;rw [h]
theorem sN {i:Nat} {v w:Int} (h:v+w=0):∀ j,bump (bump (λ_=>0) i v) i w j=0:=by
  intro j;show (0+_)+_=(0:Int);split <;> omega
theorem mI {α:Type} {P:α->Prop} {l:List α} {x:α} (h:∀ r∈l,P r) (hx:P x):∀ r∈l++[x],P r:=by
  intro r hr;rcases List.mem_append.1 hr with hr | hr
  · exact h r hr
  · rw [List.mem_singleton] at hr;subst hr;exact hx
theorem r15 {K:Int} {s:aA} {o:bK} {n:Nat} (hn:66<n) (h:Inv K s) (hq:o.aG<=9223372036854775807) (ha:0<=o.bM/\o.bM<=288230376151711744):Ex (Kept K s) (ET n s o):=by
  unfold ET aCW
  simp only [WT.run,bS]
  repeat' with_reducible first | refine bE ?_ | refine dU ?_ | apply aF | apply bF | apply dY | apply dN | apply dV | apply dZ | apply d9 | apply dO | apply dW | apply dS | refine aI (λ_=>?_) λ_=>?_ | refine dJ (λ_=>?_) λ_=>?_ | apply dB | apply bW | apply cZ | apply bJ | apply aD
  · exact .inr ⟨by simp,rfl⟩
  refine aU _ (rE h o.E o.Item) λr hr=>?_
  repeat' with_reducible first | refine bE ?_ | refine dU ?_ | apply aF | apply bF | apply dY | apply dN | apply dV | apply dZ | apply d9 | apply dO | apply dW | apply dS | refine aI (λ_=>?_) λ_=>?_ | refine dJ (λ_=>?_) λ_=>?_ | apply dB | apply bW | apply cZ | apply bJ | apply aD
  · rename_i k;exact .inr ⟨k,rfl⟩
  · exact .inr ⟨by simp,rfl⟩
  rename_i k1 k2
  obtain ⟨ht,x,bL,hx,hm,ho⟩:=hr (by omega)
  have o0:=On.start hx hm ho
  refine aU _ (DJ (l:=⟨o.aG,o.bM,0⟩) hn h.ss hq) λb hb=>?_
  repeat' with_reducible first | refine bE ?_ | refine dU ?_ | apply aF | apply bF | apply dY | apply dN | apply dV | apply dZ | apply d9 | apply dO | apply dW | apply dS | refine aI (λ_=>?_) λ_=>?_ | refine dJ (λ_=>?_) λ_=>?_ | apply dB | apply bW | apply cZ | apply bJ | apply aD
  · rename_i k;exact .inr ⟨k,rfl⟩
  rename_i k3
  rcases hb with ⟨_,hb⟩ | ⟨k,_⟩
  rotate_left
  · exact absurd k k3
  obtain ⟨f1,f2,f3,f4,f5,f6,f7⟩:=hb.facts
  obtain ⟨x1,o1,p1,p2,p3⟩:=o0.brought hb
  refine aU _ (nY hn (o1.ss h.ss) (by simp)) λc hc=>?_
  repeat' with_reducible first | refine bE ?_ | refine dU ?_ | apply aF | apply bF | apply dY | apply dN | apply dV | apply dZ | apply d9 | apply dO | apply dW | apply dS | refine aI (λ_=>?_) λ_=>?_ | refine dJ (λ_=>?_) λ_=>?_ | apply dB | apply bW | apply cZ | apply bJ | apply aD
  · rename_i k;exact .inr ⟨k,rfl⟩
  rename_i k4
  rcases hc with ⟨_,hc⟩ | ⟨k,_⟩
  rotate_left
  · exact absurd k k4
  obtain ⟨x2,o2,q1,q2,q3⟩:=o1.oV hc (by simp [gB,fZ])
  refine aU _ (sU hn (o2.ss h.ss)) λd hd=>?_
  repeat' with_reducible first | refine bE ?_ | refine dU ?_ | apply aF | apply bF | apply dY | apply dN | apply dV | apply dZ | apply d9 | apply dO | apply dW | apply dS | refine aI (λ_=>?_) λ_=>?_ | refine dJ (λ_=>?_) λ_=>?_ | apply dB | apply bW | apply cZ | apply bJ | apply aD
  · rename_i k;exact .inr ⟨k,rfl⟩
  rename_i k5
  rcases hd with ⟨_,hd⟩ | ⟨k,_⟩
  rotate_left
  · exact absurd k k5
  obtain ⟨x3,o3,r1,r2⟩:=o2.uP hd
  obtain ⟨g1,g2,g3,g4,g5⟩:=o3.rc
  have hl1:=h.l1;have hlen:=h.len;have hth:=f1.1;have hth2:=f1.2
  refine iR (by rw [g1];omega) (aF (iR (by rw [g1];simp;omega) (aD (.inl ⟨rfl,?_⟩))))
  have hB:∀ a:Nat,a<17->bl x3 a=bl x a+eP [⟨0,b.2.1⟩,⟨6,b.2.2.1⟩,⟨1,0-o.bM⟩] a:=λa ha=>by rw [mR r1,q1 a ha,mR p1]
  have b1:=hB 1 (by decide);have b12:=hB 12 (by decide);have b13:=hB 13 (by decide);have b14:=hB 14 (by decide)
  simp [gB,fZ] at b1 b12 b13 b14
  refine o3.inv h hx (by simp [gB,fZ]) (sN (by simp [kM];omega)) ?_ (by rw [g2];exact h.mO) (by rw [g3];exact h.nP) (by rw [g1];simp;omega) (by rw [g2];exact h.l2) (by rw [g3];exact h.l3) ?_ ?_ (by rw [g3];omega) (by intro f _;rw [g3]) (by unfold kH;omega)
  · rw [g1]
    refine mI h.mD ⟨by simp only;omega,hth2,f2,?_,f4,?_,f4,?_⟩
    all_goals (simp only at *;omega)
  · rw [g1,vV]
    simp only [eD,iT]
    rw [if_pos (by omega)];omega
  · intro f hf
    rw [g1,vV]
    simp only [eD,iT]
    rw [if_neg (by omega)];omega
end Go.Pv
