import Derived.Test.YtgoihillpibdjaaGreatL70
set_option linter.unusedVariables false
set_option linter.unusedSimpArgs false
namespace Go.Pv
open Go.Proofs
set_option maxRecDepth 100000
set_option maxHeartbeats 1000000
theorem rP (a b:Int):(bQ a->bQ b->bQ (a+b)->gG [a,b]=(a+b,0))/\((gG [a,b]).2=0->bQ a/\bQ b/\bQ (a+b))/\0<=(gG [a,b]).2:=by
  unfold gG
  by_cases h1:bQ a
  · by_cases h2:bQ b/\bQ (a+b)
    · have e:iD 0 [a,b]=some (a+b):=by
        rw [iD,if_pos ⟨by decide,h1,by rw [Int.zero_add];exact h1⟩,iD,if_pos ⟨by rw [Int.zero_add];exact h1,h2.1,by rw [Int.zero_add];exact h2.2⟩,iD,Int.zero_add]
      rw [e];exact ⟨λ_ _ _=>rfl,λ_=>⟨h1,h2.1,h2.2⟩,Int.le_refl 0⟩
    · have e:iD 0 [a,b]=none:=by
        rw [iD,if_pos ⟨by decide,h1,by rw [Int.zero_add];exact h1⟩,iD,if_neg (by rw [Int.zero_add];exact λk=>h2 k.2)]
      rw [e];exact ⟨λ_ k1 k2=>absurd ⟨k1,k2⟩ h2,λk=>absurd k (by decide),by decide⟩
  · have e:iD 0 [a,b]=none:=by rw [iD,if_neg (λk=>h1 k.2.1)]
    rw [e];exact ⟨λk=>absurd k h1,λk=>absurd k (by decide),by decide⟩
theorem P9 {s:aA} {n:Nat} (hn:66<n) (h:S0 s) {e i:Int} {x:aP} {p q:aQ} (ht:gM s e i) (hx:s.bC[e.toNat]?=some x) (hp:x.bS[2*i.toNat]?=some p) (hq:x.bS[2*i.toNat+1]?=some q) (lp:LR p.aG) (lq:LR q.aG) :
    Ex (λr=>r.1=⟨(gG [tQ p.aG,tQ q.aG]).1,(gG [tV p.aG,tV q.aG]).1,(gG [tP p.aG,tP q.aG]).1⟩/\(r.2=0↔(gG [tQ p.aG,tQ q.aG]).2=0/\(gG [tV p.aG,tV q.aG]).2=0/\(gG [tP p.aG,tP q.aG]).2=0)) (CG n s e i):=by
  have a0:=lU (c:=0) h ht (by omega) hx hp
  have a1:=lU (c:=1) h ht (by omega) hx hq
  obtain ⟨m,rfl⟩:∃ m,n=m+3:=⟨n-3,by omega⟩
  unfold CG WV
  simp only [WT.run,bR]
  refine aT (λr=>r=([tQ p.aG,tQ q.aG],[tV p.aG,tV q.aG],[tP p.aG,tP q.aG])) ?_ λr hr=>?_
  · show Ex _ (iter _ (m+2+1) _)
    refine aT (λr=>r=.inl (1,[tQ p.aG],[tV p.aG],[tP p.aG])) ?_ λr hr=>?_
    · refine bE (bE (bE (aD (aH (λ_=>?_) λk=>absurd (show (0:Int)<2 by decide) k))))
      refine x_eq a0 (x_eq (wG hn lp) ?_)
      repeat' with_reducible first | refine bF ?_ | refine dP ?_ | apply aD | apply bE | apply dS | apply dI | apply dN | apply dR | apply dO | apply dL | apply dU | apply dQ | refine aH (λ_=>?_) λ_=>?_ | refine dG (λ_=>?_) λ_=>?_ | apply cO | apply bU | apply bY | apply bK | apply aF
      refine iF (by simp) ?_
      repeat' with_reducible first | refine bF ?_ | refine dP ?_ | apply aD | apply bE | apply dS | apply dI | apply dN | apply dR | apply dO | apply dL | apply dU | apply dQ | refine aH (λ_=>?_) λ_=>?_ | refine dG (λ_=>?_) λ_=>?_ | apply cO | apply bU | apply bY | apply bK | apply aF
      refine iF (by simp) ?_
      repeat' with_reducible first | refine bF ?_ | refine dP ?_ | apply aD | apply bE | apply dS | apply dI | apply dN | apply dR | apply dO | apply dL | apply dU | apply dQ | refine aH (λ_=>?_) λ_=>?_ | refine dG (λ_=>?_) λ_=>?_ | apply cO | apply bU | apply bY | apply bK | apply aF
      refine iF (by simp) ?_
      exact bF (bX rfl)
    · subst hr
      refine bY ?_
      show Ex _ (iter _ (m+1+1) _)
      refine aT (λr=>r=.inl (2,[tQ p.aG,tQ q.aG],[tV p.aG,tV q.aG],[tP p.aG,tP q.aG])) ?_ λr hr=>?_
      · refine bE (bE (bE (aD (aH (λ_=>?_) λk=>absurd (show (1:Int)<2 by decide) k))))
        refine x_eq a1 (x_eq (wG hn lq) ?_)
        repeat' with_reducible first | refine bF ?_ | refine dP ?_ | apply aD | apply bE | apply dS | apply dI | apply dN | apply dR | apply dO | apply dL | apply dU | apply dQ | refine aH (λ_=>?_) λ_=>?_ | refine dG (λ_=>?_) λ_=>?_ | apply cO | apply bU | apply bY | apply bK | apply aF
        refine iF (by simp) ?_
        repeat' with_reducible first | refine bF ?_ | refine dP ?_ | apply aD | apply bE | apply dS | apply dI | apply dN | apply dR | apply dO | apply dL | apply dU | apply dQ | refine aH (λ_=>?_) λ_=>?_ | refine dG (λ_=>?_) λ_=>?_ | apply cO | apply bU | apply bY | apply bK | apply aF
        refine iF (by simp) ?_
        repeat' with_reducible first | refine bF ?_ | refine dP ?_ | apply aD | apply bE | apply dS | apply dI | apply dN | apply dR | apply dO | apply dL | apply dU | apply dQ | refine aH (λ_=>?_) λ_=>?_ | refine dG (λ_=>?_) λ_=>?_ | apply cO | apply bU | apply bY | apply bK | apply aF
        refine iF (by simp) ?_
        exact bF (bX rfl)
      · subst hr
        refine bY ?_
        show Ex _ (iter _ (m+1) _)
        refine aT (λr=>r=.inr ([tQ p.aG,tQ q.aG],[tV p.aG,tV q.aG],[tP p.aG,tP q.aG])) ?_ λr hr=>?_
        · exact bE (bE (bE (aD (aH (λk=>absurd k (show ¬(2:Int)<2 by decide)) λk=>bK (aF rfl)))))
        · subst hr;exact mG rfl
  · subst hr
    refine bE (bE ?_)
    refine x_eq (uH (l:=[tQ p.aG,tQ q.aG]) (by simp;omega) (by simp)) (x_eq (uH (l:=[tV p.aG,tV q.aG]) (by simp;omega) (by simp)) (x_eq (uH (l:=[tP p.aG,tP q.aG]) (by simp;omega) (by simp)) ?_))
    have b1:=(rP (tQ p.aG) (tQ q.aG)).2.2
    have b2:=(rP (tV p.aG) (tV q.aG)).2.2
    have b3:=(rP (tP p.aG) (tP q.aG)).2.2
    refine aD (aF ⟨rfl,?_⟩)
    show (if (gG [tP p.aG,tP q.aG]).2>(if (gG [tV p.aG,tV q.aG]).2>(gG [tQ p.aG,tQ q.aG]).2 then (gG [tV p.aG,tV q.aG]).2 else (gG [tQ p.aG,tQ q.aG]).2) then (gG [tP p.aG,tP q.aG]).2 else (if (gG [tV p.aG,tV q.aG]).2>(gG [tQ p.aG,tQ q.aG]).2 then (gG [tV p.aG,tV q.aG]).2 else (gG [tQ p.aG,tQ q.aG]).2))=0↔_
    repeat' split
    all_goals omega
theorem aVO {s:aA} {n:Nat} (hn:66<n) (h:SS s) {e i m:Int} {x:aP} {p q:aQ} (ht:gM s e i) (hx:s.bC[e.toNat]?=some x) (hp:x.bS[2*i.toNat]?=some p) (hq:x.bS[2*i.toNat+1]?=some q) (io:IO m p q) (hv:tV p.aG+tV q.aG<=288230376151711744) :
    CG n s e i=some (⟨tQ p.aG+tQ q.aG,tV p.aG+tV q.aG,tP p.aG+tP q.aG⟩,0):=by
  have b1:=gN io.pp.ly;have b2:=gN io.qq.ly
  have:=io.sq;have:=io.ss
  have e1:=(rP (tQ p.aG) (tQ q.aG)).1 (by unfold bQ;omega) (by unfold bQ;omega) (by unfold bQ;omega)
  have e2:=(rP (tV p.aG) (tV q.aG)).1 (by unfold bQ;omega) (by unfold bQ;omega) (by unfold bQ;omega)
  have e3:=(rP (tP p.aG) (tP q.aG)).1 (by unfold bQ;omega) (by unfold bQ;omega) (by unfold bQ;omega)
  refine eT (N8 (P9 hn h.toS0 ht hx hp hq io.pp.ly io.qq.ly) λr hr=>?_)
  rw [e1,e2,e3] at hr
  exact Prod.ext hr.1 (hr.2.2 ⟨rfl,rfl,rfl⟩)
theorem O7 {s:aA} {n:Nat} (hn:66<n) (h:SS s) {e i m:Int} {x:aP} {p q:aQ} (ht:gM s e i) (hx:s.bC[e.toNat]?=some x) (hp:x.bS[2*i.toNat]?=some p) (hq:x.bS[2*i.toNat+1]?=some q) (io:IO m p q) (hv:tV p.aG+tV q.aG<=288230376151711744) :
    xI n s e i=some ⟨tQ p.aG+tQ q.aG,tV p.aG+tV q.aG,tP p.aG+tP q.aG⟩:=by
  unfold xI aDD
  simp only [WT.run,bR,aVO hn h ht hx hp hq io hv,Option.bind_some]
def zY (s:aA) (e:Int) (l:List aS) (t:aA):Prop:=∃ x b,(0<=e/\e<(s.bC.length:Int))/\s.bC[e.toNat]?=some x/\OA x.dK l b/\t=kP s e.toNat { x with dK:=b }
theorem oP {s:aA} {n:Nat} (hn:66<n) (h:SS s) {e:Int} {l:List aS} (hl:l.length<=60):Ex (λr=>(r.2=0/\zY s e l r.1)\/(r.2≠0/\r.1=s)) (kS n s e l):=by
  have hf:=h.toS0.gU
  unfold kS AR
  simp only [WT.run,bR,oN,Option.bind_some]
  repeat' with_reducible first | refine bF ?_ | refine dP ?_ | apply aD | apply bE | apply dS | apply dI | apply dN | apply dR | apply dO | apply dL | apply dU | apply dQ | refine aH (λ_=>?_) λ_=>?_ | refine dG (λ_=>?_) λ_=>?_ | apply cO | apply bU | apply bY | apply bK | apply aF
  · exact .inr ⟨(λk=>nomatch k),rfl⟩
  rename_i ht
  have ht:=of_decide_eq_true ht
  have he:0<=e/\e<(s.bC.length:Int):=by omega
  have hx:=List.getElem?_eq_getElem (l:=s.bC) (i:=e.toNat) (by omega)
  generalize s.bC[e.toNat]'(by omega)=x at hx
  obtain ⟨bL,hm,_,_,hes⟩:=h.bL hx
  have hl2:=hes.gU hf.2.2
  refine aT _ (aDI hn hl) λm hP=>?_
  repeat' with_reducible first | refine bF ?_ | refine dP ?_ | apply aD | apply bE | apply dS | apply dI | apply dN | apply dR | apply dO | apply dL | apply dU | apply dQ | refine aH (λ_=>?_) λ_=>?_ | refine dG (λ_=>?_) λ_=>?_ | apply cO | apply bU | apply bY | apply bK | apply aF
  · rename_i k;exact .inr ⟨k,rfl⟩
  rename_i k
  have k:m.2=0:=by omega
  obtain ⟨p1,p2,p3⟩:=hP k
  refine bW he.1 hx (aT _ (aVB hn (by omega) hes.lb hes.gK) λb hb=>?_)
  repeat' with_reducible first | refine bF ?_ | refine dP ?_ | apply aD | apply bE | apply dS | apply dI | apply dN | apply dR | apply dO | apply dL | apply dU | apply dQ | refine aH (λ_=>?_) λ_=>?_ | refine dG (λ_=>?_) λ_=>?_ | apply cO | apply bU | apply bY | apply bK | apply aF | refine dF ?_
  · rename_i k;exact .inr ⟨k,rfl⟩
  rename_i k2
  have k2:b.2=0:=by omega
  obtain ⟨q1,q2,q3,q4⟩:=hb k2
  refine bW he.1 hx ?_
  repeat' with_reducible first | refine bF ?_ | refine dP ?_ | apply aD | apply bE | apply dS | apply dI | apply dN | apply dR | apply dO | apply dL | apply dU | apply dQ | refine aH (λ_=>?_) λ_=>?_ | refine dG (λ_=>?_) λ_=>?_ | apply cO | apply bU | apply bY | apply bK | apply aF | refine dF ?_
  refine bW he.1 hx (aF (.inl ⟨rfl,x,b.1,he,hx,⟨q1,q2,λa ha=>?_,q4⟩,rfl⟩))
  rw [q3 a ha,p3 a ha]
def OM (s:aA) (e i:Int) (r:cK) (t:aA):Prop:=∃ x r0,gM s e i/\s.bC[e.toNat]?=some x/\x.dH[i.toNat]?=some r0/\yO (qT r0 r)/\t=kP s e.toNat { x with dH:=x.dH.set i.toNat (qT r0 r) }
theorem oU (a b:Int):(jK a b).2=0\/(jK a b).2=2:=by unfold jK;split <;> simp
def nN (a b:Int):Prop:=bQ a/\bQ b/\bQ (a+b)
theorem kL {a b:Int}:(jK a b).2=0↔nN a b:=by
  by_cases h:bQ a/\bQ b/\bQ (a+b)
  · rw [pI h];exact ⟨λ_=>h,λ_=>rfl⟩
  · rw [wP h];exact ⟨λq=>absurd q (by decide),λq=>absurd q h⟩
theorem qL {a b:Int} (h:nN a b):(jK a b).1=a+b:=by rw [pI h]
def l9 (r:cK):List Int:=[r.Open,r.jC,r.jE,r.jD,r.jB,r.iZ,r.jG,r.iX,r.iV,r.jF,r.jH]
def TA (a b:cK):Prop:=∀ j:Nat,j<11->nN ((l9 a).getD j 0) ((l9 b).getD j 0)
noncomputable def xQ (s:aA) (e i:Int) (x:aP) (r0 r:cK):aA×Int:=open Classical in if TA r0 r then (kP s e.toNat { x with dH:=x.dH.set i.toNat (qT r0 r) },0) else (s,2)
theorem aGL {s:aA} {n:Nat} (hn:66<n) (h:SS s) {e i:Int} {x:aP} {r0 r:cK} (ht:gM s e i) (hx:s.bC[e.toNat]?=some x) (hr0:x.dH[i.toNat]?=some r0):mW n s e i r=some (xQ s e i x r0 r):=by
  have hf:=h.toS0.gU
  refine eT ?_
  unfold mW JQ
  simp only [WT.run,bR,qC h.toS0,vZ,Option.bind_some]
  rw [decide_eq_true ht]
  refine aD (bU ?_)
  have ht2:=ht.1;have ht3:=ht.2
  obtain ⟨bL,hm,_,_,hes⟩:=h.bL hx
  have hl2:=hes.gU hf.2.2
  have hlr:=hes.lr
  refine bW ht2.1 hx (bW ht3.1 hr0 ?_)
  refine x_eq (a:=(⟨r0.Open,r0.jC,r0.jE,r0.jD,r0.jB,r0.iZ,r0.jG,r0.iX,r0.iV,r0.jF,r0.jH⟩:kH)) rfl (x_eq (a:=(⟨r.Open,r.jC,r.jE,r.jD,r.jB,r.iZ,r.jG,r.iX,r.iV,r.jF,r.jH⟩:kH)) rfl ?_)
  have hlb:(l9 r).length=11:=rfl
  refine aT (λ(q:List Int⊕(aA×Int))=>match q with
      | .inl l=>l.length=11/\∀ j:Nat,j<11->nN ((l9 r0).getD j 0) ((l9 r).getD j 0)/\l.getD j 0=(l9 r0).getD j 0+(l9 r).getD j 0
      | .inr q=>q=(s,2)/\¬ TA r0 r)
    (fM (λ(v:Int×List Int)=>0<=v.1/\v.1<=11/\v.2.length=11/\∀ j:Nat,j<11->((j:Int)<v.1->nN ((l9 r0).getD j 0) ((l9 r).getD j 0)/\v.2.getD j 0=(l9 r0).getD j 0+(l9 r).getD j 0)/\(v.1<=j->v.2.getD j 0=(l9 r0).getD j 0))
      (λv=>11-v.1.toNat) ?_ (v:=(0,l9 r0)) ⟨by simp,by simp,rfl,λj hj=>⟨λq=>absurd q (by simp only;omega),λ_=>rfl⟩⟩ (by simp only;omega)) λq hq=>?_
  · rintro ⟨k,l⟩ ⟨h0,h1,h2,h3⟩
    simp only at h0 h1 h2 h3
    refine bE (aD (aH (λhk=>?_) λhk=>bK (bX ⟨h2,λj hj=>(h3 j hj).1 (by simp only at hk;omega)⟩)))
    have hk:k<11:=hk
    refine iF (by first | omega | (simp only;omega)) (eF h0 (by first | omega | (simp only;omega)) λa ha=>iF (by first | omega | (simp only;omega)) (eF h0 (by show k<((l9 r).length:Int);omega) λc hc=>?_))
    have d1:l.getD k.toNat 0=a:=getD_at ha
    have d2:(l9 r).getD k.toNat 0=c:=getD_at hc
    obtain ⟨g1,g2⟩:=h3 k.toNat (by omega)
    have g2:=g2 (by omega)
    refine aD (aH (λk1=>bK (bK (aF ⟨congrArg (Prod.mk s) ((oU _ _).resolve_left k1),λt=>k1 (kL.2 ?_)⟩))) λk1=>iF (by first | omega | (simp only;omega)) (aD (bF (bX ⟨⟨by first | omega | (simp only;omega),by first | omega | (simp only;omega),by simp only;rw [List.length_set];exact h2,λj hj=>?_⟩,by first | omega | (simp only;omega)⟩))))
    · have:=t k.toNat (by omega)
      rw [<- g2,d1,d2] at this;exact this
    have hin:=kL.1 (Classical.not_not.1 k1)
    simp only
    rw [MX (by omega),qL hin]
    by_cases hj2:k.toNat=j
    · rw [if_pos hj2]
      subst hj2
      rw [<- g2,d1,d2]
      exact ⟨λ_=>⟨hin,rfl⟩,λq=>absurd q (by omega)⟩
    · rw [if_neg hj2]
      exact ⟨λq=>(h3 j hj).1 (by omega),λq=>(h3 j hj).2 (by omega)⟩
  cases q with
  | inr q=>exact mG (by obtain ⟨q1,q2⟩:=hq;unfold xQ;rw [if_neg q2];exact q1)
  | inl l =>
    obtain ⟨hq1,hq⟩:=hq
    refine bY ?_
    have g:∀ j:Nat,j<11->l.getD j 0=(l9 r0).getD j 0+(l9 r).getD j 0:=λj hj=>(hq j hj).2
    have er:qT r0 r=⟨l.getD 0 0,l.getD 1 0,l.getD 2 0,l.getD 3 0,l.getD 4 0,l.getD 5 0,l.getD 6 0,l.getD 7 0,l.getD 8 0,l.getD 9 0,l.getD 10 0⟩:=by
      rw [g 0 (by decide),g 1 (by decide),g 2 (by decide),g 3 (by decide),g 4 (by decide),g 5 (by decide),g 6 (by decide),g 7 (by decide),g 8 (by decide),g 9 (by decide),g 10 (by decide)];rfl
    refine aT (λr=>r=(x.fO,x.Closed,x.fP,x.bS,x.dK,x.dH,x.fZ,x.Down)) (dF (bW ht2.1 hx (dF (dF (dF (dF (dF (aF rfl)))))))) λz hz=>?_
    subst hz
    refine bE (bE (bE (bE (bE (bE (bE (bW ht2.1 hx (iF hq1 (x_eq (a:=(⟨l.getD 0 0,l.getD 1 0,l.getD 2 0,l.getD 3 0,l.getD 4 0,l.getD 5 0,l.getD 6 0,l.getD 7 0,l.getD 8 0,l.getD 9 0,l.getD 10 0⟩:cK)) rfl (bW ht3.1 hr0 (aD (aF ?_))))))))))))
    have ta:TA r0 r:=λj hj=>(hq j hj).1
    unfold xQ;rw [if_pos ta,er];rfl
theorem sU {s:aA} {n:Nat} (hn:66<n) (h:SS s) {e i:Int} {r:cK}:Ex (λq=>(q.2=0/\OM s e i r q.1)\/(q.2≠0/\q.1=s)) (mW n s e i r):=by
  have hf:=h.toS0.gU
  by_cases ht:gM s e i
  · obtain ⟨x,hx⟩:=ht.at
    have ht2:=ht.1;have ht3:=ht.2
    obtain ⟨bL,hm,_,_,hes⟩:=h.bL hx
    have hlr:=hes.lr
    have hr0:=List.getElem?_eq_getElem (l:=x.dH) (i:=i.toNat) (by omega)
    generalize x.dH[i.toNat]'(by omega)=r0 at hr0
    refine ⟨_,aGL hn h ht hx hr0,?_⟩
    unfold xQ
    split
    · rename_i ta
      have g:∀ j:Nat,j<11->bQ ((l9 r0).getD j 0+(l9 r).getD j 0):=λj hj=>(ta j hj).2.2
      exact .inl ⟨rfl,x,r0,ht,hx,hr0,⟨g 0 (by decide),g 1 (by decide),g 2 (by decide),g 3 (by decide),g 4 (by decide),g 5 (by decide),g 6 (by decide),g 7 (by decide),g 8 (by decide),g 9 (by decide),g 10 (by decide)⟩,rfl⟩
    · exact .inr ⟨by simp,rfl⟩
  · unfold mW JQ
    simp only [WT.run,bR,qC h.toS0,Option.bind_some]
    rw [decide_eq_false ht]
    exact aD (cO (aF (.inr ⟨by simp,rfl⟩)))
def lI (s:aA) (e i c:Int) (x:aP) (p':aQ):aA:=kP s e.toNat { x with bS:=x.bS.set (2*i.toNat+c.toNat) p' }
def MH (s:aA) (e i c:Int) (l:aB) (t:aA) (carried above:Int):Prop :=
  ∃ x m k p q p',mO s e i c x m k p q/\t=lI s e i c x p'/\IO m p' q/\Came m p p' l above/\carried=l.Value-above/\(-288230376151711744<=above/\above<=288230376151711744)
theorem mO.both {s:aA} {e i c m k:Int} {x:aP} {p q:aQ} (h:mO s e i c x m k p q):∃ a b,x.bS[2*i.toNat]?=some a/\x.bS[2*i.toNat+1]?=some b/\((c=0/\a=p/\b=q)\/(c=1/\a=q/\b=p)):=by
  have h1:=h.pp;have h2:=h.qq;have hc:=h.lc
  rcases (by omega:c=0\/c=1) with rfl | rfl
  · exact ⟨p,q,h1,h2,.inl ⟨rfl,rfl,rfl⟩⟩
  · exact ⟨q,p,h2,h1,.inr ⟨rfl,rfl,rfl⟩⟩
theorem mO.put {s:aA} {e i c m k:Int} {x:aP} {p q p':aQ} (h:mO s e i c x m k p q):(lI s e i c x p').bC[e.toNat]?=some { x with bS:=x.bS.set (2*i.toNat+c.toNat) p' } /\
    ∃ a b,(x.bS.set (2*i.toNat+c.toNat) p')[2*i.toNat]?=some a/\(x.bS.set (2*i.toNat+c.toNat) p')[2*i.toNat+1]?=some b/\((c=0/\a=p'/\b=q)\/(c=1/\a=q/\b=p')):=by
  have hk:2*i.toNat+c.toNat<x.bS.length:=(List.getElem?_eq_some_iff.1 h.pp).1
  have he:e.toNat<s.bC.length:=(List.getElem?_eq_some_iff.1 h.en).1
  refine ⟨GJ he,?_⟩
  obtain ⟨a,b,h1,h2,h3⟩:=h.both
  rw [lW hk,lW hk]
  rcases h3 with ⟨rfl,rfl,rfl⟩ | ⟨rfl,rfl,rfl⟩
  · exact ⟨p',b,by rw [if_pos (by simp)],by rw [if_neg (by simp)];exact h2,.inl ⟨rfl,rfl,rfl⟩⟩
  · exact ⟨a,p',by rw [if_neg (by simp)];exact h1,by rw [if_pos (by simp)],.inr ⟨rfl,rfl,rfl⟩⟩
theorem mO.ss {s:aA} (hs:SS s) {e i c m k:Int} {x:aP} {p q p':aQ} (h:mO s e i c x m k p q) (hio:IO m p' q):SS (lI s e i c x p'):=by
  refine hs.up h.en λbL hm=>?_
  obtain ⟨h1,h2⟩:=h.es bL hm
  have ht:=h.th.2;have hc:=h.lc
  exact h2.put (by omega) (by omega) h1 h.qq hio
theorem yS {s:aA} {n:Nat} (hn:66<n) (h:SS s) {e i c:Int} {l:aB} (hl:l.aI<=9223372036854775807) :
    Ex (λr=>(r.2.2.2=0/\MH s e i c l r.1 r.2.1 r.2.2.1)\/(r.2.2.2≠0/\r.1=s)) (pQ n s e i c l):=by
  have hf:=h.toS0.gU
  unfold pQ K3
  simp only [WT.run,bR,qC h.toS0,oN,Option.bind_some]
  repeat' with_reducible first | refine bF ?_ | refine dP ?_ | apply aD | apply bE | apply dS | apply dI | apply dN | apply dR | apply dO | apply dL | apply dU | apply dQ | refine aH (λ_=>?_) λ_=>?_ | refine dG (λ_=>?_) λ_=>?_ | apply cO | apply bU | apply bY | apply bK | apply aF
  all_goals try exact Or.inr ⟨by simp,rfl⟩
  rename_i ht hc
  have ht:=of_decide_eq_true ht;have hc:=of_decide_eq_true hc
  obtain ⟨x,m,k,p,q,hs⟩:=h.spot ht hc
  obtain ⟨bL,m1,m2⟩:=hs.ms
  obtain ⟨cs,c1,c2⟩:=hs.cs
  refine bW ht.1.1 m1 (bW ht.2.1 m2 (bW ht.1.1 c1 (bW ht.2.1 c2 (x_eq (lU h.toS0 ht hc hs.en hs.pp) (aT _ (aEE hn hs.io.pp hs.kk hl) λr hr=>?_)))))
  repeat' with_reducible first | refine bF ?_ | refine dP ?_ | apply aD | apply bE | apply dS | apply dI | apply dN | apply dR | apply dO | apply dL | apply dU | apply dQ | refine aH (λ_=>?_) λ_=>?_ | refine dG (λ_=>?_) λ_=>?_ | apply cO | apply bU | apply bY | apply bK | apply aF
  · rename_i k;exact .inr ⟨k,rfl⟩
  rename_i kz
  rcases hr with ⟨r1,r2,r3⟩ | ⟨r1,_⟩
  rotate_left
  · exact absurd r1 kz
  refine x_eq (uE h hs) ?_
  have hP:PR m r.1:=r2.1
  have hQ:=hs.io.qq
  obtain ⟨en2,a,b,pa,pb,hab⟩:=hs.put (p':=r.1)
  have h0:S0 (lI s e i c x r.1):=⟨h.jP,by show ((s.bC.set _ _).length:Int)=_;rw [List.length_set];exact h.len⟩
  have ht2:gM (lI s e i c x r.1) e i:=by
    refine ⟨⟨ht.1.1,?_⟩,ht.2⟩
    show e<((s.bC.set _ _).length:Int);rw [List.length_set];exact ht.1.2
  have la:LR a.aG/\LR b.aG/\tQ a.aG+tQ b.aG=tQ r.1.aG+tQ q.aG/\tV a.aG+tV b.aG=tV r.1.aG+tV q.aG/\tS a.aG+tS b.aG=tS r.1.aG+tS q.aG:=by
    rcases hab with ⟨_,rfl,rfl⟩ | ⟨_,rfl,rfl⟩
    · exact ⟨hP.ly,hQ.ly,rfl,rfl,rfl⟩
    · exact ⟨hQ.ly,hP.ly,Int.add_comm _ _,Int.add_comm _ _,Int.add_comm _ _⟩
  obtain ⟨l1,l2,l3,l4,l5⟩:=la
  have lb1:=gN l1;have lb2:=gN l2
  refine aT _ (P9 hn h0 ht2 en2 pa pb l1 l2) λw hw=>?_
  repeat' with_reducible first | refine bF ?_ | refine dP ?_ | apply aD | apply bE | apply dS | apply dI | apply dN | apply dR | apply dO | apply dL | apply dU | apply dQ | refine aH (λ_=>?_) λ_=>?_ | refine dG (λ_=>?_) λ_=>?_ | apply cO | apply bU | apply bY | apply bK | apply aF
  · exact .inr ⟨(λk=>nomatch k),rfl⟩
  rename_i kw
  have kw:=hw.2.1 (by omega)
  have kq:=(rP _ _).2.1 kw.1
  have kv:=(rP _ _).2.1 kw.2.1
  have a0:=lU (c:=0) h0 ht2 (by omega) en2 pa
  have a1:=lU (c:=1) h0 ht2 (by omega) en2 pb
  refine aT (λr=>r=a.aG++b.aG) ?_ λy hy=>?_
  · obtain ⟨m',rfl⟩:∃ m',n=m'+3:=⟨n-3,by omega⟩
    show Ex _ (iter _ (m'+2+1) _)
    refine aT (λr=>r=.inl (1,a.aG)) ?_ λr hr=>?_
    · refine bE (aD (aH (λ_=>x_eq a0 ?_) λk=>absurd (show (0:Int)<2 by decide) k))
      repeat' with_reducible first | refine bF ?_ | refine dP ?_ | apply aD | apply bE | apply dS | apply dI | apply dN | apply dR | apply dO | apply dL | apply dU | apply dQ | refine aH (λ_=>?_) λ_=>?_ | refine dG (λ_=>?_) λ_=>?_ | apply cO | apply bU | apply bY | apply bK | apply aF
      refine dF ?_
      exact bF (bX rfl)
    · subst hr
      refine bY ?_
      show Ex _ (iter _ (m'+1+1) _)
      refine aT (λr=>r=.inl (2,a.aG++b.aG)) ?_ λr hr=>?_
      · refine bE (aD (aH (λ_=>x_eq a1 ?_) λk=>absurd (show (1:Int)<2 by decide) k))
        repeat' with_reducible first | refine bF ?_ | refine dP ?_ | apply aD | apply bE | apply dS | apply dI | apply dN | apply dR | apply dO | apply dL | apply dU | apply dQ | refine aH (λ_=>?_) λ_=>?_ | refine dG (λ_=>?_) λ_=>?_ | apply cO | apply bU | apply bY | apply bK | apply aF
        refine dF ?_
        exact bF (bX rfl)
      · subst hr
        refine bY ?_
        show Ex _ (iter _ (m'+1) _)
        refine aT (λr=>r=.inr (a.aG++b.aG)) ?_ λr hr=>?_
        · exact bE (aD (aH (λk=>absurd k (show ¬(2:Int)<2 by decide)) λk=>bK (aF rfl)))
        · subst hr;exact mG rfl
  · subst hy
    obtain ⟨z1,z2,z3,z4⟩:=tL a.aG b.aG
    obtain ⟨r4,r5,r6,r7,r8,r9,xP⟩:=r2
    refine aT _ (UE (l:=a.aG++b.aG) (by simp;omega) (by simp;omega) λy hy=>?_) λw2 hw2=>?_
    · rcases List.mem_append.1 hy with hy | hy
      · exact l1.1 y hy
      · exact l2.1 y hy
    repeat' with_reducible first | refine bF ?_ | refine dP ?_ | apply aD | apply bE | apply dS | apply dI | apply dN | apply dR | apply dO | apply dL | apply dU | apply dQ | refine aH (λ_=>?_) λ_=>?_ | refine dG (λ_=>?_) λ_=>?_ | apply cO | apply bU | apply bY | apply bK | apply aF
    · exact .inr ⟨(λk=>nomatch k),rfl⟩
    rename_i k2
    have k3:=hw2.2 (by omega)
    unfold bQ at kq kv
    exact (.inl ⟨rfl,x,m,k,p,q,r.1,hs,rfl,⟨hP,hQ,by omega,by omega⟩,⟨r4,r5,r6,r7,r8,r9,xP⟩,rfl,r3⟩)
def NJ (s:aA) (e i c k q:Int) (t:aA) (l:aB) (w:Bool):Prop :=
  ∃ x m o p p2 p',mO s e i c x m o p p2/\t=lI s e i c x p'/\IO m p' p2/\Gone m p p' l/\1<=q/\(w=false->l.aI=q)/\(w=true->l=⟨0,0,0⟩/\m=3/\k≠3)
theorem uM {s:aA} {n:Nat} (hn:66<n) (h:SS s) {e i c k q:Int} (hq:-9223372036854775808<=q/\q<=9223372036854775807) :
    Ex (λr=>(r.2.2.2=0/\NJ s e i c k q r.1 r.2.1 r.2.2.1)\/(r.2.2.2≠0/\r.1=s)) (oL n s e i c k q):=by
  have hf:=h.toS0.gU
  unfold oL K8
  simp only [WT.run,bR,qC h.toS0,oN,Option.bind_some]
  repeat' with_reducible first | refine bF ?_ | refine dP ?_ | apply aD | apply bE | apply dS | apply dI | apply dN | apply dR | apply dO | apply dL | apply dU | apply dQ | refine aH (λ_=>?_) λ_=>?_ | refine dG (λ_=>?_) λ_=>?_ | apply cO | apply bU | apply bY | apply bK | apply aF
  all_goals try exact Or.inr ⟨by simp,rfl⟩
  rename_i ht hc
  have ht:=of_decide_eq_true ht;have hc:=of_decide_eq_true hc
  obtain ⟨x,m,o,p,p2,hs⟩:=h.spot ht hc
  obtain ⟨bL,m1,m2⟩:=hs.ms
  obtain ⟨cs,c1,c2⟩:=hs.cs
  refine bW ht.1.1 m1 (bW ht.2.1 m2 (bW ht.1.1 c1 (bW ht.2.1 c2 (x_eq (lU h.toS0 ht hc hs.en hs.pp) (aT _ (aZW hn hs.io.pp hs.kk hq) λr hr=>?_)))))
  repeat' with_reducible first | refine bF ?_ | refine dP ?_ | apply aD | apply bE | apply dS | apply dI | apply dN | apply dR | apply dO | apply dL | apply dU | apply dQ | refine aH (λ_=>?_) λ_=>?_ | refine dG (λ_=>?_) λ_=>?_ | apply cO | apply bU | apply bY | apply bK | apply aF
  · rename_i k;exact .inr ⟨k,rfl⟩
  rename_i kz
  rcases hr with ⟨r1,r2,r3,r4,r5⟩ | r1
  rotate_left
  · exact absurd r1 kz
  refine x_eq (uE h hs) (aF (.inl ⟨rfl,x,m,o,p,p2,r.1,hs,rfl,?_,r3,r2,r4,r5⟩))
  obtain ⟨g1,g2,g3,g4,g5,g6,g7⟩:=r3
  have i1:=hs.io.sq;have i3:=hs.io.ss
  have b1:=gN g1.ly;have b2:=gN hs.io.pp.ly
  have b3:=lV r.2.1.bN
  refine ⟨g1,hs.io.qq,?_,by omega⟩
  cases hw:r.2.2.1 with
  | false=>have:=r4 hw;omega
  | true=>have:=(r5 hw).1;rw [this] at g2;simp only at g2;omega
structure nJ (x:aP) (d:Int) (f:Nat->Int):Prop where
  ctl:sV x.bS=bl x 0+d
  qA:dD x.Down=-bl x 11
  rY:dD x.dK=0
  o6:∀ (i:Nat) r p q,x.dH[i]?=some r->x.bS[2*i]?=some p->x.bS[2*i+1]?=some q->kQ r+f i=tV p.aG+tV q.aG
theorem EB.x {x:aP} (h:EB x):nJ x 0 (λ_=>0):=⟨by have:=h.ctl;omega,h.qA,h.rY,λi r p q h1 h2 h3=>by have:=h.o6 i r p q h1 h2 h3;omega⟩
theorem nJ.done {x:aP} {d:Int} {f:Nat->Int} (h:nJ x d f) (hd:d=0) (hf:∀ i,f i=0):EB x:=⟨by have:=h.ctl;omega,h.qA,h.rY,λi r p q h1 h2 h3=>by have:=h.o6 i r p q h1 h2 h3;have:=hf i;omega⟩
def bump (f:Nat->Int) (i:Nat) (v:Int) (j:Nat):Int:=f j+if j=i then v else 0
theorem nJ.put {x:aP} {d:Int} {f:Nat->Int} (h:nJ x d f) {i c:Nat} {p p':aQ} (hc:c<2) (hp:x.bS[2*i+c]?=some p) {v:Int} (hv:tV p'.aG-tV p.aG=v):nJ { x with bS:=x.bS.set (2*i+c) p' } (d+v) (bump f i v):=by
  have hk:2*i+c<x.bS.length:=(List.getElem?_eq_some_iff.1 hp).1
  refine ⟨?_,h.qA,h.rY,?_⟩
  · show sV (x.bS.set (2*i+c) p')=bl x 0+(d+v)
    rw [RF hp];have:=h.ctl;omega
  · intro j r a b hr ha hb
    have ha:(x.bS.set (2*i+c) p')[2*j]?=some a:=ha
    have hb:(x.bS.set (2*i+c) p')[2*j+1]?=some b:=hb
    rw [lW hk] at ha hb
    unfold bump
    by_cases hj:j=i
    · subst hj
      rw [if_pos rfl]
      rcases (by omega:c=0\/c=1) with rfl | rfl
      · rw [if_pos (by omega)] at ha;rw [if_neg (by omega)] at hb;cases ha
        have h1:=h.o6 j r p b hr hp hb
        omega
      · rw [if_neg (by omega)] at ha;rw [if_pos (by omega)] at hb;cases hb
        have h1:=h.o6 j r a p hr ha hp
        omega
    · rw [if_neg (by omega)] at ha hb
      rw [if_neg hj,Int.add_zero]
      exact h.o6 j r a b hr ha hb
theorem nJ.roll {x:aP} {d:Int} {f:Nat->Int} (h:nJ x d f) {i:Nat} {r0 r:cK} (hr:x.dH[i]?=some r0):nJ { x with dH:=x.dH.set i (qT r0 r) } d (bump f i (-kQ r)):=by
  have hk:i<x.dH.length:=(List.getElem?_eq_some_iff.1 hr).1
  refine ⟨h.ctl,h.qA,h.rY,?_⟩
  intro j s a b hs ha hb
  have hs:(x.dH.set i (qT r0 r))[j]?=some s:=hs
  rw [lW hk] at hs
  unfold bump
  by_cases hj:j=i
  · subst hj
    rw [if_pos rfl] at hs;cases hs;rw [if_pos rfl]
    have h1:=h.o6 j r0 a b hr ha hb
    unfold kQ qT at *
    simp only
    omega
  · rw [if_neg (Ne.symm hj)] at hs;rw [if_neg hj,Int.add_zero]
    exact h.o6 j s a b hs ha hb
theorem nJ.post {x:aP} {d:Int} {f:Nat->Int} (h:nJ x d f) {l:List aS} {b:List Int} (hb:OA x.dK l b) (h11:eD l 11=0):nJ { x with dK:=b } (d-eD l 0) f:=by
  obtain ⟨b1,b2,b3,b4⟩:=hb
  have e0:b.getD 0 0=x.dK.getD 0 0+eD l 0:=b3 0 (by decide)
  have e11:b.getD 11 0=x.dK.getD 11 0+eD l 11:=b3 11 (by decide)
  refine ⟨?_,?_,?_,h.o6⟩
  · show sV x.bS=b.getD 0 0+(d-eD l 0)
    have:=h.ctl;unfold bl at this;omega
  · show dD x.Down=-b.getD 11 0
    have:=h.qA;unfold bl at this;omega
  · show dD b=0
    rw [b4];exact h.rY
structure On (s:aA) (e:Nat) (bL:List Int) (t:aA) (x:aP) (d:Int) (f:Nat->Int):Prop where
  en:e<s.bC.length
  ms:s.bJ.Methods[e]?=some bL
  eq:t=kP s e x
  es:ES s.bJ.cB.length bL s.bJ.gP x
  eb:nJ x d f
  opn:x.Closed=false
  lF:x.fP=[]
theorem aPD {s:aA} {e:Nat} {x:aP} (h:s.bC[e]?=some x):s=kP s e x:=by
  have:s.bC.set e x=s.bC:=by
    obtain ⟨h1,h2⟩:=List.getElem?_eq_some_iff.1 h
    subst h2;exact List.set_getElem_self h1
  unfold kP;rw [this]
theorem On.start {s:aA} {e:Nat} {bL:List Int} {x:aP} (hx:s.bC[e]?=some x) (hm:s.bJ.Methods[e]?=some bL) (ho:EO s.bJ bL x):On s e bL s x 0 (λ_=>0) :=
  ⟨(List.getElem?_eq_some_iff.1 hx).1,hm,aPD hx,ho.es,ho.ee.x,ho.opn,ho.lF⟩
theorem On.at {s:aA} {e:Nat} {bL:List Int} {t:aA} {x:aP} {d:Int} {f:Nat->Int} (h:On s e bL t x d f):t.bC[e]?=some x:=by rw [h.eq];exact GJ h.en
theorem On.ss {s:aA} {e:Nat} {bL:List Int} {t:aA} {x:aP} {d:Int} {f:Nat->Int} (hs:SS s) (h:On s e bL t x d f):SS t:=by
  rw [h.eq]
  exact hs.up (List.getElem?_eq_getElem h.en) λm hm=>by rw [h.ms] at hm;cases hm;exact h.es
theorem On.done {s:aA} {e:Nat} {bL:List Int} {t:aA} {x:aP} {d:Int} {f:Nat->Int} (h:On s e bL t x d f) (hd:d=0) (hf:∀ i,f i=0):EO s.bJ bL x:=⟨h.es,h.eb.done hd hf,h.opn,h.lF⟩
theorem On.set {s:aA} {e:Nat} {bL:List Int} {t:aA} {x y:aP} {d d':Int} {f f':Nat->Int} (h:On s e bL t x d f) (hes:ES s.bJ.cB.length bL s.bJ.gP y) (heb:nJ y d' f') (ho:y.Closed=x.Closed) (ha:y.fP=x.fP):On s e bL (kP t e y) y d' f' :=
  ⟨h.en,h.ms,by rw [h.eq,NA],hes,heb,ho.trans h.opn,ha.trans h.lF⟩
theorem On.brought {s:aA} {e i c:Int} {bL:List Int} {t t':aA} {x:aP} {d:Int} {f:Nat->Int} {l:aB} {carried above:Int} (h:On s e.toNat bL t x d f) (hb:MH t e i c l t' carried above) :
    ∃ x',On s e.toNat bL t' x' (d+carried) (bump f i.toNat carried)/\x'.dK=x.dK/\x'.fO=x.fO/\x'.dH=x.dH:=by
  obtain ⟨y,m,k,p,q,p',hs,e1,hio,hc,e2,hab⟩:=hb
  have hy:=hs.en;rw [h.at] at hy;cases hy
  obtain ⟨c1,c2,c3,c4,c5,c6,c7⟩:=hc
  have hlc:=hs.lc;have hth:=hs.th.2
  have hM:t.bJ=s.bJ:=by rw [h.eq];rfl
  rw [hM] at hth
  have g:=h.es.put (by omega) (by omega) (hs.es bL (by rw [hM];exact h.ms)).1 hs.qq hio
  exact ⟨{ x with bS:=x.bS.set (2*i.toNat+c.toNat) p' },by rw [e1];exact h.set g (h.eb.put (p:=p) (p':=p') (by omega) hs.pp (v:=carried) (by omega)) rfl rfl,rfl,rfl,rfl⟩
theorem On.vP {s:aA} {e i c k q:Int} {bL:List Int} {t t':aA} {x:aP} {d:Int} {f:Nat->Int} {l:aB} {w:Bool} (h:On s e.toNat bL t x d f) (hb:NJ t e i c k q t' l w) :
    ∃ x',On s e.toNat bL t' x' (d+-l.Value) (bump f i.toNat (-l.Value))/\x'.dK=x.dK/\x'.fO=x.fO/\x'.dH=x.dH:=by
  obtain ⟨y,m,o,p,p2,p',hs,e1,hio,hc,_⟩:=hb
  have hy:=hs.en;rw [h.at] at hy;cases hy
  obtain ⟨c1,c2,c3,c4,c5,c6,c7⟩:=hc
  have hlc:=hs.lc;have hth:=hs.th.2
  have hM:t.bJ=s.bJ:=by rw [h.eq];rfl
  rw [hM] at hth
  have g:=h.es.put (by omega) (by omega) (hs.es bL (by rw [hM];exact h.ms)).1 hs.qq hio
  exact ⟨{ x with bS:=x.bS.set (2*i.toNat+c.toNat) p' },by rw [e1];exact h.set g (h.eb.put (p:=p) (p':=p') (by omega) hs.pp (v:=-l.Value) (by omega)) rfl rfl,rfl,rfl,rfl⟩
theorem On.sH {s:aA} {e:Int} {bL:List Int} {t t':aA} {x:aP} {d:Int} {f:Nat->Int} {l:List aS} (h:On s e.toNat bL t x d f) (hb:zY t e l t') (h11:eD l 11=0) :
    ∃ x',On s e.toNat bL t' x' (d-eD l 0) f/\(∀ a:Nat,a<17->bl x' a=bl x a+eD l a)/\x'.fO=x.fO/\x'.dH=x.dH:=by
  obtain ⟨y,b,he,hy,hp,e1⟩:=hb
  rw [h.at] at hy;cases hy
  exact ⟨{ x with dK:=b },by rw [e1];exact h.set (h.es.KU hp.1 hp.2.1) (h.eb.post hp h11) rfl rfl,λa ha=>hp.2.2.1 a ha,rfl,rfl⟩
theorem On.xM {s:aA} {e i:Int} {bL:List Int} {t t':aA} {x:aP} {d:Int} {f:Nat->Int} {r:cK} (h:On s e.toNat bL t x d f) (hb:OM t e i r t') :
    ∃ x',On s e.toNat bL t' x' d (bump f i.toNat (-kQ r))/\x'.dK=x.dK/\x'.fO=x.fO:=by
  obtain ⟨y,r0,ht,hy,hr0,hr,e1⟩:=hb
  rw [h.at] at hy;cases hy
  exact ⟨{ x with dH:=x.dH.set i.toNat (qT r0 r) },by rw [e1];exact h.set (h.es.aIZ hr) (h.eb.roll hr0) rfl rfl,rfl,rfl⟩
def Kept (K:Int) (s:aA) (r:aA×Int):Prop:=(r.2=0/\Inv K r.1)\/(r.2≠0/\r.1=s)
theorem rQ {K:Int} {s:aA} (h:Inv K s) (e i:Int):Ex (λr=>r=0->gM s e i/\∃ x bL,s.bC[e.toNat]?=some x/\s.bJ.Methods[e.toNat]?=some bL/\EO s.bJ bL x) (nD s e i):=by
  unfold nD TT
  simp only [WT.run,bR,qC h.ss.toS0,Option.bind_some]
  repeat' with_reducible first | refine bF ?_ | refine dP ?_ | apply aD | apply bE | apply dS | apply dI | apply dN | apply dR | apply dO | apply dL | apply dU | apply dQ | refine aH (λ_=>?_) λ_=>?_ | refine dG (λ_=>?_) λ_=>?_ | apply cO | apply bU | apply bY | apply bK | apply aF
  · exact λk=>nomatch k
  rename_i ht
  have ht:=of_decide_eq_true ht
  obtain ⟨x,hx⟩:=ht.at
  obtain ⟨bL,hm,_⟩:=h.ss.bL hx
  refine bW ht.1.1 hx (eX (λ_=>aF (λk=>nomatch k)) λk=>aF λ_=>⟨ht,x,bL,hx,hm,?_⟩)
  rcases h.ent _ _ _ hx hm with h | ⟨y,h⟩
  · exact h
  · rw [h.JN] at k;cases k
theorem gH (x:aS) (l:List aS) (a:Int):eD (x :: l) a=(if x.dM=a then x.bO else 0)+eD l a:=rfl
theorem gF (a:Int):eD [] a=0:=rfl
theorem On.inv {K:Int} {s:aA} (hI:Inv K s) {e:Int} {bL:List Int} {t:aA} {x y:aP} {d:Int} {f:Nat->Int} (h:On s e.toNat bL t y d f) (hx:s.bC[e.toNat]?=some x) (hd:d=0) (hf:∀ i,f i=0) {R:List eU} {S:List eH} {T:List fU}
    (hR:∀ r∈R,yE s.bJ r) (hS:∀ r∈S,pU s.bJ r) (hT:∀ r∈T,DI s.bJ r) (l1:R.length<=40) (l2:S.length<=40) (l3:T.length<=40)
    (ha:dZ (iU e.toNat) R-dZ (iU e.toNat) s.cZ=bl x 1-bl y 1) (ha':∀ f,f≠e.toNat->dZ (iU f) R=dZ (iU f) s.cZ)
    (hw:dZ (iI e.toNat) T-dZ (iI e.toNat) s.dJ=bl y 12-bl x 12) (hw':∀ f,f≠e.toNat->dZ (iI f) T=dZ (iI f) s.dJ)
    (hg:kF y=kF x):Inv K ⟨t.bJ,t.bC,R,S,T,t.Done⟩:=by
  rw [h.eq]
  exact hI.up hx h.ms (.inl (h.done hd hf)) hR hS hT l1 l2 l3 ha ha' hw hw' hg
theorem MH.facts {s t:aA} {e i c:Int} {l:aB} {carried above:Int} (h:MH s e i c l t carried above):gM s e i/\(0<=c/\c<=1)/\(1<=l.aI/\l.aI<=288230376151711744)/\(0<=l.Value/\l.Value<=288230376151711744)/\(-288230376151711744<=above/\above<=288230376151711744)/\carried=l.Value-above/\(-288230376151711744<=carried/\carried<=288230376151711744):=by
  obtain ⟨y,m,k,p,q,p',hs,e1,hio,hc,e2,hab⟩:=h
  obtain ⟨c1,c2,c3,c4,c5,c6,c7⟩:=hc
  have b1:=gN c1.ly;have b2:=gN hs.io.pp.ly
  exact ⟨hs.th,hs.lc,c6,c7,hab,e2,by omega⟩
theorem NJ.facts {s t:aA} {e i c k q:Int} {l:aB} {w:Bool} (h:NJ s e i c k q t l w):gM s e i/\(0<=c/\c<=1)/\(1<=q/\q<=288230376151711744\/w=true)/\(0<=l.Value/\l.Value<=288230376151711744)/\(-288230376151711744<=l.bN/\l.bN<=288230376151711744)/\1<=q:=by
  obtain ⟨y,m,o,p,p2,p',hs,e1,hio,hc,h1,h2,h3⟩:=h
  obtain ⟨c1,c2,c3,c4,c5,c6,c7⟩:=hc
  have b1:=gN c1.ly;have b2:=gN hs.io.pp.ly
  refine ⟨hs.th,hs.lc,?_,c6,c7,h1⟩
  cases hw:w with
  | true=>exact .inr rfl
  | false=>have:=h2 hw;exact .inl (by omega)
theorem On.rc {s:aA} {e:Nat} {bL:List Int} {t:aA} {x:aP} {d:Int} {f:Nat->Int} (h:On s e bL t x d f):t.cZ=s.cZ/\t.dY=s.dY/\t.dJ=s.dJ/\t.bJ=s.bJ/\t.bC.length=s.bC.length:=by
  rw [h.eq];exact ⟨rfl,rfl,rfl,rfl,List.length_set ..⟩
theorem nI {x y:aP} (h:y.dK=x.dK) (a:Nat):bl y a=bl x a:=by unfold bl;rw [h]
theorem tJ {i:Nat} {v w:Int} (h:v+w=0):∀ j,bump (bump (λ_=>0) i v) i w j=0:=by
  intro j;show (0+_)+_=(0:Int);split <;> omega
theorem mQ {α:Type} {P:α->Prop} {l:List α} {x:α} (h:∀ r∈l,P r) (hx:P x):∀ r∈l++[x],P r:=by
  intro r hr;rcases List.mem_append.1 hr with hr | hr
  · exact h r hr
  · rw [List.mem_singleton] at hr;subst hr;exact hx
theorem r15 {K:Int} {s:aA} {o:bM} {n:Nat} (hn:66<n) (h:Inv K s) (hq:o.aI<=9223372036854775807) (ha:0<=o.bO/\o.bO<=288230376151711744):Ex (Kept K s) (FM n s o):=by
  unfold FM aB6
  simp only [WT.run,bR]
  repeat' with_reducible first | refine bF ?_ | refine dP ?_ | apply aD | apply bE | apply dS | apply dI | apply dN | apply dR | apply dO | apply dL | apply dU | apply dQ | refine aH (λ_=>?_) λ_=>?_ | refine dG (λ_=>?_) λ_=>?_ | apply cO | apply bU | apply bY | apply bK | apply aF
  · exact .inr ⟨by simp,rfl⟩
  refine aT _ (rQ h o.E o.Item) λr hr=>?_
  repeat' with_reducible first | refine bF ?_ | refine dP ?_ | apply aD | apply bE | apply dS | apply dI | apply dN | apply dR | apply dO | apply dL | apply dU | apply dQ | refine aH (λ_=>?_) λ_=>?_ | refine dG (λ_=>?_) λ_=>?_ | apply cO | apply bU | apply bY | apply bK | apply aF
  · rename_i k;exact .inr ⟨k,rfl⟩
  · exact .inr ⟨by simp,rfl⟩
  rename_i k1 k2
  obtain ⟨ht,x,bL,hx,hm,ho⟩:=hr (by omega)
  have o0:=On.start hx hm ho
  refine aT _ (yS (l:=⟨o.aI,o.bO,0⟩) hn h.ss hq) λb hb=>?_
  repeat' with_reducible first | refine bF ?_ | refine dP ?_ | apply aD | apply bE | apply dS | apply dI | apply dN | apply dR | apply dO | apply dL | apply dU | apply dQ | refine aH (λ_=>?_) λ_=>?_ | refine dG (λ_=>?_) λ_=>?_ | apply cO | apply bU | apply bY | apply bK | apply aF
  · rename_i k;exact .inr ⟨k,rfl⟩
  rename_i k3
  rcases hb with ⟨_,hb⟩ | ⟨k,_⟩
  rotate_left
  · exact absurd k k3
  obtain ⟨f1,f2,f3,f4,f5,f6,f7⟩:=hb.facts
  obtain ⟨x1,o1,p1,p2,p3⟩:=o0.brought hb
  refine aT _ (oP hn (o1.ss h.ss) (by simp)) λc hc=>?_
  repeat' with_reducible first | refine bF ?_ | refine dP ?_ | apply aD | apply bE | apply dS | apply dI | apply dN | apply dR | apply dO | apply dL | apply dU | apply dQ | refine aH (λ_=>?_) λ_=>?_ | refine dG (λ_=>?_) λ_=>?_ | apply cO | apply bU | apply bY | apply bK | apply aF
  · rename_i k;exact .inr ⟨k,rfl⟩
  rename_i k4
  rcases hc with ⟨_,hc⟩ | ⟨k,_⟩
  rotate_left
  · exact absurd k k4
  obtain ⟨x2,o2,q1,q2,q3⟩:=o1.sH hc (by simp [gH,gF])
  refine aT _ (sU hn (o2.ss h.ss)) λd hd=>?_
  repeat' with_reducible first | refine bF ?_ | refine dP ?_ | apply aD | apply bE | apply dS | apply dI | apply dN | apply dR | apply dO | apply dL | apply dU | apply dQ | refine aH (λ_=>?_) λ_=>?_ | refine dG (λ_=>?_) λ_=>?_ | apply cO | apply bU | apply bY | apply bK | apply aF
  · rename_i k;exact .inr ⟨k,rfl⟩
  rename_i k5
  rcases hd with ⟨_,hd⟩ | ⟨k,_⟩
  rotate_left
  · exact absurd k k5
  obtain ⟨x3,o3,r1,r2⟩:=o2.xM hd
  obtain ⟨g1,g2,g3,g4,g5⟩:=o3.rc
  have hl1:=h.l1;have hlen:=h.len;have hth:=f1.1;have hth2:=f1.2
  refine iF (by rw [g1];omega) (aD (iF (by rw [g1];simp;omega) (aF (.inl ⟨rfl,?_⟩))))
  have hB:∀ a:Nat,a<17->bl x3 a=bl x a+eD [⟨0,b.2.1⟩,⟨6,b.2.2.1⟩,⟨1,0-o.bO⟩] a:=λa ha=>by rw [nI r1,q1 a ha,nI p1]
  have b1:=hB 1 (by decide);have b12:=hB 12 (by decide);have b13:=hB 13 (by decide);have b14:=hB 14 (by decide)
  simp [gH,gF] at b1 b12 b13 b14
  refine o3.inv h hx (by simp [gH,gF]) (tJ (by simp [kQ];omega)) ?_ (by rw [g2];exact h.nA) (by rw [g3];exact h.nO) (by rw [g1];simp;omega) (by rw [g2];exact h.l2) (by rw [g3];exact h.l3) ?_ ?_ (by rw [g3];omega) (by intro f _;rw [g3]) (by unfold kF;omega)
  · rw [g1]
    refine mQ h.mK ⟨by simp only;omega,hth2,f2,?_,f4,?_,f4,?_⟩
    all_goals (simp only at *;omega)
  · rw [g1,xD]
    simp only [dZ,iU]
    rw [if_pos (by omega)];omega
  · intro f hf
    rw [g1,xD]
    simp only [dZ,iU]
    rw [if_neg (by omega)];omega
end Go.Pv
