import Derived.Test.YtidcjedeacampaaGreatJ70
set_option linter.unusedVariables false
set_option linter.unusedSimpArgs false
namespace Go.Pv
open Go.Proofs
set_option maxRecDepth 100000
set_option maxHeartbeats 1000000
structure S0 (s:aB):Prop where
  kF:qL s.bF
  len:(s.bA.length:Int)=s.bF.gG
structure SS (s:aB):Prop extends S0 s where
  es:∀ (e:Nat) x bH,s.bA[e]?=some x->s.bF.Methods[e]?=some bH->ES s.bF.bW.length bH s.bF.gZ x
theorem Inv.ss {K:Int} {s:aB} (h:Inv K s):SS s:=⟨⟨h.kF,h.len⟩,λe x bH hx hm=>by rcases h.ent e x bH hx hm with h | ⟨y,h⟩;exact h.es;exact h.es⟩
theorem SS.bH {s:aB} (h:SS s) {e:Nat} {x:aP} (hx:s.bA[e]?=some x):∃ bH,s.bF.Methods[e]?=some bH/\bH.length=s.bF.bW.length/\(∀ x∈bH,1<=x/\x<=4)/\ES s.bF.bW.length bH s.bF.gZ x:=by
  have h1:=h.len;have h2:=h.kF.lm
  have he:e<s.bA.length:=(List.getElem?_eq_some_iff.1 hx).1
  have h3:e<s.bF.Methods.length:=by omega
  have e1:=List.getElem?_eq_getElem h3
  exact ⟨_,e1,(h.kF.met _ (fO e1)).1,(h.kF.met _ (fO e1)).2,h.es e x _ hx e1⟩
theorem SS.up {s:aB} (h:SS s) {e:Nat} {x x':aP} (hx:s.bA[e]?=some x) (hs:∀ bH,s.bF.Methods[e]?=some bH->ES s.bF.bW.length bH s.bF.gZ x'):SS (mO s e x'):=by
  have hk:e<s.bA.length:=(List.getElem?_eq_some_iff.1 hx).1
  refine ⟨⟨h.kF,by show ((s.bA.set e x').length:Int)=_;rw [List.length_set];exact h.len⟩,?_⟩
  intro f y ms hy hms
  have hy:(s.bA.set e x')[f]?=some y:=hy
  rw [mE hk] at hy
  by_cases hf:e=f
  · subst hf;rw [if_pos rfl] at hy;cases hy;exact hs ms hms
  · rw [if_neg hf] at hy;exact h.es f y ms hy hms
theorem qX (a b:Int):jV a b=some (decide (0<=a/\a<=b)):=by
  refine gF ?_
  unfold jV X3
  simp only [WT.run,bT]
  repeat' with_reducible first | refine bG ?_ | refine dZ ?_ | apply aD | apply bK | apply dY | apply dN | apply eB | apply d9 | apply dV | apply dQ | apply dW | apply dU | refine aQ (λ_=>?_) λ_=>?_ | refine dK (λ_=>?_) λ_=>?_ | apply dF | apply bU | apply dA | apply bL | apply aG
  · simp;omega
  · simp;omega
def iH (s:aB) (e i:Int):Prop:=(0<=e/\e<(s.bA.length:Int))/\(0<=i/\i<(s.bF.bW.length:Int))
instance (s:aB) (e i:Int):Decidable (iH s e i):=inferInstanceAs (Decidable (_/\_))
theorem S0.iK {s:aB} (h:S0 s):s.bA.length<=4/\1<=s.bA.length/\s.bF.bW.length<=5:=by
  have:=h.len;have:=h.kF.xE;have:=h.kF.n1;omega
theorem uJ {s:aB} (h:S0 s) (e i:Int):yD s e i=some (decide (iH s e i)):=by
  have:=h.iK
  refine gF ?_
  unfold yD XR
  simp only [WT.run,bT,qX,Option.bind_some]
  repeat' with_reducible first | refine bG ?_ | refine dZ ?_ | apply aD | apply bK | apply dY | apply dN | apply eB | apply d9 | apply dV | apply dQ | apply dW | apply dU | refine aQ (λ_=>?_) λ_=>?_ | refine dK (λ_=>?_) λ_=>?_ | apply dF | apply bU | apply dA | apply bL | apply aG
  · exact decide_eq_decide.2 (by unfold iH;omega)
  · exact (decide_eq_false (by unfold iH;omega)).symm
theorem iH.at {s:aB} {e i:Int} (h:iH s e i):∃ x,s.bA[e.toNat]?=some x:=by
  have:=h.1
  exact ⟨_,List.getElem?_eq_getElem (by omega)⟩
structure o8 (s:aB) (e i c:Int) (x:aP) (m k:Int) (p q:aS):Prop where
  th:iH s e i
  lc:0<=c/\c<=1
  en:s.bA[e.toNat]?=some x
  ms:∃ bH,s.bF.Methods[e.toNat]?=some bH/\bH[i.toNat]?=some m
  cs:∃ cs,s.bF.gX[e.toNat]?=some cs/\cs[i.toNat]?=some k
  kk:0<=k/\k<=1073741824
  pp:x.bR[2*i.toNat+c.toNat]?=some p
  qq:x.bR[2*i.toNat+(1-c.toNat)]?=some q
  io:IO m p q
  es:∀ bH,s.bF.Methods[e.toNat]?=some bH->bH[i.toNat]?=some m/\ES s.bF.bW.length bH s.bF.gZ x
theorem SS.spot {s:aB} (h:SS s) {e i c:Int} (ht:iH s e i) (hc:0<=c/\c<=1):∃ x m k p q,o8 s e i c x m k p q:=by
  obtain ⟨x,hx⟩:=ht.at
  obtain ⟨bH,hm,hl,h4,hes⟩:=h.bH hx
  have h1:=h.len;have h2:=h.kF.lc;have ht1:=ht.1;have ht2:=ht.2
  have h3:e.toNat<s.bF.gX.length:=by omega
  have e1:=List.getElem?_eq_getElem h3
  have hcs:=h.kF.cos _ (fO e1)
  have h5:i.toNat<(s.bF.gX[e.toNat]).length:=by rw [hcs.1];omega
  have e2:=List.getElem?_eq_getElem h5
  obtain ⟨m,p,q,hm2,hp,hq,hio⟩:=hes.at (i:=i.toNat) (c:=c.toNat) (by omega) (by omega)
  exact ⟨x,m,_,p,q,⟨ht,hc,hx,⟨bH,hm,hm2⟩,⟨_,e1,e2⟩,hcs.2 _ (fO e2),hp,hq,hio,λmts' hm'=>by rw [hm] at hm';cases hm';exact ⟨hm2,hes⟩⟩⟩
theorem pX {s:aB} (h:S0 s) {e i c:Int} {x:aP} {p:aS} (ht:iH s e i) (hc:0<=c/\c<=1) (hx:s.bA[e.toNat]?=some x) (hp:x.bR[2*i.toNat+c.toNat]?=some p):rG s e i c=some p:=by
  have hf:=h.iK
  obtain ⟨t1,t2⟩:=ht
  have hl:2*i.toNat+c.toNat<x.bR.length:=(List.getElem?_eq_some_iff.1 hp).1
  have ei:(i*2+c).toNat=2*i.toNat+c.toNat:=by omega
  refine gF ?_
  unfold rG ZU
  simp only [WT.run,bT,qX,uJ h,Option.bind_some]
  rw [decide_eq_true (p:=iH s e i) ⟨t1,t2⟩,decide_eq_true (p:=0<=c/\c<=1) hc]
  refine aW (λb=>b=false) (aD (bU (aD (bU (bG (bG (dB t1.1 hx (aD (aG ?_))))))))) λb hb=>?_
  · exact decide_eq_false (by omega)
  · subst hb
    exact bU (dB t1.1 hx (bG (bG (dB (by omega) (by rw [ei];exact hp) (aG rfl)))))
theorem ES.iK {n:Nat} {bH:List Int} {iZ:Int} {x:aP} (h:ES n bH iZ x) (hn:n<=5):x.bR.length<=10/\x.dJ.length<=5/\x.dI.length=17/\x.gJ.length<=5/\x.Down.length<=5:=by
  have:=h.lp;have:=h.lr;have:=h.lb;have:=h.lc;have:=h.ld;omega
theorem o8.es' {s:aB} {e i c m k:Int} {x:aP} {p q:aS} (h:o8 s e i c x m k p q):∃ bH,s.bF.Methods[e.toNat]?=some bH/\bH[i.toNat]?=some m/\ES s.bF.bW.length bH s.bF.gZ x:=by
  obtain ⟨bH,h1,h2⟩:=h.ms
  exact ⟨bH,h1,h2,(h.es bH h1).2⟩
theorem yY {s:aB} (h:SS s) {e i c m k:Int} {x:aP} {p q p':aS} (hs:o8 s e i c x m k p q):wI s e i c p'=some (mO s e.toNat { x with bR:=x.bR.set (2*i.toNat+c.toNat) p' }):=by
  have hf:=h.toS0.iK
  obtain ⟨t1,t2⟩:=hs.th
  obtain ⟨bH,m1,m2,hes⟩:=hs.es'
  have hl:=hes.iK hf.2.2
  have hc:=hs.lc
  have ei:(i*2+c).toNat=2*i.toNat+c.toNat:=by omega
  refine gF ?_
  unfold wI ZO
  simp only [WT.run,bT]
  repeat' with_reducible first | refine bG ?_ | refine dZ ?_ | apply aD | apply bK | apply dY | apply dN | apply eB | apply d9 | apply dV | apply dQ | apply dW | apply dU | refine aQ (λ_=>?_) λ_=>?_ | refine dK (λ_=>?_) λ_=>?_ | apply dF | apply bU | apply dA | apply bL | apply aG | refine dO ?_
  refine dB t1.1 hs.en ?_
  repeat' with_reducible first | refine bG ?_ | refine dZ ?_ | apply aD | apply bK | apply dY | apply dN | apply eB | apply d9 | apply dV | apply dQ | apply dW | apply dU | refine aQ (λ_=>?_) λ_=>?_ | refine dK (λ_=>?_) λ_=>?_ | apply dF | apply bU | apply dA | apply bL | apply aG | refine dO ?_
  refine dB t1.1 hs.en (bG (bG (dB (by omega) (by rw [ei];exact hs.pp) (aD (aG ?_)))))
  rw [ei];rfl
theorem sO (a b:Int):(bN a->bN b->bN (a+b)->gP [a,b]=(a+b,0))/\((gP [a,b]).2=0->bN a/\bN b/\bN (a+b))/\0<=(gP [a,b]).2:=by
  unfold gP
  by_cases h1:bN a
  · by_cases h2:bN b/\bN (a+b)
    · have e:iQ 0 [a,b]=some (a+b):=by
        rw [iQ,if_pos ⟨by decide,h1,by rw [Int.zero_add];exact h1⟩,iQ,if_pos ⟨by rw [Int.zero_add];exact h1,h2.1,by rw [Int.zero_add];exact h2.2⟩,iQ,Int.zero_add]
      rw [e];exact ⟨λ_ _ _=>rfl,λ_=>⟨h1,h2.1,h2.2⟩,Int.le_refl 0⟩
    · have e:iQ 0 [a,b]=none:=by
        rw [iQ,if_pos ⟨by decide,h1,by rw [Int.zero_add];exact h1⟩,iQ,if_neg (by rw [Int.zero_add];exact λk=>h2 k.2)]
      rw [e];exact ⟨λ_ k1 k2=>absurd ⟨k1,k2⟩ h2,λk=>absurd k (by decide),by decide⟩
  · have e:iQ 0 [a,b]=none:=by rw [iQ,if_neg (λk=>h1 k.2.1)]
    rw [e];exact ⟨λk=>absurd k h1,λk=>absurd k (by decide),by decide⟩
theorem NP {s:aB} {n:Nat} (hn:66<n) (h:S0 s) {e i:Int} {x:aP} {p q:aS} (ht:iH s e i) (hx:s.bA[e.toNat]?=some x) (hp:x.bR[2*i.toNat]?=some p) (hq:x.bR[2*i.toNat+1]?=some q) (lp:LR p.aI) (lq:LR q.aI) :
    Ex (λr=>r.1=⟨(gP [tQ p.aI,tQ q.aI]).1,(gP [tV p.aI,tV q.aI]).1,(gP [tP p.aI,tP q.aI]).1⟩/\(r.2=0↔(gP [tQ p.aI,tQ q.aI]).2=0/\(gP [tV p.aI,tV q.aI]).2=0/\(gP [tP p.aI,tP q.aI]).2=0)) (BC n s e i):=by
  have a0:=pX (c:=0) h ht (by omega) hx hp
  have a1:=pX (c:=1) h ht (by omega) hx hq
  obtain ⟨m,rfl⟩:∃ m,n=m+3:=⟨n-3,by omega⟩
  unfold BC aAV
  simp only [WT.run,bT]
  refine aW (λr=>r=([tQ p.aI,tQ q.aI],[tV p.aI,tV q.aI],[tP p.aI,tP q.aI])) ?_ λr hr=>?_
  · show Ex _ (iter _ (m+2+1) _)
    refine aW (λr=>r=.inl (1,[tQ p.aI],[tV p.aI],[tP p.aI])) ?_ λr hr=>?_
    · refine bK (bK (bK (aD (aQ (λ_=>?_) λk=>absurd (show (0:Int)<2 by decide) k))))
      refine x_eq a0 (x_eq (y8 hn lp) ?_)
      repeat' with_reducible first | refine bG ?_ | refine dZ ?_ | apply aD | apply bK | apply dY | apply dN | apply eB | apply d9 | apply dV | apply dQ | apply dW | apply dU | refine aQ (λ_=>?_) λ_=>?_ | refine dK (λ_=>?_) λ_=>?_ | apply dF | apply bU | apply dA | apply bL | apply aG
      refine jX (by simp) ?_
      repeat' with_reducible first | refine bG ?_ | refine dZ ?_ | apply aD | apply bK | apply dY | apply dN | apply eB | apply d9 | apply dV | apply dQ | apply dW | apply dU | refine aQ (λ_=>?_) λ_=>?_ | refine dK (λ_=>?_) λ_=>?_ | apply dF | apply bU | apply dA | apply bL | apply aG
      refine jX (by simp) ?_
      repeat' with_reducible first | refine bG ?_ | refine dZ ?_ | apply aD | apply bK | apply dY | apply dN | apply eB | apply d9 | apply dV | apply dQ | apply dW | apply dU | refine aQ (λ_=>?_) λ_=>?_ | refine dK (λ_=>?_) λ_=>?_ | apply dF | apply bU | apply dA | apply bL | apply aG
      refine jX (by simp) ?_
      exact bG (dD rfl)
    · subst hr
      refine dA ?_
      show Ex _ (iter _ (m+1+1) _)
      refine aW (λr=>r=.inl (2,[tQ p.aI,tQ q.aI],[tV p.aI,tV q.aI],[tP p.aI,tP q.aI])) ?_ λr hr=>?_
      · refine bK (bK (bK (aD (aQ (λ_=>?_) λk=>absurd (show (1:Int)<2 by decide) k))))
        refine x_eq a1 (x_eq (y8 hn lq) ?_)
        repeat' with_reducible first | refine bG ?_ | refine dZ ?_ | apply aD | apply bK | apply dY | apply dN | apply eB | apply d9 | apply dV | apply dQ | apply dW | apply dU | refine aQ (λ_=>?_) λ_=>?_ | refine dK (λ_=>?_) λ_=>?_ | apply dF | apply bU | apply dA | apply bL | apply aG
        refine jX (by simp) ?_
        repeat' with_reducible first | refine bG ?_ | refine dZ ?_ | apply aD | apply bK | apply dY | apply dN | apply eB | apply d9 | apply dV | apply dQ | apply dW | apply dU | refine aQ (λ_=>?_) λ_=>?_ | refine dK (λ_=>?_) λ_=>?_ | apply dF | apply bU | apply dA | apply bL | apply aG
        refine jX (by simp) ?_
        repeat' with_reducible first | refine bG ?_ | refine dZ ?_ | apply aD | apply bK | apply dY | apply dN | apply eB | apply d9 | apply dV | apply dQ | apply dW | apply dU | refine aQ (λ_=>?_) λ_=>?_ | refine dK (λ_=>?_) λ_=>?_ | apply dF | apply bU | apply dA | apply bL | apply aG
        refine jX (by simp) ?_
        exact bG (dD rfl)
      · subst hr
        refine dA ?_
        show Ex _ (iter _ (m+1) _)
        refine aW (λr=>r=.inr ([tQ p.aI,tQ q.aI],[tV p.aI,tV q.aI],[tP p.aI,tP q.aI])) ?_ λr hr=>?_
        · exact bK (bK (bK (aD (aQ (λk=>absurd k (show ¬(2:Int)<2 by decide)) λk=>bL (aG rfl)))))
        · subst hr;exact vH rfl
  · subst hr
    refine bK (bK ?_)
    refine x_eq (uM (l:=[tQ p.aI,tQ q.aI]) (by simp;omega) (by simp)) (x_eq (uM (l:=[tV p.aI,tV q.aI]) (by simp;omega) (by simp)) (x_eq (uM (l:=[tP p.aI,tP q.aI]) (by simp;omega) (by simp)) ?_))
    have b1:=(sO (tQ p.aI) (tQ q.aI)).2.2
    have b2:=(sO (tV p.aI) (tV q.aI)).2.2
    have b3:=(sO (tP p.aI) (tP q.aI)).2.2
    refine aD (aG ⟨rfl,?_⟩)
    show (if (gP [tP p.aI,tP q.aI]).2>(if (gP [tV p.aI,tV q.aI]).2>(gP [tQ p.aI,tQ q.aI]).2 then (gP [tV p.aI,tV q.aI]).2 else (gP [tQ p.aI,tQ q.aI]).2) then (gP [tP p.aI,tP q.aI]).2 else (if (gP [tV p.aI,tV q.aI]).2>(gP [tQ p.aI,tQ q.aI]).2 then (gP [tV p.aI,tV q.aI]).2 else (gP [tQ p.aI,tQ q.aI]).2))=0↔_
    repeat' split
    all_goals omega
theorem aST {s:aB} {n:Nat} (hn:66<n) (h:SS s) {e i m:Int} {x:aP} {p q:aS} (ht:iH s e i) (hx:s.bA[e.toNat]?=some x) (hp:x.bR[2*i.toNat]?=some p) (hq:x.bR[2*i.toNat+1]?=some q) (io:IO m p q) (hv:tV p.aI+tV q.aI<=288230376151711744) :
    BC n s e i=some (⟨tQ p.aI+tQ q.aI,tV p.aI+tV q.aI,tP p.aI+tP q.aI⟩,0):=by
  have b1:=jA io.pp.ly;have b2:=jA io.qq.ly
  have:=io.sq;have:=io.ss
  have e1:=(sO (tQ p.aI) (tQ q.aI)).1 (by unfold bN;omega) (by unfold bN;omega) (by unfold bN;omega)
  have e2:=(sO (tV p.aI) (tV q.aI)).1 (by unfold bN;omega) (by unfold bN;omega) (by unfold bN;omega)
  have e3:=(sO (tP p.aI) (tP q.aI)).1 (by unfold bN;omega) (by unfold bN;omega) (by unfold bN;omega)
  refine gF (B8 (NP hn h.toS0 ht hx hp hq io.pp.ly io.qq.ly) λr hr=>?_)
  rw [e1,e2,e3] at hr
  exact Prod.ext hr.1 (hr.2.2 ⟨rfl,rfl,rfl⟩)
theorem PN {s:aB} {n:Nat} (hn:66<n) (h:SS s) {e i m:Int} {x:aP} {p q:aS} (ht:iH s e i) (hx:s.bA[e.toNat]?=some x) (hp:x.bR[2*i.toNat]?=some p) (hq:x.bR[2*i.toNat+1]?=some q) (io:IO m p q) (hv:tV p.aI+tV q.aI<=288230376151711744) :
    xN n s e i=some ⟨tQ p.aI+tQ q.aI,tV p.aI+tV q.aI,tP p.aI+tP q.aI⟩:=by
  unfold xN TX
  simp only [WT.run,bT,aST hn h ht hx hp hq io hv,Option.bind_some]
def DK (s:aB) (e:Int) (l:List aN) (t:aB):Prop:=∃ x b,(0<=e/\e<(s.bA.length:Int))/\s.bA[e.toNat]?=some x/\KC x.dI l b/\t=mO s e.toNat { x with dI:=b }
theorem qA {s:aB} {n:Nat} (hn:66<n) (h:SS s) {e:Int} {l:List aN} (hl:l.length<=60):Ex (λr=>(r.2=0/\DK s e l r.1)\/(r.2≠0/\r.1=s)) (lS n s e l):=by
  have hf:=h.toS0.iK
  unfold lS CJ
  simp only [WT.run,bT,qX,Option.bind_some]
  repeat' with_reducible first | refine bG ?_ | refine dZ ?_ | apply aD | apply bK | apply dY | apply dN | apply eB | apply d9 | apply dV | apply dQ | apply dW | apply dU | refine aQ (λ_=>?_) λ_=>?_ | refine dK (λ_=>?_) λ_=>?_ | apply dF | apply bU | apply dA | apply bL | apply aG
  · exact .inr ⟨(λk=>nomatch k),rfl⟩
  rename_i ht
  have ht:=of_decide_eq_true ht
  have he:0<=e/\e<(s.bA.length:Int):=by omega
  have hx:=List.getElem?_eq_getElem (l:=s.bA) (i:=e.toNat) (by omega)
  generalize s.bA[e.toNat]'(by omega)=x at hx
  obtain ⟨bH,hm,_,_,hes⟩:=h.bH hx
  have hl2:=hes.iK hf.2.2
  refine aW _ (aBT hn hl) λm hP=>?_
  repeat' with_reducible first | refine bG ?_ | refine dZ ?_ | apply aD | apply bK | apply dY | apply dN | apply eB | apply d9 | apply dV | apply dQ | apply dW | apply dU | refine aQ (λ_=>?_) λ_=>?_ | refine dK (λ_=>?_) λ_=>?_ | apply dF | apply bU | apply dA | apply bL | apply aG
  · rename_i k;exact .inr ⟨k,rfl⟩
  rename_i k
  have k:m.2=0:=by omega
  obtain ⟨p1,p2,p3⟩:=hP k
  refine dB he.1 hx (aW _ (aR4 hn (by omega) hes.lb hes.gW) λb hb=>?_)
  repeat' with_reducible first | refine bG ?_ | refine dZ ?_ | apply aD | apply bK | apply dY | apply dN | apply eB | apply d9 | apply dV | apply dQ | apply dW | apply dU | refine aQ (λ_=>?_) λ_=>?_ | refine dK (λ_=>?_) λ_=>?_ | apply dF | apply bU | apply dA | apply bL | apply aG | refine dO ?_
  · rename_i k;exact .inr ⟨k,rfl⟩
  rename_i k2
  have k2:b.2=0:=by omega
  obtain ⟨q1,q2,q3,q4⟩:=hb k2
  refine dB he.1 hx ?_
  repeat' with_reducible first | refine bG ?_ | refine dZ ?_ | apply aD | apply bK | apply dY | apply dN | apply eB | apply d9 | apply dV | apply dQ | apply dW | apply dU | refine aQ (λ_=>?_) λ_=>?_ | refine dK (λ_=>?_) λ_=>?_ | apply dF | apply bU | apply dA | apply bL | apply aG | refine dO ?_
  refine dB he.1 hx (aG (.inl ⟨rfl,x,b.1,he,hx,⟨q1,q2,λa ha=>?_,q4⟩,rfl⟩))
  rw [q3 a ha,p3 a ha]
def II (s:aB) (e i:Int) (r:cB) (t:aB):Prop:=∃ x r0,iH s e i/\s.bA[e.toNat]?=some x/\x.dJ[i.toNat]?=some r0/\y9 (sZ r0 r)/\t=mO s e.toNat { x with dJ:=x.dJ.set i.toNat (sZ r0 r) }
theorem OP {s:aB} {e i:Int} {r:cB} {b:iX}:∀ (m:Nat) {n k:Nat} {l:List Int},k+m=11->m<n->l.length=11 ->
    Ex (λq=>match q with
      | .inl (l':List Int)=>l'.length=11/\∀ j:Nat,j<11->(j<k->l'.getD j 0=l.getD j 0)/\(k<=j->l'.getD j 0=l.getD j 0+[b.a0,b.a1,b.a2,b.a3,b.a4,b.a5,b.a6,b.a7,b.a8,b.a9,b.jU].getD j 0/\bN (l'.getD j 0))
      | .inr (q:aB×Int)=>q.2≠0/\q.1=s) (uI s e i r b n (k:Int) l)
  | m,0,k,l,_,hn,_=>absurd hn (Nat.not_lt_zero _)
  | 0,n+1,k,l,hk,hn,hl=>by
    unfold uI
    refine aD (aQ (λh=>absurd h (by omega)) λ_=>dD ⟨hl,λj hj=>⟨λ_=>rfl,λh=>absurd h (by omega)⟩⟩)
  | m+1,n+1,k,l,hk,hn,hl=>by
    unfold uI
    simp only [wH,Option.bind_some]
    refine aD (aQ (λh=>?_) λh=>absurd (show (k:Int)<11 by omega) h)
    refine dO (eZ (by omega) (by omega) λa ha=>dO (eZ (by omega) (by simp;omega) λc hc=>?_))
    have ha:l[k]?=some a:=by simpa using ha
    have hc:[b.a0,b.a1,b.a2,b.a3,b.a4,b.a5,b.a6,b.a7,b.a8,b.a9,b.jU][k]?=some c:=by simpa using hc
    refine aD (aQ (λk1=>bL (aG ⟨k1,rfl⟩)) λk1=>dO (aD (bG ?_)))
    have hin:bN a/\bN c/\bN (a+c):=by
      by_cases hh:bN a/\bN c/\bN (a+c)
      · exact hh
      · rw [wC hh] at k1;exact absurd k1 (by decide)
    rw [pZ hin]
    have e1:((k:Int)+1)=((k+1:Nat):Int):=by omega
    rw [e1,show ((k:Nat):Int).toNat=k by omega]
    refine B8 (OP m (k:=k+1) (l:=l.set k (a+c)) (by omega) (by omega) (by rw [List.length_set];exact hl)) λq hq=>?_
    cases q with
    | inl l' =>
      refine ⟨hq.1,λj hj=>⟨λh1=>?_,λh1=>?_⟩⟩
      · rw [(hq.2 j hj).1 (by omega),yG (by omega),if_neg (by omega)]
      · by_cases h2:j=k
        · subst h2
          rw [(hq.2 j hj).1 (by omega),yG (by omega),if_pos rfl,getD_at ha,getD_at hc];exact ⟨rfl,hin.2.2⟩
        · have h3:=(hq.2 j hj).2 (by omega)
          rw [yG (by omega),if_neg (by omega)] at h3;exact h3
    | inr q=>exact hq
theorem sK {s:aB} {n:Nat} (hn:66<n) (h:SS s) {e i:Int} {r:cB}:Ex (λq=>(q.2=0/\II s e i r q.1)\/(q.2≠0/\q.1=s)) (nA n s e i r):=by
  have hf:=h.toS0.iK
  unfold nA
  simp only [uJ h.toS0,Option.bind_some]
  repeat' with_reducible first | refine bG ?_ | refine dZ ?_ | apply aD | apply bK | apply dY | apply dN | apply eB | apply d9 | apply dV | apply dQ | apply dW | apply dU | refine aQ (λ_=>?_) λ_=>?_ | refine dK (λ_=>?_) λ_=>?_ | apply dF | apply bU | apply dA | apply bL | apply aG
  · exact .inr ⟨(λk=>nomatch k),rfl⟩
  rename_i ht
  have ht:=of_decide_eq_true ht
  obtain ⟨x,hx⟩:=ht.at
  have ht2:=ht.1;have ht3:=ht.2
  obtain ⟨bH,hm,_,_,hes⟩:=h.bH hx
  have hl2:=hes.iK hf.2.2
  have hlr:=hes.lr
  refine dB ht2.1 hx (eZ ht3.1 (by omega) λr0 hr0=>?_)
  have hr0:x.dJ[i.toNat]?=some r0:=hr0
  refine x_eq (a:=(⟨r0.Open,r0.jH,r0.jL,r0.jJ,r0.jK,r0.jG,r0.jN,r0.jE,r0.jF,r0.jM,r0.jI⟩:iX)) rfl (x_eq (a:=(⟨r.Open,r.jH,r.jL,r.jJ,r.jK,r.jG,r.jN,r.jE,r.jF,r.jM,r.jI⟩:iX)) rfl ?_)
  refine aW _ (OP 11 (k:=0) rfl (by omega) rfl) λq hq=>?_
  cases q with
  | inr q=>refine vH (.inr hq)
  | inl l =>
    refine dA ?_
    repeat' with_reducible first | refine bG ?_ | refine dZ ?_ | apply aD | apply bK | apply dY | apply dN | apply eB | apply d9 | apply dV | apply dQ | apply dW | apply dU | refine aQ (λ_=>?_) λ_=>?_ | refine dK (λ_=>?_) λ_=>?_ | apply dF | apply bU | apply dA | apply bL | apply aG | refine dO ?_
    refine dB ht2.1 hx ?_
    repeat' with_reducible first | refine bG ?_ | refine dZ ?_ | apply aD | apply bK | apply dY | apply dN | apply eB | apply d9 | apply dV | apply dQ | apply dW | apply dU | refine aQ (λ_=>?_) λ_=>?_ | refine dK (λ_=>?_) λ_=>?_ | apply dF | apply bU | apply dA | apply bL | apply aG | refine dO ?_
    refine dB ht2.1 hx (jX hq.1 ?_)
    have g:=λj hj=>((hq.2 j hj).2 (Nat.zero_le _))
    have g0:=g 0 (by decide);have g1:=g 1 (by decide);have g2:=g 2 (by decide);have g3:=g 3 (by decide);have g4:=g 4 (by decide);have g5:=g 5 (by decide)
    have g6:=g 6 (by decide);have g7:=g 7 (by decide);have g8:=g 8 (by decide);have g9:=g 9 (by decide);have g10:=g 10 (by decide)
    have er:sZ r0 r=⟨l.getD 0 0,l.getD 1 0,l.getD 2 0,l.getD 3 0,l.getD 4 0,l.getD 5 0,l.getD 6 0,l.getD 7 0,l.getD 8 0,l.getD 9 0,l.getD 10 0⟩:=by
      rw [g0.1,g1.1,g2.1,g3.1,g4.1,g5.1,g6.1,g7.1,g8.1,g9.1,g10.1];rfl
    refine x_eq (a:=(⟨l.getD 0 0,l.getD 1 0,l.getD 2 0,l.getD 3 0,l.getD 4 0,l.getD 5 0,l.getD 6 0,l.getD 7 0,l.getD 8 0,l.getD 9 0,l.getD 10 0⟩:cB)) rfl (dB ht3.1 hr0 (aD (aG (.inl ⟨rfl,x,r0,ht,hx,hr0,?_,?_⟩))))
    · rw [er];exact ⟨g0.2,g1.2,g2.2,g3.2,g4.2,g5.2,g6.2,g7.2,g8.2,g9.2,g10.2⟩
    · rw [er];rfl
end Go.Pv
