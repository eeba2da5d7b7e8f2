import Derived.Test.YtcnbfkppbaenbaaGreatQI80
set_option linter.unusedVariables false
set_option linter.unusedSimpArgs false
namespace Go.Pv
open Go.Proofs
set_option maxRecDepth 1000000
set_option maxHeartbeats 1000000
theorem aH8 {o:bK} {v:Int} (h:o.fA.length<=3):Ex (λr=>r.fA.length<=4) (LX o v):=by
  unfold LX aCQ
  simp only [WT.run,bS]
  refine aU _ (KE (by decide)) λk hk=>?_
  have f1:=td (a:=k) (b:=16) hk.1 (by decide)
  have f2:=tm (a:=k.tdiv 16) (b:=12) f1.1 (by decide)
  refine bE (aF (eT f2.1 (by simpa using f2.2) λx hx=>aF ?_))
  repeat' with_reducible first | refine bE ?_ | refine dU ?_ | apply aF | apply bF | apply dY | apply dN | apply dV | apply dZ | apply d9 | apply dO | apply dW | apply dS | refine aI (λ_=>?_) λ_=>?_ | refine dJ (λ_=>?_) λ_=>?_ | apply dB | apply bW | apply cZ | apply bJ | apply aD | refine dM ?_
  all_goals try (show o.fA.length<=4;omega)
  all_goals (show (o.fA++[x]).length<=4;simp;omega)
theorem nA {α J:Type} {l:List α} {n:Nat} (hl:l.length<=60) (hn:66<n) {f:Int->Option (Int⊕(Unit⊕J))} (h1:∀ i x,0<=i->i<(l.length:Int)->l[i.toNat]?=some x->f i=some (.inl (i+1))) (h2:∀ i,¬ i<(l.length:Int)->f i=some (.inr (.inl ()))):iter f n 0=some (.inl ()):=by
  refine fH (fJ (λi=>0<=i/\i<=(l.length:Int)) (λi=>l.length-i.toNat) ?_ (v:=(0:Int)) (by simp) (by simp;omega))
  rintro i ⟨h0,h3⟩
  by_cases k:i<(l.length:Int)
  · have hx:=List.getElem?_eq_getElem (l:=l) (i:=i.toNat) (by omega)
    exact ⟨_,h1 i _ h0 k hx,⟨by omega,by omega⟩,by omega⟩
  · exact ⟨_,h2 i k,rfl⟩
theorem EV {l:List Int} {n:Nat} (hl:l.length<=60) (hn:66<n):rD n l l=some true:=by
  unfold rD Q9
  simp only [WT.run,bS]
  refine eU (by simp) (dF (dK (nA hl hn (λi x h0 h hx=>?_) λi h=>?_) rfl))
  · exact fQ h (fK (iV h0 hx (iV h0 hx (eU (by simp) (dF (iE (by omega) rfl))))))
  · exact eU h (dF rfl)
theorem YF {l:List (List Int)} {n:Nat} (hl:l.length<=60) (hn:66<n) (hk:∀ x∈l,x.length<=60):DX n l l=some true:=by
  unfold DX TV
  simp only [WT.run,bS]
  refine eU (by simp) (dF (dK (nA hl hn (λi x h0 h hx=>?_) λi h=>?_) rfl))
  · exact fQ h (fK (iV h0 hx (iV h0 hx (dK (EV (hk x (fE hx)) hn) (iA (dF (iE (by omega) rfl)))))))
  · exact eU h (dF rfl)
theorem aGW {m:fC} {n:Nat} (h:pM m) (hn:66<n):KR n m m=some true:=by
  have h1:=h.n1;have h2:=h.vL;have h3:=h.lm;have h4:=h.lc
  unfold KR U1
  simp only [WT.run,bS]
  refine dK (a:=true) (fQ (by first | trivial | rfl) (fK (fQ (by first | trivial | rfl) (fK (dK (EV (by omega) hn) (fK (dK (YF (by omega) hn λx hx=>by have:=(h.met x hx).1;omega) (fK (dK (YF (by omega) hn λx hx=>by have:=(h.cos x hx).1;omega) rfl))))))))) rfl
theorem aMF (x:aB):LK x x=some true:=by
  unfold LK aAP
  simp only [WT.run,bS]
  exact dK (a:=true) (fQ (by first | trivial | rfl) (fK (fQ (by first | trivial | rfl) (fK (fQ (by first | trivial | rfl) rfl))))) rfl
theorem aIG {l:List aB} {n:Nat} (hl:l.length<=60) (hn:66<n):GY n l l=some true:=by
  unfold GY aD7
  simp only [WT.run,bS]
  refine eU (by simp) (dF (dK (nA hl hn (λi x h0 h hx=>?_) λi h=>?_) rfl))
  · exact fQ h (fK (iV h0 hx (iV h0 hx (dK (aMF x) (iA (dF (iE (by omega) rfl)))))))
  · exact eU h (dF rfl)
theorem aV0 {p:aH} {n:Nat} (hl:p.aW.length<=60) (hn:66<n):L6 n p p=some true:=by
  unfold L6 aDS
  simp only [WT.run,bS]
  exact dK (a:=true) (dK (aIG hl hn) (fK (fQ (by first | trivial | rfl) (fK (fQ (by first | trivial | rfl) (fK (fQ (by first | trivial | rfl) rfl))))))) rfl
theorem aS5 {s:aA} {n:Nat} (h1:s.bY.length<=60) (h2:s.eF.length<=60) (h3:s.dL.length<=60) (hn:66<n):IA n s s=some true:=by
  unfold IA ZW
  simp only [WT.run,bS]
  refine dK (a:=false) (eU (by simp) (dF (eU (by simp) (dF (eU (by simp) rfl))))) (dF (dK (nA h1 hn (λi x h0 h hx=>?_) λi h=>?_) ?_))
  · exact fQ h (fK (iV h0 hx (iV h0 hx (iA (by rw [decide_eq_true (rfl:x=x)];exact dF (iE (by omega) rfl))))))
  · exact eU h (dF rfl)
  show Option.bind _ _=_
  refine dK (nA h2 hn (λi x h0 h hx=>?_) λi h=>?_) ?_
  · exact fQ h (fK (iV h0 hx (iV h0 hx (iA (by rw [decide_eq_true (rfl:x=x)];exact dF (iE (by omega) rfl))))))
  · exact eU h (dF rfl)
  show Option.bind _ _=_
  refine dK (nA h3 hn (λi x h0 h hx=>?_) λi h=>?_) rfl
  · exact fQ h (fK (iV h0 hx (iV h0 hx (iA (by rw [decide_eq_true (rfl:x=x)];exact dF (iE (by omega) rfl))))))
  · exact eU h (dF rfl)
def Sz (x:aQ):Prop:=x.bX.length<=10/\x.dQ.length<=10/\x.dR.length<=60/\x.gI.length<=60/\x.Down.length<=60/\∀ p∈x.bX,p.aW.length<=60
theorem XP {x:aQ} {n:Nat} (h:Sz x) (ha:x.fV.length<=1) (hn:90<n) (hy:∀ y∈x.fV,wQ n y y=some true):wQ (n+1) x x=some true:=by
  obtain ⟨a1,a2,a3,a4,a5,a6⟩:=h
  rw [aSS]
  unfold N9
  simp only [WT.run,bS]
  refine dK (a:=false) (eU (by simp) (dF (eU (by simp) (dF (eU (by simp) (dF (eU (by simp) (dF (eU (by simp) rfl))))))))) (dF ?_)
  refine dK (a:=.inl ()) (nA (l:=x.bX) (by omega) (by omega) (λi p h0 h hx=>?_) λi h=>eU h (dF rfl)) ?_
  · exact fQ h (fK (iV h0 hx (iV h0 hx (dK (aV0 (a6 p (fE hx)) (by omega)) (iA (dF (iE (by omega) rfl)))))))
  show Option.bind _ _=_
  refine dK (a:=.inl ()) (nA (l:=x.dQ) (by omega) (by omega) (λi p h0 h hx=>?_) λi h=>eU h (dF rfl)) ?_
  · refine fQ h (fK (iV h0 hx (dK rfl (iV h0 hx (dK rfl (iA ?_))))))
    rw [show (!decide ((_:jQ)=_))=false from by simp]
    exact dF (iE (by omega) rfl)
  show Option.bind _ _=_
  refine dK (a:=.inl ()) (nA (l:=x.fV) (by omega) (by omega) (λi y h0 h hx=>?_) λi h=>eU h (dF rfl)) ?_
  · exact fQ h (fK (iV h0 hx (iV h0 hx (dK (hy y (fE hx)) (iA (dF (iE (by omega) rfl)))))))
  show Option.bind _ _=_
  exact dK (a:=true) (dK (EV (by omega) (by omega)) (fK (dK (EV (by omega) (by omega)) (fK (dK (EV (by omega) (by omega)) rfl))))) rfl
theorem aA5 {x:aQ} {n:Nat} (h:Sz x) (ha:x.fV.length<=1) (hy:∀ y∈x.fV,Sz y/\y.fV=[]) (hn:100<n):wQ n x x=some true:=by
  obtain ⟨m,rfl⟩:∃ m,n=m+2:=⟨n-2,by omega⟩
  refine XP h ha (by omega) λy hy2=>?_
  obtain ⟨g1,g2⟩:=hy y hy2
  exact XP g1 (by rw [g2];simp) (by omega) λz hz=>by rw [g2] at hz;cases hz
theorem ES.sz {n:Nat} {bL:List Int} {iN:Int} {x:aQ} (h:ES n bL iN x) (hn:n<=5):Sz x:=by
  have hf:=h.iC hn
  exact ⟨hf.1,by omega,by omega,by omega,by omega,λp hp=>by have:=tC (h.pr p hp);omega⟩
theorem TS {K:Int} {s:aA} {n:Nat} (h:Inv K s) (hn:100<n):yZ n s s=some true:=by
  have hf:=h.ss.toS0.iC
  have h1:=h.l1;have h2:=h.l2;have h3:=h.l3
  unfold yZ aEH
  simp only [WT.run,bS]
  refine dK (a:=false) (dK (aGW h.jW (by omega)) (iA (dF (eU (by simp) (dF (eU (by simp) (dF (dK (aS5 (by omega) (by omega) (by omega) (by omega)) rfl)))))))) (dF (dK (nA (l:=s.bD) (by omega) (by omega) (λi x h0 hi hx=>?_) λi h=>?_) rfl))
  · obtain ⟨bL,hm,_,_,hes⟩:=h.ss.bL hx
    have hei:=h.ent _ _ _ hx hm
    have hs:wQ n x x=some true:=by
      rcases hei with o | ⟨y,c⟩
      · exact aA5 (hes.sz hf.2.2) (by rw [o.lH];simp) (λy hy=>by rw [o.lH] at hy;cases hy) hn
      · refine aA5 (hes.sz hf.2.2) (by rw [c.lH];simp) (λz hz=>?_) hn
        rw [c.lH,List.mem_singleton] at hz;subst hz
        exact ⟨c.eo.es.sz hf.2.2,c.eo.lH⟩
    exact fQ hi (fK (iV h0 hx (iV h0 hx (dK hs (iA (dF (iE (by omega) rfl)))))))
  · exact eU h (dF rfl)
theorem lG {a b:Int} (h:0<=a/\a<=b):jO a b=some true:=by rw [qF,decide_eq_true h]
theorem JQ {a:Int} (h:bQ a):nU a=some true:=by rw [zY,decide_eq_true h]
theorem aOT {K:Int} {s:aA} {n:Nat} (h:Inv K s) (hn:66<n):LH n s=some true:=by
  have hf:=h.ss.toS0.iC
  have h1:=h.l1;have h2:=h.l2;have h3:=h.l3;have hE:=h.len
  unfold LH aAM
  simp only [WT.run,bS]
  refine iE (by omega) (iE (by omega) (dK (nA (l:=s.bY) (by omega) hn (λi x h0 hi hx=>?_) λi hi=>eU hi (dF rfl)) ?_))
  · have hk:=h.mD x (fE hx)
    unfold tH at hk
    obtain ⟨a1,a2,a3,a4,a5,a6,a7,a8⟩:=hk
    exact fQ hi (fK (iV h0 hx (dK (a:=false) (dK (lG (by omega)) (iA (dF (dK (lG (by omega)) (iA (dF (dK (lG (by omega)) (iA (dF (dK (lG (by omega)) (iA (dF (dK (lG (by omega)) (iA (dF (dK (lG (by omega)) (iA (dF (dK (lG (by omega)) (iA (dF (dK (lG (by omega)) (iA rfl))))))))))))))))))))))) (dF (iE (by omega) rfl)))))
  show Option.bind _ _=_
  refine dK (nA (l:=s.eF) (by omega) hn (λi x h0 hi hx=>?_) λi hi=>eU hi (dF rfl)) ?_
  · have hk:=h.mO x (fE hx)
    unfold pI at hk
    obtain ⟨a1,a2,a3,a4,a5,a6,a7,a8⟩:=hk
    exact fQ hi (fK (iV h0 hx (dK (a:=false) (dK (lG (by omega)) (iA (dF (dK (lG (by omega)) (iA (dF (dK (lG (by omega)) (iA (dF (dK (lG (by omega)) (iA (dF (dK (lG (by omega)) (iA (dF (dK (lG (by omega)) (iA (dF (dK (JQ a7) (iA (dF (iE (by omega) (dK (lG (by omega)) (iA rfl)))))))))))))))))))))))) (dF (iE (by omega) rfl)))))
  show Option.bind _ _=_
  refine dK (nA (l:=s.dL) (by omega) hn (λi x h0 hi hx=>?_) λi hi=>eU hi (dF rfl)) ?_
  · have hk:=h.nP x (fE hx)
    unfold BH at hk
    obtain ⟨a1,a2,a3,a4,a5,a6⟩:=hk
    exact fQ hi (fK (iV h0 hx (dK (a:=false) (dK (lG (by omega)) (iA (dF (dK (lG (by omega)) (iA (dF (dK (lG (by omega)) (iA (dF (dK (lG (by omega)) (iA (dF (dK (lG (by omega)) (iA (dF (dK (JQ a6) (iA rfl))))))))))))))))) (dF (iE (by omega) rfl)))))
  exact dK (a:=true) (fQ (by omega) (fK (fQ (by omega) (fK (fQ (by omega) rfl))))) rfl
theorem NR {l:List Int} {k:Nat} {lo:Int} {n:Nat} (hk:l.length=k) (hl:l.length<=60) (hn:66<n) (h:∀ y∈l,lo<=y/\y<=288230376151711744):BA n l k lo=some true:=by
  unfold BA ZS
  simp only [WT.run,bS]
  refine eU (by omega) (dF (dK (nA (l:=l) hl hn (λi x h0 hi hx=>?_) λi hi=>eU (by omega) (dF rfl)) rfl))
  have:=h x (fE hx)
  exact fQ (by omega) (fK (dK (a:=false) (iV h0 hx (eU (by omega) (dF (iV h0 hx (eU (by omega) rfl))))) (dF (iE (by omega) rfl))))
theorem q_in {s:aA} {e:Int} (he:0<=e/\e<(s.bD.length:Int)):tY s e=some true:=by
  unfold tY UK
  simp only [WT.run,bS]
  exact dK (a:=true) (fQ he.1 (fK (fQ he.2 rfl))) rfl
theorem P4 {m:Int} {p:aH} {n:Nat} (hn:70<n) (h:PR m p):LZ n m p=some true:=by
  have hm:=h.mt;have h30:=tC h.ly
  have a0:=h.p0;have a1:=h.p1;have a2:=h.p2;have hs:=h.sum;have ho:=h.uQ;have hQ:=h.ly.2.2.1
  refine fH ?_
  unfold LZ aE4
  simp only [WT.run,bS]
  refine aU (λb=>b=false) ⟨_,eU (by omega) (dF (eU (by omega) (dF ?_))),rfl⟩ λb hb=>?_
  · obtain ⟨b,hb,hc⟩:=BK (l:=p.aW) (n:=n) (by omega) (by omega)
    have:b=true:=hc.2 h.ly
    subst this
    refine dK hb (iA (dF ?_))
    by_cases k1:m=1
    · exact eU (by omega) (dF rfl)
    · exact fQ k1 (fK (eU (by have:=h.one k1;omega) rfl))
  subst hb
  refine bW (x_eq (xJ (by omega) h.ly) (aU (λr=>r=.inl ()) (fJ (λ(v:Int×Int)=>(v.2=0/\v.1=tQ p.aW)\/(v.2=1/\v.1=tQ p.aW-p.bN.a0)\/(v.2=2/\v.1=tQ p.aW-p.bN.a0-p.bN.a1)\/v.2=3) (λv=>3-v.2.toNat) ?_ (.inl ⟨rfl,rfl⟩) (by simp;omega)) λr hr=>by subst hr;exact cZ (aD rfl)))
  rintro ⟨q,i⟩ hi
  rcases hi with ⟨rfl,hq⟩ | ⟨rfl,hq⟩ | ⟨rfl,hq⟩ | rfl
  all_goals try simp only at hq
  · have ho:=λk=>(ho k).1
    refine bF (aF (aI (λ_=>?_) λk=>absurd (show (0:Int)<3 by decide) k))
    refine aU (λr=>r=(.inl (q-p.bN.a0,0):(Int×Int)⊕((Int×Int)⊕(Unit⊕Bool)))) (aU (λr=>r=((0:Int),false)) ?_ λr hr=>?_) λr hr=>?_
    · repeat' with_reducible first | refine bE ?_ | refine dU ?_ | apply aF | apply bF | apply dY | apply dN | apply dV | apply dZ | apply d9 | apply dO | apply dW | apply dS | refine aI (λ_=>?_) λ_=>?_ | refine dJ (λ_=>?_) λ_=>?_ | apply dB | apply bW | apply cZ | apply bJ | apply aD | refine dM ?_
      all_goals try (exfalso;omega)
      all_goals try rfl
      simp [ho (by assumption)]
    · subst hr
      refine bF (bW ?_)
      repeat' with_reducible first | refine bE ?_ | refine dU ?_ | apply aF | apply bF | apply dY | apply dN | apply dV | apply dZ | apply d9 | apply dO | apply dW | apply dS | refine aI (λ_=>?_) λ_=>?_ | refine dJ (λ_=>?_) λ_=>?_ | apply dB | apply bW | apply cZ | apply bJ | apply aD | refine dM ?_
      all_goals try (exfalso;omega)
      all_goals exact cK rfl
    · subst hr
      exact cZ (bF (gU (show (-9223372036854775808:Int)<=0+1/\(0+1:Int)<=9223372036854775807 by decide) (cK ⟨by simp only;omega,by simp⟩)))
  · have ho:=λk=>(ho k).2.1
    refine bF (aF (aI (λ_=>?_) λk=>absurd (show (1:Int)<3 by decide) k))
    refine aU (λr=>r=(.inl (q-p.bN.a1,1):(Int×Int)⊕((Int×Int)⊕(Unit⊕Bool)))) (aU (λr=>r=((1:Int),false)) ?_ λr hr=>?_) λr hr=>?_
    · repeat' with_reducible first | refine bE ?_ | refine dU ?_ | apply aF | apply bF | apply dY | apply dN | apply dV | apply dZ | apply d9 | apply dO | apply dW | apply dS | refine aI (λ_=>?_) λ_=>?_ | refine dJ (λ_=>?_) λ_=>?_ | apply dB | apply bW | apply cZ | apply bJ | apply aD | refine dM ?_
      all_goals try (exfalso;omega)
      all_goals try rfl
      simp [ho (by assumption)]
    · subst hr
      refine bF (bW ?_)
      repeat' with_reducible first | refine bE ?_ | refine dU ?_ | apply aF | apply bF | apply dY | apply dN | apply dV | apply dZ | apply d9 | apply dO | apply dW | apply dS | refine aI (λ_=>?_) λ_=>?_ | refine dJ (λ_=>?_) λ_=>?_ | apply dB | apply bW | apply cZ | apply bJ | apply aD | refine dM ?_
      all_goals try (exfalso;omega)
      all_goals exact cK rfl
    · subst hr
      exact cZ (bF (gU (show (-9223372036854775808:Int)<=1+1/\(1+1:Int)<=9223372036854775807 by decide) (cK ⟨by simp only;omega,by simp⟩)))
  · have ho:=λk=>(ho k).2.2
    refine bF (aF (aI (λ_=>?_) λk=>absurd (show (2:Int)<3 by decide) k))
    refine aU (λr=>r=(.inl (q-p.bN.a2,2):(Int×Int)⊕((Int×Int)⊕(Unit⊕Bool)))) (aU (λr=>r=((2:Int),false)) ?_ λr hr=>?_) λr hr=>?_
    · repeat' with_reducible first | refine bE ?_ | refine dU ?_ | apply aF | apply bF | apply dY | apply dN | apply dV | apply dZ | apply d9 | apply dO | apply dW | apply dS | refine aI (λ_=>?_) λ_=>?_ | refine dJ (λ_=>?_) λ_=>?_ | apply dB | apply bW | apply cZ | apply bJ | apply aD | refine dM ?_
      all_goals try (exfalso;omega)
      all_goals try rfl
      simp [ho (by assumption)]
    · subst hr
      refine bF (bW ?_)
      repeat' with_reducible first | refine bE ?_ | refine dU ?_ | apply aF | apply bF | apply dY | apply dN | apply dV | apply dZ | apply d9 | apply dO | apply dW | apply dS | refine aI (λ_=>?_) λ_=>?_ | refine dJ (λ_=>?_) λ_=>?_ | apply dB | apply bW | apply cZ | apply bJ | apply aD | refine dM ?_
      all_goals try (exfalso;omega)
      all_goals exact cK rfl
    · subst hr
      exact cZ (bF (gU (show (-9223372036854775808:Int)<=2+1/\(2+1:Int)<=9223372036854775807 by decide) (cK ⟨by simp only;omega,by simp⟩)))
  · exact bF (aF (aI (λk=>absurd k (show ¬ (3:Int)<3 by decide)) λ_=>bJ (cK rfl)))
theorem aL0 {m:fC} {bL:List Int} {x:aQ} (hs:ES m.bZ.length bL m.gQ x) {i:Int} (h0:0<=i) (hi:i<(x.bX.length:Int)):∃ t p,bL[(i.tdiv 2).toNat]?=some t/\x.bX[i.toNat]?=some p/\PR t p:=by
  have hl:=hs.lp;have hm:=hs.lm
  have e1:i.tdiv 2=i / 2:=Int.tdiv_eq_ediv_of_nonneg h0
  have hj:(i.tdiv 2).toNat<m.bZ.length:=by omega
  have g1:=List.getElem?_eq_getElem (l:=bL) (i:=(i.tdiv 2).toNat) (by omega)
  have g2:=List.getElem?_eq_getElem (l:=x.bX) (i:=2*(i.tdiv 2).toNat) (by omega)
  have g3:=List.getElem?_eq_getElem (l:=x.bX) (i:=2*(i.tdiv 2).toNat+1) (by omega)
  have hp:=hs.AI _ _ _ _ g1 g2 g3
  rcases (show i.toNat=2*(i.tdiv 2).toNat\/i.toNat=2*(i.tdiv 2).toNat+1 by omega) with k | k
  · exact ⟨_,_,g1,(congrArg (x.bX[·]?) k).trans g2,hp.pp⟩
  · exact ⟨_,_,g1,(congrArg (x.bX[·]?) k).trans g3,hp.qq⟩
theorem aXN (r:cO):vM r=some ⟨r.Open,r.iW,r.jH,r.jG,r.iY,r.jF,r.jE,r.iX,r.jC,r.jD,r.jB⟩:=by
  unfold vM aEV
  simp only [WT.run,bS]
theorem O8 {m:fC} {bL:List Int} {x:aQ} {e:Int} {b:Bool} {n:Nat} (hM:pM m) (h0:0<=e) (hm:m.Methods[e.toNat]?=some bL) (hs:ES m.bZ.length bL m.gQ x) (hn:90<n) :
    yM (n+1) m e x b=bnd (decide ((x.fV.length:Int)=0)) λ(x46:Bool) =>
    cond x46 (bnd (!x.Closed) λ(x52:Bool) =>
    some ((x52:Bool))) ((show Option (Bool) from
    cond b (bnd x.Closed λ(x48:Bool) =>
    cond x48 (bnd (decide ((x.fV.length:Int)=1)) λ(x49:Bool) =>
    cond x49 ((ix x.fV 0).bind λ(x50:aQ) =>
    (yM n m e x50 false).bind λ(x51:Bool) =>
    some (x51:Bool)) (some (false:Bool))) (some (false:Bool))) (some (false:Bool))).bind <| λ(y8_1:Bool) =>
    some ((y8_1:Bool))):=by
  have h1:=hs.now;have h2:=hs.lp;have h3:=hs.lr;have h4:=hs.lb;have h5:=hs.lc;have h6:=hs.ld;have hw:=hM.n1
  rw [aTI]
  unfold PG
  simp only [WT.run,bS]
  refine dK (a:=false) (eU (by omega) (dF (eU (by omega) (dF (iE (by omega) (eU (by omega) (dF (eU (by omega) (dF (dK (NR (k:=17) h4 (by omega) (by omega) λy hy=>hs.gH y hy) (iA (dF (dK (NR (k:=m.bZ.length) h5 (by omega) (by omega) hs.pri) (iA (dF (dK (NR (k:=m.bZ.length) h6 (by omega) (by omega) hs.zX) rfl)))))))))))))))) (dF ?_)
  refine dK (a:=.inl ()) (nA (l:=x.bX) (by omega) (by omega) (λi p g0 hc hx=>?_) λi hc=>eU hc (dF rfl)) ?_
  · obtain ⟨t,p,w1,w2,w3⟩:=aL0 hs g0 hc
    have e1:i.tdiv 2=i / 2:=Int.tdiv_eq_ediv_of_nonneg g0
    exact fQ hc (fK (iV h0 hm (iE (by omega) (iV (by omega) w1 (iV g0 w2 (dK (P4 (by omega) w3) (iA (dF (iE (by omega) rfl)))))))))
  show Option.bind _ _=_
  refine dK (a:=.inl ()) (nA (l:=m.bZ) (by omega) (by omega) (λi _ g0 hc hx=>?_) λi hc=>eU hc (dF rfl)) rfl
  have g:=List.getElem?_eq_getElem (l:=x.dQ) (i:=i.toNat) (by omega)
  generalize x.dQ[i.toNat]'(by omega)=r at g
  obtain ⟨c0,c1,c2,c3,c4,c5,c6,c7,c8,c9,c10⟩:=hs.roll _ (fE g)
  have hl:([r.Open,r.iW,r.jH,r.jG,r.iY,r.jF,r.jE,r.iX,r.jC,r.jD,r.jB]:List Int).length=11:=rfl
  refine fQ hc (fK (dK (a:=(.inl ():Unit⊕(Int⊕(Unit⊕Bool)))) (iV g0 g (dK (aXN _) (dK (a:=(.inl ():Unit⊕(Unit⊕(Int⊕(Unit⊕Bool))))) (nA (l:=[r.Open,r.iW,r.jH,r.jG,r.iY,r.jF,r.jE,r.iX,r.jC,r.jD,r.jB]) (by omega) (by omega) (λj y j0 hj hy=>?_) λj hj=>eU (by omega) (dF rfl)) rfl))) (aQL (iE (by omega) rfl))))
  refine fQ (show j<11 by omega) (fK (qB ⟨j0,by omega⟩ (iV j0 hy (dK (JQ ?_) (iA (dF (iE (by omega) rfl)))))))
  have hy:=fE hy
  simp only [List.mem_cons,List.not_mem_nil,or_false] at hy
  rcases hy with rfl | rfl | rfl | rfl | rfl | rfl | rfl | rfl | rfl | rfl | rfl <;> assumption
theorem aL6 {m:fC} {bL:List Int} {x:aQ} {e:Int} {n:Nat} (hM:pM m) (h0:0<=e) (hm:m.Methods[e.toNat]?=some bL) (hs:EI m bL x) (hn:100<n):yM n m e x true=some true:=by
  obtain ⟨n,rfl⟩:∃ j,n=j+2:=⟨n-2,by omega⟩
  rcases hs with h | ⟨y,h⟩
  · rw [O8 hM h0 hm h.es (by omega)]
    have:=h.lH;have:=h.opn
    refine fQ (by simp [*]) (fK ?_)
    rw [h.opn];rfl
  · rw [O8 hM h0 hm h.es (by omega)]
    refine eU (by rw [h.lH];simp) (dF (dK (a:=true) (fK ?_) rfl))
    rw [h.LP,h.lH]
    refine iA (fK (fQ rfl (fK (iV (by decide) rfl (dK (a:=true) ?_ rfl)))))
    rw [O8 hM h0 hm h.eo.es (by omega)]
    refine fQ (by rw [h.eo.lH];rfl) (fK ?_)
    rw [h.eo.opn];rfl
theorem aK8 {l:List aH} {i:Nat} {p q:aH} (hp:l[2*i]?=some p) (hq:l[2*i+1]?=some q):sV (l.drop (2*i))=tV p.aW+tV q.aW+sV (l.drop (2*(i+1))):=by
  have e1:sV (l.drop (2*i))=tV p.aW+sV (l.drop (2*i+1)):=tT _ hp
  have e2:sV (l.drop (2*i+1))=tV q.aW+sV (l.drop (2*i+1+1)):=tT _ hq
  rw [e1,e2,show 2*(i+1)=2*i+1+1 by omega];omega
theorem aWF {s:aA} {n:Nat} (hn:66<n) (hl:s.bY.length<=40) (hp:∀ r∈s.bY,0<=r.gW) (e:Int) {P:Bool->Prop} {f:List Int->Option Bool} (k:∀ l:List Int,l.length<=40->(∀ y∈l,0<=y)->(0<=e->dA l=eD (iT e.toNat) s.bY)->Ex P (f l)) :
    Ex P ((iter (λ(v:Int×List Int)=>p2 (λ(a:Int) (b:List Int)=>bnd (decide (a<(s.bY.length:Int))) λ(x:Bool)=>cond x (((ix s.bY a).bind λ(x:dG)=>bnd (decide (x.eY=e)) λ(x_1:Bool)=>cond x_1 ((ix s.bY a).bind λ(x:dG)=>bnd (b++[x.gW]) λ(x:List Int)=>iO (x.length<=68719476736) (some x)) (some b)).bind λ(y:List Int)=>bnd (bA (a+1)) λ(x:Int)=>brk (x,y)) (esc (some b))) v) n (0,[])).bind f):=by
  refine aU (λ(l:List Int)=>l.length<=40/\(∀ y∈l,0<=y)/\(0<=e->dA l=eD (iT e.toNat) s.bY)) (fJ (λ(v:Int×List Int)=>0<=v.1/\v.1<=(s.bY.length:Int)/\(v.2.length:Int)<=v.1/\(∀ y∈v.2,0<=y)/\(0<=e->dA v.2+eD (iT e.toNat) (s.bY.drop v.1.toNat)=eD (iT e.toNat) s.bY)) (λ(v:Int×List Int)=>s.bY.length-v.1.toNat) ?_ (v:=(0,[])) ⟨by simp,by simp,by simp,(λ_ h=>nomatch h),λ_=>by simp [dA,eD]⟩ (by simp;omega)) λl hl=>k l hl.1 hl.2.1 hl.2.2
  rintro ⟨i,l⟩ ⟨a1,a2,a3,a4,a5⟩
  simp only at a1 a2 a3 a4 a5
  refine bF (aF (aI (λk=>?_) λk=>bJ (aD ⟨by first | omega | (simp only;omega),a4,λhe=>?_⟩)))
  · have k:i<(s.bY.length:Int):=k
    refine aU (λ(l':List Int)=>(l'.length:Int)<=i+1/\(∀ y∈l',0<=y)/\(0<=e->dA l'+eD (iT e.toNat) (s.bY.drop (i.toNat+1))=eD (iT e.toNat) s.bY)) (eT a1 k λr hr=>?_) λl' hl'=>bE (cK ⟨⟨by first | omega | (simp only;omega),by first | omega | (simp only;omega),hl'.1,hl'.2.1,λhe=>?_⟩,by first | omega | (simp only;omega)⟩)
    · have hr:s.bY[i.toNat]?=some r:=hr
      have e1:=tT (iT e.toNat) hr
      refine aF (aI (λke=>dD a1 hr (aF (dM (aD ⟨by simp;omega,mI a4 (hp r (fE hr)),λhe=>?_⟩)))) λke=>aD ⟨by first | omega | (simp only;omega),a4,λhe=>?_⟩)
      · have:=a5 he
        have e2:iT e.toNat r=r.gW:=by unfold iT;rw [if_pos (by omega)]
        rw [CX]
        have:dA [r.gW]=r.gW:=by simp [dA,eD]
        show dA l+dA [r.gW]+eD (iT e.toNat) (s.bY.drop (i.toNat+1))=eD (iT e.toNat) s.bY
        omega
      · have:=a5 he
        have e2:iT e.toNat r=0:=by unfold iT;rw [if_neg (by omega)]
        show dA l+eD (iT e.toNat) (s.bY.drop (i.toNat+1))=eD (iT e.toNat) s.bY
        omega
    · have:=hl'.2.2 he
      show dA l'+eD (iT e.toNat) (s.bY.drop (i+1).toNat)=_
      rw [show (i+1).toNat=i.toNat+1 by omega];exact this
  · have k:¬ i<(s.bY.length:Int):=k
    have:=a5 he
    rw [List.drop_eq_nil_of_le (by omega)] at this
    have z:eD (iT e.toNat) ([]:List dG)=0:=rfl
    show dA l=eD (iT e.toNat) s.bY
    omega
theorem aQ6 {s:aA} {n:Nat} (hn:66<n) (hl:s.dL.length<=40) (hp:∀ r∈s.dL,0<=r.Value) (e:Int) {P:Bool->Prop} {f:List Int->Option Bool} (k:∀ l:List Int,l.length<=40->(∀ y∈l,0<=y)->(0<=e->dA l=eD (iI e.toNat) s.dL)->Ex P (f l)) :
    Ex P ((iter (λ(v:Int×List Int)=>p2 (λ(a:Int) (b:List Int)=>bnd (decide (a<(s.dL.length:Int))) λ(x:Bool)=>cond x (((ix s.dL a).bind λ(x:fT)=>bnd (decide (x.To=e)) λ(x_1:Bool)=>cond x_1 ((ix s.dL a).bind λ(x:fT)=>bnd (b++[x.Value]) λ(x:List Int)=>iO (x.length<=68719476736) (some x)) (some b)).bind λ(y:List Int)=>bnd (bA (a+1)) λ(x:Int)=>brk (x,y)) (esc (some b))) v) n (0,[])).bind f):=by
  refine aU (λ(l:List Int)=>l.length<=40/\(∀ y∈l,0<=y)/\(0<=e->dA l=eD (iI e.toNat) s.dL)) (fJ (λ(v:Int×List Int)=>0<=v.1/\v.1<=(s.dL.length:Int)/\(v.2.length:Int)<=v.1/\(∀ y∈v.2,0<=y)/\(0<=e->dA v.2+eD (iI e.toNat) (s.dL.drop v.1.toNat)=eD (iI e.toNat) s.dL)) (λ(v:Int×List Int)=>s.dL.length-v.1.toNat) ?_ (v:=(0,[])) ⟨by simp,by simp,by simp,(λ_ h=>nomatch h),λ_=>by simp [dA,eD]⟩ (by simp;omega)) λl hl=>k l hl.1 hl.2.1 hl.2.2
  rintro ⟨i,l⟩ ⟨a1,a2,a3,a4,a5⟩
  simp only at a1 a2 a3 a4 a5
  refine bF (aF (aI (λk=>?_) λk=>bJ (aD ⟨by first | omega | (simp only;omega),a4,λhe=>?_⟩)))
  · have k:i<(s.dL.length:Int):=k
    refine aU (λ(l':List Int)=>(l'.length:Int)<=i+1/\(∀ y∈l',0<=y)/\(0<=e->dA l'+eD (iI e.toNat) (s.dL.drop (i.toNat+1))=eD (iI e.toNat) s.dL)) (eT a1 k λr hr=>?_) λl' hl'=>bE (cK ⟨⟨by first | omega | (simp only;omega),by first | omega | (simp only;omega),hl'.1,hl'.2.1,λhe=>?_⟩,by first | omega | (simp only;omega)⟩)
    · have hr:s.dL[i.toNat]?=some r:=hr
      have e1:=tT (iI e.toNat) hr
      refine aF (aI (λke=>dD a1 hr (aF (dM (aD ⟨by simp;omega,mI a4 (hp r (fE hr)),λhe=>?_⟩)))) λke=>aD ⟨by first | omega | (simp only;omega),a4,λhe=>?_⟩)
      · have:=a5 he
        have e2:iI e.toNat r=r.Value:=by unfold iI;rw [if_pos (by omega)]
        rw [CX]
        have:dA [r.Value]=r.Value:=by simp [dA,eD]
        show dA l+dA [r.Value]+eD (iI e.toNat) (s.dL.drop (i.toNat+1))=eD (iI e.toNat) s.dL
        omega
      · have:=a5 he
        have e2:iI e.toNat r=0:=by unfold iI;rw [if_neg (by omega)]
        show dA l+eD (iI e.toNat) (s.dL.drop (i.toNat+1))=eD (iI e.toNat) s.dL
        omega
    · have:=hl'.2.2 he
      show dA l'+eD (iI e.toNat) (s.dL.drop (i+1).toNat)=_
      rw [show (i+1).toNat=i.toNat+1 by omega];exact this
  · have k:¬ i<(s.dL.length:Int):=k
    have:=a5 he
    rw [List.drop_eq_nil_of_le (by omega)] at this
    have z:eD (iI e.toNat) ([]:List fT)=0:=rfl
    show dA l=eD (iI e.toNat) s.dL
    omega
theorem Inv.see {K:Int} {s:aA} (h:Inv K s) {e:Int} (he:0<=e/\e<(s.bD.length:Int)):∃ x bL,s.bD[e.toNat]?=some x/\s.bH.Methods[e.toNat]?=some bL/\ES s.bH.bZ.length bL s.bH.gQ x/\EB x:=by
  have hx:s.bD[e.toNat]?=some (s.bD[e.toNat]'(by omega)):=List.getElem?_eq_getElem (by omega)
  obtain ⟨bL,hm,_,_,hes⟩:=h.ss.bL hx
  refine ⟨_,bL,hx,hm,hes,?_⟩
  rcases h.ent _ _ _ hx hm with g | ⟨y,g⟩
  · exact g.ee
  · exact g.ee
theorem ES.sv0 {n:Nat} {bL:List Int} {iN:Int} {x:aQ} (h:ES n bL iN x):0<=sV x.bX:=uK λp hp=>(gV (h.pr p hp)).2.1.1
theorem Y1 {s:aA} (h:SS s) {n:Nat} (hn:66<n) {e i:Int} {x:aQ} (ht:gY s e i) (hx:s.bD[e.toNat]?=some x) (hv:sV x.bX<=288230376151711744):∃ p q,x.bX[2*i.toNat]?=some p/\x.bX[2*i.toNat+1]?=some q/\wF n s e i=some ⟨tQ p.aW+tQ q.aW,tV p.aW+tV q.aW,tP p.aW+tP q.aW⟩/\0<=tV p.aW+tV q.aW:=by
  obtain ⟨bL,g1,g2,g3,hes⟩:=h.bL hx
  have ht2:=ht.2
  obtain ⟨m,p,q,w1,w2,w3,w4,w5,w6⟩:=hes.QA hv (i:=i.toNat) (by omega)
  have w2:x.bX[2*i.toNat]?=some p:=w2
  have w3:x.bX[2*i.toNat+1]?=some q:=w3
  exact ⟨p,q,w2,w3,RZ hn h ht hx w2 w3 w4 w5,w6⟩
theorem aN9 {s:aA} (h:SS s) {n:Nat} (hn:66<n) {e:Int} {x:aQ} (he:0<=e/\e<(s.bD.length:Int)) (hx:s.bD[e.toNat]?=some x) (hv:sV x.bX<=288230376151711744):M9 n s e=some (sV x.bX):=by
  have hf:=h.toS0.iC
  obtain ⟨bL,g1,g2,g3,hes⟩:=h.bL hx
  have hlp:x.bX.length=2*s.bH.bZ.length:=hes.lp
  refine fH ?_
  unfold M9 T4
  simp only [WT.run,bS]
  refine aU (λ(l:List Int)=>l.length<=5/\(∀ y∈l,0<=y)/\dA l=sV x.bX) (fJ (λ(v:Int×List Int)=>0<=v.1/\v.1<=(s.bH.bZ.length:Int)/\(v.2.length:Int)=v.1/\(∀ y∈v.2,0<=y)/\dA v.2+sV (x.bX.drop (2*v.1.toNat))=sV x.bX) (λ(v:Int×List Int)=>s.bH.bZ.length-v.1.toNat) ?_ (v:=(0,[])) ⟨by simp,by simp,rfl,(λ_ h=>nomatch h),by simp [dA,eD]⟩ (by simp;omega)) λl hl=>?_
  · rintro ⟨i,l⟩ ⟨a1,a2,a3,a4,a5⟩
    simp only at a1 a2 a3 a4 a5
    refine bF (aF (aI (λk=>?_) λk=>bJ (aD ⟨by first | omega | (simp only;omega),a4,?_⟩)))
    · have k:i<(s.bH.bZ.length:Int):=k
      obtain ⟨p,q,w1,w2,w3,w4⟩:=Y1 h hn (i:=i) ⟨he,a1,k⟩ hx hv
      refine x_eq w3 (aF (dM (bE (cK ⟨⟨by first | omega | (simp only;omega),by first | omega | (simp only;omega),by simp;omega,mI a4 w4,?_⟩,by first | omega | (simp only;omega)⟩))))
      have e1:=aK8 w1 w2
      show dA (l++[tV p.aW+tV q.aW])+sV (x.bX.drop (2*(i+1).toNat))=sV x.bX
      rw [CX,show (i+1).toNat=i.toNat+1 by omega]
      have:dA [tV p.aW+tV q.aW]=tV p.aW+tV q.aW:=by simp [dA,eD]
      omega
    · have k:¬ i<(s.bH.bZ.length:Int):=k
      rw [List.drop_eq_nil_of_le (by omega)] at a5
      have:sV []=0:=rfl
      first | omega | (simp only;omega)
  · refine x_eq (tF (by omega) (by omega)) (aD ?_)
    rw [HV hl.2.1 (by omega)];exact hl.2.2
theorem aI1 {s:aA} (h:SS s) {n:Nat} (hn:66<n) {e:Int} {x:aQ} (he:0<=e/\e<(s.bD.length:Int)) (hx:s.bD[e.toNat]?=some x) (hb:x.dR.length=17) (hv:0<=sV x.bX/\sV x.bX<=288230376151711744):EZ n s e=some (decide (sV x.bX=bl x 0)):=by
  refine fH ?_
  unfold EZ aBV
  simp only [WT.run,bS]
  refine aU (λ(b:Bool)=>b=decide (sV x.bX=bl x 0)) (x_eq (q_in he) (dB (x_eq (aN9 h hn he hx hv.2) (dD he.1 hx (eT (by decide) (by omega) λv hv=>aF (aD ?_)))))) λb hb=>aD hb
  have hv:x.dR[0]?=some v:=hv
  unfold bl;rw [getD_at hv]
theorem aM6 {s:aA} {n:Nat} (hn:66<n) (hl:s.bY.length<=40) (hp:∀ r∈s.bY,0<=r.gW) {e:Int} {x:aQ} (he:0<=e/\e<(s.bD.length:Int)) (hx:s.bD[e.toNat]?=some x) (hb:x.dR.length=17) (hb1:bQ (bl x 1)) (hv:eD (iT e.toNat) s.bY<=288230376151711744):DR n s e=some (decide (eD (iT e.toNat) s.bY=-bl x 1)):=by
  refine fH ?_
  unfold DR TZ
  simp only [WT.run,bS]
  refine aWF hn hl hp e λl h1 h2 h3=>?_
  have h3:=h3 he.1
  refine x_eq (tF (by omega) (by omega)) ?_
  rw [HV h2 (by omega)]
  unfold bQ at hb1
  refine aU (λ(b:Bool)=>b=decide (eD (iT e.toNat) s.bY=-bl x 1)) (x_eq (q_in he) (dB (aF (aI (λ_=>dD he.1 hx (eT (by decide) (by omega) λv hv=>?_)) λk=>absurd rfl k)))) λb hb=>aD hb
  have hv:x.dR[1]?=some v:=hv
  have e1:bl x 1=v:=by unfold bl;rw [getD_at hv]
  refine bE (aF (aD ?_))
  exact decide_eq_decide.2 (by simp only;omega)
theorem aOS {s:aA} {n:Nat} (hn:66<n) (hl:s.dL.length<=40) (hp:∀ r∈s.dL,0<=r.Value) {e:Int} {x:aQ} (he:0<=e/\e<(s.bD.length:Int)) (hx:s.bD[e.toNat]?=some x) (hb:x.dR.length=17) (hv:eD (iI e.toNat) s.dL<=288230376151711744):EF n s e=some (decide (eD (iI e.toNat) s.dL=bl x 12)):=by
  refine fH ?_
  unfold EF aFP
  simp only [WT.run,bS]
  refine aQ6 hn hl hp e λl h1 h2 h3=>?_
  have h3:=h3 he.1
  refine x_eq (tF (by omega) (by omega)) ?_
  rw [HV h2 (by omega)]
  refine aU (λ(b:Bool)=>b=decide (eD (iI e.toNat) s.dL=bl x 12)) (x_eq (q_in he) (dB (aF (aI (λ_=>dD he.1 hx (eT (by decide) (by omega) λv hv=>aF (aD ?_))) λk=>absurd rfl k)))) λb hb=>aD hb
  have hv:x.dR[12]?=some v:=hv
  have e1:bl x 12=v:=by unfold bl;rw [getD_at hv]
  exact decide_eq_decide.2 (by simp only;omega)
theorem aXP {s:aA} {n:Nat} (hn:66<n) {e:Int} {x:aQ} (he:0<=e/\e<(s.bD.length:Int)) (hx:s.bD[e.toNat]?=some x) (hb:x.dR.length=17) (hb1:bQ (bl x 11)) (hd:x.Down.length<=5) (hp:∀ y∈x.Down,0<=y) (hv:dA x.Down<=288230376151711744):DU n s e=some (decide (dA x.Down=-bl x 11)):=by
  refine fH ?_
  unfold DU aBA
  simp only [WT.run,bS]
  unfold bQ at hb1
  refine x_eq (q_in he) (aF (bW (dD he.1 hx (x_eq (tF (by omega) (by omega)) ?_))))
  rw [HV hp hv]
  refine aU (λ(b:Bool)=>b=decide (dA x.Down=-bl x 11)) (aF (aI (λ_=>dD he.1 hx (eT (by decide) (by omega) λv hv=>?_)) λk=>absurd rfl k)) λb hb=>aD hb
  have hv:x.dR[11]?=some v:=hv
  have e1:bl x 11=v:=by unfold bl;rw [getD_at hv]
  refine bE (aF (aD ?_))
  exact decide_eq_decide.2 (by simp only;omega)
theorem aNU {s:aA} (h:SS s) {n:Nat} (hn:66<n) {e i:Int} {x:aQ} {r:cO} (ht:gY s e i) (hx:s.bD[e.toNat]?=some x) (hr:x.dQ[i.toNat]?=some r) (hv:sV x.bX<=288230376151711744):∃ p q,x.bX[2*i.toNat]?=some p/\x.bX[2*i.toNat+1]?=some q/\DN n s e i=some (decide (kM r=tV p.aW+tV q.aW)):=by
  obtain ⟨p,q,w1,w2,w3,w4⟩:=Y1 h hn ht hx hv
  obtain ⟨bL,g1,g2,g3,hes⟩:=h.bL hx
  have hlr:x.dQ.length=s.bH.bZ.length:=hes.lr
  obtain ⟨i1,i2,i3,i4,i5,i6,i7,i8,i9,i10,i11⟩:=hes.roll r (fE (l:=x.dQ) hr)
  unfold bQ at i1 i2 i3 i4 i5 i6 i7 i8 i9 i10 i11
  have t1:=ht.1;have t2:=ht.2
  refine ⟨p,q,w1,w2,fH ?_⟩
  unfold DN YU
  simp only [WT.run,bS]
  refine aU (λb=>b=false) (x_eq (q_in t1) (aF (bW (aF (aI (λh=>absurd h (by omega)) λ_=>dD t1.1 hx (aF (aD (decide_eq_false (by omega))))))))) λb hb=>?_
  subst hb
  refine bW (dD t1.1 hx (dD t2.1 hr ?_))
  refine bE (bE (bE (bE (bE (bE (bE (bE (bE (bE (x_eq w3 (aF (aD ?_))))))))))))
  rfl
theorem aVC {l:List Int} {n:Nat} (hn:66<n) (hl:l.length=17) (hw:∀ x∈l,bQ x):Ex (λr=>r.2.2=0/\r.1-r.2.1=dA l) (ME n l):=by
  unfold ME U5
  simp only [WT.run,bS]
  refine aF (aI (λk=>absurd (by omega) k) λ_=>?_)
  refine aU (λ(r:(Int×Int)⊕(Int×Int×Int))=>∃ q,r=.inl q/\q.1-q.2=dA l)
    (fJ (λ(v:Int×Int×Int)=>0<=v.2.2/\v.2.2<=17/\(0<=v.1/\v.1<=288230376151711744*v.2.2)/\(0<=v.2.1/\v.2.1<=288230376151711744*v.2.2)/\v.1-v.2.1+dA (l.drop v.2.2.toNat)=dA l) (λ(v:Int×Int×Int)=>17-v.2.2.toNat) ?_ (v:=(0,0,0)) ⟨by simp,by simp,by simp,by simp,by simp⟩ (by simp;omega)) λr hr=>?_
  · rintro ⟨d,c,i⟩ ⟨a1,a2,a3,a4,a5⟩
    simp only at a1 a2 a3 a4 a5
    refine bF (bF (aF (aI (λk=>?_) λk=>bJ (cK ?_))))
    · have k:i<(l.length:Int):=k
      have hx:l[i.toNat]?=some (l[i.toNat]'(by omega)):=List.getElem?_eq_getElem (by omega)
      generalize l[i.toNat]'(by omega)=x at hx
      have e1:=R9 hx
      have hin:=hw x (fE hx)
      have hin2:=hin
      unfold bQ at hin
      refine aU (λ(r:(Int×Int)⊕((Int×Int×Int)⊕((Int×Int)⊕(Int×Int×Int))))=>∃ q,r=.inl q/\(0<=q.1/\q.1<=288230376151711744*(i+1))/\(0<=q.2/\q.2<=288230376151711744*(i+1))/\q.1-q.2+dA (l.drop (i.toNat+1))=dA l) (dD a1 hx (x_eq (JQ hin2) (aF (bW (dD a1 hx ?_))))) λr hr=>?_
      · refine aF (aI (λ_=>dD a1 hx (bE (cK ⟨_,rfl,by first | omega | (simp only;omega),by first | omega | (simp only;omega),by first | omega | (simp only;omega)⟩))) λ_=>dD a1 hx (bE (cK ⟨_,rfl,by first | omega | (simp only;omega),by first | omega | (simp only;omega),by first | omega | (simp only;omega)⟩)))
      · obtain ⟨q,rfl,q1,q2,q3⟩:=hr
        refine cZ (bF (bE (cK ⟨⟨by first | omega | (simp only;omega),by first | omega | (simp only;omega),q1,q2,?_⟩,by first | omega | (simp only;omega)⟩)))
        show q.1-q.2+dA (l.drop (i+1).toNat)=dA l
        rw [show (i+1).toNat=i.toNat+1 by omega];exact q3
    · have k:¬ i<(l.length:Int):=k
      rw [List.drop_eq_nil_of_le (by omega)] at a5
      have:dA []=0:=rfl
      exact ⟨_,rfl,by first | omega | (simp only;omega)⟩
  · obtain ⟨q,rfl,q1⟩:=hr
    exact cZ (bF (aD ⟨rfl,q1⟩))
theorem aMW {s:aA} {n:Nat} (hn:66<n) {e:Int} {x:aQ} (he:0<=e/\e<(s.bD.length:Int)) (hx:s.bD[e.toNat]?=some x) (hb:x.dR.length=17) (hw:∀ y∈x.dR,bQ y) (h0:dA x.dR=0):E8 n s e=some true:=by
  refine fH ?_
  unfold E8 aB9
  simp only [WT.run,bS]
  refine x_eq (q_in he) (aF (bW (dD he.1 hx (aU _ (aVC hn hb hw) λr hr=>?_))))
  exact aU (λb=>b=true) (aF (aI (λ_=>aF (aD (decide_eq_true (by have:=hr.2;omega)))) λk=>absurd hr.1 k)) λb hb=>aD hb
theorem aM3 {s:aA} {n:Nat} (hn:66<n) (h4:s.bD.length<=4) (hb:∀ x∈s.bD,x.dR.length=17/\bQ (bl x 13)/\bQ (bl x 14)):CW n s=some (decide (eD kH s.bD=0)):=by
  refine fH ?_
  unfold CW aB2
  simp only [WT.run,bS]
  refine aU (λ(r:Int)=>r=eD kH s.bD) (fJ (λ(v:Int×Int)=>0<=v.2/\v.2<=(s.bD.length:Int)/\(-1152921504606846976*v.2<=v.1/\v.1<=1152921504606846976*v.2)/\v.1+eD kH (s.bD.drop v.2.toNat)=eD kH s.bD) (λ(v:Int×Int)=>s.bD.length-v.2.toNat) ?_ (v:=(0,0)) ⟨by simp,by simp,by simp,by simp⟩ (by simp;omega)) λr hr=>by subst hr;exact aF (aD rfl)
  rintro ⟨t,i⟩ ⟨a1,a2,a3,a4⟩
  simp only at a1 a2 a3 a4
  refine bF (aF (aI (λk=>?_) λk=>bJ (aD ?_)))
  · have k:i<(s.bD.length:Int):=k
    have hx:s.bD[i.toNat]?=some (s.bD[i.toNat]'(by omega)):=List.getElem?_eq_getElem (by omega)
    generalize s.bD[i.toNat]'(by omega)=x at hx
    obtain ⟨b1,b2,b3⟩:=hb x (fE hx)
    unfold bQ at b2 b3
    have e1:=tT kH hx
    have eg:kH x=bl x 13+bl x 14:=rfl
    refine dD a1 hx (eT (by decide) (by omega) λu hu=>?_)
    have eu:bl x 13=u:=by have hu:x.dR[13]?=some u:=hu;unfold bl;rw [getD_at hu]
    refine bE (dD a1 hx (eT (by decide) (by omega) λw hw=>?_))
    have ew:bl x 14=w:=by have hw:x.dR[14]?=some w:=hw;unfold bl;rw [getD_at hw]
    refine bE (bE (cK ⟨⟨by first | omega | (simp only;omega),by first | omega | (simp only;omega),by first | omega | (simp only;omega),?_⟩,by first | omega | (simp only;omega)⟩))
    show t+u+w+eD kH (s.bD.drop (i+1).toNat)=_
    rw [show (i+1).toNat=i.toNat+1 by omega];omega
  · have k:¬ i<(s.bD.length:Int):=k
    rw [List.drop_eq_nil_of_le (by omega)] at a4
    have:eD kH ([]:List aQ)=0:=rfl
    first | omega | (simp only;omega)
structure aW0 (s:aA) (n:Nat) (e:Int):Prop where
  c:EZ n s e=some true
  a:DR n s e=some true
  w:EF n s e=some true
  d:DU n s e=some true
  b:E8 n s e=some true
  r:∀ i,0<=i/\i<(s.bH.bZ.length:Int)->DN n s e i=some true
theorem Inv.aV3 {K:Int} {s:aA} (h:Inv K s) {n:Nat} (hn:66<n) {e:Int} (he:0<=e/\e<(s.bD.length:Int)):aW0 s n e:=by
  obtain ⟨x,bL,hx,hm,hes,heb⟩:=h.see he
  have hsp:=h.ss
  have hsv:=heb.x.iC hes
  have hl:=hes.iC h.ss.toS0.iC.2.2
  have hlr:=hes.lr
  have c1:=zD hes 1 (by decide);have c11:=zD hes 11 (by decide)
  have b1:=c1;have b11:=c11;have b12:=zD hes 12 (by decide)
  unfold bQ at b1 b11 b12
  have ha:=h.acc _ _ hx;have hw:=h.way _ _ hx
  refine ⟨?_,?_,?_,?_,?_,?_⟩
  · rw [aI1 hsp hn he hx hes.lb ⟨hes.sv0,hsv⟩,decide_eq_true heb.ctl]
  · rw [aM6 hn h.l1 (λr hr=>by obtain ⟨_,_,_,_,_,_,g,_⟩:=h.mD r hr;exact g.1) he hx hes.lb c1 (by omega),decide_eq_true ha]
  · rw [aOS hn h.l3 (λr hr=>by obtain ⟨_,_,_,_,g,_⟩:=h.nP r hr;exact g.1) he hx hes.lb (by omega),decide_eq_true hw]
  · rw [aXP hn he hx hes.lb c11 hl.2.2.2.2 (λy hy=>(hes.zX y hy).1) (by have:=heb.pW;omega),decide_eq_true heb.pW]
  · exact aMW hn he hx hes.lb hes.gH heb.qX
  · intro i hi
    have hr:x.dQ[i.toNat]?=some (x.dQ[i.toNat]'(by omega)):=List.getElem?_eq_getElem (by omega)
    generalize x.dQ[i.toNat]'(by omega)=r at hr
    obtain ⟨p,q,w1,w2,w3⟩:=aNU hsp hn ⟨he,hi⟩ hx hr hsv
    rw [w3,decide_eq_true (heb.pE _ r p q hr w1 w2)]
theorem Inv.aLM {K:Int} {s:aA} (h:Inv K s) {n:Nat} (hn:66<n):CW n s=some true:=by
  rw [aM3 hn h.ss.toS0.iC.1 ?_,decide_eq_true h.xD]
  intro x hx
  obtain ⟨k,hk⟩:=List.getElem?_of_mem hx
  obtain ⟨bL,hm,_,_,hes⟩:=h.ss.bL hk
  exact ⟨hes.lb,zD hes 13 (by decide),zD hes 14 (by decide)⟩
theorem aUW {K:Int} {s:aA} (h:Inv K s) (hK:K<=1000000) {n:Nat} (hn:200<n):F7 n s=some true:=by
  have hf:=h.ss.toS0.iC
  have hd:=h.xS;have hl:=h.len
  refine fH ?_
  unfold F7 aGA
  simp only [WT.run,bS]
  refine aU (λb=>b=false) (x_eq (aBJ (by omega) h.jW) (aF (bW (aF (aI (λk=>absurd hl k) λ_=>x_eq (lG (by omega)) (aF (bW (x_eq (aOT h (by omega)) (aF (aD rfl)))))))))) λb hb=>?_
  subst hb
  refine bW (aU (λ(r:Unit⊕Bool)=>r=.inl ()) (fJ (λ(i:Int)=>0<=i/\i<=(s.bD.length:Int)) (λ(i:Int)=>s.bD.length-i.toNat) ?_ (v:=0) ⟨by simp,by simp⟩ (by simp;omega)) λr hr=>by subst hr;exact cZ (aD rfl))
  rintro i ⟨h0,h1⟩
  refine aF (aI (λk=>?_) λ_=>bJ (cK rfl))
  have hx:s.bD[i.toNat]?=some (s.bD[i.toNat]'(by omega)):=List.getElem?_eq_getElem (by omega)
  generalize s.bD[i.toNat]'(by omega)=x at hx
  obtain ⟨bL,hm,_,_,hes⟩:=h.ss.bL hx
  exact dD h0 hx (x_eq (aL6 h.jW h0 hm (h.ent _ _ _ hx hm) (by omega)) (aF (bW (bE (cK ⟨⟨by omega,by omega⟩,by omega⟩)))))
theorem Inv.UY {K:Int} {s:aA} (h:Inv K s) (hK:K<=1000000) {n:Nat} (hn:200<n):B8 n s=some true:=by
  have hf:=h.ss.toS0.iC
  refine fH ?_
  unfold B8 TX
  simp only [WT.run,bS]
  refine aU (λb=>b=false) (x_eq (aUW h hK hn) (aF (bW (x_eq (h.aLM (by omega)) (aF (aD rfl)))))) λb hb=>?_
  subst hb
  refine bW (aU (λ(r:Unit⊕Bool)=>r=.inl ()) (fJ (λ(i:Int)=>0<=i/\i<=(s.bD.length:Int)) (λ(i:Int)=>s.bD.length-i.toNat) ?_ (v:=0) ⟨by simp,by simp⟩ (by simp;omega)) λr hr=>by subst hr;exact cZ (aD rfl))
  rintro i ⟨h0,h1⟩
  refine aF (aI (λk=>?_) λ_=>bJ (cK rfl))
  obtain ⟨c,a,w,d,b,r⟩:=h.aV3 (n:=n) (by omega) (e:=i) ⟨h0,k⟩
  refine aU (λ(r:Unit⊕(Int⊕(Unit⊕Bool)))=>r=.inl ()) ?_ λr hr=>by subst hr;exact cZ (bE (cK ⟨⟨by omega,by omega⟩,by omega⟩))
  refine aU (λb=>b=false) ?_ λb hb=>?_
  · simp only [c,a,w,d,b,Option.bind_some]
    exact ⟨_,rfl,rfl⟩
  · subst hb
    refine bW ?_
    refine aU (λ(r:Unit⊕(Unit⊕(Int⊕(Unit⊕Bool))))=>r=.inl ()) (fJ (λ(j:Int)=>0<=j/\j<=(s.bH.bZ.length:Int)) (λ(j:Int)=>s.bH.bZ.length-j.toNat) ?_ (v:=0) ⟨by simp,by simp⟩ (by simp;omega)) λr hr=>by subst hr;exact cZ (cK rfl)
    rintro j ⟨j0,j1⟩
    exact aF (aI (λk2=>x_eq (r j ⟨j0,k2⟩) (aF (bW (bE (cK ⟨⟨by omega,by omega⟩,by omega⟩))))) λ_=>bJ (cK rfl))
end Go.Pv
