import Derived.Test.YtgoihillpibdjaaGreatQK80
set_option linter.unusedVariables false
set_option linter.unusedSimpArgs false
namespace Go.Pv
open Go.Proofs
set_option maxRecDepth 1000000
set_option maxHeartbeats 1000000
theorem aOY {o:bM} {v:Int} (h:o.eY.length<=3):Ex (λr=>r.eY.length<=4) (II o v):=by
  unfold II aG7
  simp only [WT.run,bR]
  refine aT _ (OK (by decide)) λk hk=>?_
  have f1:=td (a:=k) (b:=16) hk.1 (by decide)
  have f2:=tm (a:=k.tdiv 16) (b:=12) f1.1 (by decide)
  refine bF (aD (eF f2.1 (by simpa using f2.2) λx hx=>aD ?_))
  repeat' with_reducible first | refine bF ?_ | refine dP ?_ | apply aD | apply bE | apply dS | apply dI | apply dN | apply dR | apply dO | apply dL | apply dU | apply dQ | refine aH (λ_=>?_) λ_=>?_ | refine dG (λ_=>?_) λ_=>?_ | apply cO | apply bU | apply bY | apply bK | apply aF | refine dF ?_
  all_goals try (show o.eY.length<=4;omega)
  all_goals (show (o.eY++[x]).length<=4;simp;omega)
theorem mU {α J:Type} {l:List α} {n:Nat} (hl:l.length<=60) (hn:66<n) {f:Int->Option (Int⊕(Unit⊕J))} (h1:∀ i x,0<=i->i<(l.length:Int)->l[i.toNat]?=some x->f i=some (.inl (i+1))) (h2:∀ i,¬ i<(l.length:Int)->f i=some (.inr (.inl ()))):iter f n 0=some (.inl ()):=by
  refine eT (fM (λi=>0<=i/\i<=(l.length:Int)) (λi=>l.length-i.toNat) ?_ (v:=(0:Int)) (by simp) (by simp;omega))
  rintro i ⟨h0,h3⟩
  by_cases k:i<(l.length:Int)
  · have hx:=List.getElem?_eq_getElem (l:=l) (i:=i.toNat) (by omega)
    exact ⟨_,h1 i _ h0 k hx,⟨by omega,by omega⟩,by omega⟩
  · exact ⟨_,h2 i k,rfl⟩
theorem D8 {l:List Int} {n:Nat} (hl:l.length<=60) (hn:66<n):sD n l l=some true:=by
  unfold sD UX
  simp only [WT.run,bR]
  refine eB (by simp) (dB (dA (mU hl hn (λi x h0 h hx=>?_) λi h=>?_) rfl))
  · exact fJ h (fC (iA h0 hx (iA h0 hx (eB (by simp) (dB (iO (by omega) rfl))))))
  · exact eB h (dB rfl)
theorem aHZ {l:List (List Int)} {n:Nat} (hl:l.length<=60) (hn:66<n) (hk:∀ x∈l,x.length<=60):GY n l l=some true:=by
  unfold GY aD2
  simp only [WT.run,bR]
  refine eB (by simp) (dB (dA (mU hl hn (λi x h0 h hx=>?_) λi h=>?_) rfl))
  · exact fJ h (fC (iA h0 hx (iA h0 hx (dA (D8 (hk x (fF hx)) hn) (gZ (dB (iO (by omega) rfl)))))))
  · exact eB h (dB rfl)
theorem aQO {m:fG} {n:Nat} (h:pG m) (hn:66<n):JP n m m=some true:=by
  have h1:=h.n1;have h2:=h.vF;have h3:=h.lm;have h4:=h.lc
  unfold JP aAW
  simp only [WT.run,bR]
  refine dA (a:=true) (fJ (by first | trivial | rfl) (fC (fJ (by first | trivial | rfl) (fC (dA (D8 (by omega) hn) (fC (dA (aHZ (by omega) hn λx hx=>by have:=(h.met x hx).1;omega) (fC (dA (aHZ (by omega) hn λx hx=>by have:=(h.cos x hx).1;omega) rfl))))))))) rfl
theorem aS6 (x:aB):J4 x x=some true:=by
  unfold J4 ZS
  simp only [WT.run,bR]
  exact dA (a:=true) (fJ (by first | trivial | rfl) (fC (fJ (by first | trivial | rfl) (fC (fJ (by first | trivial | rfl) rfl))))) rfl
theorem aSG {l:List aB} {n:Nat} (hl:l.length<=60) (hn:66<n):KY n l l=some true:=by
  unfold KY YN
  simp only [WT.run,bR]
  refine eB (by simp) (dB (dA (mU hl hn (λi x h0 h hx=>?_) λi h=>?_) rfl))
  · exact fJ h (fC (iA h0 hx (iA h0 hx (dA (aS6 x) (gZ (dB (iO (by omega) rfl)))))))
  · exact eB h (dB rfl)
theorem aJL {p:aQ} {n:Nat} (hl:p.aG.length<=60) (hn:66<n):NI n p p=some true:=by
  unfold NI aIJ
  simp only [WT.run,bR]
  exact dA (a:=true) (dA (aSG hl hn) (fC (fJ (by first | trivial | rfl) (fC (fJ (by first | trivial | rfl) (fC (fJ (by first | trivial | rfl) rfl))))))) rfl
theorem aPY {s:aA} {n:Nat} (h1:s.cZ.length<=60) (h2:s.dY.length<=60) (h3:s.dJ.length<=60) (hn:66<n):JO n s s=some true:=by
  unfold JO aIP
  simp only [WT.run,bR]
  refine dA (a:=false) (eB (by simp) (dB (eB (by simp) (dB (eB (by simp) rfl))))) (dB (dA (mU h1 hn (λi x h0 h hx=>?_) λi h=>?_) ?_))
  · exact fJ h (fC (iA h0 hx (iA h0 hx (gZ (by rw [decide_eq_true (rfl:x=x)];exact dB (iO (by omega) rfl))))))
  · exact eB h (dB rfl)
  show Option.bind _ _=_
  refine dA (mU h2 hn (λi x h0 h hx=>?_) λi h=>?_) ?_
  · exact fJ h (fC (iA h0 hx (iA h0 hx (gZ (by rw [decide_eq_true (rfl:x=x)];exact dB (iO (by omega) rfl))))))
  · exact eB h (dB rfl)
  show Option.bind _ _=_
  refine dA (mU h3 hn (λi x h0 h hx=>?_) λi h=>?_) rfl
  · exact fJ h (fC (iA h0 hx (iA h0 hx (gZ (by rw [decide_eq_true (rfl:x=x)];exact dB (iO (by omega) rfl))))))
  · exact eB h (dB rfl)
def Sz (x:aP):Prop:=x.bS.length<=10/\x.dH.length<=10/\x.dK.length<=60/\x.fZ.length<=60/\x.Down.length<=60/\∀ p∈x.bS,p.aG.length<=60
theorem XM {x:aP} {n:Nat} (h:Sz x) (ha:x.fP.length<=1) (hn:90<n) (hy:∀ y∈x.fP,wZ n y y=some true):wZ (n+1) x x=some true:=by
  obtain ⟨a1,a2,a3,a4,a5,a6⟩:=h
  rw [aO2]
  unfold UK
  simp only [WT.run,bR]
  refine dA (a:=false) (eB (by simp) (dB (eB (by simp) (dB (eB (by simp) (dB (eB (by simp) (dB (eB (by simp) rfl))))))))) (dB ?_)
  refine dA (a:=.inl ()) (mU (l:=x.bS) (by omega) (by omega) (λi p h0 h hx=>?_) λi h=>eB h (dB rfl)) ?_
  · exact fJ h (fC (iA h0 hx (iA h0 hx (dA (aJL (a6 p (fF hx)) (by omega)) (gZ (dB (iO (by omega) rfl)))))))
  show Option.bind _ _=_
  refine dA (a:=.inl ()) (mU (l:=x.dH) (by omega) (by omega) (λi p h0 h hx=>?_) λi h=>eB h (dB rfl)) ?_
  · refine fJ h (fC (iA h0 hx (dA rfl (iA h0 hx (dA rfl (gZ ?_))))))
    rw [show (!decide ((_:kH)=_))=false from by simp]
    exact dB (iO (by omega) rfl)
  show Option.bind _ _=_
  refine dA (a:=.inl ()) (mU (l:=x.fP) (by omega) (by omega) (λi y h0 h hx=>?_) λi h=>eB h (dB rfl)) ?_
  · exact fJ h (fC (iA h0 hx (iA h0 hx (dA (hy y (fF hx)) (gZ (dB (iO (by omega) rfl)))))))
  show Option.bind _ _=_
  exact dA (a:=true) (dA (D8 (by omega) (by omega)) (fC (dA (D8 (by omega) (by omega)) (fC (dA (D8 (by omega) (by omega)) rfl))))) rfl
theorem VZ {x:aP} {n:Nat} (h:Sz x) (ha:x.fP.length<=1) (hy:∀ y∈x.fP,Sz y/\y.fP=[]) (hn:100<n):wZ n x x=some true:=by
  obtain ⟨m,rfl⟩:∃ m,n=m+2:=⟨n-2,by omega⟩
  refine XM h ha (by omega) λy hy2=>?_
  obtain ⟨g1,g2⟩:=hy y hy2
  exact XM g1 (by rw [g2];simp) (by omega) λz hz=>by rw [g2] at hz;cases hz
theorem ES.sz {n:Nat} {bL:List Int} {iM:Int} {x:aP} (h:ES n bL iM x) (hn:n<=5):Sz x:=by
  have hf:=h.gU hn
  exact ⟨hf.1,by omega,by omega,by omega,by omega,λp hp=>by have:=lQ (h.pr p hp);omega⟩
theorem aDL {K:Int} {s:aA} {n:Nat} (h:Inv K s) (hn:100<n):yF n s s=some true:=by
  have hf:=h.ss.toS0.gU
  have h1:=h.l1;have h2:=h.l2;have h3:=h.l3
  unfold yF aIN
  simp only [WT.run,bR]
  refine dA (a:=false) (dA (aQO h.jP (by omega)) (gZ (dB (eB (by simp) (dB (eB (by simp) (dB (dA (aPY (by omega) (by omega) (by omega) (by omega)) rfl)))))))) (dB (dA (mU (l:=s.bC) (by omega) (by omega) (λi x h0 hi hx=>?_) λi h=>?_) rfl))
  · obtain ⟨bL,hm,_,_,hes⟩:=h.ss.bL hx
    have hei:=h.ent _ _ _ hx hm
    have hs:wZ n x x=some true:=by
      rcases hei with o | ⟨y,c⟩
      · exact VZ (hes.sz hf.2.2) (by rw [o.lF];simp) (λy hy=>by rw [o.lF] at hy;cases hy) hn
      · refine VZ (hes.sz hf.2.2) (by rw [c.lF];simp) (λz hz=>?_) hn
        rw [c.lF,List.mem_singleton] at hz;subst hz
        exact ⟨c.eo.es.sz hf.2.2,c.eo.lF⟩
    exact fJ hi (fC (iA h0 hx (iA h0 hx (dA hs (gZ (dB (iO (by omega) rfl)))))))
  · exact eB h (dB rfl)
theorem lC {a b:Int} (h:0<=a/\a<=b):jQ a b=some true:=by rw [oN,decide_eq_true h]
theorem NU {a:Int} (h:bQ a):nU a=some true:=by rw [CL,decide_eq_true h]
theorem aV2 {K:Int} {s:aA} {n:Nat} (h:Inv K s) (hn:66<n):NE n s=some true:=by
  have hf:=h.ss.toS0.gU
  have h1:=h.l1;have h2:=h.l2;have h3:=h.l3;have hE:=h.len
  unfold NE YZ
  simp only [WT.run,bR]
  refine iO (by omega) (iO (by omega) (dA (mU (l:=s.cZ) (by omega) hn (λi x h0 hi hx=>?_) λi hi=>eB hi (dB rfl)) ?_))
  · have hk:=h.mK x (fF hx)
    unfold yE at hk
    obtain ⟨a1,a2,a3,a4,a5,a6,a7,a8⟩:=hk
    exact fJ hi (fC (iA h0 hx (dA (a:=false) (dA (lC (by omega)) (gZ (dB (dA (lC (by omega)) (gZ (dB (dA (lC (by omega)) (gZ (dB (dA (lC (by omega)) (gZ (dB (dA (lC (by omega)) (gZ (dB (dA (lC (by omega)) (gZ (dB (dA (lC (by omega)) (gZ (dB (dA (lC (by omega)) (gZ rfl))))))))))))))))))))))) (dB (iO (by omega) rfl)))))
  show Option.bind _ _=_
  refine dA (mU (l:=s.dY) (by omega) hn (λi x h0 hi hx=>?_) λi hi=>eB hi (dB rfl)) ?_
  · have hk:=h.nA x (fF hx)
    unfold pU at hk
    obtain ⟨a1,a2,a3,a4,a5,a6,a7,a8⟩:=hk
    exact fJ hi (fC (iA h0 hx (dA (a:=false) (dA (lC (by omega)) (gZ (dB (dA (lC (by omega)) (gZ (dB (dA (lC (by omega)) (gZ (dB (dA (lC (by omega)) (gZ (dB (dA (lC (by omega)) (gZ (dB (dA (lC (by omega)) (gZ (dB (dA (NU a7) (gZ (dB (iO (by omega) (dA (lC (by omega)) (gZ rfl)))))))))))))))))))))))) (dB (iO (by omega) rfl)))))
  show Option.bind _ _=_
  refine dA (mU (l:=s.dJ) (by omega) hn (λi x h0 hi hx=>?_) λi hi=>eB hi (dB rfl)) ?_
  · have hk:=h.nO x (fF hx)
    unfold DI at hk
    obtain ⟨a1,a2,a3,a4,a5,a6⟩:=hk
    exact fJ hi (fC (iA h0 hx (dA (a:=false) (dA (lC (by omega)) (gZ (dB (dA (lC (by omega)) (gZ (dB (dA (lC (by omega)) (gZ (dB (dA (lC (by omega)) (gZ (dB (dA (lC (by omega)) (gZ (dB (dA (NU a6) (gZ rfl))))))))))))))))) (dB (iO (by omega) rfl)))))
  exact dA (a:=true) (fJ (by omega) (fC (fJ (by omega) (fC (fJ (by omega) rfl))))) rfl
theorem PW {l:List Int} {k:Nat} {lo:Int} {n:Nat} (hk:l.length=k) (hl:l.length<=60) (hn:66<n) (h:∀ y∈l,lo<=y/\y<=288230376151711744):C5 n l k lo=some true:=by
  unfold C5 aCY
  simp only [WT.run,bR]
  refine eB (by omega) (dB (dA (mU (l:=l) hl hn (λi x h0 hi hx=>?_) λi hi=>eB (by omega) (dB rfl)) rfl))
  have:=h x (fF hx)
  exact fJ (by omega) (fC (dA (a:=false) (iA h0 hx (eB (by omega) (dB (iA h0 hx (eB (by omega) rfl))))) (dB (iO (by omega) rfl))))
theorem q_in {s:aA} {e:Int} (he:0<=e/\e<(s.bC.length:Int)):uL s e=some true:=by
  unfold uL YO
  simp only [WT.run,bR]
  exact dA (a:=true) (fJ he.1 (fC (fJ he.2 rfl))) rfl
theorem VM {m:Int} {p:aQ} {n:Nat} (hn:70<n) (h:PR m p):NG n m p=some true:=by
  have hm:=h.mt;have h30:=lQ h.ly
  have a0:=h.p0;have a1:=h.p1;have a2:=h.p2;have hs:=h.sum;have ho:=h.sZ;have hQ:=h.ly.2.2.1
  refine eT ?_
  unfold NG aIU
  simp only [WT.run,bR]
  refine aT (λb=>b=false) ⟨_,eB (by omega) (dB (eB (by omega) (dB ?_))),rfl⟩ λb hb=>?_
  · obtain ⟨b,hb,hc⟩:=CO (l:=p.aG) (n:=n) (by omega) (by omega)
    have:b=true:=hc.2 h.ly
    subst this
    refine dA hb (gZ (dB ?_))
    by_cases k1:m=1
    · exact eB (by omega) (dB rfl)
    · exact fJ k1 (fC (eB (by have:=h.one k1;omega) rfl))
  subst hb
  refine bU (x_eq (wG (by omega) h.ly) (aT (λr=>r=.inl ()) (fM (λ(v:Int×Int)=>(v.2=0/\v.1=tQ p.aG)\/(v.2=1/\v.1=tQ p.aG-p.bH.a0)\/(v.2=2/\v.1=tQ p.aG-p.bH.a0-p.bH.a1)\/v.2=3) (λv=>3-v.2.toNat) ?_ (.inl ⟨rfl,rfl⟩) (by simp;omega)) λr hr=>by subst hr;exact bY (aF rfl)))
  rintro ⟨q,i⟩ hi
  rcases hi with ⟨rfl,hq⟩ | ⟨rfl,hq⟩ | ⟨rfl,hq⟩ | rfl
  all_goals try simp only at hq
  · have ho:=λk=>(ho k).1
    refine bE (aD (aH (λ_=>?_) λk=>absurd (show (0:Int)<3 by decide) k))
    refine aT (λr=>r=(.inl (q-p.bH.a0,0):(Int×Int)⊕((Int×Int)⊕(Unit⊕Bool)))) (aT (λr=>r=((0:Int),false)) ?_ λr hr=>?_) λr hr=>?_
    · repeat' with_reducible first | refine bF ?_ | refine dP ?_ | apply aD | apply bE | apply dS | apply dI | apply dN | apply dR | apply dO | apply dL | apply dU | apply dQ | refine aH (λ_=>?_) λ_=>?_ | refine dG (λ_=>?_) λ_=>?_ | apply cO | apply bU | apply bY | apply bK | apply aF | refine dF ?_
      all_goals try (exfalso;omega)
      all_goals try rfl
      simp [ho (by assumption)]
    · subst hr
      refine bE (bU ?_)
      repeat' with_reducible first | refine bF ?_ | refine dP ?_ | apply aD | apply bE | apply dS | apply dI | apply dN | apply dR | apply dO | apply dL | apply dU | apply dQ | refine aH (λ_=>?_) λ_=>?_ | refine dG (λ_=>?_) λ_=>?_ | apply cO | apply bU | apply bY | apply bK | apply aF | refine dF ?_
      all_goals try (exfalso;omega)
      all_goals exact bX rfl
    · subst hr
      exact bY (bE (gL (show (-9223372036854775808:Int)<=0+1/\(0+1:Int)<=9223372036854775807 by decide) (bX ⟨by simp only;omega,by simp⟩)))
  · have ho:=λk=>(ho k).2.1
    refine bE (aD (aH (λ_=>?_) λk=>absurd (show (1:Int)<3 by decide) k))
    refine aT (λr=>r=(.inl (q-p.bH.a1,1):(Int×Int)⊕((Int×Int)⊕(Unit⊕Bool)))) (aT (λr=>r=((1:Int),false)) ?_ λr hr=>?_) λr hr=>?_
    · repeat' with_reducible first | refine bF ?_ | refine dP ?_ | apply aD | apply bE | apply dS | apply dI | apply dN | apply dR | apply dO | apply dL | apply dU | apply dQ | refine aH (λ_=>?_) λ_=>?_ | refine dG (λ_=>?_) λ_=>?_ | apply cO | apply bU | apply bY | apply bK | apply aF | refine dF ?_
      all_goals try (exfalso;omega)
      all_goals try rfl
      simp [ho (by assumption)]
    · subst hr
      refine bE (bU ?_)
      repeat' with_reducible first | refine bF ?_ | refine dP ?_ | apply aD | apply bE | apply dS | apply dI | apply dN | apply dR | apply dO | apply dL | apply dU | apply dQ | refine aH (λ_=>?_) λ_=>?_ | refine dG (λ_=>?_) λ_=>?_ | apply cO | apply bU | apply bY | apply bK | apply aF | refine dF ?_
      all_goals try (exfalso;omega)
      all_goals exact bX rfl
    · subst hr
      exact bY (bE (gL (show (-9223372036854775808:Int)<=1+1/\(1+1:Int)<=9223372036854775807 by decide) (bX ⟨by simp only;omega,by simp⟩)))
  · have ho:=λk=>(ho k).2.2
    refine bE (aD (aH (λ_=>?_) λk=>absurd (show (2:Int)<3 by decide) k))
    refine aT (λr=>r=(.inl (q-p.bH.a2,2):(Int×Int)⊕((Int×Int)⊕(Unit⊕Bool)))) (aT (λr=>r=((2:Int),false)) ?_ λr hr=>?_) λr hr=>?_
    · repeat' with_reducible first | refine bF ?_ | refine dP ?_ | apply aD | apply bE | apply dS | apply dI | apply dN | apply dR | apply dO | apply dL | apply dU | apply dQ | refine aH (λ_=>?_) λ_=>?_ | refine dG (λ_=>?_) λ_=>?_ | apply cO | apply bU | apply bY | apply bK | apply aF | refine dF ?_
      all_goals try (exfalso;omega)
      all_goals try rfl
      simp [ho (by assumption)]
    · subst hr
      refine bE (bU ?_)
      repeat' with_reducible first | refine bF ?_ | refine dP ?_ | apply aD | apply bE | apply dS | apply dI | apply dN | apply dR | apply dO | apply dL | apply dU | apply dQ | refine aH (λ_=>?_) λ_=>?_ | refine dG (λ_=>?_) λ_=>?_ | apply cO | apply bU | apply bY | apply bK | apply aF | refine dF ?_
      all_goals try (exfalso;omega)
      all_goals exact bX rfl
    · subst hr
      exact bY (bE (gL (show (-9223372036854775808:Int)<=2+1/\(2+1:Int)<=9223372036854775807 by decide) (bX ⟨by simp only;omega,by simp⟩)))
  · exact bE (aD (aH (λk=>absurd k (show ¬ (3:Int)<3 by decide)) λ_=>bK (bX rfl)))
theorem aYG {m:fG} {bL:List Int} {x:aP} (hs:ES m.cB.length bL m.gP x) {i:Int} (h0:0<=i) (hi:i<(x.bS.length:Int)):∃ t p,bL[(i.tdiv 2).toNat]?=some t/\x.bS[i.toNat]?=some p/\PR t p:=by
  have hl:=hs.lp;have hm:=hs.lm
  have e1:i.tdiv 2=i / 2:=Int.tdiv_eq_ediv_of_nonneg h0
  have hj:(i.tdiv 2).toNat<m.cB.length:=by omega
  have g1:=List.getElem?_eq_getElem (l:=bL) (i:=(i.tdiv 2).toNat) (by omega)
  have g2:=List.getElem?_eq_getElem (l:=x.bS) (i:=2*(i.tdiv 2).toNat) (by omega)
  have g3:=List.getElem?_eq_getElem (l:=x.bS) (i:=2*(i.tdiv 2).toNat+1) (by omega)
  have hp:=hs.BR _ _ _ _ g1 g2 g3
  rcases (show i.toNat=2*(i.tdiv 2).toNat\/i.toNat=2*(i.tdiv 2).toNat+1 by omega) with k | k
  · exact ⟨_,_,g1,(congrArg (x.bS[·]?) k).trans g2,hp.pp⟩
  · exact ⟨_,_,g1,(congrArg (x.bS[·]?) k).trans g3,hp.qq⟩
theorem aMG (r:cK):vY r=some ⟨r.Open,r.jC,r.jE,r.jD,r.jB,r.iZ,r.jG,r.iX,r.iV,r.jF,r.jH⟩:=by
  unfold vY aB8
  simp only [WT.run,bR]
theorem QH {m:fG} {bL:List Int} {x:aP} {e:Int} {b:Bool} {n:Nat} (hM:pG m) (h0:0<=e) (hm:m.Methods[e.toNat]?=some bL) (hs:ES m.cB.length bL m.gP x) (hn:90<n) :
    y8 (n+1) m e x b=bnd (decide ((x.fP.length:Int)=0)) λ(x46:Bool) =>
    cond x46 (bnd (!x.Closed) λ(x52:Bool) =>
    some ((x52:Bool))) ((show Option (Bool) from
    cond b (bnd x.Closed λ(x48:Bool) =>
    cond x48 (bnd (decide ((x.fP.length:Int)=1)) λ(x49:Bool) =>
    cond x49 ((ix x.fP 0).bind λ(x50:aP) =>
    (y8 n m e x50 false).bind λ(x51:Bool) =>
    some (x51:Bool)) (some (false:Bool))) (some (false:Bool))) (some (false:Bool))).bind <| λ(y8_1:Bool) =>
    some ((y8_1:Bool))):=by
  have h1:=hs.now;have h2:=hs.lp;have h3:=hs.lr;have h4:=hs.lb;have h5:=hs.lc;have h6:=hs.ld;have hw:=hM.n1
  rw [aJR]
  unfold RI
  simp only [WT.run,bR]
  refine dA (a:=false) (eB (by omega) (dB (eB (by omega) (dB (iO (by omega) (eB (by omega) (dB (eB (by omega) (dB (dA (PW (k:=17) h4 (by omega) (by omega) λy hy=>hs.gK y hy) (gZ (dB (dA (PW (k:=m.cB.length) h5 (by omega) (by omega) hs.pri) (gZ (dB (dA (PW (k:=m.cB.length) h6 (by omega) (by omega) hs.BF) rfl)))))))))))))))) (dB ?_)
  refine dA (a:=.inl ()) (mU (l:=x.bS) (by omega) (by omega) (λi p g0 hc hx=>?_) λi hc=>eB hc (dB rfl)) ?_
  · obtain ⟨t,p,w1,w2,w3⟩:=aYG hs g0 hc
    have e1:i.tdiv 2=i / 2:=Int.tdiv_eq_ediv_of_nonneg g0
    exact fJ hc (fC (iA h0 hm (iO (by omega) (iA (by omega) w1 (iA g0 w2 (dA (VM (by omega) w3) (gZ (dB (iO (by omega) rfl)))))))))
  show Option.bind _ _=_
  refine dA (a:=.inl ()) (mU (l:=m.cB) (by omega) (by omega) (λi _ g0 hc hx=>?_) λi hc=>eB hc (dB rfl)) rfl
  have g:=List.getElem?_eq_getElem (l:=x.dH) (i:=i.toNat) (by omega)
  generalize x.dH[i.toNat]'(by omega)=r at g
  obtain ⟨c0,c1,c2,c3,c4,c5,c6,c7,c8,c9,c10⟩:=hs.roll _ (fF g)
  have hl:([r.Open,r.jC,r.jE,r.jD,r.jB,r.iZ,r.jG,r.iX,r.iV,r.jF,r.jH]:List Int).length=11:=rfl
  refine fJ hc (fC (dA (a:=(.inl ():Unit⊕(Int⊕(Unit⊕Bool)))) (iA g0 g (dA (aMG _) (dA (a:=(.inl ():Unit⊕(Unit⊕(Int⊕(Unit⊕Bool))))) (mU (l:=[r.Open,r.jC,r.jE,r.jD,r.jB,r.iZ,r.jG,r.iX,r.iV,r.jF,r.jH]) (by omega) (by omega) (λj y j0 hj hy=>?_) λj hj=>eB (by omega) (dB rfl)) rfl))) (WE (iO (by omega) rfl))))
  refine fJ (show j<11 by omega) (fC (oZ ⟨j0,by omega⟩ (iA j0 hy (dA (NU ?_) (gZ (dB (iO (by omega) rfl)))))))
  have hy:=fF hy
  simp only [List.mem_cons,List.not_mem_nil,or_false] at hy
  rcases hy with rfl | rfl | rfl | rfl | rfl | rfl | rfl | rfl | rfl | rfl | rfl <;> assumption
theorem aQG {m:fG} {bL:List Int} {x:aP} {e:Int} {n:Nat} (hM:pG m) (h0:0<=e) (hm:m.Methods[e.toNat]?=some bL) (hs:EI m bL x) (hn:100<n):y8 n m e x true=some true:=by
  obtain ⟨n,rfl⟩:∃ j,n=j+2:=⟨n-2,by omega⟩
  rcases hs with h | ⟨y,h⟩
  · rw [QH hM h0 hm h.es (by omega)]
    have:=h.lF;have:=h.opn
    refine fJ (by simp [*]) (fC ?_)
    rw [h.opn];rfl
  · rw [QH hM h0 hm h.es (by omega)]
    refine eB (by rw [h.lF];simp) (dB (dA (a:=true) (fC ?_) rfl))
    rw [h.JN,h.lF]
    refine gZ (fC (fJ rfl (fC (iA (by decide) rfl (dA (a:=true) ?_ rfl)))))
    rw [QH hM h0 hm h.eo.es (by omega)]
    refine fJ (by rw [h.eo.lF];rfl) (fC ?_)
    rw [h.eo.opn];rfl
theorem aJQ {l:List aQ} {i:Nat} {p q:aQ} (hp:l[2*i]?=some p) (hq:l[2*i+1]?=some q):sV (l.drop (2*i))=tV p.aG+tV q.aG+sV (l.drop (2*(i+1))):=by
  have e1:sV (l.drop (2*i))=tV p.aG+sV (l.drop (2*i+1)):=uR _ hp
  have e2:sV (l.drop (2*i+1))=tV q.aG+sV (l.drop (2*i+1+1)):=uR _ hq
  rw [e1,e2,show 2*(i+1)=2*i+1+1 by omega];omega
theorem aWF {s:aA} {n:Nat} (hn:66<n) (hl:s.cZ.length<=40) (hp:∀ r∈s.cZ,0<=r.jR) (e:Int) {P:Bool->Prop} {f:List Int->Option Bool} (k:∀ l:List Int,l.length<=40->(∀ y∈l,0<=y)->(0<=e->dD l=dZ (iU e.toNat) s.cZ)->Ex P (f l)) :
    Ex P ((iter (λ(v:Int×List Int)=>p2 (λ(a:Int) (b:List Int)=>bnd (decide (a<(s.cZ.length:Int))) λ(x:Bool)=>cond x (((ix s.cZ a).bind λ(x:eU)=>bnd (decide (x.fT=e)) λ(x_1:Bool)=>cond x_1 ((ix s.cZ a).bind λ(x:eU)=>bnd (b++[x.jR]) λ(x:List Int)=>iQ (x.length<=68719476736) (some x)) (some b)).bind λ(y:List Int)=>bnd (aW (a+1)) λ(x:Int)=>brk (x,y)) (esc (some b))) v) n (0,[])).bind f):=by
  refine aT (λ(l:List Int)=>l.length<=40/\(∀ y∈l,0<=y)/\(0<=e->dD l=dZ (iU e.toNat) s.cZ)) (fM (λ(v:Int×List Int)=>0<=v.1/\v.1<=(s.cZ.length:Int)/\(v.2.length:Int)<=v.1/\(∀ y∈v.2,0<=y)/\(0<=e->dD v.2+dZ (iU e.toNat) (s.cZ.drop v.1.toNat)=dZ (iU e.toNat) s.cZ)) (λ(v:Int×List Int)=>s.cZ.length-v.1.toNat) ?_ (v:=(0,[])) ⟨by simp,by simp,by simp,(λ_ h=>nomatch h),λ_=>by simp [dD,dZ]⟩ (by simp;omega)) λl hl=>k l hl.1 hl.2.1 hl.2.2
  rintro ⟨i,l⟩ ⟨a1,a2,a3,a4,a5⟩
  simp only at a1 a2 a3 a4 a5
  refine bE (aD (aH (λk=>?_) λk=>bK (aF ⟨by first | omega | (simp only;omega),a4,λhe=>?_⟩)))
  · have k:i<(s.cZ.length:Int):=k
    refine aT (λ(l':List Int)=>(l'.length:Int)<=i+1/\(∀ y∈l',0<=y)/\(0<=e->dD l'+dZ (iU e.toNat) (s.cZ.drop (i.toNat+1))=dZ (iU e.toNat) s.cZ)) (eF a1 k λr hr=>?_) λl' hl'=>bF (bX ⟨⟨by first | omega | (simp only;omega),by first | omega | (simp only;omega),hl'.1,hl'.2.1,λhe=>?_⟩,by first | omega | (simp only;omega)⟩)
    · have hr:s.cZ[i.toNat]?=some r:=hr
      have e1:=uR (iU e.toNat) hr
      refine aD (aH (λke=>bW a1 hr (aD (dF (aF ⟨by simp;omega,mQ a4 (hp r (fF hr)),λhe=>?_⟩)))) λke=>aF ⟨by first | omega | (simp only;omega),a4,λhe=>?_⟩)
      · have:=a5 he
        have e2:iU e.toNat r=r.jR:=by unfold iU;rw [if_pos (by omega)]
        rw [FY]
        have:dD [r.jR]=r.jR:=by simp [dD,dZ]
        show dD l+dD [r.jR]+dZ (iU e.toNat) (s.cZ.drop (i.toNat+1))=dZ (iU e.toNat) s.cZ
        omega
      · have:=a5 he
        have e2:iU e.toNat r=0:=by unfold iU;rw [if_neg (by omega)]
        show dD l+dZ (iU e.toNat) (s.cZ.drop (i.toNat+1))=dZ (iU e.toNat) s.cZ
        omega
    · have:=hl'.2.2 he
      show dD l'+dZ (iU e.toNat) (s.cZ.drop (i+1).toNat)=_
      rw [show (i+1).toNat=i.toNat+1 by omega];exact this
  · have k:¬ i<(s.cZ.length:Int):=k
    have:=a5 he
    rw [List.drop_eq_nil_of_le (by omega)] at this
    have z:dZ (iU e.toNat) ([]:List eU)=0:=rfl
    show dD l=dZ (iU e.toNat) s.cZ
    omega
theorem aV8 {s:aA} {n:Nat} (hn:66<n) (hl:s.dJ.length<=40) (hp:∀ r∈s.dJ,0<=r.Value) (e:Int) {P:Bool->Prop} {f:List Int->Option Bool} (k:∀ l:List Int,l.length<=40->(∀ y∈l,0<=y)->(0<=e->dD l=dZ (iI e.toNat) s.dJ)->Ex P (f l)) :
    Ex P ((iter (λ(v:Int×List Int)=>p2 (λ(a:Int) (b:List Int)=>bnd (decide (a<(s.dJ.length:Int))) λ(x:Bool)=>cond x (((ix s.dJ a).bind λ(x:fU)=>bnd (decide (x.To=e)) λ(x_1:Bool)=>cond x_1 ((ix s.dJ a).bind λ(x:fU)=>bnd (b++[x.Value]) λ(x:List Int)=>iQ (x.length<=68719476736) (some x)) (some b)).bind λ(y:List Int)=>bnd (aW (a+1)) λ(x:Int)=>brk (x,y)) (esc (some b))) v) n (0,[])).bind f):=by
  refine aT (λ(l:List Int)=>l.length<=40/\(∀ y∈l,0<=y)/\(0<=e->dD l=dZ (iI e.toNat) s.dJ)) (fM (λ(v:Int×List Int)=>0<=v.1/\v.1<=(s.dJ.length:Int)/\(v.2.length:Int)<=v.1/\(∀ y∈v.2,0<=y)/\(0<=e->dD v.2+dZ (iI e.toNat) (s.dJ.drop v.1.toNat)=dZ (iI e.toNat) s.dJ)) (λ(v:Int×List Int)=>s.dJ.length-v.1.toNat) ?_ (v:=(0,[])) ⟨by simp,by simp,by simp,(λ_ h=>nomatch h),λ_=>by simp [dD,dZ]⟩ (by simp;omega)) λl hl=>k l hl.1 hl.2.1 hl.2.2
  rintro ⟨i,l⟩ ⟨a1,a2,a3,a4,a5⟩
  simp only at a1 a2 a3 a4 a5
  refine bE (aD (aH (λk=>?_) λk=>bK (aF ⟨by first | omega | (simp only;omega),a4,λhe=>?_⟩)))
  · have k:i<(s.dJ.length:Int):=k
    refine aT (λ(l':List Int)=>(l'.length:Int)<=i+1/\(∀ y∈l',0<=y)/\(0<=e->dD l'+dZ (iI e.toNat) (s.dJ.drop (i.toNat+1))=dZ (iI e.toNat) s.dJ)) (eF a1 k λr hr=>?_) λl' hl'=>bF (bX ⟨⟨by first | omega | (simp only;omega),by first | omega | (simp only;omega),hl'.1,hl'.2.1,λhe=>?_⟩,by first | omega | (simp only;omega)⟩)
    · have hr:s.dJ[i.toNat]?=some r:=hr
      have e1:=uR (iI e.toNat) hr
      refine aD (aH (λke=>bW a1 hr (aD (dF (aF ⟨by simp;omega,mQ a4 (hp r (fF hr)),λhe=>?_⟩)))) λke=>aF ⟨by first | omega | (simp only;omega),a4,λhe=>?_⟩)
      · have:=a5 he
        have e2:iI e.toNat r=r.Value:=by unfold iI;rw [if_pos (by omega)]
        rw [FY]
        have:dD [r.Value]=r.Value:=by simp [dD,dZ]
        show dD l+dD [r.Value]+dZ (iI e.toNat) (s.dJ.drop (i.toNat+1))=dZ (iI e.toNat) s.dJ
        omega
      · have:=a5 he
        have e2:iI e.toNat r=0:=by unfold iI;rw [if_neg (by omega)]
        show dD l+dZ (iI e.toNat) (s.dJ.drop (i.toNat+1))=dZ (iI e.toNat) s.dJ
        omega
    · have:=hl'.2.2 he
      show dD l'+dZ (iI e.toNat) (s.dJ.drop (i+1).toNat)=_
      rw [show (i+1).toNat=i.toNat+1 by omega];exact this
  · have k:¬ i<(s.dJ.length:Int):=k
    have:=a5 he
    rw [List.drop_eq_nil_of_le (by omega)] at this
    have z:dZ (iI e.toNat) ([]:List fU)=0:=rfl
    show dD l=dZ (iI e.toNat) s.dJ
    omega
theorem Inv.see {K:Int} {s:aA} (h:Inv K s) {e:Int} (he:0<=e/\e<(s.bC.length:Int)):∃ x bL,s.bC[e.toNat]?=some x/\s.bJ.Methods[e.toNat]?=some bL/\ES s.bJ.cB.length bL s.bJ.gP x/\EB x:=by
  have hx:s.bC[e.toNat]?=some (s.bC[e.toNat]'(by omega)):=List.getElem?_eq_getElem (by omega)
  obtain ⟨bL,hm,_,_,hes⟩:=h.ss.bL hx
  refine ⟨_,bL,hx,hm,hes,?_⟩
  rcases h.ent _ _ _ hx hm with g | ⟨y,g⟩
  · exact g.ee
  · exact g.ee
theorem ES.sv0 {n:Nat} {bL:List Int} {iM:Int} {x:aP} (h:ES n bL iM x):0<=sV x.bS:=uW λp hp=>(gN (h.pr p hp)).2.1.1
theorem aEG {s:aA} (h:SS s) {n:Nat} (hn:66<n) {e i:Int} {x:aP} (ht:gM s e i) (hx:s.bC[e.toNat]?=some x) (hv:sV x.bS<=288230376151711744):∃ p q,x.bS[2*i.toNat]?=some p/\x.bS[2*i.toNat+1]?=some q/\xI n s e i=some ⟨tQ p.aG+tQ q.aG,tV p.aG+tV q.aG,tP p.aG+tP q.aG⟩/\0<=tV p.aG+tV q.aG:=by
  obtain ⟨bL,g1,g2,g3,hes⟩:=h.bL hx
  have ht2:=ht.2
  obtain ⟨m,p,q,w1,w2,w3,w4,w5,w6⟩:=hes.QO hv (i:=i.toNat) (by omega)
  have w2:x.bS[2*i.toNat]?=some p:=w2
  have w3:x.bS[2*i.toNat+1]?=some q:=w3
  exact ⟨p,q,w2,w3,O7 hn h ht hx w2 w3 w4 w5,w6⟩
theorem aV9 {s:aA} (h:SS s) {n:Nat} (hn:66<n) {e:Int} {x:aP} (he:0<=e/\e<(s.bC.length:Int)) (hx:s.bC[e.toNat]?=some x) (hv:sV x.bS<=288230376151711744):L9 n s e=some (sV x.bS):=by
  have hf:=h.toS0.gU
  obtain ⟨bL,g1,g2,g3,hes⟩:=h.bL hx
  have hlp:x.bS.length=2*s.bJ.cB.length:=hes.lp
  refine eT ?_
  unfold L9 XE
  simp only [WT.run,bR]
  refine aT (λ(l:List Int)=>l.length<=5/\(∀ y∈l,0<=y)/\dD l=sV x.bS) (fM (λ(v:Int×List Int)=>0<=v.1/\v.1<=(s.bJ.cB.length:Int)/\(v.2.length:Int)=v.1/\(∀ y∈v.2,0<=y)/\dD v.2+sV (x.bS.drop (2*v.1.toNat))=sV x.bS) (λ(v:Int×List Int)=>s.bJ.cB.length-v.1.toNat) ?_ (v:=(0,[])) ⟨by simp,by simp,rfl,(λ_ h=>nomatch h),by simp [dD,dZ]⟩ (by simp;omega)) λl hl=>?_
  · rintro ⟨i,l⟩ ⟨a1,a2,a3,a4,a5⟩
    simp only at a1 a2 a3 a4 a5
    refine bE (aD (aH (λk=>?_) λk=>bK (aF ⟨by first | omega | (simp only;omega),a4,?_⟩)))
    · have k:i<(s.bJ.cB.length:Int):=k
      obtain ⟨p,q,w1,w2,w3,w4⟩:=aEG h hn (i:=i) ⟨he,a1,k⟩ hx hv
      refine x_eq w3 (aD (dF (bF (bX ⟨⟨by first | omega | (simp only;omega),by first | omega | (simp only;omega),by simp;omega,mQ a4 w4,?_⟩,by first | omega | (simp only;omega)⟩))))
      have e1:=aJQ w1 w2
      show dD (l++[tV p.aG+tV q.aG])+sV (x.bS.drop (2*(i+1).toNat))=sV x.bS
      rw [FY,show (i+1).toNat=i.toNat+1 by omega]
      have:dD [tV p.aG+tV q.aG]=tV p.aG+tV q.aG:=by simp [dD,dZ]
      omega
    · have k:¬ i<(s.bJ.cB.length:Int):=k
      rw [List.drop_eq_nil_of_le (by omega)] at a5
      have:sV []=0:=rfl
      first | omega | (simp only;omega)
  · refine x_eq (uH (by omega) (by omega)) (aF ?_)
    rw [LZ hl.2.1 (by omega)];exact hl.2.2
theorem aNX {s:aA} (h:SS s) {n:Nat} (hn:66<n) {e:Int} {x:aP} (he:0<=e/\e<(s.bC.length:Int)) (hx:s.bC[e.toNat]?=some x) (hb:x.dK.length=17) (hv:0<=sV x.bS/\sV x.bS<=288230376151711744):FJ n s e=some (decide (sV x.bS=bl x 0)):=by
  refine eT ?_
  unfold FJ aJF
  simp only [WT.run,bR]
  refine aT (λ(b:Bool)=>b=decide (sV x.bS=bl x 0)) (x_eq (q_in he) (cO (x_eq (aV9 h hn he hx hv.2) (bW he.1 hx (eF (by decide) (by omega) λv hv=>aD (aF ?_)))))) λb hb=>aF hb
  have hv:x.dK[0]?=some v:=hv
  unfold bl;rw [getD_at hv]
theorem aL8 {s:aA} {n:Nat} (hn:66<n) (hl:s.cZ.length<=40) (hp:∀ r∈s.cZ,0<=r.jR) {e:Int} {x:aP} (he:0<=e/\e<(s.bC.length:Int)) (hx:s.bC[e.toNat]?=some x) (hb:x.dK.length=17) (hb1:bQ (bl x 1)) (hv:dZ (iU e.toNat) s.cZ<=288230376151711744):GX n s e=some (decide (dZ (iU e.toNat) s.cZ=-bl x 1)):=by
  refine eT ?_
  unfold GX aG8
  simp only [WT.run,bR]
  refine aWF hn hl hp e λl h1 h2 h3=>?_
  have h3:=h3 he.1
  refine x_eq (uH (by omega) (by omega)) ?_
  rw [LZ h2 (by omega)]
  unfold bQ at hb1
  refine aT (λ(b:Bool)=>b=decide (dZ (iU e.toNat) s.cZ=-bl x 1)) (x_eq (q_in he) (cO (aD (aH (λ_=>bW he.1 hx (eF (by decide) (by omega) λv hv=>?_)) λk=>absurd rfl k)))) λb hb=>aF hb
  have hv:x.dK[1]?=some v:=hv
  have e1:bl x 1=v:=by unfold bl;rw [getD_at hv]
  refine bF (aD (aF ?_))
  exact decide_eq_decide.2 (by simp only;omega)
theorem aZ6 {s:aA} {n:Nat} (hn:66<n) (hl:s.dJ.length<=40) (hp:∀ r∈s.dJ,0<=r.Value) {e:Int} {x:aP} (he:0<=e/\e<(s.bC.length:Int)) (hx:s.bC[e.toNat]?=some x) (hb:x.dK.length=17) (hv:dZ (iI e.toNat) s.dJ<=288230376151711744):HV n s e=some (decide (dZ (iI e.toNat) s.dJ=bl x 12)):=by
  refine eT ?_
  unfold HV V6
  simp only [WT.run,bR]
  refine aV8 hn hl hp e λl h1 h2 h3=>?_
  have h3:=h3 he.1
  refine x_eq (uH (by omega) (by omega)) ?_
  rw [LZ h2 (by omega)]
  refine aT (λ(b:Bool)=>b=decide (dZ (iI e.toNat) s.dJ=bl x 12)) (x_eq (q_in he) (cO (aD (aH (λ_=>bW he.1 hx (eF (by decide) (by omega) λv hv=>aD (aF ?_))) λk=>absurd rfl k)))) λb hb=>aF hb
  have hv:x.dK[12]?=some v:=hv
  have e1:bl x 12=v:=by unfold bl;rw [getD_at hv]
  exact decide_eq_decide.2 (by simp only;omega)
theorem aU4 {s:aA} {n:Nat} (hn:66<n) {e:Int} {x:aP} (he:0<=e/\e<(s.bC.length:Int)) (hx:s.bC[e.toNat]?=some x) (hb:x.dK.length=17) (hb1:bQ (bl x 11)) (hd:x.Down.length<=5) (hp:∀ y∈x.Down,0<=y) (hv:dD x.Down<=288230376151711744):FQ n s e=some (decide (dD x.Down=-bl x 11)):=by
  refine eT ?_
  unfold FQ ZP
  simp only [WT.run,bR]
  unfold bQ at hb1
  refine x_eq (q_in he) (aD (bU (bW he.1 hx (x_eq (uH (by omega) (by omega)) ?_))))
  rw [LZ hp hv]
  refine aT (λ(b:Bool)=>b=decide (dD x.Down=-bl x 11)) (aD (aH (λ_=>bW he.1 hx (eF (by decide) (by omega) λv hv=>?_)) λk=>absurd rfl k)) λb hb=>aF hb
  have hv:x.dK[11]?=some v:=hv
  have e1:bl x 11=v:=by unfold bl;rw [getD_at hv]
  refine bF (aD (aF ?_))
  exact decide_eq_decide.2 (by simp only;omega)
theorem aOC {s:aA} (h:SS s) {n:Nat} (hn:66<n) {e i:Int} {x:aP} {r:cK} (ht:gM s e i) (hx:s.bC[e.toNat]?=some x) (hr:x.dH[i.toNat]?=some r) (hv:sV x.bS<=288230376151711744):∃ p q,x.bS[2*i.toNat]?=some p/\x.bS[2*i.toNat+1]?=some q/\E8 n s e i=some (decide (kQ r=tV p.aG+tV q.aG)):=by
  obtain ⟨p,q,w1,w2,w3,w4⟩:=aEG h hn ht hx hv
  obtain ⟨bL,g1,g2,g3,hes⟩:=h.bL hx
  have hlr:x.dH.length=s.bJ.cB.length:=hes.lr
  obtain ⟨i1,i2,i3,i4,i5,i6,i7,i8,i9,i10,i11⟩:=hes.roll r (fF (l:=x.dH) hr)
  unfold bQ at i1 i2 i3 i4 i5 i6 i7 i8 i9 i10 i11
  have t1:=ht.1;have t2:=ht.2
  refine ⟨p,q,w1,w2,eT ?_⟩
  unfold E8 aF0
  simp only [WT.run,bR]
  refine aT (λb=>b=false) (x_eq (q_in t1) (aD (bU (aD (aH (λh=>absurd h (by omega)) λ_=>bW t1.1 hx (aD (aF (decide_eq_false (by omega))))))))) λb hb=>?_
  subst hb
  refine bU (bW t1.1 hx (bW t2.1 hr ?_))
  refine bF (bF (bF (bF (bF (bF (bF (bF (bF (bF (x_eq w3 (aD (aF ?_))))))))))))
  rfl
theorem aRB {l:List Int} {n:Nat} (hn:66<n) (hl:l.length=17) (hw:∀ x∈l,bQ x):Ex (λr=>r.2.2=0/\r.1-r.2.1=dD l) (NW n l):=by
  unfold NW aF4
  simp only [WT.run,bR]
  refine aD (aH (λk=>absurd (by omega) k) λ_=>?_)
  refine aT (λ(r:(Int×Int)⊕(Int×Int×Int))=>∃ q,r=.inl q/\q.1-q.2=dD l)
    (fM (λ(v:Int×Int×Int)=>0<=v.2.2/\v.2.2<=17/\(0<=v.1/\v.1<=288230376151711744*v.2.2)/\(0<=v.2.1/\v.2.1<=288230376151711744*v.2.2)/\v.1-v.2.1+dD (l.drop v.2.2.toNat)=dD l) (λ(v:Int×Int×Int)=>17-v.2.2.toNat) ?_ (v:=(0,0,0)) ⟨by simp,by simp,by simp,by simp,by simp⟩ (by simp;omega)) λr hr=>?_
  · rintro ⟨d,c,i⟩ ⟨a1,a2,a3,a4,a5⟩
    simp only at a1 a2 a3 a4 a5
    refine bE (bE (aD (aH (λk=>?_) λk=>bK (bX ?_))))
    · have k:i<(l.length:Int):=k
      have hx:l[i.toNat]?=some (l[i.toNat]'(by omega)):=List.getElem?_eq_getElem (by omega)
      generalize l[i.toNat]'(by omega)=x at hx
      have e1:=QY hx
      have hin:=hw x (fF hx)
      have hin2:=hin
      unfold bQ at hin
      refine aT (λ(r:(Int×Int)⊕((Int×Int×Int)⊕((Int×Int)⊕(Int×Int×Int))))=>∃ q,r=.inl q/\(0<=q.1/\q.1<=288230376151711744*(i+1))/\(0<=q.2/\q.2<=288230376151711744*(i+1))/\q.1-q.2+dD (l.drop (i.toNat+1))=dD l) (bW a1 hx (x_eq (NU hin2) (aD (bU (bW a1 hx ?_))))) λr hr=>?_
      · refine aD (aH (λ_=>bW a1 hx (bF (bX ⟨_,rfl,by first | omega | (simp only;omega),by first | omega | (simp only;omega),by first | omega | (simp only;omega)⟩))) λ_=>bW a1 hx (bF (bX ⟨_,rfl,by first | omega | (simp only;omega),by first | omega | (simp only;omega),by first | omega | (simp only;omega)⟩)))
      · obtain ⟨q,rfl,q1,q2,q3⟩:=hr
        refine bY (bE (bF (bX ⟨⟨by first | omega | (simp only;omega),by first | omega | (simp only;omega),q1,q2,?_⟩,by first | omega | (simp only;omega)⟩)))
        show q.1-q.2+dD (l.drop (i+1).toNat)=dD l
        rw [show (i+1).toNat=i.toNat+1 by omega];exact q3
    · have k:¬ i<(l.length:Int):=k
      rw [List.drop_eq_nil_of_le (by omega)] at a5
      have:dD []=0:=rfl
      exact ⟨_,rfl,by first | omega | (simp only;omega)⟩
  · obtain ⟨q,rfl,q1⟩:=hr
    exact bY (bE (aF ⟨rfl,q1⟩))
theorem aP5 {s:aA} {n:Nat} (hn:66<n) {e:Int} {x:aP} (he:0<=e/\e<(s.bC.length:Int)) (hx:s.bC[e.toNat]?=some x) (hb:x.dK.length=17) (hw:∀ y∈x.dK,bQ y) (h0:dD x.dK=0):F5 n s e=some true:=by
  refine eT ?_
  unfold F5 ZR
  simp only [WT.run,bR]
  refine x_eq (q_in he) (aD (bU (bW he.1 hx (aT _ (aRB hn hb hw) λr hr=>?_))))
  exact aT (λb=>b=true) (aD (aH (λ_=>aD (aF (decide_eq_true (by have:=hr.2;omega)))) λk=>absurd hr.1 k)) λb hb=>aF hb
theorem aU0 {s:aA} {n:Nat} (hn:66<n) (h4:s.bC.length<=4) (hb:∀ x∈s.bC,x.dK.length=17/\bQ (bl x 13)/\bQ (bl x 14)):GM n s=some (decide (dZ kF s.bC=0)):=by
  refine eT ?_
  unfold GM aE2
  simp only [WT.run,bR]
  refine aT (λ(r:Int)=>r=dZ kF s.bC) (fM (λ(v:Int×Int)=>0<=v.2/\v.2<=(s.bC.length:Int)/\(-1152921504606846976*v.2<=v.1/\v.1<=1152921504606846976*v.2)/\v.1+dZ kF (s.bC.drop v.2.toNat)=dZ kF s.bC) (λ(v:Int×Int)=>s.bC.length-v.2.toNat) ?_ (v:=(0,0)) ⟨by simp,by simp,by simp,by simp⟩ (by simp;omega)) λr hr=>by subst hr;exact aD (aF rfl)
  rintro ⟨t,i⟩ ⟨a1,a2,a3,a4⟩
  simp only at a1 a2 a3 a4
  refine bE (aD (aH (λk=>?_) λk=>bK (aF ?_)))
  · have k:i<(s.bC.length:Int):=k
    have hx:s.bC[i.toNat]?=some (s.bC[i.toNat]'(by omega)):=List.getElem?_eq_getElem (by omega)
    generalize s.bC[i.toNat]'(by omega)=x at hx
    obtain ⟨b1,b2,b3⟩:=hb x (fF hx)
    unfold bQ at b2 b3
    have e1:=uR kF hx
    have eg:kF x=bl x 13+bl x 14:=rfl
    refine bW a1 hx (eF (by decide) (by omega) λu hu=>?_)
    have eu:bl x 13=u:=by have hu:x.dK[13]?=some u:=hu;unfold bl;rw [getD_at hu]
    refine bF (bW a1 hx (eF (by decide) (by omega) λw hw=>?_))
    have ew:bl x 14=w:=by have hw:x.dK[14]?=some w:=hw;unfold bl;rw [getD_at hw]
    refine bF (bF (bX ⟨⟨by first | omega | (simp only;omega),by first | omega | (simp only;omega),by first | omega | (simp only;omega),?_⟩,by first | omega | (simp only;omega)⟩))
    show t+u+w+dZ kF (s.bC.drop (i+1).toNat)=_
    rw [show (i+1).toNat=i.toNat+1 by omega];omega
  · have k:¬ i<(s.bC.length:Int):=k
    rw [List.drop_eq_nil_of_le (by omega)] at a4
    have:dZ kF ([]:List aP)=0:=rfl
    first | omega | (simp only;omega)
structure aYS (s:aA) (n:Nat) (e:Int):Prop where
  c:FJ n s e=some true
  a:GX n s e=some true
  w:HV n s e=some true
  d:FQ n s e=some true
  b:F5 n s e=some true
  r:∀ i,0<=i/\i<(s.bJ.cB.length:Int)->E8 n s e i=some true
theorem Inv.aTE {K:Int} {s:aA} (h:Inv K s) {n:Nat} (hn:66<n) {e:Int} (he:0<=e/\e<(s.bC.length:Int)):aYS s n e:=by
  obtain ⟨x,bL,hx,hm,hes,heb⟩:=h.see he
  have hsp:=h.ss
  have hsv:=heb.x.gU hes
  have hl:=hes.gU h.ss.toS0.gU.2.2
  have hlr:=hes.lr
  have c1:=CS hes 1 (by decide);have c11:=CS hes 11 (by decide)
  have b1:=c1;have b11:=c11;have b12:=CS hes 12 (by decide)
  unfold bQ at b1 b11 b12
  have ha:=h.acc _ _ hx;have hw:=h.way _ _ hx
  refine ⟨?_,?_,?_,?_,?_,?_⟩
  · rw [aNX hsp hn he hx hes.lb ⟨hes.sv0,hsv⟩,decide_eq_true heb.ctl]
  · rw [aL8 hn h.l1 (λr hr=>by obtain ⟨_,_,_,_,_,_,g,_⟩:=h.mK r hr;exact g.1) he hx hes.lb c1 (by omega),decide_eq_true ha]
  · rw [aZ6 hn h.l3 (λr hr=>by obtain ⟨_,_,_,_,g,_⟩:=h.nO r hr;exact g.1) he hx hes.lb (by omega),decide_eq_true hw]
  · rw [aU4 hn he hx hes.lb c11 hl.2.2.2.2 (λy hy=>(hes.BF y hy).1) (by have:=heb.qA;omega),decide_eq_true heb.qA]
  · exact aP5 hn he hx hes.lb hes.gK heb.rY
  · intro i hi
    have hr:x.dH[i.toNat]?=some (x.dH[i.toNat]'(by omega)):=List.getElem?_eq_getElem (by omega)
    generalize x.dH[i.toNat]'(by omega)=r at hr
    obtain ⟨p,q,w1,w2,w3⟩:=aOC hsp hn ⟨he,hi⟩ hx hr hsv
    rw [w3,decide_eq_true (heb.o6 _ r p q hr w1 w2)]
theorem Inv.aQN {K:Int} {s:aA} (h:Inv K s) {n:Nat} (hn:66<n):GM n s=some true:=by
  rw [aU0 hn h.ss.toS0.gU.1 ?_,decide_eq_true h.xZ]
  intro x hx
  obtain ⟨k,hk⟩:=List.getElem?_of_mem hx
  obtain ⟨bL,hm,_,_,hes⟩:=h.ss.bL hk
  exact ⟨hes.lb,CS hes 13 (by decide),CS hes 14 (by decide)⟩
theorem aJ8 {K:Int} {s:aA} (h:Inv K s) (hK:K<=1000000) {n:Nat} (hn:200<n):LH n s=some true:=by
  have hf:=h.ss.toS0.gU
  have hd:=h.zC;have hl:=h.len
  refine eT ?_
  unfold LH aA6
  simp only [WT.run,bR]
  refine aT (λb=>b=false) (x_eq (aC7 (by omega) h.jP) (aD (bU (aD (aH (λk=>absurd hl k) λ_=>x_eq (lC (by omega)) (aD (bU (x_eq (aV2 h (by omega)) (aD (aF rfl)))))))))) λb hb=>?_
  subst hb
  refine bU (aT (λ(r:Unit⊕Bool)=>r=.inl ()) (fM (λ(i:Int)=>0<=i/\i<=(s.bC.length:Int)) (λ(i:Int)=>s.bC.length-i.toNat) ?_ (v:=0) ⟨by simp,by simp⟩ (by simp;omega)) λr hr=>by subst hr;exact bY (aF rfl))
  rintro i ⟨h0,h1⟩
  refine aD (aH (λk=>?_) λ_=>bK (bX rfl))
  have hx:s.bC[i.toNat]?=some (s.bC[i.toNat]'(by omega)):=List.getElem?_eq_getElem (by omega)
  generalize s.bC[i.toNat]'(by omega)=x at hx
  obtain ⟨bL,hm,_,_,hes⟩:=h.ss.bL hx
  exact bW h0 hx (x_eq (aQG h.jP h0 hm (h.ent _ _ _ hx hm) (by omega)) (aD (bU (bF (bX ⟨⟨by omega,by omega⟩,by omega⟩)))))
theorem Inv.aIS {K:Int} {s:aA} (h:Inv K s) (hK:K<=1000000) {n:Nat} (hn:200<n):FF n s=some true:=by
  have hf:=h.ss.toS0.gU
  refine eT ?_
  unfold FF V3
  simp only [WT.run,bR]
  refine aT (λb=>b=false) (x_eq (aJ8 h hK hn) (aD (bU (x_eq (h.aQN (by omega)) (aD (aF rfl)))))) λb hb=>?_
  subst hb
  refine bU (aT (λ(r:Unit⊕Bool)=>r=.inl ()) (fM (λ(i:Int)=>0<=i/\i<=(s.bC.length:Int)) (λ(i:Int)=>s.bC.length-i.toNat) ?_ (v:=0) ⟨by simp,by simp⟩ (by simp;omega)) λr hr=>by subst hr;exact bY (aF rfl))
  rintro i ⟨h0,h1⟩
  refine aD (aH (λk=>?_) λ_=>bK (bX rfl))
  obtain ⟨c,a,w,d,b,r⟩:=h.aTE (n:=n) (by omega) (e:=i) ⟨h0,k⟩
  refine aT (λ(r:Unit⊕(Int⊕(Unit⊕Bool)))=>r=.inl ()) ?_ λr hr=>by subst hr;exact bY (bF (bX ⟨⟨by omega,by omega⟩,by omega⟩))
  refine aT (λb=>b=false) ?_ λb hb=>?_
  · simp only [c,a,w,d,b,Option.bind_some]
    exact ⟨_,rfl,rfl⟩
  · subst hb
    refine bU ?_
    refine aT (λ(r:Unit⊕(Unit⊕(Int⊕(Unit⊕Bool))))=>r=.inl ()) (fM (λ(j:Int)=>0<=j/\j<=(s.bJ.cB.length:Int)) (λ(j:Int)=>s.bJ.cB.length-j.toNat) ?_ (v:=0) ⟨by simp,by simp⟩ (by simp;omega)) λr hr=>by subst hr;exact bY (bX rfl)
    rintro j ⟨j0,j1⟩
    exact aD (aH (λk2=>x_eq (r j ⟨j0,k2⟩) (aD (bU (bF (bX ⟨⟨by omega,by omega⟩,by omega⟩))))) λ_=>bK (bX rfl))
end Go.Pv
