import Derived.Test.YtcnbfkppbaenbaaGreatOA70
set_option linter.unusedVariables false
set_option linter.unusedSimpArgs false
namespace Go.Pv
open Go.Proofs
set_option maxRecDepth 100000
set_option maxHeartbeats 1000000
theorem xB {v w q:Int} (hv:0<=v/\v<=288230376151711744):0<=pt v w q/\pt v w q<=v:=by
  by_cases h:q<1\/w<0\/w>q\/¬ bQ v
  · unfold pt;rw [if_pos h];omega
  · unfold pt;rw [if_neg h,if_neg (by omega)];exact rM (by omega) (by omega) (by omega)
theorem ZF {v w q:Int} (hv:bQ v):bQ (pt v w q)/\bQ (v-pt v w q):=by
  by_cases h:q<1\/w<0\/w>q\/¬ bQ v
  · unfold pt;rw [if_pos h];unfold bQ at *;omega
  · unfold pt;rw [if_neg h]
    by_cases h2:v<0
    · rw [if_pos h2]
      obtain ⟨g1,g2⟩:=rM (v:=-v) (q:=w) (n:=q) (by omega) (by omega) (by omega)
      unfold bQ at *;omega
    · rw [if_neg h2]
      obtain ⟨g1,g2⟩:=rM (v:=v) (q:=w) (n:=q) (by omega) (by omega) (by omega)
      unfold bQ at *;omega
theorem oG {α:Type} {P:α->Prop} {l:List α} {i:Nat} {x:α} (h:∀ r∈l,P r) (hx:P x):∀ r∈l.set i x,P r:=by
  intro r hr;rcases mem_set hr with rfl | hr
  · exact hx
  · exact h r hr
theorem aM0 {K:Int} {s:aA} {o:bK} {n:Nat} (hn:66<n) (h:Inv K s) (hq:-9223372036854775808<=o.aG/\o.aG<=288230376151711744) (ha:0<=o.bM/\o.bM<=288230376151711744):Ex (Kept K s) (IL n s o):=by
  unfold IL aD6
  simp only [WT.run,bS]
  refine aU _ (rE h o.E o.Item) λr hr=>?_
  repeat' with_reducible first | refine bE ?_ | refine dU ?_ | apply aF | apply bF | apply dY | apply dN | apply dV | apply dZ | apply d9 | apply dO | apply dW | apply dS | refine aI (λ_=>?_) λ_=>?_ | refine dJ (λ_=>?_) λ_=>?_ | apply dB | apply bW | apply cZ | apply bJ | apply aD
  · rename_i k;exact .inr ⟨k,rfl⟩
  · exact .inr ⟨by simp,rfl⟩
  rename_i k1 k2
  obtain ⟨ht,x,bL,hx,hm,ho⟩:=hr (by omega)
  have o0:=On.start hx hm ho
  refine aU _ (xQ hn h.ss (by omega)) λb hb=>?_
  refine aF (aI (λk=>aD (.inr ⟨k,rfl⟩)) λkz=>?_)
  rcases hb with ⟨_,hb⟩ | ⟨k,_⟩
  rotate_left
  · exact absurd k kz
  obtain ⟨f1,f2,f3,f4,f5,f6⟩:=hb.facts
  obtain ⟨x1,o1,p1,p2,p3⟩:=o0.wW hb
  repeat' with_reducible first | refine bE ?_ | refine dU ?_ | apply aF | apply bF | apply dY | apply dN | apply dV | apply dZ | apply d9 | apply dO | apply dW | apply dS | refine aI (λ_=>?_) λ_=>?_ | refine dJ (λ_=>?_) λ_=>?_ | apply dB | apply bW | apply cZ | apply bJ | apply aD
  refine aU _ (nY hn (o1.ss h.ss) (by simp)) λc hc=>?_
  refine aF (aI (λk=>aD (.inr ⟨k,rfl⟩)) λkz=>?_)
  rcases hc with ⟨_,hc⟩ | ⟨k,_⟩
  rotate_left
  · exact absurd k kz
  obtain ⟨x2,o2,q1,q2,q3⟩:=o1.oV hc (by simp [gB,fZ])
  refine aU _ (sU hn (o2.ss h.ss)) λd hd=>?_
  refine aF (aI (λk=>aD (.inr ⟨k,rfl⟩)) λkz=>?_)
  rcases hd with ⟨_,hd⟩ | ⟨k,_⟩
  rotate_left
  · exact absurd k kz
  obtain ⟨x3,o3,r1,r2⟩:=o2.uP hd
  obtain ⟨g1,g2,g3,g4,g5⟩:=o3.rc
  have hl1:=h.l2;have hlen:=h.len;have hth:=f1.1;have hth2:=f1.2
  have hnow:=ho.es.now;have hper:=h.jW.iN
  have hB:∀ a:Nat,a<17->bl x3 a=bl x a+eP [⟨3,o.bM⟩,⟨4,0-o.bM⟩,⟨5,b.2.1.Value⟩,⟨0,0-b.2.1.Value⟩] a:=λa ha=>by rw [mR r1,q1 a ha,mR p1]
  have b1:=hB 1 (by decide);have b12:=hB 12 (by decide);have b13:=hB 13 (by decide);have b14:=hB 14 (by decide)
  simp [gB,fZ] at b1 b12 b13 b14
  have lg:d.1.eF.length=s.eF.length:=by rw [g2]
  refine dD hth.1 hx ?_
  repeat' with_reducible first | refine bE ?_ | refine dU ?_ | apply aF | apply bF | apply dY | apply dN | apply dV | apply dZ | apply d9 | apply dO | apply dW | apply dS | refine aI (λ_=>?_) λ_=>?_ | refine dJ (λ_=>?_) λ_=>?_ | apply dB | apply bW | apply cZ | apply bJ | apply aD | refine dM ?_
  refine .inl ⟨rfl,?_⟩
  refine o3.inv h hx (by simp [gB,fZ];try omega) (sN (by simp [kM];try omega)) (by rw [g1];exact h.mD) ?_ (by rw [g3];exact h.nP) (by rw [g1];exact h.l1) (by rw [g2];simp;omega) (by rw [g3];exact h.l3) (by rw [g1];omega) (by intro f _;rw [g1]) (by rw [g3];omega) (by intro f _;rw [g3]) (by unfold kH;omega)
  rw [g2]
  refine mI h.mO ⟨by simp only;omega,hth2,f2,?_,?_,f4,f5,?_⟩
  all_goals (simp only at *;omega)
theorem aBB {s:aA} {i:Int} {y z:eZ} (h0:0<=i) (hz:s.eF[i.toNat]?=some z) (hl:s.eF.length<=40):CK s i y=some { s with eF:=s.eF.set i.toNat y }:=by
  refine fH ?_
  unfold CK aDZ
  simp only [WT.run,bS]
  exact dM (dD h0 hz (aF (aD rfl)))
theorem On.LV {s:aA} {e i c m k:Int} {bL:List Int} {t:aA} {x:aQ} {d:Int} {f:Nat->Int} {p q p':aH} (h:On s e.toNat bL t x d f) (hs:nT t e i c x m k p q) (hio:IO m p' q) {v:Int} (hv:tV p'.aW-tV p.aW=v) :
    ∃ x',On s e.toNat bL (qD t e i c x p') x' (d+v) (bump f i.toNat v)/\x'.dR=x.dR/\x'.fU=x.fU/\x'.dQ=x.dQ:=by
  have hlc:=hs.lc;have hth:=hs.th.2
  have hM:t.bH=s.bH:=by rw [h.eq];rfl
  rw [hM] at hth
  have g:=h.es.put (by omega) (by omega) (hs.es bL (by rw [hM];exact h.ms)).1 hs.qq hio
  exact ⟨{ x with bX:=x.bX.set (2*i.toNat+c.toNat) p' },h.set g (h.eb.put (p:=p) (p':=p') (by omega) hs.pp hv) rfl rfl,rfl,rfl,rfl⟩
theorem aHL {m q:Int} {p:aH} (h:PR m p) (hq:-9223372036854775808<=q/\q<=9223372036854775807) :
    Ex (λr=>(r.2=0/\PR m r.1/\r.1.aW=p.aW/\1<=q)\/(r.2≠0/\r.1=p)) (C9 p 0 q):=by
  suffices H:∀ k:Int,k=0->Ex (λr=>(r.2=0/\PR m r.1/\r.1.aW=p.aW/\1<=q)\/(r.2≠0/\r.1=p)) (C9 p k q) from H 0 rfl
  intro k hk
  have hl:=gV h.ly
  have h0:=h.p0;have h1:=h.p1;have h2:=h.p2;have h3:=h.sum
  unfold C9 aD4
  simp only [WT.run,bS]
  repeat' with_reducible first | refine bE ?_ | refine dU ?_ | apply aF | apply bF | apply dY | apply dN | apply dV | apply dZ | apply d9 | apply dO | apply dW | apply dS | refine aI (λ_=>?_) λ_=>?_ | refine dJ (λ_=>?_) λ_=>?_ | apply dB | apply bW | apply cZ | apply bJ | apply aD | refine dM ?_
  all_goals try exact .inr ⟨(λk=>nomatch k),rfl⟩
  all_goals try (exfalso;omega)
  all_goals (refine .inl ⟨rfl,⟨h.mt,h.ly,h.one,by first | omega | (simp only;omega),by first | omega | (simp only;omega),by first | omega | (simp only;omega),by first | omega | (simp only;omega),λk=>?_⟩,rfl,by omega⟩;have:=h.uQ k;simp only;omega)
theorem On.fin {K:Int} {s:aA} (hI:Inv K s) {e:Int} {bL:List Int} {t:aA} {x y:aQ} {d:Int} {f:Nat->Int} (h:On s e.toNat bL t y d f) (hx:s.bD[e.toNat]?=some x) (hd:d=0) (hf:∀ i,f i=0) {S:List eZ}
    (hS:∀ r∈S,pI s.bH r) (l2:S.length<=40) (b1:bl y 1=bl x 1) (b12:bl y 12=bl x 12) (b13:bl y 13=bl x 13) (b14:bl y 14=bl x 14):Inv K { t with eF:=S }:=by
  obtain ⟨g1,g2,g3,g4,g5⟩:=h.rc
  exact h.inv hI hx hd hf (by rw [g1];exact hI.mD) hS (by rw [g3];exact hI.nP) (by rw [g1];exact hI.l1) l2 (by rw [g3];exact hI.l3) (by rw [g1];omega) (by intro f _;rw [g1]) (by rw [g3];omega) (by intro f _;rw [g3]) (by unfold kH;omega)
theorem aNB {K:Int} {s:aA} {o:bK} {n:Nat} (hn:66<n) (h:Inv K s) (hq:0<=o.aG/\o.aG<=288230376151711744) (ha:0<=o.bM/\o.bM<=288230376151711744):Ex (Kept K s) (JN n s o):=by
  unfold JN YP
  simp only [WT.run,bS]
  repeat' with_reducible first | refine bE ?_ | refine dU ?_ | apply aF | apply bF | apply dY | apply dN | apply dV | apply dZ | apply d9 | apply dO | apply dW | apply dS | refine aI (λ_=>?_) λ_=>?_ | refine dJ (λ_=>?_) λ_=>?_ | apply dB | apply bW | apply cZ | apply bJ | apply aD
  all_goals try exact Or.inr ⟨by simp,rfl⟩
  rename_i k1 k2
  refine eT (by omega) (by omega) λz hz=>?_
  have hz:s.eF[o.Ref.toNat]?=some z:=hz
  obtain ⟨z1,z2,z3,z4,z5,z6,z7,z8⟩:=h.mO z (fE hz)
  refine aU _ (rE h z.eY z.Item) λr hr=>?_
  refine aF (aI (λk=>aD (.inr ⟨k,rfl⟩)) λkz=>?_)
  obtain ⟨ht,x,bL,hx,hm,ho⟩:=hr (by omega)
  have o0:=On.start hx hm ho
  have hl1:=h.l2
  refine bE (aF (aI (λ_=>aD (.inr ⟨by simp,rfl⟩)) λk3=>bE (bE ?_)))
  refine aU (λ_=>True) (fB (λ_=>dD ht.1.1 hx (aF (aD trivial))) λ_=>aD trivial) λw _=>fB (λ_=>?_) λ_=>?_
  · obtain ⟨x',m,k,p,p2,hs⟩:=h.ss.spot (c:=z.Loc) ht z3
    have hx':=hs.en;rw [hx] at hx';cases hx'
    refine x_eq (pX h.ss.toS0 ht z3 hx hs.pp) (aU _ (aHL hs.io.pp (by omega)) λb hb=>?_)
    refine aF (aI (λk=>aD (.inr ⟨k,rfl⟩)) λkz=>?_)
    rcases hb with ⟨_,hb⟩ | ⟨k,_⟩
    rotate_left
    · exact absurd k kz
    obtain ⟨b1,b2,b3⟩:=hb
    have hio:IO m b.1 p2:=⟨b1,hs.io.qq,by rw [b2];exact hs.io.sq,by rw [b2];exact hs.io.ss⟩
    obtain ⟨x1,o1,p1,_,_⟩:=o0.LV hs hio (v:=0) (by rw [b2];omega)
    refine x_eq (xK h.ss hs) (aU _ (nY hn (o1.ss h.ss) (by simp)) λc hc=>?_)
    refine aF (aI (λk=>aD (.inr ⟨k,rfl⟩)) λkz=>?_)
    rcases hc with ⟨_,hc⟩ | ⟨k,_⟩
    rotate_left
    · exact absurd k kz
    obtain ⟨x2,o2,q1,q2,q3⟩:=o1.oV hc (by simp [gB,fZ])
    obtain ⟨g1,g2,g3,g4,g5⟩:=o2.rc
    have hB:∀ a:Nat,a<17->bl x2 a=bl x a+eP [⟨4,o.bM⟩,⟨3,0-o.bM⟩] a:=λa ha=>by rw [q1 a ha,mR p1]
    have b1:=hB 1 (by decide);have b12:=hB 12 (by decide);have b13:=hB 13 (by decide);have b14:=hB 14 (by decide)
    simp [gB,fZ] at b1 b12 b13 b14
    refine x_eq (aBB (by omega) (by rw [g2];exact hz) (by rw [g2];exact hl1)) (aD (.inl ⟨rfl,?_⟩))
    refine o2.fin h hx (by simp [gB,fZ]) (by intro j;simp [bump]) ?_ (by rw [g2,List.length_set];exact hl1) b1 b12 b13 b14
    rw [g2]
    exact oG h.mO ⟨z1,z2,z3,z4,by simp only;omega,z6,z7,z8⟩
  · have hpc:=xB (w:=o.aG) (q:=z.aG-z.gP) z6
    have hpp:=ZF (w:=o.aG) (q:=z.aG-z.gP) z7
    refine x_eq (oJ hn (by omega) (by omega)) (x_eq (oJ hn (by omega) (by omega)) ?_)
    refine aU _ (DJ (l:=⟨o.aG,pt z.pR o.aG (z.aG-z.gP),pt z.bO o.aG (z.aG-z.gP)⟩) hn h.ss (by simp only;omega)) λb hb=>?_
    refine aF (aI (λk=>aD (.inr ⟨k,rfl⟩)) λkz=>?_)
    rcases hb with ⟨_,hb⟩ | ⟨k,_⟩
    rotate_left
    · exact absurd k kz
    obtain ⟨f1,f2,f3,f4,f5,f6,f7⟩:=hb.facts
    obtain ⟨x1,o1,p1,p2,p3⟩:=o0.brought hb
    repeat' with_reducible first | refine bE ?_ | refine dU ?_ | apply aF | apply bF | apply dY | apply dN | apply dV | apply dZ | apply d9 | apply dO | apply dW | apply dS | refine aI (λ_=>?_) λ_=>?_ | refine dJ (λ_=>?_) λ_=>?_ | apply dB | apply bW | apply cZ | apply bJ | apply aD | refine dM ?_
    refine aU _ (nY hn (o1.ss h.ss) (by simp)) λc hc=>?_
    refine aF (aI (λk=>aD (.inr ⟨k,rfl⟩)) λkz=>?_)
    rcases hc with ⟨_,hc⟩ | ⟨k,_⟩
    rotate_left
    · exact absurd k kz
    obtain ⟨x2,o2,q1,q2,q3⟩:=o1.oV hc (by simp [gB,fZ])
    refine aU _ (sU hn (o2.ss h.ss)) λd hd=>?_
    refine aF (aI (λk=>aD (.inr ⟨k,rfl⟩)) λkz=>?_)
    rcases hd with ⟨_,hd⟩ | ⟨k,_⟩
    rotate_left
    · exact absurd k kz
    obtain ⟨x3,o3,r1,r2⟩:=o2.uP hd
    obtain ⟨g1,g2,g3,g4,g5⟩:=o3.rc
    have hB:∀ a:Nat,a<17->bl x3 a=bl x a+eP [⟨4,o.bM⟩,⟨3,0-o.bM⟩,⟨0,b.2.1⟩,⟨6,b.2.2.1⟩,⟨5,0-pt z.pR o.aG (z.aG-z.gP)⟩] a:=λa ha=>by rw [mR r1,q1 a ha,mR p1];rfl
    have b1:=hB 1 (by decide);have b12:=hB 12 (by decide);have b13:=hB 13 (by decide);have b14:=hB 14 (by decide)
    simp [gB,fZ] at b1 b12 b13 b14
    unfold bQ at hpp z7
    repeat' with_reducible first | refine bE ?_ | refine dU ?_ | apply aF | apply bF | apply dY | apply dN | apply dV | apply dZ | apply d9 | apply dO | apply dW | apply dS | refine aI (λ_=>?_) λ_=>?_ | refine dJ (λ_=>?_) λ_=>?_ | apply dB | apply bW | apply cZ | apply bJ | apply aD | refine dM ?_
    refine x_eq (aBB (by omega) (by rw [g2];exact hz) (by rw [g2];exact hl1)) (aD (.inl ⟨rfl,?_⟩))
    refine o3.fin h hx (by simp [gB,fZ]) (sN (by simp [kM];try omega)) ?_ (by rw [g2,List.length_set];exact hl1) b1 b12 b13 b14
    rw [g2]
    refine oG h.mO ⟨z1,z2,z3,z4,by simp only;omega,by simp only;omega,?_,z8⟩
    unfold bQ;simp only;omega
theorem r16 {K:Int} {s:aA} {o:bK} {n:Nat} (hn:66<n) (h:Inv K s) (hq:0<=o.aG/\o.aG<=288230376151711744) (ha:0<=o.bM/\o.bM<=288230376151711744):Ex (Kept K s) (LM n s o):=by
  unfold LM aGR
  simp only [WT.run,bS]
  refine aF (aI (λ_=>aU _ (aM0 hn h (by omega) ha) λr hr=>aD hr) λ_=>aF (aI (λ_=>aU _ (aNB hn h hq ha) λr hr=>aD hr) λ_=>aD (.inr ⟨by simp,rfl⟩)))
theorem AB.ss {s t:aA} {e:Int} {l:List aN} (hs:SS s) (h:AB s e l t):SS t:=by
  obtain ⟨x,b,he,hx,hp,rfl⟩:=h
  exact hs.up hx λbL hm=>(hs.es _ _ _ hx hm).G8 hp.1 hp.2.1
theorem CG {s t:aA} {n:Nat} (hn:66<n) (h:SS t) {e i:Int} {l:List aN} {r:cO} (hl:l.length<=60):Ex (λq=>(q.2=0/\∃ u,AB t e l u/\GV u e i r q.1)\/(q.2≠0/\q.1=s)) (wK n s t e i l r):=by
  unfold wK ZU
  simp only [WT.run,bS]
  refine aU _ (nY hn h hl) λb hb=>?_
  refine aF (aI (λk=>aD (.inr ⟨k,rfl⟩)) λkz=>?_)
  rcases hb with ⟨_,hb⟩ | ⟨k,_⟩
  rotate_left
  · exact absurd k kz
  refine aU _ (sU hn (hb.ss h)) λd hd=>?_
  refine aF (aI (λk=>aD (.inr ⟨k,rfl⟩)) λkz=>?_)
  rcases hd with ⟨_,hd⟩ | ⟨k,_⟩
  rotate_left
  · exact absurd k kz
  exact aD (.inl ⟨rfl,_,hb,hd⟩)
theorem On.B4 {K:Int} {s:aA} (hI:Inv K s) {e i:Int} {bL:List Int} {t u w:aA} {x x0:aQ} {d:Int} {f:Nat->Int} {l:List aN} {r:cO} (h:On s e.toNat bL t x d f) (hx0:s.bD[e.toNat]?=some x0) (hb:x.dR=x0.dR) (hp:AB t e l u) (ht:GV u e i r w)
    (h0:d=eP l 0) (hf:∀ j,bump f i.toNat (-kM r) j=0) (h1:eP l 1=0) (h11:eP l 11=0) (h12:eP l 12=0) (h13:eP l 13=0) (h14:eP l 14=0):Inv K w:=by
  obtain ⟨x2,o2,q1,q2,q3⟩:=h.oV hp h11
  obtain ⟨x3,o3,r1,r2⟩:=o2.uP ht
  obtain ⟨g1,g2,g3,g4,g5⟩:=o3.rc
  have hB:∀ a:Nat,a<17->bl x3 a=bl x0 a+eP l a:=λa ha=>by rw [mR r1,q1 a ha,mR hb]
  have b1:=hB 1 (by decide);have b12:=hB 12 (by decide);have b13:=hB 13 (by decide);have b14:=hB 14 (by decide)
  have c1:bl x3 1=bl x0 1+eP l 1:=b1
  have c12:bl x3 12=bl x0 12+eP l 12:=b12
  have c13:bl x3 13=bl x0 13+eP l 13:=b13
  have c14:bl x3 14=bl x0 14+eP l 14:=b14
  have:=o3.fin hI hx0 (by omega) hf (S:=w.eF) (by rw [g2];exact hI.mO) (by rw [g2];exact hI.l2) (by omega) (by omega) (by omega) (by omega)
  exact this
theorem aIJ {K:Int} {s:aA} {o:bK} {n:Nat} {x:aQ} {bL:List Int} (hn:66<n) (h:Inv K s) (hq:0<=o.aG/\o.aG<=288230376151711744) (ht:gY s o.E o.Item) (hx:s.bD[o.E.toNat]?=some x) (hm:s.bH.Methods[o.E.toNat]?=some bL) (ho:EO s.bH bL x):Ex (Kept K s) (IS n s o):=by
  unfold IS WZ
  simp only [WT.run,bS]
  have o0:=On.start hx hm ho
  refine aU _ (xQ hn h.ss (by omega)) λb hb=>?_
  refine aF (aI (λk=>aD (.inr ⟨k,rfl⟩)) λkz=>?_)
  rcases hb with ⟨_,hb⟩ | ⟨k,_⟩
  rotate_left
  · exact absurd k kz
  obtain ⟨f1,f2,f3,f4,f5,f6⟩:=hb.facts
  obtain ⟨x1,o1,p1,p2,p3⟩:=o0.wW hb
  refine bE (aU _ (CG hn (o1.ss h.ss) (by simp)) λc hc=>aD ?_)
  rcases hc with ⟨z,u,hp,hu⟩ | hc
  · exact .inl ⟨z,o1.B4 h hx p1 hp hu (by simp [gB,fZ]) (sN (by simp [kM];try omega)) (by simp [gB,fZ]) (by simp [gB,fZ]) (by simp [gB,fZ]) (by simp [gB,fZ]) (by simp [gB,fZ])⟩
  · exact .inr hc
theorem aPT {K:Int} {s:aA} {o:bK} {n:Nat} {x:aQ} {bL:List Int} (hn:66<n) (h:Inv K s) (hq:0<=o.aG/\o.aG<=288230376151711744) (ht:gY s o.E o.Item) (hx:s.bD[o.E.toNat]?=some x) (hm:s.bH.Methods[o.E.toNat]?=some bL) (ho:EO s.bH bL x):Ex (Kept K s) (L8 n s o):=by
  unfold L8 aAT
  simp only [WT.run,bS]
  have o0:=On.start hx hm ho
  refine aU _ (xQ hn h.ss (by omega)) λb hb=>?_
  refine aF (aI (λk=>aD (.inr ⟨k,rfl⟩)) λkz=>?_)
  rcases hb with ⟨_,hb⟩ | ⟨k,_⟩
  rotate_left
  · exact absurd k kz
  obtain ⟨f1,f2,f3,f4,f5,f6⟩:=hb.facts
  obtain ⟨x1,o1,p1,p2,p3⟩:=o0.wW hb
  have hbq:b.2.1.aG<=9223372036854775807:=by
    obtain ⟨y,m,o,p,p2,p',hs,e1,hio,hc,h1,h2,h3⟩:=hb
    obtain ⟨c1,c2,c3,c4,c5,c6,c7⟩:=hc
    have b1:=gV c1.ly;have b2:=gV hs.io.pp.ly
    omega
  refine aU _ (DJ hn (o1.ss h.ss) hbq) λc hc=>?_
  refine aF (aI (λk=>aD (.inr ⟨k,rfl⟩)) λkz=>?_)
  rcases hc with ⟨_,hc⟩ | ⟨k,_⟩
  rotate_left
  · exact absurd k kz
  obtain ⟨g1,g2,g3,g4,g5,g6,g7⟩:=hc.facts
  obtain ⟨x2,o2,q1,q2,q3⟩:=o1.brought hc
  refine bE (bE (aU _ (CG hn (o2.ss h.ss) (by simp)) λd hd=>aD ?_))
  rcases hd with ⟨z,u,hp,hu⟩ | hd
  · refine .inl ⟨z,o2.B4 h hx (q1.trans p1) hp hu (by simp [gB,fZ];omega) ?_ (by simp [gB,fZ]) (by simp [gB,fZ]) (by simp [gB,fZ]) (by simp [gB,fZ]) (by simp [gB,fZ])⟩
    intro j;simp only [bump,kM];split <;> omega
  · exact .inr hd
theorem aUN {K:Int} {s:aA} {o:bK} {n:Nat} {x:aQ} {bL:List Int} (hn:66<n) (h:Inv K s) (hq:0<=o.aG/\o.aG<=288230376151711744) (hlc:0<=o.Loc/\o.Loc<=1) (ht:gY s o.E o.Item) (hx:s.bD[o.E.toNat]?=some x) (hm:s.bH.Methods[o.E.toNat]?=some bL) (ho:EO s.bH bL x):Ex (Kept K s) (JH n s o):=by
  unfold JH UL
  simp only [WT.run,bS]
  have o0:=On.start hx hm ho
  obtain ⟨x',m,k,p,p2,hs⟩:=h.ss.spot ht hlc
  have hx':=hs.en;rw [hx] at hx';cases hx'
  obtain ⟨ms',m1,m2⟩:=hs.ms
  obtain ⟨cs,c1,c2⟩:=hs.cs
  have hl:=gV hs.io.pp.ly
  have e0:=hs.io.pp.p0;have e1:=hs.io.pp.p1;have e2:=hs.io.pp.p2;have e3:=hs.io.pp.sum;have hkk:=hs.kk
  refine dD ht.1.1 m1 (dD ht.2.1 m2 (x_eq (pX h.ss.toS0 ht hlc hx hs.pp) (x_eq (aI9 hn hs.io.pp) ?_)))
  refine bE (aF (aI (λ_=>aD (.inl ⟨rfl,h⟩)) λk0=>aF (aI (λk1=>bE ?_) λk1=>?_)))
  · refine aU _ (xQ hn h.ss (by omega)) λb hb=>?_
    refine aF (aI (λk=>aD (.inr ⟨k,rfl⟩)) λkz=>?_)
    rcases hb with ⟨_,hb⟩ | ⟨k,_⟩
    rotate_left
    · exact absurd k kz
    obtain ⟨f1,f2,f3,f4,f5,f6⟩:=hb.facts
    obtain ⟨x1,o1,p1,p2,p3⟩:=o0.wW hb
    refine bE (aU _ (CG hn (o1.ss h.ss) (by simp)) λc hc=>aD ?_)
    rcases hc with ⟨z,u,hp,hu⟩ | hc
    · exact .inl ⟨z,o1.B4 h hx p1 hp hu (by simp [gB,fZ]) (sN (by simp [kM];try omega)) (by simp [gB,fZ]) (by simp [gB,fZ]) (by simp [gB,fZ]) (by simp [gB,fZ]) (by simp [gB,fZ])⟩
    · exact .inr hc
  · refine x_eq (xJ hn hs.io.pp.ly) ?_
    refine aF (aU (λ(r:Int×Int)=>0<=r.1/\r.1<=288230376151711744) ?_ λv hv=>?_)
    · refine fB (λ_=>dD ht.1.1 c1 (dD ht.2.1 c2 (x_eq (zA hn (by omega) (by omega) (by decide)) (aD ?_)))) λ_=>aF (aI (λ_=>x_eq (zA hn (by simp only;omega) (by omega) (by simp only;omega)) (aD ?_)) λ_=>aD (by decide))
      · have:=yN (o.aG-(tQ p.aW-p.bN.a0-p.bN.a1-p.bN.a2)) k 1;exact ⟨this.1,this.2.1⟩
      · have:=yN (tV p.aW) (o.aG-(tQ p.aW-p.bN.a0-p.bN.a1-p.bN.a2)) (tQ p.aW);exact ⟨this.1,this.2.1⟩
    · refine bF ?_
      refine aF (aI (λk=>aD (.inr ⟨k,rfl⟩)) λkz=>?_)
      refine aU _ (DJ (l:=⟨o.aG-(tQ p.aW-p.bN.a0-p.bN.a1-p.bN.a2),v.1,0⟩) hn h.ss (by simp only;omega)) λb hb=>?_
      refine aF (aI (λk=>aD (.inr ⟨k,rfl⟩)) λkz=>?_)
      rcases hb with ⟨_,hb⟩ | ⟨k,_⟩
      rotate_left
      · exact absurd k kz
      obtain ⟨f1,f2,f3,f4,f5,f6,f7⟩:=hb.facts
      obtain ⟨x1,o1,p1,p2,p3⟩:=o0.brought hb
      refine bE (bE (aU _ (CG hn (o1.ss h.ss) (by simp)) λc hc=>aD ?_))
      rcases hc with ⟨z,u,hp,hu⟩ | hc
      · exact .inl ⟨z,o1.B4 h hx p1 hp hu (by simp [gB,fZ]) (sN (by simp [kM];try omega)) (by simp [gB,fZ]) (by simp [gB,fZ]) (by simp [gB,fZ]) (by simp [gB,fZ]) (by simp [gB,fZ])⟩
      · exact .inr hc
theorem aMO {l:List aB} {c:Int} {n:Nat} (hn:66<n) (hl:LR l) (h1:l.length<=1):Ex (λr=>r.2.2=0->LR r.1/\r.1.length<=1/\tQ r.1=tQ l/\tV r.1=tV l+r.2.1/\tS r.1<=tS l/\(-288230376151711744<=r.2.1/\r.2.1<=288230376151711744)) (M7 n l c):=by
  have hb:=gV hl
  unfold M7 aFB
  simp only [WT.run,bS]
  repeat' with_reducible first | refine bE ?_ | refine dU ?_ | apply aF | apply bF | apply dY | apply dN | apply dV | apply dZ | apply d9 | apply dO | apply dW | apply dS | refine aI (λ_=>?_) λ_=>?_ | refine dJ (λ_=>?_) λ_=>?_ | apply dB | apply bW | apply cZ | apply bJ | apply aD
  · intro k;exact absurd k (by simp)
  · intro k;exact absurd k (by simp)
  · intro _;exact ⟨hl,h1,rfl,by simp,Int.le_refl _,by simp⟩
  rename_i k1 k2 k3
  refine x_eq (xI hn hl) (x_eq (M6 hn (by simp only;omega) (by omega)) ?_)
  have hm:=yN (tQ l) c 1
  repeat' with_reducible first | refine bE ?_ | refine dU ?_ | apply aF | apply bF | apply dY | apply dN | apply dV | apply dZ | apply d9 | apply dO | apply dW | apply dS | refine aI (λ_=>?_) λ_=>?_ | refine dJ (λ_=>?_) λ_=>?_ | apply dB | apply bW | apply cZ | apply bJ | apply aD
  · intro k;exact absurd k (by simp)
  intro _
  have e:ab (tP l)<=tS l:=by unfold ab;split <;> omega
  simp only
  refine ⟨Y7 (by omega) (by omega) (by unfold bQ;omega),by simp,by simp [tQ],by simp [tV];omega,by simp [tS];omega,by omega⟩
theorem aD2 (f:Nat->Int) (i:Nat) (a b:Int):bump (bump f i a) i b=bump f i (a+b):=by
  funext j;unfold bump;split <;> omega
def KD (m:fC) (e:Nat) (c:List Int):fC:={ m with gL:=m.gL.set e c }
def aBT (s:aA) (e:Nat) (c:List Int):aA:={ s with bH:=KD s.bH e c }
theorem pM.cost {m:fC} (h:pM m) {e:Nat} {c:List Int} (hc:c.length=m.bZ.length/\∀ x∈c,0<=x/\x<=1073741824):pM (KD m e c) :=
  ⟨h.vL,h.iN,h.n1,h.ZM,h.lm,by show ((m.gL.set e c).length:Int)=_;rw [List.length_set];exact h.lc,h.met,λl hl=>by rcases mem_set hl with rfl | hl;exact hc;exact h.cos l hl⟩
theorem Inv.cost {K:Int} {s:aA} (h:Inv K s) {e:Nat} {c:List Int} (hc:c.length=s.bH.bZ.length/\∀ x∈c,0<=x/\x<=1073741824):Inv K (aBT s e c) :=
  ⟨h.jW.cost hc,h.len,h.xS,h.mD,h.mO,h.nP,h.l1,h.l2,h.l3,λf x bL hx hm=>by
    rcases h.ent f x bL hx hm with g | ⟨y,g⟩
    · exact .inl ⟨g.es,g.ee,g.opn,g.lH⟩
    · exact .inr ⟨y,g.es,g.ee,g.LP,g.lH,⟨g.eo.es,g.eo.ee,g.eo.opn,g.eo.lH⟩,g.now,g.b1,g.b12,g.b13,g.b14⟩,h.acc,h.way,h.xD⟩
theorem On.cost {s:aA} {e g:Nat} {c:List Int} {bL:List Int} {t:aA} {x:aQ} {d:Int} {f:Nat->Int} (h:On s e bL t x d f):On (aBT s g c) e bL ⟨KD s.bH g c,t.bD,t.bY,t.eF,t.dL,t.Done⟩ x d f :=
  ⟨h.en,h.ms,by rw [h.eq];rfl,h.es,h.eb,h.opn,h.lH⟩
theorem aSA {K:Int} {s:aA} {o:bK} {n:Nat} {x:aQ} {bL:List Int} (hn:66<n) (h:Inv K s) (ha:0<=o.bM/\o.bM<=1073741824) (ht:gY s o.E o.Item) (hx:s.bD[o.E.toNat]?=some x) (hm:s.bH.Methods[o.E.toNat]?=some bL) (ho:EO s.bH bL x):Ex (Kept K s) (FU n s o):=by
  unfold FU aB4
  simp only [WT.run,bS]
  have o0:=On.start hx hm ho
  have hf:=h.ss.toS0.iC
  have hms:=(h.ss.bL hx)
  obtain ⟨mts',hm',hml,_,_⟩:=hms
  rw [hm] at hm';cases hm'
  obtain ⟨cs,hc,hcl,hcb⟩:=h.cst (e:=o.E.toNat) (by have:=ht.1;omega)
  have ht1:=ht.1;have ht2:=ht.2
  have hlc:=h.jW.lc;have hme:=h.jW.vL
  refine dD ht.1.1 hm (eT ht.2.1 (by omega) λm hmm=>?_)
  have hmm:bL[o.Item.toNat]?=some m:=hmm
  refine aF (aI (λ_=>aD (.inr ⟨by simp,rfl⟩)) λk4=>?_)
  have k4:m=4:=by omega
  refine aU (λ(r:(Int×aA)⊕(aA×Int))=>match r with | .inl r=>∃ x',On s o.E.toNat bL r.2 x' r.1 (bump (λ_=>0) o.Item.toNat r.1)/\x'.dR=x.dR/\(-576460752303423488<=r.1/\r.1<=576460752303423488) | .inr r=>r.2≠0/\r.1=s)
    (fJ (λ(v:Int×Int×aA)=>0<=v.2.1/\v.2.1<=2/\∃ x',On s o.E.toNat bL v.2.2 x' v.1 (bump (λ_=>0) o.Item.toNat v.1)/\x'.dR=x.dR/\(-288230376151711744*v.2.1<=v.1/\v.1<=288230376151711744*v.2.1)) (λ(v:Int×Int×aA)=>2-v.2.1.toNat) ?_ (v:=(0,0,s)) ?_ (by simp;omega)) λr hr=>iZ (λa e=>?_) λb e=>?_
  · rintro ⟨more,k,t⟩ ⟨h0,h1,x1,o1,p1,p2⟩
    simp only at h0 h1 o1 p2
    obtain ⟨g1,g2,g3,g4,g5⟩:=o1.rc
    refine bF (bF (aF (aI (λkk=>?_) λkk=>bJ (cK ⟨x1,o1,p1,by simp only;omega⟩))))
    have kk:k<2:=kk
    have htt:gY t o.E o.Item:=⟨⟨ht1.1,by rw [g5];exact ht1.2⟩,by rw [g4];exact ht2⟩
    obtain ⟨x',m',c',p,q,hs⟩:=(o1.ss h.ss).spot (c:=k) htt (by omega)
    have hx':=hs.en;rw [o1.at] at hx';cases hx'
    have hm4:=(hs.es bL (by rw [g4];exact hm)).1
    rw [hmm] at hm4;cases hm4
    refine x_eq (pX (c:=k) (o1.ss h.ss).toS0 htt (by omega) o1.at hs.pp) (aU _ (aMO hn hs.io.pp.ly (hs.io.pp.one (by omega))) λb hb=>?_)
    refine aF (aI (λk5=>bJ (bJ (aD ⟨k5,rfl⟩))) λk5=>?_)
    obtain ⟨b1,b2,b3,b4,b5,b6⟩:=hb (by omega)
    have hio:IO m ⟨b.1,p.bN⟩ q:=⟨IY hs.io.pp b1 (λ_=>b2) (by omega),hs.io.qq,by have:=hs.io.sq;simp only;omega,by have:=hs.io.ss;simp only;omega⟩
    obtain ⟨x2,o2,q1,_,_⟩:=o1.LV hs hio (v:=b.2.1) (by simp only;omega)
    rw [aD2] at o2
    refine x_eq (xK (o1.ss h.ss) hs) (gU (by simp only;omega) (gU (by simp only;omega) (cK ⟨⟨by simp only;omega,by simp only;omega,x2,o2,q1.trans p1,by simp only;omega⟩,by simp only;omega⟩)))
  · refine ⟨by simp,by simp,x,?_,rfl,by simp⟩
    have:bump (λ_=>0) o.Item.toNat 0=λ_=>0:=by funext j;unfold bump;simp
    simp only;rw [this];exact o0
  · subst e
    obtain ⟨x1,o1,p1,p2⟩:=hr
    obtain ⟨g1,g2,g3,g4,g5⟩:=o1.rc
    refine bF (dM (dD ht1.1 hc (dM (dD ht1.1 hc (eT ht2.1 (by omega) λ_ _=>aF (bE ?_))))))
    have hcs:(cs.set o.Item.toNat o.bM).length=s.bH.bZ.length/\∀ x∈cs.set o.Item.toNat o.bM,0<=x/\x<=1073741824:=⟨by rw [List.length_set];exact hcl,oG hcb ha⟩
    have o2:=o1.cost (g:=o.E.toNat) (c:=cs.set o.Item.toNat o.bM)
    have hI:=h.cost (e:=o.E.toNat) hcs
    have em:(⟨a.2.bH.gG,a.2.bH.gQ,a.2.bH.bZ,a.2.bH.Methods,s.bH.gL.set o.E.toNat (cs.set o.Item.toNat o.bM)⟩:fC)=KD s.bH o.E.toNat (cs.set o.Item.toNat o.bM):=by rw [g4];rfl
    rw [em]
    refine aU _ (CG hn (o2.ss hI.ss) (by simp)) λc hc=>aD ?_
    rcases hc with ⟨z,u,hp,hu⟩ | hc
    · exact .inl ⟨z,o2.B4 hI hx p1 hp hu (by simp [gB,fZ]) (sN (by simp [kM];try omega)) (by simp [gB,fZ]) (by simp [gB,fZ]) (by simp [gB,fZ]) (by simp [gB,fZ]) (by simp [gB,fZ])⟩
    · exact .inr hc
  · subst e;exact .inr hr
theorem r17 {K:Int} {s:aA} {o:bK} {n:Nat} (hn:66<n) (h:Inv K s) (hq:0<=o.aG/\o.aG<=288230376151711744) (ha:0<=o.bM/\(o.Kind=9->o.bM<=1073741824)) (hlc:o.Kind=7->0<=o.Loc/\o.Loc<=1):Ex (Kept K s) (H7 n s o):=by
  unfold H7 XH
  simp only [WT.run,bS]
  repeat' with_reducible first | refine bE ?_ | refine dU ?_ | apply aF | apply bF | apply dY | apply dN | apply dV | apply dZ | apply d9 | apply dO | apply dW | apply dS | refine aI (λ_=>?_) λ_=>?_ | refine dJ (λ_=>?_) λ_=>?_ | apply dB | apply bW | apply cZ | apply bJ | apply aD
  all_goals try exact Or.inr ⟨by simp,rfl⟩
  rename_i k1 k2
  refine aU _ (rE h o.E o.Item) λr hr=>?_
  refine aF (aI (λk=>aD (.inr ⟨k,rfl⟩)) λkz=>?_)
  obtain ⟨ht,x,bL,hx,hm,ho⟩:=hr (by omega)
  refine aF (aI (λk=>aU _ (aIJ hn h hq ht hx hm ho) λr hr=>aD hr) λk=>aF (aI (λk=>aU _ (aUN hn h hq (hlc k) ht hx hm ho) λr hr=>aD hr) λk=>aF (aI (λk=>aU _ (aPT hn h hq ht hx hm ho) λr hr=>aD hr) λk=>aU _ (aSA hn h ⟨ha.1,ha.2 (by omega)⟩ ht hx hm ho) λr hr=>aD hr)))
end Go.Pv
