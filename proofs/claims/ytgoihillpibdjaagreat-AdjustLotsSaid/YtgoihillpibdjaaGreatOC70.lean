import Derived.Test.YtgoihillpibdjaaGreatOA70
set_option linter.unusedVariables false
set_option linter.unusedSimpArgs false
namespace Go.Pv
open Go.Proofs
set_option maxRecDepth 100000
set_option maxHeartbeats 1000000
theorem zN {v w q:Int} (hv:0<=v/\v<=288230376151711744):0<=pt v w q/\pt v w q<=v:=by
  by_cases h:q<1\/w<0\/w>q\/¬ bQ v
  · unfold pt;rw [if_pos h];omega
  · unfold pt;rw [if_neg h,if_neg (by omega)];exact qZ (by omega) (by omega) (by omega)
theorem ZO {v w q:Int} (hv:bQ v):bQ (pt v w q)/\bQ (v-pt v w q):=by
  by_cases h:q<1\/w<0\/w>q\/¬ bQ v
  · unfold pt;rw [if_pos h];unfold bQ at *;omega
  · unfold pt;rw [if_neg h]
    by_cases h2:v<0
    · rw [if_pos h2]
      obtain ⟨g1,g2⟩:=qZ (v:=-v) (q:=w) (n:=q) (by omega) (by omega) (by omega)
      unfold bQ at *;omega
    · rw [if_neg h2]
      obtain ⟨g1,g2⟩:=qZ (v:=v) (q:=w) (n:=q) (by omega) (by omega) (by omega)
      unfold bQ at *;omega
theorem oC {α:Type} {P:α->Prop} {l:List α} {i:Nat} {x:α} (h:∀ r∈l,P r) (hx:P x):∀ r∈l.set i x,P r:=by
  intro r hr;rcases mem_set hr with rfl | hr
  · exact hx
  · exact h r hr
theorem aKT {K:Int} {s:aA} {o:bM} {n:Nat} (hn:66<n) (h:Inv K s) (hq:-9223372036854775808<=o.aI/\o.aI<=288230376151711744) (ha:0<=o.bO/\o.bO<=288230376151711744):Ex (Kept K s) (JL n s o):=by
  unfold JL aER
  simp only [WT.run,bR]
  refine aT _ (rQ h o.E o.Item) λr hr=>?_
  repeat' with_reducible first | refine bF ?_ | refine dP ?_ | apply aD | apply bE | apply dS | apply dI | apply dN | apply dR | apply dO | apply dL | apply dU | apply dQ | refine aH (λ_=>?_) λ_=>?_ | refine dG (λ_=>?_) λ_=>?_ | apply cO | apply bU | apply bY | apply bK | apply aF
  · rename_i k;exact .inr ⟨k,rfl⟩
  · exact .inr ⟨by simp,rfl⟩
  rename_i k1 k2
  obtain ⟨ht,x,bL,hx,hm,ho⟩:=hr (by omega)
  have o0:=On.start hx hm ho
  refine aT _ (uM hn h.ss (by omega)) λb hb=>?_
  refine aD (aH (λk=>aF (.inr ⟨k,rfl⟩)) λkz=>?_)
  rcases hb with ⟨_,hb⟩ | ⟨k,_⟩
  rotate_left
  · exact absurd k kz
  obtain ⟨f1,f2,f3,f4,f5,f6⟩:=hb.facts
  obtain ⟨x1,o1,p1,p2,p3⟩:=o0.vP hb
  repeat' with_reducible first | refine bF ?_ | refine dP ?_ | apply aD | apply bE | apply dS | apply dI | apply dN | apply dR | apply dO | apply dL | apply dU | apply dQ | refine aH (λ_=>?_) λ_=>?_ | refine dG (λ_=>?_) λ_=>?_ | apply cO | apply bU | apply bY | apply bK | apply aF
  refine aT _ (oP hn (o1.ss h.ss) (by simp)) λc hc=>?_
  refine aD (aH (λk=>aF (.inr ⟨k,rfl⟩)) λkz=>?_)
  rcases hc with ⟨_,hc⟩ | ⟨k,_⟩
  rotate_left
  · exact absurd k kz
  obtain ⟨x2,o2,q1,q2,q3⟩:=o1.sH hc (by simp [gH,gF])
  refine aT _ (sU hn (o2.ss h.ss)) λd hd=>?_
  refine aD (aH (λk=>aF (.inr ⟨k,rfl⟩)) λkz=>?_)
  rcases hd with ⟨_,hd⟩ | ⟨k,_⟩
  rotate_left
  · exact absurd k kz
  obtain ⟨x3,o3,r1,r2⟩:=o2.xM hd
  obtain ⟨g1,g2,g3,g4,g5⟩:=o3.rc
  have hl1:=h.l2;have hlen:=h.len;have hth:=f1.1;have hth2:=f1.2
  have hnow:=ho.es.now;have hper:=h.jP.iM
  have hB:∀ a:Nat,a<17->bl x3 a=bl x a+eD [⟨3,o.bO⟩,⟨4,0-o.bO⟩,⟨5,b.2.1.Value⟩,⟨0,0-b.2.1.Value⟩] a:=λa ha=>by rw [nI r1,q1 a ha,nI p1]
  have b1:=hB 1 (by decide);have b12:=hB 12 (by decide);have b13:=hB 13 (by decide);have b14:=hB 14 (by decide)
  simp [gH,gF] at b1 b12 b13 b14
  have lg:d.1.dY.length=s.dY.length:=by rw [g2]
  refine bW hth.1 hx ?_
  repeat' with_reducible first | refine bF ?_ | refine dP ?_ | apply aD | apply bE | apply dS | apply dI | apply dN | apply dR | apply dO | apply dL | apply dU | apply dQ | refine aH (λ_=>?_) λ_=>?_ | refine dG (λ_=>?_) λ_=>?_ | apply cO | apply bU | apply bY | apply bK | apply aF | refine dF ?_
  refine .inl ⟨rfl,?_⟩
  refine o3.inv h hx (by simp [gH,gF];try omega) (tJ (by simp [kQ];try omega)) (by rw [g1];exact h.mK) ?_ (by rw [g3];exact h.nO) (by rw [g1];exact h.l1) (by rw [g2];simp;omega) (by rw [g3];exact h.l3) (by rw [g1];omega) (by intro f _;rw [g1]) (by rw [g3];omega) (by intro f _;rw [g3]) (by unfold kF;omega)
  rw [g2]
  refine mQ h.nA ⟨by simp only;omega,hth2,f2,?_,?_,f4,f5,?_⟩
  all_goals (simp only at *;omega)
theorem aG3 {s:aA} {i:Int} {y z:eH} (h0:0<=i) (hz:s.dY[i.toNat]?=some z) (hl:s.dY.length<=40):D3 s i y=some { s with dY:=s.dY.set i.toNat y }:=by
  refine eT ?_
  unfold D3 XP
  simp only [WT.run,bR]
  exact dF (bW h0 hz (aD (aF rfl)))
theorem On.yZ {s:aA} {e i c m k:Int} {bL:List Int} {t:aA} {x:aP} {d:Int} {f:Nat->Int} {p q p':aQ} (h:On s e.toNat bL t x d f) (hs:mO t e i c x m k p q) (hio:IO m p' q) {v:Int} (hv:tV p'.aG-tV p.aG=v) :
    ∃ x',On s e.toNat bL (lI t e i c x p') x' (d+v) (bump f i.toNat v)/\x'.dK=x.dK/\x'.fO=x.fO/\x'.dH=x.dH:=by
  have hlc:=hs.lc;have hth:=hs.th.2
  have hM:t.bJ=s.bJ:=by rw [h.eq];rfl
  rw [hM] at hth
  have g:=h.es.put (by omega) (by omega) (hs.es bL (by rw [hM];exact h.ms)).1 hs.qq hio
  exact ⟨{ x with bS:=x.bS.set (2*i.toNat+c.toNat) p' },h.set g (h.eb.put (p:=p) (p':=p') (by omega) hs.pp hv) rfl rfl,rfl,rfl,rfl⟩
theorem aOU {m q:Int} {p:aQ} (h:PR m p) (hq:-9223372036854775808<=q/\q<=9223372036854775807) :
    Ex (λr=>(r.2=0/\PR m r.1/\r.1.aG=p.aG/\1<=q)\/(r.2≠0/\r.1=p)) (ED p 0 q):=by
  suffices H:∀ k:Int,k=0->Ex (λr=>(r.2=0/\PR m r.1/\r.1.aG=p.aG/\1<=q)\/(r.2≠0/\r.1=p)) (ED p k q) from H 0 rfl
  intro k hk
  have hl:=gN h.ly
  have h0:=h.p0;have h1:=h.p1;have h2:=h.p2;have h3:=h.sum
  unfold ED aB9
  simp only [WT.run,bR]
  repeat' with_reducible first | refine bF ?_ | refine dP ?_ | apply aD | apply bE | apply dS | apply dI | apply dN | apply dR | apply dO | apply dL | apply dU | apply dQ | refine aH (λ_=>?_) λ_=>?_ | refine dG (λ_=>?_) λ_=>?_ | apply cO | apply bU | apply bY | apply bK | apply aF | refine dF ?_
  all_goals try exact .inr ⟨(λk=>nomatch k),rfl⟩
  all_goals try (exfalso;omega)
  all_goals (refine .inl ⟨rfl,⟨h.mt,h.ly,h.one,by first | omega | (simp only;omega),by first | omega | (simp only;omega),by first | omega | (simp only;omega),by first | omega | (simp only;omega),λk=>?_⟩,rfl,by omega⟩;have:=h.sZ k;simp only;omega)
theorem On.fin {K:Int} {s:aA} (hI:Inv K s) {e:Int} {bL:List Int} {t:aA} {x y:aP} {d:Int} {f:Nat->Int} (h:On s e.toNat bL t y d f) (hx:s.bC[e.toNat]?=some x) (hd:d=0) (hf:∀ i,f i=0) {S:List eH}
    (hS:∀ r∈S,pU s.bJ r) (l2:S.length<=40) (b1:bl y 1=bl x 1) (b12:bl y 12=bl x 12) (b13:bl y 13=bl x 13) (b14:bl y 14=bl x 14):Inv K { t with dY:=S }:=by
  obtain ⟨g1,g2,g3,g4,g5⟩:=h.rc
  exact h.inv hI hx hd hf (by rw [g1];exact hI.mK) hS (by rw [g3];exact hI.nO) (by rw [g1];exact hI.l1) l2 (by rw [g3];exact hI.l3) (by rw [g1];omega) (by intro f _;rw [g1]) (by rw [g3];omega) (by intro f _;rw [g3]) (by unfold kF;omega)
theorem aSK {K:Int} {s:aA} {o:bM} {n:Nat} (hn:66<n) (h:Inv K s) (hq:0<=o.aI/\o.aI<=288230376151711744) (ha:0<=o.bO/\o.bO<=288230376151711744):Ex (Kept K s) (NK n s o):=by
  unfold NK aDY
  simp only [WT.run,bR]
  repeat' with_reducible first | refine bF ?_ | refine dP ?_ | apply aD | apply bE | apply dS | apply dI | apply dN | apply dR | apply dO | apply dL | apply dU | apply dQ | refine aH (λ_=>?_) λ_=>?_ | refine dG (λ_=>?_) λ_=>?_ | apply cO | apply bU | apply bY | apply bK | apply aF
  all_goals try exact Or.inr ⟨by simp,rfl⟩
  rename_i k1 k2
  refine eF (by omega) (by omega) λz hz=>?_
  have hz:s.dY[o.Ref.toNat]?=some z:=hz
  obtain ⟨z1,z2,z3,z4,z5,z6,z7,z8⟩:=h.nA z (fF hz)
  refine aT _ (rQ h z.fT z.Item) λr hr=>?_
  refine aD (aH (λk=>aF (.inr ⟨k,rfl⟩)) λkz=>?_)
  obtain ⟨ht,x,bL,hx,hm,ho⟩:=hr (by omega)
  have o0:=On.start hx hm ho
  have hl1:=h.l2
  refine bF (aD (aH (λ_=>aF (.inr ⟨by simp,rfl⟩)) λk3=>bF (bF ?_)))
  refine aT (λ_=>True) (eX (λ_=>bW ht.1.1 hx (aD (aF trivial))) λ_=>aF trivial) λw _=>eX (λ_=>?_) λ_=>?_
  · obtain ⟨x',m,k,p,p2,hs⟩:=h.ss.spot (c:=z.Loc) ht z3
    have hx':=hs.en;rw [hx] at hx';cases hx'
    refine x_eq (lU h.ss.toS0 ht z3 hx hs.pp) (aT _ (aOU hs.io.pp (by omega)) λb hb=>?_)
    refine aD (aH (λk=>aF (.inr ⟨k,rfl⟩)) λkz=>?_)
    rcases hb with ⟨_,hb⟩ | ⟨k,_⟩
    rotate_left
    · exact absurd k kz
    obtain ⟨b1,b2,b3⟩:=hb
    have hio:IO m b.1 p2:=⟨b1,hs.io.qq,by rw [b2];exact hs.io.sq,by rw [b2];exact hs.io.ss⟩
    obtain ⟨x1,o1,p1,_,_⟩:=o0.yZ hs hio (v:=0) (by rw [b2];omega)
    refine x_eq (uE h.ss hs) (aT _ (oP hn (o1.ss h.ss) (by simp)) λc hc=>?_)
    refine aD (aH (λk=>aF (.inr ⟨k,rfl⟩)) λkz=>?_)
    rcases hc with ⟨_,hc⟩ | ⟨k,_⟩
    rotate_left
    · exact absurd k kz
    obtain ⟨x2,o2,q1,q2,q3⟩:=o1.sH hc (by simp [gH,gF])
    obtain ⟨g1,g2,g3,g4,g5⟩:=o2.rc
    have hB:∀ a:Nat,a<17->bl x2 a=bl x a+eD [⟨4,o.bO⟩,⟨3,0-o.bO⟩] a:=λa ha=>by rw [q1 a ha,nI p1]
    have b1:=hB 1 (by decide);have b12:=hB 12 (by decide);have b13:=hB 13 (by decide);have b14:=hB 14 (by decide)
    simp [gH,gF] at b1 b12 b13 b14
    refine x_eq (aG3 (by omega) (by rw [g2];exact hz) (by rw [g2];exact hl1)) (aF (.inl ⟨rfl,?_⟩))
    refine o2.fin h hx (by simp [gH,gF]) (by intro j;simp [bump]) ?_ (by rw [g2,List.length_set];exact hl1) b1 b12 b13 b14
    rw [g2]
    exact oC h.nA ⟨z1,z2,z3,z4,by simp only;omega,z6,z7,z8⟩
  · have hpc:=zN (w:=o.aI) (q:=z.aI-z.iP) z6
    have hpp:=ZO (w:=o.aI) (q:=z.aI-z.iP) z7
    refine x_eq (qF hn (by omega) (by omega)) (x_eq (qF hn (by omega) (by omega)) ?_)
    refine aT _ (yS (l:=⟨o.aI,pt z.qH o.aI (z.aI-z.iP),pt z.bN o.aI (z.aI-z.iP)⟩) hn h.ss (by simp only;omega)) λb hb=>?_
    refine aD (aH (λk=>aF (.inr ⟨k,rfl⟩)) λkz=>?_)
    rcases hb with ⟨_,hb⟩ | ⟨k,_⟩
    rotate_left
    · exact absurd k kz
    obtain ⟨f1,f2,f3,f4,f5,f6,f7⟩:=hb.facts
    obtain ⟨x1,o1,p1,p2,p3⟩:=o0.brought hb
    repeat' with_reducible first | refine bF ?_ | refine dP ?_ | apply aD | apply bE | apply dS | apply dI | apply dN | apply dR | apply dO | apply dL | apply dU | apply dQ | refine aH (λ_=>?_) λ_=>?_ | refine dG (λ_=>?_) λ_=>?_ | apply cO | apply bU | apply bY | apply bK | apply aF | refine dF ?_
    refine aT _ (oP hn (o1.ss h.ss) (by simp)) λc hc=>?_
    refine aD (aH (λk=>aF (.inr ⟨k,rfl⟩)) λkz=>?_)
    rcases hc with ⟨_,hc⟩ | ⟨k,_⟩
    rotate_left
    · exact absurd k kz
    obtain ⟨x2,o2,q1,q2,q3⟩:=o1.sH hc (by simp [gH,gF])
    refine aT _ (sU hn (o2.ss h.ss)) λd hd=>?_
    refine aD (aH (λk=>aF (.inr ⟨k,rfl⟩)) λkz=>?_)
    rcases hd with ⟨_,hd⟩ | ⟨k,_⟩
    rotate_left
    · exact absurd k kz
    obtain ⟨x3,o3,r1,r2⟩:=o2.xM hd
    obtain ⟨g1,g2,g3,g4,g5⟩:=o3.rc
    have hB:∀ a:Nat,a<17->bl x3 a=bl x a+eD [⟨4,o.bO⟩,⟨3,0-o.bO⟩,⟨0,b.2.1⟩,⟨6,b.2.2.1⟩,⟨5,0-pt z.qH o.aI (z.aI-z.iP)⟩] a:=λa ha=>by rw [nI r1,q1 a ha,nI p1];rfl
    have b1:=hB 1 (by decide);have b12:=hB 12 (by decide);have b13:=hB 13 (by decide);have b14:=hB 14 (by decide)
    simp [gH,gF] at b1 b12 b13 b14
    unfold bQ at hpp z7
    repeat' with_reducible first | refine bF ?_ | refine dP ?_ | apply aD | apply bE | apply dS | apply dI | apply dN | apply dR | apply dO | apply dL | apply dU | apply dQ | refine aH (λ_=>?_) λ_=>?_ | refine dG (λ_=>?_) λ_=>?_ | apply cO | apply bU | apply bY | apply bK | apply aF | refine dF ?_
    refine x_eq (aG3 (by omega) (by rw [g2];exact hz) (by rw [g2];exact hl1)) (aF (.inl ⟨rfl,?_⟩))
    refine o3.fin h hx (by simp [gH,gF]) (tJ (by simp [kQ];try omega)) ?_ (by rw [g2,List.length_set];exact hl1) b1 b12 b13 b14
    rw [g2]
    refine oC h.nA ⟨z1,z2,z3,z4,by simp only;omega,by simp only;omega,?_,z8⟩
    unfold bQ;simp only;omega
theorem r16 {K:Int} {s:aA} {o:bM} {n:Nat} (hn:66<n) (h:Inv K s) (hq:0<=o.aI/\o.aI<=288230376151711744) (ha:0<=o.bO/\o.bO<=288230376151711744):Ex (Kept K s) (LU n s o):=by
  unfold LU YC
  simp only [WT.run,bR]
  refine aD (aH (λ_=>aT _ (aKT hn h (by omega) ha) λr hr=>aF hr) λ_=>aD (aH (λ_=>aT _ (aSK hn h hq ha) λr hr=>aF hr) λ_=>aF (.inr ⟨by simp,rfl⟩)))
theorem zY.ss {s t:aA} {e:Int} {l:List aS} (hs:SS s) (h:zY s e l t):SS t:=by
  obtain ⟨x,b,he,hx,hp,rfl⟩:=h
  exact hs.up hx λbL hm=>(hs.es _ _ _ hx hm).KU hp.1 hp.2.1
theorem EK {s t:aA} {n:Nat} (hn:66<n) (h:SS t) {e i:Int} {l:List aS} {r:cK} (hl:l.length<=60):Ex (λq=>(q.2=0/\∃ u,zY t e l u/\OM u e i r q.1)\/(q.2≠0/\q.1=s)) (qJ n s t e i l r):=by
  unfold qJ SQ
  simp only [WT.run,bR]
  refine aT _ (oP hn h hl) λb hb=>?_
  refine aD (aH (λk=>aF (.inr ⟨k,rfl⟩)) λkz=>?_)
  rcases hb with ⟨_,hb⟩ | ⟨k,_⟩
  rotate_left
  · exact absurd k kz
  refine aT _ (sU hn (hb.ss h)) λd hd=>?_
  refine aD (aH (λk=>aF (.inr ⟨k,rfl⟩)) λkz=>?_)
  rcases hd with ⟨_,hd⟩ | ⟨k,_⟩
  rotate_left
  · exact absurd k kz
  exact aF (.inl ⟨rfl,_,hb,hd⟩)
theorem On.G6 {K:Int} {s:aA} (hI:Inv K s) {e i:Int} {bL:List Int} {t u w:aA} {x x0:aP} {d:Int} {f:Nat->Int} {l:List aS} {r:cK} (h:On s e.toNat bL t x d f) (hx0:s.bC[e.toNat]?=some x0) (hb:x.dK=x0.dK) (hp:zY t e l u) (ht:OM u e i r w)
    (h0:d=eD l 0) (hf:∀ j,bump f i.toNat (-kQ r) j=0) (h1:eD l 1=0) (h11:eD l 11=0) (h12:eD l 12=0) (h13:eD l 13=0) (h14:eD l 14=0):Inv K w:=by
  obtain ⟨x2,o2,q1,q2,q3⟩:=h.sH hp h11
  obtain ⟨x3,o3,r1,r2⟩:=o2.xM ht
  obtain ⟨g1,g2,g3,g4,g5⟩:=o3.rc
  have hB:∀ a:Nat,a<17->bl x3 a=bl x0 a+eD l a:=λa ha=>by rw [nI r1,q1 a ha,nI hb]
  have b1:=hB 1 (by decide);have b12:=hB 12 (by decide);have b13:=hB 13 (by decide);have b14:=hB 14 (by decide)
  have c1:bl x3 1=bl x0 1+eD l 1:=b1
  have c12:bl x3 12=bl x0 12+eD l 12:=b12
  have c13:bl x3 13=bl x0 13+eD l 13:=b13
  have c14:bl x3 14=bl x0 14+eD l 14:=b14
  have:=o3.fin hI hx0 (by omega) hf (S:=w.dY) (by rw [g2];exact hI.nA) (by rw [g2];exact hI.l2) (by omega) (by omega) (by omega) (by omega)
  exact this
theorem aQ8 {K:Int} {s:aA} {o:bM} {n:Nat} {x:aP} {bL:List Int} (hn:66<n) (h:Inv K s) (hq:0<=o.aI/\o.aI<=288230376151711744) (ht:gM s o.E o.Item) (hx:s.bC[o.E.toNat]?=some x) (hm:s.bJ.Methods[o.E.toNat]?=some bL) (ho:EO s.bJ bL x):Ex (Kept K s) (wE n s o):=by
  unfold wE Q7
  simp only [WT.run,bR]
  have o0:=On.start hx hm ho
  refine aT _ (uM hn h.ss (by omega)) λb hb=>?_
  refine aD (aH (λk=>aF (.inr ⟨k,rfl⟩)) λkz=>?_)
  rcases hb with ⟨_,hb⟩ | ⟨k,_⟩
  rotate_left
  · exact absurd k kz
  obtain ⟨f1,f2,f3,f4,f5,f6⟩:=hb.facts
  obtain ⟨x1,o1,p1,p2,p3⟩:=o0.vP hb
  refine bF (aT _ (EK hn (o1.ss h.ss) (by simp)) λc hc=>aF ?_)
  rcases hc with ⟨z,u,hp,hu⟩ | hc
  · exact .inl ⟨z,o1.G6 h hx p1 hp hu (by simp [gH,gF]) (tJ (by simp [kQ];try omega)) (by simp [gH,gF]) (by simp [gH,gF]) (by simp [gH,gF]) (by simp [gH,gF]) (by simp [gH,gF])⟩
  · exact .inr hc
theorem aS0 {K:Int} {s:aA} {o:bM} {n:Nat} {x:aP} {bL:List Int} (hn:66<n) (h:Inv K s) (hq:0<=o.aI/\o.aI<=288230376151711744) (ht:gM s o.E o.Item) (hx:s.bC[o.E.toNat]?=some x) (hm:s.bJ.Methods[o.E.toNat]?=some bL) (ho:EO s.bJ bL x):Ex (Kept K s) (xK n s o):=by
  unfold xK OX
  simp only [WT.run,bR]
  have o0:=On.start hx hm ho
  refine aT _ (uM hn h.ss (by omega)) λb hb=>?_
  refine aD (aH (λk=>aF (.inr ⟨k,rfl⟩)) λkz=>?_)
  rcases hb with ⟨_,hb⟩ | ⟨k,_⟩
  rotate_left
  · exact absurd k kz
  obtain ⟨f1,f2,f3,f4,f5,f6⟩:=hb.facts
  obtain ⟨x1,o1,p1,p2,p3⟩:=o0.vP hb
  have hbq:b.2.1.aI<=9223372036854775807:=by
    obtain ⟨y,m,o,p,p2,p',hs,e1,hio,hc,h1,h2,h3⟩:=hb
    obtain ⟨c1,c2,c3,c4,c5,c6,c7⟩:=hc
    have b1:=gN c1.ly;have b2:=gN hs.io.pp.ly
    omega
  refine aT _ (yS hn (o1.ss h.ss) hbq) λc hc=>?_
  refine aD (aH (λk=>aF (.inr ⟨k,rfl⟩)) λkz=>?_)
  rcases hc with ⟨_,hc⟩ | ⟨k,_⟩
  rotate_left
  · exact absurd k kz
  obtain ⟨g1,g2,g3,g4,g5,g6,g7⟩:=hc.facts
  obtain ⟨x2,o2,q1,q2,q3⟩:=o1.brought hc
  refine bF (bF (aT _ (EK hn (o2.ss h.ss) (by simp)) λd hd=>aF ?_))
  rcases hd with ⟨z,u,hp,hu⟩ | hd
  · refine .inl ⟨z,o2.G6 h hx (q1.trans p1) hp hu (by simp [gH,gF];omega) ?_ (by simp [gH,gF]) (by simp [gH,gF]) (by simp [gH,gF]) (by simp [gH,gF]) (by simp [gH,gF])⟩
    intro j;simp only [bump,kQ];split <;> omega
  · exact .inr hd
theorem aXL {K:Int} {s:aA} {o:bM} {n:Nat} {x:aP} {bL:List Int} (hn:66<n) (h:Inv K s) (hq:0<=o.aI/\o.aI<=288230376151711744) (hlc:0<=o.Loc/\o.Loc<=1) (ht:gM s o.E o.Item) (hx:s.bC[o.E.toNat]?=some x) (hm:s.bJ.Methods[o.E.toNat]?=some bL) (ho:EO s.bJ bL x):Ex (Kept K s) (xL n s o):=by
  unfold xL UP
  simp only [WT.run,bR]
  have o0:=On.start hx hm ho
  obtain ⟨x',m,k,p,p2,hs⟩:=h.ss.spot ht hlc
  have hx':=hs.en;rw [hx] at hx';cases hx'
  obtain ⟨ms',m1,m2⟩:=hs.ms
  obtain ⟨cs,c1,c2⟩:=hs.cs
  have hl:=gN hs.io.pp.ly
  have e0:=hs.io.pp.p0;have e1:=hs.io.pp.p1;have e2:=hs.io.pp.p2;have e3:=hs.io.pp.sum;have hkk:=hs.kk
  refine bW ht.1.1 m1 (bW ht.2.1 m2 (x_eq (lU h.ss.toS0 ht hlc hx hs.pp) (x_eq (WJ hn hs.io.pp) ?_)))
  refine bF (aD (aH (λ_=>aF (.inl ⟨rfl,h⟩)) λk0=>aD (aH (λk1=>bF ?_) λk1=>?_)))
  · refine aT _ (uM hn h.ss (by omega)) λb hb=>?_
    refine aD (aH (λk=>aF (.inr ⟨k,rfl⟩)) λkz=>?_)
    rcases hb with ⟨_,hb⟩ | ⟨k,_⟩
    rotate_left
    · exact absurd k kz
    obtain ⟨f1,f2,f3,f4,f5,f6⟩:=hb.facts
    obtain ⟨x1,o1,p1,p2,p3⟩:=o0.vP hb
    refine bF (aT _ (EK hn (o1.ss h.ss) (by simp)) λc hc=>aF ?_)
    rcases hc with ⟨z,u,hp,hu⟩ | hc
    · exact .inl ⟨z,o1.G6 h hx p1 hp hu (by simp [gH,gF]) (tJ (by simp [kQ];try omega)) (by simp [gH,gF]) (by simp [gH,gF]) (by simp [gH,gF]) (by simp [gH,gF]) (by simp [gH,gF])⟩
    · exact .inr hc
  · refine x_eq (wG hn hs.io.pp.ly) ?_
    refine aD (aT (λ(r:Int×Int)=>0<=r.1/\r.1<=288230376151711744) ?_ λv hv=>?_)
    · refine eX (λ_=>bW ht.1.1 c1 (bW ht.2.1 c2 (x_eq (wY hn (by omega) (by omega) (by decide)) (aF ?_)))) λ_=>aD (aH (λ_=>x_eq (wY hn (by simp only;omega) (by omega) (by simp only;omega)) (aF ?_)) λ_=>aF (by decide))
      · have:=pF (o.aI-(tQ p.aG-p.bH.a0-p.bH.a1-p.bH.a2)) k 1;exact ⟨this.1,this.2.1⟩
      · have:=pF (tV p.aG) (o.aI-(tQ p.aG-p.bH.a0-p.bH.a1-p.bH.a2)) (tQ p.aG);exact ⟨this.1,this.2.1⟩
    · refine bE ?_
      refine aD (aH (λk=>aF (.inr ⟨k,rfl⟩)) λkz=>?_)
      refine aT _ (yS (l:=⟨o.aI-(tQ p.aG-p.bH.a0-p.bH.a1-p.bH.a2),v.1,0⟩) hn h.ss (by simp only;omega)) λb hb=>?_
      refine aD (aH (λk=>aF (.inr ⟨k,rfl⟩)) λkz=>?_)
      rcases hb with ⟨_,hb⟩ | ⟨k,_⟩
      rotate_left
      · exact absurd k kz
      obtain ⟨f1,f2,f3,f4,f5,f6,f7⟩:=hb.facts
      obtain ⟨x1,o1,p1,p2,p3⟩:=o0.brought hb
      refine bF (bF (aT _ (EK hn (o1.ss h.ss) (by simp)) λc hc=>aF ?_))
      rcases hc with ⟨z,u,hp,hu⟩ | hc
      · exact .inl ⟨z,o1.G6 h hx p1 hp hu (by simp [gH,gF]) (tJ (by simp [kQ];try omega)) (by simp [gH,gF]) (by simp [gH,gF]) (by simp [gH,gF]) (by simp [gH,gF]) (by simp [gH,gF])⟩
      · exact .inr hc
theorem VJ {l:List aB} {c:Int} {n:Nat} (hn:66<n) (hl:LR l) (h1:l.length<=1):Ex (λr=>r.2.2=0->LR r.1/\r.1.length<=1/\tQ r.1=tQ l/\tV r.1=tV l+r.2.1/\tS r.1<=tS l/\(-288230376151711744<=r.2.1/\r.2.1<=288230376151711744)) (vR n l c):=by
  have hb:=gN hl
  unfold vR U1
  simp only [WT.run,bR]
  repeat' with_reducible first | refine bF ?_ | refine dP ?_ | apply aD | apply bE | apply dS | apply dI | apply dN | apply dR | apply dO | apply dL | apply dU | apply dQ | refine aH (λ_=>?_) λ_=>?_ | refine dG (λ_=>?_) λ_=>?_ | apply cO | apply bU | apply bY | apply bK | apply aF
  · intro k;exact absurd k (by simp)
  · intro k;exact absurd k (by simp)
  · intro _;exact ⟨hl,h1,rfl,by simp,Int.le_refl _,by simp⟩
  rename_i k1 k2 k3
  refine x_eq (wM hn hl) (x_eq (BZ hn (by simp only;omega) (by omega)) ?_)
  have hm:=pF (tQ l) c 1
  repeat' with_reducible first | refine bF ?_ | refine dP ?_ | apply aD | apply bE | apply dS | apply dI | apply dN | apply dR | apply dO | apply dL | apply dU | apply dQ | refine aH (λ_=>?_) λ_=>?_ | refine dG (λ_=>?_) λ_=>?_ | apply cO | apply bU | apply bY | apply bK | apply aF
  · intro k;exact absurd k (by simp)
  intro _
  have e:ab (tP l)<=tS l:=by unfold ab;split <;> omega
  simp only
  refine ⟨aFD (by omega) (by omega) (by unfold bQ;omega),by simp,by simp [tQ],by simp [tV];omega,by simp [tS];omega,by omega⟩
theorem YT (f:Nat->Int) (i:Nat) (a b:Int):bump (bump f i a) i b=bump f i (a+b):=by
  funext j;unfold bump;split <;> omega
def JK (m:fG) (e:Nat) (c:List Int):fG:={ m with gB:=m.gB.set e c }
def aGN (s:aA) (e:Nat) (c:List Int):aA:={ s with bJ:=JK s.bJ e c }
theorem pG.cost {m:fG} (h:pG m) {e:Nat} {c:List Int} (hc:c.length=m.cB.length/\∀ x∈c,0<=x/\x<=1073741824):pG (JK m e c) :=
  ⟨h.vF,h.iM,h.n1,h.wei,h.lm,by show ((m.gB.set e c).length:Int)=_;rw [List.length_set];exact h.lc,h.met,λl hl=>by rcases mem_set hl with rfl | hl;exact hc;exact h.cos l hl⟩
theorem Inv.cost {K:Int} {s:aA} (h:Inv K s) {e:Nat} {c:List Int} (hc:c.length=s.bJ.cB.length/\∀ x∈c,0<=x/\x<=1073741824):Inv K (aGN s e c) :=
  ⟨h.jP.cost hc,h.len,h.zC,h.mK,h.nA,h.nO,h.l1,h.l2,h.l3,λf x bL hx hm=>by
    rcases h.ent f x bL hx hm with g | ⟨y,g⟩
    · exact .inl ⟨g.es,g.ee,g.opn,g.lF⟩
    · exact .inr ⟨y,g.es,g.ee,g.JN,g.lF,⟨g.eo.es,g.eo.ee,g.eo.opn,g.eo.lF⟩,g.now,g.b1,g.b12,g.b13,g.b14⟩,h.acc,h.way,h.xZ⟩
theorem On.cost {s:aA} {e g:Nat} {c:List Int} {bL:List Int} {t:aA} {x:aP} {d:Int} {f:Nat->Int} (h:On s e bL t x d f):On (aGN s g c) e bL ⟨JK s.bJ g c,t.bC,t.cZ,t.dY,t.dJ,t.Done⟩ x d f :=
  ⟨h.en,h.ms,by rw [h.eq];rfl,h.es,h.eb,h.opn,h.lF⟩
theorem aR0 {K:Int} {s:aA} {o:bM} {n:Nat} {x:aP} {bL:List Int} (hn:66<n) (h:Inv K s) (ha:0<=o.bO/\o.bO<=1073741824) (ht:gM s o.E o.Item) (hx:s.bC[o.E.toNat]?=some x) (hm:s.bJ.Methods[o.E.toNat]?=some bL) (ho:EO s.bJ bL x):Ex (Kept K s) (vW n s o):=by
  unfold vW UT
  simp only [WT.run,bR]
  have o0:=On.start hx hm ho
  have hf:=h.ss.toS0.gU
  have hms:=(h.ss.bL hx)
  obtain ⟨mts',hm',hml,_,_⟩:=hms
  rw [hm] at hm';cases hm'
  obtain ⟨cs,hc,hcl,hcb⟩:=h.cst (e:=o.E.toNat) (by have:=ht.1;omega)
  have ht1:=ht.1;have ht2:=ht.2
  have hlc:=h.jP.lc;have hme:=h.jP.vF
  refine bW ht.1.1 hm (eF ht.2.1 (by omega) λm hmm=>?_)
  have hmm:bL[o.Item.toNat]?=some m:=hmm
  refine aD (aH (λ_=>aF (.inr ⟨by simp,rfl⟩)) λk4=>?_)
  have k4:m=4:=by omega
  refine aT (λ(r:(Int×aA)⊕(aA×Int))=>match r with | .inl r=>∃ x',On s o.E.toNat bL r.2 x' r.1 (bump (λ_=>0) o.Item.toNat r.1)/\x'.dK=x.dK/\(-576460752303423488<=r.1/\r.1<=576460752303423488) | .inr r=>r.2≠0/\r.1=s)
    (fM (λ(v:Int×Int×aA)=>0<=v.2.1/\v.2.1<=2/\∃ x',On s o.E.toNat bL v.2.2 x' v.1 (bump (λ_=>0) o.Item.toNat v.1)/\x'.dK=x.dK/\(-288230376151711744*v.2.1<=v.1/\v.1<=288230376151711744*v.2.1)) (λ(v:Int×Int×aA)=>2-v.2.1.toNat) ?_ (v:=(0,0,s)) ?_ (by simp;omega)) λr hr=>jI (λa e=>?_) λb e=>?_
  · rintro ⟨more,k,t⟩ ⟨h0,h1,x1,o1,p1,p2⟩
    simp only at h0 h1 o1 p2
    obtain ⟨g1,g2,g3,g4,g5⟩:=o1.rc
    refine bE (bE (aD (aH (λkk=>?_) λkk=>bK (bX ⟨x1,o1,p1,by simp only;omega⟩))))
    have kk:k<2:=kk
    have htt:gM t o.E o.Item:=⟨⟨ht1.1,by rw [g5];exact ht1.2⟩,by rw [g4];exact ht2⟩
    obtain ⟨x',m',c',p,q,hs⟩:=(o1.ss h.ss).spot (c:=k) htt (by omega)
    have hx':=hs.en;rw [o1.at] at hx';cases hx'
    have hm4:=(hs.es bL (by rw [g4];exact hm)).1
    rw [hmm] at hm4;cases hm4
    refine x_eq (lU (c:=k) (o1.ss h.ss).toS0 htt (by omega) o1.at hs.pp) (aT _ (VJ hn hs.io.pp.ly (hs.io.pp.one (by omega))) λb hb=>?_)
    refine aD (aH (λk5=>bK (bK (aF ⟨k5,rfl⟩))) λk5=>?_)
    obtain ⟨b1,b2,b3,b4,b5,b6⟩:=hb (by omega)
    have hio:IO m ⟨b.1,p.bH⟩ q:=⟨yJ hs.io.pp b1 (λ_=>b2) (by omega),hs.io.qq,by have:=hs.io.sq;simp only;omega,by have:=hs.io.ss;simp only;omega⟩
    obtain ⟨x2,o2,q1,_,_⟩:=o1.yZ hs hio (v:=b.2.1) (by simp only;omega)
    rw [YT] at o2
    refine x_eq (uE (o1.ss h.ss) hs) (gL (by simp only;omega) (gL (by simp only;omega) (bX ⟨⟨by simp only;omega,by simp only;omega,x2,o2,q1.trans p1,by simp only;omega⟩,by simp only;omega⟩)))
  · refine ⟨by simp,by simp,x,?_,rfl,by simp⟩
    have:bump (λ_=>0) o.Item.toNat 0=λ_=>0:=by funext j;unfold bump;simp
    simp only;rw [this];exact o0
  · subst e
    obtain ⟨x1,o1,p1,p2⟩:=hr
    obtain ⟨g1,g2,g3,g4,g5⟩:=o1.rc
    refine bE (dF (bW ht1.1 hc (dF (bW ht1.1 hc (eF ht2.1 (by omega) λ_ _=>aD (bF ?_))))))
    have hcs:(cs.set o.Item.toNat o.bO).length=s.bJ.cB.length/\∀ x∈cs.set o.Item.toNat o.bO,0<=x/\x<=1073741824:=⟨by rw [List.length_set];exact hcl,oC hcb ha⟩
    have o2:=o1.cost (g:=o.E.toNat) (c:=cs.set o.Item.toNat o.bO)
    have hI:=h.cost (e:=o.E.toNat) hcs
    have em:(⟨a.2.bJ.gD,a.2.bJ.gP,a.2.bJ.cB,a.2.bJ.Methods,s.bJ.gB.set o.E.toNat (cs.set o.Item.toNat o.bO)⟩:fG)=JK s.bJ o.E.toNat (cs.set o.Item.toNat o.bO):=by rw [g4];rfl
    rw [em]
    refine aT _ (EK hn (o2.ss hI.ss) (by simp)) λc hc=>aF ?_
    rcases hc with ⟨z,u,hp,hu⟩ | hc
    · exact .inl ⟨z,o2.G6 hI hx p1 hp hu (by simp [gH,gF]) (tJ (by simp [kQ];try omega)) (by simp [gH,gF]) (by simp [gH,gF]) (by simp [gH,gF]) (by simp [gH,gF]) (by simp [gH,gF])⟩
    · exact .inr hc
  · subst e;exact .inr hr
theorem r17 {K:Int} {s:aA} {o:bM} {n:Nat} (hn:66<n) (h:Inv K s) (hq:0<=o.aI/\o.aI<=288230376151711744) (ha:0<=o.bO/\(o.Kind=9->o.bO<=1073741824)) (hlc:o.Kind=7->0<=o.Loc/\o.Loc<=1):Ex (Kept K s) (qB n s o):=by
  unfold qB R7
  simp only [WT.run,bR]
  repeat' with_reducible first | refine bF ?_ | refine dP ?_ | apply aD | apply bE | apply dS | apply dI | apply dN | apply dR | apply dO | apply dL | apply dU | apply dQ | refine aH (λ_=>?_) λ_=>?_ | refine dG (λ_=>?_) λ_=>?_ | apply cO | apply bU | apply bY | apply bK | apply aF
  all_goals try exact Or.inr ⟨by simp,rfl⟩
  rename_i k1 k2
  refine aT _ (rQ h o.E o.Item) λr hr=>?_
  refine aD (aH (λk=>aF (.inr ⟨k,rfl⟩)) λkz=>?_)
  obtain ⟨ht,x,bL,hx,hm,ho⟩:=hr (by omega)
  refine aD (aH (λk=>aT _ (aQ8 hn h hq ht hx hm ho) λr hr=>aF hr) λk=>aD (aH (λk=>aT _ (aXL hn h hq (hlc k) ht hx hm ho) λr hr=>aF hr) λk=>aD (aH (λk=>aT _ (aS0 hn h hq ht hx hm ho) λr hr=>aF hr) λk=>aT _ (aR0 hn h ⟨ha.1,ha.2 (by omega)⟩ ht hx hm ho) λr hr=>aF hr)))
end Go.Pv
